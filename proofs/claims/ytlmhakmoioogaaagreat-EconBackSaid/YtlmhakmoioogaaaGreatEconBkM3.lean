/-
  Short rules of the walk.
-/
import Derived.Test.YtlmhakmoioogaaaGreatEconBkM2
import Derived.MapKept
import Derived.Maps.RangeRun
set_option maxHeartbeats 16000000
set_option maxRecDepth 100000
set_option linter.unusedSimpArgs false
set_option linter.unusedVariables false
section
namespace Go.Sl
open Go.RowKit Go.Proofs Go.Proofs.YtlmhakmoioogaaaGreat
theorem frS{p p':Prop}(h:p')(e:p=p':=by(simp only[Act.put,fA,fB,fC,Nat.reduceAdd];rfl)):p:=e▸h
theorem j5{L L':List HP}{X:HP}(h:Take L X L':=by(focus((repeat(first|exact .head|apply Take.tail));done))):Take L X L':=h
theorem bu4{L L':List HP}{X:HP}(h:Take L X L':=by with_reducible (focus((repeat(first|exact .head|apply Take.tail));done))):Take L X L':=h
theorem db4{L L':List HP}{X Y:HP}(h:Upd L X Y L':=by(focus((repeat(first|exact Upd.head|apply Upd.tail));done))):Upd L X Y L':=h
theorem eX4{L:List HP}{X:HP}(h:Mem X L:=by with_reducible (focus((repeat(first|exact Mem.head|apply Mem.tail));done))):Mem X L:=h
theorem R9{L:List HP}{b off:Nat}{v:Value}(h:i9 L b off v:=by first|(focus((repeat(first|exact i9.here rfl|apply i9.there));done))|assumption):i9 L b off v:=h
theorem x9{L:List HP}{b off:Nat}{vs:List Value}(h:i8 L b off vs:=by first|(focus((repeat(first|exact i8.whole|apply i8.there));done))|assumption):i8 L b off vs:=h
theorem hc4{L:List HP}{b off:Nat}{v:Value}(h:i9 L b off v:=by first|exact i9.here rfl|exact i9.there (i9.here rfl)|exact i9.there (i9.there (i9.here rfl))|exact i9.there (i9.there (i9.there (i9.here rfl)))|exact i9.there (i9.there (i9.there (i9.there (i9.here rfl))))|exact i9.there (i9.there (i9.there (i9.there (i9.there (i9.here rfl)))))|exact i9.there (i9.there (i9.there (i9.there (i9.there (i9.there (i9.here rfl))))))|assumption):i9 L b off v:=h
theorem he4{L:List HP}{b off:Nat}{vs:List Value}(h:i8 L b off vs:=by first|exact i8.whole|exact i8.there i8.whole|exact i8.there (i8.there i8.whole)|exact i8.there (i8.there (i8.there i8.whole))|exact i8.there (i8.there (i8.there (i8.there i8.whole)))|exact i8.there (i8.there (i8.there (i8.there (i8.there i8.whole))))|exact i8.there (i8.there (i8.there (i8.there (i8.there (i8.there i8.whole)))))|assumption):i8 L b off vs:=h
theorem D5{L L':List HP}{X:HP}(h:Take L X L':=by first|exact Take.head|exact Take.tail Take.head|exact Take.tail (Take.tail Take.head)|exact Take.tail (Take.tail (Take.tail Take.head))|exact Take.tail (Take.tail (Take.tail (Take.tail Take.head)))|exact Take.tail (Take.tail (Take.tail (Take.tail (Take.tail Take.head))))|exact Take.tail (Take.tail (Take.tail (Take.tail (Take.tail (Take.tail Take.head)))))):Take L X L':=h
theorem hf4{L L':List HP}(h:Sel L L':=by(repeat' (first|(with_reducible first|exact Sel.done Suf.refl|exact Sel.done (Suf.tail Suf.refl)|exact Sel.done (Suf.tail (Suf.tail Suf.refl))|exact Sel.done (Suf.tail (Suf.tail (Suf.tail Suf.refl)))|(apply Sel.done;(focus((repeat(first|exact Suf.refl|apply Suf.tail));done))))|(refine Sel.cons (by exact bu4) ?_)))):Sel L L':=h
theorem St.s{W w:World}{L:List HP}(h:St W L w)(L':List HP)(s:Sel L L':=by exact hf4):St W L' w:=h.sel s
theorem esS{t e:TypeId}(h:C7 Tryz.prog t=some e:=by with_reducible first|exact Ty.e36|exact Ty.e46|exact Ty.e47|exact Ty.e48|exact Ty.e58|exact Ty.e62|exact Ty.e63|exact Ty.e91|exact Ty.e109|exact Ty.e151|exact Ty.e184|exact Ty.e185|exact Ty.e196|exact Ty.e218|exact Ty.e227|exact Ty.e247|exact Ty.e269|exact Ty.e277|exact Ty.e310):C7 Tryz.prog t=some e:=h
theorem rsS{e:TypeId}{r:Option Value×Nat×Nat}(h:F9 Tryz.prog e=some r:=by with_reducible first|exact Ty.r1|exact Ty.r3|exact Ty.r5|exact Ty.r9|exact Ty.r29|exact Ty.r40|exact Ty.r63|exact Ty.r94|exact Ty.r137|exact Ty.r140|exact Ty.r143|exact Ty.r166|exact Ty.r189|exact Ty.r217|exact Ty.r231|exact Ty.r251|exact Ty.r262|exact Ty.r273):F9 Tryz.prog e=some r:=h
theorem zsS{t:TypeId}{l:List Value}(h:B6 Tryz.prog t=some l:=by with_reducible first|exact Ty.z3|exact Ty.z26|exact Ty.z28|exact Ty.z29|exact Ty.z31|exact Ty.z35|exact Ty.z40|exact Ty.z87|exact Ty.z90|exact Ty.z94|exact Ty.z119|exact Ty.z166|exact Ty.z189|exact Ty.z207|exact Ty.z208|exact Ty.z231|exact Ty.z251):B6 Tryz.prog t=some l:=h
section
variable{ops:Array Oper}{Q:Exit->Act->World->Prop}{a a':Act}{w W:World}{L L' R:List HP}{rest:List Oper}{o:Oper}
theorem zl1{t:TypeId}{x:Operand}{b off:Nat}{v:Value}(hS:St W L w)(h:wpList Tryz.prog ops Q rest a' w)(ho:o.op=.load t x:=by with_reducible rfl)(hg:Region.wanted o (yielded ops a.tmps)=true:=by rfl)(hx:a.eval x=.pointer (some ⟨b,off,none⟩):=by rfl)
  (ht:Q9 Tryz.prog t=some false:=by decide +kernel) (hc:i9 L b off v:=by exact R9) (ha:a.put o.dst v=a':=by first|(simp only[Act.put,fA,fB,fC,Nat.reduceAdd];rfl)|rfl):wpList Tryz.prog ops Q (o::rest) a w:=
 UE7 hS ho hg hx ht hc (by rw[ha];exact h)
theorem zlN{t:TypeId}{x:Operand}{b off:Nat}{vs:List Value}(hS:St W L w)(h:wpList Tryz.prog ops Q rest a' w)(ho:o.op=.load t x:=by with_reducible rfl)(hg:Region.wanted o (yielded ops a.tmps)=true:=by rfl)(hx:a.eval x=.pointer (some ⟨b,off,none⟩):=by rfl)
  (ht:Q9 Tryz.prog t=some true:=by decide +kernel) (hc:i8 L b off vs:=by exact x9) (hn:I8 Tryz.prog t=some vs.length:=by kernel_rfl) (ha:a.put o.dst (.agg vs.toArray)=a':=by first|(simp only[Act.put,fA,fB,fC,Nat.reduceAdd];rfl)|rfl):wpList Tryz.prog ops Q (o::rest) a w:=
 UF7 hS ho hg hx ht hc hn (by rw[ha];exact h)
theorem zs1{t:TypeId}{x y:Operand}{b off:Nat}{l l':List Value}{T:TypeId}{v:Value}(hS:St W L w)(h:∀w',St W L' w'->wpList Tryz.prog ops Q rest a' w')(ho:o.op=.store t x y:=by with_reducible rfl)(hg:Region.wanted o (yielded ops a.tmps)=true:=by rfl)(hx:a.eval x=.pointer (some ⟨b,off,none⟩):=by rfl)
  (hy:a.eval y=v:=by focus((conv=>lhs;whnf);try rfl)) (hn:I8 Tryz.prog t=some 1:=by kernel_rfl) (hv:v.cells.toList=[v]:=by rfl) (h1:v.oneCell'=true:=by rfl) (hu:Upd L (blk b l T) (blk b l' T) L':=by exact db4) (hl:off<l.length:=by(simp only[jC,List.length_nil];omega)) (he:l.set off v=l':=by((simp only[List.set_cons_zero,List.set_cons_succ,E8]);rfl))
  (ha:a.put o.dst undef=a':=by first|(simp only[Act.put,fA,fB,fC,Nat.reduceAdd];rfl)|rfl):wpList Tryz.prog ops Q (o::rest) a w:=
 Hl7 hS ho hg hx hy hn hv h1 hu hl he (by rw[ha];exact h)
theorem zsN{t:TypeId}{x y:Operand}{b off:Nat}{l l' vs:List Value}{T:TypeId}(hS:St W L w)(h:∀w',St W L' w'->wpList Tryz.prog ops Q rest a' w')(ho:o.op=.store t x y:=by with_reducible rfl)(hg:Region.wanted o (yielded ops a.tmps)=true:=by rfl)(hx:a.eval x=.pointer (some ⟨b,off,none⟩):=by rfl)
  (hy:a.eval y=.agg vs.toArray:=by focus((conv=>lhs;whnf);try rfl)) (hn:I8 Tryz.prog t=some vs.length:=by kernel_rfl) (h1:vs.all (·.oneCell')=true:=by rfl) (hu:Upd L (blk b l T) (blk b l' T) L':=by exact db4) (hl:off+vs.length<=l.length:=by(simp only[jC,List.length_nil];omega)) (he:E8 l off vs=l':=by((simp only[List.set_cons_zero,List.set_cons_succ,E8]);rfl))
  (ha:a.put o.dst undef=a':=by first|(simp only[Act.put,fA,fB,fC,Nat.reduceAdd];rfl)|rfl):wpList Tryz.prog ops Q (o::rest) a w:=
 UG7 hS ho hg hx hy hn h1 hu hl he (by rw[ha];exact h)
theorem zbx{t:TypeId}{x:Operand}{v:Value}{l:List Value}{a':Nat->Act}(hS:St W L w)(h:∀b w',St W (blk b l t::L) w'->wpList Tryz.prog ops Q rest (a' b) w')(ho:o.op=.box t x:=by with_reducible rfl)(hg:Region.wanted o (yielded ops a.tmps)=true:=by rfl)(hx:a.eval x=v:=by rfl)(hv:v.cells=l.toArray:=by rfl)
  (ha:∀b,a.put o.dst (.P b)=a' b:=by(intro b;first|(simp only[Act.put,fA,fB,fC,Nat.reduceAdd];rfl)|rfl)):wpList Tryz.prog ops Q (o::rest) a w:=
 AH7 hS ho hg hx hv fun b w' h1=>by rw[ha];exact h b w' h1
theorem zal{t:TypeId}{l:List Value}{a':Nat->Act}(hS:St W L w)(h:∀b w',St W (blk b l t::L) w'->wpList Tryz.prog ops Q rest (a' b) w')(ho:o.op=.alloc t:=by with_reducible rfl)(hg:Region.wanted o (yielded ops a.tmps)=true:=by rfl)(hz:B6 Tryz.prog t=some l:=by exact zsS)
  (ha:∀b,a.put o.dst (.P b)=a' b:=by(intro b;first|(simp only[Act.put,fA,fB,fC,Nat.reduceAdd];rfl)|rfl)):wpList Tryz.prog ops Q (o::rest) a w:=
 Al7 hS ho hg hz fun b w' h1=>by rw[ha];exact h b w' h1
theorem zbs{t e n:TypeId}{z:Value}{k bytes:Nat}{xs:Array (Nat×Operand)}{parts:List (Nat×Value)}{l:List Value}{a':Nat->Act}(hS:St W L w)(h:∀b w',St W (blk b l e::L) w'->wpList Tryz.prog ops Q rest (a' b) w')(ho:o.op=.buildSlice t n xs:=by with_reducible rfl)(hg:Region.wanted o (yielded ops a.tmps)=true:=by rfl)
  (hx:(xs.map fun(i,x)=>(i,a.eval x))=parts.toArray:=by(simp only[fD,fI,fJ,Act.eval,fE,fF,fG,fH,fK];try rfl)) (ht:C7 Tryz.prog t=some e:=by exact esS) (hi:F9 Tryz.prog e=some (some z,k,bytes):=by exact rsS) (hz:z.cells.size=k:=by rfl) (hn:decide (n*k<=16777216)=true:=by rfl) (hp:aH4 k n parts=true:=by rfl) (hl:bt4 k (ae4 z n) parts=l:=by rfl)
  (ha:∀b,a.put o.dst (.S b n n)=a' b:=by(intro b;first|(simp only[Act.put,fA,fB,fC,Nat.reduceAdd];rfl)|rfl)):wpList Tryz.prog ops Q (o::rest) a w:=
 fj4 hS ho hg hx ht hi hz hn hp hl fun b w' h1=>by rw[ha];exact h b w' h1
theorem zap{s x:Operand}{t e:TypeId}{z:Value}{k bytes:Nat}{v xv:Value}{n m:Nat}{cs news:List Value}{a':Value->Act}(hS:St W L w)(h:∀v' w',St W (row v' k e (n+m) (cs++news)::R) w'->wpList Tryz.prog ops Q rest (a' v') w')(ho:o.op=.call { callee:=.builtin .append,args:=#[s,x],argTypes:=#[t,t] }:=by with_reducible rfl)
  (hg:Region.wanted o (yielded ops a.tmps)=true:=by rfl) (hs:a.eval s=v:=by rfl) (hx:a.eval x=xv:=by rfl) (ht:C7 Tryz.prog t=some e:=by exact esS) (hi:F9 Tryz.prog e=some (some z,k,bytes):=by exact rsS) (hz:z.cells.size=k:=by rfl) (hk:0<k:=by decide) (hu:Take L (row v k e n cs) R:=by exact j5)
  (hsrc:Src L xv m news:=by exact Src.mk i8.whole) (hl:news.length=m*k:=by(try rfl)) (h1:news.all (·.oneCell')=true:=by rfl) (h63:n+m<=maxLen) (hb:(n+m)*bytes<=140737488355328)
  (ha:∀v,a.put o.dst v=a' v:=by(intro v;first|(simp only[Act.put,fA,fB,fC,Nat.reduceAdd];rfl)|rfl)):wpList Tryz.prog ops Q (o::rest) a w:=
 Ae7 hS ho hg hs hx ht hi hz hk hu hsrc hl h1 h63 hb fun v w' h2=>by rw[ha];exact h v w' h2
end
section
variable{ops:Array Oper}{Q:Act->Prop}{a a':Act}{W:World}{L:List HP}{rest:List Oper}{o:Oper}
theorem zq1{t:TypeId}{x:Operand}{b off:Nat}{v:Value}(h:wpQuiet Tryz.prog ops (St W L) Q rest a')(ho:o.op=.load t x:=by with_reducible rfl)(hg:Region.wanted o (yielded ops a.tmps)=true:=by rfl)(hx:a.eval x=.pointer (some ⟨b,off,none⟩):=by rfl)(ht:Q9 Tryz.prog t=some false:=by decide +kernel)(hc:i9 L b off v:=by exact R9)
  (ha:a.put o.dst v=a':=by first|(simp only[Act.put,fA,fB,fC,Nat.reduceAdd];rfl)|rfl):wpQuiet Tryz.prog ops (St W L) Q (o::rest) a:=
 As7 ho hg hx ht hc (by rw[ha];exact h)
theorem zqN{t:TypeId}{x:Operand}{b off:Nat}{vs:List Value}(h:wpQuiet Tryz.prog ops (St W L) Q rest a')(ho:o.op=.load t x:=by with_reducible rfl)(hg:Region.wanted o (yielded ops a.tmps)=true:=by rfl)(hx:a.eval x=.pointer (some ⟨b,off,none⟩):=by rfl)(ht:Q9 Tryz.prog t=some true:=by decide +kernel)(hc:i8 L b off vs:=by exact x9)
  (hn:I8 Tryz.prog t=some vs.length:=by kernel_rfl) (ha:a.put o.dst (.agg vs.toArray)=a':=by first|(simp only[Act.put,fA,fB,fC,Nat.reduceAdd];rfl)|rfl):wpQuiet Tryz.prog ops (St W L) Q (o::rest) a:=
 ND7 ho hg hx ht hc hn (by rw[ha];exact h)
theorem zqn{x:Operand}{p:Addr}(h:wpQuiet Tryz.prog ops (St W L) Q rest a')(ho:o.op=.nilCheck x:=by with_reducible rfl)(hg:Region.wanted o (yielded ops a.tmps)=true:=by rfl)(hx:a.eval x=.pointer (some p):=by rfl)(ha:a.put o.dst (.pointer (some p))=a':=by first|(simp only[Act.put,fA,fB,fC,Nat.reduceAdd];rfl)|rfl):wpQuiet Tryz.prog ops (St W L) Q (o::rest) a:=
 UH7 ho hg hx (by rw[ha];exact h)
end
section
variable{W:World}{ops:Array Oper}{t:List Nat}{toks:List Tok}{fresh:Nat->Bool}{pin:Nat->Option Value}{Qf:Act->Prop}{nd:Nat->Value}{i:Nat}{o:Oper}{l:List Oper}{a a':Act}
theorem zcn{x:Operand}{p:Addr}(h:t8 Tryz.prog W ops t toks fresh pin Qf nd (i+1) l a')(hf:fresh i=false:=by rfl)(hn:ay4 toks i=true:=by kernel_rfl)(ho:o.op=.nilCheck x:=by with_reducible rfl)(hg:Region.wanted o (yielded ops a.tmps)=true:=by rfl)(hx:a.eval x=.pointer (some p):=by rfl)
  (ha:a.put o.dst (.pointer (some p))=a':=by first|(simp only[Act.put,fA,fB,fC,Nat.reduceAdd];rfl)|rfl):t8 Tryz.prog W ops t toks fresh pin Qf nd i (o::l) a:=
 UI7 hf hn ho hg hx (by rw[ha];exact h)
theorem zc1{ty:TypeId}{x:Operand}{b off:Nat}{v:Value}(h:t8 Tryz.prog W ops t toks fresh pin Qf nd (i+1) l a')(hf:fresh i=false:=by rfl)(hn:ay4 toks i=true:=by kernel_rfl)(ho:o.op=.load ty x:=by with_reducible rfl)(hg:Region.wanted o (yielded ops a.tmps)=true:=by rfl)(hx:a.eval x=.pointer (some ⟨b,off,none⟩):=by rfl)
  (ht:Q9 Tryz.prog ty=some false:=by decide +kernel) (hc:∀F,i9 (kpL toks t i nd++F) b off v:=by(intro F;exact hc4)) (ha:a.put o.dst v=a':=by first|(simp only[Act.put,fA,fB,fC,Nat.reduceAdd];rfl)|rfl):t8 Tryz.prog W ops t toks fresh pin Qf nd i (o::l) a:=
 SA7 hf hn ho hg hx ht hc (by rw[ha];exact h)
theorem zcN{ty:TypeId}{x:Operand}{b off:Nat}{vs:List Value}(h:t8 Tryz.prog W ops t toks fresh pin Qf nd (i+1) l a')(hf:fresh i=false:=by rfl)(hn:ay4 toks i=true:=by kernel_rfl)(ho:o.op=.load ty x:=by with_reducible rfl)(hg:Region.wanted o (yielded ops a.tmps)=true:=by rfl)(hx:a.eval x=.pointer (some ⟨b,off,none⟩):=by rfl)
  (ht:Q9 Tryz.prog ty=some true:=by decide +kernel) (hc:∀F,i8 (kpL toks t i nd++F) b off vs:=by(intro F;exact he4)) (hz:I8 Tryz.prog ty=some vs.length:=by kernel_rfl) (ha:a.put o.dst (.agg vs.toArray)=a':=by first|(simp only[Act.put,fA,fB,fC,Nat.reduceAdd];rfl)|rfl):t8 Tryz.prog W ops t toks fresh pin Qf nd i (o::l) a:=
 NK7 hf hn ho hg hx ht hc hz (by rw[ha];exact h)
theorem zca{ty:TypeId}{z:List Value}(h:t8 Tryz.prog W ops t toks fresh pin Qf nd (i+1) l a')(hf:fresh i=true:=by rfl)(ho:o.op=.alloc ty:=by with_reducible rfl)(hg:Region.wanted o (yielded ops a.tmps)=true:=by rfl)(hk:∀v,kpL toks t i (upd nd i v)=kpL toks t i nd:=by(intro _;rfl))(hz:B6 Tryz.prog ty=some z:=by exact zsS)(hc:cnL toks t i nd=[]:=by rfl)
  (hm:∀v,mdL toks i (upd nd i v)=[k8 v z ty]:=by(intro _;rfl)) (ha:a.put o.dst (nd i)=a':=by first|(simp only[Act.put,fA,fB,fC,Nat.reduceAdd];rfl)|rfl):t8 Tryz.prog W ops t toks fresh pin Qf nd i (o::l) a:=
 Qv7 hf ho hg hk hz hc hm (by rw[ha];exact h)
theorem zct{ty:TypeId}{x y:Operand}{pv v:Value}{z z' vs:List Value}{T:TypeId}(h:t8 Tryz.prog W ops t toks fresh pin Qf nd (i+1) l a')(hf:fresh i=false:=by rfl)(ho:o.op=.store ty x y:=by with_reducible rfl)(hg:Region.wanted o (yielded ops a.tmps)=true:=by rfl)(hx:a.eval x=pv:=by focus((conv=>lhs;whnf);try rfl))(hy:a.eval y=v:=by focus((conv=>lhs;whnf);try rfl))(hv:v.cells.toList=vs:=by focus((conv=>lhs;whnf);try rfl))
  (hn:I8 Tryz.prog ty=some vs.length:=by kernel_rfl) (h1:vs.all (·.oneCell')=true:=by rfl) (hc:cnL toks t i nd=[k8 pv z T]:=by rfl) (hl:0+vs.length<=z.length:=by(simp only[jC,List.length_nil];omega)) (he:E8 z 0 vs=z':=by rfl) (hm:mdL toks i nd=[k8 pv z' T]:=by rfl)
  (ha:a.put o.dst undef=a':=by first|(simp only[Act.put,fA,fB,fC,Nat.reduceAdd];rfl)|rfl):t8 Tryz.prog W ops t toks fresh pin Qf nd i (o::l) a:=
 Tf7 hf ho hg hx hy hv hn h1 hc hl he hm (by rw[ha];exact h)
theorem zcs{ty:TypeId}{x y:Operand}{v:Value}{b off:Nat}{z z' vs:List Value}{T:TypeId}(h:t8 Tryz.prog W ops t toks fresh pin Qf nd (i+1) l a')(hf:fresh i=false:=by rfl)(ho:o.op=.store ty x y:=by with_reducible rfl)(hg:Region.wanted o (yielded ops a.tmps)=true:=by rfl)(hx:a.eval x=.pointer (some ⟨b,off,none⟩):=by rfl)(hy:a.eval y=v:=by focus((conv=>lhs;whnf);try rfl))(hv:v.cells.toList=vs:=by focus((conv=>lhs;whnf);try rfl))
  (hn:I8 Tryz.prog ty=some vs.length:=by kernel_rfl) (h1:vs.all (·.oneCell')=true:=by rfl) (hc:cnL toks t i nd=[blk b z T]:=by rfl) (hl:off+vs.length<=z.length:=by(simp only[jC,List.length_nil];omega)) (he:E8 z off vs=z':=by rfl) (hm:mdL toks i nd=[blk b z' T]:=by rfl)
  (ha:a.put o.dst undef=a':=by first|(simp only[Act.put,fA,fB,fC,Nat.reduceAdd];rfl)|rfl):t8 Tryz.prog W ops t toks fresh pin Qf nd i (o::l) a:=
 dF4 hf ho hg hx hy hv hn h1 hc hl he hm (by rw[ha];exact h)
theorem zcv{f:FuncId}{xs:Array Operand}{ats:Array TypeId}{args:Array Value}{v:Value}(h:t8 Tryz.prog W ops t toks fresh pin Qf nd (i+1) l a')(hf:fresh i=false:=by rfl)(hp:pin i=some v:=by rfl)(hg:Region.wanted o (yielded ops a.tmps)=true:=by rfl)
  (ho:o.op=.call { callee:=.value (.func f),args:=xs,argTypes:=ats }:=by with_reducible rfl) (hb:ab4 Tryz.prog f=true:=by decide +kernel) (hx:xs.map a.eval=args:=by(simp only[fD,fI,fJ,Act.eval,fE,fF,fG,fH,fK];try rfl))
  (hs:∀F w,St W (cnL toks t i nd++(kpL toks t i nd++F)) w->Calls Tryz.prog f args w fun e w'=>e=.returned v/\St W (mdL toks i nd++(kpL toks t i nd++F)) w')
  (ha:a.put o.dst v=a':=by first|(simp only[Act.put,fA,fB,fC,Nat.reduceAdd];rfl)|rfl):t8 Tryz.prog W ops t toks fresh pin Qf nd i (o::l) a:=
 Qw7 hf hp hg ho hb hx hs (by rw[ha];exact h)
end
end Go.Sl
end
section
namespace Go.Proofs.YtlmhakmoioogaaaGreat
open Go.RowKit Go.Sl
structure Ord where
 id:Int
 who:ByteArray
 buy:Bool
 item:Int
 cnt:Int
 price:Int
def Ord.cells(o:Ord):List Value:=[.I o.id,.string o.who,.bool o.buy,.I o.item,.I o.cnt,.I o.price]
theorem Ord.len(o:Ord):o.cells.length=6:=rfl
structure Trd where
 buyer:ByteArray
 seller:ByteArray
 buy:Int
 sell:Int
 item:Int
 cnt:Int
 price:Int
 bid:Int
def Trd.cells(o:Trd):List Value:=[.string o.buyer,.string o.seller,.I o.buy,.I o.sell,.I o.item,.I o.cnt,.I o.price,.I o.bid]
def O9(a b:Int):Int:=if b<a then b else a
def af4(o s:Ord):Trd:=
 if s.buy then⟨s.who,o.who,s.id,o.id,o.item,O9 o.cnt s.cnt,s.price,s.price⟩else⟨o.who,s.who,o.id,s.id,o.item,O9 o.cnt s.cnt,s.price,o.price⟩
def T5(a b:Ord):Bool:=if a.price=b.price then decide (a.id<b.id)else(decide (a.price<b.price) != a.buy)
def aJ4(a b:Ord):Bool:=if b.buy then decide (a.price<=b.price)else decide (b.price<=a.price)
structure MayP(o:Ord):Prop where
 id0:1<=o.id
 id1:o.id<=1099511627776
 who0:1<=o.who.size
 who1:o.who.size<=16
 item0:1<=o.item
 item1:o.item<=3
 cnt0:1<=o.cnt
 cnt1:o.cnt<=1048576
 price0:1<=o.price
 price1:o.price<=1024
def P9(o:Ord):Bool:=decide (1<=o.id)&&decide (o.id<=1099511627776)&&decide (1<=o.who.size)&&decide (o.who.size<=16)&&decide (1<=o.item)&&decide (o.item<=3)&&decide (1<=o.cnt)&&decide (o.cnt<=1048576)&&decide (1<=o.price)&&decide (o.price<=1024)
theorem Ao7{o:Ord}:P9 o=true↔MayP o:=by simp only[P9,jB,decide_eq_true_eq];exact⟨fun⟨⟨⟨⟨⟨⟨⟨⟨⟨a,b⟩,c⟩,d⟩,e⟩,f⟩,g⟩,h⟩,i⟩,j⟩=>⟨a,b,c,d,e,f,g,h,i,j⟩,fun h=>⟨⟨⟨⟨⟨⟨⟨⟨⟨h.id0,h.id1⟩,h.who0⟩,h.who1⟩,h.item0⟩,h.item1⟩,h.cnt0⟩,h.cnt1⟩,h.price0⟩,h.price1⟩⟩
theorem SB7(v:Value)(w:World):(Instr.typeAssert (.iface 166 v) 20 166 false).run Tryz.prog w=.ok v w:=by kernel_rfl
theorem MC7(o s:Ord)(W w:World)(L:List HP)(hS:St W L w):
  Calls Tryz.prog 208 #[.agg o.cells.toArray,.agg s.cells.toArray] w fun e w'=>e=.returned (.agg (af4 o s).cells.toArray)/\St W L w':=by
 obtain⟨i,u,y,t,c,p⟩:=o;obtain⟨i',u',y',t',c',p'⟩:=s;simp only[Ord.cells];go_enter Tryz.func208,Tryz.ntmps208;go_wp2_with(first|refine zbx hS ?_;clear hS;intro b w hS|refine zal hS ?_;clear hS;intro b w hS)
 refine rf2 [0,0,0,0,13,31] (fun i=>i==2||i==3) [⟨some 2,some 4,fun nd=>k8 (nd 2) [.I 0,.string ⟨#[]⟩,.bool false,.I 0,.I 0,.I 0] 166⟩,⟨some 3,some 5,fun nd=>k8 (nd 3) [.I 0,.string ⟨#[]⟩,.bool false,.I 0,.I 0,.I 0] 166⟩,⟨some 4,none,fun nd=>k8 (nd 2) [.I i,.string u,.bool y,.I t,.I c,.I p] 166⟩,⟨some 5,none,fun nd=>k8 (nd 3) [.I i',.string u',.bool y',.I t',.I c',.I p'] 166⟩]
  [none,none,none] hS ?_
 intro nd;refine zcN ?_;refine zcN ?_;refine zca ?_;refine zca ?_;refine zct ?_;refine zct ?_;refine Ad7 ?_;clear hS;intro w hS;have hS:St W [k8 (nd 2) _ _,k8 (nd 3) _ _,_,_,_,sats L] w:=hS;generalize nd 2=v5 at *;generalize nd 3=v6 at *;have h1:=hS.ptr;clear hS;obtain⟨b5,rfl,hS⟩:=h1;replace hS:=hS.swap;have h1:=hS.ptr;clear hS;obtain⟨b6,rfl,hS⟩:=h1;replace hS:=hS.unpack [_,_,_,_,_];simp only[jK,jN]at hS
 cases y'
 ·go_wp2_with(first|refine zl1 hS ?_|refine zsN hS ?_;clear hS;intro w hS)
  all_goals
   (apply Au7;rfl;rfl;rfl;exact hS;decide +kernel;exact x9;kernel_rfl);exact⟨by simp[af4,Trd.cells,O9, *],hS.drop.drop.drop.drop.drop⟩
 ·go_wp2_with(first|refine zl1 hS ?_);refine rf2 [0,0,1,7] (fun i=>false) [⟨some 2,none,fun nd=>blk b5 [.I i',.string u',.bool true,.I t',.I c',.I p'] 166⟩,⟨some 3,none,fun nd=>blk b6 [.I i,.string u,.bool y,.I t,.I c,.I p] 166⟩] [some 3,some 2,none,none,none] hS ?_;intro nd;refine zcN ?_;refine zcN ?_;refine zcs ?_;refine zcs ?_;refine Ad7 ?_;clear hS;intro w hS;have hS:St W [blk b5 _ _,blk b6 _ _,_,_,_,sats L] w:=hS;replace hS:=hS.unpack [_,_,_,_,_];simp only[jK,jN]at hS;go_wp2_with(first|refine zl1 hS ?_|refine zsN hS ?_;clear hS;intro w hS)
  all_goals
   (apply Au7;rfl;rfl;rfl;exact hS;decide +kernel;exact x9;kernel_rfl);exact⟨by simp[af4,Trd.cells,O9, *],hS.drop.drop.drop.drop.drop⟩
theorem Gj7(o s:Ord)(W w:World)(L:List HP)(hS:St W L w):
  Calls Tryz.prog 205 #[.agg o.cells.toArray,.agg s.cells.toArray] w fun e w'=>e=.returned (.bool (aJ4 o s))/\St W L w':=by
 obtain⟨i,u,y,t,c,p⟩:=o;obtain⟨i',u',y',t',c',p'⟩:=s;simp only[Ord.cells];go_enter Tryz.func205,Tryz.ntmps205;go_wp2_with(first|refine zl1 hS ?_|refine zlN hS ?_|refine zsN hS ?_;clear hS;intro w hS|refine zbx hS ?_;clear hS;intro b w hS)
 all_goals go_ret
 all_goals exact⟨by simp[aJ4, *],hS.drop.drop⟩
theorem NL7(xs:List Ord)(junk:List Value)(g n cap i j:Nat)(hn:xs.length=n)(hi:i<xs.length)(hj:j<xs.length)(hcap:n<=cap)(hm:cap<=maxLen)(W w:World)(L:List HP)(hS:St W (blk g (xs.flatMap Ord.cells++junk) 166::L) w):
  Calls Tryz.prog 297 #[.S g n cap,.I i,.I j] w fun e w'=>e=.returned (.bool (T5 xs[i] xs[j]))/\St W (blk g (xs.flatMap Ord.cells++junk) 166::L) w':=by
 subst hn;unfold maxLen at hm;go_enter Tryz.func297,Tryz.ntmps297;go_wp2_with(fail)
 refine rf2 [0,0,3,7,0,0,48,112,0,0,783,2047] (fun i=>i==8||i==9) [⟨some 8,some 10,fun nd=>k8 (nd 8) [.I 0,.string ⟨#[]⟩,.bool false,.I 0,.I 0,.I 0] 166⟩,⟨some 9,some 11,fun nd=>k8 (nd 9) [.I 0,.string ⟨#[]⟩,.bool false,.I 0,.I 0,.I 0] 166⟩,⟨some 10,none,fun nd=>k8 (nd 8) xs[i].cells 166⟩,⟨some 11,none,fun nd=>k8 (nd 9) xs[j].cells 166⟩]
  [none] hS ?_
 intro nd;refine cR ?_;refine cR ?_;refine cR ?_;apply NK7;rfl;kernel_rfl;rfl;rfl;rfl;decide +kernel;intro F;exact i8.elem Ord.len hi;kernel_rfl;refine frS ?_;refine cR ?_;refine cR ?_;refine cR ?_;apply NK7;rfl;kernel_rfl;rfl;rfl;rfl;decide +kernel;intro F;exact i8.elem Ord.len hj;kernel_rfl;refine frS ?_;refine zca ?_;refine zca ?_;refine zct ?_;refine zct ?_;refine Ad7 ?_;clear hS;intro w hS;have hS:St W [k8 (nd 8) xs[i].cells _,k8 (nd 9) xs[j].cells _,_,sats L] w:=hS;generalize nd 8=v8 at *;generalize nd 9=v9 at *;have h1:=hS.ptr;clear hS;obtain⟨b8,rfl,hS⟩:=h1;replace hS:=hS.swap;have h1:=hS.ptr;clear hS;obtain⟨b9,rfl,hS⟩:=h1;replace hS:=hS.unpack [_,_,_];simp only[jK,jN]at hS;generalize ha:xs[i]=a at hS;generalize hb:xs[j]=b at hS;have Ha:=jH ha;have Hb:=jH hb;clear ha hb;obtain⟨i1,u1,y1,t1,c1,p1⟩:=a;obtain⟨i2,u2,y2,t2,c2,p2⟩:=b;simp only[Ord.cells]at hS;by_cases hp:p1=p2
 ·subst hp;go_wp2_with(first|refine zl1 hS ?_);go_ret;exact⟨by rw[Ha.out,Hb.out];simp[T5],hS.drop.drop⟩
 ·have hp':(p1==p2)=false:=by simpa using hp
  have hp'':(p1 != p2)=true:=by simpa using hp
  go_wp2_with(first|refine zl1 hS ?_);go_ret;exact⟨by rw[Ha.out,Hb.out];simp[T5,hp];cases decide (p1<p2) <;> cases y1 <;> rfl,hS.drop.drop⟩
theorem BM7{xs:List Ord}{i j:Nat}{hi:i<xs.length}{hj:j<xs.length}{b:Bool}(hb:T5 xs[i] xs[j]=b)(junk:List Value)(g n cap:Nat)(hn:xs.length=n)(hcap:n<=cap)(hm:cap<=maxLen)(W w:World)(L:List HP)(hS:St W (blk g (xs.flatMap Ord.cells++junk) 166::L) w):
  Calls Tryz.prog 297 #[.S g n cap,.I i,.I j] w fun e w'=>e=.returned (.bool b)/\St W (blk g (xs.flatMap Ord.cells++junk) 166::L) w':=by
 subst hb;exact NL7 xs junk g n cap i j hn hi hj hcap hm W w L hS
end Go.Proofs.YtlmhakmoioogaaaGreat
end
section
namespace Go.Sl
open Go.RowKit
section
variable{P:Program}{ops:Array Oper}{Q:Exit->Act->World->Prop}{a:Act}{w:World}{rest:List Oper}{o:Oper}
theorem AE7{t:TypeId}{x y:Operand}{u i v:Value}(ho:o.op=.index t x y)(hg:Region.wanted o (yielded ops a.tmps)=true)(hx:a.eval x=u)(hy:a.eval y=i)(hr:∀w:World,(Instr.index t u i).run P w=.ok v w)
  (h:wpList P ops Q rest (a.put o.dst v) w):wpList P ops Q (o::rest) a w:=by
 refine Aj7 hg (v:=v) (w':=w) ?_ h;unfold execOp;simp only[ho,hx,hy,Sem.run_bind,hr,Result.andThen_ok,Sem.run_pure]
end
end Go.Sl
namespace Go.Proofs.YtlmhakmoioogaaaGreat
open Go.RowKit Go.Sl
theorem U5(a0 a1 a2 a3:Value)(w:World):(Instr.index 29 (.agg #[a0,a1,a2,a3]) (.I 0)).run Tryz.prog w=.ok a0 w:=by kernel_rfl
theorem U6(a0 a1 a2 a3:Value)(w:World):(Instr.index 29 (.agg #[a0,a1,a2,a3]) (.I 1)).run Tryz.prog w=.ok a1 w:=by kernel_rfl
theorem U7(a0 a1 a2 a3:Value)(w:World):(Instr.index 29 (.agg #[a0,a1,a2,a3]) (.I 2)).run Tryz.prog w=.ok a2 w:=by kernel_rfl
theorem U8(a0 a1 a2 a3:Value)(w:World):(Instr.index 29 (.agg #[a0,a1,a2,a3]) (.I 3)).run Tryz.prog w=.ok a3 w:=by kernel_rfl
structure It where
 x0:Int
 x1:Int
 x2:Int
 x3:Int
def It.cells(i:It):List Value:=[.I i.x0,.I i.x1,.I i.x2,.I i.x3]
theorem It.len(i:It):i.cells.length=4:=rfl
def it0:It:=⟨0,0,0,0⟩
def inH(n:Int):Bool:=decide (0<=n)&&decide (n<=1152921504606846976)
theorem BP7{n:Int}:inH n=true↔0<=n/\n<=1152921504606846976:=by unfold inH;simp
theorem Db7{n:Int}(h:n<0):inH n=false:=by unfold inH;simp;omega
theorem Cn7{n:Int}(h:1152921504606846976<n):inH n=false:=by unfold inH;simp;omega
def x8(i:It):Bool:=inH i.x0&&(inH i.x1&&(inH i.x2&&inH i.x3))
def IsR(W:World)(L:List HP)(i:It)(v:Value)(w:World):Prop:=
 St W L w/\(v=.I 0\/(v=.I 1/\inH i.x0=true)\/(v=.I 2/\inH i.x0=true/\inH i.x1=true)\/(v=.I 3/\inH i.x0=true/\inH i.x1=true/\inH i.x2=true)\/(v=.I 4/\inH i.x0=true/\inH i.x1=true/\inH i.x2=true/\inH i.x3=true))
theorem NM7(i:It)(W w:World)(R:List HP)(hS:St W R w):
  Calls Tryz.prog 126 #[.agg i.cells.toArray] w fun e w'=>e=.returned (.bool (x8 i))/\St W R w':=by
 obtain⟨x0,x1,x2,x3⟩:=i;simp only[It.cells];go_enter Tryz.func126,Tryz.ntmps126;go_wp2_with(first|refine zlN hS ?_|refine zbx hS ?_;clear hS;intro b w hS)
 go_loopw [6] (fun v wr=>IsR W (blk b [.I x0,.I x1,.I x2,.I x3] 29::R) ⟨x0,x1,x2,x3⟩ v wr) (fun v _=>4-(intOf v).toNat)
 case atStart=>exact⟨hS,.inl rfl⟩
 case round=>
  clear hS;obtain⟨hS,hk⟩:=hrel;simp only at hk
  rcases hk with rfl|⟨rfl,q0⟩|⟨rfl,q0,q1⟩|⟨rfl,q0,q1,q2⟩|⟨rfl,q0,q1,q2,q3⟩
  ·skip
   by_cases h1:x0<0
   ·have hx:=Db7 h1;go_wp2_with(first|(with_reducible apply AE7);rfl;rfl;rfl;rfl;(first|exact U5 _ _ _ _|exact U6 _ _ _ _|exact U7 _ _ _ _|exact U8 _ _ _ _);refine frS ?_);go_ret;refine⟨by simp only[x8,hx,Bool.false_and,Bool.and_false,hx];rfl,hS.drop⟩
   ·have d1:decide (x0<0)=false:=by simpa using h1
    by_cases h2:1152921504606846976<x0
    ·have hx:=Cn7 h2;go_wp2_with(first|(with_reducible apply AE7);rfl;rfl;rfl;rfl;(first|exact U5 _ _ _ _|exact U6 _ _ _ _|exact U7 _ _ _ _|exact U8 _ _ _ _);refine frS ?_);go_ret;refine⟨by simp only[x8,hx,Bool.false_and,Bool.and_false,hx];rfl,hS.drop⟩
    ·have d2:decide (1152921504606846976<x0)=false:=by simpa using h2
     have hx:inH x0=true:=BP7.2 ⟨by omega,by omega⟩;clear h1 h2;go_wp2_with(first|(with_reducible apply AE7);rfl;rfl;rfl;rfl;(first|exact U5 _ _ _ _|exact U6 _ _ _ _|exact U7 _ _ _ _|exact U8 _ _ _ _);refine frS ?_);go_roundw
     case rel=>exact⟨hS,.inr (.inl ⟨rfl,hx⟩)⟩
     case measure=>simp[intOf]
  ·skip
   by_cases h1:x1<0
   ·have hx:=Db7 h1;go_wp2_with(first|(with_reducible apply AE7);rfl;rfl;rfl;rfl;(first|exact U5 _ _ _ _|exact U6 _ _ _ _|exact U7 _ _ _ _|exact U8 _ _ _ _);refine frS ?_);go_ret;refine⟨by simp only[x8,hx,Bool.false_and,Bool.and_false,q0];rfl,hS.drop⟩
   ·have d1:decide (x1<0)=false:=by simpa using h1
    by_cases h2:1152921504606846976<x1
    ·have hx:=Cn7 h2;go_wp2_with(first|(with_reducible apply AE7);rfl;rfl;rfl;rfl;(first|exact U5 _ _ _ _|exact U6 _ _ _ _|exact U7 _ _ _ _|exact U8 _ _ _ _);refine frS ?_);go_ret;refine⟨by simp only[x8,hx,Bool.false_and,Bool.and_false,q0];rfl,hS.drop⟩
    ·have d2:decide (1152921504606846976<x1)=false:=by simpa using h2
     have hx:inH x1=true:=BP7.2 ⟨by omega,by omega⟩;clear h1 h2;go_wp2_with(first|(with_reducible apply AE7);rfl;rfl;rfl;rfl;(first|exact U5 _ _ _ _|exact U6 _ _ _ _|exact U7 _ _ _ _|exact U8 _ _ _ _);refine frS ?_);go_roundw
     case rel=>exact⟨hS,.inr (.inr (.inl ⟨rfl,q0,hx⟩))⟩
     case measure=>simp[intOf]
  ·skip
   by_cases h1:x2<0
   ·have hx:=Db7 h1;go_wp2_with(first|(with_reducible apply AE7);rfl;rfl;rfl;rfl;(first|exact U5 _ _ _ _|exact U6 _ _ _ _|exact U7 _ _ _ _|exact U8 _ _ _ _);refine frS ?_);go_ret;refine⟨by simp only[x8,hx,Bool.false_and,Bool.and_false,q0];rfl,hS.drop⟩
   ·have d1:decide (x2<0)=false:=by simpa using h1
    by_cases h2:1152921504606846976<x2
    ·have hx:=Cn7 h2;go_wp2_with(first|(with_reducible apply AE7);rfl;rfl;rfl;rfl;(first|exact U5 _ _ _ _|exact U6 _ _ _ _|exact U7 _ _ _ _|exact U8 _ _ _ _);refine frS ?_);go_ret;refine⟨by simp only[x8,hx,Bool.false_and,Bool.and_false,q0];rfl,hS.drop⟩
    ·have d2:decide (1152921504606846976<x2)=false:=by simpa using h2
     have hx:inH x2=true:=BP7.2 ⟨by omega,by omega⟩;clear h1 h2;go_wp2_with(first|(with_reducible apply AE7);rfl;rfl;rfl;rfl;(first|exact U5 _ _ _ _|exact U6 _ _ _ _|exact U7 _ _ _ _|exact U8 _ _ _ _);refine frS ?_);go_roundw
     case rel=>exact⟨hS,.inr (.inr (.inr (.inl ⟨rfl,q0,q1,hx⟩)))⟩
     case measure=>simp[intOf]
  ·skip
   by_cases h1:x3<0
   ·have hx:=Db7 h1;go_wp2_with(first|(with_reducible apply AE7);rfl;rfl;rfl;rfl;(first|exact U5 _ _ _ _|exact U6 _ _ _ _|exact U7 _ _ _ _|exact U8 _ _ _ _);refine frS ?_);go_ret;refine⟨by simp only[x8,hx,Bool.false_and,Bool.and_false,q0];rfl,hS.drop⟩
   ·have d1:decide (x3<0)=false:=by simpa using h1
    by_cases h2:1152921504606846976<x3
    ·have hx:=Cn7 h2;go_wp2_with(first|(with_reducible apply AE7);rfl;rfl;rfl;rfl;(first|exact U5 _ _ _ _|exact U6 _ _ _ _|exact U7 _ _ _ _|exact U8 _ _ _ _);refine frS ?_);go_ret;refine⟨by simp only[x8,hx,Bool.false_and,Bool.and_false,q0];rfl,hS.drop⟩
    ·have d2:decide (1152921504606846976<x3)=false:=by simpa using h2
     have hx:inH x3=true:=BP7.2 ⟨by omega,by omega⟩;clear h1 h2;go_wp2_with(first|(with_reducible apply AE7);rfl;rfl;rfl;rfl;(first|exact U5 _ _ _ _|exact U6 _ _ _ _|exact U7 _ _ _ _|exact U8 _ _ _ _);refine frS ?_);go_roundw
     case rel=>exact⟨hS,.inr (.inr (.inr (.inr ⟨rfl,q0,q1,q2,hx⟩)))⟩
     case measure=>simp[intOf]
  ·go_wp2_with(fail);go_ret;refine⟨by simp only[x8,q0,q1,q2,q3];rfl,hS.drop⟩
def S6(a b:It):Bool:=decide (a.x0<b.x0)||(decide (a.x1<b.x1)||(decide (a.x2<b.x2)||decide (a.x3<b.x3)))
def LsR(W:World)(L:List HP)(a b:It)(v:Value)(w:World):Prop:=
 St W L w/\(v=.I 0\/(v=.I 1/\decide (a.x0<b.x0)=false)\/(v=.I 2/\decide (a.x0<b.x0)=false/\decide (a.x1<b.x1)=false)\/(v=.I 3/\decide (a.x0<b.x0)=false/\decide (a.x1<b.x1)=false/\decide (a.x2<b.x2)=false)\/(v=.I 4/\decide (a.x0<b.x0)=false/\decide (a.x1<b.x1)=false/\decide (a.x2<b.x2)=false/\decide (a.x3<b.x3)=false))
theorem Tg7(i j:It)(W w:World)(R:List HP)(hS:St W R w):
  Calls Tryz.prog 202 #[.agg i.cells.toArray,.agg j.cells.toArray] w fun e w'=>e=.returned (.bool (S6 i j))/\St W R w':=by
 obtain⟨x0,x1,x2,x3⟩:=i;obtain⟨y0,y1,y2,y3⟩:=j;simp only[It.cells];go_enter Tryz.func202,Tryz.ntmps202;go_wp2_with(first|refine zlN hS ?_|refine zbx hS ?_;clear hS;intro b w hS)
 rename_i bA w1 K1 hK1
 go_loopw [8] (fun v wr=>LsR W (blk b [.I y0,.I y1,.I y2,.I y3] 29::blk bA [.I x0,.I x1,.I x2,.I x3] 29::R) ⟨x0,x1,x2,x3⟩ ⟨y0,y1,y2,y3⟩ v wr) (fun v _=>4-(intOf v).toNat)
 case atStart=>exact⟨hS,.inl rfl⟩
 case round=>
  clear hS;obtain⟨hS,hk⟩:=hrel;simp only at hk
  rcases hk with rfl|⟨rfl,q0⟩|⟨rfl,q0,q1⟩|⟨rfl,q0,q1,q2⟩|⟨rfl,q0,q1,q2,q3⟩
  ·skip
   by_cases h1:x0<y0
   ·have hx:decide (x0<y0)=true:=by simpa using h1
    go_wp2_with(first|(with_reducible apply AE7);rfl;rfl;rfl;rfl;(first|exact U5 _ _ _ _|exact U6 _ _ _ _|exact U7 _ _ _ _|exact U8 _ _ _ _);refine frS ?_|refine zl1 hS ?_);go_ret;refine⟨by simp only[S6,hx,Bool.true_or,Bool.or_true];rfl,hS.drop.drop⟩
   ·have hx:decide (x0<y0)=false:=by simpa using h1
    clear h1;go_wp2_with(first|(with_reducible apply AE7);rfl;rfl;rfl;rfl;(first|exact U5 _ _ _ _|exact U6 _ _ _ _|exact U7 _ _ _ _|exact U8 _ _ _ _);refine frS ?_|refine zl1 hS ?_);go_roundw
    case rel=>exact⟨hS,.inr (.inl ⟨rfl,hx⟩)⟩
    case measure=>simp[intOf]
  ·skip
   by_cases h1:x1<y1
   ·have hx:decide (x1<y1)=true:=by simpa using h1
    go_wp2_with(first|(with_reducible apply AE7);rfl;rfl;rfl;rfl;(first|exact U5 _ _ _ _|exact U6 _ _ _ _|exact U7 _ _ _ _|exact U8 _ _ _ _);refine frS ?_|refine zl1 hS ?_);go_ret;refine⟨by simp only[S6,hx,Bool.true_or,Bool.or_true];rfl,hS.drop.drop⟩
   ·have hx:decide (x1<y1)=false:=by simpa using h1
    clear h1;go_wp2_with(first|(with_reducible apply AE7);rfl;rfl;rfl;rfl;(first|exact U5 _ _ _ _|exact U6 _ _ _ _|exact U7 _ _ _ _|exact U8 _ _ _ _);refine frS ?_|refine zl1 hS ?_);go_roundw
    case rel=>exact⟨hS,.inr (.inr (.inl ⟨rfl,q0,hx⟩))⟩
    case measure=>simp[intOf]
  ·skip
   by_cases h1:x2<y2
   ·have hx:decide (x2<y2)=true:=by simpa using h1
    go_wp2_with(first|(with_reducible apply AE7);rfl;rfl;rfl;rfl;(first|exact U5 _ _ _ _|exact U6 _ _ _ _|exact U7 _ _ _ _|exact U8 _ _ _ _);refine frS ?_|refine zl1 hS ?_);go_ret;refine⟨by simp only[S6,hx,Bool.true_or,Bool.or_true];rfl,hS.drop.drop⟩
   ·have hx:decide (x2<y2)=false:=by simpa using h1
    clear h1;go_wp2_with(first|(with_reducible apply AE7);rfl;rfl;rfl;rfl;(first|exact U5 _ _ _ _|exact U6 _ _ _ _|exact U7 _ _ _ _|exact U8 _ _ _ _);refine frS ?_|refine zl1 hS ?_);go_roundw
    case rel=>exact⟨hS,.inr (.inr (.inr (.inl ⟨rfl,q0,q1,hx⟩)))⟩
    case measure=>simp[intOf]
  ·skip
   by_cases h1:x3<y3
   ·have hx:decide (x3<y3)=true:=by simpa using h1
    go_wp2_with(first|(with_reducible apply AE7);rfl;rfl;rfl;rfl;(first|exact U5 _ _ _ _|exact U6 _ _ _ _|exact U7 _ _ _ _|exact U8 _ _ _ _);refine frS ?_|refine zl1 hS ?_);go_ret;refine⟨by simp only[S6,hx,Bool.true_or,Bool.or_true];rfl,hS.drop.drop⟩
   ·have hx:decide (x3<y3)=false:=by simpa using h1
    clear h1;go_wp2_with(first|(with_reducible apply AE7);rfl;rfl;rfl;rfl;(first|exact U5 _ _ _ _|exact U6 _ _ _ _|exact U7 _ _ _ _|exact U8 _ _ _ _);refine frS ?_|refine zl1 hS ?_);go_roundw
    case rel=>exact⟨hS,.inr (.inr (.inr (.inr ⟨rfl,q0,q1,q2,hx⟩)))⟩
    case measure=>simp[intOf]
  ·go_wp2_with(fail);go_ret;refine⟨by simp only[S6,q0,q1,q2,q3];rfl,hS.drop.drop⟩
theorem bb4(x0 x1 x2 x3:Int)(W w:World)(R:List HP)(hS:St W R w):
  Calls Tryz.prog 126 #[.agg #[.I x0,.I x1,.I x2,.I x3]] w fun e w'=>e=.returned (.bool (x8 ⟨x0,x1,x2,x3⟩))/\St W R w':=NM7 ⟨x0,x1,x2,x3⟩ W w R hS
theorem Ls7(x0 x1 x2 x3 y0 y1 y2 y3:Int)(W w:World)(R:List HP)(hS:St W R w):
  Calls Tryz.prog 202 #[.agg #[.I x0,.I x1,.I x2,.I x3],.agg #[.I y0,.I y1,.I y2,.I y3]] w fun e w'=>e=.returned (.bool (S6 ⟨x0,x1,x2,x3⟩ ⟨y0,y1,y2,y3⟩))/\St W R w':=Tg7 ⟨x0,x1,x2,x3⟩ ⟨y0,y1,y2,y3⟩ W w R hS
theorem Af7{i:It}:x8 i=true↔(0<=i.x0/\i.x0<=1152921504606846976)/\(0<=i.x1/\i.x1<=1152921504606846976)/\(0<=i.x2/\i.x2<=1152921504606846976)/\(0<=i.x3/\i.x3<=1152921504606846976):=by unfold x8;simp only[jB,BP7]
def bH4(i j:It):It:=⟨i.x0-j.x0,i.x1-j.x1,i.x2-j.x2,i.x3-j.x3⟩
def S7(i j:It):It:=⟨i.x0+j.x0,i.x1+j.x1,i.x2+j.x2,i.x3+j.x3⟩
def O8(i j:It):Bool:=x8 i&&x8 j&&!S6 i j
def cs4(i j:It):It:=if O8 i j then bH4 i j else it0
def Sb4(W:World)(F:It->List HP)(i j:It)(v:Value)(w:World):Prop:=
 (v=.I 0/\St W (F i) w)\/(v=.I 1/\St W (F ⟨i.x0-j.x0,i.x1,i.x2,i.x3⟩) w)\/(v=.I 2/\St W (F ⟨i.x0-j.x0,i.x1-j.x1,i.x2,i.x3⟩) w)\/(v=.I 3/\St W (F ⟨i.x0-j.x0,i.x1-j.x1,i.x2-j.x2,i.x3⟩) w)\/(v=.I 4/\St W (F (bH4 i j)) w)
theorem SC7(i j:It)(W w:World)(R:List HP)(hS:St W R w):
  Calls Tryz.prog 166 #[.agg i.cells.toArray,.agg j.cells.toArray] w fun e w'=>e=.returned (.tuple #[.agg (cs4 i j).cells.toArray,.bool (O8 i j)])/\St W R w':=by
 obtain⟨x0,x1,x2,x3⟩:=i;obtain⟨y0,y1,y2,y3⟩:=j
 cases hi:x8 ⟨x0,x1,x2,x3⟩with
 | false=>
  have e:O8 ⟨x0,x1,x2,x3⟩ ⟨y0,y1,y2,y3⟩=false:=by unfold O8;rw[hi];rfl
  unfold cs4;rw[e];simp only[It.cells];go_enter Tryz.func166,Tryz.ntmps166;go_wp2_with(first|go_big_skip|go_at_call 126;refine(bb4 _ _ _ _ W _ _ hS).mono ?_;clear hS;rw[hi];rintro e w ⟨rfl,hS⟩|refine zlN hS ?_|refine zsN hS ?_;clear hS;intro w hS|refine zbx hS ?_;clear hS;intro b w hS|refine zal hS ?_;clear hS;intro b w hS);apply Ac7;rfl;rfl;rfl;rfl;exact hS;decide +kernel;(exact x9);kernel_rfl;exact⟨rfl,hS.drop.drop.drop⟩
 | true=>
  cases hj:x8 ⟨y0,y1,y2,y3⟩with
  | false=>
   have e:O8 ⟨x0,x1,x2,x3⟩ ⟨y0,y1,y2,y3⟩=false:=by unfold O8;rw[hi,hj];rfl
   unfold cs4;rw[e];simp only[It.cells];go_enter Tryz.func166,Tryz.ntmps166;go_wp2_with(first|go_big_skip|go_at_call 126;refine(bb4 _ _ _ _ W _ _ hS).mono ?_;clear hS;(try rw[hi]);(try rw[hj]);rintro e w ⟨rfl,hS⟩|refine zlN hS ?_|refine zsN hS ?_;clear hS;intro w hS|refine zbx hS ?_;clear hS;intro b w hS|refine zal hS ?_;clear hS;intro b w hS);apply Ac7;rfl;rfl;rfl;rfl;exact hS;decide +kernel;(exact x9);kernel_rfl;exact⟨rfl,hS.drop.drop.drop⟩
  | true=>
   cases hl:S6 ⟨x0,x1,x2,x3⟩ ⟨y0,y1,y2,y3⟩with
   | true=>
    have e:O8 ⟨x0,x1,x2,x3⟩ ⟨y0,y1,y2,y3⟩=false:=by unfold O8;rw[hi,hj,hl];rfl
    unfold cs4;rw[e];simp only[It.cells];go_enter Tryz.func166,Tryz.ntmps166;go_wp2_with(first|go_at_call 126;refine(bb4 _ _ _ _ W _ _ hS).mono ?_;clear hS;(try rw[hi]);(try rw[hj]);rintro e w ⟨rfl,hS⟩|go_at_call 202;refine(Ls7 _ _ _ _ _ _ _ _ W _ _ hS).mono ?_;clear hS;rw[hl];rintro e w ⟨rfl,hS⟩|refine zlN hS ?_|refine zsN hS ?_;clear hS;intro w hS|refine zbx hS ?_;clear hS;intro b w hS|refine zal hS ?_;clear hS;intro b w hS);apply Ac7;rfl;rfl;rfl;rfl;exact hS;decide +kernel;(exact x9);kernel_rfl;exact⟨rfl,hS.drop.drop.drop⟩
   | false=>
    have e:O8 ⟨x0,x1,x2,x3⟩ ⟨y0,y1,y2,y3⟩=true:=by unfold O8;rw[hi,hj,hl];rfl
    obtain⟨a0,a1,a2,a3⟩:=Af7.1 hi;obtain⟨b0,b1,b2,b3⟩:=Af7.1 hj;simp only at a0 a1 a2 a3 b0 b1 b2 b3;unfold cs4;rw[e,if_pos rfl];simp only[It.cells];go_enter Tryz.func166,Tryz.ntmps166;go_wp2_with(first|go_at_call 126;refine(bb4 _ _ _ _ W _ _ hS).mono ?_;clear hS;(try rw[hi]);(try rw[hj]);rintro e w ⟨rfl,hS⟩|go_at_call 202;refine(Ls7 _ _ _ _ _ _ _ _ W _ _ hS).mono ?_;clear hS;rw[hl];rintro e w ⟨rfl,hS⟩|(fail_if_success (have:=bA));(with_reducible apply AH7 hS);rfl;rfl;rfl;rfl;clear hS;intro bA w hS;refine frS ?_|(fail_if_success (have:=bB));(with_reducible apply AH7 hS);rfl;rfl;rfl;rfl;clear hS;intro bB w hS;refine frS ?_|refine zlN hS ?_|refine zal hS ?_;clear hS;intro b w hS)
    go_loopw [23] (fun v wr=>Sb4 W (fun q=>[blk b [.I 0,.I 0,.I 0,.I 0] 29,blk bB [.I y0,.I y1,.I y2,.I y3] 29,blk bA [.I q.x0,.I q.x1,.I q.x2,.I q.x3] 29]++R) ⟨x0,x1,x2,x3⟩ ⟨y0,y1,y2,y3⟩ v wr) (fun v _=>4-(intOf v).toNat)
    case atStart=>exact .inl ⟨rfl,hS⟩
    case round=>
     clear hS hi hj hl;simp only[Sb4,bH4,jK,jN]at hrel
     rcases hrel with ⟨rfl,hS⟩|⟨rfl,hS⟩|⟨rfl,hS⟩|⟨rfl,hS⟩|⟨rfl,hS⟩
     ·go_wp2_with(first|(with_reducible apply AE7);rfl;rfl;rfl;rfl;(first|exact U5 _ _ _ _|exact U6 _ _ _ _|exact U7 _ _ _ _|exact U8 _ _ _ _);refine frS ?_|refine zl1 hS ?_|refine zs1 hS ?_;clear hS;intro w hS);go_roundw
      case rel=>exact .inr (.inl ⟨rfl,hS⟩)
      case measure=>simp[intOf]
     ·go_wp2_with(first|(with_reducible apply AE7);rfl;rfl;rfl;rfl;(first|exact U5 _ _ _ _|exact U6 _ _ _ _|exact U7 _ _ _ _|exact U8 _ _ _ _);refine frS ?_|refine zl1 hS ?_|refine zs1 hS ?_;clear hS;intro w hS);go_roundw
      case rel=>exact .inr (.inr (.inl ⟨rfl,hS⟩))
      case measure=>simp[intOf]
     ·go_wp2_with(first|(with_reducible apply AE7);rfl;rfl;rfl;rfl;(first|exact U5 _ _ _ _|exact U6 _ _ _ _|exact U7 _ _ _ _|exact U8 _ _ _ _);refine frS ?_|refine zl1 hS ?_|refine zs1 hS ?_;clear hS;intro w hS);go_roundw
      case rel=>exact .inr (.inr (.inr (.inl ⟨rfl,hS⟩)))
      case measure=>simp[intOf]
     ·go_wp2_with(first|(with_reducible apply AE7);rfl;rfl;rfl;rfl;(first|exact U5 _ _ _ _|exact U6 _ _ _ _|exact U7 _ _ _ _|exact U8 _ _ _ _);refine frS ?_|refine zl1 hS ?_|refine zs1 hS ?_;clear hS;intro w hS);go_roundw
      case rel=>exact .inr (.inr (.inr (.inr ⟨rfl,hS⟩)))
      case measure=>simp[intOf]
     ·go_wp2_with(first|refine zlN hS ?_|refine zsN hS ?_;clear hS;intro w hS);apply Ac7;rfl;rfl;rfl;rfl;exact hS;decide +kernel;(exact x9);kernel_rfl;exact⟨rfl,hS.drop.drop.drop⟩
def G5:List It->It->Option It
 | [],s=>some s
 | i::l,s=>if x8 i=true/\x8 (S7 s i)=true then G5 l (S7 s i)else none
def bK4(l:List It):It:=(G5 l it0).getD it0
def Ad4(W:World)(F:It->List HP)(i j:It)(v:Value)(w:World):Prop:=
 (v=.I 0/\St W (F i) w)\/(v=.I 1/\St W (F ⟨i.x0+j.x0,i.x1,i.x2,i.x3⟩) w)\/(v=.I 2/\St W (F ⟨i.x0+j.x0,i.x1+j.x1,i.x2,i.x3⟩) w)\/(v=.I 3/\St W (F ⟨i.x0+j.x0,i.x1+j.x1,i.x2+j.x2,i.x3⟩) w)\/(v=.I 4/\St W (F (S7 i j)) w)
def AdR(W:World)(F:It->List HP)(l:List It)(v:Value)(w:World):Prop:=
 ∃(n:Nat) (s:It),v=.I n/\n<=l.length/\x8 s=true/\G5 l it0=G5 (l.drop n) s/\St W (F s) w
theorem SD7(l:List It)(v:Value)(W w:World)(R:List HP)(hS:St W (row v 4 29 l.length (l.flatMap It.cells)::R) w):
  Calls Tryz.prog 58 #[v] w fun e w'=>e=.returned (.tuple #[.agg (bK4 l).cells.toArray,.bool (G5 l it0).isSome])/\St W (row v 4 29 l.length (l.flatMap It.cells)::R) w':=by
 obtain⟨a,cap,rfl⟩:=hS.rowVal
 have h63:l.length<=9223372036854775807:=by
  rcases St.rowCase hS with ⟨_,h0,_⟩|⟨_,_,h1,h2⟩
  ·omega
  ·omega
 go_enter Tryz.func58,Tryz.ntmps58;go_wp2_with(first|(fail_if_success (have:=bA));(with_reducible apply Al7 hS);rfl;rfl;exact zsS;clear hS;intro bA w hS;refine frS ?_|(fail_if_success (have:=bB));(with_reducible apply Al7 hS);rfl;rfl;exact zsS;clear hS;intro bB w hS;refine frS ?_)
 go_loopw [11] (fun v wr=>AdR W (fun q=>[blk bB [.I q.x0,.I q.x1,.I q.x2,.I q.x3] 29,blk bA [.I 0,.I 0,.I 0,.I 0] 29,row (.slice a l.length cap) 4 29 l.length (l.flatMap It.cells)]++R) l v wr) (fun v _=>l.length-(intOf v).toNat)
 case atStart=>exact⟨0,it0,rfl,Nat.zero_le _,rfl,rfl,hS⟩
 case round=>
  clear hS;obtain⟨n,s,rfl,hnl,hs,he,hS⟩:=hrel;simp only[jK,jN]at hS;obtain⟨s0,s1,s2,s3⟩:=s;simp only at hS;by_cases hn:n=l.length
  ·subst hn;rw[List.drop_length]at he;have E:=jH he;clear he;go_wp2_with(first|refine zlN hS ?_|refine zsN hS ?_;clear hS;intro w hS);apply Ac7;rfl;rfl;rfl;rfl;exact hS;decide +kernel;(exact x9);kernel_rfl;unfold bK4;rw[E.out];exact⟨rfl,hS.drop.drop⟩
  ·have hn1:n<l.length:=by omega
   obtain⟨⟨g,rfl⟩,hcap,hcn⟩:=St.rowAddr hS.drop.drop (by omega);have hx:∀{K K':List HP},Take K (row (.S g l.length cap) 4 29 l.length (l.flatMap It.cells)) K'->i8 K g (n*4) (It.cells l[n]):=fun hu=>i8.elemM (enc:=It.cells) It.len hu hn1
   have hdr:l.drop n=l[n]::l.drop (n+1):=List.drop_eq_getElem_cons hn1;rw[hdr]at he;clear hdr;generalize l[n]=x at hx he;obtain⟨x0,x1,x2,x3⟩:=x;simp only[It.cells]at hx
   cases hi:x8 ⟨x0,x1,x2,x3⟩with
   | false=>
    have E:=jH (show G5 l it0=none by rw[he,G5,if_neg (fun h=>by rw[hi]at h;cases h.1)]);clear he;go_wp2_with(first|refine zlN hS ?_ (hc:=by exact hx (.tail (.tail .head)))|go_at_call 126;refine(bb4 _ _ _ _ W _ _ hS).mono ?_;clear hS;rw[hi];rintro e w ⟨rfl,hS⟩|refine zlN hS ?_|refine zsN hS ?_;clear hS;intro w hS|refine zal hS ?_;clear hS;intro b w hS);apply Ac7;rfl;rfl;rfl;rfl;exact hS;decide +kernel;(exact x9);kernel_rfl;unfold bK4;rw[E.out];exact⟨rfl,hS.s _⟩
   | true=>
    have he2:G5 l it0=if x8 (S7 ⟨s0,s1,s2,s3⟩ ⟨x0,x1,x2,x3⟩)=true then G5 (l.drop (n+1)) (S7 ⟨s0,s1,s2,s3⟩ ⟨x0,x1,x2,x3⟩)else none:=by rw[he,G5];simp[hi]
    have E2:=jH he2;clear he he2;obtain⟨a0,a1,a2,a3⟩:=Af7.1 hi;obtain⟨b0,b1,b2,b3⟩:=Af7.1 hs;simp only at a0 a1 a2 a3 b0 b1 b2 b3;go_wp2_with(first|refine zlN hS ?_ (hc:=by exact hx (.tail (.tail .head)))|go_at_call 126;refine(bb4 _ _ _ _ W _ _ hS).mono ?_;clear hS;rw[hi];rintro e w ⟨rfl,hS⟩|refine zlN hS ?_|refine zsN hS ?_;clear hS;intro w hS|refine zal hS ?_;clear hS;intro b w hS)
    go_loopw [20] (fun v wr=>Ad4 W (fun q=>[blk b [.I x0,.I x1,.I x2,.I x3] 29,blk bB [.I q.x0,.I q.x1,.I q.x2,.I q.x3] 29,blk bA [.I 0,.I 0,.I 0,.I 0] 29,row (.S g l.length cap) 4 29 l.length (l.flatMap It.cells)]++R) ⟨s0,s1,s2,s3⟩ ⟨x0,x1,x2,x3⟩ v wr) (fun v _=>4-(intOf v).toNat)
    case atStart=>exact .inl ⟨rfl,hS⟩
    case round=>
     clear hS hx hs hi;simp only[Ad4,S7,jK,jN]at hrel
     rcases hrel with ⟨rfl,hS⟩|⟨rfl,hS⟩|⟨rfl,hS⟩|⟨rfl,hS⟩|⟨rfl,hS⟩
     ·go_wp2_with(first|(with_reducible apply AE7);rfl;rfl;rfl;rfl;(first|exact U5 _ _ _ _|exact U6 _ _ _ _|exact U7 _ _ _ _|exact U8 _ _ _ _);refine frS ?_|refine zl1 hS ?_|refine zs1 hS ?_;clear hS;intro w hS);go_roundw
      case rel=>exact .inr (.inl ⟨rfl,hS⟩)
      case measure=>simp[intOf]
     ·go_wp2_with(first|(with_reducible apply AE7);rfl;rfl;rfl;rfl;(first|exact U5 _ _ _ _|exact U6 _ _ _ _|exact U7 _ _ _ _|exact U8 _ _ _ _);refine frS ?_|refine zl1 hS ?_|refine zs1 hS ?_;clear hS;intro w hS);go_roundw
      case rel=>exact .inr (.inr (.inl ⟨rfl,hS⟩))
      case measure=>simp[intOf]
     ·go_wp2_with(first|(with_reducible apply AE7);rfl;rfl;rfl;rfl;(first|exact U5 _ _ _ _|exact U6 _ _ _ _|exact U7 _ _ _ _|exact U8 _ _ _ _);refine frS ?_|refine zl1 hS ?_|refine zs1 hS ?_;clear hS;intro w hS);go_roundw
      case rel=>exact .inr (.inr (.inr (.inl ⟨rfl,hS⟩)))
      case measure=>simp[intOf]
     ·go_wp2_with(first|(with_reducible apply AE7);rfl;rfl;rfl;rfl;(first|exact U5 _ _ _ _|exact U6 _ _ _ _|exact U7 _ _ _ _|exact U8 _ _ _ _);refine frS ?_|refine zl1 hS ?_|refine zs1 hS ?_;clear hS;intro w hS);go_roundw
      case rel=>exact .inr (.inr (.inr (.inr ⟨rfl,hS⟩)))
      case measure=>simp[intOf]
     ·cases hi:x8 ⟨s0+x0,s1+x1,s2+x2,s3+x3⟩with
      | false=>
       have E:=jH (show G5 l it0=none by rw[E2.out,S7];simp[hi]);clear E2;go_wp2_with(first|go_at_call 126;refine(bb4 _ _ _ _ W _ _ hS).mono ?_;clear hS;rw[hi];rintro e w ⟨rfl,hS⟩|refine zlN hS ?_|refine zsN hS ?_;clear hS;intro w hS);apply Ac7;rfl;rfl;rfl;rfl;exact hS;decide +kernel;(exact x9);kernel_rfl;unfold bK4;rw[E.out];exact⟨rfl,hS.s _⟩
      | true=>
       have E:=jH (show G5 l it0=G5 (l.drop (n+1)) ⟨s0+x0,s1+x1,s2+x2,s3+x3⟩by rw[E2.out,S7];simp[hi]);have Hi:=jH hi;clear E2;go_wp2_with(first|go_at_call 126;refine(bb4 _ _ _ _ W _ _ hS).mono ?_;clear hS;rw[hi];rintro e w ⟨rfl,hS⟩|refine zlN hS ?_);go_roundw
       case rel=>exact⟨n+1,_,rfl,hn1,Hi.out,E.out,hS.s _⟩
       case measure=>simp[intOf];omega
end Go.Proofs.YtlmhakmoioogaaaGreat
end
section
namespace Go.Sl
open Go.RowKit
def bv4(b:Nat)(es:List MapEntry)(clk:Nat):HP:=ai4 b (.map es.toArray clk)
def I9(P:Program)(t:TypeId):Option (TypeId×TypeId):=(P.underlying t).bind fun|.map k e=>some (k,e)|_=>none
def N8(P:Program)(t:TypeId):Option Value:=(P.info? t).bind (·.zero)
def du4:TypeDesc->Bool
 | .int _ | .string=>true
 | _=>false
section
variable{P:Program}{W w:World}{L R:List HP}
theorem Bx7{t K E:TypeId}(h:I9 P t=some (K,E)):P.underlying t=some (.map K E):=by
 unfold I9 at h;obtain⟨d,hd,hx⟩:=Option.bind_eq_some_iff.1 h
 cases d <;> simp at hx
 rw[hd,hx.1,hx.2]
theorem NN7{t:TypeId}{z:Value}(h:N8 P t=some z):(zeroValue t).run P w=.ok z w:=by unfold N8 at h;obtain⟨i,hi,hz⟩:=Option.bind_eq_some_iff.1 h;simp[zeroValue,typeInfo,hi,hz]
theorem IL7{K:TypeId}{kd:TypeDesc}(hK:P.underlying K=some kd)(h:du4 kd=true)(e:Bool)(n:Nat)(v:Value):(Instr.checkKey e (n+1) K v).run P w=.ok () w:=by
 unfold Instr.checkKey
 cases kd <;> simp[du4]at h <;> simp[run_underlying hK]
theorem Ki7{K:TypeId}{kd:TypeDesc}{key:Value}{es:List MapEntry}{r:Option (Nat×Value)}(hK:P.underlying K=some kd)(hf:Instr.findNow kd key es 0=some r):(Instr.findKey K key es).run P w=.ok r w:=by unfold Instr.findKey;simp[run_underlying hK,hf]
theorem St.setMap{b:Nat}{es es':List MapEntry}{c c':Nat}(h:St W (bv4 b es c::L) w):St W (bv4 b es' c'::L) { w with heap:=w.heap.setIfInBounds b (.map es'.toArray c') }:=by
 have hg:=h.get (b:=b) .head;refine h.putO (b:=b) (o:=.map es.toArray c) (o':=.map es'.toArray c') .head rfl rfl rfl fun k=>?_
 show(w.heap.setIfInBounds b _)[k]? = _
 have hb:b<w.heap.size:=(Array.getElem?_eq_some_iff.1 hg).1;rw[Array.getElem?_setIfInBounds];by_cases hk:b=k
 ·subst hk;rw[if_pos rfl,if_pos hb,if_pos rfl]
 ·rw[if_neg hk,if_neg (fun h=>hk h.symm)]
theorem Dc7{b:Nat}{es:List MapEntry}{c:Nat}(h:St W (bv4 b es c::L) w):(getObj b).run P w=.ok (.map es.toArray c) w:=MapKept.run_getObj_map (h.get (b:=b) .head)
def hV4(ok:Bool)(z:Value):Option (Nat×Value)->Value
 | some (_,v)=>if ok then .tuple #[v,.bool true]else v
 | none=>if ok then .tuple #[z,.bool false]else z
theorem Kj7{t:TypeId}(h:St W L w):∃b w',(Instr.makeMap t none).run P w=.ok (.map (some b)) w'/\St W (bv4 b [] 0::L) w':=
 ⟨w.heap.size,w.alloc (.map #[] 0),by unfold Instr.makeMap;simp,h.alloc _⟩
def bP4(es:List MapEntry):Prop:=(es.map (·.born)).Nodup
end
theorem Qy7(a b:Int):Instr.sameNow (.int .i64) (.I a) (.I b)=some (a==b):=by simp[Instr.sameNow]
theorem Qz7(a b:ByteArray):Instr.sameNow .string (.string a) (.string b)=some (a==b):=rfl
def cg4(r m since:Nat)(seen:Array Nat)(stepped:Nat):HP:=ai4 r (.mapIter (some m) since seen stepped)
section
variable{P:Program}{W w:World}{L:List HP}
theorem NO7{t K E:TypeId}{m:Nat}{es:List MapEntry}{c:Nat}(h:St W (bv4 m es c::L) w)(ht:I9 P t=some (K,E)):
  ∃r w',(Instr.range t (.map (some m))).run P w=.ok (.P r) w'/\St W (cg4 r m c #[] c::bv4 m es c::L) w':=by
 refine⟨w.heap.size,w.alloc (.mapIter (some m) c #[] c),?_,h.alloc _⟩;unfold Instr.range;have hu:=run_underlying (P:=P) (Bx7 ht) w;simp[hu,Dc7 h]
theorem QA7{ty:TypeId}{r m since c0 c:Nat}{seen:Array Nat}{es:List MapEntry}(h:St W (cg4 r m since seen c0::bv4 m es c::L) w)(hold:∀x∈es,x.born<since)(hsc:since<=c0):
  ((∀x∈es,x.born∈seen)/\(Instr.next (.P r) false ty).run P w=.ok (.tuple #[.bool false]) w) \/
  ∃e∈es,e.born∉seen/\∃w',(Instr.next (.P r) false ty).run P w=.ok (.tuple #[.bool true,e.key,e.val]) w'/\St W (cg4 r m since (seen.push e.born) c::bv4 m es c::L) w':=by
 have hr:=h.get (b:=r) .head;have hb:=h.get (b:=m) (.tail .head)
 rcases run_next_at (P:=P) w ty r m since c0 seen es.toArray c hr hb (by simpa using hold) hsc with ⟨h0,hrun⟩|⟨e,he,w1,hw,hrun⟩
 ·left
  refine⟨fun x hx=>?_,hrun⟩;have h1:leftOf es.toArray seen=#[]:=Array.eq_empty_of_size_eq_zero h0;unfold leftOf at h1;rw[Array.filter_eq_empty_iff]at h1;have:=h1 x (by simpa using hx);simpa using this
 ·right
  unfold leftOf at he;simp at he;refine⟨e,he.1,by simpa using he.2,_,hrun,?_⟩
  have h1:St W (cg4 r m since seen c0::bv4 m es c::L) w1:=by
   rcases hw with rfl|rfl
   ·exact h
   ·exact h.drew
  have hr1:=h1.get (b:=r) .head;refine h1.putO (b:=r) (o:=.mapIter (some m) since seen c0) (o':=.mapIter (some m) since (seen.push e.born) c) .head rfl rfl rfl fun k=>?_
  show(w1.heap.setIfInBounds r _)[k]? = _
  have hlt:r<w1.heap.size:=(Array.getElem?_eq_some_iff.1 hr1).1;rw[Array.getElem?_setIfInBounds];by_cases hk:r=k
  ·subst hk;rw[if_pos rfl,if_pos hlt,if_pos rfl]
  ·rw[if_neg hk,if_neg (fun h=>hk h.symm)]
theorem NP7{r m since c:Nat}{seen:Array Nat}{es:List MapEntry}{e:MapEntry}(h:St W (cg4 r m since (seen.push e.born) c::bv4 m es c::L) w)(he:e∈es)(hn:bP4 es):
  (Instr.entry (.P r)).run P w=.ok (.tuple #[e.key,e.val]) w:=
 run_entry_at w r m since seen es.toArray c e (h.get (b:=r) .head) (h.get (b:=m) (.tail .head)) (by simpa using he) (by unfold bP4 at hn;simpa using hn)
end
section
variable{P:Program}{ops:Array Oper}{Q:Exit->Act->World->Prop}{a:Act}{w:World}{W:World}{L L' R:List HP}{rest:List Oper}{o:Oper}
end
end Go.Sl
end
section
namespace Go.Sl
open Go.RowKit
def bQ4{κ:Type}[DecidableEq κ](k:κ):List (κ×Value×Nat)->Nat->Option (Nat×Value)
 | [],_=>none
 | x::l,i=>if k=x.1 then some (i,x.2.1)else bQ4 k l (i+1)
def Q7{κ:Type}(ek:κ->Value)(x:κ×Value×Nat):MapEntry:=⟨ek x.1,x.2.1,x.2.2⟩
structure KeyOk(P:Program)(K:TypeId){κ:Type}[DecidableEq κ](ek:κ->Value):Prop where
 chk:∀e k w,(Instr.checkKey e 10000 K (ek k)).run P w=.ok () w
 find:∀k (l:List (κ×Value×Nat)) w,(Instr.findKey K (ek k) (l.map (Q7 ek))).run P w=.ok (bQ4 k l 0) w
 bits:∀k,Instr.sameBits 10000 (ek k) (ek k)=true
section
variable{κ:Type}[DecidableEq κ]
theorem FH7{k:κ}:∀(l:List (κ×Value×Nat)) (i:Nat),(∀x∈l,x.1≠k)->bQ4 k l i=none
 | [],_,_=>rfl
 | x::l,i,h=>by rw[bQ4,if_neg (fun e=>h x (List.mem_cons_self ..) e.symm)];exact FH7 l (i+1) fun y hy=>h y (List.mem_cons_of_mem _ hy)
theorem FI7{k:κ}{v:Value}{s:Nat}:∀(l:List (κ×Value×Nat)) (i:Nat),(l.map (·.1)).Nodup->(k,v,s)∈l->∃j, ∃h:j<l.length,l[j]=(k,v,s)/\bQ4 k l i=some (i+j,v)
 | x::l,i,hn,hm=>by
  rw[List.map_cons,List.nodup_cons]at hn;by_cases hk:k=x.1
  ·have hx:x=(k,v,s):=by
    rcases List.mem_cons.1 hm with h|h
    ·exact h.symm
    ·exact absurd (List.mem_map.2 ⟨_,h,hk⟩) hn.1
   exact⟨0,Nat.succ_pos _,hx,by rw[bQ4,if_pos hk,hx];rfl⟩
  ·have hm':(k,v,s)∈l:=by
    rcases List.mem_cons.1 hm with h|h
    ·exact absurd (by rw[<-h]) hk
    ·exact h
   obtain⟨j,hj,h1,h2⟩:=FI7 l (i+1) hn.2 hm';exact⟨j+1,by simpa using hj,h1,by rw[bQ4,if_neg hk,h2,show i+1+j=i+(j+1)by omega]⟩
theorem Eb7{kd:TypeDesc}{ek:κ->Value}(h:∀a b,Instr.sameNow kd (ek a) (ek b)=some (decide (a=b)))(k:κ):∀(l:List (κ×Value×Nat)) (i:Nat),Instr.findNow kd (ek k) (l.map (Q7 ek)) i=some (bQ4 k l i)
 | [],_=>rfl
 | x::l,i=>by
  have e:(Q7 ek x).key=ek x.1:=rfl;rw[List.map_cons,Instr.findNow,e,h,bQ4];by_cases hk:k=x.1
  ·rw[decide_eq_true hk,if_pos hk];rfl
  ·rw[decide_eq_false hk,if_neg hk];exact Eb7 h k l (i+1)
variable{P:Program}{K:TypeId}{kd:TypeDesc}{ek:κ->Value}
theorem KeyOk.plain(hK:P.underlying K=some kd)(hkd:du4 kd=true)(h:∀a b,Instr.sameNow kd (ek a) (ek b)=some (decide (a=b)))(hb:∀k,Instr.sameBits 10000 (ek k) (ek k)=true):KeyOk P K ek:=
 ⟨fun e k w=>IL7 hK hkd e 9999 (ek k),fun k l w=>Ki7 hK (Eb7 h k l 0),hb⟩
end
theorem KeyOk.int{P:Program}{K:TypeId}(hK:P.underlying K=some (.int .i64)):KeyOk P K (fun z:Int=>.I z):=
 .plain hK rfl (fun a b=>by rw[Qy7];exact congrArg some (Bool.beq_eq_decide_eq a b)) (fun k=>by simp[Instr.sameBits])
theorem KeyOk.str{P:Program}{K:TypeId}(hK:P.underlying K=some .string):KeyOk P K (fun s:ByteArray=>.string s):=
 .plain hK rfl (fun a b=>by
  rw[Qz7]
  congr 1
  by_cases h:a=b
  ·subst h;rw[decide_eq_true rfl];exact(MapKept.bytes_beq _ _).2 rfl
  ·rw[decide_eq_false h]
   cases hb:a==b with
   | false=>rfl
   | true=>exact absurd ((MapKept.bytes_beq a b).1 hb) h) (fun k=>by
  show(k==k)=true
  exact(MapKept.bytes_beq _ _).2 rfl)
section
variable{κ:Type}[DecidableEq κ]{P:Program}{W w:World}{L R:List HP}{t K E:TypeId}{ek:κ->Value}
theorem IM7{b c:Nat}{ps:List (κ×Value×Nat)}{k:κ}{z:Value}{ok:Bool}(h:St W (bv4 b (ps.map (Q7 ek)) c::L) w)(ht:I9 P t=some (K,E))(hK:KeyOk P K ek)(hz:N8 P E=some z)(hn:∀x∈ps,x.1≠k):
  (Instr.lookup t (.map (some b)) (ek k) ok).run P w=.ok (if ok then .tuple #[z,.bool false]else z) w:=by
 unfold Instr.lookup;have hu:=run_underlying (P:=P) (Bx7 ht) w
 cases ok <;> simp[hu,Dc7 h,hK.chk,hK.find,FH7 ps 0 hn,NN7 hz]
theorem IN7{b c:Nat}{ps:List (κ×Value×Nat)}{k:κ}{v:Value}{s:Nat}{ok:Bool}(h:St W (bv4 b (ps.map (Q7 ek)) c::L) w)(ht:I9 P t=some (K,E))(hK:KeyOk P K ek)(hn:(ps.map (·.1)).Nodup)(hm:(k,v,s)∈ps):
  (Instr.lookup t (.map (some b)) (ek k) ok).run P w=.ok (if ok then .tuple #[v,.bool true]else v) w:=by
 unfold Instr.lookup;have hu:=run_underlying (P:=P) (Bx7 ht) w;obtain⟨j,hj,h1,h2⟩:=FI7 ps 0 hn hm
 cases ok <;> simp[hu,Dc7 h,hK.chk,hK.find,h2]
theorem IO7{b c:Nat}{ps:List (κ×Value×Nat)}{k:κ}{v:Value}(h:St W (bv4 b (ps.map (Q7 ek)) c::L) w)(ht:I9 P t=some (K,E))(hK:KeyOk P K ek)(hn:∀x∈ps,x.1≠k):
  ∃w',(Instr.mapUpdate t (.map (some b)) (ek k) v).run P w=.ok () w'/\St W (bv4 b ((ps++[(k,v,c)]).map (Q7 ek)) (c+1)::L) w':=by
 refine⟨_,?_,h.setMap⟩;unfold Instr.mapUpdate;have hu:=run_underlying (P:=P) (Bx7 ht) w;have hs:=MapKept.run_setObj_map (P:=P) (.map (ps.map (Q7 ek)++[(⟨ek k,v,c⟩:MapEntry)]).toArray (c+1)) (h.get (b:=b) .head);have e:(ps.map (Q7 ek)).toArray.push (⟨ek k,v,c⟩:MapEntry)=(ps.map (Q7 ek)++[(⟨ek k,v,c⟩:MapEntry)]).toArray:=by simp
 have e2:(ps++[(k,v,c)]).map (Q7 ek)=ps.map (Q7 ek)++[(⟨ek k,v,c⟩:MapEntry)]:=by rw[List.map_append];rfl
 rw[e2];simp only[hu,Sem.run_bind,Result.andThen_ok,Dc7 h,hK.chk,hK.find,FH7 ps 0 hn,e,hs]
def dv4(ps:List (κ×Value×Nat))(k:κ)(v:Value):List (κ×Value×Nat):=ps.map fun x=>if x.1=k then(x.1,v,x.2.2)else x
theorem Ho7{k:κ}{v:Value}:∀(ps:List (κ×Value×Nat)),k∉ps.map (·.1)->dv4 ps k v=ps
 | [],_=>rfl
 | x::ps,h=>by
  have hx:x.1≠k:=fun e=>h (by rw[List.map_cons,e];exact List.mem_cons_self ..)
  have:=Ho7 (k:=k) (v:=v) ps (fun e=>h (List.mem_cons_of_mem _ e));unfold dv4 at this ⊢;rw[List.map_cons,if_neg hx,this]
theorem NQ7{k:κ}{v u:Value}{s:Nat}:∀(ps:List (κ×Value×Nat)) (j:Nat) (hj:j<ps.length),(ps.map (·.1)).Nodup->ps[j]=(k,u,s)->dv4 ps k v=ps.set j (k,v,s)
 | x::ps,0,_,hn,hx=>by have hx':x=(k,u,s):=hx;rw[List.map_cons,List.nodup_cons,hx']at hn;have:=Ho7 (v:=v) ps hn.1;unfold dv4 at this ⊢;rw[List.map_cons,this,hx',if_pos rfl];rfl
 | x::ps,j+1,hj,hn,hx=>by
  rw[List.map_cons,List.nodup_cons]at hn;have hj':j<ps.length:=by simpa using hj
  have hx':ps[j]=(k,u,s):=hx;have hne:x.1≠k:=fun e=>hn.1 (List.mem_map.2 ⟨ps[j],jW _,by rw[hx',e]⟩)
  have:=NQ7 (v:=v) ps j hj' hn.2 hx';unfold dv4 at this ⊢;rw[List.map_cons,if_neg hne,this];rfl
theorem Kk7{b c:Nat}{ps:List (κ×Value×Nat)}{k:κ}{u v:Value}{s:Nat}(h:St W (bv4 b (ps.map (Q7 ek)) c::L) w)(ht:I9 P t=some (K,E))(hK:KeyOk P K ek)(hn:(ps.map (·.1)).Nodup)(hm:(k,u,s)∈ps):
  ∃w',(Instr.mapUpdate t (.map (some b)) (ek k) v).run P w=.ok () w'/\St W (bv4 b ((dv4 ps k v).map (Q7 ek)) c::L) w':=by
 obtain⟨j,hj,h1,h2⟩:=FI7 ps 0 hn hm;rw[Nat.zero_add]at h2;have e2:(dv4 ps k v).map (Q7 ek)=(ps.map (Q7 ek)).set j ⟨ek k,v,s⟩:=by rw[NQ7 ps j hj hn h1,List.map_set];rfl
 have e:(ps.map (Q7 ek)).modify j (fun e=>{ e with key:=ek k,val:=v })=(ps.map (Q7 ek)).set j ⟨ek k,v,s⟩:=by
  apply List.ext_getElem?;intro i;rw[List.getElem?_modify,List.getElem?_set];by_cases hi:j=i
  ·subst hi;simp[hj,h1,Q7]
  ·simp[hi]
 refine⟨_,?_,h.setMap⟩;rw[e2];unfold Instr.mapUpdate;have hu:=run_underlying (P:=P) (Bx7 ht) w;have hks:(Instr.keyThatStays (ek k) (ek k)).run P w=.ok (ek k) w:=by unfold Instr.keyThatStays;simp[hK.bits]
 have hkk:((ps.map (Q7 ek)).toArray[j]?).map (·.key)=some (ek k):=by simp[hj,h1,Q7]
 have hkj:(Q7 ek ps[j]).key=ek k:=by rw[h1];rfl
 simp[hu,Dc7 h,hK.chk,hK.find,h2,hj,hkj,hks];rw[e];exact MapKept.run_setObj_map (P:=P) (.map ((ps.map (Q7 ek)).set j ⟨ek k,v,s⟩).toArray c) (h.get (b:=b) .head)
theorem Fu7{α β:Type}(f:α->β):∀(l:List α) (j:Nat),(l.map f).eraseIdx j=(l.eraseIdx j).map f
 | [],_=>by simp
 | x::l,0=>rfl
 | x::l,j+1=>by simp[Fu7 f l j]
def dG4(ps:List (κ×Value×Nat))(k:κ):List (κ×Value×Nat):=ps.filter fun x=>decide (x.1≠k)
theorem Hp7{k:κ}{ps:List (κ×Value×Nat)}(h:∀x∈ps,x.1≠k):dG4 ps k=ps:=List.filter_eq_self.2 fun x hx=>by simpa using h x hx
theorem NR7{k:κ}{u:Value}{s:Nat}:∀(ps:List (κ×Value×Nat)) (j:Nat) (hj:j<ps.length),(ps.map (·.1)).Nodup->ps[j]=(k,u,s)->dG4 ps k=ps.eraseIdx j
 | x::ps,0,_,hn,hx=>by
  have hx':x=(k,u,s):=hx;rw[List.map_cons,List.nodup_cons,hx']at hn;have h1:dG4 ps k=ps:=Hp7 fun y hy e=>hn.1 (List.mem_map.2 ⟨y,hy,e⟩)
  unfold dG4 at h1 ⊢;rw[List.filter_cons,hx',if_neg (by simp),h1];rfl
 | x::ps,j+1,hj,hn,hx=>by
  rw[List.map_cons,List.nodup_cons]at hn;have hj':j<ps.length:=by simpa using hj
  have hx':ps[j]=(k,u,s):=hx;have hne:x.1≠k:=fun e=>hn.1 (List.mem_map.2 ⟨ps[j],jW _,by rw[hx',e]⟩)
  have:=NR7 ps j hj' hn.2 hx';unfold dG4 at this ⊢;rw[List.filter_cons,if_pos (by simpa using hne),this];rfl
theorem QB7{b c:Nat}{ps:List (κ×Value×Nat)}{k:κ}{k2 ty:TypeId}(h:St W (bv4 b (ps.map (Q7 ek)) c::L) w)(ht:I9 P t=some (K,E))(hK:KeyOk P K ek)(hn:(ps.map (·.1)).Nodup):
  ∃w',(Builtin.delete_ #[t,k2] ty #[.map (some b),ek k]).run P w=.ok (.tuple #[]) w'/\St W (bv4 b ((dG4 ps k).map (Q7 ek)) c::L) w':=by
 have hu:=run_underlying (P:=P) (Bx7 ht) w;by_cases hk:∃x∈ps,x.1=k
 ·obtain⟨⟨k',v,s⟩,hx,rfl⟩:=hk;obtain⟨j,hj,h1,h2⟩:=FI7 ps 0 hn hx;rw[Nat.zero_add]at h2;refine⟨_,?_,h.setMap⟩;rw[NR7 ps j hj hn h1];unfold Builtin.delete_;have hs:=MapKept.run_setObj_map (P:=P) (.map ((ps.eraseIdx j).map (Q7 ek)).toArray c) (h.get (b:=b) .head);have e:(ps.map (Q7 ek)).eraseIdx j=(ps.eraseIdx j).map (Q7 ek):=Fu7 (Q7 ek) ps j;simp[hu,Dc7 h,hK.chk,hK.find,h2,e,hs]
 ·have hn':∀x∈ps,x.1≠k:=fun x hx e=>hk ⟨x,hx,e⟩
  refine⟨_,?_,h.setMap⟩;rw[Hp7 hn'];unfold Builtin.delete_;have hs:=MapKept.run_setObj_map (P:=P) (.map (ps.map (Q7 ek)).toArray c) (h.get (b:=b) .head);simp[hu,Dc7 h,hK.chk,hK.find,FH7 ps 0 hn',hs]
end
end Go.Sl
end
