/-
  A range over a function, over resources: what the rounds leave is told by a resource that goes on by what comes. Over any program; no condition.
  Lists in ascending order of keys: where a key stands or would stand; what is set there. No program in sight; no condition.
  slices.Collect(maps.Keys(m)) of maps whose keys are structs: a row of the keys, each once, in some order. For every map.
  The library's contracts laid at this program: written by the kit's tool lay-plain.
-/
import Derived.Test.YtlmhakmoioogaaaGreatEconPlaysM5
import Derived.Test.YtlmhakmoioogaaaGreatEconPlaysM8
import Derived.Shelf.SlIter.Nil
import Derived.Test.YtlmhakmoioogaaaGreatProg
import Derived.Shelf.SlSortCmp.WholeK
import Derived.Shelf.SlicesG.Cmp
import Derived.Shelf.Small.Bits
import Derived.Ground.SlsfProg
import Derived.Ground.SlgcProg
import Derived.Ground.NamesProg
set_option maxHeartbeats 16000000
set_option maxRecDepth 100000
set_option linter.unusedSimpArgs false
set_option linter.unusedVariables false
section
namespace Go.Sl
open Go.RowKit
section
variable{κ ν:Type}{F:Fence}{n:Nat}{P:Program}{W w:World}{L R:List HP}{ops:Array Oper}{rest:List Oper}{o:Oper}{a:Act}{Q:Exit→Act→World→Prop}{ek:κ→Value}{ev:ν→Value}{b r:Nat}{l todo:List (κ×ν)}{t K E:TypeId}
theorem Eu7(hS:St W L w){x:Operand}(hg:o.guard=none)(hop:o.op=Op.range t x)(hx:a.eval x=.map (some b))(ht:tyMap P t=some (K,E))(hu:Take L (amap ek ev b l) R)
  (h:∀r w',St W (itR ek ev r b l l::R) w'→wpListIn F n P ops Q rest (a.put o.dst (.pointer (some ⟨r,0,none⟩))) w'):wpListIn F n P ops Q (o::rest) a w:=by
 obtain⟨r,w',hr,hS'⟩:=Gi7 (P:=P) (hS.take hu) ht
 refine wpListIn_plain hg fun K' hK'=>?_
 unfold Oper.wpIn
 refine⟨?_,?_⟩
 ·simp[Oper.about,hop]
 ·rw[Oper.semAt_plain F _ _ (by rw[hop];intro c hc';cases hc')]
  simp[execOp,hop,hx,hr,Result.andThen]
  exact hK' _ _ (h r w' hS')
theorem FL7(hS:St W (itR ek ev r b l todo::L) w){x:Operand}(hg:o.guard=none)(hop:o.op=Op.next x false)(hx:a.eval x=.pointer (some ⟨r,0,none⟩))
  (h0:todo=[]→wpListIn F n P ops Q rest (a.put o.dst (.tuple #[.bool false])) w)
  (h1:∀y todo' w',todo.Perm (y::todo')→y∈l→St W (itR ek ev r b l todo'::L) w'→(Instr.entry (.pointer (some ⟨r,0,none⟩))).run P w'=.ok (.tuple #[ek y.1,ev y.2]) w'→wpListIn F n P ops Q rest (a.put o.dst (.tuple #[.bool true,ek y.1,ev y.2])) w'):
  wpListIn F n P ops Q (o::rest) a w:=by
 refine wpListIn_plain hg fun K' hK'=>?_
 unfold Oper.wpIn
 refine⟨by simp[Oper.about,hop],?_⟩
 rw[Oper.semAt_plain F _ _ (by rw[hop];intro c hc';cases hc')]
 rcases Hx7 (P:=P) (ty:=o.type) hS with ⟨h2,hr⟩|⟨y,todo',hp,hy,w',hr,hS'⟩
 ·simp[execOp,hop,hx,hr,Result.andThen]
  exact hK' _ _ (h0 h2)
 ·simp[execOp,hop,hx,hr,Result.andThen]
  exact hK' _ _ (h1 y todo' w' hp hy (itAtR hS') (Gj7 hS'))
theorem Gt7{s x:Operand}{e:TypeId}{z:Value}{k bytes:Nat}{v xv:Value}{m1 m:Nat}{cs news:List Value}(hS:St W L w)(hg:o.guard=none)(hop:o.op=.call { callee:=.builtin .append,args:=#[s,x],argTypes:=#[t,t] })
  (hs:a.eval s=v) (hx:a.eval x=xv) (ht:tyElem P t=some e) (hi:tyRow P e=some (some z,k,bytes)) (hz:z.cells.size=k) (hk:0<k) (hu:Take L (row v k e m1 cs) R) (hsrc:SrcW w xv m news) (hl:news.length=m*k) (h1:news.all (·.oneCell')=true) (h63:m1+m≤maxLen)
  (hb:(m1+m)*bytes≤140737488355328)
  (h:∀v' w',St W (row v' k e (m1+m) (cs++news)::R) w'→wpListIn F n P ops Q rest (a.put o.dst v') w'):wpListIn F n P ops Q (o::rest) a w:=by
 refine wpListIn_plain hg fun K' hK'=>?_
 unfold Oper.wpIn
 obtain⟨v',w',hr,hS'⟩:=CP7 (P:=P) (ty:=o.type) ht hi hz hk rfl hS hu hsrc hl h1 h63 hb
 refine⟨by simp[Oper.about,hop,resolve,Target.leads,Sem.run_pure],?_⟩
 rw[Oper.semAt_plain F _ _ (by rw[hop];intro c hc';cases hc')]
 simp[execOp,hop,resolve,invoke,builtin,hs,hx,hr,Result.andThen]
 exact hK' _ _ (h v' w' hS')
theorem FM7(hF:∀f,F.fn f)(hg:o.guard=none)(hpl:∀c,o.op ≠ .defer c){v:Value}{w':World}(hr:(execOp a.eval o).run P w=.ok (.value v) w')(h:wpListIn F n P ops Q rest (a.put o.dst v) w'):wpListIn F n P ops Q (o::rest) a w:=by
 refine wpListIn_plain hg fun K' hK'=>?_
 unfold Oper.wpIn
 refine⟨fun f _=>hF f,?_⟩
 rw[Oper.semAt_plain F _ _ hpl,hr]
 exact hK' _ _ h
theorem Ov7(hF:∀f,F.fn f)(hg:o.guard=none)(hpl:∀c,o.op ≠ .defer c){w':World}(hr:(execOp a.eval o).run P w=.ok .skip w')(h:wpListIn F n P ops Q rest (a.put o.dst undef) w'):wpListIn F n P ops Q (o::rest) a w:=by
 refine wpListIn_plain hg fun K' hK'=>?_
 unfold Oper.wpIn
 refine⟨fun f _=>hF f,?_⟩
 rw[Oper.semAt_plain F _ _ hpl,hr]
 exact hK' _ _ h
theorem Dj7(hF:∀f,F.fn f){x:Operand}{b off:Nat}{v:Value}(hS:St W L w)(ho:o.op=.load t x)(hg:o.guard=none)(hx:a.eval x=.pointer (some ⟨b,off,none⟩))(ht:tyAgg P t=some false)(hc:Cell L b off v)(h:wpListIn F n P ops Q rest (a.put o.dst v) w):wpListIn F n P ops Q (o::rest) a w:=
 FM7 hF hg (fun c hc'=>by rw[ho]at hc';cases hc') (Do7 hS ho hx ht hc) h
theorem Jm7(hF:∀f,F.fn f){x:Operand}{b off:Nat}{vs:List Value}(hS:St W L w)(ho:o.op=.load t x)(hg:o.guard=none)(hx:a.eval x=.pointer (some ⟨b,off,none⟩))(ht:tyAgg P t=some true)(hn:tySize P t=some vs.length)(hc:Cells L b off vs)(h:wpListIn F n P ops Q rest (a.put o.dst (.agg vs.toArray)) w):wpListIn F n P ops Q (o::rest) a w:=
 FM7 hF hg (fun c hc'=>by rw[ho]at hc';cases hc') (EH7 hS ho hx ht hn hc) h
theorem FN7(hF:∀f,F.fn f){l:List Value}(hS:St W L w)(ho:o.op=.alloc t)(hg:o.guard=none)(hz:tyZero P t=some l)(h:∀b w',St W (blk b l t::L) w'→wpListIn F n P ops Q rest (a.put o.dst (.pointer (some ⟨b,0,none⟩))) w'):wpListIn F n P ops Q (o::rest) a w:=by
 obtain⟨b,w',hr,hS'⟩:=Ed7 (P:=P) (a:=a) hS ho hz
 exact FM7 hF hg (fun c hc'=>by rw[ho]at hc';cases hc') hr (h b w' hS')
theorem MU7(hF:∀f,F.fn f){x:Operand}{v:Value}{l:List Value}(hS:St W L w)(ho:o.op=.box t x)(hg:o.guard=none)(hx:a.eval x=v)(hv:v.cells=l.toArray)(h:∀b w',St W (blk b l t::L) w'→wpListIn F n P ops Q rest (a.put o.dst (.pointer (some ⟨b,0,none⟩))) w'):wpListIn F n P ops Q (o::rest) a w:=by
 obtain⟨b,w',hr,hS'⟩:=JD7 (P:=P) (a:=a) hS ho hx hv
 exact FM7 hF hg (fun c hc'=>by rw[ho]at hc';cases hc') hr (h b w' hS')
theorem Pn7(hF:∀f,F.fn f){L':List HP}{x y:Operand}{b off:Nat}{l vs l':List Value}{T:TypeId}{v:Value}(hS:St W L w)(ho:o.op=.store t x y)(hg:o.guard=none)(hx:a.eval x=.pointer (some ⟨b,off,none⟩))(hy:a.eval y=v)(hv:v.cells.toList=vs)
  (hn:tySize P t=some vs.length) (h1:vs.all (·.oneCell')=true) (hu:Upd L (blk b l T) (blk b l' T) L') (hl:off+vs.length≤l.length) (he:setAll l off vs=l') (h:∀w',St W L' w'→wpListIn F n P ops Q rest (a.put o.dst undef) w'):wpListIn F n P ops Q (o::rest) a w:=by
 obtain⟨w',hr,hS'⟩:=Ec7 (P:=P) (a:=a) hS ho hx hy hv hn h1 hu hl he
 exact Ov7 hF hg (fun c hc'=>by rw[ho]at hc';cases hc') hr (h w' hS')
theorem Jn7(hF:∀f,F.fn f){L':List HP}{x y:Operand}{b off:Nat}{l vs l':List Value}{T:TypeId}(hS:St W L w)(ho:o.op=.store t x y)(hg:o.guard=none)(hx:a.eval x=.pointer (some ⟨b,off,none⟩))(hy:a.eval y=.agg vs.toArray)
  (hn:tySize P t=some vs.length) (h1:vs.all (·.oneCell')=true) (hu:Upd L (blk b l T) (blk b l' T) L') (hl:off+vs.length≤l.length) (he:setAll l off vs=l') (h:∀w',St W L' w'→wpListIn F n P ops Q rest (a.put o.dst undef) w'):wpListIn F n P ops Q (o::rest) a w:=
 Pn7 hF hS ho hg hx hy (by simp[Value.cells]) hn h1 hu hl he h
theorem MV7(hF:∀f,F.fn f){L':List HP}{x y:Operand}{b off:Nat}{l l':List Value}{T:TypeId}{v:Value}(hS:St W L w)(ho:o.op=.store t x y)(hg:o.guard=none)(hx:a.eval x=.pointer (some ⟨b,off,none⟩))(hy:a.eval y=v)
  (hn:tySize P t=some 1) (hv:v.cells.toList=[v]) (h1:v.oneCell'=true) (hu:Upd L (blk b l T) (blk b l' T) L') (hl:off<l.length) (he:l.set off v=l') (h:∀w',St W L' w'→wpListIn F n P ops Q rest (a.put o.dst undef) w'):wpListIn F n P ops Q (o::rest) a w:=
 Pn7 hF hS ho hg hx hy hv hn (by simp[h1]) hu (by simp;omega) (by simpa[setAll]using he) h
theorem Po7(hF:∀f,F.fn f){e n1:TypeId}{z:Value}{k bytes:Nat}{xs:Array (Nat×Operand)}{parts:List (Nat×Value)}{l:List Value}(hS:St W L w)(ho:o.op=.buildSlice t n1 xs)(hg:o.guard=none)(hx:(xs.map fun(i,x)=>(i,a.eval x))=parts.toArray)
  (ht:tyElem P t=some e) (hi:tyRow P e=some (some z,k,bytes)) (hz:z.cells.size=k) (hn:decide (n1*k≤16777216)=true) (hp:partsOk k n1 parts=true) (hl:fillL k (zerosL z n1) parts=l)
  (h:∀b w',St W (blk b l e::L) w'→wpListIn F n P ops Q rest (a.put o.dst (.slice (some ⟨b,0,none⟩) n1 n1)) w'):wpListIn F n P ops Q (o::rest) a w:=by
 obtain⟨b,w',hr,hS'⟩:=Ff7 (P:=P) (a:=a) hS ho hx ht hi hz hn hp hl
 exact FM7 hF hg (fun c hc'=>by rw[ho]at hc';cases hc') hr (h b w' hS')
end
theorem St.putObj{W w:World}{L:List HP}{b:Nat}{o:Obj}(o':Obj)(h:St W (blkO b o::L) w):St W (blkO b o'::L) (w.putObj b o'):=by
 have hg:=h.get (b:=b) .head
 refine h.putO .head rfl rfl rfl fun k=>?_
 by_cases hk:k=b
 ·subst hk
  rw[if_pos rfl]
  exact World.putObj_heap_same (Array.getElem?_eq_some_iff.1 hg).1
 ·rw[if_neg hk]
  exact World.putObj_heap_other hk
def Takes{κ:Type}(P:Program)(ek:κ→Value)(N:Nat)(l:Nat)(W:World)(X:List κ→HP):Prop:=
 ∀(m:Nat) (pre:List κ) (x:κ) (L:List HP) (w:World),pre.length<N→St W (X pre::L) w→YieldAt Fence.wide m P l #[ek x] w fun e w'=>e=.returned (.bool true)∧St W (X (pre++[x])::L) w'
def Gives{κ:Type}(P:Program)(ek:κ→Value)(N:Nat)(gf:Nat)(lb:Array Value)(S:List κ→Prop)(W:World)(R:List HP):Prop:=
 ∀(l m:Nat) (X:List κ→HP) (w:World),Takes P ek N l W X→St W (X []::R) w→
  CallsIn Fence.wide m P gf (#[.func (.yield l) #[] #[]]++lb) w fun e w'=>(∃v,e=.returned v)∧∃ss,S ss∧St W (X ss::R) w'
theorem FO7{κ:Type}{n:Nat}{P:Program}{W w:World}{L R:List HP}{ops:Array Oper}{rest:List Oper}{o:Oper}{a:Act}{Q:Exit→Act→World→Prop}{ek:κ→Value}{x y:Operand}{ats:Array TypeId}{lp N:Nat}{k:κ}{pre:List κ}{X:List κ→HP}
  (hY:Takes P ek N lp W X) (hS:St W L w) (hop:o.op=.call { callee:=.value x,args:=#[y],argTypes:=ats }) (hg:o.guard=none) (hx:a.eval x=.func (.yield lp) #[] #[]) (hy:a.eval y=ek k) (hlt:pre.length<N) (hu:Take L (X pre) R)
  (h:∀w',St W (X (pre++[k])::R) w'→wpListIn Fence.wide n P ops Q rest (a.put o.dst (.bool true)) w'):wpListIn Fence.wide n P ops Q (o::rest) a w:=by
 obtain⟨fn,tmps,assign,body,hy2,hR⟩:=hY (n-1) pre k R w hlt (hS.take hu)
 refine wpListIn_plain hg fun K' hK'=>?_
 unfold Oper.wpIn
 refine⟨fun f _=>trivial,?_⟩
 rw[Oper.semAt_plain Fence.wide _ _ (by rw[hop];intro c hc';cases hc')]
 have e:(execOp a.eval o).run P w=.ok (.round lp fn tmps assign body) w:=by
  have ha:(#[y]:Array Operand).map a.eval=#[ek k]:=by simp[hy]
  unfold execOp
  simp only[hop,resolve,Sem.run_bind,hx,Deferred.ofValue,ha,Sem.run_pure,Result.andThen_ok]
  simp[invoke,hy2]
 rw[e,Oper.uponIn_round]
 refine⟨(fun h=>by cases h),hR.mono ?_⟩
 rintro e w3 ⟨rfl,h5⟩
 exact hK' _ _ (h w3 h5)
def rgRec(fn:FuncId)(tmps:Array Value)(ps:Array Tmp)(assign body:Code)(D:Nat)(st:LoopState)(pe:Option Code):Loop:={ state:=st,pending:=pe,fn,tmps,params:=ps,assign,body,defers:=D }
def loopR(rc:LoopState→Option Code→Loop)(l D:Nat)(I:HP):HP:=sep I (sep (blkO l (.loop (rc .ready none))) (blkO D (.deferred (some []))))
section
variable{κ:Type}{n:Nat}{P:Program}{W w:World}{L R:List HP}{a:Act}{Q:Exit→Act→World→Prop}{ek:κ→Value}
theorem loopOpen{rc:LoopState→Option Code→Loop}{l D:Nat}{I:HP}(h:St W (loopR rc l D I::L) w):St W (I::blkO l (.loop (rc .ready none))::blkO D (.deferred (some []))::L) w:=
 (St.split (St.split h).swap).s _
theorem loopShut{rc:LoopState→Option Code→Loop}{l D:Nat}{I:HP}(h:St W (I::blkO l (.loop (rc .ready none))::blkO D (.deferred (some []))::L) w):St W (loopR rc l D I::L) w:=
 St.join ((St.join (h.s (blkO l (.loop (rc .ready none))::blkO D (.deferred (some []))::I::L))).swap)
theorem rangeF{g:Operand}{p1:Tmp}{assign body:Code}{gf:Nat}{lb:Array Value}(hg:a.eval g=.func (.func gf) #[] lb)(eg:∀args w,(callFunc gf args).run P w=.ok (.enter gf args) w)
  {S:List κ→Prop} {N:Nat} {I:List κ→HP} (hseq:Gives P ek N gf lb S W R) (hS:St W (I []::R) w)
  (hround:∀(l m:Nat) (pre:List κ) (x:κ) (L:List HP) (w:World),pre.length<N→St W (I pre::L) w→assign.wpIn (Fence.wide.inRound l) m P (Exit.then (fun a1 w1=>∃J:HP,St W (J::L) w1∧∀(L2:List HP) (w2:World),St W (J::L2) w2→
   body.wpIn (Fence.wide.inRound l) m P (fun e _ w'=>e=.normal∧St W (I (pre++[x])::L2) w') a1 w2) (fun _ _ _=>False)) { tmps:=a.tmps.setIfInBounds p1 (ek x),defers:=[] } w)
  (hdone:∀(D:Nat) (ss:List κ) (w:World),S ss→St W (I ss::blkO D (.deferred (some []))::R) w→Q .normal { a with defers:={ target:=.collected D,args:=#[] }::a.defers } w):
  (Code.rangeFunc g #[p1] assign body).wpIn Fence.wide n P Q a w:=by
 refine wpIn_rangeFunc ?_
 intro fn hfn
 have h1:=(hS.alloc (.deferred (some []))).alloc (.loop (rgRec fn a.tmps #[p1] assign body w.heap.size .ready none))
 rw[World.size_alloc]at h1
 generalize hW1:(w.alloc (.deferred (some []))).alloc (.loop (rgRec fn a.tmps #[p1] assign body w.heap.size .ready none))=w1 at h1
 refine⟨w.heap.size+1,[{ target:=.collected w.heap.size,args:=#[] }],w1, { target:=.fn (.func gf) lb,args:=#[.func (.yield (w.heap.size+1)) #[] #[]] },w1,gf,
  #[.func (.yield (w.heap.size + 1)) #[] #[]] ++ lb,w1,?_,?_,?_,?_,(fun h => by cases h),?_⟩
 ·rw[←hW1];exact run_enterLoop_outer _ _ _ _ _
 ·simp only[resolve,hg]
  simp[go_sem]
 ·intro f' hf';trivial
 ·simp[invoke,go_sem,eg]
 ·have hT:Takes P ek N (w.heap.size+1) W (fun ss=>loopR (rgRec fn a.tmps #[p1] assign body w.heap.size) (w.heap.size+1) w.heap.size (I ss)):=by
   intro m pre x L' w2 hlt hS2
   have h2:=loopOpen hS2
   have hl:=h2.get (b:=w.heap.size+1) (.tail .head)
   refine⟨_,_,_,_,run_yield (P:=P) (args:=#[ek x]) hl rfl,roundIn_of_wpIn trivial ?_⟩
   have et:((rgRec fn a.tmps #[p1] assign body w.heap.size .ready none).params.zip #[ek x]).foldl (fun tmps (t,a)=>tmps.setIfInBounds t a) (rgRec fn a.tmps #[p1] assign body w.heap.size .ready none).tmps=a.tmps.setIfInBounds p1 (ek x):=by simp[rgRec]
   rw[et]
   refine wpIn_mono (hround _ _ pre x _ w2 hlt h2) ?_
   intro e a1 w1 hq
   cases e with
   | normal=>
    obtain⟨J,hJ,hb⟩:=hq
    have hl1:=hJ.get (b:=w.heap.size+1) (.tail .head)
    refine⟨_,run_beginRound (P:=P) hl1 rfl,?_⟩
    have h4:St W (J::blkO (w.heap.size+1) (.loop (rgRec fn a.tmps #[p1] assign body w.heap.size .busy none))::blkO w.heap.size (.deferred (some []))::L') _:=((hJ.swap).putObj (.loop (rgRec fn a.tmps #[p1] assign body w.heap.size .busy none))).swap
    refine wpIn_mono (hb _ _ h4) ?_
    rintro e a3 w3 ⟨rfl,h5⟩
    have hl5:=h5.get (b:=w.heap.size+1) (.tail .head)
    refine⟨_,_,run_endRound (P:=P) none hl5,rfl,?_⟩
    exact loopShut ((h5.swap).putObj (.loop (rgRec fn a.tmps #[p1] assign body w.heap.size .ready none))).swap
   | _=>exact hq
  refine(hseq (w.heap.size+1) _ (fun ss=>loopR (rgRec fn a.tmps #[p1] assign body w.heap.size) (w.heap.size+1) w.heap.size (I ss)) w1 hT (loopShut (h1.s _))).mono ?_
  rintro e w3 ⟨⟨v,rfl⟩,ss,hs,h2⟩
  have h3:=loopOpen h2
  have hl:=h3.get (b:=w.heap.size+1) (.tail .head)
  refine⟨none,_,run_endLoop (P:=P) hl (by simp[rgRec]),?_⟩
  exact hdone _ ss _ hs (((h3.swap).putObj _).drop)
end
end Go.Sl
end
section
namespace Go.Sl
section
variable{κ ν:Type}
structure Ordr(lt:κ→κ→Bool):Prop where
 irr:∀a,lt a a=false
 tr:∀a b c,lt a b=true→lt b c=true→lt a c=true
 tri:∀a b,lt a b=false→a≠b→lt b a=true
def Asc(lt:κ→κ→Bool)(l:List (κ×ν)):Prop:=l.Pairwise fun x y=>lt x.1 y.1=true
def plI(lt:κ→κ→Bool):List (κ×ν)→κ→Nat
 | [],_=>0
 | x::l,k=>if lt x.1 k=true then plI lt l k+1 else 0
def plB[DecidableEq κ](lt:κ→κ→Bool):List (κ×ν)→κ→Bool
 | [],_=>false
 | x::l,k=>if lt x.1 k=true then plB lt l k else decide (x.1=k)
def plS[DecidableEq κ](lt:κ→κ→Bool)(l:List (κ×ν))(k:κ)(v:ν):List (κ×ν):=l.take (plI lt l k)++(k,v)::l.drop (if plB lt l k=true then plI lt l k+1 else plI lt l k)
theorem Im7(lt:κ→κ→Bool)(k:κ):∀l:List (κ×ν),plI lt l k≤l.length
 | []=>Nat.le_refl _
 | x::l=>by
  have:=Im7 lt k l
  rw[plI,List.length_cons]
  split <;> omega
theorem MW7[DecidableEq κ](lt:κ→κ→Bool)(k:κ):∀l:List (κ×ν),plB lt l k=true→∃h:plI lt l k<l.length,l[plI lt l k].1=k
 | [],h=>by cases h
 | x::l,h=>by
  rw[plB]at h
  by_cases hx:lt x.1 k=true
  ·rw[if_pos hx]at h
   obtain⟨h1,h2⟩:=MW7 lt k l h
   have e:plI lt (x::l) k=plI lt l k+1:=by rw[plI,if_pos hx]
   refine⟨by rw[e,List.length_cons];omega,?_⟩
   simp only[e,List.getElem_cons_succ]
   exact h2
  ·rw[if_neg hx]at h
   have e:plI lt (x::l) k=0:=by rw[plI,if_neg hx]
   refine⟨by rw[e,List.length_cons];omega,?_⟩
   simp only[e,List.getElem_cons_zero]
   simpa using h
variable{lt:κ→κ→Bool}{l:List (κ×ν)}{k:κ}{v:ν}
theorem BO7(ho:Ordr lt)(h:Asc lt l):(l.map (·.1)).Nodup:=by
 unfold Asc at h
 refine List.pairwise_map.2 (h.imp fun{a b} hab e=>?_)
 rw[e,ho.irr]at hab
 cases hab
theorem MX7[DecidableEq κ](ho:Ordr lt)(h:Asc lt l):plB lt l k=(getL l k).isSome:=by
 induction l with
 | nil=>rfl
 | cons x l ih=>
  unfold Asc at h
  rw[List.pairwise_cons]at h
  obtain⟨h1,h2⟩:=h
  have e:getL (x::l) k=if x.1=k then some x.2 else getL l k:=by
   unfold getL
   rw[List.find?_cons]
   by_cases hk:x.1=k <;> simp[hk]
  rw[plB,e]
  by_cases hx:lt x.1 k=true
  ·have hne:x.1≠k:=fun e=>by rw[e,ho.irr]at hx;cases hx
   rw[if_pos hx,if_neg hne]
   exact ih h2
  ·rw[if_neg hx]
   by_cases hk:x.1=k
   ·rw[if_pos hk];simp[hk]
   ·rw[if_neg hk]
    have h3:lt k x.1=true:=ho.tri _ _ (by simpa using hx) hk
    have h4:getL l k=none:=by
     unfold getL
     rw[Option.map_eq_none_iff,List.find?_eq_none]
     intro y hy
     simp only[decide_eq_true_eq]
     intro e
     have h5:=ho.tr _ _ _ h3 (h1 y hy)
     rw[e,ho.irr]at h5
     cases h5
    rw[h4];simp[hk]
theorem MY7(ho:Ordr lt){l':List (κ×ν)}(h:Asc lt l)(h':Asc lt l')(hp:l.Perm l'):l=l':=by
 unfold Asc at h h'
 exact List.Perm.eq_of_pairwise (fun a b _ _ h1 h2=>by
  have:=ho.tr _ _ _ h1 h2
  rw[ho.irr]at this
  cases this) h h' hp
theorem FP7[DecidableEq κ](ho:Ordr lt):∀(l:List (κ×ν)) (k:κ),Asc lt l→(∀x∈l.take (plI lt l k),lt x.1 k=true)∧(∀y∈l.drop (if plB lt l k=true then plI lt l k+1 else plI lt l k),lt k y.1=true)
 | [],k,_=>⟨fun x hx=>(by simp at hx),fun y hy=>(by simp[plI,plB]at hy)⟩
 | z::l,k,h=>by
  unfold Asc at h
  rw[List.pairwise_cons]at h
  obtain⟨h1,h2⟩:=h
  rw[plI,plB]
  by_cases hx:lt z.1 k=true
  ·rw[if_pos hx,if_pos hx]
   obtain⟨i1,i2⟩:=FP7 ho l k h2
   refine⟨?_,?_⟩
   ·intro x hx2
    rw[List.take_succ_cons]at hx2
    rcases List.mem_cons.1 hx2 with rfl|hx2
    ·exact hx
    ·exact i1 x hx2
   ·intro y hy
    refine i2 y ?_
    split at hy
    ·rename_i h3
     rw[if_pos h3]
     simpa using hy
    ·rename_i h3
     rw[if_neg h3]
     simpa using hy
  ·rw[if_neg hx,if_neg hx]
   refine⟨fun x hx2=>(by simp at hx2),?_⟩
   intro y hy
   by_cases hk:z.1=k
   ·rw[if_pos (by simp[hk])]at hy
    rw[←hk]
    exact h1 y (by simpa using hy)
   ·rw[if_neg (by simp[hk])]at hy
    have h3:lt k z.1=true:=ho.tri _ _ (by simpa using hx) hk
    rcases List.mem_cons.1 (by simpa using hy)with rfl|hy
    ·exact h3
    ·exact ho.tr _ _ _ h3 (h1 y hy)
theorem Ha7[DecidableEq κ](ho:Ordr lt)(h:Asc lt l):Asc lt (plS lt l k v):=by
 obtain⟨h1,h2⟩:=FP7 ho l k h
 unfold Asc at h ⊢
 unfold plS
 rw[List.pairwise_append,List.pairwise_cons]
 refine⟨h.sublist (List.take_sublist _ _),⟨h2,h.sublist (List.drop_sublist _ _)⟩,?_⟩
 intro x hx y hy
 rcases List.mem_cons.1 hy with rfl|hy
 ·exact h1 x hx
 ·exact ho.tr _ _ _ (h1 x hx) (h2 y hy)
theorem DP7[DecidableEq κ](ho:Ordr lt)(h:Asc lt l):(plS lt l k v).Perm ((k,v)::delL l k):=by
 obtain⟨h1,h2⟩:=FP7 ho l k h
 have e:delL l k=l.take (plI lt l k)++l.drop (if plB lt l k=true then plI lt l k+1 else plI lt l k):=by
  have hl:l=l.take (plI lt l k)++l.drop (plI lt l k):=(List.take_append_drop _ _).symm
  have hd:∀(t:List (κ×ν)),(∀x∈t,x.1≠k)→delL t k=t:=fun t ht=>BG7 ht
  have ha:∀(s t:List (κ×ν)),delL (s++t) k=delL s k++delL t k:=fun s t=>by unfold delL;rw[List.filter_append]
  have ht1:delL (l.take (plI lt l k)) k=l.take (plI lt l k):=hd _ fun x hx e=>by
   have:=h1 x hx
   rw[e,ho.irr]at this
   cases this
  have ht2:∀y∈l.drop (if plB lt l k=true then plI lt l k+1 else plI lt l k),y.1≠k:=fun y hy e=>by
   have:=h2 y hy
   rw[e,ho.irr]at this
   cases this
  by_cases hb:plB lt l k=true
  ·obtain⟨h3,h4⟩:=MW7 lt k l hb
   rw[if_pos hb]at ht2 ⊢
   conv=>lhs;rw[hl]
   rw[ha,ht1]
   congr 1
   rw[List.drop_eq_getElem_cons h3]
   have:delL (l[plI lt l k]::l.drop (plI lt l k+1)) k=delL (l.drop (plI lt l k+1)) k:=by
    unfold delL
    rw[List.filter_cons,if_neg (by simp[h4])]
   rw[this,hd _ ht2]
  ·rw[if_neg hb]at ht2 ⊢
   conv=>lhs;rw[hl]
   rw[ha,ht1,hd _ ht2]
 rw[e]
 unfold plS
 exact List.perm_middle
end
theorem EY7:Ordr (fun a b:Int=>decide (a<b)):=⟨fun a=>by simp,fun a b c h1 h2=>by simp at *;omega,fun a b h1 h2=>by simp at *;omega⟩
abbrev ltW(a b:Int×Int):Bool:=decide (a.1<b.1∨(a.1=b.1∧a.2<b.2))
theorem Ax7:Ordr ltW:=⟨fun a=>by simp[ltW],fun a b c h1 h2=>by simp[ltW]at *;omega,fun a b h1 h2=>by
 obtain⟨a1,a2⟩:=a
 obtain⟨b1,b2⟩:=b
 simp only[ltW,ne_eq,Prod.mk.injEq,decide_eq_false_iff_not,decide_eq_true_eq]at *
 omega⟩
end Go.Sl
end
section
namespace Go.Proofs.YtlmhakmoioogaaaGreat
open Go.RowKit Go.Sl
abbrev eWh(x:Int×Int):Value:=.agg #[.int .i64 x.1,.int .i64 x.2]
def whC(x:Int×Int):List Value:=[.int .i64 x.1,.int .i64 x.2]
theorem Cg7(x:Int×Int):(whC x).length=2:=rfl
theorem allF(f:FuncId):Fence.wide.fn f:=trivial
theorem allR(l:Nat)(f:FuncId):(Fence.wide.inRound l).fn f:=trivial
def KyR{ν:Type}(W:World)(ev:ν→Value)(X:List (Int×Int)→HP)(r b:Nat)(l:List ((Int×Int)×ν))(L:List HP)(w:World):Prop:=
 ∃(ss:List (Int×Int)) (todo:List ((Int×Int)×ν)),(ss++todo.map (·.1)).Perm (l.map (·.1))∧St W (itR eWh ev r b l todo::X ss::L) w
theorem Ow7{ν:Type}{ev:ν→Value}{m lp g b:Nat}{l:List ((Int×Int)×ν)}{X:List (Int×Int)→HP}{W w:World}{L:List HP}(hY:Takes Tryz.prog eWh l.length lp W X)(hS:St W (X []::blk g [.map (some b)] 81::amap eWh ev b l::L) w):
  CallsIn Fence.wide m Tryz.prog 110 #[.func (.yield lp) #[] #[],.pointer (some ⟨g,0,none⟩)] w fun e w'=>(∃v,e=.returned v)∧∃ss,ss.Perm (l.map (·.1))∧St W (X ss::blk g [.map (some b)] 81::amap eWh ev b l::L) w':=by
 refine callsIn_of_wp Tryz.func110 rfl trivial ?_ rfl
 simp only[Tryz.ntmps110,List.size_toArray,List.length_cons,List.length_nil,Nat.reduceAdd,Nat.reduceSub,Array.replicate_succ,Array.replicate_zero,List.push_toArray,List.append_toArray,List.nil_append,List.cons_append]
 gi_wp2_with (first|((with_reducible apply Dj7 allF hS);(with_reducible rfl);rfl;rfl;decide +kernel;(exact celS);go_frame)|(gi_at_range;refine Eu7 (ek:=eWh) (ev:=ev) hS rfl rfl rfl (show tyMap Tryz.prog 81=some (94,40)by kernel_rfl) (by exact takeS) ?_;clear hS;intro r w hS;go_frame)|gi_in)
 gi_loopw [] (fun wr=>KyR W ev X r b l (blk g [.map (some b)] 81::L) wr) (fun wr=>itLeft r b wr)
 case atStart=>exact⟨[],l,by simp,hS⟩
 case round=>
  clear hS
  obtain⟨ss,todo,hp,hS⟩:=hrel
  have hm:=Bp7 hS
  gi_wp2_with (first|(gi_at_next;refine FL7 (ek:=eWh) (ev:=ev) hS rfl rfl rfl ?_ ?_)|gi_in)
  ·intro h0
   subst h0
   gi_wp2
   go_end0
   exact⟨⟨_,rfl⟩,ss,by simpa using hp,(itEnd hS).s _⟩
  ·intro y1 y2 yv todo' w2 hp2 hy hS2 hen
   have hlen:=hp.length_eq
   have hlen2:=hp2.length_eq
   simp only[List.length_append,List.length_map,List.length_cons]at hlen hlen2
   have hp3:(ss++[(y1,y2)]++todo'.map (·.1)).Perm (l.map (·.1)):=by
    rw[List.append_assoc]
    refine List.Perm.trans ?_ hp
    exact List.Perm.append_left ss (show((((y1,y2),yv)::todo').map (fun x=>x.1)).Perm (todo.map (fun x=>x.1))from(hp2.map (fun x=>x.1)).symm)
   clear hS hy hp hp2
   have hS:=hS2
   clear hS2
   gi_wp2_with (first|((with_reducible apply FN7 allF hS);(with_reducible rfl);rfl;(exact zsS);clear hS;intro bK w hS;go_frame)|((with_reducible apply Jn7 allF hS);(with_reducible rfl);rfl;rfl;(focus((conv=>lhs;whnf);try rfl));kernel_rfl;rfl;(exact updS);(simp only[List.length_cons,List.length_nil];omega);((simp only[List.set_cons_zero,List.set_cons_succ,setAll]);rfl);clear hS;intro w hS;go_frame)|((with_reducible apply Jm7 allF hS);(with_reducible rfl);rfl;rfl;decide +kernel;kernel_rfl;(exact cesS);go_frame)|((with_reducible apply FO7 (k:=(y1,y2)) (pre:=ss) hY hS);(with_reducible rfl);rfl;rfl;rfl;omega;(exact takeS);clear hS;intro w hS;go_frame)|gi_in)
   go_roundw
   case rel=>exact⟨ss++[(y1,y2)],todo',hp3,hS.s _⟩
   case measure=>
    have hm2:=Bp7 (hS.s (itR eWh ev r b l todo'::X (ss++[(y1,y2)])::blk g [.map (some b)] 81::L))
    omega
def apI(bB:Nat)(ss:List (Int×Int)):HP:=fun f=>∃v,sep (blk bB [v] 91) (row v 2 94 ss.length (ss.flatMap whC)) f
theorem appendW{gf:Nat}{lb:Array Value}{S:List (Int×Int)→Prop}{N:Nat}{W w:World}{R:List HP}(hN:N≤1000000000)(hseq0:Gives Tryz.prog eWh N gf lb S W R)(eg:∀args w,(callFunc gf args).run Tryz.prog w=.ok (.enter gf args) w)(hS:St W R w):
  Calls Tryz.prog 175 #[.slice none 0 0,.func (.func gf) #[] lb] w fun e w'=>∃v ss,e=.returned v∧S ss∧St W (row v 2 94 ss.length (ss.flatMap whC)::R) w':=by
 refine(callsIn_wide (n:=5)).1 ?_
 refine callsIn_of_wp_marks Tryz.func175 rfl trivial ?_ rfl
 simp only[Tryz.ntmps175,List.size_toArray,List.length_cons,List.length_nil,Nat.reduceAdd,Nat.reduceSub,Array.replicate_succ,Array.replicate_zero,List.push_toArray,List.append_toArray,List.nil_append,List.cons_append]
 gi_wp2_with (first|((with_reducible apply MU7 allF hS);(with_reducible rfl);rfl;rfl;rfl;clear hS;intro bB w hS;go_frame)|gi_in)
 have h0:St W (apI bB []::R) w:=St.mkEx (.slice none 0 0) (St.join (St.swap (hS.rowNil (k:=2) (T:=94))))
 clear hS
 refine rangeF rfl eg hseq0 h0 ?_ ?_
 ·clear hseq0 h0 eg
  intro l m pre x L w hlt hS0
  obtain⟨v,hS1⟩:=St.ex hS0
  have hS:=St.split hS1
  clear hS0 hS1
  obtain⟨x1,x2⟩:=x
  simp only[fA,fB,fC,Nat.reduceAdd]
  gi_wp2_with (first|((with_reducible apply FN7 (allR _) hS);(with_reducible rfl);rfl;(exact zsS);clear hS;intro bK w hS;go_frame)|((with_reducible apply Jn7 (allR _) hS);(with_reducible rfl);rfl;rfl;(focus((conv=>lhs;whnf);try rfl));kernel_rfl;rfl;(exact updS);(simp only[List.length_cons,List.length_nil];omega);((simp only[List.set_cons_zero,List.set_cons_succ,setAll]);rfl);clear hS;intro w hS;go_frame)|gi_in)
  refine⟨_,St.join (St.join hS),?_⟩
  clear hS
  intro L2 w2 hS2
  have hS:=St.split (St.split hS2)
  clear hS2
  gi_wp2_with (first|((with_reducible apply Dj7 (allR _) hS);(with_reducible rfl);rfl;rfl;decide +kernel;(exact celS);go_frame)|((with_reducible apply Jm7 (allR _) hS);(with_reducible rfl);rfl;rfl;decide +kernel;kernel_rfl;(exact cesS);go_frame)|((with_reducible apply Po7 (allR _) hS);(with_reducible rfl);rfl;(focus(simp only[fD,fI,fJ,Act.eval,fE,fF,fG,fH,fK];try rfl));(exact esS);(exact rsS);rfl;rfl;rfl;rfl;clear hS;intro bS w hS;go_frame)|((with_reducible apply Gt7 hS);(with_reducible rfl);rfl;rfl;rfl;(exact esS);(exact rsS);rfl;decide;(exact takeS);(exact(Src.mk Cells.whole).at hS);rfl;rfl;(unfold maxLen;omega);omega;clear hS;intro v w hS;(have hv:=hS.rowVal;obtain⟨va,vc,rfl⟩:=hv);go_frame)|((with_reducible apply MV7 (allR _) hS);(with_reducible rfl);rfl;rfl;(focus((conv=>lhs;whnf);try rfl));kernel_rfl;rfl;rfl;(exact updS);(simp only[List.length_cons,List.length_nil];omega);((simp only[List.set_cons_zero,List.set_cons_succ,setAll]);rfl);clear hS;intro w hS;go_frame)|gi_in)
  have e1:(pre++[(x1,x2)]).length=pre.length+1:=by simp
  have e2:(pre++[(x1,x2)]).flatMap whC=pre.flatMap whC++[.int .i64 x1,.int .i64 x2]:=by rw[List.flatMap_append];rfl
  have hS1:=hS.s (blk bB [_] _::row _ 2 _ _ _::L2)
  have hS2:St W (blk bB [.slice va (pre.length+1) vc] 91::row (.slice va (pre.length+1) vc) 2 94 (pre.length+1) (pre.flatMap whC++[.int .i64 x1,.int .i64 x2])::L2) w:=hS1
  rw[←e2]at hS2
  rw[←e1]at hS2
  exact St.mkEx _ (St.join hS2)
 ·clear hseq0 h0 eg
  intro D ss w hs hS0
  obtain⟨v,hS1⟩:=St.ex hS0
  have hS:=St.split hS1
  clear hS0 hS1
  have hK:=hS.get (b:=D) (.tail (.tail .head))
  gi_wp2_with (first|((with_reducible apply Dj7 allF hS);(with_reducible rfl);rfl;rfl;decide +kernel;(exact celS);go_frame)|gi_in)
  refine⟨by simp,.inl ⟨_,_,rfl,run_takeDeferred hK,?_⟩⟩
  have hS2:=(hS.s (blkO D (.deferred (some []))::row v 2 94 ss.length (ss.flatMap whC)::R)).putObj (.deferred none)
  exact⟨_,results_tmp rfl _ _ _,v,ss,rfl,hs,hS2.drop⟩
end Go.Proofs.YtlmhakmoioogaaaGreat
end
section
namespace Go.Proofs.YtlmhakmoioogaaaGreat
open Go.Shelf
def Tryz.sortWh_ren:Go.Shelf.Ren:=⟨fun|6=>109|15=>177|14=>176|28=>224|29=>225|20=>216|21=>217|22=>218|23=>219|24=>220|25=>221|26=>222|27=>223|46=>251|47=>252|48=>253|49=>254|50=>255|57=>272|n=>n,fun|22=>91|24=>94|25=>98|3=>3|39=>195|0=>0|53=>295|55=>194|4=>4|46=>289|45=>288|50=>134|5=>5|9=>9|66=>318|70=>262|76=>332|77=>181|n=>n,fun|n=>n⟩
theorem Tryz.sortWh:Go.Proofs.SlLaysF0.n6 Tryz.prog Tryz.sortWh_ren:={
 mixed:=by kernel_rfl
 f6:=⟨Tryz.f109.name,by decide,Tryz.func109.trans (congrArg some (by kernel_rfl))⟩
 f14:=⟨Tryz.f176.name,by decide,Tryz.func176.trans (congrArg some (by kernel_rfl))⟩
 f15:=Tryz.func177.trans (congrArg some (by kernel_rfl))
 f20:=⟨Tryz.f216.name,by decide,Tryz.func216.trans (congrArg some (by kernel_rfl))⟩
 f21:=⟨Tryz.f217.name,by decide,Tryz.func217.trans (congrArg some (by kernel_rfl))⟩
 f22:=⟨Tryz.f218.name,by decide,Tryz.func218.trans (congrArg some (by kernel_rfl))⟩
 f23:=⟨Tryz.f219.name,by decide,Tryz.func219.trans (congrArg some (by kernel_rfl))⟩
 f24:=⟨Tryz.f220.name,by decide,Tryz.func220.trans (congrArg some (by kernel_rfl))⟩
 f25:=⟨Tryz.f221.name,by decide,Tryz.func221.trans (congrArg some (by kernel_rfl))⟩
 f26:=⟨Tryz.f222.name,by decide,Tryz.func222.trans (congrArg some (by kernel_rfl))⟩
 f27:=⟨Tryz.f223.name,by decide,Tryz.func223.trans (congrArg some (by kernel_rfl))⟩
 f28:=Tryz.func224.trans (congrArg some (by kernel_rfl))
 f29:=Tryz.func225.trans (congrArg some (by kernel_rfl))
 f46:=⟨Tryz.f251.name,by decide,Tryz.func251.trans (congrArg some (by kernel_rfl))⟩
 f47:=Tryz.func252.trans (congrArg some (by kernel_rfl))
 f48:=Tryz.func253.trans (congrArg some (by kernel_rfl))
 f49:=⟨Tryz.f254.name,by decide,Tryz.func254.trans (congrArg some (by kernel_rfl))⟩
 f50:=⟨Tryz.f255.name,by decide,Tryz.func255.trans (congrArg some (by kernel_rfl))⟩
 f57:=⟨Tryz.f272.name,by decide,Tryz.func272.trans (congrArg some (by kernel_rfl))⟩
 t0:=Tryz.underlying0
 a0:=Tryz.isAgg0
 z0:=Tryz.sizeOf0
 v0:=Tryz.zeroValue0
 t3:=Tryz.underlying3
 a3:=Tryz.isAgg3
 z3:=Tryz.sizeOf3
 v3:=Tryz.zeroValue3
 t4:=Tryz.underlying4
 a4:=Tryz.isAgg4
 z4:=Tryz.sizeOf4
 v4:=Tryz.zeroValue4
 t5:=Tryz.underlying5
 a5:=Tryz.isAgg5
 z5:=Tryz.sizeOf5
 v5:=Tryz.zeroValue5
 t9:=Tryz.underlying9
 a9:=Tryz.isAgg9
 z9:=Tryz.sizeOf9
 v9:=Tryz.zeroValue9
 t22:=Tryz.underlying91
 a22:=Tryz.isAgg91
 z22:=Tryz.sizeOf91
 v22:=Tryz.zeroValue91
 t25:=Tryz.underlying98
 a25:=Tryz.isAgg98
 z25:=Tryz.sizeOf98
 v25:=Tryz.zeroValue98
 t39:=Tryz.underlying195
 a39:=Tryz.isAgg195
 z39:=Tryz.sizeOf195
 v39:=Tryz.zeroValue195
 t45:=Tryz.underlying288
 a45:=Tryz.isAgg288
 z45:=Tryz.sizeOf288
 v45:=Tryz.zeroValue288
 t46:=Tryz.underlying289
 a46:=Tryz.isAgg289
 z46:=Tryz.sizeOf289
 v46:=Tryz.zeroValue289
 t50:=Tryz.underlying134
 a50:=Tryz.isAgg134
 z50:=Tryz.sizeOf134
 v50:=Tryz.zeroValue134
 t53:=Tryz.underlying295
 a53:=Tryz.isAgg295
 z53:=Tryz.sizeOf295
 v53:=Tryz.zeroValue295
 t55:=Tryz.underlying194
 a55:=Tryz.isAgg194
 z55:=Tryz.sizeOf194
 v55:=Tryz.zeroValue194
 t66:=Tryz.underlying318
 a66:=Tryz.isAgg318
 z66:=Tryz.sizeOf318
 v66:=Tryz.zeroValue318
 t70:=Tryz.underlying262
 a70:=Tryz.isAgg262
 z70:=Tryz.sizeOf262
 v70:=Tryz.zeroValue262
 t76:=Tryz.underlying332
 a76:=Tryz.isAgg332
 z76:=Tryz.sizeOf332
 v76:=Tryz.zeroValue332
 t77:=Tryz.underlying181
 a77:=Tryz.isAgg181
 z77:=Tryz.sizeOf181
 v77:=Tryz.zeroValue181 }
def Tryz.cmpIntW_ren:Go.Shelf.Ren:=⟨fun|5=>112|7=>178|n=>n,fun|22=>3|3=>3|4=>4|n=>n,fun|n=>n⟩
theorem Tryz.cmpIntW:Go.Proofs.SlLaysC2.n5 Tryz.prog Tryz.cmpIntW_ren:={
 mixed:=by kernel_rfl
 f5:=⟨Tryz.f112.name,by decide,Tryz.func112.trans (congrArg some (by kernel_rfl))⟩
 f7:=⟨Tryz.f178.name,by decide,Tryz.func178.trans (congrArg some (by kernel_rfl))⟩
 t3:=Tryz.underlying3
 a3:=Tryz.isAgg3
 z3:=Tryz.sizeOf3
 v3:=Tryz.zeroValue3
 t4:=Tryz.underlying4
 a4:=Tryz.isAgg4
 z4:=Tryz.sizeOf4
 v4:=Tryz.zeroValue4
 t22:=Tryz.underlying3
 a22:=Tryz.isAgg3
 z22:=Tryz.sizeOf3
 v22:=Tryz.zeroValue3 }
def Tryz.bitsLenW_ren:Go.Shelf.Ren:=⟨fun|125=>177|128=>224|129=>225|n=>n,fun|46=>195|3=>3|51=>295|53=>194|4=>4|5=>5|9=>9|n=>n,fun|n=>n⟩
theorem Tryz.bitsLenW:Go.Proofs.Lays.n125 Tryz.prog Tryz.bitsLenW_ren:={
 mixed:=by kernel_rfl
 f125:=Tryz.func177.trans (congrArg some (by kernel_rfl))
 f128:=Tryz.func224.trans (congrArg some (by kernel_rfl))
 f129:=Tryz.func225.trans (congrArg some (by kernel_rfl))
 t3:=Tryz.underlying3
 a3:=Tryz.isAgg3
 z3:=Tryz.sizeOf3
 v3:=Tryz.zeroValue3
 t4:=Tryz.underlying4
 a4:=Tryz.isAgg4
 z4:=Tryz.sizeOf4
 v4:=Tryz.zeroValue4
 t5:=Tryz.underlying5
 a5:=Tryz.isAgg5
 z5:=Tryz.sizeOf5
 v5:=Tryz.zeroValue5
 t9:=Tryz.underlying9
 a9:=Tryz.isAgg9
 z9:=Tryz.sizeOf9
 v9:=Tryz.zeroValue9
 t46:=Tryz.underlying195
 a46:=Tryz.isAgg195
 z46:=Tryz.sizeOf195
 v46:=Tryz.zeroValue195
 t51:=Tryz.underlying295
 a51:=Tryz.isAgg295
 z51:=Tryz.sizeOf295
 v51:=Tryz.zeroValue295
 t53:=Tryz.underlying194
 a53:=Tryz.isAgg194
 z53:=Tryz.sizeOf194
 v53:=Tryz.zeroValue194 }
end Go.Proofs.YtlmhakmoioogaaaGreat
end
