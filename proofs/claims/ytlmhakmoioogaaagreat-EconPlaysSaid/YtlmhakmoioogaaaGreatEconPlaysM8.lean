/-
  Maps as resources up to order: what may be done to a map while a range walks over it; the walk's rules. Over any program; no condition.
  The vault's purses: Has, lays, Put, Take. For every vault.
  The vault's Put and Take. For every vault.
-/
import Derived.Test.YtlmhakmoioogaaaGreatEconPlaysM3
import Derived.Test.YtlmhakmoioogaaaGreatEconPlaysM4
import Derived.Test.YtlmhakmoioogaaaGreatEconPlaysM5
import Derived.Test.YtlmhakmoioogaaaGreatEconPlaysM6
import Derived.Test.YtlmhakmoioogaaaGreatEconPlaysM7
set_option maxHeartbeats 16000000
set_option maxRecDepth 100000
set_option linter.unusedSimpArgs false
set_option linter.unusedVariables false
section
namespace Go.Sl
open Go.RowKit
section
variable{κ ν:Type}
end
section
variable{κ ν:Type}[DecidableEq κ]{W w:World}{L:List HP}{ek:κ→Value}{ev:ν→Value}{b r:Nat}{l todo:List (κ×ν)}{P:Program}{t K E:TypeId}
end
section
variable{κ ν:Type}{W w:World}{L:List HP}{ek:κ→Value}{ev:ν→Value}{b r:Nat}{l todo:List (κ×ν)}{P:Program}{t K E:TypeId}
theorem NL7{ty:TypeId}(h:St W (amap ek ev b l::L) w)(ht:tyMap P t=some (K,E)):(Builtin.len_ #[t] ty #[.map (some b)]).run P w=.ok (.int .i64 l.length) w:=by
 obtain⟨ps,c,h1,h2,h3⟩:=amapOpen h
 have hl:ps.length=l.length:=by have:=h1.length_eq;rwa [List.length_map]at this
 simp[Builtin.len_,run_underlying (P:=P) (Bg7 ht),CE7 h3,goInt,hl]
end
section
variable{κ ν:Type}{W w:World}{L R:List HP}{ek:κ→Value}{ev:ν→Value}{b r:Nat}{l todo:List (κ×ν)}{P:Program}{t K E:TypeId}{ops:Array Oper}{Q:Exit→Act→World→Prop}{a:Act}{rest:List Oper}{o:Oper}
theorem Dv7(ek:κ→Value)(ev:ν→Value)(hS:St W L w)(ho:o.op=.makeMap t none)(hg:Region.wanted o (yielded ops a.tmps)=true)
  (h:∀b w',St W (amap ek ev b []::L) w'→wpList P ops Q rest (a.put o.dst (.map (some b))) w'):wpList P ops Q (o::rest) a w:=by
 obtain⟨b,w',hr,hS'⟩:=LN7 (P:=P) (t:=t) (ek:=ek) (ev:=ev) hS
 refine Al7 hg (v:=.map (some b)) (w':=w') ?_ (h b w' hS')
 unfold execOp
 simp[ho,hr]
theorem GC7{x:Operand}(hS:St W L w)(ho:o.op=.call { callee:=.builtin .len,args:=#[x],argTypes:=#[t] })(hg:Region.wanted o (yielded ops a.tmps)=true)
  (hx:a.eval x=.map (some b)) (ht:tyMap P t=some (K,E)) (hu:Take L (amap ek ev b l) R) (h:wpList P ops Q rest (a.put o.dst (.int .i64 l.length)) w):wpList P ops Q (o::rest) a w:=by
 refine Al7 hg (v:=.int .i64 l.length) (w':=w) ?_ h
 unfold execOp
 simp[ho,resolve,invoke,builtin,hx,NL7 (hS.take hu) ht]
theorem LP7{x:Operand}(hS:St W L w)(ho:o.op=.range t x)(hg:Region.wanted o (yielded ops a.tmps)=true)(hx:a.eval x=.map (some b))(ht:tyMap P t=some (K,E))(hu:Take L (amap ek ev b l) R)
  (h:∀r w',St W (itR ek ev r b l l::R) w'→wpList P ops Q rest (a.put o.dst (.pointer (some ⟨r,0,none⟩))) w'):wpList P ops Q (o::rest) a w:=by
 obtain⟨r,w',hr,hS'⟩:=Gi7 (P:=P) (hS.take hu) ht
 refine Al7 hg (v:=.pointer (some ⟨r,0,none⟩)) (w':=w') ?_ (h r w' hS')
 unfold execOp
 simp[ho,hx,hr]
theorem JR7{x:Operand}(hS:St W L w)(ho:o.op=.next x false)(hg:Region.wanted o (yielded ops a.tmps)=true)(hx:a.eval x=.pointer (some ⟨r,0,none⟩))(hu:Take L (itR ek ev r b l todo) R)
  (h0:todo=[]→wpList P ops Q rest (a.put o.dst (.tuple #[.bool false])) w)
  (h1:∀y todo',todo.Perm (y::todo')→y∈l→∀w',St W (itAt ek ev r b l todo' y::R) w'→wpList P ops Q rest (a.put o.dst (.tuple #[.bool true,ek y.1,ev y.2])) w'):wpList P ops Q (o::rest) a w:=by
 rcases Hx7 (P:=P) (ty:=o.type) (hS.take hu)with ⟨h2,hr⟩|⟨y,todo',hp,hy,w',hr,hS'⟩
 ·refine Al7 hg (v:=.tuple #[.bool false]) (w':=w) ?_ (h0 h2)
  unfold execOp
  simp[ho,hx,hr]
 ·refine Al7 hg (v:=.tuple #[.bool true,ek y.1,ev y.2]) (w':=w') ?_ (h1 y todo' hp hy w' hS')
  unfold execOp
  simp[ho,hx,hr]
theorem LQ7{x:Operand}{y:κ×ν}(hS:St W L w)(ho:o.op=.entry x)(hg:Region.wanted o (yielded ops a.tmps)=true)(hx:a.eval x=.pointer (some ⟨r,0,none⟩))(hu:Take L (itAt ek ev r b l todo y) R)
  (h:St W (itR ek ev r b l todo::R) w→wpList P ops Q rest (a.put o.dst (.tuple #[ek y.1,ev y.2])) w):wpList P ops Q (o::rest) a w:=by
 refine Al7 hg (v:=.tuple #[ek y.1,ev y.2]) (w':=w) ?_ (h (itAtR (hS.take hu)))
 unfold execOp
 simp[ho,hx,Gj7 (hS.take hu)]
theorem LR7{x:Operand}(hS:St W L w)(ho:o.op=.next x false)(hg:Region.wanted o (yielded ops a.tmps)=true)(hx:a.eval x=.pointer (some ⟨r,0,none⟩))(hu:Take L (itR ek ev r b l todo) R)(ht:todo=[])
  (h0:wpList P ops Q rest (a.put o.dst (.tuple #[.bool false])) w):wpList P ops Q (o::rest) a w:=
 JR7 hS ho hg hx hu (fun _=>h0) (fun y todo' hp _ _ _=>by rw[ht]at hp;exact absurd hp.length_eq (by simp))
theorem LS7{x:Operand}(hS:St W L w)(ho:o.op=.next x false)(hg:Region.wanted o (yielded ops a.tmps)=true)(hx:a.eval x=.pointer (some ⟨r,0,none⟩))(hu:Take L (itR ek ev r b l todo) R)(ht:todo≠[])
  (h1:∀y todo',todo.Perm (y::todo')→y∈l→∀w',St W (itAt ek ev r b l todo' y::R) w'→wpList P ops Q rest (a.put o.dst (.tuple #[.bool true,ek y.1,ev y.2])) w'):wpList P ops Q (o::rest) a w:=
 JR7 hS ho hg hx hu (fun h=>absurd h ht) h1
def itLeft(r b:Nat)(w:World):Nat:=match w.heap[r]?,w.heap[b]? with
 | some (.mapIter _ _ seen _),some (.map es _)=>(es.toList.filter fun e=>decide (e.born∉seen)).length
 | _,_=>0
theorem Bp7(h:St W (itR ek ev r b l todo::L) w):itLeft r b w=todo.length:=by
 obtain⟨⟨ps,c,since,c0,seen⟩,⟨h1,h2,h3,h4,h5⟩,hS⟩:=itOpen h
 have e1:=hS.get (b:=r) .head
 have e2:=hS.get (b:=b) (.tail .head)
 unfold itLeft
 rw[e1,e2]
 have e3:(((ps.map (evs ev)).map (entA ek)).toArray.toList.filter fun e=>decide (e.born∉seen)).length=(ps.filter fun x=>decide (x.2.2∉seen)).length:=by
  show(((ps.map (evs ev)).map (entA ek)).filter _).length=_
  rw[List.map_map,List.filter_map,List.length_map]
  rfl
 have e4:=h5.length_eq
 rw[List.length_map]at e4
 exact e3.trans e4
variable[DecidableEq κ]
def lookR(ok:Bool)(z:Value):Option Value→Value
 | some v=>if ok then .tuple #[v,.bool true]else v
 | none=>if ok then .tuple #[z,.bool false]else z
def getL(l:List (κ×ν))(k:κ):Option ν:=(l.find? fun x=>decide (x.1=k)).map (·.2)
theorem BH7{k:κ}(h:getL l k=none):∀x∈l,x.1≠k:=by
 unfold getL at h
 rw[Option.map_eq_none_iff,List.find?_eq_none]at h
 intro x hx
 simpa using h x hx
theorem AK7{k:κ}{v:ν}(h:getL l k=some v):(k,v)∈l:=by
 unfold getL at h
 obtain⟨x,hx,rfl⟩:=Option.map_eq_some_iff.1 h
 have h1:=List.find?_some hx
 have h2:=List.mem_of_find?_eq_some hx
 simp only[decide_eq_true_eq]at h1
 rw[←h1];exact h2
theorem GD7{k:κ}(h:∀x∈l,x.1≠k):getL l k=none:=by
 unfold getL
 rw[Option.map_eq_none_iff,List.find?_eq_none]
 intro x hx
 simpa using h x hx
theorem Bh7{k:κ}{v:ν}(hn:(l.map (·.1)).Nodup)(h:(k,v)∈l):getL l k=some v:=by
 induction l with
 | nil=>cases h
 | cons x l ih=>
  rw[List.map_cons,List.nodup_cons]at hn
  unfold getL at ih ⊢
  rcases List.mem_cons.1 h with h1|h1
  ·subst h1;simp
  ·have hx:x.1≠k:=fun e=>hn.1 (List.mem_map.2 ⟨_,h1,e.symm⟩)
   rw[List.find?_cons_of_neg (by simpa using hx)]
   exact ih hn.2 h1
theorem AA7{l l':List (κ×ν)}(hn:(l.map (·.1)).Nodup)(hp:l.Perm l')(k:κ):getL l k=getL l' k:=by
 cases h:getL l k with
 | some v=>exact(Bh7 ((hp.map (·.1)).nodup_iff.1 hn) (hp.mem_iff.1 (AK7 h))).symm
 | none=>exact(GD7 fun x hx=>BH7 h x (hp.mem_iff.2 hx)).symm
theorem Dw7{k:κ}{z:Value}{ok:Bool}(h:St W (amap ek ev b l::L) w)(ht:tyMap P t=some (K,E))(hK:KeyOk P K ek)(hz:tyZeroV P E=some z):
  (Instr.lookup t (.map (some b)) (ek k) ok).run P w=.ok (lookR ok z ((getL l k).map ev)) w:=by
 cases hg:getL l k with
 | some v=>exact Hy7 (x:=(k,v)) h ht hK (AK7 hg)
 | none=>exact Hz7 h ht hK hz (BH7 hg)
theorem GE7{x y:Operand}{k:κ}{z:Value}{ok:Bool}(hS:St W L w)(ho:o.op=.lookup t x y ok)(hg:Region.wanted o (yielded ops a.tmps)=true)(hx:a.eval x=.map (some b))(hy:a.eval y=ek k)(hu:Take L (amap ek ev b l) R)
  (ht:tyMap P t=some (K,E)) (hK:KeyOk P K ek) (hz:tyZeroV P E=some z) (h:wpList P ops Q rest (a.put o.dst (lookR ok z ((getL l k).map ev))) w):wpList P ops Q (o::rest) a w:=by
 refine Al7 hg (w':=w) ?_ h
 unfold execOp
 simp[ho,hx,hy,Dw7 (hS.take hu) ht hK hz]
theorem Cj7{x y:Operand}{k:κ}{u:ν}{z:Value}(hS:St W L w)(ho:o.op=.lookup t x y false)(hg:Region.wanted o (yielded ops a.tmps)=true)(hx:a.eval x=.map (some b))(hy:a.eval y=ek k)(hu:Take L (amap ek ev b l) R)
  (ht:tyMap P t=some (K,E)) (hK:KeyOk P K ek) (hz:tyZeroV P E=some z) (hgl:getL l k=some u) (h:wpList P ops Q rest (a.put o.dst (ev u)) w):wpList P ops Q (o::rest) a w:=
 GE7 hS ho hg hx hy hu ht hK hz (by rw[hgl];exact h)
theorem Fm7{x y:Operand}{k:κ}{z:Value}(hS:St W L w)(ho:o.op=.lookup t x y false)(hg:Region.wanted o (yielded ops a.tmps)=true)(hx:a.eval x=.map (some b))(hy:a.eval y=ek k)(hu:Take L (amap ek ev b l) R)
  (ht:tyMap P t=some (K,E)) (hK:KeyOk P K ek) (hz:tyZeroV P E=some z) (hgl:getL l k=none) (h:wpList P ops Q rest (a.put o.dst z) w):wpList P ops Q (o::rest) a w:=
 GE7 hS ho hg hx hy hu ht hK hz (by rw[hgl];exact h)
theorem Cd7{x y v:Operand}{k:κ}{u:ν}(hS:St W L w)(ho:o.op=.mapUpdate t x y v)(hg:Region.wanted o (yielded ops a.tmps)=true)(hx:a.eval x=.map (some b))(hy:a.eval y=ek k)(hu:Take L (amap ek ev b l) R)(hv:a.eval v=ev u)
  (ht:tyMap P t=some (K,E)) (hK:KeyOk P K ek) (h:∀w',St W (amap ek ev b ((k,u)::delL l k)::R) w'→wpList P ops Q rest (a.put o.dst undef) w'):wpList P ops Q (o::rest) a w:=by
 obtain⟨w',hr,hS'⟩:=NJ7 (P:=P) (k:=k) (v:=u) (hS.take hu) ht hK
 refine Cc7 hg (w':=w') ?_ (h w' hS')
 unfold execOp
 simp[ho,hx,hy,hv,hr]
theorem IL7{x y:Operand}{k:κ}{k2:TypeId}(hS:St W L w)(ho:o.op=.call { callee:=.builtin .delete,args:=#[x,y],argTypes:=#[t,k2] })(hg:Region.wanted o (yielded ops a.tmps)=true)(hx:a.eval x=.map (some b))(hy:a.eval y=ek k)(hu:Take L (amap ek ev b l) R)
  (ht:tyMap P t=some (K,E)) (hK:KeyOk P K ek) (h:∀w',St W (amap ek ev b (delL l k)::R) w'→wpList P ops Q rest (a.put o.dst (.tuple #[])) w'):wpList P ops Q (o::rest) a w:=by
 obtain⟨w',hr,hS'⟩:=NK7 (P:=P) (k:=k) (k2:=k2) (ty:=o.type) (hS.take hu) ht hK
 refine Al7 hg (v:=.tuple #[]) (w':=w') ?_ (h w' hS')
 unfold execOp
 simp[ho,resolve,invoke,builtin,hx,hy,hr]
end
end Go.Sl
end
section
namespace Go.Sl
open Go.RowKit
section
variable{κ ν:Type}[DecidableEq κ]{P:Program}{t K E:TypeId}{ek:κ→Value}{ev:ν→Value}{W w:World}{L R:List HP}{b:Nat}{l:List (κ×ν)}{ops:Array Oper}{a:Act}{rest:List Oper}{o:Oper}
theorem LT7{k:κ}{z:Value}{d u:ν}(hd:z=ev d)(hu:(getL l k).getD d=u):lookR false z ((getL l k).map ev)=ev u:=by
 subst hu hd
 cases getL l k <;> rfl
theorem HA7{Q:Exit→Act→World→Prop}{x y:Operand}{k:κ}{z:Value}(d u:ν)(hS:St W L w)(ho:o.op=.lookup t x y false)(hg:Region.wanted o (yielded ops a.tmps)=true)(hx:a.eval x=.map (some b))(hy:a.eval y=ek k)(hu:Take L (amap ek ev b l) R)
  (ht:tyMap P t=some (K,E)) (hK:KeyOk P K ek) (hz:tyZeroV P E=some z) (hd:z=ev d) (hv:(getL l k).getD d=u) (h:wpList P ops Q rest (a.put o.dst (ev u)) w):wpList P ops Q (o::rest) a w:=
 GE7 hS ho hg hx hy hu ht hK hz (by rw[LT7 hd hv];exact h)
theorem AP7{tb:List Nat}{toks:List Tok}{fresh:Nat→Bool}{pin:Nat→Option Value}{Qf:Act→Prop}{nd:Nat→Value}{i:Nat}{x y:Operand}{k:κ}{z:Value}(d u:ν)(hf:fresh i=false)(hn:noTok toks i=true)(ho:o.op=.lookup t x y false)(hg:Region.wanted o (yielded ops a.tmps)=true)(hx:a.eval x=.map (some b))(hy:a.eval y=ek k)
  (hu:∀F, ∃R,Take (kpL toks tb i nd++F) (amap ek ev b l) R) (ht:tyMap P t=some (K,E)) (hK:KeyOk P K ek) (hz:tyZeroV P E=some z) (hd:z=ev d) (hv:(getL l k).getD d=u)
  (h:Chain P W ops tb toks fresh pin Qf nd (i+1) rest (a.put o.dst (ev u))):Chain P W ops tb toks fresh pin Qf nd i (o::rest) a:=
 Ey7 hf hn hg (fun F w hS=>by
  obtain⟨R,hu⟩:=hu F
  unfold execOp
  simp[ho,hx,hy,Dw7 (hS.take hu) ht hK hz,LT7 hd hv]) h
end
end Go.Sl
namespace Go.Sl
open Go.RowKit
section
variable{P:Program}{w:World}{ops:Array Oper}{Q:Exit→Act→World→Prop}{a:Act}{rest:List Oper}{o:Oper}
theorem BT7{t t2:TypeId}{x y:Operand}{xs ys:Array Value}{r:Bool}(ho:o.op=.binOp .eql t x y t2)(hg:Region.wanted o (yielded ops a.tmps)=true)(hx:a.eval x=.agg xs)(hy:a.eval y=.agg ys)(hm:P.eqGuardType P.depth t=false)(hr:∀w:World,(Op.equalIn 10000 t (.agg xs) (.agg ys)).run P w=.ok r w)
  (h:wpList P ops Q rest (a.put o.dst (.bool r)) w):wpList P ops Q (o::rest) a w:=by
 refine Al7 hg (v:=.bool r) (w':=w) ?_ h
 unfold execOp
 simp[ho,hx,hy,run_eqGuard_agg w .eql t x y xs ys hm,run_eql_struct,hr]
theorem Gk7{t t2:TypeId}{x y:Operand}{xs ys:Array Value}{r:Bool}(ho:o.op=.binOp .neq t x y t2)(hg:Region.wanted o (yielded ops a.tmps)=true)(hx:a.eval x=.agg xs)(hy:a.eval y=.agg ys)(hm:P.eqGuardType P.depth t=false)(hr:∀w:World,(Op.equalIn 10000 t (.agg xs) (.agg ys)).run P w=.ok r w)
  (h:wpList P ops Q rest (a.put o.dst (.bool (!r))) w):wpList P ops Q (o::rest) a w:=by
 refine Al7 hg (v:=.bool (!r)) (w':=w) ?_ h
 unfold execOp
 simp[ho,hx,hy,run_eqGuard_agg w .neq t x y xs ys hm,run_neq_struct,hr]
end
end Go.Sl
namespace Go.Proofs.YtlmhakmoioogaaaGreat
open Go.RowKit Go.Sl
theorem eqI(x0 x1 x2 x3 y0 y1 y2 y3:Int)(w:World):(Op.equalIn 10000 29 (.agg #[.int .i64 x0,.int .i64 x1,.int .i64 x2,.int .i64 x3]) (.agg #[.int .i64 y0,.int .i64 y1,.int .i64 y2,.int .i64 y3])).run Tryz.prog w=.ok (x0==y0&&(x1==y1&&(x2==y2&&x3==y3))) w:=by
 have u3:=Tryz.underlying3
 have a3:=Tryz.isAgg3
 have z3:=Tryz.sizeOf3
 rw[show(10000:Nat)=9999+1 from rfl,Op.equalIn]
 simp only[Sem.run_bind,run_underlying Tryz.underlying29,Result.andThen_ok]
 simp only[Std.Legacy.Range.forIn_eq_forIn_range',Std.Legacy.Range.size,Nat.sub_zero,Nat.add_sub_cancel,Nat.div_one,List.range'_succ,List.range'_zero,List.forIn_cons,List.forIn_nil]
 go_simp
 by_cases h1:x0=y0 <;> by_cases h2:x1=y1 <;> by_cases h3:x2=y2 <;> by_cases h4:x3=y3 <;> simp[h1,h2,h3,h4]
abbrev eS(k:ByteArray):Value:=.string k
abbrev eP(i:It):Value:=.agg i.cells.toArray
theorem kS:KeyOk Tryz.prog 9 eS:=KeyOk.str Tryz.underlying9
theorem mP:tyMap Tryz.prog 173=some (9,29):=by kernel_rfl
theorem zP:tyZeroV Tryz.prog 29=some (.agg #[.int .i64 0,.int .i64 0,.int .i64 0,.int .i64 0]):=by kernel_rfl
abbrev Ps:=List (ByteArray×It)
def purseA(p:Ps)(k:ByteArray):It:=(getL p k).getD it0
def isZ(i:It):Bool:=decide (i.x0=0)&&(decide (i.x1=0)&&(decide (i.x2=0)&&decide (i.x3=0)))
def layP(p:Ps)(k:ByteArray)(i:It):Ps:=if isZ i=true then delL p k else(k,i)::delL p k
section
variable(vb mb:Nat)(p:Ps)(k:ByteArray)(u1 u2:Value)(W w:World)(R:List HP)
theorem NM7(hS:St W (blk vb [.map (some mb),u1,u2] 176::amap eS eP mb p::R) w):
  Calls Tryz.prog 47 #[.pointer (some ⟨vb,0,none⟩),.string k] w fun e w'=>e=.returned (eP (purseA p k))∧St W (blk vb [.map (some mb),u1,u2] 176::amap eS eP mb p::R) w':=by
 obtain⟨x,hx⟩:∃x,purseA p k=x:=⟨_,rfl⟩
 rw[hx]
 obtain⟨x0,x1,x2,x3⟩:=x
 have Hx:=Lib.hid hx
 clear hx
 go_enter Tryz.func47,Tryz.ntmps47
 go_wp2_with(first|((with_reducible apply HA7 (ek:=eS) (ev:=eP) (k:=k) it0 ⟨x0,x1,x2,x3⟩ hS);(with_reducible rfl);rfl;rfl;rfl;(exact takeS);exact mP;exact kS;exact zP;rfl;exact Hx.out;(simp only[Act.put,fA,fB,fC,Nat.reduceAdd,eP,It.cells]))|(refine zl1 hS ?_)|(refine zsN hS ?_;clear hS;intro w hS)|(refine zal hS ?_;clear hS;intro b w hS))
 (apply Ao7;rfl;rfl;rfl;exact hS;decide +kernel;(exact cesS);kernel_rfl)
 exact⟨rfl,hS.drop⟩
theorem AZ7(i:It)(hS:St W (blk vb [.map (some mb),u1,u2] 176::amap eS eP mb p::R) w):
  Calls Tryz.prog 164 #[.pointer (some ⟨vb,0,none⟩),.string k,.agg i.cells.toArray] w fun e w'=>e=.returned (.tuple #[])∧St W (blk vb [.map (some mb),u1,u2] 176::amap eS eP mb (layP p k i)::R) w':=by
 obtain⟨x0,x1,x2,x3⟩:=i
 unfold layP
 cases hz:isZ ⟨x0,x1,x2,x3⟩with
 | true=>
  rw[if_pos rfl]
  simp only[isZ,Bool.and_eq_true,decide_eq_true_eq]at hz
  obtain⟨rfl,rfl,rfl,rfl⟩:=hz
  have h4:(((0:Int)==0)&&(((0:Int)==0)&&(((0:Int)==0)&&((0:Int)==0))))=true:=rfl
  simp only[It.cells]
  go_enter Tryz.func164,Tryz.ntmps164
  go_wp2_with(first|((with_reducible apply BT7);(with_reducible rfl);rfl;rfl;rfl;kernel_rfl;exact eqI _ _ _ _ _ _ _ _;rw[h4];(simp only[Act.put,fA,fB,fC,Nat.reduceAdd,eP,It.cells]))|((with_reducible apply IL7 (ek:=eS) (ev:=eP) (k:=k) hS);(with_reducible rfl);rfl;rfl;rfl;(exact takeS);exact mP;exact kS;clear hS;intro w hS;try(simp only[Act.put,fA,fB,fC,Nat.reduceAdd,eP,It.cells]))|(refine zl1 hS ?_)|(refine zlN hS ?_)|(refine zbx hS ?_;clear hS;intro b w hS))
  refine bodyPost_ret (results_none rfl _ _ _) rfl ?_
  exact⟨rfl,hS.s _⟩
 | false=>
  rw[if_neg (by simp)]
  have h4:(x0==0&&(x1==0&&(x2==0&&x3==0)))=false:=hz
  clear hz
  simp only[It.cells]
  go_enter Tryz.func164,Tryz.ntmps164
  go_wp2_with(first|((with_reducible apply BT7);(with_reducible rfl);rfl;rfl;rfl;kernel_rfl;exact eqI _ _ _ _ _ _ _ _;rw[h4];(simp only[Act.put,fA,fB,fC,Nat.reduceAdd,eP,It.cells]))|(refine zlN hS ?_)|(refine zbx hS ?_;clear hS;intro b w hS))
  refine rt 6 hS ?_
  repeat(first|(refine zq1 ?_)|(refine zqN ?_)|(refine zqn ?_)|(refine qR ?_))
  clear hS
  intro w hS
  simp only[List.drop_succ_cons,List.drop_zero]
  go_wp2_with(first|((with_reducible apply Cd7 (ek:=eS) (ev:=eP) (k:=k) (u:=⟨x0,x1,x2,x3⟩) hS);(with_reducible rfl);rfl;rfl;rfl;(exact takeS);(focus(rfl));exact mP;exact kS;clear hS;intro w hS;try(simp only[Act.put,fA,fB,fC,Nat.reduceAdd,eP,It.cells])))
  go_end0
  exact⟨rfl,hS.s _⟩
end
def whoB(k:ByteArray):Bool:=decide (1≤k.size)&&decide (k.size≤16)
theorem BU7(k:ByteArray)(W w:World)(R:List HP)(hS:St W R w):
  Calls Tryz.prog 163 #[.string k] w fun e w'=>e=.returned (.bool (whoB k))∧St W R w':=by
 go_enter Tryz.func163,Tryz.ntmps163
 by_cases h1:k.size<1
 ·have e:whoB k=false:=by unfold whoB;simp;omega
  have d1:decide ((1:Int)≤(k.size:Int))=false:=by simp;omega
  rw[e]
  go_wp2_with(fail)
  go_ret
  exact⟨rfl,hS⟩
 ·have d1:(1:Int)≤(k.size:Int):=by omega
  by_cases h2:k.size≤16
  ·have e:whoB k=true:=by unfold whoB;simp;omega
   have d2:(k.size:Int)≤16:=by omega
   rw[e]
   go_wp2_with(fail)
   go_ret
   exact⟨rfl,hS⟩
  ·have e:whoB k=false:=by unfold whoB;simp;omega
   have d2:decide ((k.size:Int)≤16)=false:=by simp;omega
   rw[e]
   go_wp2_with(fail)
   go_ret
   exact⟨rfl,hS⟩
theorem GF7{l:List It}{s0 s1 s2 s3:Int}(h:addL l it0=some ⟨s0,s1,s2,s3⟩)(v:Value)(W w:World)(R:List HP)(hS:St W (row v 4 29 l.length (l.flatMap It.cells)::R) w):
  Calls Tryz.prog 58 #[v] w fun e w'=>e=.returned (.tuple #[.agg #[.int .i64 s0,.int .i64 s1,.int .i64 s2,.int .i64 s3],.bool true])∧St W R w':=
 (Pb7 l v W w R hS).mono fun e w' ⟨he,hS⟩=>⟨by rw[he,addF,h];rfl,hS.drop⟩
theorem NN7{l:List It}(h:addL l it0=none)(v:Value)(W w:World)(R:List HP)(hS:St W (row v 4 29 l.length (l.flatMap It.cells)::R) w):
  Calls Tryz.prog 58 #[v] w fun e w'=>e=.returned (.tuple #[.agg #[.int .i64 0,.int .i64 0,.int .i64 0,.int .i64 0],.bool false])∧St W R w':=
 (Pb7 l v W w R hS).mono fun e w' ⟨he,hS⟩=>⟨by rw[he,addF,h];rfl,hS.drop⟩
theorem Pz7{x0 x1 x2 x3 y0 y1 y2 y3:Int}(h:subOk ⟨x0,x1,x2,x3⟩ ⟨y0,y1,y2,y3⟩=true)(W w:World)(R:List HP)(hS:St W R w):
  Calls Tryz.prog 166 #[.agg #[.int .i64 x0,.int .i64 x1,.int .i64 x2,.int .i64 x3],.agg #[.int .i64 y0,.int .i64 y1,.int .i64 y2,.int .i64 y3]] w fun e w'=>e=.returned (.tuple #[.agg #[.int .i64 (x0-y0),.int .i64 (x1-y1),.int .i64 (x2-y2),.int .i64 (x3-y3)],.bool true])∧St W R w':=
 (Pa7 ⟨x0,x1,x2,x3⟩ ⟨y0,y1,y2,y3⟩ W w R hS).mono fun e w' ⟨he,hS⟩=>⟨by rw[he,subF,h];rfl,hS⟩
theorem QK7{x0 x1 x2 x3 y0 y1 y2 y3:Int}(h:subOk ⟨x0,x1,x2,x3⟩ ⟨y0,y1,y2,y3⟩=false)(W w:World)(R:List HP)(hS:St W R w):
  Calls Tryz.prog 166 #[.agg #[.int .i64 x0,.int .i64 x1,.int .i64 x2,.int .i64 x3],.agg #[.int .i64 y0,.int .i64 y1,.int .i64 y2,.int .i64 y3]] w fun e w'=>e=.returned (.tuple #[.agg #[.int .i64 0,.int .i64 0,.int .i64 0,.int .i64 0],.bool false])∧St W R w':=
 (Pa7 ⟨x0,x1,x2,x3⟩ ⟨y0,y1,y2,y3⟩ W w R hS).mono fun e w' ⟨he,hS⟩=>⟨by rw[he,subF,h];rfl,hS⟩
def putE(p:Ps)(k:ByteArray)(i:It):Int:=if whoB k=true∧isIt i=true then(if(addL [purseA p k,i] it0).isSome=true then 0 else 6)else 1
def putP(p:Ps)(k:ByteArray)(i:It):Ps:=if whoB k=true∧isIt i=true then(match addL [purseA p k,i] it0 with|some s=>layP p k s|none=>p)else p
def takeE(p:Ps)(k:ByteArray)(i:It):Int:=if whoB k=true∧isIt i=true then(if subOk (purseA p k) i=true then 0 else 14)else 1
def takeP(p:Ps)(k:ByteArray)(i:It):Ps:=if whoB k=true∧isIt i=true then(if subOk (purseA p k) i=true then layP p k (subIt (purseA p k) i)else p)else p
section
variable(vb mb:Nat)(p:Ps)(k:ByteArray)(u1 u2:Value)(i:It)(W w:World)(R:List HP)
theorem NO7(hS:St W (blk vb [.map (some mb),u1,u2] 176::amap eS eP mb p::R) w):
  Calls Tryz.prog 102 #[.pointer (some ⟨vb,0,none⟩),.string k,.agg i.cells.toArray] w fun e w'=>e=.returned (.int .i64 (putE p k i))∧St W (blk vb [.map (some mb),u1,u2] 176::amap eS eP mb (putP p k i)::R) w':=by
 obtain⟨x0,x1,x2,x3⟩:=i
 cases hk:whoB k with
 | false=>
  have e1:putE p k ⟨x0,x1,x2,x3⟩=1:=by simp[putE,hk]
  have e2:putP p k ⟨x0,x1,x2,x3⟩=p:=by simp[putP,hk]
  rw[e1,e2]
  clear e1 e2
  simp only[It.cells]
  go_enter Tryz.func102,Tryz.ntmps102
  go_wp2_with(first|go_big_skip|(go_at_call 163;refine(BU7 k W _ _ hS).mono ?_;clear hS;rw[hk];rintro e w ⟨rfl,hS⟩)|(refine zbx hS ?_;clear hS;intro b w hS))
  go_ret
  exact⟨rfl,hS.drop⟩
 | true=>
  cases hi:isIt ⟨x0,x1,x2,x3⟩with
  | false=>
   have e1:putE p k ⟨x0,x1,x2,x3⟩=1:=by simp[putE,hk,hi]
   have e2:putP p k ⟨x0,x1,x2,x3⟩=p:=by simp[putP,hk,hi]
   rw[e1,e2]
   clear e1 e2
   simp only[It.cells]
   go_enter Tryz.func102,Tryz.ntmps102
   go_wp2_with(first|(go_at_call 163;refine(BU7 k W _ _ hS).mono ?_;clear hS;rw[hk];rintro e w ⟨rfl,hS⟩)|(go_at_call 126;refine(is_at _ _ _ _ W _ _ hS).mono ?_;clear hS;rw[hi];rintro e w ⟨rfl,hS⟩)|(refine zlN hS ?_)|(refine zbx hS ?_;clear hS;intro b w hS))
   go_ret
   exact⟨rfl,hS.drop⟩
  | true=>
   obtain⟨px,hx⟩:∃x,purseA p k=x:=⟨_,rfl⟩
   obtain⟨p0,p1,p2,p3⟩:=px
   cases ha:addL [⟨p0,p1,p2,p3⟩,⟨x0,x1,x2,x3⟩] it0 with
   | none=>
    have e1:putE p k ⟨x0,x1,x2,x3⟩=6:=by simp[putE,hk,hi,hx,ha]
    have e2:putP p k ⟨x0,x1,x2,x3⟩=p:=by simp[putP,hk,hi,hx,ha]
    rw[e1,e2]
    have Hx:=Lib.hid hx
    have Ha:=Lib.hid ha
    clear ha hx e1 e2
    simp only[It.cells]
    go_enter Tryz.func102,Tryz.ntmps102
    go_wp2_with(first|(go_at_call 163;refine(BU7 k W _ _ hS).mono ?_;clear hS;rw[hk];rintro e w ⟨rfl,hS⟩)|(go_at_call 126;refine(is_at _ _ _ _ W _ _ hS).mono ?_;clear hS;rw[hi];rintro e w ⟨rfl,hS⟩)|(refine zlN hS ?_)|(refine zbx hS ?_;clear hS;intro b w hS))
    refine rf3 [0,1,3,7,0,31,0,127,255,511,1023,1023,0,6143,16383] (fun i=>i==7||i==12) (fun i=>if i==8 then some (.tuple #[.agg #[.int .i64 0,.int .i64 0,.int .i64 0,.int .i64 0],.bool false])else none) [⟨some 7,some 8,fun nd=>row (nd 7) 4 29 2 ([(⟨p0,p1,p2,p3⟩:It),⟨x0,x1,x2,x3⟩].flatMap It.cells)⟩,⟨some 12,some 13,fun nd=>ptrTo (nd 12) [.int .i64 0,.int .i64 0,.int .i64 0,.int .i64 0] 29⟩,⟨some 13,none,fun nd=>ptrTo (nd 12) [.int .i64 0,.int .i64 0,.int .i64 0,.int .i64 0] 29⟩] [none,none,none] hS ?_
    intro nd
    repeat(first|(refine zc1 ?_)|(refine zcN ?_)|(refine zcn ?_)|(apply AP7 (ek:=eS) (ev:=eP) (k:=k) it0 ⟨p0,p1,p2,p3⟩;rfl;kernel_rfl;(with_reducible rfl);rfl;rfl;rfl;(intro F;exact⟨_,by exact takO⟩);exact mP;exact kS;exact zP;rfl;exact Hx.out;(simp only[Act.put,fA,fB,fC,Nat.reduceAdd,eP,It.cells]))|(refine cR ?_))
    (apply Bx7;rfl;(with_reducible rfl);rfl;(focus(simp only[fD,fI,fJ,Act.eval,fE,fF,fG,fH,fK];try rfl));(exact esS);(exact rsS);rfl;rfl;rfl;rfl;rfl;decide;(intro _;rfl);rfl;(intro _;rfl);(refine frS ?_))
    (refine zcv ?_ (hs:=by(intro F w hS;(try clear hS0);exact NN7 Ha.out _ W w _ hS)))
    iterate 3 (refine cR ?_)
    (refine zca ?_)
    (refine zct ?_)
    (refine cR ?_)
    refine Ad7 ?_
    clear hS
    intro w hS
    have hS2:St W [ptrTo (nd 12) _ _,blk b _ _,blk vb _ _,amap eS eP mb p,sats R] w:=hS
    clear hS
    have hS:=hS2.unpack [_,_,_,_]
    clear hS2
    simp only[List.cons_append,List.nil_append]at hS
    generalize nd 12=v12 at *
    have h1:=hS.ptr;clear hS;obtain⟨b2,rfl,hS⟩:=h1
    go_wp2_with(fail)
    go_ret
    exact⟨rfl,hS.s _⟩
   | some s=>
    obtain⟨s0,s1,s2,s3⟩:=s
    have e1:putE p k ⟨x0,x1,x2,x3⟩=0:=by simp[putE,hk,hi,hx,ha]
    have e2:putP p k ⟨x0,x1,x2,x3⟩=layP p k ⟨s0,s1,s2,s3⟩:=by simp[putP,hk,hi,hx,ha,subIt]
    rw[e1,e2]
    have Hx:=Lib.hid hx
    have Ha:=Lib.hid ha
    clear ha hx e1 e2
    simp only[It.cells]
    go_enter Tryz.func102,Tryz.ntmps102
    go_wp2_with(first|(go_at_call 163;refine(BU7 k W _ _ hS).mono ?_;clear hS;rw[hk];rintro e w ⟨rfl,hS⟩)|(go_at_call 126;refine(is_at _ _ _ _ W _ _ hS).mono ?_;clear hS;rw[hi];rintro e w ⟨rfl,hS⟩)|(refine zlN hS ?_)|(refine zbx hS ?_;clear hS;intro b w hS))
    refine rf3 [0,1,3,7,0,31,0,127,255,511,1023,1023,0,6143,16383] (fun i=>i==7||i==12) (fun i=>if i==8 then some (.tuple #[.agg #[.int .i64 s0,.int .i64 s1,.int .i64 s2,.int .i64 s3],.bool true])else none) [⟨some 7,some 8,fun nd=>row (nd 7) 4 29 2 ([(⟨p0,p1,p2,p3⟩:It),⟨x0,x1,x2,x3⟩].flatMap It.cells)⟩,⟨some 12,some 13,fun nd=>ptrTo (nd 12) [.int .i64 0,.int .i64 0,.int .i64 0,.int .i64 0] 29⟩,⟨some 13,none,fun nd=>ptrTo (nd 12) [.int .i64 s0,.int .i64 s1,.int .i64 s2,.int .i64 s3] 29⟩] [none,none,none] hS ?_
    intro nd
    repeat(first|(refine zc1 ?_)|(refine zcN ?_)|(refine zcn ?_)|(apply AP7 (ek:=eS) (ev:=eP) (k:=k) it0 ⟨p0,p1,p2,p3⟩;rfl;kernel_rfl;(with_reducible rfl);rfl;rfl;rfl;(intro F;exact⟨_,by exact takO⟩);exact mP;exact kS;exact zP;rfl;exact Hx.out;(simp only[Act.put,fA,fB,fC,Nat.reduceAdd,eP,It.cells]))|(refine cR ?_))
    (apply Bx7;rfl;(with_reducible rfl);rfl;(focus(simp only[fD,fI,fJ,Act.eval,fE,fF,fG,fH,fK];try rfl));(exact esS);(exact rsS);rfl;rfl;rfl;rfl;rfl;decide;(intro _;rfl);rfl;(intro _;rfl);(refine frS ?_))
    (refine zcv ?_ (hs:=by(intro F w hS;(try clear hS0);exact GF7 Ha.out _ W w _ hS)))
    iterate 3 (refine cR ?_)
    (refine zca ?_)
    (refine zct ?_)
    (refine cR ?_)
    refine Ad7 ?_
    clear hS
    intro w hS
    have hS2:St W [ptrTo (nd 12) _ _,blk b _ _,blk vb _ _,amap eS eP mb p,sats R] w:=hS
    clear hS
    have hS:=hS2.unpack [_,_,_,_]
    clear hS2
    simp only[List.cons_append,List.nil_append]at hS
    generalize nd 12=v12 at *
    have h1:=hS.ptr;clear hS;obtain⟨b2,rfl,hS⟩:=h1
    go_wp2_with(first|(go_at_call 164;refine(AZ7 vb mb p k u1 u2 W _ R ⟨s0,s1,s2,s3⟩ (hS.s _)).mono ?_;clear hS;rintro e w ⟨rfl,hS⟩)|(refine zlN hS ?_))
    go_ret
    exact⟨rfl,hS⟩
theorem Fn7(hS:St W (blk vb [.map (some mb),u1,u2] 176::amap eS eP mb p::R) w):
  Calls Tryz.prog 104 #[.pointer (some ⟨vb,0,none⟩),.string k,.agg i.cells.toArray] w fun e w'=>e=.returned (.int .i64 (takeE p k i))∧St W (blk vb [.map (some mb),u1,u2] 176::amap eS eP mb (takeP p k i)::R) w':=by
 obtain⟨x0,x1,x2,x3⟩:=i
 cases hk:whoB k with
 | false=>
  have e1:takeE p k ⟨x0,x1,x2,x3⟩=1:=by simp[takeE,hk]
  have e2:takeP p k ⟨x0,x1,x2,x3⟩=p:=by simp[takeP,hk]
  rw[e1,e2]
  clear e1 e2
  simp only[It.cells]
  go_enter Tryz.func104,Tryz.ntmps104
  go_wp2_with(first|go_big_skip|(go_at_call 163;refine(BU7 k W _ _ hS).mono ?_;clear hS;rw[hk];rintro e w ⟨rfl,hS⟩)|(refine zbx hS ?_;clear hS;intro b w hS))
  go_ret
  exact⟨rfl,hS.drop⟩
 | true=>
  cases hi:isIt ⟨x0,x1,x2,x3⟩with
  | false=>
   have e1:takeE p k ⟨x0,x1,x2,x3⟩=1:=by simp[takeE,hk,hi]
   have e2:takeP p k ⟨x0,x1,x2,x3⟩=p:=by simp[takeP,hk,hi]
   rw[e1,e2]
   clear e1 e2
   simp only[It.cells]
   go_enter Tryz.func104,Tryz.ntmps104
   go_wp2_with(first|(go_at_call 163;refine(BU7 k W _ _ hS).mono ?_;clear hS;rw[hk];rintro e w ⟨rfl,hS⟩)|(go_at_call 126;refine(is_at _ _ _ _ W _ _ hS).mono ?_;clear hS;rw[hi];rintro e w ⟨rfl,hS⟩)|(refine zlN hS ?_)|(refine zbx hS ?_;clear hS;intro b w hS))
   go_ret
   exact⟨rfl,hS.drop⟩
  | true=>
   obtain⟨px,hx⟩:∃x,purseA p k=x:=⟨_,rfl⟩
   obtain⟨p0,p1,p2,p3⟩:=px
   cases ha:subOk ⟨p0,p1,p2,p3⟩ ⟨x0,x1,x2,x3⟩with
   | false=>
    have e1:takeE p k ⟨x0,x1,x2,x3⟩=14:=by simp[takeE,hk,hi,hx,ha]
    have e2:takeP p k ⟨x0,x1,x2,x3⟩=p:=by simp[takeP,hk,hi,hx,ha]
    rw[e1,e2]
    have Hx:=Lib.hid hx
    have Ha:=Lib.hid ha
    clear ha hx e1 e2
    simp only[It.cells]
    go_enter Tryz.func104,Tryz.ntmps104
    go_wp2_with(first|(go_at_call 163;refine(BU7 k W _ _ hS).mono ?_;clear hS;rw[hk];rintro e w ⟨rfl,hS⟩)|(go_at_call 126;refine(is_at _ _ _ _ W _ _ hS).mono ?_;clear hS;rw[hi];rintro e w ⟨rfl,hS⟩)|(refine zlN hS ?_)|(refine zbx hS ?_;clear hS;intro b w hS))
    refine rf3 [0,1,3,7,0,31,0,127,255,511,511,0,3071,8191] (fun i=>i==11) (fun i=>if i==7 then some (.tuple #[.agg #[.int .i64 (0),.int .i64 (0),.int .i64 (0),.int .i64 (0)],.bool false])else none) [⟨some 11,some 12,fun nd=>ptrTo (nd 11) [.int .i64 0,.int .i64 0,.int .i64 0,.int .i64 0] 29⟩,⟨some 12,none,fun nd=>ptrTo (nd 11) [.int .i64 (0),.int .i64 (0),.int .i64 (0),.int .i64 (0)] 29⟩] [none,none,none] hS ?_
    intro nd
    repeat(first|(refine zc1 ?_)|(refine zcN ?_)|(refine zcn ?_)|(apply AP7 (ek:=eS) (ev:=eP) (k:=k) it0 ⟨p0,p1,p2,p3⟩;rfl;kernel_rfl;(with_reducible rfl);rfl;rfl;rfl;(intro F;exact⟨_,by exact takO⟩);exact mP;exact kS;exact zP;rfl;exact Hx.out;(simp only[Act.put,fA,fB,fC,Nat.reduceAdd,eP,It.cells]))|(refine cR ?_))
    (refine zcv ?_ (hs:=by(intro F w hS;(try clear hS0);exact QK7 Ha.out W w _ hS)))
    iterate 3 (refine cR ?_)
    (refine zca ?_)
    (refine zct ?_)
    (refine cR ?_)
    refine Ad7 ?_
    clear hS
    intro w hS
    have hS2:St W [ptrTo (nd 11) _ _,blk b _ _,blk vb _ _,amap eS eP mb p,sats R] w:=hS
    clear hS
    have hS:=hS2.unpack [_,_,_,_]
    clear hS2
    simp only[List.cons_append,List.nil_append]at hS
    generalize nd 11=v12 at *
    have h1:=hS.ptr;clear hS;obtain⟨b2,rfl,hS⟩:=h1
    go_wp2_with(fail)
    go_ret
    exact⟨rfl,hS.s _⟩
   | true=>
    have e1:takeE p k ⟨x0,x1,x2,x3⟩=0:=by simp[takeE,hk,hi,hx,ha]
    have e2:takeP p k ⟨x0,x1,x2,x3⟩=layP p k ⟨p0-x0,p1-x1,p2-x2,p3-x3⟩:=by simp[takeP,hk,hi,hx,ha,subIt]
    rw[e1,e2]
    have Hx:=Lib.hid hx
    have Ha:=Lib.hid ha
    clear ha hx e1 e2
    simp only[It.cells]
    go_enter Tryz.func104,Tryz.ntmps104
    go_wp2_with(first|(go_at_call 163;refine(BU7 k W _ _ hS).mono ?_;clear hS;rw[hk];rintro e w ⟨rfl,hS⟩)|(go_at_call 126;refine(is_at _ _ _ _ W _ _ hS).mono ?_;clear hS;rw[hi];rintro e w ⟨rfl,hS⟩)|(refine zlN hS ?_)|(refine zbx hS ?_;clear hS;intro b w hS))
    refine rf3 [0,1,3,7,0,31,0,127,255,511,511,0,3071,8191] (fun i=>i==11) (fun i=>if i==7 then some (.tuple #[.agg #[.int .i64 (p0-x0),.int .i64 (p1-x1),.int .i64 (p2-x2),.int .i64 (p3-x3)],.bool true])else none) [⟨some 11,some 12,fun nd=>ptrTo (nd 11) [.int .i64 0,.int .i64 0,.int .i64 0,.int .i64 0] 29⟩,⟨some 12,none,fun nd=>ptrTo (nd 11) [.int .i64 (p0-x0),.int .i64 (p1-x1),.int .i64 (p2-x2),.int .i64 (p3-x3)] 29⟩] [none,none,none] hS ?_
    intro nd
    repeat(first|(refine zc1 ?_)|(refine zcN ?_)|(refine zcn ?_)|(apply AP7 (ek:=eS) (ev:=eP) (k:=k) it0 ⟨p0,p1,p2,p3⟩;rfl;kernel_rfl;(with_reducible rfl);rfl;rfl;rfl;(intro F;exact⟨_,by exact takO⟩);exact mP;exact kS;exact zP;rfl;exact Hx.out;(simp only[Act.put,fA,fB,fC,Nat.reduceAdd,eP,It.cells]))|(refine cR ?_))
    (refine zcv ?_ (hs:=by(intro F w hS;(try clear hS0);exact Pz7 Ha.out W w _ hS)))
    iterate 3 (refine cR ?_)
    (refine zca ?_)
    (refine zct ?_)
    (refine cR ?_)
    refine Ad7 ?_
    clear hS
    intro w hS
    have hS2:St W [ptrTo (nd 11) _ _,blk b _ _,blk vb _ _,amap eS eP mb p,sats R] w:=hS
    clear hS
    have hS:=hS2.unpack [_,_,_,_]
    clear hS2
    simp only[List.cons_append,List.nil_append]at hS
    generalize nd 11=v12 at *
    have h1:=hS.ptr;clear hS;obtain⟨b2,rfl,hS⟩:=h1
    go_wp2_with(first|(go_at_call 164;refine(AZ7 vb mb p k u1 u2 W _ R ⟨p0-x0,p1-x1,p2-x2,p3-x3⟩ (hS.s _)).mono ?_;clear hS;rintro e w ⟨rfl,hS⟩)|(refine zlN hS ?_))
    go_ret
    exact⟨rfl,hS⟩
end
end Go.Proofs.YtlmhakmoioogaaaGreat
end
