/-
  Maps as resources up to order.
-/
import Derived.Test.YtlmhakmoioogaaaGreatEconDcM2
import Derived.Test.YtlmhakmoioogaaaGreatEconDcM3
import Derived.Test.YtlmhakmoioogaaaGreatEconDcM4
import Derived.Test.YtlmhakmoioogaaaGreatEconDcM5
set_option maxHeartbeats 16000000
set_option maxRecDepth 100000
set_option linter.unusedSimpArgs false
set_option linter.unusedVariables false
section
namespace Go.Sl
open Go.RowKit
section
variable{κ ν:Type}
end
section
variable{κ ν:Type}[DecidableEq κ]{W w:World}{L:List HP}{ek:κ->Value}{ev:ν->Value}{b r:Nat}{l todo:List (κ×ν)}{P:Program}{t K E:TypeId}
end
section
variable{κ ν:Type}{W w:World}{L:List HP}{ek:κ->Value}{ev:ν->Value}{b r:Nat}{l todo:List (κ×ν)}{P:Program}{t K E:TypeId}
theorem PH7{ty:TypeId}(h:St W (c8 ek ev b l::L) w)(ht:F5 P t=some (K,E)):(Builtin.len_ #[t] ty #[.map (some b)]).run P w=.ok (.I l.length) w:=by
 obtain⟨ps,c,h1,h2,h3⟩:=ai4 h;have hl:ps.length=l.length:=by have:=h1.length_eq;rwa [jM]at this
 simp[Builtin.len_,run_underlying (P:=P) (BJ7 ht),Dm7 h3,goInt,hl]
end
section
variable{κ ν:Type}{W w:World}{L R:List HP}{ek:κ->Value}{ev:ν->Value}{b r:Nat}{l todo:List (κ×ν)}{P:Program}{t K E:TypeId}{ops:Array Oper}{Q:Exit->Act->World->Prop}{a:Act}{rest:List Oper}{o:Oper}
theorem Ep7(ek:κ->Value)(ev:ν->Value)(hS:St W L w)(ho:o.op=.makeMap t none)(hg:Region.wanted o (yielded ops a.tmps)=true)
  (h:∀b w',St W (c8 ek ev b []::L) w'->wpList P ops Q rest (a.put o.dst (.map (some b))) w'):wpList P ops Q (o::rest) a w:=by
 obtain⟨b,w',hr,hS'⟩:=Nx7 (P:=P) (t:=t) (ek:=ek) (ev:=ev) hS;refine Ak7 hg (v:=.map (some b)) (w':=w') ?_ (h b w' hS');unfold execOp;simp[ho,hr]
theorem Ie7{x:Operand}(hS:St W L w)(ho:o.op=.call { callee:=.builtin .len,args:=#[x],argTypes:=#[t] })(hg:Region.wanted o (yielded ops a.tmps)=true)
  (hx:a.eval x=.map (some b)) (ht:F5 P t=some (K,E)) (hu:Take L (c8 ek ev b l) R) (h:wpList P ops Q rest (a.put o.dst (.I l.length)) w):wpList P ops Q (o::rest) a w:=by
 refine Ak7 hg (v:=.I l.length) (w':=w) ?_ h;unfold execOp;simp[ho,resolve,invoke,builtin,hx,PH7 (hS.take hu) ht]
theorem Nz7{x:Operand}(hS:St W L w)(ho:o.op=.range t x)(hg:Region.wanted o (yielded ops a.tmps)=true)(hx:a.eval x=.map (some b))(ht:F5 P t=some (K,E))(hu:Take L (c8 ek ev b l) R)
  (h:∀r w',St W (itR ek ev r b l l::R) w'->wpList P ops Q rest (a.put o.dst (.P r)) w'):wpList P ops Q (o::rest) a w:=by
 obtain⟨r,w',hr,hS'⟩:=Hw7 (P:=P) (hS.take hu) ht;refine Ak7 hg (v:=.P r) (w':=w') ?_ (h r w' hS');unfold execOp;simp[ho,hx,hr]
theorem Ls7{x:Operand}(hS:St W L w)(ho:o.op=.next x false)(hg:Region.wanted o (yielded ops a.tmps)=true)(hx:a.eval x=.P r)(hu:Take L (itR ek ev r b l todo) R)
  (h0:todo=[]->wpList P ops Q rest (a.put o.dst (.tuple #[.bool false])) w)
  (h1:∀y todo',todo.Perm (y::todo')->y∈l->∀w',St W (dK4 ek ev r b l todo' y::R) w'->wpList P ops Q rest (a.put o.dst (.tuple #[.bool true,ek y.1,ev y.2])) w'):wpList P ops Q (o::rest) a w:=by
 rcases IW7 (P:=P) (ty:=o.type) (hS.take hu)with ⟨h2,hr⟩|⟨y,todo',hp,hy,w',hr,hS'⟩
 ·refine Ak7 hg (v:=.tuple #[.bool false]) (w':=w) ?_ (h0 h2);unfold execOp;simp[ho,hx,hr]
 ·refine Ak7 hg (v:=.tuple #[.bool true,ek y.1,ev y.2]) (w':=w') ?_ (h1 y todo' hp hy w' hS');unfold execOp;simp[ho,hx,hr]
theorem NA7{x:Operand}{y:κ×ν}(hS:St W L w)(ho:o.op=.entry x)(hg:Region.wanted o (yielded ops a.tmps)=true)(hx:a.eval x=.P r)(hu:Take L (dK4 ek ev r b l todo y) R)
  (h:St W (itR ek ev r b l todo::R) w->wpList P ops Q rest (a.put o.dst (.tuple #[ek y.1,ev y.2])) w):wpList P ops Q (o::rest) a w:=by
 refine Ak7 hg (v:=.tuple #[ek y.1,ev y.2]) (w':=w) ?_ (h (eO4 (hS.take hu)));unfold execOp;simp[ho,hx,Hx7 (hS.take hu)]
theorem IZ7{x:Operand}(hS:St W L w)(ho:o.op=.next x false)(hg:Region.wanted o (yielded ops a.tmps)=true)(hx:a.eval x=.P r)(hu:Take L (itR ek ev r b l todo) R)(ht:todo=[])
  (h0:wpList P ops Q rest (a.put o.dst (.tuple #[.bool false])) w):wpList P ops Q (o::rest) a w:=
 Ls7 hS ho hg hx hu (fun _=>h0) (fun y todo' hp _ _ _=>by rw[ht]at hp;exact absurd hp.length_eq (by simp))
theorem NB7{x:Operand}(hS:St W L w)(ho:o.op=.next x false)(hg:Region.wanted o (yielded ops a.tmps)=true)(hx:a.eval x=.P r)(hu:Take L (itR ek ev r b l todo) R)(ht:todo≠[])
  (h1:∀y todo',todo.Perm (y::todo')->y∈l->∀w',St W (dK4 ek ev r b l todo' y::R) w'->wpList P ops Q rest (a.put o.dst (.tuple #[.bool true,ek y.1,ev y.2])) w'):wpList P ops Q (o::rest) a w:=
 Ls7 hS ho hg hx hu (fun h=>absurd h ht) h1
def bV4(r b:Nat)(w:World):Nat:=match w.heap[r]?,w.heap[b]? with
 | some (.mapIter _ _ seen _),some (.map es _)=>(es.toList.filter fun e=>decide (e.born∉seen)).length
 | _,_=>0
theorem BN7(h:St W (itR ek ev r b l todo::L) w):bV4 r b w=todo.length:=by
 obtain⟨⟨ps,c,since,c0,seen⟩,⟨h1,h2,h3,h4,h5⟩,hS⟩:=dr4 h;have e1:=hS.get (b:=r) .head;have e2:=hS.get (b:=b) (.tail .head);unfold bV4;rw[e1,e2]
 have e3:(((ps.map (evs ev)).map (L9 ek)).toArray.toList.filter fun e=>decide (e.born∉seen)).length=(ps.filter fun x=>decide (x.2.2∉seen)).length:=by
  show(((ps.map (evs ev)).map (L9 ek)).filter _).length=_
  rw[List.map_map,List.filter_map,jM];rfl
 have e4:=h5.length_eq;rw[jM]at e4;exact e3.trans e4
variable[DecidableEq κ]
def aj4(ok:Bool)(z:Value):Option Value->Value
 | some v=>if ok then .tuple #[v,.bool true]else v
 | none=>if ok then .tuple #[z,.bool false]else z
def p9(l:List (κ×ν))(k:κ):Option ν:=(l.find? fun x=>decide (x.1=k)).map (·.2)
theorem Eq7{k:κ}(h:p9 l k=none):∀x∈l,x.1≠k:=by unfold p9 at h;rw[Option.map_eq_none_iff,List.find?_eq_none]at h;intro x hx;simpa using h x hx
theorem Dn7{k:κ}{v:ν}(h:p9 l k=some v):(k,v)∈l:=by unfold p9 at h;obtain⟨x,hx,rfl⟩:=Option.map_eq_some_iff.1 h;have h1:=List.find?_some hx;have h2:=List.mem_of_find?_eq_some hx;simp only[decide_eq_true_eq]at h1;rw[<-h1];exact h2
theorem NC7{k:κ}(h:∀x∈l,x.1≠k):p9 l k=none:=by unfold p9;rw[Option.map_eq_none_iff,List.find?_eq_none];intro x hx;simpa using h x hx
theorem BK7{k:κ}{v:ν}(hn:(l.map (·.1)).Nodup)(h:(k,v)∈l):p9 l k=some v:=by
 induction l with
 | nil=>cases h
 | cons x l ih=>
  rw[List.map_cons,List.nodup_cons]at hn;unfold p9 at ih ⊢
  rcases List.mem_cons.1 h with h1|h1
  ·subst h1;simp
  ·have hx:x.1≠k:=fun e=>hn.1 (List.mem_map.2 ⟨_,h1,e.symm⟩)
   rw[List.find?_cons_of_neg (by simpa using hx)];exact ih hn.2 h1
theorem CM7{l l':List (κ×ν)}(hn:(l.map (·.1)).Nodup)(hp:l.Perm l')(k:κ):p9 l k=p9 l' k:=by
 cases h:p9 l k with
 | some v=>exact(BK7 ((hp.map (·.1)).nodup_iff.1 hn) (hp.mem_iff.1 (Dn7 h))).symm
 | none=>exact(NC7 fun x hx=>Eq7 h x (hp.mem_iff.2 hx)).symm
theorem Er7{k:κ}{z:Value}{ok:Bool}(h:St W (c8 ek ev b l::L) w)(ht:F5 P t=some (K,E))(hK:KeyOk P K ek)(hz:J8 P E=some z):
  (Instr.lookup t (.map (some b)) (ek k) ok).run P w=.ok (aj4 ok z ((p9 l k).map ev)) w:=by
 cases hg:p9 l k with
 | some v=>exact IX7 (x:=(k,v)) h ht hK (Dn7 hg)
 | none=>exact IY7 h ht hK hz (Eq7 hg)
theorem If7{x y:Operand}{k:κ}{z:Value}{ok:Bool}(hS:St W L w)(ho:o.op=.lookup t x y ok)(hg:Region.wanted o (yielded ops a.tmps)=true)(hx:a.eval x=.map (some b))(hy:a.eval y=ek k)(hu:Take L (c8 ek ev b l) R)
  (ht:F5 P t=some (K,E)) (hK:KeyOk P K ek) (hz:J8 P E=some z) (h:wpList P ops Q rest (a.put o.dst (aj4 ok z ((p9 l k).map ev))) w):wpList P ops Q (o::rest) a w:=by
 refine Ak7 hg (w':=w) ?_ h;unfold execOp;simp[ho,hx,hy,Er7 (hS.take hu) ht hK hz]
theorem Do7{x y:Operand}{k:κ}{u:ν}{z:Value}(hS:St W L w)(ho:o.op=.lookup t x y false)(hg:Region.wanted o (yielded ops a.tmps)=true)(hx:a.eval x=.map (some b))(hy:a.eval y=ek k)(hu:Take L (c8 ek ev b l) R)
  (ht:F5 P t=some (K,E)) (hK:KeyOk P K ek) (hz:J8 P E=some z) (hgl:p9 l k=some u) (h:wpList P ops Q rest (a.put o.dst (ev u)) w):wpList P ops Q (o::rest) a w:=
 If7 hS ho hg hx hy hu ht hK hz (by rw[hgl];exact h)
theorem Ja7{x y:Operand}{k:κ}{z:Value}(hS:St W L w)(ho:o.op=.lookup t x y false)(hg:Region.wanted o (yielded ops a.tmps)=true)(hx:a.eval x=.map (some b))(hy:a.eval y=ek k)(hu:Take L (c8 ek ev b l) R)
  (ht:F5 P t=some (K,E)) (hK:KeyOk P K ek) (hz:J8 P E=some z) (hgl:p9 l k=none) (h:wpList P ops Q rest (a.put o.dst z) w):wpList P ops Q (o::rest) a w:=
 If7 hS ho hg hx hy hu ht hK hz (by rw[hgl];exact h)
theorem Ba7{x y v:Operand}{k:κ}{u:ν}(hS:St W L w)(ho:o.op=.mapUpdate t x y v)(hg:Region.wanted o (yielded ops a.tmps)=true)(hx:a.eval x=.map (some b))(hy:a.eval y=ek k)(hu:Take L (c8 ek ev b l) R)(hv:a.eval v=ev u)
  (ht:F5 P t=some (K,E)) (hK:KeyOk P K ek) (h:∀w',St W (c8 ek ev b ((k,u)::l8 l k)::R) w'->wpList P ops Q rest (a.put o.dst undef) w'):wpList P ops Q (o::rest) a w:=by
 obtain⟨w',hr,hS'⟩:=PF7 (P:=P) (k:=k) (v:=u) (hS.take hu) ht hK;refine CG7 hg (w':=w') ?_ (h w' hS');unfold execOp;simp[ho,hx,hy,hv,hr]
theorem Kj7{x y:Operand}{k:κ}{k2:TypeId}(hS:St W L w)(ho:o.op=.call { callee:=.builtin .delete,args:=#[x,y],argTypes:=#[t,k2] })(hg:Region.wanted o (yielded ops a.tmps)=true)(hx:a.eval x=.map (some b))(hy:a.eval y=ek k)(hu:Take L (c8 ek ev b l) R)
  (ht:F5 P t=some (K,E)) (hK:KeyOk P K ek) (h:∀w',St W (c8 ek ev b (l8 l k)::R) w'->wpList P ops Q rest (a.put o.dst (.tuple #[])) w'):wpList P ops Q (o::rest) a w:=by
 obtain⟨w',hr,hS'⟩:=PG7 (P:=P) (k:=k) (k2:=k2) (ty:=o.type) (hS.take hu) ht hK;refine Ak7 hg (v:=.tuple #[]) (w':=w') ?_ (h w' hS');unfold execOp;simp[ho,resolve,invoke,builtin,hx,hy,hr]
end
end Go.Sl
end
section
namespace Go.Sl
open Go.RowKit
section
variable{κ ν:Type}[DecidableEq κ]{P:Program}{t K E:TypeId}{ek:κ->Value}{ev:ν->Value}{W w:World}{L R:List HP}{b:Nat}{l:List (κ×ν)}{ops:Array Oper}{a:Act}{rest:List Oper}{o:Oper}
theorem ND7{k:κ}{z:Value}{d u:ν}(hd:z=ev d)(hu:(p9 l k).getD d=u):aj4 false z ((p9 l k).map ev)=ev u:=by
 subst hu hd
 cases p9 l k <;> rfl
theorem Jb7{Q:Exit->Act->World->Prop}{x y:Operand}{k:κ}{z:Value}(d u:ν)(hS:St W L w)(ho:o.op=.lookup t x y false)(hg:Region.wanted o (yielded ops a.tmps)=true)(hx:a.eval x=.map (some b))(hy:a.eval y=ek k)(hu:Take L (c8 ek ev b l) R)
  (ht:F5 P t=some (K,E)) (hK:KeyOk P K ek) (hz:J8 P E=some z) (hd:z=ev d) (hv:(p9 l k).getD d=u) (h:wpList P ops Q rest (a.put o.dst (ev u)) w):wpList P ops Q (o::rest) a w:=
 If7 hS ho hg hx hy hu ht hK hz (by rw[ND7 hd hv];exact h)
theorem Bf7{tb:List Nat}{toks:List Tok}{fresh:Nat->Bool}{pin:Nat->Option Value}{Qf:Act->Prop}{nd:Nat->Value}{i:Nat}{x y:Operand}{k:κ}{z:Value}(d u:ν)(hf:fresh i=false)(hn:ah4 toks i=true)(ho:o.op=.lookup t x y false)(hg:Region.wanted o (yielded ops a.tmps)=true)(hx:a.eval x=.map (some b))(hy:a.eval y=ek k)
  (hu:∀F, ∃R,Take (kpL toks tb i nd++F) (c8 ek ev b l) R) (ht:F5 P t=some (K,E)) (hK:KeyOk P K ek) (hz:J8 P E=some z) (hd:z=ev d) (hv:(p9 l k).getD d=u)
  (h:p8 P W ops tb toks fresh pin Qf nd (i+1) rest (a.put o.dst (ev u))):p8 P W ops tb toks fresh pin Qf nd i (o::rest) a:=
 Em7 hf hn hg (fun F w hS=>by obtain⟨R,hu⟩:=hu F;unfold execOp;simp[ho,hx,hy,Er7 (hS.take hu) ht hK hz,ND7 hd hv]) h
end
end Go.Sl
namespace Go.Sl
open Go.RowKit
section
variable{P:Program}{w:World}{ops:Array Oper}{Q:Exit->Act->World->Prop}{a:Act}{rest:List Oper}{o:Oper}
theorem Dh7{t t2:TypeId}{x y:Operand}{xs ys:Array Value}{r:Bool}(ho:o.op=.binOp .eql t x y t2)(hg:Region.wanted o (yielded ops a.tmps)=true)(hx:a.eval x=.agg xs)(hy:a.eval y=.agg ys)(hm:P.eqGuardType P.depth t=false)(hr:∀w:World,(Op.equalIn 10000 t (.agg xs) (.agg ys)).run P w=.ok r w)
  (h:wpList P ops Q rest (a.put o.dst (.bool r)) w):wpList P ops Q (o::rest) a w:=by
 refine Ak7 hg (v:=.bool r) (w':=w) ?_ h;unfold execOp;simp[ho,hx,hy,run_eqGuard_agg w .eql t x y xs ys hm,run_eql_struct,hr]
end
end Go.Sl
namespace Go.Proofs.YtlmhakmoioogaaaGreat
open Go.RowKit Go.Sl
theorem eqI(x0 x1 x2 x3 y0 y1 y2 y3:Int)(w:World):(Op.equalIn 10000 29 (.agg #[.I x0,.I x1,.I x2,.I x3]) (.agg #[.I y0,.I y1,.I y2,.I y3])).run Tryz.prog w=.ok (x0==y0&&(x1==y1&&(x2==y2&&x3==y3))) w:=by
 have u3:=Tryz.underlying3;have a3:=Tryz.isAgg3;have z3:=Tryz.sizeOf3;rw[show(10000:Nat)=9999+1 from rfl,Op.equalIn];simp only[Sem.run_bind,run_underlying Tryz.underlying29,Result.andThen_ok];simp only[Std.Legacy.Range.forIn_eq_forIn_range',Std.Legacy.Range.size,Nat.sub_zero,Nat.add_sub_cancel,Nat.div_one,List.range'_succ,List.range'_zero,List.forIn_cons,List.forIn_nil]
 go_simp
 by_cases h1:x0=y0 <;> by_cases h2:x1=y1 <;> by_cases h3:x2=y2 <;> by_cases h4:x3=y3 <;> simp[h1,h2,h3,h4]
abbrev eS(k:ByteArray):Value:=.string k
abbrev eP(i:It):Value:=.agg i.cells.toArray
theorem kS:KeyOk Tryz.prog 9 eS:=KeyOk.str Tryz.underlying9
theorem mP:F5 Tryz.prog 173=some (9,29):=by kernel_rfl
theorem zP:J8 Tryz.prog 29=some (.agg #[.I 0,.I 0,.I 0,.I 0]):=by kernel_rfl
abbrev Ps:=List (ByteArray×It)
def r6(p:Ps)(k:ByteArray):It:=(p9 p k).getD it0
def isZ(i:It):Bool:=decide (i.x0=0)&&(decide (i.x1=0)&&(decide (i.x2=0)&&decide (i.x3=0)))
def M7(p:Ps)(k:ByteArray)(i:It):Ps:=if isZ i=true then l8 p k else(k,i)::l8 p k
section
variable(vb mb:Nat)(p:Ps)(k:ByteArray)(u1 u2:Value)(W w:World)(R:List HP)
theorem PI7(hS:St W (blk vb [.map (some mb),u1,u2] 176::c8 eS eP mb p::R) w):
  Calls Tryz.prog 47 #[.P vb,.string k] w fun e w'=>e=.returned (eP (r6 p k))/\St W (blk vb [.map (some mb),u1,u2] 176::c8 eS eP mb p::R) w':=by
 obtain⟨x,hx⟩:∃x,r6 p k=x:=⟨_,rfl⟩
 rw[hx];obtain⟨x0,x1,x2,x3⟩:=x;have Hx:=jH hx;clear hx;go_enter Tryz.func47,Tryz.ntmps47;go_wp2_with(first|(with_reducible apply Jb7 (ek:=eS) (ev:=eP) (k:=k) it0 ⟨x0,x1,x2,x3⟩ hS);rfl;rfl;rfl;rfl;exact g8;exact mP;exact kS;exact zP;rfl;exact Hx.out;simp only[Act.put,fA,fB,fC,Nat.reduceAdd,eP,It.cells]|refine zl1 hS ?_|refine zsN hS ?_;clear hS;intro w hS|refine zal hS ?_;clear hS;intro b w hS);apply AH7;rfl;rfl;rfl;exact hS;decide +kernel;(exact x9);kernel_rfl;exact⟨rfl,hS.drop⟩
theorem Bi7(i:It)(hS:St W (blk vb [.map (some mb),u1,u2] 176::c8 eS eP mb p::R) w):
  Calls Tryz.prog 164 #[.P vb,.string k,.agg i.cells.toArray] w fun e w'=>e=.returned (.tuple #[])/\St W (blk vb [.map (some mb),u1,u2] 176::c8 eS eP mb (M7 p k i)::R) w':=by
 obtain⟨x0,x1,x2,x3⟩:=i;unfold M7
 cases hz:isZ ⟨x0,x1,x2,x3⟩with
 | true=>
  rw[if_pos rfl];simp only[isZ,jB,decide_eq_true_eq]at hz;obtain⟨rfl,rfl,rfl,rfl⟩:=hz;have h4:(((0:Int)==0)&&(((0:Int)==0)&&(((0:Int)==0)&&((0:Int)==0))))=true:=rfl;simp only[It.cells];go_enter Tryz.func164,Tryz.ntmps164;go_wp2_with(first|(with_reducible apply Dh7);rfl;rfl;rfl;rfl;kernel_rfl;exact eqI _ _ _ _ _ _ _ _;rw[h4];simp only[Act.put,fA,fB,fC,Nat.reduceAdd,eP,It.cells]|((with_reducible apply Kj7 (ek:=eS) (ev:=eP) (k:=k) hS);rfl;rfl;rfl;rfl;exact g8;exact mP;exact kS;clear hS;intro w hS;try(simp only[Act.put,fA,fB,fC,Nat.reduceAdd,eP,It.cells]))|refine zl1 hS ?_|refine zlN hS ?_|refine zbx hS ?_;clear hS;intro b w hS);refine bodyPost_ret (results_none rfl _ _ _) rfl ?_;exact⟨rfl,hS.s _⟩
 | false=>
  rw[if_neg (by simp)];have h4:(x0==0&&(x1==0&&(x2==0&&x3==0)))=false:=hz;clear hz;simp only[It.cells];go_enter Tryz.func164,Tryz.ntmps164;go_wp2_with(first|(with_reducible apply Dh7);rfl;rfl;rfl;rfl;kernel_rfl;exact eqI _ _ _ _ _ _ _ _;rw[h4];simp only[Act.put,fA,fB,fC,Nat.reduceAdd,eP,It.cells]|refine zlN hS ?_|refine zbx hS ?_;clear hS;intro b w hS);refine rt 6 hS ?_
  repeat(first|refine zq1 ?_|refine zqN ?_|refine zqn ?_|refine qR ?_)
  clear hS;intro w hS;simp only[jD,List.drop_zero];go_wp2_with(first|((with_reducible apply Ba7 (ek:=eS) (ev:=eP) (k:=k) (u:=⟨x0,x1,x2,x3⟩) hS);rfl;rfl;rfl;rfl;exact g8;(focus(rfl));exact mP;exact kS;clear hS;intro w hS;try(simp only[Act.put,fA,fB,fC,Nat.reduceAdd,eP,It.cells])));go_end0;exact⟨rfl,hS.s _⟩
end
def y5(k:ByteArray):Bool:=decide (1<=k.size)&&decide (k.size<=16)
theorem Cb7(k:ByteArray)(W w:World)(R:List HP)(hS:St W R w):
  Calls Tryz.prog 163 #[.string k] w fun e w'=>e=.returned (.bool (y5 k))/\St W R w':=by
 go_enter Tryz.func163,Tryz.ntmps163;by_cases h1:k.size<1
 ·have e:y5 k=false:=by unfold y5;simp;omega
  have d1:decide ((1:Int)<=(k.size:Int))=false:=by simp;omega
  rw[e];go_wp2_with(fail);go_ret;exact⟨rfl,hS⟩
 ·have d1:(1:Int)<=(k.size:Int):=by omega
  by_cases h2:k.size<=16
  ·have e:y5 k=true:=by unfold y5;simp;omega
   have d2:(k.size:Int)<=16:=by omega
   rw[e];go_wp2_with(fail);go_ret;exact⟨rfl,hS⟩
  ·have e:y5 k=false:=by unfold y5;simp;omega
   have d2:decide ((k.size:Int)<=16)=false:=by simp;omega
   rw[e];go_wp2_with(fail);go_ret;exact⟨rfl,hS⟩
theorem Ig7{l:List It}{s0 s1 s2 s3:Int}(h:y9 l it0=some ⟨s0,s1,s2,s3⟩)(v:Value)(W w:World)(R:List HP)(hS:St W (row v 4 29 l.length (l.flatMap It.cells)::R) w):
  Calls Tryz.prog 58 #[v] w fun e w'=>e=.returned (.tuple #[.agg #[.I s0,.I s1,.I s2,.I s3],.bool true])/\St W R w':=
 (Ln7 l v W w R hS).mono fun e w' ⟨he,hS⟩=>⟨by rw[he,I6,h];rfl,hS.drop⟩
theorem Lt7{l:List It}(h:y9 l it0=none)(v:Value)(W w:World)(R:List HP)(hS:St W (row v 4 29 l.length (l.flatMap It.cells)::R) w):
  Calls Tryz.prog 58 #[v] w fun e w'=>e=.returned (.tuple #[.agg #[.I 0,.I 0,.I 0,.I 0],.bool false])/\St W R w':=
 (Ln7 l v W w R hS).mono fun e w' ⟨he,hS⟩=>⟨by rw[he,I6,h];rfl,hS.drop⟩
theorem RM7{x0 x1 x2 x3 y0 y1 y2 y3:Int}(h:aK4 ⟨x0,x1,x2,x3⟩ ⟨y0,y1,y2,y3⟩=true)(W w:World)(R:List HP)(hS:St W R w):
  Calls Tryz.prog 166 #[.agg #[.I x0,.I x1,.I x2,.I x3],.agg #[.I y0,.I y1,.I y2,.I y3]] w fun e w'=>e=.returned (.tuple #[.agg #[.I (x0-y0),.I (x1-y1),.I (x2-y2),.I (x3-y3)],.bool true])/\St W R w':=
 (Rj7 ⟨x0,x1,x2,x3⟩ ⟨y0,y1,y2,y3⟩ W w R hS).mono fun e w' ⟨he,hS⟩=>⟨by rw[he,dq4,h];rfl,hS⟩
theorem Td7{x0 x1 x2 x3 y0 y1 y2 y3:Int}(h:aK4 ⟨x0,x1,x2,x3⟩ ⟨y0,y1,y2,y3⟩=false)(W w:World)(R:List HP)(hS:St W R w):
  Calls Tryz.prog 166 #[.agg #[.I x0,.I x1,.I x2,.I x3],.agg #[.I y0,.I y1,.I y2,.I y3]] w fun e w'=>e=.returned (.tuple #[.agg #[.I 0,.I 0,.I 0,.I 0],.bool false])/\St W R w':=
 (Rj7 ⟨x0,x1,x2,x3⟩ ⟨y0,y1,y2,y3⟩ W w R hS).mono fun e w' ⟨he,hS⟩=>⟨by rw[he,dq4,h];rfl,hS⟩
def bA4(p:Ps)(k:ByteArray)(i:It):Int:=if y5 k=true/\w8 i=true then(if(y9 [r6 p k,i] it0).isSome=true then 0 else 6)else 1
def aM4(p:Ps)(k:ByteArray)(i:It):Ps:=if y5 k=true/\w8 i=true then(match y9 [r6 p k,i] it0 with|some s=>M7 p k s|none=>p)else p
def J9(p:Ps)(k:ByteArray)(i:It):Int:=if y5 k=true/\w8 i=true then(if aK4 (r6 p k) i=true then 0 else 14)else 1
def K6(p:Ps)(k:ByteArray)(i:It):Ps:=if y5 k=true/\w8 i=true then(if aK4 (r6 p k) i=true then M7 p k (cr4 (r6 p k) i)else p)else p
section
variable(vb mb:Nat)(p:Ps)(k:ByteArray)(u1 u2:Value)(i:It)(W w:World)(R:List HP)
abbrev tB5b:List Nat:=[0,1,3,7,0,31,0,127,255,511,1023,1023,0,6143,16383]
theorem PJ7(hS:St W (blk vb [.map (some mb),u1,u2] 176::c8 eS eP mb p::R) w):
  Calls Tryz.prog 102 #[.P vb,.string k,.agg i.cells.toArray] w fun e w'=>e=.returned (.I (bA4 p k i))/\St W (blk vb [.map (some mb),u1,u2] 176::c8 eS eP mb (aM4 p k i)::R) w':=by
 obtain⟨x0,x1,x2,x3⟩:=i
 cases hk:y5 k with
 | false=>
  have e1:bA4 p k ⟨x0,x1,x2,x3⟩=1:=by simp[bA4,hk]
  have e2:aM4 p k ⟨x0,x1,x2,x3⟩=p:=by simp[aM4,hk]
  rw[e1,e2];clear e1 e2;simp only[It.cells];go_enter Tryz.func102,Tryz.ntmps102;go_wp2_with(first|go_big_skip|go_at_call 163;refine(Cb7 k W _ _ hS).mono ?_;clear hS;rw[hk];rintro e w ⟨rfl,hS⟩|refine zbx hS ?_;clear hS;intro b w hS);go_ret;exact⟨rfl,hS.drop⟩
 | true=>
  cases hi:w8 ⟨x0,x1,x2,x3⟩with
  | false=>
   have e1:bA4 p k ⟨x0,x1,x2,x3⟩=1:=by simp[bA4,hk,hi]
   have e2:aM4 p k ⟨x0,x1,x2,x3⟩=p:=by simp[aM4,hk,hi]
   rw[e1,e2];clear e1 e2;simp only[It.cells];go_enter Tryz.func102,Tryz.ntmps102;go_wp2_with(first|go_at_call 163;refine(Cb7 k W _ _ hS).mono ?_;clear hS;rw[hk];rintro e w ⟨rfl,hS⟩|go_at_call 126;refine(aJ4 _ _ _ _ W _ _ hS).mono ?_;clear hS;rw[hi];rintro e w ⟨rfl,hS⟩|refine zlN hS ?_|refine zbx hS ?_;clear hS;intro b w hS);go_ret;exact⟨rfl,hS.drop⟩
  | true=>
   obtain⟨px,hx⟩:∃x,r6 p k=x:=⟨_,rfl⟩
   obtain⟨p0,p1,p2,p3⟩:=px
   cases ha:y9 [⟨p0,p1,p2,p3⟩,⟨x0,x1,x2,x3⟩] it0 with
   | none=>
    have e1:bA4 p k ⟨x0,x1,x2,x3⟩=6:=by simp[bA4,hk,hi,hx,ha]
    have e2:aM4 p k ⟨x0,x1,x2,x3⟩=p:=by simp[aM4,hk,hi,hx,ha]
    rw[e1,e2];have Hx:=jH hx;have Ha:=jH ha;clear ha hx e1 e2;simp only[It.cells];go_enter Tryz.func102,Tryz.ntmps102;go_wp2_with(first|go_at_call 163;refine(Cb7 k W _ _ hS).mono ?_;clear hS;rw[hk];rintro e w ⟨rfl,hS⟩|go_at_call 126;refine(aJ4 _ _ _ _ W _ _ hS).mono ?_;clear hS;rw[hi];rintro e w ⟨rfl,hS⟩|refine zlN hS ?_|refine zbx hS ?_;clear hS;intro b w hS);refine rf3 tB5b (fun i=>i==7||i==12) (fun i=>if i==8 then some (.tuple #[.agg #[.I 0,.I 0,.I 0,.I 0],.bool false])else none) [⟨some 7,some 8,fun nd=>row (nd 7) 4 29 2 ([(⟨p0,p1,p2,p3⟩:It),⟨x0,x1,x2,x3⟩].flatMap It.cells)⟩,⟨some 12,some 13,fun nd=>j6 (nd 12) [.I 0,.I 0,.I 0,.I 0] 29⟩,⟨some 13,none,fun nd=>j6 (nd 12) [.I 0,.I 0,.I 0,.I 0] 29⟩] [none,none,none] hS ?_;intro nd
    repeat(first|refine zc1 ?_|refine zcN ?_|refine zcn ?_|apply Bf7 (ek:=eS) (ev:=eP) (k:=k) it0 ⟨p0,p1,p2,p3⟩;rfl;kernel_rfl;rfl;rfl;rfl;rfl;intro F;exact⟨_,by exact A9⟩;exact mP;exact kS;exact zP;rfl;exact Hx.out;simp only[Act.put,fA,fB,fC,Nat.reduceAdd,eP,It.cells]|refine cR ?_)
    (apply Rh7;rfl;rfl;rfl;(focus(simp only[fD,fI,fJ,Act.eval,fE,fF,fG,fH,fK];try rfl));exact esS;exact rsS;rfl;rfl;rfl;rfl;rfl;decide;intro _;rfl;rfl;intro _;rfl;refine frS ?_);refine zcv ?_ (hs:=by(intro F w hS;(try clear hS0);exact Lt7 Ha.out _ W w _ hS))
    iterate 3 (refine cR ?_)
    (refine zca ?_);refine zct ?_;refine cR ?_;refine Ac7 ?_;clear hS;intro w hS;have hS2:St W [j6 (nd 12) _ _,blk b _ _,blk vb _ _,c8 eS eP mb p,sats R] w:=hS;clear hS;have hS:=hS2.unpack [_,_,_,_];clear hS2;simp only[jK,jN]at hS;generalize nd 12=v12 at *;have h1:=hS.ptr;clear hS;obtain⟨b2,rfl,hS⟩:=h1;go_wp2_with(fail);go_ret;exact⟨rfl,hS.s _⟩
   | some s=>
    obtain⟨s0,s1,s2,s3⟩:=s;have e1:bA4 p k ⟨x0,x1,x2,x3⟩=0:=by simp[bA4,hk,hi,hx,ha]
    have e2:aM4 p k ⟨x0,x1,x2,x3⟩=M7 p k ⟨s0,s1,s2,s3⟩:=by simp[aM4,hk,hi,hx,ha,cr4]
    rw[e1,e2];have Hx:=jH hx;have Ha:=jH ha;clear ha hx e1 e2;simp only[It.cells];go_enter Tryz.func102,Tryz.ntmps102;go_wp2_with(first|go_at_call 163;refine(Cb7 k W _ _ hS).mono ?_;clear hS;rw[hk];rintro e w ⟨rfl,hS⟩|go_at_call 126;refine(aJ4 _ _ _ _ W _ _ hS).mono ?_;clear hS;rw[hi];rintro e w ⟨rfl,hS⟩|refine zlN hS ?_|refine zbx hS ?_;clear hS;intro b w hS);refine rf3 tB5b (fun i=>i==7||i==12) (fun i=>if i==8 then some (.tuple #[.agg #[.I s0,.I s1,.I s2,.I s3],.bool true])else none) [⟨some 7,some 8,fun nd=>row (nd 7) 4 29 2 ([(⟨p0,p1,p2,p3⟩:It),⟨x0,x1,x2,x3⟩].flatMap It.cells)⟩,⟨some 12,some 13,fun nd=>j6 (nd 12) [.I 0,.I 0,.I 0,.I 0] 29⟩,⟨some 13,none,fun nd=>j6 (nd 12) [.I s0,.I s1,.I s2,.I s3] 29⟩] [none,none,none] hS ?_;intro nd
    repeat(first|refine zc1 ?_|refine zcN ?_|refine zcn ?_|apply Bf7 (ek:=eS) (ev:=eP) (k:=k) it0 ⟨p0,p1,p2,p3⟩;rfl;kernel_rfl;rfl;rfl;rfl;rfl;intro F;exact⟨_,by exact A9⟩;exact mP;exact kS;exact zP;rfl;exact Hx.out;simp only[Act.put,fA,fB,fC,Nat.reduceAdd,eP,It.cells]|refine cR ?_)
    (apply Rh7;rfl;rfl;rfl;(focus(simp only[fD,fI,fJ,Act.eval,fE,fF,fG,fH,fK];try rfl));exact esS;exact rsS;rfl;rfl;rfl;rfl;rfl;decide;intro _;rfl;rfl;intro _;rfl;refine frS ?_);refine zcv ?_ (hs:=by(intro F w hS;(try clear hS0);exact Ig7 Ha.out _ W w _ hS))
    iterate 3 (refine cR ?_)
    (refine zca ?_);refine zct ?_;refine cR ?_;refine Ac7 ?_;clear hS;intro w hS;have hS2:St W [j6 (nd 12) _ _,blk b _ _,blk vb _ _,c8 eS eP mb p,sats R] w:=hS;clear hS;have hS:=hS2.unpack [_,_,_,_];clear hS2;simp only[jK,jN]at hS;generalize nd 12=v12 at *;have h1:=hS.ptr;clear hS;obtain⟨b2,rfl,hS⟩:=h1;go_wp2_with(first|go_at_call 164;refine(Bi7 vb mb p k u1 u2 W _ R ⟨s0,s1,s2,s3⟩ (hS.s _)).mono ?_;clear hS;rintro e w ⟨rfl,hS⟩|refine zlN hS ?_);go_ret;exact⟨rfl,hS⟩
abbrev tB5c:List Nat:=[0,1,3,7,0,31,0,127,255,511,511,0,3071,8191]
theorem Gr7(hS:St W (blk vb [.map (some mb),u1,u2] 176::c8 eS eP mb p::R) w):
  Calls Tryz.prog 104 #[.P vb,.string k,.agg i.cells.toArray] w fun e w'=>e=.returned (.I (J9 p k i))/\St W (blk vb [.map (some mb),u1,u2] 176::c8 eS eP mb (K6 p k i)::R) w':=by
 obtain⟨x0,x1,x2,x3⟩:=i
 cases hk:y5 k with
 | false=>
  have e1:J9 p k ⟨x0,x1,x2,x3⟩=1:=by simp[J9,hk]
  have e2:K6 p k ⟨x0,x1,x2,x3⟩=p:=by simp[K6,hk]
  rw[e1,e2];clear e1 e2;simp only[It.cells];go_enter Tryz.func104,Tryz.ntmps104;go_wp2_with(first|go_big_skip|go_at_call 163;refine(Cb7 k W _ _ hS).mono ?_;clear hS;rw[hk];rintro e w ⟨rfl,hS⟩|refine zbx hS ?_;clear hS;intro b w hS);go_ret;exact⟨rfl,hS.drop⟩
 | true=>
  cases hi:w8 ⟨x0,x1,x2,x3⟩with
  | false=>
   have e1:J9 p k ⟨x0,x1,x2,x3⟩=1:=by simp[J9,hk,hi]
   have e2:K6 p k ⟨x0,x1,x2,x3⟩=p:=by simp[K6,hk,hi]
   rw[e1,e2];clear e1 e2;simp only[It.cells];go_enter Tryz.func104,Tryz.ntmps104;go_wp2_with(first|go_at_call 163;refine(Cb7 k W _ _ hS).mono ?_;clear hS;rw[hk];rintro e w ⟨rfl,hS⟩|go_at_call 126;refine(aJ4 _ _ _ _ W _ _ hS).mono ?_;clear hS;rw[hi];rintro e w ⟨rfl,hS⟩|refine zlN hS ?_|refine zbx hS ?_;clear hS;intro b w hS);go_ret;exact⟨rfl,hS.drop⟩
  | true=>
   obtain⟨px,hx⟩:∃x,r6 p k=x:=⟨_,rfl⟩
   obtain⟨p0,p1,p2,p3⟩:=px
   cases ha:aK4 ⟨p0,p1,p2,p3⟩ ⟨x0,x1,x2,x3⟩with
   | false=>
    have e1:J9 p k ⟨x0,x1,x2,x3⟩=14:=by simp[J9,hk,hi,hx,ha]
    have e2:K6 p k ⟨x0,x1,x2,x3⟩=p:=by simp[K6,hk,hi,hx,ha]
    rw[e1,e2];have Hx:=jH hx;have Ha:=jH ha;clear ha hx e1 e2;simp only[It.cells];go_enter Tryz.func104,Tryz.ntmps104;go_wp2_with(first|go_at_call 163;refine(Cb7 k W _ _ hS).mono ?_;clear hS;rw[hk];rintro e w ⟨rfl,hS⟩|go_at_call 126;refine(aJ4 _ _ _ _ W _ _ hS).mono ?_;clear hS;rw[hi];rintro e w ⟨rfl,hS⟩|refine zlN hS ?_|refine zbx hS ?_;clear hS;intro b w hS);refine rf3 tB5c (fun i=>i==11) (fun i=>if i==7 then some (.tuple #[.agg #[.I (0),.I (0),.I (0),.I (0)],.bool false])else none) [⟨some 11,some 12,fun nd=>j6 (nd 11) [.I 0,.I 0,.I 0,.I 0] 29⟩,⟨some 12,none,fun nd=>j6 (nd 11) [.I (0),.I (0),.I (0),.I (0)] 29⟩] [none,none,none] hS ?_;intro nd
    repeat(first|refine zc1 ?_|refine zcN ?_|refine zcn ?_|apply Bf7 (ek:=eS) (ev:=eP) (k:=k) it0 ⟨p0,p1,p2,p3⟩;rfl;kernel_rfl;rfl;rfl;rfl;rfl;intro F;exact⟨_,by exact A9⟩;exact mP;exact kS;exact zP;rfl;exact Hx.out;simp only[Act.put,fA,fB,fC,Nat.reduceAdd,eP,It.cells]|refine cR ?_)
    (refine zcv ?_ (hs:=by(intro F w hS;(try clear hS0);exact Td7 Ha.out W w _ hS)))
    iterate 3 (refine cR ?_)
    (refine zca ?_);refine zct ?_;refine cR ?_;refine Ac7 ?_;clear hS;intro w hS;have hS2:St W [j6 (nd 11) _ _,blk b _ _,blk vb _ _,c8 eS eP mb p,sats R] w:=hS;clear hS;have hS:=hS2.unpack [_,_,_,_];clear hS2;simp only[jK,jN]at hS;generalize nd 11=v12 at *;have h1:=hS.ptr;clear hS;obtain⟨b2,rfl,hS⟩:=h1;go_wp2_with(fail);go_ret;exact⟨rfl,hS.s _⟩
   | true=>
    have e1:J9 p k ⟨x0,x1,x2,x3⟩=0:=by simp[J9,hk,hi,hx,ha]
    have e2:K6 p k ⟨x0,x1,x2,x3⟩=M7 p k ⟨p0-x0,p1-x1,p2-x2,p3-x3⟩:=by simp[K6,hk,hi,hx,ha,cr4]
    rw[e1,e2];have Hx:=jH hx;have Ha:=jH ha;clear ha hx e1 e2;simp only[It.cells];go_enter Tryz.func104,Tryz.ntmps104;go_wp2_with(first|go_at_call 163;refine(Cb7 k W _ _ hS).mono ?_;clear hS;rw[hk];rintro e w ⟨rfl,hS⟩|go_at_call 126;refine(aJ4 _ _ _ _ W _ _ hS).mono ?_;clear hS;rw[hi];rintro e w ⟨rfl,hS⟩|refine zlN hS ?_|refine zbx hS ?_;clear hS;intro b w hS);refine rf3 tB5c (fun i=>i==11) (fun i=>if i==7 then some (.tuple #[.agg #[.I (p0-x0),.I (p1-x1),.I (p2-x2),.I (p3-x3)],.bool true])else none) [⟨some 11,some 12,fun nd=>j6 (nd 11) [.I 0,.I 0,.I 0,.I 0] 29⟩,⟨some 12,none,fun nd=>j6 (nd 11) [.I (p0-x0),.I (p1-x1),.I (p2-x2),.I (p3-x3)] 29⟩] [none,none,none] hS ?_;intro nd
    repeat(first|refine zc1 ?_|refine zcN ?_|refine zcn ?_|apply Bf7 (ek:=eS) (ev:=eP) (k:=k) it0 ⟨p0,p1,p2,p3⟩;rfl;kernel_rfl;rfl;rfl;rfl;rfl;intro F;exact⟨_,by exact A9⟩;exact mP;exact kS;exact zP;rfl;exact Hx.out;simp only[Act.put,fA,fB,fC,Nat.reduceAdd,eP,It.cells]|refine cR ?_)
    (refine zcv ?_ (hs:=by(intro F w hS;(try clear hS0);exact RM7 Ha.out W w _ hS)))
    iterate 3 (refine cR ?_)
    (refine zca ?_);refine zct ?_;refine cR ?_;refine Ac7 ?_;clear hS;intro w hS;have hS2:St W [j6 (nd 11) _ _,blk b _ _,blk vb _ _,c8 eS eP mb p,sats R] w:=hS;clear hS;have hS:=hS2.unpack [_,_,_,_];clear hS2;simp only[jK,jN]at hS;generalize nd 11=v12 at *;have h1:=hS.ptr;clear hS;obtain⟨b2,rfl,hS⟩:=h1;go_wp2_with(first|go_at_call 164;refine(Bi7 vb mb p k u1 u2 W _ R ⟨p0-x0,p1-x1,p2-x2,p3-x3⟩ (hS.s _)).mono ?_;clear hS;rintro e w ⟨rfl,hS⟩|refine zlN hS ?_);go_ret;exact⟨rfl,hS⟩
end
def G8(i:It)(k:Int):Int:=if k=0 then i.x0 else if k=1 then i.x1 else if k=2 then i.x2 else i.x3
def bN4(i:It)(k n:Int):It:=if k=0 then⟨n,i.x1,i.x2,i.x3⟩else if k=1 then⟨i.x0,n,i.x2,i.x3⟩else if k=2 then⟨i.x0,i.x1,n,i.x3⟩else⟨i.x0,i.x1,i.x2,n⟩
def m9(o:Ord):It:=if o.buy=true then⟨o.cnt*o.price,0,0,0⟩else bN4 it0 o.item o.cnt
theorem FB7{a b:Int}(h1:0<=a)(h2:a<=1048576)(h3:0<=b)(h4:b<=1024):0<=a*b/\a*b<=1073741824:=by refine⟨Int.mul_nonneg h1 h3,?_⟩;have:=Int.mul_le_mul h2 h4 h3 (by omega);omega
theorem My7(o:Ord)(hm:MayP o)(W w:World)(R:List HP)(hS:St W R w):
  Calls Tryz.prog 125 #[.agg o.cells.toArray] w fun e w'=>e=.returned (.agg (m9 o).cells.toArray)/\St W R w':=by
 have h1:=hm.item0;have h2:=hm.item1;have h3:=FB7 (by have:=hm.cnt0;omega) hm.cnt1 (by have:=hm.price0;omega) hm.price1;obtain⟨i,u,y,t,c,pr⟩:=o;simp only at h1 h2 h3;clear hm
 cases y with
 | true=>
  have e:m9 ⟨i,u,true,t,c,pr⟩=⟨c*pr,0,0,0⟩:=rfl;rw[e];simp only[Ord.cells,It.cells];have h4:c*pr<=9223372036854775807:=by omega
  have h5 : -9223372036854775808<=c*pr:=by omega
  clear e h1 h2;go_enter Tryz.func125,Tryz.ntmps125;go_wp2_with(first|refine zl1 hS ?_|refine zlN hS ?_|refine zs1 hS ?_;clear hS;intro w hS|refine zsN hS ?_;clear hS;intro w hS|refine zbx hS ?_;clear hS;intro b w hS|refine zal hS ?_;clear hS;intro b w hS);apply AH7;rfl;rfl;rfl;exact hS;decide +kernel;(exact x9);kernel_rfl;exact⟨rfl,hS.s _⟩
 | false=>
  have ht:t=1\/t=2\/t=3:=by omega
  rcases ht with rfl|rfl|rfl
  ·have e:m9 ⟨i,u,false,1,c,pr⟩=⟨0,c,0,0⟩:=rfl;rw[e];simp only[Ord.cells,It.cells];clear e h1 h2 h3;go_enter Tryz.func125,Tryz.ntmps125;go_wp2_with(first|refine zl1 hS ?_|refine zlN hS ?_|refine zs1 hS ?_;clear hS;intro w hS|refine zsN hS ?_;clear hS;intro w hS|refine zbx hS ?_;clear hS;intro b w hS|refine zal hS ?_;clear hS;intro b w hS);apply AH7;rfl;rfl;rfl;exact hS;decide +kernel;(exact x9);kernel_rfl;exact⟨rfl,hS.s _⟩
  ·have e:m9 ⟨i,u,false,2,c,pr⟩=⟨0,0,c,0⟩:=rfl;rw[e];simp only[Ord.cells,It.cells];clear e h1 h2 h3;go_enter Tryz.func125,Tryz.ntmps125;go_wp2_with(first|refine zl1 hS ?_|refine zlN hS ?_|refine zs1 hS ?_;clear hS;intro w hS|refine zsN hS ?_;clear hS;intro w hS|refine zbx hS ?_;clear hS;intro b w hS|refine zal hS ?_;clear hS;intro b w hS);apply AH7;rfl;rfl;rfl;exact hS;decide +kernel;(exact x9);kernel_rfl;exact⟨rfl,hS.s _⟩
  ·have e:m9 ⟨i,u,false,3,c,pr⟩=⟨0,0,0,c⟩:=rfl;rw[e];simp only[Ord.cells,It.cells];clear e h1 h2 h3;go_enter Tryz.func125,Tryz.ntmps125;go_wp2_with(first|refine zl1 hS ?_|refine zlN hS ?_|refine zs1 hS ?_;clear hS;intro w hS|refine zsN hS ?_;clear hS;intro w hS|refine zbx hS ?_;clear hS;intro b w hS|refine zal hS ?_;clear hS;intro b w hS);apply AH7;rfl;rfl;rfl;exact hS;decide +kernel;(exact x9);kernel_rfl;exact⟨rfl,hS.s _⟩
def ci4(a:Int):Int:=if 1152921504606846976<a then 1152921504606846976 else a
def bO4(i:It)(k n:Int):It:=bN4 i k (ci4 (G8 i k+n))
def C7(p:Ps)(who:ByteArray)(k n:Int):Ps:=M7 p who (bO4 (r6 p who) k n)
abbrev tB5a:List Nat:=[0,1,3,7,15,0,32,127,0,511]
theorem Dp7(vb mb:Nat)(p:Ps)(who:ByteArray)(k n:Int)(u1 u2:Value)(hx:w8 (r6 p who)=true)(hk:0<=k/\k<=3)(hn:0<=n/\n<=1152921504606846976)(W w:World)(R:List HP)(hS:St W (blk vb [.map (some mb),u1,u2] 176::c8 eS eP mb p::R) w):
  Calls Tryz.prog 170 #[.agg #[.P vb,.string who],.I k,.I n] w fun e w'=>e=.returned (.tuple #[])/\St W (blk vb [.map (some mb),u1,u2] 176::c8 eS eP mb (C7 p who k n)::R) w':=by
 obtain⟨px,hp⟩:∃x,r6 p who=x:=⟨_,rfl⟩
 rw[hp]at hx;obtain⟨p0,p1,p2,p3⟩:=px;have Hx:=jH hp;clear hp;obtain⟨a0,a1,a2,a3⟩:=Ai7.1 hx;simp only at a0 a1 a2 a3;clear hx;have hk4:k=0\/k=1\/k=2\/k=3:=by omega
 rcases hk4 with rfl|rfl|rfl|rfl
 ·by_cases hc:1152921504606846976<p0+n
  ·skip
   have e:C7 p who 0 n=M7 p who ⟨1152921504606846976,p1,p2,p3⟩:=by unfold C7 bO4;rw[Hx.out];simp[bN4,G8,ci4,hc]
   rw[e];clear e;go_enter Tryz.func170,Tryz.ntmps170;go_wp2_with(first|refine zbx hS ?_;clear hS;intro b w hS);refine rf3 tB5a (fun i=>i==8) (fun _=>none) [⟨some 8,some 9,fun nd=>j6 (nd 8) [.I 0,.I 0,.I 0,.I 0] 29⟩,⟨some 9,none,fun nd=>j6 (nd 8) [.I p0,.I p1,.I p2,.I p3] 29⟩] [none,none,none] hS ?_;intro nd
   repeat(first|refine zc1 ?_|refine zcn ?_|apply Bf7 (ek:=eS) (ev:=eP) (k:=who) it0 ⟨p0,p1,p2,p3⟩;rfl;kernel_rfl;rfl;rfl;rfl;rfl;intro F;exact⟨_,by exact A9⟩;exact mP;exact kS;exact zP;rfl;exact Hx.out;simp only[Act.put,fA,fB,fC,Nat.reduceAdd,eP,It.cells]|refine cR ?_)
   (refine zca ?_);refine zct ?_;refine Ac7 ?_;clear hS;intro w hS;have hS2:St W [j6 (nd 8) _ _,blk b _ _,blk vb _ _,c8 eS eP mb p,sats R] w:=hS;clear hS;have hS:=hS2.unpack [_,_,_,_];clear hS2;simp only[jK,jN]at hS;generalize nd 8=v8 at *;have h1:=hS.ptr;clear hS;obtain⟨b2,rfl,hS⟩:=h1;go_wp2_with(first|go_at_call 164;refine(Bi7 vb mb p who u1 u2 W _ R ⟨1152921504606846976,p1,p2,p3⟩ (hS.s _)).mono ?_;clear hS;rintro e w ⟨rfl,hS⟩|refine zl1 hS ?_|refine zlN hS ?_|refine zs1 hS ?_;clear hS;intro w hS);go_end0;exact⟨rfl,hS⟩
  ·skip
   have e:C7 p who 0 n=M7 p who ⟨p0+n,p1,p2,p3⟩:=by unfold C7 bO4;rw[Hx.out];simp[bN4,G8,ci4,hc]
   rw[e];clear e;go_enter Tryz.func170,Tryz.ntmps170;go_wp2_with(first|refine zbx hS ?_;clear hS;intro b w hS);refine rf3 tB5a (fun i=>i==8) (fun _=>none) [⟨some 8,some 9,fun nd=>j6 (nd 8) [.I 0,.I 0,.I 0,.I 0] 29⟩,⟨some 9,none,fun nd=>j6 (nd 8) [.I p0,.I p1,.I p2,.I p3] 29⟩] [none,none,none] hS ?_;intro nd
   repeat(first|refine zc1 ?_|refine zcn ?_|apply Bf7 (ek:=eS) (ev:=eP) (k:=who) it0 ⟨p0,p1,p2,p3⟩;rfl;kernel_rfl;rfl;rfl;rfl;rfl;intro F;exact⟨_,by exact A9⟩;exact mP;exact kS;exact zP;rfl;exact Hx.out;simp only[Act.put,fA,fB,fC,Nat.reduceAdd,eP,It.cells]|refine cR ?_)
   (refine zca ?_);refine zct ?_;refine Ac7 ?_;clear hS;intro w hS;have hS2:St W [j6 (nd 8) _ _,blk b _ _,blk vb _ _,c8 eS eP mb p,sats R] w:=hS;clear hS;have hS:=hS2.unpack [_,_,_,_];clear hS2;simp only[jK,jN]at hS;generalize nd 8=v8 at *;have h1:=hS.ptr;clear hS;obtain⟨b2,rfl,hS⟩:=h1;go_wp2_with(first|go_at_call 164;refine(Bi7 vb mb p who u1 u2 W _ R ⟨p0+n,p1,p2,p3⟩ (hS.s _)).mono ?_;clear hS;rintro e w ⟨rfl,hS⟩|refine zl1 hS ?_|refine zlN hS ?_|refine zs1 hS ?_;clear hS;intro w hS);go_end0;exact⟨rfl,hS⟩
 ·by_cases hc:1152921504606846976<p1+n
  ·skip
   have e:C7 p who 1 n=M7 p who ⟨p0,1152921504606846976,p2,p3⟩:=by unfold C7 bO4;rw[Hx.out];simp[bN4,G8,ci4,hc]
   rw[e];clear e;go_enter Tryz.func170,Tryz.ntmps170;go_wp2_with(first|refine zbx hS ?_;clear hS;intro b w hS);refine rf3 tB5a (fun i=>i==8) (fun _=>none) [⟨some 8,some 9,fun nd=>j6 (nd 8) [.I 0,.I 0,.I 0,.I 0] 29⟩,⟨some 9,none,fun nd=>j6 (nd 8) [.I p0,.I p1,.I p2,.I p3] 29⟩] [none,none,none] hS ?_;intro nd
   repeat(first|refine zc1 ?_|refine zcn ?_|apply Bf7 (ek:=eS) (ev:=eP) (k:=who) it0 ⟨p0,p1,p2,p3⟩;rfl;kernel_rfl;rfl;rfl;rfl;rfl;intro F;exact⟨_,by exact A9⟩;exact mP;exact kS;exact zP;rfl;exact Hx.out;simp only[Act.put,fA,fB,fC,Nat.reduceAdd,eP,It.cells]|refine cR ?_)
   (refine zca ?_);refine zct ?_;refine Ac7 ?_;clear hS;intro w hS;have hS2:St W [j6 (nd 8) _ _,blk b _ _,blk vb _ _,c8 eS eP mb p,sats R] w:=hS;clear hS;have hS:=hS2.unpack [_,_,_,_];clear hS2;simp only[jK,jN]at hS;generalize nd 8=v8 at *;have h1:=hS.ptr;clear hS;obtain⟨b2,rfl,hS⟩:=h1;go_wp2_with(first|go_at_call 164;refine(Bi7 vb mb p who u1 u2 W _ R ⟨p0,1152921504606846976,p2,p3⟩ (hS.s _)).mono ?_;clear hS;rintro e w ⟨rfl,hS⟩|refine zl1 hS ?_|refine zlN hS ?_|refine zs1 hS ?_;clear hS;intro w hS);go_end0;exact⟨rfl,hS⟩
  ·skip
   have e:C7 p who 1 n=M7 p who ⟨p0,p1+n,p2,p3⟩:=by unfold C7 bO4;rw[Hx.out];simp[bN4,G8,ci4,hc]
   rw[e];clear e;go_enter Tryz.func170,Tryz.ntmps170;go_wp2_with(first|refine zbx hS ?_;clear hS;intro b w hS);refine rf3 tB5a (fun i=>i==8) (fun _=>none) [⟨some 8,some 9,fun nd=>j6 (nd 8) [.I 0,.I 0,.I 0,.I 0] 29⟩,⟨some 9,none,fun nd=>j6 (nd 8) [.I p0,.I p1,.I p2,.I p3] 29⟩] [none,none,none] hS ?_;intro nd
   repeat(first|refine zc1 ?_|refine zcn ?_|apply Bf7 (ek:=eS) (ev:=eP) (k:=who) it0 ⟨p0,p1,p2,p3⟩;rfl;kernel_rfl;rfl;rfl;rfl;rfl;intro F;exact⟨_,by exact A9⟩;exact mP;exact kS;exact zP;rfl;exact Hx.out;simp only[Act.put,fA,fB,fC,Nat.reduceAdd,eP,It.cells]|refine cR ?_)
   (refine zca ?_);refine zct ?_;refine Ac7 ?_;clear hS;intro w hS;have hS2:St W [j6 (nd 8) _ _,blk b _ _,blk vb _ _,c8 eS eP mb p,sats R] w:=hS;clear hS;have hS:=hS2.unpack [_,_,_,_];clear hS2;simp only[jK,jN]at hS;generalize nd 8=v8 at *;have h1:=hS.ptr;clear hS;obtain⟨b2,rfl,hS⟩:=h1;go_wp2_with(first|go_at_call 164;refine(Bi7 vb mb p who u1 u2 W _ R ⟨p0,p1+n,p2,p3⟩ (hS.s _)).mono ?_;clear hS;rintro e w ⟨rfl,hS⟩|refine zl1 hS ?_|refine zlN hS ?_|refine zs1 hS ?_;clear hS;intro w hS);go_end0;exact⟨rfl,hS⟩
 ·by_cases hc:1152921504606846976<p2+n
  ·skip
   have e:C7 p who 2 n=M7 p who ⟨p0,p1,1152921504606846976,p3⟩:=by unfold C7 bO4;rw[Hx.out];simp[bN4,G8,ci4,hc]
   rw[e];clear e;go_enter Tryz.func170,Tryz.ntmps170;go_wp2_with(first|refine zbx hS ?_;clear hS;intro b w hS);refine rf3 tB5a (fun i=>i==8) (fun _=>none) [⟨some 8,some 9,fun nd=>j6 (nd 8) [.I 0,.I 0,.I 0,.I 0] 29⟩,⟨some 9,none,fun nd=>j6 (nd 8) [.I p0,.I p1,.I p2,.I p3] 29⟩] [none,none,none] hS ?_;intro nd
   repeat(first|refine zc1 ?_|refine zcn ?_|apply Bf7 (ek:=eS) (ev:=eP) (k:=who) it0 ⟨p0,p1,p2,p3⟩;rfl;kernel_rfl;rfl;rfl;rfl;rfl;intro F;exact⟨_,by exact A9⟩;exact mP;exact kS;exact zP;rfl;exact Hx.out;simp only[Act.put,fA,fB,fC,Nat.reduceAdd,eP,It.cells]|refine cR ?_)
   (refine zca ?_);refine zct ?_;refine Ac7 ?_;clear hS;intro w hS;have hS2:St W [j6 (nd 8) _ _,blk b _ _,blk vb _ _,c8 eS eP mb p,sats R] w:=hS;clear hS;have hS:=hS2.unpack [_,_,_,_];clear hS2;simp only[jK,jN]at hS;generalize nd 8=v8 at *;have h1:=hS.ptr;clear hS;obtain⟨b2,rfl,hS⟩:=h1;go_wp2_with(first|go_at_call 164;refine(Bi7 vb mb p who u1 u2 W _ R ⟨p0,p1,1152921504606846976,p3⟩ (hS.s _)).mono ?_;clear hS;rintro e w ⟨rfl,hS⟩|refine zl1 hS ?_|refine zlN hS ?_|refine zs1 hS ?_;clear hS;intro w hS);go_end0;exact⟨rfl,hS⟩
  ·skip
   have e:C7 p who 2 n=M7 p who ⟨p0,p1,p2+n,p3⟩:=by unfold C7 bO4;rw[Hx.out];simp[bN4,G8,ci4,hc]
   rw[e];clear e;go_enter Tryz.func170,Tryz.ntmps170;go_wp2_with(first|refine zbx hS ?_;clear hS;intro b w hS);refine rf3 tB5a (fun i=>i==8) (fun _=>none) [⟨some 8,some 9,fun nd=>j6 (nd 8) [.I 0,.I 0,.I 0,.I 0] 29⟩,⟨some 9,none,fun nd=>j6 (nd 8) [.I p0,.I p1,.I p2,.I p3] 29⟩] [none,none,none] hS ?_;intro nd
   repeat(first|refine zc1 ?_|refine zcn ?_|apply Bf7 (ek:=eS) (ev:=eP) (k:=who) it0 ⟨p0,p1,p2,p3⟩;rfl;kernel_rfl;rfl;rfl;rfl;rfl;intro F;exact⟨_,by exact A9⟩;exact mP;exact kS;exact zP;rfl;exact Hx.out;simp only[Act.put,fA,fB,fC,Nat.reduceAdd,eP,It.cells]|refine cR ?_)
   (refine zca ?_);refine zct ?_;refine Ac7 ?_;clear hS;intro w hS;have hS2:St W [j6 (nd 8) _ _,blk b _ _,blk vb _ _,c8 eS eP mb p,sats R] w:=hS;clear hS;have hS:=hS2.unpack [_,_,_,_];clear hS2;simp only[jK,jN]at hS;generalize nd 8=v8 at *;have h1:=hS.ptr;clear hS;obtain⟨b2,rfl,hS⟩:=h1;go_wp2_with(first|go_at_call 164;refine(Bi7 vb mb p who u1 u2 W _ R ⟨p0,p1,p2+n,p3⟩ (hS.s _)).mono ?_;clear hS;rintro e w ⟨rfl,hS⟩|refine zl1 hS ?_|refine zlN hS ?_|refine zs1 hS ?_;clear hS;intro w hS);go_end0;exact⟨rfl,hS⟩
 ·by_cases hc:1152921504606846976<p3+n
  ·skip
   have e:C7 p who 3 n=M7 p who ⟨p0,p1,p2,1152921504606846976⟩:=by unfold C7 bO4;rw[Hx.out];simp[bN4,G8,ci4,hc]
   rw[e];clear e;go_enter Tryz.func170,Tryz.ntmps170;go_wp2_with(first|refine zbx hS ?_;clear hS;intro b w hS);refine rf3 tB5a (fun i=>i==8) (fun _=>none) [⟨some 8,some 9,fun nd=>j6 (nd 8) [.I 0,.I 0,.I 0,.I 0] 29⟩,⟨some 9,none,fun nd=>j6 (nd 8) [.I p0,.I p1,.I p2,.I p3] 29⟩] [none,none,none] hS ?_;intro nd
   repeat(first|refine zc1 ?_|refine zcn ?_|apply Bf7 (ek:=eS) (ev:=eP) (k:=who) it0 ⟨p0,p1,p2,p3⟩;rfl;kernel_rfl;rfl;rfl;rfl;rfl;intro F;exact⟨_,by exact A9⟩;exact mP;exact kS;exact zP;rfl;exact Hx.out;simp only[Act.put,fA,fB,fC,Nat.reduceAdd,eP,It.cells]|refine cR ?_)
   (refine zca ?_);refine zct ?_;refine Ac7 ?_;clear hS;intro w hS;have hS2:St W [j6 (nd 8) _ _,blk b _ _,blk vb _ _,c8 eS eP mb p,sats R] w:=hS;clear hS;have hS:=hS2.unpack [_,_,_,_];clear hS2;simp only[jK,jN]at hS;generalize nd 8=v8 at *;have h1:=hS.ptr;clear hS;obtain⟨b2,rfl,hS⟩:=h1;go_wp2_with(first|go_at_call 164;refine(Bi7 vb mb p who u1 u2 W _ R ⟨p0,p1,p2,1152921504606846976⟩ (hS.s _)).mono ?_;clear hS;rintro e w ⟨rfl,hS⟩|refine zl1 hS ?_|refine zlN hS ?_|refine zs1 hS ?_;clear hS;intro w hS);go_end0;exact⟨rfl,hS⟩
  ·skip
   have e:C7 p who 3 n=M7 p who ⟨p0,p1,p2,p3+n⟩:=by unfold C7 bO4;rw[Hx.out];simp[bN4,G8,ci4,hc]
   rw[e];clear e;go_enter Tryz.func170,Tryz.ntmps170;go_wp2_with(first|refine zbx hS ?_;clear hS;intro b w hS);refine rf3 tB5a (fun i=>i==8) (fun _=>none) [⟨some 8,some 9,fun nd=>j6 (nd 8) [.I 0,.I 0,.I 0,.I 0] 29⟩,⟨some 9,none,fun nd=>j6 (nd 8) [.I p0,.I p1,.I p2,.I p3] 29⟩] [none,none,none] hS ?_;intro nd
   repeat(first|refine zc1 ?_|refine zcn ?_|apply Bf7 (ek:=eS) (ev:=eP) (k:=who) it0 ⟨p0,p1,p2,p3⟩;rfl;kernel_rfl;rfl;rfl;rfl;rfl;intro F;exact⟨_,by exact A9⟩;exact mP;exact kS;exact zP;rfl;exact Hx.out;simp only[Act.put,fA,fB,fC,Nat.reduceAdd,eP,It.cells]|refine cR ?_)
   (refine zca ?_);refine zct ?_;refine Ac7 ?_;clear hS;intro w hS;have hS2:St W [j6 (nd 8) _ _,blk b _ _,blk vb _ _,c8 eS eP mb p,sats R] w:=hS;clear hS;have hS:=hS2.unpack [_,_,_,_];clear hS2;simp only[jK,jN]at hS;generalize nd 8=v8 at *;have h1:=hS.ptr;clear hS;obtain⟨b2,rfl,hS⟩:=h1;go_wp2_with(first|go_at_call 164;refine(Bi7 vb mb p who u1 u2 W _ R ⟨p0,p1,p2,p3+n⟩ (hS.s _)).mono ?_;clear hS;rintro e w ⟨rfl,hS⟩|refine zl1 hS ?_|refine zlN hS ?_|refine zs1 hS ?_;clear hS;intro w hS);go_end0;exact⟨rfl,hS⟩
end Go.Proofs.YtlmhakmoioogaaaGreat
end
