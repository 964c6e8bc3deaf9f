/-
  Rules of drawn regions where tokens tell of a call's value.
-/
import Derived.Test.YtjcfifkjbaffnaaGreatPkQM19
set_option maxHeartbeats 16000000
set_option maxRecDepth 100000
set_option linter.unusedSimpArgs false
set_option linter.unusedVariables false
section
namespace Go.Sl
open Go.RowKit
section
variable{P:Program}{W:World}{ops:Array Oper}{t:List Nat}{toks:List Tok}{fresh:Nat->Bool}{pin:Nat->Option Value}{Qf:Act->Prop}{nd:Nat->Value}{i:Nat}{l:List Oper}{a:Act}{o:Oper}
theorem Hj7{x:Operand}{v:Value}(hf:fresh i=false)(hn:x9 toks i=true)(ho:o.op=.nilCheck x)(hg:Region.wanted o (yielded ops a.tmps)=true)(hx:a.eval x=v)
  (hp:∀F w,St W (kpL toks t i nd++F) w->∃p,v=.pointer (some p)) (h:d9 P W ops t toks fresh pin Qf nd (i+1) l (a.put o.dst v)):d9 P W ops t toks fresh pin Qf nd i (o::l) a:=
 By7 hf hn hg (fun F w hS=>by obtain⟨p,rfl⟩:=hp F w hS;unfold execOp;simp[ho,hx]) h
theorem Hk7{ty:TypeId}{x:Operand}{f:Nat}{v u:Value}(hf:fresh i=false)(hn:x9 toks i=true)(ho:o.op=.fieldAddr ty x f)(hg:Region.wanted o (yielded ops a.tmps)=true)(hx:a.eval x=v)
  (hr:∀F w,St W (kpL toks t i nd++F) w->(Instr.fieldAt ty v f).run P w=.ok u w) (h:d9 P W ops t toks fresh pin Qf nd (i+1) l (a.put o.dst u)):d9 P W ops t toks fresh pin Qf nd i (o::l) a:=
 By7 hf hn hg (fun F w hS=>by unfold execOp;simp only[ho,hx,Sem.run_bind,hr F w hS,Result.andThen_ok,Sem.run_pure]) h
theorem IM7{ty:TypeId}{x y:Operand}{v k u:Value}(hf:fresh i=false)(hn:x9 toks i=true)(ho:o.op=.indexAddr ty x y)(hg:Region.wanted o (yielded ops a.tmps)=true)(hx:a.eval x=v)(hy:a.eval y=k)
  (hr:∀F w,St W (kpL toks t i nd++F) w->(Instr.indexAt ty v k).run P w=.ok u w) (h:d9 P W ops t toks fresh pin Qf nd (i+1) l (a.put o.dst u)):d9 P W ops t toks fresh pin Qf nd i (o::l) a:=
 By7 hf hn hg (fun F w hS=>by unfold execOp;simp only[ho,hx,hy,Sem.run_bind,hr F w hS,Result.andThen_ok,Sem.run_pure]) h
theorem IN7{ty:TypeId}{x:Operand}{v:Value}(hf:fresh i=true)(ho:o.op=.load ty x)(hg:Region.wanted o (yielded ops a.tmps)=true)(hx:a.eval x=v)(ht:m7 P ty=some false)(hk:∀v,kpL toks t i (upd nd i v)=kpL toks t i nd)
  (hs:∀F w,St W (cnL toks t i nd++(kpL toks t i nd++F)) w->∃b off u,v=.pointer (some ⟨b,off,none⟩)/\w.cell? ⟨b,off,none⟩=some u/\St W (mdL toks i (upd nd i u)++(kpL toks t i nd++F)) w)
  (h:d9 P W ops t toks fresh pin Qf nd (i+1) l (a.put o.dst (nd i))):d9 P W ops t toks fresh pin Qf nd i (o::l) a:=
 CN7 hf hg hk (fun F w hS=>by obtain⟨b,off,u,hv,hc,h2⟩:=hs F w hS;refine⟨u,w,?_,h2⟩;unfold execOp;simp only[ho,hx.trans hv,Instr.loadAt,Instr.sureAddr,Sem.run_bind,Sem.run_pure,Result.andThen_ok,Gc7 ht hc]) h
theorem IO7{ty:TypeId}{x:Operand}{v:Value}{vs:List Value}(hf:fresh i=false)(hn:x9 toks i=true)(ho:o.op=.load ty x)(hg:Region.wanted o (yielded ops a.tmps)=true)(hx:a.eval x=v)(ht:m7 P ty=some true)(hz:j6 P ty=some vs.length)
  (hs:∀F w,St W (kpL toks t i nd++F) w->∃b off,v=.pointer (some ⟨b,off,none⟩)/\a7 (kpL toks t i nd++F) b off vs)
  (h:d9 P W ops t toks fresh pin Qf nd (i+1) l (a.put o.dst (.agg vs.toArray))):d9 P W ops t toks fresh pin Qf nd i (o::l) a:=
 By7 hf hn hg (fun F w hS=>by obtain⟨b,off,hv,hc⟩:=hs F w hS;exact BV7 hS ho (hx.trans hv) ht hz hc) h
end
end Go.Sl
namespace Go.Proofs.YtjcfifkjbaffnaaGreat
open Go.RowKit Go.Sl
def M5(v:Value)(least:Bool)(x:Int×Int):HP:=fun f=>∃q:Nat×Value×List (Int×Int),(v=.pointer (some ⟨q.1,0,none⟩)/\q.2.2[0]? = some x)/\sats [blk q.1 [q.2.1,.bool least] 99,row q.2.1 2 96 q.2.2.length (q.2.2.flatMap beC)] f
def J9(v:Value)(x:Int×Int):HP:=fun f=>∃q:Nat×Nat×Nat×List Value,(v=.slice (some ⟨q.1,0,none⟩) q.2.1 q.2.2.1/\0<q.2.1)/\blk q.1 (beC x++q.2.2.2) 96 f
def hdS(v:Value):Value:=match v with
 | .slice (some a) _ _=>.pointer (some a)
 | _=>undef
section
variable{W w:World}{R:List HP}{v:Value}{least:Bool}{x:Int×Int}
theorem BM7(h:St W (M5 v least x::R) w):∃(b:Nat) (u:Value) (xs:List (Int×Int)),v=.P b/\xs[0]? = some x/\St W (blk b [u,.bool least] 99::row u 2 96 xs.length (xs.flatMap beC)::R) w:=by obtain⟨⟨b,u,xs⟩,h1⟩:=St.ex h;obtain⟨⟨h2,h3⟩,h4⟩:=St.and h1;exact⟨b,u,xs,h2,h3,St.openP h4⟩
theorem FS7{b:Nat}{u:Value}{xs:List (Int×Int)}(hx:xs[0]? = some x)(h:St W (blk b [u,.bool least] 99::row u 2 96 xs.length (xs.flatMap beC)::R) w):St W (M5 (.P b) least x::R) w:=
 St.mkEx (b,u,xs) (St.mkAnd ⟨rfl,hx⟩ (St.shutP _ h))
theorem BN7(h:St W (J9 v x::R) w):∃g n c junk,v=.S g n c/\0<n/\St W (blk g (beC x++junk) 96::R) w:=by obtain⟨⟨g,n,c,junk⟩,h1⟩:=St.ex h;obtain⟨⟨h2,h3⟩,h4⟩:=St.and h1;exact⟨g,n,c,junk,h2,h3,h4⟩
theorem El7(h:St W (M5 v least x::R) w):∃p,v=.pointer (some p):=by obtain⟨b,_,_,e,_⟩:=BM7 h;exact⟨_,e⟩
theorem ca4(b:Nat)(w:World):(Instr.fieldAt 99 (.P b) 0).run Tryz.prog w=.ok (.P b) w:=by kernel_rfl
theorem ixB(g n c:Nat)(h:0<n)(w:World):(Instr.indexAt 97 (.S g n c) (.I 0)).run Tryz.prog w=.ok (.P g) w:=by rw[run_indexAt_slice (h:=by kernel_rfl),if_pos ⟨Int.le_refl _,by omega⟩];kernel_rfl
theorem Em7(h:St W (M5 v least x::R) w):(Instr.fieldAt 99 v 0).run Tryz.prog w=.ok v w:=by obtain⟨b,_,_,e,_⟩:=BM7 h;rw[e];exact ca4 b w
theorem Fr7(h:St W (J9 v x::R) w):(Instr.indexAt 97 v (.I 0)).run Tryz.prog w=.ok (hdS v) w:=by obtain⟨g,n,c,_,e,h0,_⟩:=BN7 h;rw[e];exact ixB g n c h0 w
theorem Fs7(h:St W (J9 v x::R) w):∃b off,hdS v=.pointer (some ⟨b,off,none⟩)/\a7 (J9 v x::R) b off (beC x):=by
 obtain⟨g,n,c,junk,e,h0,_⟩:=BN7 h;refine⟨g,0,by rw[e];rfl,fun j u hj W w hS=>?_⟩;obtain⟨g2,n2,c2,junk2,e2,_,h3⟩:=BN7 hS;rw[e]at e2
 cases e2
 rw[Nat.zero_add];refine h3.cell .head ?_;have hl:=(List.getElem?_eq_some_iff.1 hj).1;rw[List.getElem?_append_left hl];exact hj
theorem Ft7(h:St W (M5 v least x::R) w):∃b off u,v=.pointer (some ⟨b,off,none⟩)/\w.cell? ⟨b,off,none⟩=some u/\St W (J9 u x::R) w:=by
 obtain⟨b,u,xs,rfl,hx,hS⟩:=BM7 h;refine⟨b,0,u,rfl,hS.cell .head rfl,?_⟩
 rcases hS.drop.rowOpen with ⟨rfl,h0,_⟩|⟨g,cap,junk,rfl,hn1,hm1,hj1,hl1,hS1⟩
 ·rw[List.eq_nil_of_length_eq_zero h0]at hx
  cases hx
 ·obtain⟨y,ys,rfl⟩:∃y ys,xs=y::ys:=by
   cases xs with
   | nil=>cases hx
   | cons y ys=>exact⟨y,ys,rfl⟩
  obtain rfl:y=x:=by simpa using hx
  rw[List.flatMap_cons,jS]at hS1;exact St.mkEx (g,(y::ys).length,cap,ys.flatMap beC++junk) (St.mkAnd ⟨rfl,by simp⟩ hS1)
theorem Hl7{E:Pe}{rl:List (Int×Ro)}{s:Pn}{y0:Int}(c0 c1 c2 c3:Int)(c4:ByteArray)(hl:s.out.length<=1000)(v:Value)(W w:World)(R:List HP)(hS:St W (I6 v 1 1 [.I y0] 3::plP E rl s::R) w):
  Calls Tryz.prog 45 #[.pointer (some ⟨E.pb,0,none⟩),.agg #[.I c0,.I c1,.I c2,.I c3,.string c4],v] w fun e w'=>e=.returned (.tuple #[])/\St W (plP E rl ⟨y0::s.nm,s.mv,s.out++[⟨c0,c1,c2,c3,c4⟩]⟩::R) w':=by
 obtain⟨g,rfl,h⟩:=hS.sl;refine(Dw7 c0 c1 c2 c3 c4 [y0] g 1 (by simp) hl W w R h.swap).mono ?_;rintro e w' ⟨rfl,h2⟩;exact⟨rfl,h2.swap.drop⟩
theorem Cz7{E:Pe}{rl:List (Int×Ro)}{s:Pn}{zs:List Zo}{hs:List Int}{V:World}{l:List Ro}(hv:d6 Zo.cells 9 V E.zv zs)(hh:d6 hC 1 V E.hv hs)(hl:zs.length<=16)(hhl:hs.length<=6)(hrl:∀n,(m6 rl n).getD ro0=C5 l n)(hx:(A8 least (fun h=>f9 l s h zs) hs)[0]? = some x)(W w:World)(R:List HP)(hS:St W (plP E rl s::Old V::R) w):
  Calls Tryz.prog 46 #[.pointer (some ⟨E.pb,0,none⟩),.bool least] w fun e w'=>∃v,e=.returned v/\St W (M5 v least x::plP E rl s::Old V::R) w':=by
 refine(FR7 hv hh hl hhl hrl least W w R hS).mono ?_;rintro e w' ⟨bb,v,rfl,h⟩;have hl9:=Ek7 least (fun h=>f9 l s h zs) (Nat.le_refl hs.length);rw[List.take_length]at hl9;rw[<-hl9]at h;exact⟨_,rfl,FS7 hx h⟩
end
end Go.Proofs.YtjcfifkjbaffnaaGreat
end
