/-
  What a request leaves of the vaults.
-/
import Derived.Test.YtienbkdjkjbelaaGreatJuRM5
import Derived.Test.YtienbkdjkjbelaaGreatJuRM26
set_option maxHeartbeats 16000000
set_option maxRecDepth 100000
set_option linter.unusedSimpArgs false
set_option linter.unusedVariables false
section
namespace Go.Sl
open Go.RowKit
section
variable{P:Program}{W:World}{ops:Array Oper}{t:List Nat}{toks:List Tok}{fresh:Nat->Bool}{pin:Nat->Option Value}{Qf:Act->Prop}{nd:Nat->Value}{i:Nat}{o:Oper}{l:List Oper}{a:Act}
theorem BD7{x:Operand}{f:FuncId}{xs:Array Operand}{ats:Array TypeId}{args:Array Value}{v:Value}(hf:fresh i=false)(hp:pin i=some v)(hg:Region.wanted o (yielded ops a.tmps)=true)
  (ho:o.op=.call { callee:=.value x,args:=xs,argTypes:=ats }) (hx0:a.eval x=.func (.func f) #[] #[]) (hb:M5 P f=true) (hx:xs.map a.eval=args)
  (hs:∀F w,St W (cnL toks t i nd++(kpL toks t i nd++F)) w->Calls P f args w fun e w'=>e=.returned v/\St W (mdL toks i nd++(kpL toks t i nd++F)) w')
  (h:k8 P W ops t toks fresh pin Qf nd (i+1) l (a.put o.dst v)):k8 P W ops t toks fresh pin Qf nd i (o::l) a:=
 HY7 hf hp hg (fun w=>AO7 w ho hx0 hb hx) hs h
end
end Go.Sl
namespace Go.Proofs.YtienbkdjkjbelaaGreat
open Go.RowKit Go.Sl
def aZ4(vs:List (ByteArray×Vs))(k:ByteArray):List (ByteArray×Vs):=match j5 vs k with
 | none=>vs
 | some V=>if w7 V=true then i9 vs k else vs
theorem Be7{E:Ev}{vs:List (ByteArray×Vs)}(hn:(E.map (·.1)).Nodup)(hp:(j8 E).Perm vs)(k:ByteArray):(j8 (bN4 E k)).Perm (aZ4 vs k):=by
 have hg:j5 vs k=(j5 E k).map (·.2):=by rw[<-AA7 (by rw[Cu7];exact hn) hp k,GL7]
 unfold bN4 aZ4;rw[hg]
 cases j5 E k with
 | none=>exact hp
 | some x=>
  show(j8 (if w7 x.2=true then i9 E k else E)).Perm (if w7 x.2=true then i9 vs k else vs)
  split
  ·rw[<-GK7];exact Em7 hp k
  ·exact hp
theorem DT7{E:Ev}{i:Nat}(h:F9 E i)(k:ByteArray):F9 (bN4 E k) i:=by
 unfold bN4;split
 ·exact h
 ·split
  ·exact fun x hx=>h x (List.mem_filter.1 hx).1
  ·exact h
theorem Kv7{ν:Type}(l:List (ByteArray×ν))(k:ByteArray):i9 (i9 l k) k=i9 l k:=BI7 fun x hx=>by have:=(List.mem_filter.1 hx).2;simpa using this
theorem Mg7(e:Ec)(k:ByteArray)(V:Vs):aZ4 ((k,V)::i9 e.vs k) k=(aK4 e k V).vs:=by
 have hg:j5 ((k,V)::i9 e.vs k) k=some V:=by rw[Df7,if_pos rfl]
 unfold aZ4 aK4;rw[hg];show(if w7 V=true then i9 ((k,V)::i9 e.vs k) k else(k,V)::i9 e.vs k)=if w7 V=true then i9 e.vs k else(k,V)::i9 e.vs k
 have e1:i9 ((k,V)::i9 e.vs k) k=i9 (i9 e.vs k) k:=by
  conv=>lhs;unfold i9
  rw[List.filter_cons,if_neg (by simp)];rfl
 rw[e1,Kv7]
theorem Kw7(e:Ec)(k:ByteArray)(hn:(e.vs.map (·.1)).Nodup):(aZ4 e.vs k).Perm (aK4 e k (atV e k)).vs:=by
 unfold aZ4 aK4 atV
 cases hg:j5 e.vs k with
 | none=>
  show e.vs.Perm (if w7 vs0=true then i9 e.vs k else(k,vs0)::i9 e.vs k)
  rw[if_pos (by rfl),BI7 (BO7 hg)]
 | some V=>
  show(if w7 V=true then i9 e.vs k else e.vs).Perm (if w7 V=true then i9 e.vs k else(k,V)::i9 e.vs k)
  split
  ·exact List.Perm.refl _
  ·exact BV7 hn hg
def ecK(eb m1 m2 m3 m4:Nat)(E:Ev)(ss:List (Int×(Int×Rpl)))(ts:List ((Int×Int)×Tns))(ar:List ((Int×Int)×Unit)):HP:=sats (ecR eb m1 m2 m3 m4 E ss ts ar [])
def kdR(eb m1 m2 m3 m4:Nat)(vs:List (ByteArray×Vs))(ss:List (Int×(Int×Rpl)))(ts:List ((Int×Int)×Tns))(ar:List ((Int×Int)×Unit))(i:Nat):HP:=fun f=>∃E,(F9 E i/\(j8 E).Perm vs)/\ecK eb m1 m2 m3 m4 E ss ts ar f
section
variable{W w:World}{R:List HP}{eb m1 m2 m3 m4:Nat}{E:Ev}{i:Nat}{vs:List (ByteArray×Vs)}{ss:List (Int×(Int×Rpl))}{ts:List ((Int×Int)×Tns)}{ar:List ((Int×Int)×Unit)}{ak:ByteArray}{V:Vs}{vb:Nat}
theorem al4(h:St W (ecK eb m1 m2 m3 m4 E ss ts ar::R) w):St W (ecR eb m1 m2 m3 m4 E ss ts ar R) w:=h.openS
theorem P5(h:St W (ecR eb m1 m2 m3 m4 E ss ts ar R) w):St W (ecK eb m1 m2 m3 m4 E ss ts ar::R) w:=St.shutS [_,_,_,_] h
theorem NG7(h:F9 E i):F9 E (i+1):=fun x hx=>(h x hx).on
theorem Kx7(hE:F9 E i)(hp:(j8 E).Perm vs)(h:St W (ecR eb m1 m2 m3 m4 E ss ts ar R) w):St W (kdR eb m1 m2 m3 m4 vs ss ts ar (i+1)::R) w:=St.mkEx E (St.mkAnd ⟨NG7 hE,hp⟩ (P5 h))
theorem Fl7(hE:F9 E i)(hp:(j8 E).Perm vs)(hV:VOk V.ps V.n (i+1))(h:St W (ecR eb m1 m2 m3 m4 ((ak,(vb,V))::i9 E ak) ss ts ar R) w):St W (kdR eb m1 m2 m3 m4 ((ak,V)::i9 vs ak) ss ts ar (i+1)::R) w:=by
 refine St.mkEx _ (St.mkAnd ⟨?_,?_⟩ (P5 h))
 ·intro x hx
  rcases List.mem_cons.1 hx with rfl|hx
  ·exact hV
  ·exact(hE x (List.mem_filter.1 hx).1).on
 ·show((ak,V)::j8 (i9 E ak)).Perm _
  rw[<-GK7];exact(Em7 hp ak).cons _
theorem aT4(h:St W (kdR eb m1 m2 m3 m4 vs ss ts ar i::R) w):∃E,F9 E i/\(j8 E).Perm vs/\St W (ecR eb m1 m2 m3 m4 E ss ts ar R) w:=by obtain⟨E,h⟩:=St.ex h;obtain⟨⟨h1,h2⟩,h⟩:=St.and h;exact⟨E,h1,h2,al4 h⟩
end
section
variable{eb m1 m2 m3 m4:Nat}{E:Ev}{i:Nat}{vs:List (ByteArray×Vs)}(cl sq:Int)(ak aw tk tw:ByteArray)(it ct pr:Int)(bu:Bool)(id:Int)(ss:List (Int×(Int×Rpl)))(ts:List ((Int×Int)×Tns))(ar:List ((Int×Int)×Unit))(W w:World)(R:List HP)
theorem eB4(hE:F9 E i)(hp:(j8 E).Perm vs)(h0:0<=it)(h4:it<4)(c0:1<=ct)(c1:ct<=1048576){r:Int}{q:Ps}(hr:J8 (vAt E ak).ps aw (r9 it ct)=r)(hq:G8 (vAt E ak).ps aw (r9 it ct)=q)(hS:St W (ecK eb m1 m2 m3 m4 E ss ts ar::R) w):
  Calls Tryz.prog 65 #[.P eb,oV 1 cl sq ak aw tk tw it ct pr bu id] w fun e w'=>e=.returned (rV r 0 0 0 0 0)/\St W (kdR eb m1 m2 m3 m4 ((ak,⟨q,(vAt E ak).L,(vAt E ak).n⟩)::i9 vs ak) ss ts ar (i+1)::R) w':=by
 refine(Kr7 hE 1 cl sq ak aw tk tw it ct pr bu id h0 h4 c0 c1 hr hq W w _ (al4 hS)).mono ?_;rintro e w' ⟨vb,h1,rfl,hS⟩;exact⟨rfl,Fl7 hE hp h1 hS⟩
theorem ea4(hE:F9 E i)(hp:(j8 E).Perm vs)(h0:0<=it)(h4:it<4)(c0:1<=ct)(c1:ct<=1048576){r:Int}{q:Ps}(hr:m9 (vAt E ak).ps aw (r9 it ct)=r)(hr0:(r==0)=false)(hq:s5 (vAt E ak).ps aw (r9 it ct)=q)(hS:St W (ecK eb m1 m2 m3 m4 E ss ts ar::R) w):
  Calls Tryz.prog 66 #[.P eb,oV 2 cl sq ak aw tk tw it ct pr bu id] w fun e w'=>e=.returned (rV r 0 0 0 0 0)/\St W (kdR eb m1 m2 m3 m4 ((ak,⟨q,(vAt E ak).L,(vAt E ak).n⟩)::i9 vs ak) ss ts ar (i+1)::R) w':=by
 refine(NE7 hE 2 cl sq ak aw tk tw it ct pr bu id ts h0 h4 c0 c1 hr hr0 hq W w _ ((al4 hS).s (evP eb m1 m2 m3 m4 E::d9 eW eTn m3 ts::d9 eI eSs m2 ss::d9 eW eU m4 ar::R))).mono ?_;rintro e w' ⟨vb,h1,rfl,hS⟩;exact⟨rfl,Fl7 hE hp h1 (hS.s _)⟩
theorem eb4(hE:F9 E i)(hp:(j8 E).Perm vs)(h0:0<=it)(h4:it<4)(c0:1<=ct)(c1:ct<=1048576){q:Ps}(hr:m9 (vAt E ak).ps aw (r9 it ct)=0)(hq:s5 (vAt E ak).ps aw (r9 it ct)=q)(hS:St W (ecK eb m1 m2 m3 m4 E ss ts ar::R) w):
  Calls Tryz.prog 66 #[.P eb,oV 2 cl sq ak aw tk tw it ct pr bu id] w fun e w'=>e=.returned (rV 0 0 0 0 0 0)/\St W (kdR eb m1 m2 m3 m4 ((ak,⟨q,(vAt E ak).L,(vAt E ak).n⟩)::i9 vs ak) ss (((cl,sq),⟨cl,sq,ak,aw,tk,tw,it,ct⟩)::i9 ts (cl,sq)) ar (i+1)::R) w':=by
 refine(Me7 hE 2 cl sq ak aw tk tw it ct pr bu id ts h0 h4 c0 c1 hr hq W w _ ((al4 hS).s (evP eb m1 m2 m3 m4 E::d9 eW eTn m3 ts::d9 eI eSs m2 ss::d9 eW eU m4 ar::R))).mono ?_;rintro e w' ⟨vb,h1,rfl,hS⟩;exact⟨rfl,Fl7 hE hp h1 (hS.s _)⟩
theorem eC4(hE:F9 E i)(hp:(j8 E).Perm vs){r1 r2:Int}{V2:Vs}(h1:(w9 (vAt E ak) ⟨0,aw,bu,it,ct,pr⟩).1=r1)(h2:(w9 (vAt E ak) ⟨0,aw,bu,it,ct,pr⟩).2.1=r2)(h3:(w9 (vAt E ak) ⟨0,aw,bu,it,ct,pr⟩).2.2=V2)(hS:St W (ecK eb m1 m2 m3 m4 E ss ts ar::R) w):
  Calls Tryz.prog 67 #[.P eb,oV 3 cl sq ak aw tk tw it ct pr bu id] w fun e w'=>e=.returned (rV r2 r1 0 0 0 0)/\St W (kdR eb m1 m2 m3 m4 ((ak,V2)::i9 vs ak) ss ts ar (i+1)::R) w':=by
 refine(Jd7 hE 3 cl sq ak aw tk tw it ct pr bu id h1 h2 h3 W w _ (al4 hS)).mono ?_;rintro e w' ⟨vb,h1,rfl,hS⟩;exact⟨rfl,Fl7 hE hp h1 hS⟩
theorem eD4(hE:F9 E i)(hp:(j8 E).Perm vs){r:Int}{V2:Vs}(h1:(A6 (vAt E ak) aw id).1=r)(h2:(A6 (vAt E ak) aw id).2=V2)(hS:St W (ecK eb m1 m2 m3 m4 E ss ts ar::R) w):
  Calls Tryz.prog 68 #[.P eb,oV 4 cl sq ak aw tk tw it ct pr bu id] w fun e w'=>e=.returned (rV r 0 0 0 0 0)/\St W (kdR eb m1 m2 m3 m4 ((ak,V2)::i9 vs ak) ss ts ar (i+1)::R) w':=by
 refine(GR7 hE 4 cl sq ak aw tk tw it ct pr bu id h1 h2 W w _ (al4 hS)).mono ?_;rintro e w' ⟨vb,h1,rfl,hS⟩;exact⟨rfl,Fl7 hE hp h1 hS⟩
theorem eE4(hE:F9 E i)(hp:(j8 E).Perm vs){x0 x1 x2 x3:Int}(hx:j7 (vAt E ak).ps aw=⟨x0,x1,x2,x3⟩)(hS:St W (ecK eb m1 m2 m3 m4 E ss ts ar::R) w):
  Calls Tryz.prog 69 #[.P eb,oV 5 cl sq ak aw tk tw it ct pr bu id] w fun e w'=>e=.returned (rV 0 0 x0 x1 x2 x3)/\St W (kdR eb m1 m2 m3 m4 vs ss ts ar (i+1)::R) w':=by
 refine(Kt7 5 cl sq ak aw tk tw it ct pr bu id hx W w _ (al4 hS)).mono ?_;rintro e w' ⟨rfl,hS⟩;exact⟨rfl,Kx7 hE hp hS⟩
theorem eF4(hE:F9 E i)(hp:(j8 E).Perm vs)(h0:0<=it)(h4:it<4)(c0:1<=ct)(c1:ct<=1048576){q:Ps}(hq:G8 (vAt E ak).ps aw (r9 it ct)=q)(hS:St W (ecK eb m1 m2 m3 m4 E ss ts ar::R) w):
  Calls Tryz.prog 70 #[.P eb,oV 6 cl sq ak aw tk tw it ct pr bu id] w fun e w'=>e=.returned (rV 0 0 0 0 0 0)/\St W (kdR eb m1 m2 m3 m4 ((ak,⟨q,(vAt E ak).L,(vAt E ak).n⟩)::i9 vs ak) ss ts (((cl,sq),())::i9 ar (cl,sq)) (i+1)::R) w':=by
 refine(HE7 hE 6 cl sq ak aw tk tw it ct pr bu id ar h0 h4 c0 c1 hq W w _ ((al4 hS).s (evP eb m1 m2 m3 m4 E::d9 eW eU m4 ar::d9 eI eSs m2 ss::d9 eW eTn m3 ts::R))).mono ?_;rintro e w' ⟨vb,h1,rfl,hS⟩;exact⟨rfl,Fl7 hE hp h1 (hS.s _)⟩
theorem eG4(hE:F9 E i)(hp:(j8 E).Perm vs)(hS:St W (ecK eb m1 m2 m3 m4 E ss ts ar::R) w):
  Calls Tryz.prog 71 #[.P eb,oV 7 cl sq ak aw tk tw it ct pr bu id] w fun e w'=>e=.returned (rV 0 0 0 0 0 0)/\St W (kdR eb m1 m2 m3 m4 vs ss (i9 ts (cl,sq)) ar (i+1)::R) w':=by
 refine(Ks7 7 cl sq ak aw tk tw it ct pr bu id ts W w _ ((al4 hS).s (evP eb m1 m2 m3 m4 E::d9 eW eTn m3 ts::d9 eI eSs m2 ss::d9 eW eU m4 ar::R))).mono ?_;rintro e w' ⟨rfl,hS⟩;exact⟨rfl,Kx7 hE hp (hS.s _)⟩
end
end Go.Proofs.YtienbkdjkjbelaaGreat
end
