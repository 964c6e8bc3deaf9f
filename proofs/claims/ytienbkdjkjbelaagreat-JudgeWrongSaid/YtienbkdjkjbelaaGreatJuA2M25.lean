/-
  What a request leaves of the vaults.
-/
import Derived.Test.YtienbkdjkjbelaaGreatJuA2M5
import Derived.Test.YtienbkdjkjbelaaGreatJuA2M24
set_option maxHeartbeats 16000000
set_option maxRecDepth 100000
set_option linter.unusedSimpArgs false
set_option linter.unusedVariables false
section
namespace Go.Sl
open Go.RowKit
section
variable{P:Program}{W:World}{ops:Array Oper}{t:List Nat}{toks:List Tok}{fresh:Nat->Bool}{pin:Nat->Option Value}{Qf:Act->Prop}{nd:Nat->Value}{i:Nat}{o:Oper}{l:List Oper}{a:Act}
theorem BD7{x:Operand}{f:FuncId}{xs:Array Operand}{ats:Array TypeId}{args:Array Value}{v:Value}(hf:fresh i=false)(hp:pin i=some v)(hg:Region.wanted o (yielded ops a.tmps)=true)
  (ho:o.op=.call { callee:=.value x,args:=xs,argTypes:=ats }) (hx0:a.eval x=.func (.func f) #[] #[]) (hb:M5 P f=true) (hx:xs.map a.eval=args)
  (hs:∀F w,St W (cnL toks t i nd++(kpL toks t i nd++F)) w->Calls P f args w fun e w'=>e=.returned v/\St W (mdL toks i nd++(kpL toks t i nd++F)) w')
  (h:k9 P W ops t toks fresh pin Qf nd (i+1) l (a.put o.dst v)):k9 P W ops t toks fresh pin Qf nd i (o::l) a:=
 Im7 hf hp hg (fun w=>AN7 w ho hx0 hb hx) hs h
end
end Go.Sl
namespace Go.Proofs.YtienbkdjkjbelaaGreat
open Go.RowKit Go.Sl
def bd4(vs:List (ByteArray×Vs))(k:ByteArray):List (ByteArray×Vs):=match j5 vs k with
 | none=>vs
 | some V=>if w8 V=true then i9 vs k else vs
theorem Be7{E:Ev}{vs:List (ByteArray×Vs)}(hn:(E.map (·.1)).Nodup)(hp:(j8 E).Perm vs)(k:ByteArray):(j8 (bP4 E k)).Perm (bd4 vs k):=by
 have hg:j5 vs k=(j5 E k).map (·.2):=by rw[<-AB7 (by rw[Cw7];exact hn) hp k,GT7]
 unfold bP4 bd4;rw[hg]
 cases j5 E k with
 | none=>exact hp
 | some x=>
  show(j8 (if w8 x.2=true then i9 E k else E)).Perm (if w8 x.2=true then i9 vs k else vs)
  split
  ·rw[<-GS7];exact Ep7 hp k
  ·exact hp
theorem DT7{E:Ev}{i:Nat}(h:F9 E i)(k:ByteArray):F9 (bP4 E k) i:=by
 unfold bP4;split
 ·exact h
 ·split
  ·exact fun x hx=>h x (List.mem_filter.1 hx).1
  ·exact h
theorem KH7{ν:Type}(l:List (ByteArray×ν))(k:ByteArray):i9 (i9 l k) k=i9 l k:=BH7 fun x hx=>by have:=(List.mem_filter.1 hx).2;simpa using this
theorem MC7(e:Ec)(k:ByteArray)(V:Vs):bd4 ((k,V)::i9 e.vs k) k=(aO4 e k V).vs:=by
 have hg:j5 ((k,V)::i9 e.vs k) k=some V:=by rw[Dg7,if_pos rfl]
 unfold bd4 aO4;rw[hg];show(if w8 V=true then i9 ((k,V)::i9 e.vs k) k else(k,V)::i9 e.vs k)=if w8 V=true then i9 e.vs k else(k,V)::i9 e.vs k
 have e1:i9 ((k,V)::i9 e.vs k) k=i9 (i9 e.vs k) k:=by
  conv=>lhs;unfold i9
  rw[List.filter_cons,if_neg (by simp)];rfl
 rw[e1,KH7]
theorem KI7(e:Ec)(k:ByteArray)(hn:(e.vs.map (·.1)).Nodup):(bd4 e.vs k).Perm (aO4 e k (atV e k)).vs:=by
 unfold bd4 aO4 atV
 cases hg:j5 e.vs k with
 | none=>
  show e.vs.Perm (if w8 vs0=true then i9 e.vs k else(k,vs0)::i9 e.vs k)
  rw[if_pos (by rfl),BH7 (BN7 hg)]
 | some V=>
  show(if w8 V=true then i9 e.vs k else e.vs).Perm (if w8 V=true then i9 e.vs k else(k,V)::i9 e.vs k)
  split
  ·exact List.Perm.refl _
  ·exact BV7 hn hg
def ecK(eb m1 m2 m3 m4:Nat)(E:Ev)(ss:List (Int×(Int×Rpl)))(ts:List ((Int×Int)×Tns))(ar:List ((Int×Int)×Unit)):HP:=sats (ecR eb m1 m2 m3 m4 E ss ts ar [])
def kdR(eb m1 m2 m3 m4:Nat)(vs:List (ByteArray×Vs))(ss:List (Int×(Int×Rpl)))(ts:List ((Int×Int)×Tns))(ar:List ((Int×Int)×Unit))(i:Nat):HP:=fun f=>∃E,(F9 E i/\(j8 E).Perm vs)/\ecK eb m1 m2 m3 m4 E ss ts ar f
section
variable{W w:World}{R:List HP}{eb m1 m2 m3 m4:Nat}{E:Ev}{i:Nat}{vs:List (ByteArray×Vs)}{ss:List (Int×(Int×Rpl))}{ts:List ((Int×Int)×Tns)}{ar:List ((Int×Int)×Unit)}{ak:ByteArray}{V:Vs}{vb:Nat}
theorem an4(h:St W (ecK eb m1 m2 m3 m4 E ss ts ar::R) w):St W (ecR eb m1 m2 m3 m4 E ss ts ar R) w:=h.openS
theorem P5(h:St W (ecR eb m1 m2 m3 m4 E ss ts ar R) w):St W (ecK eb m1 m2 m3 m4 E ss ts ar::R) w:=St.shutS [_,_,_,_] h
theorem NZ7(h:F9 E i):F9 E (i+1):=fun x hx=>(h x hx).on
theorem KJ7(hE:F9 E i)(hp:(j8 E).Perm vs)(h:St W (ecR eb m1 m2 m3 m4 E ss ts ar R) w):St W (kdR eb m1 m2 m3 m4 vs ss ts ar (i+1)::R) w:=St.mkEx E (St.mkAnd ⟨NZ7 hE,hp⟩ (P5 h))
theorem Fs7(hE:F9 E i)(hp:(j8 E).Perm vs)(hV:VOk V.ps V.n (i+1))(h:St W (ecR eb m1 m2 m3 m4 ((ak,(vb,V))::i9 E ak) ss ts ar R) w):St W (kdR eb m1 m2 m3 m4 ((ak,V)::i9 vs ak) ss ts ar (i+1)::R) w:=by
 refine St.mkEx _ (St.mkAnd ⟨?_,?_⟩ (P5 h))
 ·intro x hx
  rcases List.mem_cons.1 hx with rfl|hx
  ·exact hV
  ·exact(hE x (List.mem_filter.1 hx).1).on
 ·show((ak,V)::j8 (i9 E ak)).Perm _
  rw[<-GS7];exact(Ep7 hp ak).cons _
theorem aX4(h:St W (kdR eb m1 m2 m3 m4 vs ss ts ar i::R) w):∃E,F9 E i/\(j8 E).Perm vs/\St W (ecR eb m1 m2 m3 m4 E ss ts ar R) w:=by obtain⟨E,h⟩:=St.ex h;obtain⟨⟨h1,h2⟩,h⟩:=St.and h;exact⟨E,h1,h2,an4 h⟩
end
section
variable{eb m1 m2 m3 m4:Nat}{E:Ev}{i:Nat}{vs:List (ByteArray×Vs)}(cl sq:Int)(ak aw tk tw:ByteArray)(it ct pr:Int)(bu:Bool)(id:Int)(ss:List (Int×(Int×Rpl)))(ts:List ((Int×Int)×Tns))(ar:List ((Int×Int)×Unit))(W w:World)(R:List HP)
theorem eG4(hE:F9 E i)(hp:(j8 E).Perm vs)(h0:0<=it)(h4:it<4)(c0:1<=ct)(c1:ct<=1048576){r:Int}{q:Ps}(hr:J8 (vAt E ak).ps aw (r9 it ct)=r)(hq:G8 (vAt E ak).ps aw (r9 it ct)=q)(hS:St W (ecK eb m1 m2 m3 m4 E ss ts ar::R) w):
  Calls Tryz.prog 65 #[.P eb,oV 1 cl sq ak aw tk tw it ct pr bu id] w fun e w'=>e=.returned (rV r 0 0 0 0 0)/\St W (kdR eb m1 m2 m3 m4 ((ak,⟨q,(vAt E ak).L,(vAt E ak).n⟩)::i9 vs ak) ss ts ar (i+1)::R) w':=by
 refine(KD7 hE 1 cl sq ak aw tk tw it ct pr bu id h0 h4 c0 c1 hr hq W w _ (an4 hS)).mono ?_;rintro e w' ⟨vb,h1,rfl,hS⟩;exact⟨rfl,Fs7 hE hp h1 hS⟩
theorem ef4(hE:F9 E i)(hp:(j8 E).Perm vs)(h0:0<=it)(h4:it<4)(c0:1<=ct)(c1:ct<=1048576){r:Int}{q:Ps}(hr:p8 (vAt E ak).ps aw (r9 it ct)=r)(hr0:(r==0)=false)(hq:s5 (vAt E ak).ps aw (r9 it ct)=q)(hS:St W (ecK eb m1 m2 m3 m4 E ss ts ar::R) w):
  Calls Tryz.prog 66 #[.P eb,oV 2 cl sq ak aw tk tw it ct pr bu id] w fun e w'=>e=.returned (rV r 0 0 0 0 0)/\St W (kdR eb m1 m2 m3 m4 ((ak,⟨q,(vAt E ak).L,(vAt E ak).n⟩)::i9 vs ak) ss ts ar (i+1)::R) w':=by
 refine(NX7 hE 2 cl sq ak aw tk tw it ct pr bu id ts h0 h4 c0 c1 hr hr0 hq W w _ ((an4 hS).s (evP eb m1 m2 m3 m4 E::d9 eW eTn m3 ts::d9 eI eSs m2 ss::d9 eW eU m4 ar::R))).mono ?_;rintro e w' ⟨vb,h1,rfl,hS⟩;exact⟨rfl,Fs7 hE hp h1 (hS.s _)⟩
theorem eg4(hE:F9 E i)(hp:(j8 E).Perm vs)(h0:0<=it)(h4:it<4)(c0:1<=ct)(c1:ct<=1048576){q:Ps}(hr:p8 (vAt E ak).ps aw (r9 it ct)=0)(hq:s5 (vAt E ak).ps aw (r9 it ct)=q)(hS:St W (ecK eb m1 m2 m3 m4 E ss ts ar::R) w):
  Calls Tryz.prog 66 #[.P eb,oV 2 cl sq ak aw tk tw it ct pr bu id] w fun e w'=>e=.returned (rV 0 0 0 0 0 0)/\St W (kdR eb m1 m2 m3 m4 ((ak,⟨q,(vAt E ak).L,(vAt E ak).n⟩)::i9 vs ak) ss (((cl,sq),⟨cl,sq,ak,aw,tk,tw,it,ct⟩)::i9 ts (cl,sq)) ar (i+1)::R) w':=by
 refine(MA7 hE 2 cl sq ak aw tk tw it ct pr bu id ts h0 h4 c0 c1 hr hq W w _ ((an4 hS).s (evP eb m1 m2 m3 m4 E::d9 eW eTn m3 ts::d9 eI eSs m2 ss::d9 eW eU m4 ar::R))).mono ?_;rintro e w' ⟨vb,h1,rfl,hS⟩;exact⟨rfl,Fs7 hE hp h1 (hS.s _)⟩
theorem eH4(hE:F9 E i)(hp:(j8 E).Perm vs){r1 r2:Int}{V2:Vs}(h1:(x8 (vAt E ak) ⟨0,aw,bu,it,ct,pr⟩).1=r1)(h2:(x8 (vAt E ak) ⟨0,aw,bu,it,ct,pr⟩).2.1=r2)(h3:(x8 (vAt E ak) ⟨0,aw,bu,it,ct,pr⟩).2.2=V2)(hS:St W (ecK eb m1 m2 m3 m4 E ss ts ar::R) w):
  Calls Tryz.prog 67 #[.P eb,oV 3 cl sq ak aw tk tw it ct pr bu id] w fun e w'=>e=.returned (rV r2 r1 0 0 0 0)/\St W (kdR eb m1 m2 m3 m4 ((ak,V2)::i9 vs ak) ss ts ar (i+1)::R) w':=by
 refine(Jq7 hE 3 cl sq ak aw tk tw it ct pr bu id h1 h2 h3 W w _ (an4 hS)).mono ?_;rintro e w' ⟨vb,h1,rfl,hS⟩;exact⟨rfl,Fs7 hE hp h1 hS⟩
theorem eI4(hE:F9 E i)(hp:(j8 E).Perm vs){r:Int}{V2:Vs}(h1:(A8 (vAt E ak) aw id).1=r)(h2:(A8 (vAt E ak) aw id).2=V2)(hS:St W (ecK eb m1 m2 m3 m4 E ss ts ar::R) w):
  Calls Tryz.prog 68 #[.P eb,oV 4 cl sq ak aw tk tw it ct pr bu id] w fun e w'=>e=.returned (rV r 0 0 0 0 0)/\St W (kdR eb m1 m2 m3 m4 ((ak,V2)::i9 vs ak) ss ts ar (i+1)::R) w':=by
 refine(GZ7 hE 4 cl sq ak aw tk tw it ct pr bu id h1 h2 W w _ (an4 hS)).mono ?_;rintro e w' ⟨vb,h1,rfl,hS⟩;exact⟨rfl,Fs7 hE hp h1 hS⟩
theorem eJ4(hE:F9 E i)(hp:(j8 E).Perm vs){x0 x1 x2 x3:Int}(hx:j7 (vAt E ak).ps aw=⟨x0,x1,x2,x3⟩)(hS:St W (ecK eb m1 m2 m3 m4 E ss ts ar::R) w):
  Calls Tryz.prog 69 #[.P eb,oV 5 cl sq ak aw tk tw it ct pr bu id] w fun e w'=>e=.returned (rV 0 0 x0 x1 x2 x3)/\St W (kdR eb m1 m2 m3 m4 vs ss ts ar (i+1)::R) w':=by
 refine(KF7 5 cl sq ak aw tk tw it ct pr bu id hx W w _ (an4 hS)).mono ?_;rintro e w' ⟨rfl,hS⟩;exact⟨rfl,KJ7 hE hp hS⟩
theorem eK4(hE:F9 E i)(hp:(j8 E).Perm vs)(h0:0<=it)(h4:it<4)(c0:1<=ct)(c1:ct<=1048576){q:Ps}(hq:G8 (vAt E ak).ps aw (r9 it ct)=q)(hS:St W (ecK eb m1 m2 m3 m4 E ss ts ar::R) w):
  Calls Tryz.prog 70 #[.P eb,oV 6 cl sq ak aw tk tw it ct pr bu id] w fun e w'=>e=.returned (rV 0 0 0 0 0 0)/\St W (kdR eb m1 m2 m3 m4 ((ak,⟨q,(vAt E ak).L,(vAt E ak).n⟩)::i9 vs ak) ss ts (((cl,sq),())::i9 ar (cl,sq)) (i+1)::R) w':=by
 refine(HP7 hE 6 cl sq ak aw tk tw it ct pr bu id ar h0 h4 c0 c1 hq W w _ ((an4 hS).s (evP eb m1 m2 m3 m4 E::d9 eW eU m4 ar::d9 eI eSs m2 ss::d9 eW eTn m3 ts::R))).mono ?_;rintro e w' ⟨vb,h1,rfl,hS⟩;exact⟨rfl,Fs7 hE hp h1 (hS.s _)⟩
theorem eL4(hE:F9 E i)(hp:(j8 E).Perm vs)(hS:St W (ecK eb m1 m2 m3 m4 E ss ts ar::R) w):
  Calls Tryz.prog 71 #[.P eb,oV 7 cl sq ak aw tk tw it ct pr bu id] w fun e w'=>e=.returned (rV 0 0 0 0 0 0)/\St W (kdR eb m1 m2 m3 m4 vs ss (i9 ts (cl,sq)) ar (i+1)::R) w':=by
 refine(KE7 7 cl sq ak aw tk tw it ct pr bu id ts W w _ ((an4 hS).s (evP eb m1 m2 m3 m4 E::d9 eW eTn m3 ts::d9 eI eSs m2 ss::d9 eW eU m4 ar::R))).mono ?_;rintro e w' ⟨rfl,hS⟩;exact⟨rfl,KJ7 hE hp (hS.s _)⟩
end
end Go.Proofs.YtienbkdjkjbelaaGreat
end
