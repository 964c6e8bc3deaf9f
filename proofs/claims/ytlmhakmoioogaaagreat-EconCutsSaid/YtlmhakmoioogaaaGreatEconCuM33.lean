/-
  What a request leaves of the vaults.
-/
import Derived.Test.YtlmhakmoioogaaaGreatEconCuM5
import Derived.Test.YtlmhakmoioogaaaGreatEconCuM32
set_option maxHeartbeats 16000000
set_option maxRecDepth 100000
set_option linter.unusedSimpArgs false
set_option linter.unusedVariables false
section
namespace Go.Sl
open Go.RowKit
section
variable{P:Program}{W:World}{ops:Array Oper}{t:List Nat}{toks:List Tok}{fresh:Nat->Bool}{pin:Nat->Option Value}{Qf:Act->Prop}{nd:Nat->Value}{i:Nat}{o:Oper}{l:List Oper}{a:Act}
theorem Cm7{x:Operand}{f:FuncId}{xs:Array Operand}{ats:Array TypeId}{args:Array Value}{v:Value}(hf:fresh i=false)(hp:pin i=some v)(hg:Region.wanted o (yielded ops a.tmps)=true)
  (ho:o.op=.call { callee:=.value x,args:=xs,argTypes:=ats }) (hx0:a.eval x=.func (.func f) #[] #[]) (hb:aa4 P f=true) (hx:xs.map a.eval=args)
  (hs:∀F w,St W (cnL toks t i nd++(kpL toks t i nd++F)) w->Calls P f args w fun e w'=>e=.returned v/\St W (mdL toks i nd++(kpL toks t i nd++F)) w')
  (h:l7 P W ops t toks fresh pin Qf nd (i+1) l (a.put o.dst v)):l7 P W ops t toks fresh pin Qf nd i (o::l) a:=
 KG7 hf hp hg (fun w=>Bm7 w ho hx0 hb hx) hs h
end
end Go.Sl
namespace Go.Proofs.YtlmhakmoioogaaaGreat
open Go.RowKit Go.Sl
def bZ4(vs:List (ByteArray×Vs))(k:ByteArray):List (ByteArray×Vs):=match i9 vs k with
 | none=>vs
 | some V=>if A6 V=true then j6 vs k else vs
theorem BF7{E:Ev}{vs:List (ByteArray×Vs)}(hn:(E.map (·.1)).Nodup)(hp:(k8 E).Perm vs)(k:ByteArray):(k8 (cN4 E k)).Perm (bZ4 vs k):=by
 have hg:i9 vs k=(i9 E k).map (·.2):=by rw[<-Ap7 (by rw[Bz7];exact hn) hp k,IT7]
 unfold cN4 bZ4;rw[hg]
 cases i9 E k with
 | none=>exact hp
 | some x=>
  show(k8 (if A6 x.2=true then j6 E k else E)).Perm (if A6 x.2=true then j6 vs k else vs)
  split
  ·rw[<-IS7];exact CW7 hp k
  ·exact hp
theorem Fe7{E:Ev}{i:Nat}(h:J6 E i)(k:ByteArray):J6 (cN4 E k) i:=by
 unfold cN4;split
 ·exact h
 ·split
  ·exact fun x hx=>h x (List.mem_filter.1 hx).1
  ·exact h
theorem Oi7{ν:Type}(l:List (ByteArray×ν))(k:ByteArray):j6 (j6 l k) k=j6 l k:=Bk7 fun x hx=>by have:=(List.mem_filter.1 hx).2;simpa using this
theorem PM7(e:Ec)(k:ByteArray)(V:Vs):bZ4 ((k,V)::j6 e.vs k) k=(bF4 e k V).vs:=by
 have hg:i9 ((k,V)::j6 e.vs k) k=some V:=by rw[Em7,if_pos rfl]
 unfold bZ4 bF4;rw[hg];show(if A6 V=true then j6 ((k,V)::j6 e.vs k) k else(k,V)::j6 e.vs k)=if A6 V=true then j6 e.vs k else(k,V)::j6 e.vs k
 have e1:j6 ((k,V)::j6 e.vs k) k=j6 (j6 e.vs k) k:=by
  conv=>lhs;unfold j6
  rw[List.filter_cons,if_neg (by simp)];rfl
 rw[e1,Oi7]
theorem Oj7(e:Ec)(k:ByteArray)(hn:(e.vs.map (·.1)).Nodup):(bZ4 e.vs k).Perm (bF4 e k (atV e k)).vs:=by
 unfold bZ4 bF4 atV
 cases hg:i9 e.vs k with
 | none=>
  show e.vs.Perm (if A6 vs0=true then j6 e.vs k else(k,vs0)::j6 e.vs k)
  rw[if_pos (by rfl),Bk7 (AP7 hg)]
 | some V=>
  show(if A6 V=true then j6 e.vs k else e.vs).Perm (if A6 V=true then j6 e.vs k else(k,V)::j6 e.vs k)
  split
  ·exact List.Perm.refl _
  ·exact Bt7 hn hg
def ecK(eb m1 m2 m3 m4:Nat)(E:Ev)(ss:List (Int×(Int×Rpl)))(ts:List ((Int×Int)×Tns))(ar:List ((Int×Int)×Unit)):HP:=sats (ecR eb m1 m2 m3 m4 E ss ts ar [])
def kdR(eb m1 m2 m3 m4:Nat)(vs:List (ByteArray×Vs))(ss:List (Int×(Int×Rpl)))(ts:List ((Int×Int)×Tns))(ar:List ((Int×Int)×Unit))(i:Nat):HP:=fun f=>∃E,(J6 E i/\(k8 E).Perm vs)/\ecK eb m1 m2 m3 m4 E ss ts ar f
section
variable{W w:World}{R:List HP}{eb m1 m2 m3 m4:Nat}{E:Ev}{i:Nat}{vs:List (ByteArray×Vs)}{ss:List (Int×(Int×Rpl))}{ts:List ((Int×Int)×Tns)}{ar:List ((Int×Int)×Unit)}{ak:ByteArray}{V:Vs}{vb:Nat}
theorem aW4(h:St W (ecK eb m1 m2 m3 m4 E ss ts ar::R) w):St W (ecR eb m1 m2 m3 m4 E ss ts ar R) w:=h.openS
theorem aF4(h:St W (ecR eb m1 m2 m3 m4 E ss ts ar R) w):St W (ecK eb m1 m2 m3 m4 E ss ts ar::R) w:=St.shutS [_,_,_,_] h
theorem RJ7(h:J6 E i):J6 E (i+1):=fun x hx=>(h x hx).on
theorem Ok7(hE:J6 E i)(hp:(k8 E).Perm vs)(h:St W (ecR eb m1 m2 m3 m4 E ss ts ar R) w):St W (kdR eb m1 m2 m3 m4 vs ss ts ar (i+1)::R) w:=St.mkEx E (St.mkAnd ⟨RJ7 hE,hp⟩ (aF4 h))
theorem Ha7(hE:J6 E i)(hp:(k8 E).Perm vs)(hV:VOk V.ps V.n (i+1))(h:St W (ecR eb m1 m2 m3 m4 ((ak,(vb,V))::j6 E ak) ss ts ar R) w):St W (kdR eb m1 m2 m3 m4 ((ak,V)::j6 vs ak) ss ts ar (i+1)::R) w:=by
 refine St.mkEx _ (St.mkAnd ⟨?_,?_⟩ (aF4 h))
 ·intro x hx
  rcases List.mem_cons.1 hx with rfl|hx
  ·exact hV
  ·exact(hE x (List.mem_filter.1 hx).1).on
 ·show((ak,V)::k8 (j6 E ak)).Perm _
  rw[<-IS7];exact(CW7 hp ak).cons _
theorem bS4(h:St W (kdR eb m1 m2 m3 m4 vs ss ts ar i::R) w):∃E,J6 E i/\(k8 E).Perm vs/\St W (ecR eb m1 m2 m3 m4 E ss ts ar R) w:=by obtain⟨E,h⟩:=St.ex h;obtain⟨⟨h1,h2⟩,h⟩:=St.and h;exact⟨E,h1,h2,aW4 h⟩
end
section
variable{eb m1 m2 m3 m4:Nat}{E:Ev}{i:Nat}{vs:List (ByteArray×Vs)}(cl sq:Int)(ak aw tk tw:ByteArray)(it ct pr:Int)(bu:Bool)(id:Int)(ss:List (Int×(Int×Rpl)))(ts:List ((Int×Int)×Tns))(ar:List ((Int×Int)×Unit))(W w:World)(R:List HP)
theorem gp4(hE:J6 E i)(hp:(k8 E).Perm vs)(h0:0<=it)(h4:it<4)(c0:1<=ct)(c1:ct<=1048576){r:Int}{q:Ps}(hr:K7 (vAt E ak).ps aw (r8 it ct)=r)(hq:F9 (vAt E ak).ps aw (r8 it ct)=q)(hS:St W (ecK eb m1 m2 m3 m4 E ss ts ar::R) w):
  Calls Tryz.prog 36 #[.P eb,oV 1 cl sq ak aw tk tw it ct pr bu id] w fun e w'=>e=.returned (rV r 0 0 0 0 0)/\St W (kdR eb m1 m2 m3 m4 ((ak,⟨q,(vAt E ak).L,(vAt E ak).n⟩)::j6 vs ak) ss ts ar (i+1)::R) w':=by
 refine(Oe7 hE 1 cl sq ak aw tk tw it ct pr bu id h0 h4 c0 c1 hr hq W w _ (aW4 hS)).mono ?_;rintro e w' ⟨vb,h1,rfl,hS⟩;exact⟨rfl,Ha7 hE hp h1 hS⟩
theorem fN4(hE:J6 E i)(hp:(k8 E).Perm vs)(h0:0<=it)(h4:it<4)(c0:1<=ct)(c1:ct<=1048576){r:Int}{q:Ps}(hr:m9 (vAt E ak).ps aw (r8 it ct)=r)(hr0:(r==0)=false)(hq:p9 (vAt E ak).ps aw (r8 it ct)=q)(hS:St W (ecK eb m1 m2 m3 m4 E ss ts ar::R) w):
  Calls Tryz.prog 37 #[.P eb,oV 2 cl sq ak aw tk tw it ct pr bu id] w fun e w'=>e=.returned (rV r 0 0 0 0 0)/\St W (kdR eb m1 m2 m3 m4 ((ak,⟨q,(vAt E ak).L,(vAt E ak).n⟩)::j6 vs ak) ss ts ar (i+1)::R) w':=by
 refine(RH7 hE 2 cl sq ak aw tk tw it ct pr bu id ts h0 h4 c0 c1 hr hr0 hq W w _ ((aW4 hS).s (evP eb m1 m2 m3 m4 E::d8 eW eTn m3 ts::d8 eI eSs m2 ss::d8 eW eU m4 ar::R))).mono ?_;rintro e w' ⟨vb,h1,rfl,hS⟩;exact⟨rfl,Ha7 hE hp h1 (hS.s _)⟩
theorem fO4(hE:J6 E i)(hp:(k8 E).Perm vs)(h0:0<=it)(h4:it<4)(c0:1<=ct)(c1:ct<=1048576){q:Ps}(hr:m9 (vAt E ak).ps aw (r8 it ct)=0)(hq:p9 (vAt E ak).ps aw (r8 it ct)=q)(hS:St W (ecK eb m1 m2 m3 m4 E ss ts ar::R) w):
  Calls Tryz.prog 37 #[.P eb,oV 2 cl sq ak aw tk tw it ct pr bu id] w fun e w'=>e=.returned (rV 0 0 0 0 0 0)/\St W (kdR eb m1 m2 m3 m4 ((ak,⟨q,(vAt E ak).L,(vAt E ak).n⟩)::j6 vs ak) ss (((cl,sq),⟨cl,sq,ak,aw,tk,tw,it,ct⟩)::j6 ts (cl,sq)) ar (i+1)::R) w':=by
 refine(PK7 hE 2 cl sq ak aw tk tw it ct pr bu id ts h0 h4 c0 c1 hr hq W w _ ((aW4 hS).s (evP eb m1 m2 m3 m4 E::d8 eW eTn m3 ts::d8 eI eSs m2 ss::d8 eW eU m4 ar::R))).mono ?_;rintro e w' ⟨vb,h1,rfl,hS⟩;exact⟨rfl,Ha7 hE hp h1 (hS.s _)⟩
theorem gq4(hE:J6 E i)(hp:(k8 E).Perm vs){r1 r2:Int}{V2:Vs}(h1:(B6 (vAt E ak) ⟨0,aw,bu,it,ct,pr⟩).1=r1)(h2:(B6 (vAt E ak) ⟨0,aw,bu,it,ct,pr⟩).2.1=r2)(h3:(B6 (vAt E ak) ⟨0,aw,bu,it,ct,pr⟩).2.2=V2)(hS:St W (ecK eb m1 m2 m3 m4 E ss ts ar::R) w):
  Calls Tryz.prog 38 #[.P eb,oV 3 cl sq ak aw tk tw it ct pr bu id] w fun e w'=>e=.returned (rV r2 r1 0 0 0 0)/\St W (kdR eb m1 m2 m3 m4 ((ak,V2)::j6 vs ak) ss ts ar (i+1)::R) w':=by
 refine(Ms7 hE 3 cl sq ak aw tk tw it ct pr bu id h1 h2 h3 W w _ (aW4 hS)).mono ?_;rintro e w' ⟨vb,h1,rfl,hS⟩;exact⟨rfl,Ha7 hE hp h1 hS⟩
theorem gr4(hE:J6 E i)(hp:(k8 E).Perm vs){r:Int}{V2:Vs}(h1:(C7 (vAt E ak) aw id).1=r)(h2:(C7 (vAt E ak) aw id).2=V2)(hS:St W (ecK eb m1 m2 m3 m4 E ss ts ar::R) w):
  Calls Tryz.prog 39 #[.P eb,oV 4 cl sq ak aw tk tw it ct pr bu id] w fun e w'=>e=.returned (rV r 0 0 0 0 0)/\St W (kdR eb m1 m2 m3 m4 ((ak,V2)::j6 vs ak) ss ts ar (i+1)::R) w':=by
 refine(IZ7 hE 4 cl sq ak aw tk tw it ct pr bu id h1 h2 W w _ (aW4 hS)).mono ?_;rintro e w' ⟨vb,h1,rfl,hS⟩;exact⟨rfl,Ha7 hE hp h1 hS⟩
theorem gs4(hE:J6 E i)(hp:(k8 E).Perm vs){x0 x1 x2 x3:Int}(hx:k9 (vAt E ak).ps aw=⟨x0,x1,x2,x3⟩)(hS:St W (ecK eb m1 m2 m3 m4 E ss ts ar::R) w):
  Calls Tryz.prog 40 #[.P eb,oV 5 cl sq ak aw tk tw it ct pr bu id] w fun e w'=>e=.returned (rV 0 0 x0 x1 x2 x3)/\St W (kdR eb m1 m2 m3 m4 vs ss ts ar (i+1)::R) w':=by
 refine(Og7 5 cl sq ak aw tk tw it ct pr bu id hx W w _ (aW4 hS)).mono ?_;rintro e w' ⟨rfl,hS⟩;exact⟨rfl,Ok7 hE hp hS⟩
theorem gt4(hE:J6 E i)(hp:(k8 E).Perm vs)(h0:0<=it)(h4:it<4)(c0:1<=ct)(c1:ct<=1048576){q:Ps}(hq:F9 (vAt E ak).ps aw (r8 it ct)=q)(hS:St W (ecK eb m1 m2 m3 m4 E ss ts ar::R) w):
  Calls Tryz.prog 41 #[.P eb,oV 6 cl sq ak aw tk tw it ct pr bu id] w fun e w'=>e=.returned (rV 0 0 0 0 0 0)/\St W (kdR eb m1 m2 m3 m4 ((ak,⟨q,(vAt E ak).L,(vAt E ak).n⟩)::j6 vs ak) ss ts (((cl,sq),())::j6 ar (cl,sq)) (i+1)::R) w':=by
 refine(Kh7 hE 6 cl sq ak aw tk tw it ct pr bu id ar h0 h4 c0 c1 hq W w _ ((aW4 hS).s (evP eb m1 m2 m3 m4 E::d8 eW eU m4 ar::d8 eI eSs m2 ss::d8 eW eTn m3 ts::R))).mono ?_;rintro e w' ⟨vb,h1,rfl,hS⟩;exact⟨rfl,Ha7 hE hp h1 (hS.s _)⟩
theorem gu4(hE:J6 E i)(hp:(k8 E).Perm vs)(hS:St W (ecK eb m1 m2 m3 m4 E ss ts ar::R) w):
  Calls Tryz.prog 42 #[.P eb,oV 7 cl sq ak aw tk tw it ct pr bu id] w fun e w'=>e=.returned (rV 0 0 0 0 0 0)/\St W (kdR eb m1 m2 m3 m4 vs ss (j6 ts (cl,sq)) ar (i+1)::R) w':=by
 refine(Of7 7 cl sq ak aw tk tw it ct pr bu id ts W w _ ((aW4 hS).s (evP eb m1 m2 m3 m4 E::d8 eW eTn m3 ts::d8 eI eSs m2 ss::d8 eW eU m4 ar::R))).mono ?_;rintro e w' ⟨rfl,hS⟩;exact⟨rfl,Ok7 hE hp (hS.s _)⟩
end
end Go.Proofs.YtlmhakmoioogaaaGreat
end
