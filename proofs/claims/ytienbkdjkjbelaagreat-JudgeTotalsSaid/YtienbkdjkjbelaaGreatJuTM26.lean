/-
  What a request leaves of the vaults.
-/
import Derived.Test.YtienbkdjkjbelaaGreatJuTM5
import Derived.Test.YtienbkdjkjbelaaGreatJuTM25
set_option maxHeartbeats 16000000
set_option maxRecDepth 100000
set_option linter.unusedSimpArgs false
set_option linter.unusedVariables false
section
namespace Go.Sl
open Go.RowKit
section
variable{P:Program}{W:World}{ops:Array Oper}{t:List Nat}{toks:List Tok}{fresh:Nat->Bool}{pin:Nat->Option Value}{Qf:Act->Prop}{nd:Nat->Value}{i:Nat}{o:Oper}{l:List Oper}{a:Act}
theorem BQ7{x:Operand}{f:FuncId}{xs:Array Operand}{ats:Array TypeId}{args:Array Value}{v:Value}(hf:fresh i=false)(hp:pin i=some v)(hg:Region.wanted o (yielded ops a.tmps)=true)
  (ho:o.op=.call { callee:=.value x,args:=xs,argTypes:=ats }) (hx0:a.eval x=.func (.func f) #[] #[]) (hb:O6 P f=true) (hx:xs.map a.eval=args)
  (hs:∀F w,St W (cnL toks t i nd++(kpL toks t i nd++F)) w->Calls P f args w fun e w'=>e=.returned v/\St W (mdL toks i nd++(kpL toks t i nd++F)) w')
  (h:l7 P W ops t toks fresh pin Qf nd (i+1) l (a.put o.dst v)):l7 P W ops t toks fresh pin Qf nd i (o::l) a:=
 Jn7 hf hp hg (fun w=>AU7 w ho hx0 hb hx) hs h
end
end Go.Sl
namespace Go.Proofs.YtienbkdjkjbelaaGreat
open Go.RowKit Go.Sl
def bF4(vs:List (ByteArray×Vs))(k:ByteArray):List (ByteArray×Vs):=match j6 vs k with
 | none=>vs
 | some V=>if A5 V=true then i9 vs k else vs
theorem Bg7{E:Ev}{vs:List (ByteArray×Vs)}(hn:(E.map (·.1)).Nodup)(hp:(k9 E).Perm vs)(k:ByteArray):(k9 (co4 E k)).Perm (bF4 vs k):=by
 have hg:j6 vs k=(j6 E k).map (·.2):=by rw[<-AF7 (by rw[Bw7];exact hn) hp k,Hz7]
 unfold co4 bF4;rw[hg]
 cases j6 E k with
 | none=>exact hp
 | some x=>
  show(k9 (if A5 x.2=true then i9 E k else E)).Perm (if A5 x.2=true then i9 vs k else vs)
  split
  ·rw[<-Hy7];exact Fb7 hp k
  ·exact hp
theorem Ex7{E:Ev}{i:Nat}(h:I8 E i)(k:ByteArray):I8 (co4 E k) i:=by
 unfold co4;split
 ·exact h
 ·split
  ·exact fun x hx=>h x (List.mem_filter.1 hx).1
  ·exact h
theorem Mq7{ν:Type}(l:List (ByteArray×ν))(k:ByteArray):i9 (i9 l k) k=i9 l k:=By7 fun x hx=>by have:=(List.mem_filter.1 hx).2;simpa using this
theorem Om7(e:Ec)(k:ByteArray)(V:Vs):bF4 ((k,V)::i9 e.vs k) k=(bf4 e k V).vs:=by
 have hg:j6 ((k,V)::i9 e.vs k) k=some V:=by rw[Dy7,if_pos rfl]
 unfold bF4 bf4;rw[hg];show(if A5 V=true then i9 ((k,V)::i9 e.vs k) k else(k,V)::i9 e.vs k)=if A5 V=true then i9 e.vs k else(k,V)::i9 e.vs k
 have e1:i9 ((k,V)::i9 e.vs k) k=i9 (i9 e.vs k) k:=by
  conv=>lhs;unfold i9
  rw[List.filter_cons,if_neg (by simp)];rfl
 rw[e1,Mq7]
theorem Mr7(e:Ec)(k:ByteArray)(hn:(e.vs.map (·.1)).Nodup):(bF4 e.vs k).Perm (bf4 e k (atV e k)).vs:=by
 unfold bF4 bf4 atV
 cases hg:j6 e.vs k with
 | none=>
  show e.vs.Perm (if A5 vs0=true then i9 e.vs k else(k,vs0)::i9 e.vs k)
  rw[if_pos (by rfl),By7 (Bz7 hg)]
 | some V=>
  show(if A5 V=true then i9 e.vs k else e.vs).Perm (if A5 V=true then i9 e.vs k else(k,V)::i9 e.vs k)
  split
  ·exact List.Perm.refl _
  ·exact Bq7 hn hg
def ecK(eb m1 m2 m3 m4:Nat)(E:Ev)(ss:List (Int×(Int×Rpl)))(ts:List ((Int×Int)×Tns))(ar:List ((Int×Int)×Unit)):HP:=sats (ecR eb m1 m2 m3 m4 E ss ts ar [])
def kdR(eb m1 m2 m3 m4:Nat)(vs:List (ByteArray×Vs))(ss:List (Int×(Int×Rpl)))(ts:List ((Int×Int)×Tns))(ar:List ((Int×Int)×Unit))(i:Nat):HP:=fun f=>∃E,(I8 E i/\(k9 E).Perm vs)/\ecK eb m1 m2 m3 m4 E ss ts ar f
section
variable{W w:World}{R:List HP}{eb m1 m2 m3 m4:Nat}{E:Ev}{i:Nat}{vs:List (ByteArray×Vs)}{ss:List (Int×(Int×Rpl))}{ts:List ((Int×Int)×Tns)}{ar:List ((Int×Int)×Unit)}{ak:ByteArray}{V:Vs}{vb:Nat}
theorem aF4(h:St W (ecK eb m1 m2 m3 m4 E ss ts ar::R) w):St W (ecR eb m1 m2 m3 m4 E ss ts ar R) w:=h.openS
theorem as4(h:St W (ecR eb m1 m2 m3 m4 E ss ts ar R) w):St W (ecK eb m1 m2 m3 m4 E ss ts ar::R) w:=St.shutS [_,_,_,_] h
theorem Qh7(h:I8 E i):I8 E (i+1):=fun x hx=>(h x hx).on
theorem Ms7(hE:I8 E i)(hp:(k9 E).Perm vs)(h:St W (ecR eb m1 m2 m3 m4 E ss ts ar R) w):St W (kdR eb m1 m2 m3 m4 vs ss ts ar (i+1)::R) w:=St.mkEx E (St.mkAnd ⟨Qh7 hE,hp⟩ (as4 h))
theorem Gc7(hE:I8 E i)(hp:(k9 E).Perm vs)(hV:VOk V.ps V.n (i+1))(h:St W (ecR eb m1 m2 m3 m4 ((ak,(vb,V))::i9 E ak) ss ts ar R) w):St W (kdR eb m1 m2 m3 m4 ((ak,V)::i9 vs ak) ss ts ar (i+1)::R) w:=by
 refine St.mkEx _ (St.mkAnd ⟨?_,?_⟩ (as4 h))
 ·intro x hx
  rcases List.mem_cons.1 hx with rfl|hx
  ·exact hV
  ·exact(hE x (List.mem_filter.1 hx).1).on
 ·show((ak,V)::k9 (i9 E ak)).Perm _
  rw[<-Hy7];exact(Fb7 hp ak).cons _
theorem bv4(h:St W (kdR eb m1 m2 m3 m4 vs ss ts ar i::R) w):∃E,I8 E i/\(k9 E).Perm vs/\St W (ecR eb m1 m2 m3 m4 E ss ts ar R) w:=by obtain⟨E,h⟩:=St.ex h;obtain⟨⟨h1,h2⟩,h⟩:=St.and h;exact⟨E,h1,h2,aF4 h⟩
end
section
variable{eb m1 m2 m3 m4:Nat}{E:Ev}{i:Nat}{vs:List (ByteArray×Vs)}(cl sq:Int)(ak aw tk tw:ByteArray)(it ct pr:Int)(bu:Bool)(id:Int)(ss:List (Int×(Int×Rpl)))(ts:List ((Int×Int)×Tns))(ar:List ((Int×Int)×Unit))(W w:World)(R:List HP)
theorem fy4(hE:I8 E i)(hp:(k9 E).Perm vs)(h0:0<=it)(h4:it<4)(c0:1<=ct)(c1:ct<=1048576){r:Int}{q:Ps}(hr:J8 (vAt E ak).ps aw (p8 it ct)=r)(hq:F8 (vAt E ak).ps aw (p8 it ct)=q)(hS:St W (ecK eb m1 m2 m3 m4 E ss ts ar::R) w):
  Calls Tryz.prog 65 #[.P eb,oV 1 cl sq ak aw tk tw it ct pr bu id] w fun e w'=>e=.returned (rV r 0 0 0 0 0)/\St W (kdR eb m1 m2 m3 m4 ((ak,⟨q,(vAt E ak).L,(vAt E ak).n⟩)::i9 vs ak) ss ts ar (i+1)::R) w':=by
 refine(Mm7 hE 1 cl sq ak aw tk tw it ct pr bu id h0 h4 c0 c1 hr hq W w _ (aF4 hS)).mono ?_;rintro e w' ⟨vb,h1,rfl,hS⟩;exact⟨rfl,Gc7 hE hp h1 hS⟩
theorem eX4(hE:I8 E i)(hp:(k9 E).Perm vs)(h0:0<=it)(h4:it<4)(c0:1<=ct)(c1:ct<=1048576){r:Int}{q:Ps}(hr:p9 (vAt E ak).ps aw (p8 it ct)=r)(hr0:(r==0)=false)(hq:r8 (vAt E ak).ps aw (p8 it ct)=q)(hS:St W (ecK eb m1 m2 m3 m4 E ss ts ar::R) w):
  Calls Tryz.prog 66 #[.P eb,oV 2 cl sq ak aw tk tw it ct pr bu id] w fun e w'=>e=.returned (rV r 0 0 0 0 0)/\St W (kdR eb m1 m2 m3 m4 ((ak,⟨q,(vAt E ak).L,(vAt E ak).n⟩)::i9 vs ak) ss ts ar (i+1)::R) w':=by
 refine(Qf7 hE 2 cl sq ak aw tk tw it ct pr bu id ts h0 h4 c0 c1 hr hr0 hq W w _ ((aF4 hS).s (evP eb m1 m2 m3 m4 E::d9 eW eTn m3 ts::d9 eI eSs m2 ss::d9 eW eU m4 ar::R))).mono ?_;rintro e w' ⟨vb,h1,rfl,hS⟩;exact⟨rfl,Gc7 hE hp h1 (hS.s _)⟩
theorem eY4(hE:I8 E i)(hp:(k9 E).Perm vs)(h0:0<=it)(h4:it<4)(c0:1<=ct)(c1:ct<=1048576){q:Ps}(hr:p9 (vAt E ak).ps aw (p8 it ct)=0)(hq:r8 (vAt E ak).ps aw (p8 it ct)=q)(hS:St W (ecK eb m1 m2 m3 m4 E ss ts ar::R) w):
  Calls Tryz.prog 66 #[.P eb,oV 2 cl sq ak aw tk tw it ct pr bu id] w fun e w'=>e=.returned (rV 0 0 0 0 0 0)/\St W (kdR eb m1 m2 m3 m4 ((ak,⟨q,(vAt E ak).L,(vAt E ak).n⟩)::i9 vs ak) ss (((cl,sq),⟨cl,sq,ak,aw,tk,tw,it,ct⟩)::i9 ts (cl,sq)) ar (i+1)::R) w':=by
 refine(Ok7 hE 2 cl sq ak aw tk tw it ct pr bu id ts h0 h4 c0 c1 hr hq W w _ ((aF4 hS).s (evP eb m1 m2 m3 m4 E::d9 eW eTn m3 ts::d9 eI eSs m2 ss::d9 eW eU m4 ar::R))).mono ?_;rintro e w' ⟨vb,h1,rfl,hS⟩;exact⟨rfl,Gc7 hE hp h1 (hS.s _)⟩
theorem fz4(hE:I8 E i)(hp:(k9 E).Perm vs){r1 r2:Int}{V2:Vs}(h1:(x8 (vAt E ak) ⟨0,aw,bu,it,ct,pr⟩).1=r1)(h2:(x8 (vAt E ak) ⟨0,aw,bu,it,ct,pr⟩).2.1=r2)(h3:(x8 (vAt E ak) ⟨0,aw,bu,it,ct,pr⟩).2.2=V2)(hS:St W (ecK eb m1 m2 m3 m4 E ss ts ar::R) w):
  Calls Tryz.prog 67 #[.P eb,oV 3 cl sq ak aw tk tw it ct pr bu id] w fun e w'=>e=.returned (rV r2 r1 0 0 0 0)/\St W (kdR eb m1 m2 m3 m4 ((ak,V2)::i9 vs ak) ss ts ar (i+1)::R) w':=by
 refine(KB7 hE 3 cl sq ak aw tk tw it ct pr bu id h1 h2 h3 W w _ (aF4 hS)).mono ?_;rintro e w' ⟨vb,h1,rfl,hS⟩;exact⟨rfl,Gc7 hE hp h1 hS⟩
theorem fA4(hE:I8 E i)(hp:(k9 E).Perm vs){r:Int}{V2:Vs}(h1:(B8 (vAt E ak) aw id).1=r)(h2:(B8 (vAt E ak) aw id).2=V2)(hS:St W (ecK eb m1 m2 m3 m4 E ss ts ar::R) w):
  Calls Tryz.prog 68 #[.P eb,oV 4 cl sq ak aw tk tw it ct pr bu id] w fun e w'=>e=.returned (rV r 0 0 0 0 0)/\St W (kdR eb m1 m2 m3 m4 ((ak,V2)::i9 vs ak) ss ts ar (i+1)::R) w':=by
 refine(HE7 hE 4 cl sq ak aw tk tw it ct pr bu id h1 h2 W w _ (aF4 hS)).mono ?_;rintro e w' ⟨vb,h1,rfl,hS⟩;exact⟨rfl,Gc7 hE hp h1 hS⟩
theorem fB4(hE:I8 E i)(hp:(k9 E).Perm vs){x0 x1 x2 x3:Int}(hx:j8 (vAt E ak).ps aw=⟨x0,x1,x2,x3⟩)(hS:St W (ecK eb m1 m2 m3 m4 E ss ts ar::R) w):
  Calls Tryz.prog 69 #[.P eb,oV 5 cl sq ak aw tk tw it ct pr bu id] w fun e w'=>e=.returned (rV 0 0 x0 x1 x2 x3)/\St W (kdR eb m1 m2 m3 m4 vs ss ts ar (i+1)::R) w':=by
 refine(Mo7 5 cl sq ak aw tk tw it ct pr bu id hx W w _ (aF4 hS)).mono ?_;rintro e w' ⟨rfl,hS⟩;exact⟨rfl,Ms7 hE hp hS⟩
theorem fC4(hE:I8 E i)(hp:(k9 E).Perm vs)(h0:0<=it)(h4:it<4)(c0:1<=ct)(c1:ct<=1048576){q:Ps}(hq:F8 (vAt E ak).ps aw (p8 it ct)=q)(hS:St W (ecK eb m1 m2 m3 m4 E ss ts ar::R) w):
  Calls Tryz.prog 70 #[.P eb,oV 6 cl sq ak aw tk tw it ct pr bu id] w fun e w'=>e=.returned (rV 0 0 0 0 0 0)/\St W (kdR eb m1 m2 m3 m4 ((ak,⟨q,(vAt E ak).L,(vAt E ak).n⟩)::i9 vs ak) ss ts (((cl,sq),())::i9 ar (cl,sq)) (i+1)::R) w':=by
 refine(IH7 hE 6 cl sq ak aw tk tw it ct pr bu id ar h0 h4 c0 c1 hq W w _ ((aF4 hS).s (evP eb m1 m2 m3 m4 E::d9 eW eU m4 ar::d9 eI eSs m2 ss::d9 eW eTn m3 ts::R))).mono ?_;rintro e w' ⟨vb,h1,rfl,hS⟩;exact⟨rfl,Gc7 hE hp h1 (hS.s _)⟩
theorem fD4(hE:I8 E i)(hp:(k9 E).Perm vs)(hS:St W (ecK eb m1 m2 m3 m4 E ss ts ar::R) w):
  Calls Tryz.prog 71 #[.P eb,oV 7 cl sq ak aw tk tw it ct pr bu id] w fun e w'=>e=.returned (rV 0 0 0 0 0 0)/\St W (kdR eb m1 m2 m3 m4 vs ss (i9 ts (cl,sq)) ar (i+1)::R) w':=by
 refine(Mn7 7 cl sq ak aw tk tw it ct pr bu id ts W w _ ((aF4 hS).s (evP eb m1 m2 m3 m4 E::d9 eW eTn m3 ts::d9 eI eSs m2 ss::d9 eW eU m4 ar::R))).mono ?_;rintro e w' ⟨rfl,hS⟩;exact⟨rfl,Ms7 hE hp (hS.s _)⟩
end
end Go.Proofs.YtienbkdjkjbelaaGreat
end
