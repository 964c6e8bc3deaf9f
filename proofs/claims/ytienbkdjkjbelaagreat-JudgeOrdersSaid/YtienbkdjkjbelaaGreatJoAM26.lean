/-
  What a request leaves of the vaults.
-/
import Derived.Test.YtienbkdjkjbelaaGreatJoAM5
import Derived.Test.YtienbkdjkjbelaaGreatJoAM25
set_option maxHeartbeats 16000000
set_option maxRecDepth 100000
set_option linter.unusedSimpArgs false
set_option linter.unusedVariables false
section
namespace Go.Sl
open Go.RowKit
section
variable{P:Program}{W:World}{ops:Array Oper}{t:List Nat}{toks:List Tok}{fresh:Nat->Bool}{pin:Nat->Option Value}{Qf:Act->Prop}{nd:Nat->Value}{i:Nat}{o:Oper}{l:List Oper}{a:Act}
theorem BU7{x:Operand}{f:FuncId}{xs:Array Operand}{ats:Array TypeId}{args:Array Value}{v:Value}(hf:fresh i=false)(hp:pin i=some v)(hg:Region.wanted o (yielded ops a.tmps)=true)
  (ho:o.op=.call { callee:=.value x,args:=xs,argTypes:=ats }) (hx0:a.eval x=.func (.func f) #[] #[]) (hb:O5 P f=true) (hx:xs.map a.eval=args)
  (hs:∀F w,St W (cnL toks t i nd++(kpL toks t i nd++F)) w->Calls P f args w fun e w'=>e=.returned v/\St W (mdL toks i nd++(kpL toks t i nd++F)) w')
  (h:l8 P W ops t toks fresh pin Qf nd (i+1) l (a.put o.dst v)):l8 P W ops t toks fresh pin Qf nd i (o::l) a:=
 Jp7 hf hp hg (fun w=>Bb7 w ho hx0 hb hx) hs h
end
end Go.Sl
namespace Go.Proofs.YtienbkdjkjbelaaGreat
open Go.RowKit Go.Sl
def bv4(vs:List (ByteArray×Vs))(k:ByteArray):List (ByteArray×Vs):=match j8 vs k with
 | none=>vs
 | some V=>if A9 V=true then j5 vs k else vs
theorem Bm7{E:Ev}{vs:List (ByteArray×Vs)}(hn:(E.map (·.1)).Nodup)(hp:(k8 E).Perm vs)(k:ByteArray):(k8 (ch4 E k)).Perm (bv4 vs k):=by
 have hg:j8 vs k=(j8 E k).map (·.2):=by rw[<-AB7 (by rw[Bz7];exact hn) hp k,HC7]
 unfold ch4 bv4;rw[hg]
 cases j8 E k with
 | none=>exact hp
 | some x=>
  show(k8 (if A9 x.2=true then j5 E k else E)).Perm (if A9 x.2=true then j5 vs k else vs)
  split
  ·rw[<-HB7];exact EY7 hp k
  ·exact hp
theorem Ew7{E:Ev}{i:Nat}(h:H8 E i)(k:ByteArray):H8 (ch4 E k) i:=by
 unfold ch4;split
 ·exact h
 ·split
  ·exact fun x hx=>h x (List.mem_filter.1 hx).1
  ·exact h
theorem Md7{ν:Type}(l:List (ByteArray×ν))(k:ByteArray):j5 (j5 l k) k=j5 l k:=BZ7 fun x hx=>by have:=(List.mem_filter.1 hx).2;simpa using this
theorem Ob7(e:Ec)(k:ByteArray)(V:Vs):bv4 ((k,V)::j5 e.vs k) k=(bb4 e k V).vs:=by
 have hg:j8 ((k,V)::j5 e.vs k) k=some V:=by rw[DA7,if_pos rfl]
 unfold bv4 bb4;rw[hg];show(if A9 V=true then j5 ((k,V)::j5 e.vs k) k else(k,V)::j5 e.vs k)=if A9 V=true then j5 e.vs k else(k,V)::j5 e.vs k
 have e1:j5 ((k,V)::j5 e.vs k) k=j5 (j5 e.vs k) k:=by
  conv=>lhs;unfold j5
  rw[List.filter_cons,if_neg (by simp)];rfl
 rw[e1,Md7]
theorem Me7(e:Ec)(k:ByteArray)(hn:(e.vs.map (·.1)).Nodup):(bv4 e.vs k).Perm (bb4 e k (atV e k)).vs:=by
 unfold bv4 bb4 atV
 cases hg:j8 e.vs k with
 | none=>
  show e.vs.Perm (if A9 vs0=true then j5 e.vs k else(k,vs0)::j5 e.vs k)
  rw[if_pos (by rfl),BZ7 (Cf7 hg)]
 | some V=>
  show(if A9 V=true then j5 e.vs k else e.vs).Perm (if A9 V=true then j5 e.vs k else(k,V)::j5 e.vs k)
  split
  ·exact List.Perm.refl _
  ·exact BT7 hn hg
def ecK(eb m1 m2 m3 m4:Nat)(E:Ev)(ss:List (Int×(Int×Rpl)))(ts:List ((Int×Int)×Tns))(ar:List ((Int×Int)×Unit)):HP:=sats (ecR eb m1 m2 m3 m4 E ss ts ar [])
def kdR(eb m1 m2 m3 m4:Nat)(vs:List (ByteArray×Vs))(ss:List (Int×(Int×Rpl)))(ts:List ((Int×Int)×Tns))(ar:List ((Int×Int)×Unit))(i:Nat):HP:=fun f=>∃E,(H8 E i/\(k8 E).Perm vs)/\ecK eb m1 m2 m3 m4 E ss ts ar f
section
variable{W w:World}{R:List HP}{eb m1 m2 m3 m4:Nat}{E:Ev}{i:Nat}{vs:List (ByteArray×Vs)}{ss:List (Int×(Int×Rpl))}{ts:List ((Int×Int)×Tns)}{ar:List ((Int×Int)×Unit)}{ak:ByteArray}{V:Vs}{vb:Nat}
theorem au4(h:St W (ecK eb m1 m2 m3 m4 E ss ts ar::R) w):St W (ecR eb m1 m2 m3 m4 E ss ts ar R) w:=h.openS
theorem aj4(h:St W (ecR eb m1 m2 m3 m4 E ss ts ar R) w):St W (ecK eb m1 m2 m3 m4 E ss ts ar::R) w:=St.shutS [_,_,_,_] h
theorem PN7(h:H8 E i):H8 E (i+1):=fun x hx=>(h x hx).on
theorem Mf7(hE:H8 E i)(hp:(k8 E).Perm vs)(h:St W (ecR eb m1 m2 m3 m4 E ss ts ar R) w):St W (kdR eb m1 m2 m3 m4 vs ss ts ar (i+1)::R) w:=St.mkEx E (St.mkAnd ⟨PN7 hE,hp⟩ (aj4 h))
theorem Gd7(hE:H8 E i)(hp:(k8 E).Perm vs)(hV:VOk V.ps V.n (i+1))(h:St W (ecR eb m1 m2 m3 m4 ((ak,(vb,V))::j5 E ak) ss ts ar R) w):St W (kdR eb m1 m2 m3 m4 ((ak,V)::j5 vs ak) ss ts ar (i+1)::R) w:=by
 refine St.mkEx _ (St.mkAnd ⟨?_,?_⟩ (aj4 h))
 ·intro x hx
  rcases List.mem_cons.1 hx with rfl|hx
  ·exact hV
  ·exact(hE x (List.mem_filter.1 hx).1).on
 ·show((ak,V)::k8 (j5 E ak)).Perm _
  rw[<-HB7];exact(EY7 hp ak).cons _
theorem bm4(h:St W (kdR eb m1 m2 m3 m4 vs ss ts ar i::R) w):∃E,H8 E i/\(k8 E).Perm vs/\St W (ecR eb m1 m2 m3 m4 E ss ts ar R) w:=by obtain⟨E,h⟩:=St.ex h;obtain⟨⟨h1,h2⟩,h⟩:=St.and h;exact⟨E,h1,h2,au4 h⟩
end
section
variable{eb m1 m2 m3 m4:Nat}{E:Ev}{i:Nat}{vs:List (ByteArray×Vs)}(cl sq:Int)(ak aw tk tw:ByteArray)(it ct pr:Int)(bu:Bool)(id:Int)(ss:List (Int×(Int×Rpl)))(ts:List ((Int×Int)×Tns))(ar:List ((Int×Int)×Unit))(W w:World)(R:List HP)
theorem fw4(hE:H8 E i)(hp:(k8 E).Perm vs)(h0:0<=it)(h4:it<4)(c0:1<=ct)(c1:ct<=1048576){r:Int}{q:Ps}(hr:L9 (vAt E ak).ps aw (s9 it ct)=r)(hq:I7 (vAt E ak).ps aw (s9 it ct)=q)(hS:St W (ecK eb m1 m2 m3 m4 E ss ts ar::R) w):
  Calls Tryz.prog 65 #[.P eb,oV 1 cl sq ak aw tk tw it ct pr bu id] w fun e w'=>e=.returned (rV r 0 0 0 0 0)/\St W (kdR eb m1 m2 m3 m4 ((ak,⟨q,(vAt E ak).L,(vAt E ak).n⟩)::j5 vs ak) ss ts ar (i+1)::R) w':=by
 refine(LZ7 hE 1 cl sq ak aw tk tw it ct pr bu id h0 h4 c0 c1 hr hq W w _ (au4 hS)).mono ?_;rintro e w' ⟨vb,h1,rfl,hS⟩;exact⟨rfl,Gd7 hE hp h1 hS⟩
theorem eW4(hE:H8 E i)(hp:(k8 E).Perm vs)(h0:0<=it)(h4:it<4)(c0:1<=ct)(c1:ct<=1048576){r:Int}{q:Ps}(hr:r6 (vAt E ak).ps aw (s9 it ct)=r)(hr0:(r==0)=false)(hq:t8 (vAt E ak).ps aw (s9 it ct)=q)(hS:St W (ecK eb m1 m2 m3 m4 E ss ts ar::R) w):
  Calls Tryz.prog 66 #[.P eb,oV 2 cl sq ak aw tk tw it ct pr bu id] w fun e w'=>e=.returned (rV r 0 0 0 0 0)/\St W (kdR eb m1 m2 m3 m4 ((ak,⟨q,(vAt E ak).L,(vAt E ak).n⟩)::j5 vs ak) ss ts ar (i+1)::R) w':=by
 refine(PL7 hE 2 cl sq ak aw tk tw it ct pr bu id ts h0 h4 c0 c1 hr hr0 hq W w _ ((au4 hS).s (evP eb m1 m2 m3 m4 E::d8 eW eTn m3 ts::d8 eI eSs m2 ss::d8 eW eU m4 ar::R))).mono ?_;rintro e w' ⟨vb,h1,rfl,hS⟩;exact⟨rfl,Gd7 hE hp h1 (hS.s _)⟩
theorem eX4(hE:H8 E i)(hp:(k8 E).Perm vs)(h0:0<=it)(h4:it<4)(c0:1<=ct)(c1:ct<=1048576){q:Ps}(hr:r6 (vAt E ak).ps aw (s9 it ct)=0)(hq:t8 (vAt E ak).ps aw (s9 it ct)=q)(hS:St W (ecK eb m1 m2 m3 m4 E ss ts ar::R) w):
  Calls Tryz.prog 66 #[.P eb,oV 2 cl sq ak aw tk tw it ct pr bu id] w fun e w'=>e=.returned (rV 0 0 0 0 0 0)/\St W (kdR eb m1 m2 m3 m4 ((ak,⟨q,(vAt E ak).L,(vAt E ak).n⟩)::j5 vs ak) ss (((cl,sq),⟨cl,sq,ak,aw,tk,tw,it,ct⟩)::j5 ts (cl,sq)) ar (i+1)::R) w':=by
 refine(NZ7 hE 2 cl sq ak aw tk tw it ct pr bu id ts h0 h4 c0 c1 hr hq W w _ ((au4 hS).s (evP eb m1 m2 m3 m4 E::d8 eW eTn m3 ts::d8 eI eSs m2 ss::d8 eW eU m4 ar::R))).mono ?_;rintro e w' ⟨vb,h1,rfl,hS⟩;exact⟨rfl,Gd7 hE hp h1 (hS.s _)⟩
theorem fx4(hE:H8 E i)(hp:(k8 E).Perm vs){r1 r2:Int}{V2:Vs}(h1:(B5 (vAt E ak) ⟨0,aw,bu,it,ct,pr⟩).1=r1)(h2:(B5 (vAt E ak) ⟨0,aw,bu,it,ct,pr⟩).2.1=r2)(h3:(B5 (vAt E ak) ⟨0,aw,bu,it,ct,pr⟩).2.2=V2)(hS:St W (ecK eb m1 m2 m3 m4 E ss ts ar::R) w):
  Calls Tryz.prog 67 #[.P eb,oV 3 cl sq ak aw tk tw it ct pr bu id] w fun e w'=>e=.returned (rV r2 r1 0 0 0 0)/\St W (kdR eb m1 m2 m3 m4 ((ak,V2)::j5 vs ak) ss ts ar (i+1)::R) w':=by
 refine(KB7 hE 3 cl sq ak aw tk tw it ct pr bu id h1 h2 h3 W w _ (au4 hS)).mono ?_;rintro e w' ⟨vb,h1,rfl,hS⟩;exact⟨rfl,Gd7 hE hp h1 hS⟩
theorem fy4(hE:H8 E i)(hp:(k8 E).Perm vs){r:Int}{V2:Vs}(h1:(B9 (vAt E ak) aw id).1=r)(h2:(B9 (vAt E ak) aw id).2=V2)(hS:St W (ecK eb m1 m2 m3 m4 E ss ts ar::R) w):
  Calls Tryz.prog 68 #[.P eb,oV 4 cl sq ak aw tk tw it ct pr bu id] w fun e w'=>e=.returned (rV r 0 0 0 0 0)/\St W (kdR eb m1 m2 m3 m4 ((ak,V2)::j5 vs ak) ss ts ar (i+1)::R) w':=by
 refine(HI7 hE 4 cl sq ak aw tk tw it ct pr bu id h1 h2 W w _ (au4 hS)).mono ?_;rintro e w' ⟨vb,h1,rfl,hS⟩;exact⟨rfl,Gd7 hE hp h1 hS⟩
theorem fz4(hE:H8 E i)(hp:(k8 E).Perm vs){x0 x1 x2 x3:Int}(hx:j9 (vAt E ak).ps aw=⟨x0,x1,x2,x3⟩)(hS:St W (ecK eb m1 m2 m3 m4 E ss ts ar::R) w):
  Calls Tryz.prog 69 #[.P eb,oV 5 cl sq ak aw tk tw it ct pr bu id] w fun e w'=>e=.returned (rV 0 0 x0 x1 x2 x3)/\St W (kdR eb m1 m2 m3 m4 vs ss ts ar (i+1)::R) w':=by
 refine(Mb7 5 cl sq ak aw tk tw it ct pr bu id hx W w _ (au4 hS)).mono ?_;rintro e w' ⟨rfl,hS⟩;exact⟨rfl,Mf7 hE hp hS⟩
theorem fA4(hE:H8 E i)(hp:(k8 E).Perm vs)(h0:0<=it)(h4:it<4)(c0:1<=ct)(c1:ct<=1048576){q:Ps}(hq:I7 (vAt E ak).ps aw (s9 it ct)=q)(hS:St W (ecK eb m1 m2 m3 m4 E ss ts ar::R) w):
  Calls Tryz.prog 70 #[.P eb,oV 6 cl sq ak aw tk tw it ct pr bu id] w fun e w'=>e=.returned (rV 0 0 0 0 0 0)/\St W (kdR eb m1 m2 m3 m4 ((ak,⟨q,(vAt E ak).L,(vAt E ak).n⟩)::j5 vs ak) ss ts (((cl,sq),())::j5 ar (cl,sq)) (i+1)::R) w':=by
 refine(IF7 hE 6 cl sq ak aw tk tw it ct pr bu id ar h0 h4 c0 c1 hq W w _ ((au4 hS).s (evP eb m1 m2 m3 m4 E::d8 eW eU m4 ar::d8 eI eSs m2 ss::d8 eW eTn m3 ts::R))).mono ?_;rintro e w' ⟨vb,h1,rfl,hS⟩;exact⟨rfl,Gd7 hE hp h1 (hS.s _)⟩
theorem fB4(hE:H8 E i)(hp:(k8 E).Perm vs)(hS:St W (ecK eb m1 m2 m3 m4 E ss ts ar::R) w):
  Calls Tryz.prog 71 #[.P eb,oV 7 cl sq ak aw tk tw it ct pr bu id] w fun e w'=>e=.returned (rV 0 0 0 0 0 0)/\St W (kdR eb m1 m2 m3 m4 vs ss (j5 ts (cl,sq)) ar (i+1)::R) w':=by
 refine(Ma7 7 cl sq ak aw tk tw it ct pr bu id ts W w _ ((au4 hS).s (evP eb m1 m2 m3 m4 E::d8 eW eTn m3 ts::d8 eI eSs m2 ss::d8 eW eU m4 ar::R))).mono ?_;rintro e w' ⟨rfl,hS⟩;exact⟨rfl,Mf7 hE hp (hS.s _)⟩
end
end Go.Proofs.YtienbkdjkjbelaaGreat
end
