/-
  What a request leaves of the vaults; each kind's function told alike. For every economy.
-/
import Derived.Test.YtlmhakmoioogaaaGreatEconPlaysM5
import Derived.Test.YtlmhakmoioogaaaGreatEconPlaysM34
set_option maxHeartbeats 16000000
set_option maxRecDepth 100000
set_option linter.unusedSimpArgs false
set_option linter.unusedVariables false
section
namespace Go.Sl
open Go.RowKit
section
variable{P:Program}{W:World}{ops:Array Oper}{t:List Nat}{toks:List Tok}{fresh:Nat→Bool}{pin:Nat→Option Value}{Qf:Act→Prop}{nd:Nat→Value}{i:Nat}{o:Oper}{l:List Oper}{a:Act}
theorem BZ7{x:Operand}{f:FuncId}{xs:Array Operand}{ats:Array TypeId}{args:Array Value}{v:Value}(hf:fresh i=false)(hp:pin i=some v)(hg:Region.wanted o (yielded ops a.tmps)=true)
  (ho:o.op=.call { callee:=.value x,args:=xs,argTypes:=ats }) (hx0:a.eval x=.func (.func f) #[] #[]) (hb:hasBody P f=true) (hx:xs.map a.eval=args)
  (hs:∀F w,St W (cnL toks t i nd++(kpL toks t i nd++F)) w→Calls P f args w fun e w'=>e=.returned v∧St W (mdL toks i nd++(kpL toks t i nd++F)) w')
  (h:Chain P W ops t toks fresh pin Qf nd (i+1) l (a.put o.dst v)):Chain P W ops t toks fresh pin Qf nd i (o::l) a:=
 JK7 hf hp hg (fun w=>Bc7 w ho hx0 hb hx) hs h
end
end Go.Sl
namespace Go.Proofs.YtlmhakmoioogaaaGreat
open Go.RowKit Go.Sl
def tidV(vs:List (ByteArray×Vs))(k:ByteArray):List (ByteArray×Vs):=match getL vs k with
 | none=>vs
 | some V=>if noneV V=true then delL vs k else vs
theorem Bs7{E:Ev}{vs:List (ByteArray×Vs)}(hn:(E.map (·.1)).Nodup)(hp:(stripE E).Perm vs)(k:ByteArray):(stripE (tidE E k)).Perm (tidV vs k):=by
 have hg:getL vs k=(getL E k).map (·.2):=by
  rw[←AA7 (by rw[Bk7];exact hn) hp k,Ic7]
 unfold tidE tidV
 rw[hg]
 cases getL E k with
 | none=>exact hp
 | some x=>
  show(stripE (if noneV x.2=true then delL E k else E)).Perm (if noneV x.2=true then delL vs k else vs)
  split
  ·rw[←Ib7]
   exact Fl7 hp k
  ·exact hp
theorem ED7{E:Ev}{i:Nat}(h:EvOk E i)(k:ByteArray):EvOk (tidE E k) i:=by
 unfold tidE
 split
 ·exact h
 ·split
  ·exact fun x hx=>h x (List.mem_filter.1 hx).1
  ·exact h
theorem MQ7{ν:Type}(l:List (ByteArray×ν))(k:ByteArray):delL (delL l k) k=delL l k:=BG7 fun x hx=>by
 have:=(List.mem_filter.1 hx).2
 simpa using this
theorem Os7(e:Ec)(k:ByteArray)(V:Vs):tidV ((k,V)::delL e.vs k) k=(setV e k V).vs:=by
 have hg:getL ((k,V)::delL e.vs k) k=some V:=by rw[DO7,if_pos rfl]
 unfold tidV setV
 rw[hg]
 show(if noneV V=true then delL ((k,V)::delL e.vs k) k else(k,V)::delL e.vs k)=if noneV V=true then delL e.vs k else(k,V)::delL e.vs k
 have e1:delL ((k,V)::delL e.vs k) k=delL (delL e.vs k) k:=by
  conv=>lhs;unfold delL
  rw[List.filter_cons,if_neg (by simp)]
  rfl
 rw[e1,MQ7]
theorem MR7(e:Ec)(k:ByteArray)(hn:(e.vs.map (·.1)).Nodup):(tidV e.vs k).Perm (setV e k (atV e k)).vs:=by
 unfold tidV setV atV
 cases hg:getL e.vs k with
 | none=>
  show e.vs.Perm (if noneV vs0=true then delL e.vs k else(k,vs0)::delL e.vs k)
  rw[if_pos (by rfl),BG7 (BH7 hg)]
 | some V=>
  show(if noneV V=true then delL e.vs k else e.vs).Perm (if noneV V=true then delL e.vs k else(k,V)::delL e.vs k)
  split
  ·exact List.Perm.refl _
  ·exact Bl7 hn hg
def ecK(eb m1 m2 m3 m4:Nat)(E:Ev)(ss:List (Int×(Int×Rpl)))(ts:List ((Int×Int)×Tns))(ar:List ((Int×Int)×Unit)):HP:=sats (ecR eb m1 m2 m3 m4 E ss ts ar [])
def kdR(eb m1 m2 m3 m4:Nat)(vs:List (ByteArray×Vs))(ss:List (Int×(Int×Rpl)))(ts:List ((Int×Int)×Tns))(ar:List ((Int×Int)×Unit))(i:Nat):HP:=fun f=>∃E,(EvOk E i∧(stripE E).Perm vs)∧ecK eb m1 m2 m3 m4 E ss ts ar f
section
variable{W w:World}{R:List HP}{eb m1 m2 m3 m4:Nat}{E:Ev}{i:Nat}{vs:List (ByteArray×Vs)}{ss:List (Int×(Int×Rpl))}{ts:List ((Int×Int)×Tns)}{ar:List ((Int×Int)×Unit)}{ak:ByteArray}{V:Vs}{vb:Nat}
theorem ecKOpen(h:St W (ecK eb m1 m2 m3 m4 E ss ts ar::R) w):St W (ecR eb m1 m2 m3 m4 E ss ts ar R) w:=h.openS
theorem ecKShut(h:St W (ecR eb m1 m2 m3 m4 E ss ts ar R) w):St W (ecK eb m1 m2 m3 m4 E ss ts ar::R) w:=St.shutS [_,_,_,_] h
theorem Qd7(h:EvOk E i):EvOk E (i+1):=fun x hx=>(h x hx).on
theorem MS7(hE:EvOk E i)(hp:(stripE E).Perm vs)(h:St W (ecR eb m1 m2 m3 m4 E ss ts ar R) w):St W (kdR eb m1 m2 m3 m4 vs ss ts ar (i+1)::R) w:=St.mkEx E (St.mkAnd ⟨Qd7 hE,hp⟩ (ecKShut h))
theorem Gs7(hE:EvOk E i)(hp:(stripE E).Perm vs)(hV:VOk V.ps V.n (i+1))(h:St W (ecR eb m1 m2 m3 m4 ((ak,(vb,V))::delL E ak) ss ts ar R) w):St W (kdR eb m1 m2 m3 m4 ((ak,V)::delL vs ak) ss ts ar (i+1)::R) w:=by
 refine St.mkEx _ (St.mkAnd ⟨?_,?_⟩ (ecKShut h))
 ·intro x hx
  rcases List.mem_cons.1 hx with rfl|hx
  ·exact hV
  ·exact(hE x (List.mem_filter.1 hx).1).on
 ·show((ak,V)::stripE (delL E ak)).Perm _
  rw[←Ib7]
  exact(Fl7 hp ak).cons _
theorem kdOpen(h:St W (kdR eb m1 m2 m3 m4 vs ss ts ar i::R) w):∃E,EvOk E i∧(stripE E).Perm vs∧St W (ecR eb m1 m2 m3 m4 E ss ts ar R) w:=by
 obtain⟨E,h⟩:=St.ex h
 obtain⟨⟨h1,h2⟩,h⟩:=St.and h
 exact⟨E,h1,h2,ecKOpen h⟩
end
section
variable{eb m1 m2 m3 m4:Nat}{E:Ev}{i:Nat}{vs:List (ByteArray×Vs)}(cl sq:Int)(ak aw tk tw:ByteArray)(it ct pr:Int)(bu:Bool)(id:Int)(ss:List (Int×(Int×Rpl)))(ts:List ((Int×Int)×Tns))(ar:List ((Int×Int)×Unit))(W w:World)(R:List HP)
theorem kind1(hE:EvOk E i)(hp:(stripE E).Perm vs)(h0:0≤it)(h4:it<4)(c0:1≤ct)(c1:ct≤1048576){r:Int}{q:Ps}(hr:putE (vAt E ak).ps aw (oneI it ct)=r)(hq:putP (vAt E ak).ps aw (oneI it ct)=q)(hS:St W (ecK eb m1 m2 m3 m4 E ss ts ar::R) w):
  Calls Tryz.prog 36 #[.pointer (some ⟨eb,0,none⟩),oV 1 cl sq ak aw tk tw it ct pr bu id] w fun e w'=>e=.returned (rV r 0 0 0 0 0)∧St W (kdR eb m1 m2 m3 m4 ((ak,⟨q,(vAt E ak).L,(vAt E ak).n⟩)::delL vs ak) ss ts ar (i+1)::R) w':=by
 refine(MM7 hE 1 cl sq ak aw tk tw it ct pr bu id h0 h4 c0 c1 hr hq W w _ (ecKOpen hS)).mono ?_
 rintro e w' ⟨vb,h1,rfl,hS⟩
 exact⟨rfl,Gs7 hE hp h1 hS⟩
theorem kind2n(hE:EvOk E i)(hp:(stripE E).Perm vs)(h0:0≤it)(h4:it<4)(c0:1≤ct)(c1:ct≤1048576){r:Int}{q:Ps}(hr:takeE (vAt E ak).ps aw (oneI it ct)=r)(hr0:(r==0)=false)(hq:takeP (vAt E ak).ps aw (oneI it ct)=q)(hS:St W (ecK eb m1 m2 m3 m4 E ss ts ar::R) w):
  Calls Tryz.prog 37 #[.pointer (some ⟨eb,0,none⟩),oV 2 cl sq ak aw tk tw it ct pr bu id] w fun e w'=>e=.returned (rV r 0 0 0 0 0)∧St W (kdR eb m1 m2 m3 m4 ((ak,⟨q,(vAt E ak).L,(vAt E ak).n⟩)::delL vs ak) ss ts ar (i+1)::R) w':=by
 refine(Qb7 hE 2 cl sq ak aw tk tw it ct pr bu id ts h0 h4 c0 c1 hr hr0 hq W w _ ((ecKOpen hS).s (evP eb m1 m2 m3 m4 E::amap eW eTn m3 ts::amap eI eSs m2 ss::amap eW eU m4 ar::R))).mono ?_
 rintro e w' ⟨vb,h1,rfl,hS⟩
 exact⟨rfl,Gs7 hE hp h1 (hS.s _)⟩
theorem kind2y(hE:EvOk E i)(hp:(stripE E).Perm vs)(h0:0≤it)(h4:it<4)(c0:1≤ct)(c1:ct≤1048576){q:Ps}(hr:takeE (vAt E ak).ps aw (oneI it ct)=0)(hq:takeP (vAt E ak).ps aw (oneI it ct)=q)(hS:St W (ecK eb m1 m2 m3 m4 E ss ts ar::R) w):
  Calls Tryz.prog 37 #[.pointer (some ⟨eb,0,none⟩),oV 2 cl sq ak aw tk tw it ct pr bu id] w fun e w'=>e=.returned (rV 0 0 0 0 0 0)∧St W (kdR eb m1 m2 m3 m4 ((ak,⟨q,(vAt E ak).L,(vAt E ak).n⟩)::delL vs ak) ss (((cl,sq),⟨cl,sq,ak,aw,tk,tw,it,ct⟩)::delL ts (cl,sq)) ar (i+1)::R) w':=by
 refine(Oq7 hE 2 cl sq ak aw tk tw it ct pr bu id ts h0 h4 c0 c1 hr hq W w _ ((ecKOpen hS).s (evP eb m1 m2 m3 m4 E::amap eW eTn m3 ts::amap eI eSs m2 ss::amap eW eU m4 ar::R))).mono ?_
 rintro e w' ⟨vb,h1,rfl,hS⟩
 exact⟨rfl,Gs7 hE hp h1 (hS.s _)⟩
theorem kind3(hE:EvOk E i)(hp:(stripE E).Perm vs){r1 r2:Int}{V2:Vs}(h1:(ordV (vAt E ak) ⟨0,aw,bu,it,ct,pr⟩).1=r1)(h2:(ordV (vAt E ak) ⟨0,aw,bu,it,ct,pr⟩).2.1=r2)(h3:(ordV (vAt E ak) ⟨0,aw,bu,it,ct,pr⟩).2.2=V2)(hS:St W (ecK eb m1 m2 m3 m4 E ss ts ar::R) w):
  Calls Tryz.prog 38 #[.pointer (some ⟨eb,0,none⟩),oV 3 cl sq ak aw tk tw it ct pr bu id] w fun e w'=>e=.returned (rV r2 r1 0 0 0 0)∧St W (kdR eb m1 m2 m3 m4 ((ak,V2)::delL vs ak) ss ts ar (i+1)::R) w':=by
 refine(Lg7 hE 3 cl sq ak aw tk tw it ct pr bu id h1 h2 h3 W w _ (ecKOpen hS)).mono ?_
 rintro e w' ⟨vb,h1,rfl,hS⟩
 exact⟨rfl,Gs7 hE hp h1 hS⟩
theorem kind4(hE:EvOk E i)(hp:(stripE E).Perm vs){r:Int}{V2:Vs}(h1:(canV (vAt E ak) aw id).1=r)(h2:(canV (vAt E ak) aw id).2=V2)(hS:St W (ecK eb m1 m2 m3 m4 E ss ts ar::R) w):
  Calls Tryz.prog 39 #[.pointer (some ⟨eb,0,none⟩),oV 4 cl sq ak aw tk tw it ct pr bu id] w fun e w'=>e=.returned (rV r 0 0 0 0 0)∧St W (kdR eb m1 m2 m3 m4 ((ak,V2)::delL vs ak) ss ts ar (i+1)::R) w':=by
 refine(Ij7 hE 4 cl sq ak aw tk tw it ct pr bu id h1 h2 W w _ (ecKOpen hS)).mono ?_
 rintro e w' ⟨vb,h1,rfl,hS⟩
 exact⟨rfl,Gs7 hE hp h1 hS⟩
theorem kind5(hE:EvOk E i)(hp:(stripE E).Perm vs){x0 x1 x2 x3:Int}(hx:purseA (vAt E ak).ps aw=⟨x0,x1,x2,x3⟩)(hS:St W (ecK eb m1 m2 m3 m4 E ss ts ar::R) w):
  Calls Tryz.prog 40 #[.pointer (some ⟨eb,0,none⟩),oV 5 cl sq ak aw tk tw it ct pr bu id] w fun e w'=>e=.returned (rV 0 0 x0 x1 x2 x3)∧St W (kdR eb m1 m2 m3 m4 vs ss ts ar (i+1)::R) w':=by
 refine(MO7 5 cl sq ak aw tk tw it ct pr bu id hx W w _ (ecKOpen hS)).mono ?_
 rintro e w' ⟨rfl,hS⟩
 exact⟨rfl,MS7 hE hp hS⟩
theorem kind6(hE:EvOk E i)(hp:(stripE E).Perm vs)(h0:0≤it)(h4:it<4)(c0:1≤ct)(c1:ct≤1048576){q:Ps}(hq:putP (vAt E ak).ps aw (oneI it ct)=q)(hS:St W (ecK eb m1 m2 m3 m4 E ss ts ar::R) w):
  Calls Tryz.prog 41 #[.pointer (some ⟨eb,0,none⟩),oV 6 cl sq ak aw tk tw it ct pr bu id] w fun e w'=>e=.returned (rV 0 0 0 0 0 0)∧St W (kdR eb m1 m2 m3 m4 ((ak,⟨q,(vAt E ak).L,(vAt E ak).n⟩)::delL vs ak) ss ts (((cl,sq),())::delL ar (cl,sq)) (i+1)::R) w':=by
 refine(Jk7 hE 6 cl sq ak aw tk tw it ct pr bu id ar h0 h4 c0 c1 hq W w _ ((ecKOpen hS).s (evP eb m1 m2 m3 m4 E::amap eW eU m4 ar::amap eI eSs m2 ss::amap eW eTn m3 ts::R))).mono ?_
 rintro e w' ⟨vb,h1,rfl,hS⟩
 exact⟨rfl,Gs7 hE hp h1 (hS.s _)⟩
theorem kind7(hE:EvOk E i)(hp:(stripE E).Perm vs)(hS:St W (ecK eb m1 m2 m3 m4 E ss ts ar::R) w):
  Calls Tryz.prog 42 #[.pointer (some ⟨eb,0,none⟩),oV 7 cl sq ak aw tk tw it ct pr bu id] w fun e w'=>e=.returned (rV 0 0 0 0 0 0)∧St W (kdR eb m1 m2 m3 m4 vs ss (delL ts (cl,sq)) ar (i+1)::R) w':=by
 refine(MN7 7 cl sq ak aw tk tw it ct pr bu id ts W w _ ((ecKOpen hS).s (evP eb m1 m2 m3 m4 E::amap eW eTn m3 ts::amap eI eSs m2 ss::amap eW eU m4 ar::R))).mono ?_
 rintro e w' ⟨rfl,hS⟩
 exact⟨rfl,MS7 hE hp (hS.s _)⟩
end
end Go.Proofs.YtlmhakmoioogaaaGreat
end
