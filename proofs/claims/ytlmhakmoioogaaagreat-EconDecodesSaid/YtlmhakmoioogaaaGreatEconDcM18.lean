/-
  What a request leaves of the vaults.
-/
import Derived.Test.YtlmhakmoioogaaaGreatEconDcM4
import Derived.Test.YtlmhakmoioogaaaGreatEconDcM17
set_option maxHeartbeats 16000000
set_option maxRecDepth 100000
set_option linter.unusedSimpArgs false
set_option linter.unusedVariables false
section
namespace Go.Sl
open Go.RowKit
section
variable{P:Program}{W:World}{ops:Array Oper}{t:List Nat}{toks:List Tok}{fresh:Nat->Bool}{pin:Nat->Option Value}{Qf:Act->Prop}{nd:Nat->Value}{i:Nat}{o:Oper}{l:List Oper}{a:Act}
theorem Cy7{x:Operand}{f:FuncId}{xs:Array Operand}{ats:Array TypeId}{args:Array Value}{v:Value}(hf:fresh i=false)(hp:pin i=some v)(hg:Region.wanted o (yielded ops a.tmps)=true)
  (ho:o.op=.call { callee:=.value x,args:=xs,argTypes:=ats }) (hx0:a.eval x=.func (.func f) #[] #[]) (hb:T6 P f=true) (hx:xs.map a.eval=args)
  (hs:∀F w,St W (cnL toks t i nd++(kpL toks t i nd++F)) w->Calls P f args w fun e w'=>e=.returned v/\St W (mdL toks i nd++(kpL toks t i nd++F)) w')
  (h:p8 P W ops t toks fresh pin Qf nd (i+1) l (a.put o.dst v)):p8 P W ops t toks fresh pin Qf nd i (o::l) a:=
 Ll7 hf hp hg (fun w=>Bz7 w ho hx0 hb hx) hs h
end
end Go.Sl
namespace Go.Proofs.YtlmhakmoioogaaaGreat
open Go.RowKit Go.Sl
def bC4(vs:List (ByteArray×Vs))(k:ByteArray):List (ByteArray×Vs):=match p9 vs k with
 | none=>vs
 | some V=>if G9 V=true then l8 vs k else vs
theorem BQ7{E:Ev}{vs:List (ByteArray×Vs)}(hn:(E.map (·.1)).Nodup)(hp:(m8 E).Perm vs)(k:ByteArray):(m8 (cl4 E k)).Perm (bC4 vs k):=by
 have hg:p9 vs k=(p9 E k).map (·.2):=by rw[<-CM7 (by rw[Cg7];exact hn) hp k,Jw7]
 unfold cl4 bC4;rw[hg]
 cases p9 E k with
 | none=>exact hp
 | some x=>
  show(m8 (if G9 x.2=true then l8 E k else E)).Perm (if G9 x.2=true then l8 vs k else vs)
  split
  ·rw[<-GK7];exact Gq7 hp k
  ·exact hp
theorem FF7{E:Ev}{i:Nat}(h:L5 E i)(k:ByteArray):L5 (cl4 E k) i:=by
 unfold cl4;split
 ·exact h
 ·split
  ·exact fun x hx=>h x (List.mem_filter.1 hx).1
  ·exact h
theorem Ok7{ν:Type}(l:List (ByteArray×ν))(k:ByteArray):l8 (l8 l k) k=l8 l k:=Ec7 fun x hx=>by have:=(List.mem_filter.1 hx).2;simpa using this
theorem Qj7(e:Ec)(k:ByteArray)(V:Vs):bC4 ((k,V)::l8 e.vs k) k=(cu4 e k V).vs:=by
 have hg:p9 ((k,V)::l8 e.vs k) k=some V:=by rw[Od7,if_pos rfl]
 unfold bC4 cu4;rw[hg];show(if G9 V=true then l8 ((k,V)::l8 e.vs k) k else(k,V)::l8 e.vs k)=if G9 V=true then l8 e.vs k else(k,V)::l8 e.vs k
 have e1:l8 ((k,V)::l8 e.vs k) k=l8 (l8 e.vs k) k:=by
  conv=>lhs;unfold l8
  rw[List.filter_cons,if_neg (by simp)];rfl
 rw[e1,Ok7]
theorem Ol7(e:Ec)(k:ByteArray)(hn:(e.vs.map (·.1)).Nodup):(bC4 e.vs k).Perm (cu4 e k (atV e k)).vs:=by
 unfold bC4 cu4 atV
 cases hg:p9 e.vs k with
 | none=>
  show e.vs.Perm (if G9 vs0=true then l8 e.vs k else(k,vs0)::l8 e.vs k)
  rw[if_pos (by rfl),Ec7 (Eq7 hg)]
 | some V=>
  show(if G9 V=true then l8 e.vs k else e.vs).Perm (if G9 V=true then l8 e.vs k else(k,V)::l8 e.vs k)
  split
  ·exact List.Perm.refl _
  ·exact CX7 hn hg
def ecK(eb m1 m2 m3 m4:Nat)(E:Ev)(ss:List (Int×(Int×Rpl)))(ts:List ((Int×Int)×Tns))(ar:List ((Int×Int)×Unit)):HP:=sats (ecR eb m1 m2 m3 m4 E ss ts ar [])
def kdR(eb m1 m2 m3 m4:Nat)(vs:List (ByteArray×Vs))(ss:List (Int×(Int×Rpl)))(ts:List ((Int×Int)×Tns))(ar:List ((Int×Int)×Unit))(i:Nat):HP:=fun f=>∃E,(L5 E i/\(m8 E).Perm vs)/\ecK eb m1 m2 m3 m4 E ss ts ar f
section
variable{W w:World}{R:List HP}{eb m1 m2 m3 m4:Nat}{E:Ev}{i:Nat}{vs:List (ByteArray×Vs)}{ss:List (Int×(Int×Rpl))}{ts:List ((Int×Int)×Tns)}{ar:List ((Int×Int)×Unit)}{ak:ByteArray}{V:Vs}{vb:Nat}
theorem aN4(h:St W (ecK eb m1 m2 m3 m4 E ss ts ar::R) w):St W (ecR eb m1 m2 m3 m4 E ss ts ar R) w:=h.openS
theorem aA4(h:St W (ecR eb m1 m2 m3 m4 E ss ts ar R) w):St W (ecK eb m1 m2 m3 m4 E ss ts ar::R) w:=St.shutS [_,_,_,_] h
theorem Sh7(h:L5 E i):L5 E (i+1):=fun x hx=>(h x hx).on
theorem Om7(hE:L5 E i)(hp:(m8 E).Perm vs)(h:St W (ecR eb m1 m2 m3 m4 E ss ts ar R) w):St W (kdR eb m1 m2 m3 m4 vs ss ts ar (i+1)::R) w:=St.mkEx E (St.mkAnd ⟨Sh7 hE,hp⟩ (aA4 h))
theorem HH7(hE:L5 E i)(hp:(m8 E).Perm vs)(hV:VOk V.ps V.n (i+1))(h:St W (ecR eb m1 m2 m3 m4 ((ak,(vb,V))::l8 E ak) ss ts ar R) w):St W (kdR eb m1 m2 m3 m4 ((ak,V)::l8 vs ak) ss ts ar (i+1)::R) w:=by
 refine St.mkEx _ (St.mkAnd ⟨?_,?_⟩ (aA4 h))
 ·intro x hx
  rcases List.mem_cons.1 hx with rfl|hx
  ·exact hV
  ·exact(hE x (List.mem_filter.1 hx).1).on
 ·show((ak,V)::m8 (l8 E ak)).Perm _
  rw[<-GK7];exact(Gq7 hp ak).cons _
theorem by4(h:St W (kdR eb m1 m2 m3 m4 vs ss ts ar i::R) w):∃E,L5 E i/\(m8 E).Perm vs/\St W (ecR eb m1 m2 m3 m4 E ss ts ar R) w:=by obtain⟨E,h⟩:=St.ex h;obtain⟨⟨h1,h2⟩,h⟩:=St.and h;exact⟨E,h1,h2,aN4 h⟩
end
section
variable{eb m1 m2 m3 m4:Nat}{E:Ev}{i:Nat}{vs:List (ByteArray×Vs)}(cl sq:Int)(ak aw tk tw:ByteArray)(it ct pr:Int)(bu:Bool)(id:Int)(ss:List (Int×(Int×Rpl)))(ts:List ((Int×Int)×Tns))(ar:List ((Int×Int)×Unit))(W w:World)(R:List HP)
theorem fz4(hE:L5 E i)(hp:(m8 E).Perm vs)(h0:0<=it)(h4:it<4)(c0:1<=ct)(c1:ct<=1048576){r:Int}{q:Ps}(hr:bA4 (vAt E ak).ps aw (P7 it ct)=r)(hq:aM4 (vAt E ak).ps aw (P7 it ct)=q)(hS:St W (ecK eb m1 m2 m3 m4 E ss ts ar::R) w):
  Calls Tryz.prog 36 #[.P eb,oV 1 cl sq ak aw tk tw it ct pr bu id] w fun e w'=>e=.returned (rV r 0 0 0 0 0)/\St W (kdR eb m1 m2 m3 m4 ((ak,⟨q,(vAt E ak).L,(vAt E ak).n⟩)::l8 vs ak) ss ts ar (i+1)::R) w':=by
 refine(Og7 hE 1 cl sq ak aw tk tw it ct pr bu id h0 h4 c0 c1 hr hq W w _ (aN4 hS)).mono ?_;rintro e w' ⟨vb,h1,rfl,hS⟩;exact⟨rfl,HH7 hE hp h1 hS⟩
theorem fg4(hE:L5 E i)(hp:(m8 E).Perm vs)(h0:0<=it)(h4:it<4)(c0:1<=ct)(c1:ct<=1048576){r:Int}{q:Ps}(hr:J9 (vAt E ak).ps aw (P7 it ct)=r)(hr0:(r==0)=false)(hq:K6 (vAt E ak).ps aw (P7 it ct)=q)(hS:St W (ecK eb m1 m2 m3 m4 E ss ts ar::R) w):
  Calls Tryz.prog 37 #[.P eb,oV 2 cl sq ak aw tk tw it ct pr bu id] w fun e w'=>e=.returned (rV r 0 0 0 0 0)/\St W (kdR eb m1 m2 m3 m4 ((ak,⟨q,(vAt E ak).L,(vAt E ak).n⟩)::l8 vs ak) ss ts ar (i+1)::R) w':=by
 refine(Sf7 hE 2 cl sq ak aw tk tw it ct pr bu id ts h0 h4 c0 c1 hr hr0 hq W w _ ((aN4 hS).s (evP eb m1 m2 m3 m4 E::c8 eW eTn m3 ts::c8 eI eSs m2 ss::c8 eW eU m4 ar::R))).mono ?_;rintro e w' ⟨vb,h1,rfl,hS⟩;exact⟨rfl,HH7 hE hp h1 (hS.s _)⟩
theorem fh4(hE:L5 E i)(hp:(m8 E).Perm vs)(h0:0<=it)(h4:it<4)(c0:1<=ct)(c1:ct<=1048576){q:Ps}(hr:J9 (vAt E ak).ps aw (P7 it ct)=0)(hq:K6 (vAt E ak).ps aw (P7 it ct)=q)(hS:St W (ecK eb m1 m2 m3 m4 E ss ts ar::R) w):
  Calls Tryz.prog 37 #[.P eb,oV 2 cl sq ak aw tk tw it ct pr bu id] w fun e w'=>e=.returned (rV 0 0 0 0 0 0)/\St W (kdR eb m1 m2 m3 m4 ((ak,⟨q,(vAt E ak).L,(vAt E ak).n⟩)::l8 vs ak) ss (((cl,sq),⟨cl,sq,ak,aw,tk,tw,it,ct⟩)::l8 ts (cl,sq)) ar (i+1)::R) w':=by
 refine(Qh7 hE 2 cl sq ak aw tk tw it ct pr bu id ts h0 h4 c0 c1 hr hq W w _ ((aN4 hS).s (evP eb m1 m2 m3 m4 E::c8 eW eTn m3 ts::c8 eI eSs m2 ss::c8 eW eU m4 ar::R))).mono ?_;rintro e w' ⟨vb,h1,rfl,hS⟩;exact⟨rfl,HH7 hE hp h1 (hS.s _)⟩
theorem fA4(hE:L5 E i)(hp:(m8 E).Perm vs){r1 r2:Int}{V2:Vs}(h1:(P6 (vAt E ak) ⟨0,aw,bu,it,ct,pr⟩).1=r1)(h2:(P6 (vAt E ak) ⟨0,aw,bu,it,ct,pr⟩).2.1=r2)(h3:(P6 (vAt E ak) ⟨0,aw,bu,it,ct,pr⟩).2.2=V2)(hS:St W (ecK eb m1 m2 m3 m4 E ss ts ar::R) w):
  Calls Tryz.prog 38 #[.P eb,oV 3 cl sq ak aw tk tw it ct pr bu id] w fun e w'=>e=.returned (rV r2 r1 0 0 0 0)/\St W (kdR eb m1 m2 m3 m4 ((ak,V2)::l8 vs ak) ss ts ar (i+1)::R) w':=by
 refine(MS7 hE 3 cl sq ak aw tk tw it ct pr bu id h1 h2 h3 W w _ (aN4 hS)).mono ?_;rintro e w' ⟨vb,h1,rfl,hS⟩;exact⟨rfl,HH7 hE hp h1 hS⟩
theorem fB4(hE:L5 E i)(hp:(m8 E).Perm vs){r:Int}{V2:Vs}(h1:(P9 (vAt E ak) aw id).1=r)(h2:(P9 (vAt E ak) aw id).2=V2)(hS:St W (ecK eb m1 m2 m3 m4 E ss ts ar::R) w):
  Calls Tryz.prog 39 #[.P eb,oV 4 cl sq ak aw tk tw it ct pr bu id] w fun e w'=>e=.returned (rV r 0 0 0 0 0)/\St W (kdR eb m1 m2 m3 m4 ((ak,V2)::l8 vs ak) ss ts ar (i+1)::R) w':=by
 refine(JB7 hE 4 cl sq ak aw tk tw it ct pr bu id h1 h2 W w _ (aN4 hS)).mono ?_;rintro e w' ⟨vb,h1,rfl,hS⟩;exact⟨rfl,HH7 hE hp h1 hS⟩
theorem fC4(hE:L5 E i)(hp:(m8 E).Perm vs){x0 x1 x2 x3:Int}(hx:r6 (vAt E ak).ps aw=⟨x0,x1,x2,x3⟩)(hS:St W (ecK eb m1 m2 m3 m4 E ss ts ar::R) w):
  Calls Tryz.prog 40 #[.P eb,oV 5 cl sq ak aw tk tw it ct pr bu id] w fun e w'=>e=.returned (rV 0 0 x0 x1 x2 x3)/\St W (kdR eb m1 m2 m3 m4 vs ss ts ar (i+1)::R) w':=by
 refine(Oi7 5 cl sq ak aw tk tw it ct pr bu id hx W w _ (aN4 hS)).mono ?_;rintro e w' ⟨rfl,hS⟩;exact⟨rfl,Om7 hE hp hS⟩
theorem fD4(hE:L5 E i)(hp:(m8 E).Perm vs)(h0:0<=it)(h4:it<4)(c0:1<=ct)(c1:ct<=1048576){q:Ps}(hq:aM4 (vAt E ak).ps aw (P7 it ct)=q)(hS:St W (ecK eb m1 m2 m3 m4 E ss ts ar::R) w):
  Calls Tryz.prog 41 #[.P eb,oV 6 cl sq ak aw tk tw it ct pr bu id] w fun e w'=>e=.returned (rV 0 0 0 0 0 0)/\St W (kdR eb m1 m2 m3 m4 ((ak,⟨q,(vAt E ak).L,(vAt E ak).n⟩)::l8 vs ak) ss ts (((cl,sq),())::l8 ar (cl,sq)) (i+1)::R) w':=by
 refine(KA7 hE 6 cl sq ak aw tk tw it ct pr bu id ar h0 h4 c0 c1 hq W w _ ((aN4 hS).s (evP eb m1 m2 m3 m4 E::c8 eW eU m4 ar::c8 eI eSs m2 ss::c8 eW eTn m3 ts::R))).mono ?_;rintro e w' ⟨vb,h1,rfl,hS⟩;exact⟨rfl,HH7 hE hp h1 (hS.s _)⟩
theorem fE4(hE:L5 E i)(hp:(m8 E).Perm vs)(hS:St W (ecK eb m1 m2 m3 m4 E ss ts ar::R) w):
  Calls Tryz.prog 42 #[.P eb,oV 7 cl sq ak aw tk tw it ct pr bu id] w fun e w'=>e=.returned (rV 0 0 0 0 0 0)/\St W (kdR eb m1 m2 m3 m4 vs ss (l8 ts (cl,sq)) ar (i+1)::R) w':=by
 refine(Oh7 7 cl sq ak aw tk tw it ct pr bu id ts W w _ ((aN4 hS).s (evP eb m1 m2 m3 m4 E::c8 eW eTn m3 ts::c8 eI eSs m2 ss::c8 eW eU m4 ar::R))).mono ?_;rintro e w' ⟨rfl,hS⟩;exact⟨rfl,Om7 hE hp (hS.s _)⟩
end
section
variable{eb m1 m2 m3 m4:Nat}{E:Ev}{i:Nat}{vs:List (ByteArray×Vs)}(kd cl sq:Int)(ak aw tk tw:ByteArray)(it ct pr:Int)(bu:Bool)(id:Int)(ss:List (Int×(Int×Rpl)))(ts:List ((Int×Int)×Tns))(ar:List ((Int×Int)×Unit))(W w:World)(R:List HP)
theorem Si7{r:Rpl}(hpk:au4 ⟨vs,ss,ts,ar⟩ ⟨kd,cl,sq,ak,aw,tk,tw,it,ct,pr,bu,id⟩=(r,true))(hS:St W (ecR eb m1 m2 m3 m4 E ss ts ar R) w):
  Calls Tryz.prog 16 #[.P eb,oV kd cl sq ak aw tk tw it ct pr bu id] w fun e w'=>e=.returned (.tuple #[rV r.err r.id r.has.x0 r.has.x1 r.has.x2 r.has.x3,.bool false])/\St W (ecR eb m1 m2 m3 m4 E ss ts ar R) w':=by
 obtain⟨e0,e1,⟨y0,y1,y2,y3⟩⟩:=r;go_enter Tryz.func16,Tryz.ntmps16;go_wp2_with(first|refine zbx hS ?_;clear hS;intro bO w hS|(fail_if_success (have:=g1));(refine zal hS ?_;clear hS;have g1:Nat:=0;intro bR w hS)|(have:=g1);(fail_if_success (have:=g2));(refine zal hS ?_;clear hS;have g2:Nat:=0;intro b6 w hS)|refine zlN hS ?_|refine zsN hS ?_;clear hS;intro w hS|go_at_call 33;refine(BB7 hpk W _ _ (hS.s (ecR eb m1 m2 m3 m4 E ss ts ar (blk bR _ _::blk bO _ _::R)))).mono ?_;clear hS;rintro e w ⟨rfl,hS⟩);apply Ab7;rfl;rfl;rfl;rfl;exact hS;decide +kernel;(exact x9);kernel_rfl;exact⟨rfl,hS.s _⟩
end
section
variable{eb m1 m2 m3 m4:Nat}{E:Ev}{i:Nat}{vs:List (ByteArray×Vs)}(cl sq:Int)(ak aw tk tw:ByteArray)(it ct pr:Int)(bu:Bool)(id:Int)(ss:List (Int×(Int×Rpl)))(ts:List ((Int×Int)×Tns))(ar:List ((Int×Int)×Unit))(W w:World)(R:List HP)
abbrev tB17a:List Nat:=[0,1,3,7,0,0,63,0,255]
theorem gk4(hpk:au4 ⟨vs,ss,ts,ar⟩ ⟨1,cl,sq,ak,aw,tk,tw,it,ct,pr,bu,id⟩=(rp0,false))(hE:L5 E i)(hi:i<=1000000)(hp:(m8 E).Perm vs)(h0:0<=it)(h4:it<4)(c0:1<=ct)(c1:ct<=1048576){r:Int}{q:Ps}(hr:bA4 (vAt E ak).ps aw (P7 it ct)=r)(hq:aM4 (vAt E ak).ps aw (P7 it ct)=q)(hS:St W (ecR eb m1 m2 m3 m4 E ss ts ar R) w):
  Calls Tryz.prog 16 #[.P eb,oV 1 cl sq ak aw tk tw it ct pr bu id] w fun e w'=>∃E',L5 E' (i+1)/\(m8 E').Perm (bC4 ((ak,⟨q,(vAt E ak).L,(vAt E ak).n⟩)::l8 vs ak) ak)/\e=.returned (.tuple #[rV r 0 0 0 0 0,.bool true]) /\
   St W (ecR eb m1 m2 m3 m4 E' ((cl,(sq,⟨r,0,⟨0,0,0,0⟩⟩))::l8 ss cl) ts ar R) w':=by
 have hN:100*(i+1)<=1000000000:=by omega
 have Hp:=jH hp;have HE:=jH hE;have Hr:=jH hr;have Hq:=jH hq;clear hp hE hr hq;go_enter Tryz.func16,Tryz.ntmps16;go_wp2_with(first|refine zbx hS ?_;clear hS;intro bO w hS|(fail_if_success (have:=g1));(refine zal hS ?_;clear hS;have g1:Nat:=0;intro bR w hS)|(have:=g1);(fail_if_success (have:=g2));(refine zal hS ?_;clear hS;have g2:Nat:=0;intro b6 w hS)|(have:=g2);refine zal hS ?_;clear hS;intro b8 w hS|refine zlN hS ?_|refine zsN hS ?_;clear hS;intro w hS|go_at_call 33;refine(BB7 hpk W _ _ (hS.s (ecR eb m1 m2 m3 m4 E ss ts ar (blk bR _ _::blk bO _ _::R)))).mono ?_;clear hS;rintro e w ⟨rfl,hS⟩);have hS0:=aA4 (hS.s (ecR eb m1 m2 m3 m4 E ss ts ar (blk bO _ _::blk b8 _ _::blk b6 _ _::blk bR _ _::R)));clear hS
 refine rf3 tB17a (fun i=>i==7) (fun i=>if i==6 then some (rV r 0 0 0 0 0)else none)
  [⟨some 6,none,fun _=>kdR eb m1 m2 m3 m4 ((ak,⟨q,(vAt E ak).L,(vAt E ak).n⟩)::l8 vs ak) ss ts ar (i+1)⟩,⟨some 7,some 8,fun nd=>j6 (nd 7) [.I 0,.I 0,.I 0,.I 0,.I 0,.I 0] 31⟩,⟨some 8,none,fun nd=>j6 (nd 7) [.I r,.I 0,.I 0,.I 0,.I 0,.I 0] 31⟩] [some 6,none,none] hS0 ?_
 clear hS0;intro nd
 repeat(first|refine zc1 ?_|refine zcN ?_|apply Cy7;rfl;rfl;rfl;rfl;rfl;decide +kernel;(focus(simp only[fD,fI,fJ,Act.eval,fE,fF,fG,fH,fK];try rfl));intro F w hS;exact fz4 cl sq ak aw tk tw it ct pr bu id ss ts ar W w _ HE.out Hp.out h0 h4 c0 c1 Hr.out Hq.out hS;refine frS ?_|refine zca ?_|refine zct ?_|refine cR ?_)
 refine Ac7 ?_;intro w hS;have hS2:St W [kdR eb m1 m2 m3 m4 _ _ _ _ _,j6 _ _ _,blk bO _ _,blk b8 _ _,sats (blk b6 _ _::blk bR _ _::R)] w:=hS;clear hS;have hS:=hS2.unpack [_,_,_,_];clear hS2;simp only[jK,jN]at hS;generalize nd 7=v9 at *;obtain⟨E2,hE2,hp2,hS0⟩:=by4 hS;clear hS;have hS:St W (j6 v9 _ _::evP eb m1 m2 m3 m4 E2::c8 eI eSs m2 ss::c8 eW eTn m3 _::c8 eW eU m4 _::blk bO _ _::blk b8 _ _::blk b6 _ _::blk bR _ _::R) w:=hS0.s _;clear hS0;have h1:=hS.ptr;clear hS;obtain⟨b9,rfl,hS⟩:=h1;have hS0:=D9 hS.swap;clear hS;have hS:=hS0;clear hS0;have hnd:(E2.map (·.1)).Nodup:=by rw[<-Bb7];exact F9 hS.drop
 have hp3:=BQ7 hnd hp2 ak;have hok3:=FF7 hE2 ak;have HE2:=jH hE2;have Hp3:=jH hp3;have Hok3:=jH hok3;clear hnd hp2 hp3 hE2 hok3;go_wp2_with(first|refine zl1 hS ?_|go_at_call 43;refine(Bk7 eb m1 m2 m3 m4 E2 ak (fun x hx=>(HE2.out x hx).w) hN W _ _ (hS.s (ebB eb m1 m2 m3 m4::c8 eS eN m1 (i8 E2)::j8 E2::c8 eI eSs m2 ss::c8 eW eTn m3 _::c8 eW eU m4 _::blk b9 _ _::blk b8 _ _::blk b6 _ _::blk bR _ _::blk bO _ _::R))).mono ?_;clear hS;rintro e w ⟨rfl,hS⟩);refine rt 10 hS ?_
 repeat(first|refine zq1 ?_|refine zqN ?_|refine zqn ?_|refine qR ?_)
 clear hS;intro w hS;simp only[jD,List.drop_zero];go_wp2_with(first|((with_reducible apply Ba7 (ek:=eI) (ev:=eSs) (k:=cl) (u:=(sq,(⟨r,0,⟨0,0,0,0⟩⟩:Rpl))) hS);rfl;rfl;rfl;rfl;exact g8;(focus(rfl));exact mS;exact kEi;clear hS;intro w hS;try(refine frS ?_))|refine zlN hS ?_|refine zsN hS ?_;clear hS;intro w hS);apply Ab7;rfl;rfl;rfl;rfl;exact hS;decide +kernel;(exact x9);kernel_rfl;exact⟨_,Hok3.out,Hp3.out,rfl,F7 (hS.s (ebB eb m1 m2 m3 m4::c8 eS eN m1 _::j8 _::c8 eI eSs m2 _::c8 eW eTn m3 _::c8 eW eU m4 _::R))⟩
theorem fF4(hpk:au4 ⟨vs,ss,ts,ar⟩ ⟨2,cl,sq,ak,aw,tk,tw,it,ct,pr,bu,id⟩=(rp0,false))(hE:L5 E i)(hi:i<=1000000)(hp:(m8 E).Perm vs)(h0:0<=it)(h4:it<4)(c0:1<=ct)(c1:ct<=1048576){r:Int}{q:Ps}(hr:J9 (vAt E ak).ps aw (P7 it ct)=r)(hr0:(r==0)=false)(hq:K6 (vAt E ak).ps aw (P7 it ct)=q)(hS:St W (ecR eb m1 m2 m3 m4 E ss ts ar R) w):
  Calls Tryz.prog 16 #[.P eb,oV 2 cl sq ak aw tk tw it ct pr bu id] w fun e w'=>∃E',L5 E' (i+1)/\(m8 E').Perm (bC4 ((ak,⟨q,(vAt E ak).L,(vAt E ak).n⟩)::l8 vs ak) ak)/\e=.returned (.tuple #[rV r 0 0 0 0 0,.bool true]) /\
   St W (ecR eb m1 m2 m3 m4 E' ((cl,(sq,⟨r,0,⟨0,0,0,0⟩⟩))::l8 ss cl) (ts) (ar) R) w':=by
 have hN:100*(i+1)<=1000000000:=by omega
 have Hp:=jH hp;have HE:=jH hE;have Hr:=jH hr;have Hq:=jH hq;clear hp hE hr hq;go_enter Tryz.func16,Tryz.ntmps16;go_wp2_with(first|refine zbx hS ?_;clear hS;intro bO w hS|(fail_if_success (have:=g1));(refine zal hS ?_;clear hS;have g1:Nat:=0;intro bR w hS)|(have:=g1);(fail_if_success (have:=g2));(refine zal hS ?_;clear hS;have g2:Nat:=0;intro b6 w hS)|(have:=g2);refine zal hS ?_;clear hS;intro b8 w hS|refine zlN hS ?_|refine zsN hS ?_;clear hS;intro w hS|go_at_call 33;refine(BB7 hpk W _ _ (hS.s (ecR eb m1 m2 m3 m4 E ss ts ar (blk bR _ _::blk bO _ _::R)))).mono ?_;clear hS;rintro e w ⟨rfl,hS⟩);have hS0:=aA4 (hS.s (ecR eb m1 m2 m3 m4 E ss ts ar (blk bO _ _::blk b8 _ _::blk b6 _ _::blk bR _ _::R)));clear hS
 refine rf3 tB17a (fun i=>i==7) (fun i=>if i==6 then some (rV r 0 0 0 0 0)else none)
  [⟨some 6,none,fun _=>kdR eb m1 m2 m3 m4 ((ak,⟨q,(vAt E ak).L,(vAt E ak).n⟩)::l8 vs ak) ss (ts) (ar) (i+1)⟩,⟨some 7,some 8,fun nd=>j6 (nd 7) [.I 0,.I 0,.I 0,.I 0,.I 0,.I 0] 31⟩,⟨some 8,none,fun nd=>j6 (nd 7) [.I r,.I 0,.I 0,.I 0,.I 0,.I 0] 31⟩] [some 6,none,none] hS0 ?_
 clear hS0;intro nd
 repeat(first|refine zc1 ?_|refine zcN ?_|apply Cy7;rfl;rfl;rfl;rfl;rfl;decide +kernel;(focus(simp only[fD,fI,fJ,Act.eval,fE,fF,fG,fH,fK];try rfl));intro F w hS;exact fg4 cl sq ak aw tk tw it ct pr bu id ss ts ar W w _ HE.out Hp.out h0 h4 c0 c1 Hr.out hr0 Hq.out hS;refine frS ?_|refine zca ?_|refine zct ?_|refine cR ?_)
 refine Ac7 ?_;intro w hS;have hS2:St W [kdR eb m1 m2 m3 m4 _ _ _ _ _,j6 _ _ _,blk bO _ _,blk b8 _ _,sats (blk b6 _ _::blk bR _ _::R)] w:=hS;clear hS;have hS:=hS2.unpack [_,_,_,_];clear hS2;simp only[jK,jN]at hS;generalize nd 7=v9 at *;obtain⟨E2,hE2,hp2,hS0⟩:=by4 hS;clear hS;have hS:St W (j6 v9 _ _::evP eb m1 m2 m3 m4 E2::c8 eI eSs m2 ss::c8 eW eTn m3 _::c8 eW eU m4 _::blk bO _ _::blk b8 _ _::blk b6 _ _::blk bR _ _::R) w:=hS0.s _;clear hS0;have h1:=hS.ptr;clear hS;obtain⟨b9,rfl,hS⟩:=h1;have hS0:=D9 hS.swap;clear hS;have hS:=hS0;clear hS0;have hnd:(E2.map (·.1)).Nodup:=by rw[<-Bb7];exact F9 hS.drop
 have hp3:=BQ7 hnd hp2 ak;have hok3:=FF7 hE2 ak;have HE2:=jH hE2;have Hp3:=jH hp3;have Hok3:=jH hok3;clear hnd hp2 hp3 hE2 hok3;go_wp2_with(first|refine zl1 hS ?_|go_at_call 43;refine(Bk7 eb m1 m2 m3 m4 E2 ak (fun x hx=>(HE2.out x hx).w) hN W _ _ (hS.s (ebB eb m1 m2 m3 m4::c8 eS eN m1 (i8 E2)::j8 E2::c8 eI eSs m2 ss::c8 eW eTn m3 _::c8 eW eU m4 _::blk b9 _ _::blk b8 _ _::blk b6 _ _::blk bR _ _::blk bO _ _::R))).mono ?_;clear hS;rintro e w ⟨rfl,hS⟩);refine rt 10 hS ?_
 repeat(first|refine zq1 ?_|refine zqN ?_|refine zqn ?_|refine qR ?_)
 clear hS;intro w hS;simp only[jD,List.drop_zero];go_wp2_with(first|((with_reducible apply Ba7 (ek:=eI) (ev:=eSs) (k:=cl) (u:=(sq,(⟨r,0,⟨0,0,0,0⟩⟩:Rpl))) hS);rfl;rfl;rfl;rfl;exact g8;(focus(rfl));exact mS;exact kEi;clear hS;intro w hS;try(refine frS ?_))|refine zlN hS ?_|refine zsN hS ?_;clear hS;intro w hS);apply Ab7;rfl;rfl;rfl;rfl;exact hS;decide +kernel;(exact x9);kernel_rfl;exact⟨_,Hok3.out,Hp3.out,rfl,F7 (hS.s (ebB eb m1 m2 m3 m4::c8 eS eN m1 _::j8 _::c8 eI eSs m2 _::c8 eW eTn m3 _::c8 eW eU m4 _::R))⟩
theorem fG4(hpk:au4 ⟨vs,ss,ts,ar⟩ ⟨2,cl,sq,ak,aw,tk,tw,it,ct,pr,bu,id⟩=(rp0,false))(hE:L5 E i)(hi:i<=1000000)(hp:(m8 E).Perm vs)(h0:0<=it)(h4:it<4)(c0:1<=ct)(c1:ct<=1048576){q:Ps}(hr:J9 (vAt E ak).ps aw (P7 it ct)=0)(hq:K6 (vAt E ak).ps aw (P7 it ct)=q)(hS:St W (ecR eb m1 m2 m3 m4 E ss ts ar R) w):
  Calls Tryz.prog 16 #[.P eb,oV 2 cl sq ak aw tk tw it ct pr bu id] w fun e w'=>∃E',L5 E' (i+1)/\(m8 E').Perm (bC4 ((ak,⟨q,(vAt E ak).L,(vAt E ak).n⟩)::l8 vs ak) ak)/\e=.returned (.tuple #[rV 0 0 0 0 0 0,.bool true]) /\
   St W (ecR eb m1 m2 m3 m4 E' ((cl,(sq,⟨0,0,⟨0,0,0,0⟩⟩))::l8 ss cl) (((cl,sq),⟨cl,sq,ak,aw,tk,tw,it,ct⟩)::l8 ts (cl,sq)) (ar) R) w':=by
 have hN:100*(i+1)<=1000000000:=by omega
 have Hp:=jH hp;have HE:=jH hE;have Hr:=jH hr;have Hq:=jH hq;clear hp hE hr hq;go_enter Tryz.func16,Tryz.ntmps16;go_wp2_with(first|refine zbx hS ?_;clear hS;intro bO w hS|(fail_if_success (have:=g1));(refine zal hS ?_;clear hS;have g1:Nat:=0;intro bR w hS)|(have:=g1);(fail_if_success (have:=g2));(refine zal hS ?_;clear hS;have g2:Nat:=0;intro b6 w hS)|(have:=g2);refine zal hS ?_;clear hS;intro b8 w hS|refine zlN hS ?_|refine zsN hS ?_;clear hS;intro w hS|go_at_call 33;refine(BB7 hpk W _ _ (hS.s (ecR eb m1 m2 m3 m4 E ss ts ar (blk bR _ _::blk bO _ _::R)))).mono ?_;clear hS;rintro e w ⟨rfl,hS⟩);have hS0:=aA4 (hS.s (ecR eb m1 m2 m3 m4 E ss ts ar (blk bO _ _::blk b8 _ _::blk b6 _ _::blk bR _ _::R)));clear hS
 refine rf3 tB17a (fun i=>i==7) (fun i=>if i==6 then some (rV 0 0 0 0 0 0)else none)
  [⟨some 6,none,fun _=>kdR eb m1 m2 m3 m4 ((ak,⟨q,(vAt E ak).L,(vAt E ak).n⟩)::l8 vs ak) ss (((cl,sq),⟨cl,sq,ak,aw,tk,tw,it,ct⟩)::l8 ts (cl,sq)) (ar) (i+1)⟩,⟨some 7,some 8,fun nd=>j6 (nd 7) [.I 0,.I 0,.I 0,.I 0,.I 0,.I 0] 31⟩,⟨some 8,none,fun nd=>j6 (nd 7) [.I 0,.I 0,.I 0,.I 0,.I 0,.I 0] 31⟩] [some 6,none,none] hS0 ?_
 clear hS0;intro nd
 repeat(first|refine zc1 ?_|refine zcN ?_|apply Cy7;rfl;rfl;rfl;rfl;rfl;decide +kernel;(focus(simp only[fD,fI,fJ,Act.eval,fE,fF,fG,fH,fK];try rfl));intro F w hS;exact fh4 cl sq ak aw tk tw it ct pr bu id ss ts ar W w _ HE.out Hp.out h0 h4 c0 c1 Hr.out Hq.out hS;refine frS ?_|refine zca ?_|refine zct ?_|refine cR ?_)
 refine Ac7 ?_;intro w hS;have hS2:St W [kdR eb m1 m2 m3 m4 _ _ _ _ _,j6 _ _ _,blk bO _ _,blk b8 _ _,sats (blk b6 _ _::blk bR _ _::R)] w:=hS;clear hS;have hS:=hS2.unpack [_,_,_,_];clear hS2;simp only[jK,jN]at hS;generalize nd 7=v9 at *;obtain⟨E2,hE2,hp2,hS0⟩:=by4 hS;clear hS;have hS:St W (j6 v9 _ _::evP eb m1 m2 m3 m4 E2::c8 eI eSs m2 ss::c8 eW eTn m3 _::c8 eW eU m4 _::blk bO _ _::blk b8 _ _::blk b6 _ _::blk bR _ _::R) w:=hS0.s _;clear hS0;have h1:=hS.ptr;clear hS;obtain⟨b9,rfl,hS⟩:=h1;have hS0:=D9 hS.swap;clear hS;have hS:=hS0;clear hS0;have hnd:(E2.map (·.1)).Nodup:=by rw[<-Bb7];exact F9 hS.drop
 have hp3:=BQ7 hnd hp2 ak;have hok3:=FF7 hE2 ak;have HE2:=jH hE2;have Hp3:=jH hp3;have Hok3:=jH hok3;clear hnd hp2 hp3 hE2 hok3;go_wp2_with(first|refine zl1 hS ?_|go_at_call 43;refine(Bk7 eb m1 m2 m3 m4 E2 ak (fun x hx=>(HE2.out x hx).w) hN W _ _ (hS.s (ebB eb m1 m2 m3 m4::c8 eS eN m1 (i8 E2)::j8 E2::c8 eI eSs m2 ss::c8 eW eTn m3 _::c8 eW eU m4 _::blk b9 _ _::blk b8 _ _::blk b6 _ _::blk bR _ _::blk bO _ _::R))).mono ?_;clear hS;rintro e w ⟨rfl,hS⟩);refine rt 10 hS ?_
 repeat(first|refine zq1 ?_|refine zqN ?_|refine zqn ?_|refine qR ?_)
 clear hS;intro w hS;simp only[jD,List.drop_zero];go_wp2_with(first|((with_reducible apply Ba7 (ek:=eI) (ev:=eSs) (k:=cl) (u:=(sq,(⟨0,0,⟨0,0,0,0⟩⟩:Rpl))) hS);rfl;rfl;rfl;rfl;exact g8;(focus(rfl));exact mS;exact kEi;clear hS;intro w hS;try(refine frS ?_))|refine zlN hS ?_|refine zsN hS ?_;clear hS;intro w hS);apply Ab7;rfl;rfl;rfl;rfl;exact hS;decide +kernel;(exact x9);kernel_rfl;exact⟨_,Hok3.out,Hp3.out,rfl,F7 (hS.s (ebB eb m1 m2 m3 m4::c8 eS eN m1 _::j8 _::c8 eI eSs m2 _::c8 eW eTn m3 _::c8 eW eU m4 _::R))⟩
theorem gl4(hpk:au4 ⟨vs,ss,ts,ar⟩ ⟨3,cl,sq,ak,aw,tk,tw,it,ct,pr,bu,id⟩=(rp0,false))(hE:L5 E i)(hi:i<=1000000)(hp:(m8 E).Perm vs){r1 r2:Int}{V2:Vs}(h1:(P6 (vAt E ak) ⟨0,aw,bu,it,ct,pr⟩).1=r1)(h2:(P6 (vAt E ak) ⟨0,aw,bu,it,ct,pr⟩).2.1=r2)(h3:(P6 (vAt E ak) ⟨0,aw,bu,it,ct,pr⟩).2.2=V2)(hS:St W (ecR eb m1 m2 m3 m4 E ss ts ar R) w):
  Calls Tryz.prog 16 #[.P eb,oV 3 cl sq ak aw tk tw it ct pr bu id] w fun e w'=>∃E',L5 E' (i+1)/\(m8 E').Perm (bC4 ((ak,V2)::l8 vs ak) ak)/\e=.returned (.tuple #[rV r2 r1 0 0 0 0,.bool true]) /\
   St W (ecR eb m1 m2 m3 m4 E' ((cl,(sq,⟨r2,r1,⟨0,0,0,0⟩⟩))::l8 ss cl) (ts) (ar) R) w':=by
 have hN:100*(i+1)<=1000000000:=by omega
 have Hp:=jH hp;have HE:=jH hE;have H1:=jH h1;have H2:=jH h2;have H3:=jH h3;clear hp hE h1 h2 h3;go_enter Tryz.func16,Tryz.ntmps16;go_wp2_with(first|refine zbx hS ?_;clear hS;intro bO w hS|(fail_if_success (have:=g1));(refine zal hS ?_;clear hS;have g1:Nat:=0;intro bR w hS)|(have:=g1);(fail_if_success (have:=g2));(refine zal hS ?_;clear hS;have g2:Nat:=0;intro b6 w hS)|(have:=g2);refine zal hS ?_;clear hS;intro b8 w hS|refine zlN hS ?_|refine zsN hS ?_;clear hS;intro w hS|go_at_call 33;refine(BB7 hpk W _ _ (hS.s (ecR eb m1 m2 m3 m4 E ss ts ar (blk bR _ _::blk bO _ _::R)))).mono ?_;clear hS;rintro e w ⟨rfl,hS⟩);have hS0:=aA4 (hS.s (ecR eb m1 m2 m3 m4 E ss ts ar (blk bO _ _::blk b8 _ _::blk b6 _ _::blk bR _ _::R)));clear hS
 refine rf3 tB17a (fun i=>i==7) (fun i=>if i==6 then some (rV r2 r1 0 0 0 0)else none)
  [⟨some 6,none,fun _=>kdR eb m1 m2 m3 m4 ((ak,V2)::l8 vs ak) ss (ts) (ar) (i+1)⟩,⟨some 7,some 8,fun nd=>j6 (nd 7) [.I 0,.I 0,.I 0,.I 0,.I 0,.I 0] 31⟩,⟨some 8,none,fun nd=>j6 (nd 7) [.I r2,.I r1,.I 0,.I 0,.I 0,.I 0] 31⟩] [some 6,none,none] hS0 ?_
 clear hS0;intro nd
 repeat(first|refine zc1 ?_|refine zcN ?_|apply Cy7;rfl;rfl;rfl;rfl;rfl;decide +kernel;(focus(simp only[fD,fI,fJ,Act.eval,fE,fF,fG,fH,fK];try rfl));intro F w hS;exact fA4 cl sq ak aw tk tw it ct pr bu id ss ts ar W w _ HE.out Hp.out H1.out H2.out H3.out hS;refine frS ?_|refine zca ?_|refine zct ?_|refine cR ?_)
 refine Ac7 ?_;intro w hS;have hS2:St W [kdR eb m1 m2 m3 m4 _ _ _ _ _,j6 _ _ _,blk bO _ _,blk b8 _ _,sats (blk b6 _ _::blk bR _ _::R)] w:=hS;clear hS;have hS:=hS2.unpack [_,_,_,_];clear hS2;simp only[jK,jN]at hS;generalize nd 7=v9 at *;obtain⟨E2,hE2,hp2,hS0⟩:=by4 hS;clear hS;have hS:St W (j6 v9 _ _::evP eb m1 m2 m3 m4 E2::c8 eI eSs m2 ss::c8 eW eTn m3 _::c8 eW eU m4 _::blk bO _ _::blk b8 _ _::blk b6 _ _::blk bR _ _::R) w:=hS0.s _;clear hS0;have h1:=hS.ptr;clear hS;obtain⟨b9,rfl,hS⟩:=h1;have hS0:=D9 hS.swap;clear hS;have hS:=hS0;clear hS0;have hnd:(E2.map (·.1)).Nodup:=by rw[<-Bb7];exact F9 hS.drop
 have hp3:=BQ7 hnd hp2 ak;have hok3:=FF7 hE2 ak;have HE2:=jH hE2;have Hp3:=jH hp3;have Hok3:=jH hok3;clear hnd hp2 hp3 hE2 hok3;go_wp2_with(first|refine zl1 hS ?_|go_at_call 43;refine(Bk7 eb m1 m2 m3 m4 E2 ak (fun x hx=>(HE2.out x hx).w) hN W _ _ (hS.s (ebB eb m1 m2 m3 m4::c8 eS eN m1 (i8 E2)::j8 E2::c8 eI eSs m2 ss::c8 eW eTn m3 _::c8 eW eU m4 _::blk b9 _ _::blk b8 _ _::blk b6 _ _::blk bR _ _::blk bO _ _::R))).mono ?_;clear hS;rintro e w ⟨rfl,hS⟩);refine rt 10 hS ?_
 repeat(first|refine zq1 ?_|refine zqN ?_|refine zqn ?_|refine qR ?_)
 clear hS;intro w hS;simp only[jD,List.drop_zero];go_wp2_with(first|((with_reducible apply Ba7 (ek:=eI) (ev:=eSs) (k:=cl) (u:=(sq,(⟨r2,r1,⟨0,0,0,0⟩⟩:Rpl))) hS);rfl;rfl;rfl;rfl;exact g8;(focus(rfl));exact mS;exact kEi;clear hS;intro w hS;try(refine frS ?_))|refine zlN hS ?_|refine zsN hS ?_;clear hS;intro w hS);apply Ab7;rfl;rfl;rfl;rfl;exact hS;decide +kernel;(exact x9);kernel_rfl;exact⟨_,Hok3.out,Hp3.out,rfl,F7 (hS.s (ebB eb m1 m2 m3 m4::c8 eS eN m1 _::j8 _::c8 eI eSs m2 _::c8 eW eTn m3 _::c8 eW eU m4 _::R))⟩
theorem gm4(hpk:au4 ⟨vs,ss,ts,ar⟩ ⟨4,cl,sq,ak,aw,tk,tw,it,ct,pr,bu,id⟩=(rp0,false))(hE:L5 E i)(hi:i<=1000000)(hp:(m8 E).Perm vs){r:Int}{V2:Vs}(h1:(P9 (vAt E ak) aw id).1=r)(h2:(P9 (vAt E ak) aw id).2=V2)(hS:St W (ecR eb m1 m2 m3 m4 E ss ts ar R) w):
  Calls Tryz.prog 16 #[.P eb,oV 4 cl sq ak aw tk tw it ct pr bu id] w fun e w'=>∃E',L5 E' (i+1)/\(m8 E').Perm (bC4 ((ak,V2)::l8 vs ak) ak)/\e=.returned (.tuple #[rV r 0 0 0 0 0,.bool true]) /\
   St W (ecR eb m1 m2 m3 m4 E' ((cl,(sq,⟨r,0,⟨0,0,0,0⟩⟩))::l8 ss cl) (ts) (ar) R) w':=by
 have hN:100*(i+1)<=1000000000:=by omega
 have Hp:=jH hp;have HE:=jH hE;have H1:=jH h1;have H2:=jH h2;clear hp hE h1 h2;go_enter Tryz.func16,Tryz.ntmps16;go_wp2_with(first|refine zbx hS ?_;clear hS;intro bO w hS|(fail_if_success (have:=g1));(refine zal hS ?_;clear hS;have g1:Nat:=0;intro bR w hS)|(have:=g1);(fail_if_success (have:=g2));(refine zal hS ?_;clear hS;have g2:Nat:=0;intro b6 w hS)|(have:=g2);refine zal hS ?_;clear hS;intro b8 w hS|refine zlN hS ?_|refine zsN hS ?_;clear hS;intro w hS|go_at_call 33;refine(BB7 hpk W _ _ (hS.s (ecR eb m1 m2 m3 m4 E ss ts ar (blk bR _ _::blk bO _ _::R)))).mono ?_;clear hS;rintro e w ⟨rfl,hS⟩);have hS0:=aA4 (hS.s (ecR eb m1 m2 m3 m4 E ss ts ar (blk bO _ _::blk b8 _ _::blk b6 _ _::blk bR _ _::R)));clear hS
 refine rf3 tB17a (fun i=>i==7) (fun i=>if i==6 then some (rV r 0 0 0 0 0)else none)
  [⟨some 6,none,fun _=>kdR eb m1 m2 m3 m4 ((ak,V2)::l8 vs ak) ss (ts) (ar) (i+1)⟩,⟨some 7,some 8,fun nd=>j6 (nd 7) [.I 0,.I 0,.I 0,.I 0,.I 0,.I 0] 31⟩,⟨some 8,none,fun nd=>j6 (nd 7) [.I r,.I 0,.I 0,.I 0,.I 0,.I 0] 31⟩] [some 6,none,none] hS0 ?_
 clear hS0;intro nd
 repeat(first|refine zc1 ?_|refine zcN ?_|apply Cy7;rfl;rfl;rfl;rfl;rfl;decide +kernel;(focus(simp only[fD,fI,fJ,Act.eval,fE,fF,fG,fH,fK];try rfl));intro F w hS;exact fB4 cl sq ak aw tk tw it ct pr bu id ss ts ar W w _ HE.out Hp.out H1.out H2.out hS;refine frS ?_|refine zca ?_|refine zct ?_|refine cR ?_)
 refine Ac7 ?_;intro w hS;have hS2:St W [kdR eb m1 m2 m3 m4 _ _ _ _ _,j6 _ _ _,blk bO _ _,blk b8 _ _,sats (blk b6 _ _::blk bR _ _::R)] w:=hS;clear hS;have hS:=hS2.unpack [_,_,_,_];clear hS2;simp only[jK,jN]at hS;generalize nd 7=v9 at *;obtain⟨E2,hE2,hp2,hS0⟩:=by4 hS;clear hS;have hS:St W (j6 v9 _ _::evP eb m1 m2 m3 m4 E2::c8 eI eSs m2 ss::c8 eW eTn m3 _::c8 eW eU m4 _::blk bO _ _::blk b8 _ _::blk b6 _ _::blk bR _ _::R) w:=hS0.s _;clear hS0;have h1:=hS.ptr;clear hS;obtain⟨b9,rfl,hS⟩:=h1;have hS0:=D9 hS.swap;clear hS;have hS:=hS0;clear hS0;have hnd:(E2.map (·.1)).Nodup:=by rw[<-Bb7];exact F9 hS.drop
 have hp3:=BQ7 hnd hp2 ak;have hok3:=FF7 hE2 ak;have HE2:=jH hE2;have Hp3:=jH hp3;have Hok3:=jH hok3;clear hnd hp2 hp3 hE2 hok3;go_wp2_with(first|refine zl1 hS ?_|go_at_call 43;refine(Bk7 eb m1 m2 m3 m4 E2 ak (fun x hx=>(HE2.out x hx).w) hN W _ _ (hS.s (ebB eb m1 m2 m3 m4::c8 eS eN m1 (i8 E2)::j8 E2::c8 eI eSs m2 ss::c8 eW eTn m3 _::c8 eW eU m4 _::blk b9 _ _::blk b8 _ _::blk b6 _ _::blk bR _ _::blk bO _ _::R))).mono ?_;clear hS;rintro e w ⟨rfl,hS⟩);refine rt 10 hS ?_
 repeat(first|refine zq1 ?_|refine zqN ?_|refine zqn ?_|refine qR ?_)
 clear hS;intro w hS;simp only[jD,List.drop_zero];go_wp2_with(first|((with_reducible apply Ba7 (ek:=eI) (ev:=eSs) (k:=cl) (u:=(sq,(⟨r,0,⟨0,0,0,0⟩⟩:Rpl))) hS);rfl;rfl;rfl;rfl;exact g8;(focus(rfl));exact mS;exact kEi;clear hS;intro w hS;try(refine frS ?_))|refine zlN hS ?_|refine zsN hS ?_;clear hS;intro w hS);apply Ab7;rfl;rfl;rfl;rfl;exact hS;decide +kernel;(exact x9);kernel_rfl;exact⟨_,Hok3.out,Hp3.out,rfl,F7 (hS.s (ebB eb m1 m2 m3 m4::c8 eS eN m1 _::j8 _::c8 eI eSs m2 _::c8 eW eTn m3 _::c8 eW eU m4 _::R))⟩
theorem gn4(hpk:au4 ⟨vs,ss,ts,ar⟩ ⟨5,cl,sq,ak,aw,tk,tw,it,ct,pr,bu,id⟩=(rp0,false))(hE:L5 E i)(hi:i<=1000000)(hp:(m8 E).Perm vs){x0 x1 x2 x3:Int}(hx:r6 (vAt E ak).ps aw=⟨x0,x1,x2,x3⟩)(hS:St W (ecR eb m1 m2 m3 m4 E ss ts ar R) w):
  Calls Tryz.prog 16 #[.P eb,oV 5 cl sq ak aw tk tw it ct pr bu id] w fun e w'=>∃E',L5 E' (i+1)/\(m8 E').Perm (bC4 (vs) ak)/\e=.returned (.tuple #[rV 0 0 x0 x1 x2 x3,.bool true]) /\
   St W (ecR eb m1 m2 m3 m4 E' ((cl,(sq,⟨0,0,⟨x0,x1,x2,x3⟩⟩))::l8 ss cl) (ts) (ar) R) w':=by
 have hN:100*(i+1)<=1000000000:=by omega
 have Hp:=jH hp;have HE:=jH hE;have Hx:=jH hx;clear hp hE hx;go_enter Tryz.func16,Tryz.ntmps16;go_wp2_with(first|refine zbx hS ?_;clear hS;intro bO w hS|(fail_if_success (have:=g1));(refine zal hS ?_;clear hS;have g1:Nat:=0;intro bR w hS)|(have:=g1);(fail_if_success (have:=g2));(refine zal hS ?_;clear hS;have g2:Nat:=0;intro b6 w hS)|(have:=g2);refine zal hS ?_;clear hS;intro b8 w hS|refine zlN hS ?_|refine zsN hS ?_;clear hS;intro w hS|go_at_call 33;refine(BB7 hpk W _ _ (hS.s (ecR eb m1 m2 m3 m4 E ss ts ar (blk bR _ _::blk bO _ _::R)))).mono ?_;clear hS;rintro e w ⟨rfl,hS⟩);have hS0:=aA4 (hS.s (ecR eb m1 m2 m3 m4 E ss ts ar (blk bO _ _::blk b8 _ _::blk b6 _ _::blk bR _ _::R)));clear hS
 refine rf3 tB17a (fun i=>i==7) (fun i=>if i==6 then some (rV 0 0 x0 x1 x2 x3)else none)
  [⟨some 6,none,fun _=>kdR eb m1 m2 m3 m4 (vs) ss (ts) (ar) (i+1)⟩,⟨some 7,some 8,fun nd=>j6 (nd 7) [.I 0,.I 0,.I 0,.I 0,.I 0,.I 0] 31⟩,⟨some 8,none,fun nd=>j6 (nd 7) [.I 0,.I 0,.I x0,.I x1,.I x2,.I x3] 31⟩] [some 6,none,none] hS0 ?_
 clear hS0;intro nd
 repeat(first|refine zc1 ?_|refine zcN ?_|apply Cy7;rfl;rfl;rfl;rfl;rfl;decide +kernel;(focus(simp only[fD,fI,fJ,Act.eval,fE,fF,fG,fH,fK];try rfl));intro F w hS;exact fC4 cl sq ak aw tk tw it ct pr bu id ss ts ar W w _ HE.out Hp.out Hx.out hS;refine frS ?_|refine zca ?_|refine zct ?_|refine cR ?_)
 refine Ac7 ?_;intro w hS;have hS2:St W [kdR eb m1 m2 m3 m4 _ _ _ _ _,j6 _ _ _,blk bO _ _,blk b8 _ _,sats (blk b6 _ _::blk bR _ _::R)] w:=hS;clear hS;have hS:=hS2.unpack [_,_,_,_];clear hS2;simp only[jK,jN]at hS;generalize nd 7=v9 at *;obtain⟨E2,hE2,hp2,hS0⟩:=by4 hS;clear hS;have hS:St W (j6 v9 _ _::evP eb m1 m2 m3 m4 E2::c8 eI eSs m2 ss::c8 eW eTn m3 _::c8 eW eU m4 _::blk bO _ _::blk b8 _ _::blk b6 _ _::blk bR _ _::R) w:=hS0.s _;clear hS0;have h1:=hS.ptr;clear hS;obtain⟨b9,rfl,hS⟩:=h1;have hS0:=D9 hS.swap;clear hS;have hS:=hS0;clear hS0;have hnd:(E2.map (·.1)).Nodup:=by rw[<-Bb7];exact F9 hS.drop
 have hp3:=BQ7 hnd hp2 ak;have hok3:=FF7 hE2 ak;have HE2:=jH hE2;have Hp3:=jH hp3;have Hok3:=jH hok3;clear hnd hp2 hp3 hE2 hok3;go_wp2_with(first|refine zl1 hS ?_|go_at_call 43;refine(Bk7 eb m1 m2 m3 m4 E2 ak (fun x hx=>(HE2.out x hx).w) hN W _ _ (hS.s (ebB eb m1 m2 m3 m4::c8 eS eN m1 (i8 E2)::j8 E2::c8 eI eSs m2 ss::c8 eW eTn m3 _::c8 eW eU m4 _::blk b9 _ _::blk b8 _ _::blk b6 _ _::blk bR _ _::blk bO _ _::R))).mono ?_;clear hS;rintro e w ⟨rfl,hS⟩);refine rt 10 hS ?_
 repeat(first|refine zq1 ?_|refine zqN ?_|refine zqn ?_|refine qR ?_)
 clear hS;intro w hS;simp only[jD,List.drop_zero];go_wp2_with(first|((with_reducible apply Ba7 (ek:=eI) (ev:=eSs) (k:=cl) (u:=(sq,(⟨0,0,⟨x0,x1,x2,x3⟩⟩:Rpl))) hS);rfl;rfl;rfl;rfl;exact g8;(focus(rfl));exact mS;exact kEi;clear hS;intro w hS;try(refine frS ?_))|refine zlN hS ?_|refine zsN hS ?_;clear hS;intro w hS);apply Ab7;rfl;rfl;rfl;rfl;exact hS;decide +kernel;(exact x9);kernel_rfl;exact⟨_,Hok3.out,Hp3.out,rfl,F7 (hS.s (ebB eb m1 m2 m3 m4::c8 eS eN m1 _::j8 _::c8 eI eSs m2 _::c8 eW eTn m3 _::c8 eW eU m4 _::R))⟩
theorem go4(hpk:au4 ⟨vs,ss,ts,ar⟩ ⟨6,cl,sq,ak,aw,tk,tw,it,ct,pr,bu,id⟩=(rp0,false))(hE:L5 E i)(hi:i<=1000000)(hp:(m8 E).Perm vs)(h0:0<=it)(h4:it<4)(c0:1<=ct)(c1:ct<=1048576){q:Ps}(hq:aM4 (vAt E ak).ps aw (P7 it ct)=q)(hS:St W (ecR eb m1 m2 m3 m4 E ss ts ar R) w):
  Calls Tryz.prog 16 #[.P eb,oV 6 cl sq ak aw tk tw it ct pr bu id] w fun e w'=>∃E',L5 E' (i+1)/\(m8 E').Perm (bC4 ((ak,⟨q,(vAt E ak).L,(vAt E ak).n⟩)::l8 vs ak) ak)/\e=.returned (.tuple #[rV 0 0 0 0 0 0,.bool true]) /\
   St W (ecR eb m1 m2 m3 m4 E' ss (ts) (((cl,sq),())::l8 ar (cl,sq)) R) w':=by
 have hN:100*(i+1)<=1000000000:=by omega
 have Hp:=jH hp;have HE:=jH hE;have Hq:=jH hq;clear hp hE hq;go_enter Tryz.func16,Tryz.ntmps16;go_wp2_with(first|refine zbx hS ?_;clear hS;intro bO w hS|(fail_if_success (have:=g1));(refine zal hS ?_;clear hS;have g1:Nat:=0;intro bR w hS)|(have:=g1);(fail_if_success (have:=g2));(refine zal hS ?_;clear hS;have g2:Nat:=0;intro b6 w hS)|(have:=g2);refine zal hS ?_;clear hS;intro b8 w hS|refine zlN hS ?_|refine zsN hS ?_;clear hS;intro w hS|go_at_call 33;refine(BB7 hpk W _ _ (hS.s (ecR eb m1 m2 m3 m4 E ss ts ar (blk bR _ _::blk bO _ _::R)))).mono ?_;clear hS;rintro e w ⟨rfl,hS⟩);have hS0:=aA4 (hS.s (ecR eb m1 m2 m3 m4 E ss ts ar (blk bO _ _::blk b8 _ _::blk b6 _ _::blk bR _ _::R)));clear hS
 refine rf3 tB17a (fun i=>i==7) (fun i=>if i==6 then some (rV 0 0 0 0 0 0)else none)
  [⟨some 6,none,fun _=>kdR eb m1 m2 m3 m4 ((ak,⟨q,(vAt E ak).L,(vAt E ak).n⟩)::l8 vs ak) ss (ts) (((cl,sq),())::l8 ar (cl,sq)) (i+1)⟩,⟨some 7,some 8,fun nd=>j6 (nd 7) [.I 0,.I 0,.I 0,.I 0,.I 0,.I 0] 31⟩,⟨some 8,none,fun nd=>j6 (nd 7) [.I 0,.I 0,.I 0,.I 0,.I 0,.I 0] 31⟩] [some 6,none,none] hS0 ?_
 clear hS0;intro nd
 repeat(first|refine zc1 ?_|refine zcN ?_|apply Cy7;rfl;rfl;rfl;rfl;rfl;decide +kernel;(focus(simp only[fD,fI,fJ,Act.eval,fE,fF,fG,fH,fK];try rfl));intro F w hS;exact fD4 cl sq ak aw tk tw it ct pr bu id ss ts ar W w _ HE.out Hp.out h0 h4 c0 c1 Hq.out hS;refine frS ?_|refine zca ?_|refine zct ?_|refine cR ?_)
 refine Ac7 ?_;intro w hS;have hS2:St W [kdR eb m1 m2 m3 m4 _ _ _ _ _,j6 _ _ _,blk bO _ _,blk b8 _ _,sats (blk b6 _ _::blk bR _ _::R)] w:=hS;clear hS;have hS:=hS2.unpack [_,_,_,_];clear hS2;simp only[jK,jN]at hS;generalize nd 7=v9 at *;obtain⟨E2,hE2,hp2,hS0⟩:=by4 hS;clear hS;have hS:St W (j6 v9 _ _::evP eb m1 m2 m3 m4 E2::c8 eI eSs m2 ss::c8 eW eTn m3 _::c8 eW eU m4 _::blk bO _ _::blk b8 _ _::blk b6 _ _::blk bR _ _::R) w:=hS0.s _;clear hS0;have h1:=hS.ptr;clear hS;obtain⟨b9,rfl,hS⟩:=h1;have hS0:=D9 hS.swap;clear hS;have hS:=hS0;clear hS0;have hnd:(E2.map (·.1)).Nodup:=by rw[<-Bb7];exact F9 hS.drop
 have hp3:=BQ7 hnd hp2 ak;have hok3:=FF7 hE2 ak;have HE2:=jH hE2;have Hp3:=jH hp3;have Hok3:=jH hok3;clear hnd hp2 hp3 hE2 hok3;go_wp2_with(first|go_big_skip|refine zl1 hS ?_|refine zlN hS ?_|refine zsN hS ?_;clear hS;intro w hS|go_at_call 43;refine(Bk7 eb m1 m2 m3 m4 E2 ak (fun x hx=>(HE2.out x hx).w) hN W _ _ (hS.s (ebB eb m1 m2 m3 m4::c8 eS eN m1 (i8 E2)::j8 E2::c8 eI eSs m2 ss::c8 eW eTn m3 _::c8 eW eU m4 _::blk b9 _ _::blk b8 _ _::blk b6 _ _::blk bR _ _::blk bO _ _::R))).mono ?_;clear hS;rintro e w ⟨rfl,hS⟩)
 skip
 (apply Ab7;rfl;rfl;rfl;rfl;exact hS;decide +kernel;exact x9;kernel_rfl);exact⟨_,Hok3.out,Hp3.out,rfl,F7 (hS.s (ebB eb m1 m2 m3 m4::c8 eS eN m1 _::j8 _::c8 eI eSs m2 _::c8 eW eTn m3 _::c8 eW eU m4 _::R))⟩
theorem gp4(hpk:au4 ⟨vs,ss,ts,ar⟩ ⟨7,cl,sq,ak,aw,tk,tw,it,ct,pr,bu,id⟩=(rp0,false))(hE:L5 E i)(hi:i<=1000000)(hp:(m8 E).Perm vs)  (hS:St W (ecR eb m1 m2 m3 m4 E ss ts ar R) w):
  Calls Tryz.prog 16 #[.P eb,oV 7 cl sq ak aw tk tw it ct pr bu id] w fun e w'=>∃E',L5 E' (i+1)/\(m8 E').Perm (bC4 (vs) ak)/\e=.returned (.tuple #[rV 0 0 0 0 0 0,.bool true]) /\
   St W (ecR eb m1 m2 m3 m4 E' ss (l8 ts (cl,sq)) (ar) R) w':=by
 have hN:100*(i+1)<=1000000000:=by omega
 have Hp:=jH hp;have HE:=jH hE;clear hp hE;go_enter Tryz.func16,Tryz.ntmps16;go_wp2_with(first|refine zbx hS ?_;clear hS;intro bO w hS|(fail_if_success (have:=g1));(refine zal hS ?_;clear hS;have g1:Nat:=0;intro bR w hS)|(have:=g1);(fail_if_success (have:=g2));(refine zal hS ?_;clear hS;have g2:Nat:=0;intro b6 w hS)|(have:=g2);refine zal hS ?_;clear hS;intro b8 w hS|refine zlN hS ?_|refine zsN hS ?_;clear hS;intro w hS|go_at_call 33;refine(BB7 hpk W _ _ (hS.s (ecR eb m1 m2 m3 m4 E ss ts ar (blk bR _ _::blk bO _ _::R)))).mono ?_;clear hS;rintro e w ⟨rfl,hS⟩);have hS0:=aA4 (hS.s (ecR eb m1 m2 m3 m4 E ss ts ar (blk bO _ _::blk b8 _ _::blk b6 _ _::blk bR _ _::R)));clear hS
 refine rf3 tB17a (fun i=>i==7) (fun i=>if i==6 then some (rV 0 0 0 0 0 0)else none)
  [⟨some 6,none,fun _=>kdR eb m1 m2 m3 m4 (vs) ss (l8 ts (cl,sq)) (ar) (i+1)⟩,⟨some 7,some 8,fun nd=>j6 (nd 7) [.I 0,.I 0,.I 0,.I 0,.I 0,.I 0] 31⟩,⟨some 8,none,fun nd=>j6 (nd 7) [.I 0,.I 0,.I 0,.I 0,.I 0,.I 0] 31⟩] [some 6,none,none] hS0 ?_
 clear hS0;intro nd
 repeat(first|refine zc1 ?_|refine zcN ?_|apply Cy7;rfl;rfl;rfl;rfl;rfl;decide +kernel;(focus(simp only[fD,fI,fJ,Act.eval,fE,fF,fG,fH,fK];try rfl));intro F w hS;exact fE4 cl sq ak aw tk tw it ct pr bu id ss ts ar W w _ HE.out Hp.out hS;refine frS ?_|refine zca ?_|refine zct ?_|refine cR ?_)
 refine Ac7 ?_;intro w hS;have hS2:St W [kdR eb m1 m2 m3 m4 _ _ _ _ _,j6 _ _ _,blk bO _ _,blk b8 _ _,sats (blk b6 _ _::blk bR _ _::R)] w:=hS;clear hS;have hS:=hS2.unpack [_,_,_,_];clear hS2;simp only[jK,jN]at hS;generalize nd 7=v9 at *;obtain⟨E2,hE2,hp2,hS0⟩:=by4 hS;clear hS;have hS:St W (j6 v9 _ _::evP eb m1 m2 m3 m4 E2::c8 eI eSs m2 ss::c8 eW eTn m3 _::c8 eW eU m4 _::blk bO _ _::blk b8 _ _::blk b6 _ _::blk bR _ _::R) w:=hS0.s _;clear hS0;have h1:=hS.ptr;clear hS;obtain⟨b9,rfl,hS⟩:=h1;have hS0:=D9 hS.swap;clear hS;have hS:=hS0;clear hS0;have hnd:(E2.map (·.1)).Nodup:=by rw[<-Bb7];exact F9 hS.drop
 have hp3:=BQ7 hnd hp2 ak;have hok3:=FF7 hE2 ak;have HE2:=jH hE2;have Hp3:=jH hp3;have Hok3:=jH hok3;clear hnd hp2 hp3 hE2 hok3;go_wp2_with(first|refine zl1 hS ?_|refine zlN hS ?_|refine zsN hS ?_;clear hS;intro w hS|go_at_call 43;refine(Bk7 eb m1 m2 m3 m4 E2 ak (fun x hx=>(HE2.out x hx).w) hN W _ _ (hS.s (ebB eb m1 m2 m3 m4::c8 eS eN m1 (i8 E2)::j8 E2::c8 eI eSs m2 ss::c8 eW eTn m3 _::c8 eW eU m4 _::blk b9 _ _::blk b8 _ _::blk b6 _ _::blk bR _ _::blk bO _ _::R))).mono ?_;clear hS;rintro e w ⟨rfl,hS⟩)
 skip
 (apply Ab7;rfl;rfl;rfl;rfl;exact hS;decide +kernel;exact x9;kernel_rfl);exact⟨_,Hok3.out,Hp3.out,rfl,F7 (hS.s (ebB eb m1 m2 m3 m4::c8 eS eN m1 _::j8 _::c8 eI eSs m2 _::c8 eW eTn m3 _::c8 eW eU m4 _::R))⟩
end
end Go.Proofs.YtlmhakmoioogaaaGreat
end
