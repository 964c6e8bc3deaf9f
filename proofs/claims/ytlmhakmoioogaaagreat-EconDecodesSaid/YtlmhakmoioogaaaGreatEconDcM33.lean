/-
  The program's reader of an economy.
-/
import Derived.Test.YtlmhakmoioogaaaGreatEconDcM4
import Derived.Test.YtlmhakmoioogaaaGreatEconDcM16
import Derived.Test.YtlmhakmoioogaaaGreatEconDcM25
import Derived.Test.YtlmhakmoioogaaaGreatEconDcM26
import Derived.Test.YtlmhakmoioogaaaGreatEconDcM28
import Derived.Test.YtlmhakmoioogaaaGreatEconDcM32
set_option maxHeartbeats 16000000
set_option maxRecDepth 100000
set_option linter.unusedSimpArgs false
set_option linter.unusedVariables false
section
namespace Go.Proofs.YtlmhakmoioogaaaGreat
open Go.RowKit Go.Sl
abbrev erR(xr rb eb:Nat)(ok:Bool):HP:=blk xr [.P rb,.P eb,.bool ok] 150
theorem SK7(ok b:Bool)(xr rb eb:Nat)(W w:World)(R:List HP)(hS:St W (erR xr rb eb ok::R) w):
  Calls Tryz.prog 153 #[.P xr,.bool b] w fun e w'=>e=.returned (.tuple #[])/\St W (erR xr rb eb (ok&&b)::R) w':=by
 cases ok <;> cases b
 all_goals
  go_enter Tryz.func153,Tryz.ntmps153;go_wp2_with(first|refine zl1 hS ?_|refine zs1 hS ?_;clear hS;intro w hS);go_end0;exact⟨rfl,hS⟩
def whB(c q:Int):Bool:=decide (1<=c)&&(decide (c<=1048576)&&(decide (1<=q)&&decide (q<=1099511627776)))
theorem Cq7{c q:Int}(h:whB c q=true):br4 (c,q):=by unfold whB at h;simp only[jB,decide_eq_true_eq]at h;exact⟨⟨h.1,h.2.1⟩,h.2.2.1,h.2.2.2⟩
theorem Ra7(c q:Int):A8 ⟨5,c,q,⟨#[107]⟩,⟨#[119]⟩,⟨#[]⟩,⟨#[]⟩,0,0,0,false,0⟩=whB c q:=by
 have h1:ax4 ⟨#[107]⟩ ⟨#[119]⟩=true:=by decide
 have h2:L8 ⟨5,c,q,⟨#[107]⟩,⟨#[119]⟩,⟨#[]⟩,⟨#[]⟩,0,0,0,false,0⟩=true:=by simp[L8,ch4,noB];rfl
 unfold A8 G6 whB;rw[h2,Bool.and_true];simp only;rw[h1,Bool.and_true]
theorem Mq7{c q:Int}{r:Bool}(hr:whB c q=r)(W w:World)(R:List HP)(hS:St W R w):
  Calls Tryz.prog 156 #[.I c,.I q] w fun e w'=>e=.returned (.bool r)/\St W R w':=by
 have Hr:=jH ((Ra7 c q).trans hr);clear hr;go_enter Tryz.func156,Tryz.ntmps156;go_wp2_with(first|go_at_call 85;refine(BX7 Hr.out W _ _ hS).mono ?_;clear hS;rintro e w ⟨rfl,hS⟩);go_ret;exact⟨rfl,hS⟩
theorem HY7:∀(ns:List Int),(∀n∈ns,0<=n/\n<=4611686018427387904)->∀r,w6 ns.length (some (l9 ns++r))=(ns,some r)
 | [],_,r=>rfl
 | n::ns,h,r=>by
  have h1:=h n (List.mem_cons_self ..);have e1:l9 (n::ns)++r=j9 n++(l9 ns++r):=by unfold l9;rw[List.flatMap_cons,jS]
  rw[e1,jC,w6,As7 h1.1 h1.2];show(n::(w6 ns.length (some (l9 ns++r))).1,(w6 ns.length (some (l9 ns++r))).2)=_
  rw[HY7 ns (fun m hm=>h m (List.mem_cons_of_mem _ hm)) r]
section
variable{D:HP}{rb bE bX bS c:Nat}{s:RS}{W w:World}{R R':List HP}
theorem ev4(h:RdOk s)(ht:Take R D R')(hS:St W (rdG D rb s::blk bE [.I 0] 3::blk bX [.I 0,.I 0,.I 0,.I 0,.I 0,.I 0] 31::blk bS [.P bE,.pointer (some ⟨bX,1,none⟩),.pointer (some ⟨bX,2,none⟩),.pointer (some ⟨bX,3,none⟩),.pointer (some ⟨bX,4,none⟩),.pointer (some ⟨bX,5,none⟩)] 262::R) w){x0 x1 x2 x3 x4 x5:Int}{s2:RS}(hx:w6 6 s=([x0,x1,x2,x3,x4,x5],s2)):
  Calls Tryz.prog 196 #[.P rb,.S bS 6 c] w fun e w'=>e=.returned (.tuple #[])/\St W (rdG D rb s2::blk bE [.I x0] 3::blk bX [.I 0,.I x1,.I x2,.I x3,.I x4,.I x5] 31::R) w':=by
 refine(Mh7 D rb s h [(bE,0),(bX,1),(bX,2),(bX,3),(bX,4),(bX,5)] (by simp) bS c (fun xs=>blk bE [.I (xs.getD 0 0)] 3::blk bX [.I 0,.I (xs.getD 1 0),.I (xs.getD 2 0),.I (xs.getD 3 0),.I (xs.getD 4 0),.I (xs.getD 5 0)] 31::blk bS [.P bE,.pointer (some ⟨bX,1,none⟩),.pointer (some ⟨bX,2,none⟩),.pointer (some ⟨bX,3,none⟩),.pointer (some ⟨bX,4,none⟩),.pointer (some ⟨bX,5,none⟩)] 262::R) ⟨?_,fun xs=>⟨_,.tail (.tail (.tail ht))⟩⟩ ?_ W w hS).mono ?_
 ·intro xs x hx
  match xs,hx with
  | [],_=>exact⟨_,_,by simp,by simp,.head⟩
  | [_],_=>exact⟨_,_,by simp,by simp,.tail .head⟩
  | [_,_],_=>exact⟨_,_,by simp,by simp,.tail .head⟩
  | [_,_,_],_=>exact⟨_,_,by simp,by simp,.tail .head⟩
  | [_,_,_,_],_=>exact⟨_,_,by simp,by simp,.tail .head⟩
  | [_,_,_,_,_],_=>exact⟨_,_,by simp,by simp,.tail .head⟩
  | _::_::_::_::_::_::_,hx=>simp at hx;omega
 ·intro xs i hi
  match i,hi with
  | 0,_=>exact .there (.there (.here rfl))
  | 1,_=>exact .there (.there (.here rfl))
  | 2,_=>exact .there (.there (.here rfl))
  | 3,_=>exact .there (.there (.here rfl))
  | 4,_=>exact .there (.there (.here rfl))
  | 5,_=>exact .there (.there (.here rfl))
  | i+6,hi=>simp at hi;omega
 ·rintro e w' ⟨rfl,hS⟩;have hx6:w6 [(bE,0),(bX,1),(bX,2),(bX,3),(bX,4),(bX,5)].length s=([x0,x1,x2,x3,x4,x5],s2):=hx;rw[hx6]at hS;have hS2:St W (rdG D rb s2::blk bE [.I x0] 3::blk bX [.I 0,.I x1,.I x2,.I x3,.I x4,.I x5] 31::blk bS _ _::R) w':=hS;exact⟨rfl,hS2.s _⟩
end
def rpM(e i x0 x1 x2 x3:Int):Bool:=decide (e<=19)&&(decide (i<=1099511627776)&&w8 ⟨x0,x1,x2,x3⟩)
theorem RC7{e i x0 x1 x2 x3:Int}(he:0<=e)(hi:0<=i)(h:rpM e i x0 x1 x2 x3=true):RpOk ⟨e,i,⟨x0,x1,x2,x3⟩⟩:=by unfold rpM at h;simp only[jB,decide_eq_true_eq]at h;exact⟨he,h.1,hi,h.2.1,h.2.2⟩
theorem RD7{e i x0 x1 x2 x3:Int}{r:Bool}(he:0<=e)(hi:0<=i)(hr:rpM e i x0 x1 x2 x3=r)(W w:World)(R:List HP)(hS:St W R w):
  Calls Tryz.prog 136 #[rV e i x0 x1 x2 x3] w fun x w'=>x=.returned (.bool r)/\St W R w':=by
 have d0:decide (0<=e)=true:=by simpa using he
 have d2:decide (0<=i)=true:=by simpa using hi
 unfold rpM at hr
 cases d1:decide (e<=19)with
 | false=>
  rw[d1,Bool.false_and]at hr;subst hr;go_enter Tryz.func136,Tryz.ntmps136;go_wp2_with(first|go_big_skip|refine zbx hS ?_;clear hS;intro bO w hS|refine zl1 hS ?_);go_ret;exact⟨rfl,hS.drop⟩
 | true=>
  rw[d1,Bool.true_and]at hr
  cases d3:decide (i<=1099511627776)with
  | false=>
   rw[d3,Bool.false_and]at hr;subst hr;go_enter Tryz.func136,Tryz.ntmps136;go_wp2_with(first|go_big_skip|refine zbx hS ?_;clear hS;intro bO w hS|refine zl1 hS ?_);go_ret;exact⟨rfl,hS.drop⟩
  | true=>
   rw[d3,Bool.true_and]at hr;have Hi:=jH hr;clear hr;go_enter Tryz.func136,Tryz.ntmps136;go_wp2_with(first|refine zbx hS ?_;clear hS;intro bO w hS|refine zl1 hS ?_|refine zlN hS ?_ (vs:=[.I x0,.I x1,.I x2,.I x3]) (hc:=by exact d7.here rfl)|go_at_call 126;refine(aJ4 _ _ _ _ W _ _ hS).mono ?_;clear hS;rw[Hi.out];rintro e w ⟨rfl,hS⟩);go_ret;exact⟨rfl,hS.drop⟩
theorem He7(y:Rpl):rpB y=l9 [y.err,y.id,y.has.x0,y.has.x1,y.has.x2,y.has.x3]:=by unfold rpB l9;simp
theorem Gb7{y:Rpl}(h:RpOk y):w6 6 (some (rpB y))=([y.err,y.id,y.has.x0,y.has.x1,y.has.x2,y.has.x3],some []):=by
 obtain⟨⟨p0,p1⟩,⟨q0,q1⟩,⟨r0,r1⟩,⟨t0,t1⟩⟩:=Ai7.1 h.has;have e0:=h.e0;have e1:=h.e1;have i0:=h.i0;have i1:=h.i1
 have h1:=HY7 [y.err,y.id,y.has.x0,y.has.x1,y.has.x2,y.has.x3] (fun n hn=>by
  simp only[List.mem_cons,List.not_mem_nil,or_false]at hn
  rcases hn with rfl|rfl|rfl|rfl|rfl|rfl
  all_goals exact⟨by omega,by omega⟩) []
 rw[List.append_nil,<-He7]at h1;exact h1
def bj4(rx:List Int)(y:Rpl):Prop:=RpOk y/\rx=rpB y
theorem ER7{s:RS}{l r:List Int}(hb:BS s)(hs:s=some l)(h:(d8 s).2=some r):l=j9 (d8 s).1++r:=by have h1:=(AW7 hb h).1;exact Option.some.inj (hs.symm.trans h1)
theorem Eg7:∀(k:Nat) {s:RS} {r:List Int},BS s->(w6 k s).2=some r->s=some (l9 (w6 k s).1++r)
 | 0,s,r,_,h=>h
 | k+1,s,r,hb,h=>by
  have h1:(w6 k (d8 s).2).2=some r:=h;have hb1:BS (d8 s).2:=Mg7 hb;have ih:=Eg7 k hb1 h1;obtain⟨l,hl⟩:=Aq7 ih;have h2:=ER7 hb hl ih;show s=some (l9 ((d8 s).1::(w6 k (d8 s).2).1)++r)
  unfold l9 at h2 ⊢;rw[List.flatMap_cons,jS,<-h2];exact hl
theorem HZ7{e i x0 x1 x2 x3:Int}{rx:List Int}(h:bj4 rx ⟨e,i,⟨x0,x1,x2,x3⟩⟩)(v:Value)(W w:World)(R:List HP)(hS:St W (byR v rx::R) w):
  Calls Tryz.prog 155 #[v] w fun x w'=>x=.returned (.tuple #[rV e i x0 x1 x2 x3,.I 0])/\St W R w':=by
 have h0:=h.1.e0;have h1:=h.1.i0;simp only at h0 h1;have hr:rpM e i x0 x1 x2 x3=true:=by have e1:=h.1.e1;have i1:=h.1.i1;have e2:=h.1.has;simp only at e1 i1 e2;unfold rpM;rw[e2,decide_eq_true e1,decide_eq_true i1];rfl
 have hl:=Dx7 ⟨e,i,⟨x0,x1,x2,x3⟩⟩;have hn:=Gb7 h.1;have hby:ByB (rpB ⟨e,i,⟨x0,x1,x2,x3⟩⟩):=Ay7 (AG7 Av7 _) (AG7 Av7 _);rw[<-h.2]at hn hby hl;obtain⟨a,c,rfl,hd⟩:=BF7 hS;have Hat:=jH (BG7 hd);have hrd:RdOk (some rx):=⟨fun l hl2=>by cases hl2;exact hby,fun l hl2=>by cases hl2;omega⟩
 have Hrd:=jH hrd;have Hn:=jH hn;have Hr:=jH hr;have Hend:=jH (show ar4 (some [])=true from rfl);clear hd hrd hn hr h hby;go_enter Tryz.func155,Tryz.ntmps155;go_wp2_with(first|(fail_if_success (have:=a1));(refine zal hS ?_;clear hS;have a1:Nat:=0;intro b0 w hS)|(have:=a1);(fail_if_success (have:=a2));(refine zal hS ?_;clear hS;have a2:Nat:=0;intro bX w hS)|(have:=a2);(fail_if_success (have:=a3));(refine zal hS ?_;clear hS;have a3:Nat:=0;intro bE w hS)|refine zs1 hS ?_;clear hS;intro w hS|go_at_call 86;refine(JO7 _ a c rx Hat.out (by omega) W _ _ _ (.tail (.tail (.tail .head))) hS).mono ?_;clear hS;rintro ex w ⟨v2,rb,rfl,hS⟩|refine zbs hS ?_;clear hS;intro bS w hS1;have hS2:St W (blk bS [.P bE,.pointer (some ⟨bX,1,none⟩),.pointer (some ⟨bX,2,none⟩),.pointer (some ⟨bX,3,none⟩),.pointer (some ⟨bX,4,none⟩),.pointer (some ⟨bX,5,none⟩)] 262::_) _:=hS1;clear hS1;have hS:=hS2;clear hS2|go_at_call 196;refine(ev4 Hrd.out .head (hS.s (rdG _ rb (some rx)::blk bE _ _::blk bX _ _::blk bS _ _::byR v2 rx::blk b0 _ _::byR _ rx::R)) Hn.out).mono ?_;clear hS;rintro ex w ⟨rfl,hS⟩|go_at_call 92;refine(AX7 Hend.out W _ _ hS).mono ?_;clear hS;rintro ex w ⟨rfl,hS⟩|refine zl1 hS ?_|refine zlN hS ?_|go_at_call 136;refine(RD7 h0 h1 Hr.out W _ _ hS).mono ?_;clear hS;rintro ex w ⟨rfl,hS⟩|refine zsN hS ?_;clear hS;intro w hS);apply Ab7;rfl;rfl;rfl;rfl;exact hS;decide +kernel;(exact x9);kernel_rfl;exact⟨rfl,hS.s _⟩
theorem Ia7{rx:List Int}(h:∀y,¬bj4 rx y)(hby:ByB rx)(hl:rx.length<=5000000)(v:Value)(W w:World)(R:List HP)(hS:St W (byR v rx::R) w):
  Calls Tryz.prog 155 #[v] w fun x w'=>x=.returned (.tuple #[rV 0 0 0 0 0 0,.I 3])/\St W R w':=by
 obtain⟨a,c,rfl,hd⟩:=BF7 hS;have Hat:=jH (BG7 hd);have hrd:RdOk (some rx):=⟨fun l hl2=>by cases hl2;exact hby,fun l hl2=>by cases hl2;omega⟩
 have hn:w6 6 (some rx)=w6 6 (some rx):=rfl;have hb:=Eg7 6 (s:=some rx) (r:=[]) hrd.b;obtain⟨e,h0,q1⟩:∃x,0<=x/\(d8 (some rx)).1=x:=⟨_,(At7 _).1,rfl⟩
 obtain⟨i,h1,q2⟩:∃x,0<=x/\(d8 (d8 (some rx)).2).1=x:=⟨_,(At7 _).1,rfl⟩
 obtain⟨x0,q3⟩:∃x,(d8 (d8 (d8 (some rx)).2).2).1=x:=⟨_,rfl⟩
 obtain⟨x1,q4⟩:∃x,(d8 (d8 (d8 (d8 (some rx)).2).2).2).1=x:=⟨_,rfl⟩
 obtain⟨x2,q5⟩:∃x,(d8 (d8 (d8 (d8 (d8 (some rx)).2).2).2).2).1=x:=⟨_,rfl⟩
 obtain⟨x3,q6⟩:∃x,(d8 (d8 (d8 (d8 (d8 (d8 (some rx)).2).2).2).2).2).1=x:=⟨_,rfl⟩
 obtain⟨s2,q7⟩:∃s,(w6 6 (some rx)).2=s:=⟨_,rfl⟩
 have hn:w6 6 (some rx)=([e,i,x0,x1,x2,x3],s2):=by rw[<-q1,<-q2,<-q3,<-q4,<-q5,<-q6,<-q7];rfl
 clear q1 q2 q3 q4 q5 q6 q7;rw[hn]at hb;simp only at hb;have Hrd:=jH hrd;have Hn:=jH hn
 cases he:ar4 s2 with
 | false=>
  have Hend:=jH he;have Hr:=jH (rfl:rpM e i x0 x1 x2 x3=rpM e i x0 x1 x2 x3);clear hd hrd hn h hby hb he;go_enter Tryz.func155,Tryz.ntmps155;go_wp2_with(first|go_big_skip|(fail_if_success (have:=a1));(refine zal hS ?_;clear hS;have a1:Nat:=0;intro b0 w hS)|(have:=a1);(fail_if_success (have:=a2));(refine zal hS ?_;clear hS;have a2:Nat:=0;intro bX w hS)|(have:=a2);(fail_if_success (have:=a3));(refine zal hS ?_;clear hS;have a3:Nat:=0;intro bE w hS)|refine zs1 hS ?_;clear hS;intro w hS|go_at_call 86;refine(JO7 _ a c rx Hat.out (by omega) W _ _ _ (.tail (.tail (.tail .head))) hS).mono ?_;clear hS;rintro ex w ⟨v2,rb,rfl,hS⟩|refine zbs hS ?_;clear hS;intro bS w hS1;have hS2:St W (blk bS [.P bE,.pointer (some ⟨bX,1,none⟩),.pointer (some ⟨bX,2,none⟩),.pointer (some ⟨bX,3,none⟩),.pointer (some ⟨bX,4,none⟩),.pointer (some ⟨bX,5,none⟩)] 262::_) _:=hS1;clear hS1;have hS:=hS2;clear hS2|go_at_call 196;refine(ev4 Hrd.out .head (hS.s (rdG _ rb (some rx)::blk bE _ _::blk bX _ _::blk bS _ _::byR v2 rx::blk b0 _ _::byR _ rx::R)) Hn.out).mono ?_;clear hS;rintro ex w ⟨rfl,hS⟩|go_at_call 92;refine(AX7 Hend.out W _ _ hS).mono ?_;clear hS;rintro ex w ⟨rfl,hS⟩|refine zl1 hS ?_|refine zsN hS ?_;clear hS;intro w hS);apply Ab7;rfl;rfl;rfl;rfl;exact hS;decide +kernel;(exact x9);kernel_rfl;exact⟨rfl,hS.s _⟩
 | true=>
  have hr:rpM e i x0 x1 x2 x3=false:=by
   cases hr:rpM e i x0 x1 x2 x3 with
   | false=>rfl
   | true=>
    refine absurd ⟨RC7 h0 h1 hr,?_⟩ (h ⟨e,i,⟨x0,x1,x2,x3⟩⟩);have h2:=Option.some.inj (hb (Fu7 he));rw[List.append_nil]at h2;rw[He7];exact h2
  have Hend:=jH he;have Hr:=jH hr;clear hd hrd hn h hby hb he hr;go_enter Tryz.func155,Tryz.ntmps155;go_wp2_with(first|(fail_if_success (have:=a1));(refine zal hS ?_;clear hS;have a1:Nat:=0;intro b0 w hS)|(have:=a1);(fail_if_success (have:=a2));(refine zal hS ?_;clear hS;have a2:Nat:=0;intro bX w hS)|(have:=a2);(fail_if_success (have:=a3));(refine zal hS ?_;clear hS;have a3:Nat:=0;intro bE w hS)|refine zs1 hS ?_;clear hS;intro w hS|go_at_call 86;refine(JO7 _ a c rx Hat.out (by omega) W _ _ _ (.tail (.tail (.tail .head))) hS).mono ?_;clear hS;rintro ex w ⟨v2,rb,rfl,hS⟩|refine zbs hS ?_;clear hS;intro bS w hS1;have hS2:St W (blk bS [.P bE,.pointer (some ⟨bX,1,none⟩),.pointer (some ⟨bX,2,none⟩),.pointer (some ⟨bX,3,none⟩),.pointer (some ⟨bX,4,none⟩),.pointer (some ⟨bX,5,none⟩)] 262::_) _:=hS1;clear hS1;have hS:=hS2;clear hS2|go_at_call 196;refine(ev4 Hrd.out .head (hS.s (rdG _ rb (some rx)::blk bE _ _::blk bX _ _::blk bS _ _::byR v2 rx::blk b0 _ _::byR _ rx::R)) Hn.out).mono ?_;clear hS;rintro ex w ⟨rfl,hS⟩|go_at_call 92;refine(AX7 Hend.out W _ _ hS).mono ?_;clear hS;rintro ex w ⟨rfl,hS⟩|refine zl1 hS ?_|refine zlN hS ?_|go_at_call 136;refine(RD7 h0 h1 Hr.out W _ _ hS).mono ?_;clear hS;rintro ex w ⟨rfl,hS⟩|refine zsN hS ?_;clear hS;intro w hS);apply Ab7;rfl;rfl;rfl;rfl;exact hS;decide +kernel;(exact x9);kernel_rfl;exact⟨rfl,hS.s _⟩
section
variable{W w:World}{vb mb bb:Nat}{p p2:Ps}{L L2:List Ord}{n r:Int}{u1 u2:Value}{L1 R1:List HP}
end
section
variable{W w:World}{xb xB:Nat}{p p2:Ps}{L L2:List Ord}{n r:Int}{N:Nat}{R:List HP}
end
section
variable{W w:World}{vb mb bb xb xB:Nat}{p p2:Ps}{L L2:List Ord}{n n2 r1 r2:Int}{N:Nat}{R:List HP}{o:Ord}
end
def PlR(W:World)(Lr:List HP)(m vb mb bb xb xB:Nat)(v:Value)(w:World):Prop:=
 ∃(i:Nat) (p:Ps) (L:List Ord) (n:Int),v=.I i/\i<=m/\i<=100/\VOk p n i/\es4 L/\St W (t8 vb mb bb p L n (xvR xb xB p L n Lr)) w
theorem RE7{b:List Int}{q:Ps}{L:List Ord}{n:Int}(hb:ByB b)(h:VGk b q L n):P8 q/\PsW q (b.length+1):=by obtain⟨s,h1,_⟩:=h;have h2:=(et4 hb h1).1;exact⟨h2.ok,h2.w⟩
def D5{α:Type}(S:List Int->α->List Int->Prop):List Int->List α->List Int->Prop
 | b,[],r=>b=r
 | b,x::l,r=>∃m,S b x m/\D5 S m l r
section
variable{α β:Type}{S:List Int->α->List Int->Prop}
theorem Bd7:∀{l:List α} {b m r:List Int} {x:α},D5 S b l m->S m x r->D5 S b (l++[x]) r
 | [],_,_,_,_,h,h2=>by cases h;exact⟨_,h2,rfl⟩
 | _::_,_,_,_,_,⟨q,h,h1⟩,h2=>⟨q,h,Bd7 h1 h2⟩
theorem AY7(hd:∀b x y r r',S b x r->S b y r'->x=y/\r=r'):∀{l l':List α} {b r r':List Int},D5 S b l r->D5 S b l' r'->l.length=l'.length->l=l'/\r=r'
 | [],[],_,_,_,h,h',_=>by cases h;cases h';exact⟨rfl,rfl⟩
 | [],_::_,_,_,_,_,_,hl=>by cases hl
 | _::_,[],_,_,_,_,_,hl=>by cases hl
 | x::l,y::l',b,r,r',⟨m,h,h1⟩,⟨m',h',h1'⟩,hl=>by obtain⟨rfl,rfl⟩:=hd _ _ _ _ _ h h';obtain⟨rfl,rfl⟩:=AY7 hd h1 h1' (by simpa using hl);exact⟨rfl,rfl⟩
theorem IB7(hd:∀b x y r r',S b x r->S b y r'->x=y/\r=r'):∀{l l':List α} {b m r:List Int},D5 S b l m->D5 S b l' r->l.length<=l'.length->∃l2,l'=l++l2/\D5 S m l2 r
 | [],l',_,_,_,h,h',_=>by cases h;exact⟨l',rfl,h'⟩
 | _::_,[],_,_,_,_,_,hl=>by simp at hl
 | x::l,y::l',b,m,r,⟨q,h,h1⟩,⟨q',h',h1'⟩,hl=>by obtain⟨rfl,rfl⟩:=hd _ _ _ _ _ h h';obtain⟨l2,rfl,h2⟩:=IB7 hd h1 h1' (by simpa using hl);exact⟨l2,rfl,h2⟩
theorem Cd7{f:α->List Int}(hf:∀b x r,ByB b->S b x r->b=f x++r/\ByB r):∀{l:List α} {b r:List Int},ByB b->D5 S b l r->b=l.flatMap f++r/\ByB r
 | [],_,_,h,h1=>by cases h1;exact⟨rfl,h⟩
 | x::l,b,r,h,⟨m,h1,h2⟩=>by obtain⟨h3,h4⟩:=hf _ _ _ h h1;obtain⟨h5,h6⟩:=Cd7 hf h4 h2;refine⟨?_,h6⟩;rw[List.flatMap_cons,jS,<-h5];exact h3
theorem BD7{I:List Int->Prop}{P:α->Prop}(hp:∀b x r,I b->S b x r->P x/\I r):∀{l:List α} {b r:List Int},I b->D5 S b l r->(∀x∈l,P x)/\I r
 | [],_,_,h,h1=>by cases h1;exact⟨fun _ h=>(by cases h),h⟩
 | y::l,b,r,h,⟨m,h1,h2⟩=>by
  obtain⟨h3,h4⟩:=hp _ _ _ h h1;obtain⟨h5,h6⟩:=BD7 hp h4 h2;refine⟨fun x hx=>?_,h6⟩
  rcases List.mem_cons.1 hx with rfl|hx
  ·exact h3
  ·exact h5 x hx
theorem DA7{f:β->List Int}{key:α->β}{P:β->Prop}(hk:∀a y r r',P a->S (f a++r) y r'->key y=a/\r'=r):∀{l':List α} {l:List β} {r r':List Int},(∀a∈l,P a)->D5 S (l.flatMap f++r) l' r'->l'.length=l.length->l'.map key=l/\r'=r
 | [],[],_,_,_,h,_=>by cases h;exact⟨rfl,rfl⟩
 | [],_::_,_,_,_,_,hl=>by cases hl
 | _::_,[],_,_,_,_,hl=>by cases hl
 | y::l',a::l,r,r',hp,⟨m,h1,h2⟩,hl=>by rw[List.flatMap_cons,jS]at h1;obtain⟨rfl,rfl⟩:=hk _ _ _ _ (hp a (List.mem_cons_self ..)) h1;obtain⟨h3,rfl⟩:=DA7 hk (fun b hb=>hp b (List.mem_cons_of_mem _ hb)) h2 (by simpa using hl);exact⟨by rw[List.map_cons,h3],rfl⟩
end
def H9(b:List Int)(x:ByteArray×Vs)(r:List Int):Prop:=
 (j5 (j5 (some b)).2).2=some r/\x.1=x6 (j5 (some b)).1/\y5 x.1=true/\VGk (j5 (j5 (some b)).2).1 x.2.ps x.2.L x.2.n/\G9 x.2=false
def O7(b:List Int)(x:Int×(Int×Rpl))(r:List Int):Prop:=
 (j5 (d8 (d8 (some b)).2).2).2=some r/\x.1=(d8 (some b)).1/\x.2.1=(d8 (d8 (some b)).2).1/\whB x.1 x.2.1=true/\bj4 (j5 (d8 (d8 (some b)).2).2).1 x.2.2
def dj4(s:RS):RS:=(d8 (d8 s).2).2
def dk4(s:RS):RS:=(j5 (dj4 s)).2
def dl4(s:RS):RS:=(j5 (dk4 s)).2
def dm4(s:RS):RS:=(j5 (dl4 s)).2
def dn4(s:RS):RS:=(j5 (dm4 s)).2
def do4(s:RS):RS:=(d8 (dn4 s)).2
def dO4(s:RS):RS:=(d8 (do4 s)).2
def rdT(s:RS):Tns:=⟨(d8 s).1,(d8 (d8 s).2).1,x6 (j5 (dj4 s)).1,x6 (j5 (dk4 s)).1,x6 (j5 (dl4 s)).1,x6 (j5 (dm4 s)).1,(d8 (dn4 s)).1,(d8 (do4 s)).1⟩
def T5(b:List Int)(x:(Int×Int)×Tns)(r:List Int):Prop:=
 dO4 (some b)=some r/\x.2=rdT (some b)/\x.1=(x.2.client,x.2.seq)/\cX4 x.2=true
def aF4(b:List Int)(x:(Int×Int)×Unit)(r:List Int):Prop:=
 (d8 (d8 (some b)).2).2=some r/\x.1=((d8 (some b)).1,(d8 (d8 (some b)).2).1)/\whB x.1.1 x.1.2=true
theorem DB7{b:List Int}(h:ByB b):BS (some b):=fun l hl=>by cases hl;exact h
theorem FL7{s:RS}(h:BS s):BS (d8 s).2:=fun _ hr=>(AW7 h hr).2.2.2
theorem ES7{s:RS}(h:BS s):BS (j5 s).2:=fun _ hr=>(Ci7 h hr).2
theorem Hf7{s:RS}{r:List Int}(hb:BS s)(h:(j5 s).2=some r):s=some (B6 (j5 s).1++r)/\ByB r:=by obtain⟨l,rfl⟩:=AO7 h;obtain⟨h1,h2,h3⟩:=FJ7 (hb l rfl) (show j5 (some l)=((j5 (some l)).1,some r)by rw[<-h]);refine⟨?_,h3⟩;rw[<-GZ7,BU7 h2]at h1;rw[<-h1]
theorem CE7{l x r:List Int}(h:some l=some (x++r)):l=x++r:=Option.some.inj h
def fK(x:ByteArray×Vs):List Int:=y8 x.1++B6 (I9 x.2.ps x.2.L x.2.n)
theorem DC7(b:List Int)(x:ByteArray×Vs)(r:List Int)(hb:ByB b)(h:H9 b x r):b=fK x++r/\ByB r:=by obtain⟨h1,h2,_,h4,_⟩:=h;obtain⟨l1,e1⟩:=AO7 h1;obtain⟨a1,a2⟩:=Ci7 (DB7 hb) e1;have hb1:BS (j5 (some b)).2:=ES7 (DB7 hb);obtain⟨c1,c2⟩:=Hf7 hb1 h1;obtain⟨s,_,_,_,_,g5⟩:=h4;refine⟨?_,c2⟩;rw[e1]at c1;have c3:=CE7 c1;rw[<-e1,<-g5]at c3;unfold fK;rw[jS,<-c3,h2];exact CE7 a1
theorem ET7(b:List Int)(x:Int×(Int×Rpl))(r:List Int)(hb:ByB b)(h:O7 b x r):b=fSe x++r/\ByB r:=by obtain⟨h1,h2,h3,_,h5,h6⟩:=h;obtain⟨l2,e2⟩:=AO7 h1;obtain⟨l1,e1⟩:=Aq7 e2;obtain⟨a1,_,_,a4⟩:=AW7 (DB7 hb) e1;obtain⟨c1,_,_,c4⟩:=AW7 (FL7 (DB7 hb)) e2;obtain⟨d1,d2⟩:=Hf7 (FL7 (FL7 (DB7 hb))) h1;refine⟨?_,d2⟩;rw[e1]at c1;rw[e2]at d1;have c3:=CE7 c1;have d3:=CE7 d1;rw[<-e1]at c3;rw[<-e2,h6]at d3;unfold fSe l9;simp only[List.flatMap_cons,List.flatMap_nil,List.append_nil,jS];rw[<-d3,h3,<-c3,h2];exact CE7 a1
theorem EU7(b:List Int)(x:(Int×Int)×Unit)(r:List Int)(hb:ByB b)(h:aF4 b x r):b=fAr x++r/\ByB r:=by obtain⟨h1,h2,_⟩:=h;obtain⟨l1,e1⟩:=Aq7 h1;obtain⟨a1,_,_,a4⟩:=AW7 (DB7 hb) e1;obtain⟨c1,_,_,c4⟩:=AW7 (FL7 (DB7 hb)) h1;refine⟨?_,c4⟩;rw[e1]at c1;have c3:=CE7 c1;rw[<-e1]at c3;unfold fAr l9;simp only[List.flatMap_cons,List.flatMap_nil,List.append_nil,jS];rw[h2];simp only;rw[<-c3];exact CE7 a1
theorem Rb7{b r:List Int}(h:dO4 (some b)=some r):∃l1 l2 l3 l4 l5 l6 l7,(d8 (some b)).2=some l1/\dj4 (some b)=some l2/\dk4 (some b)=some l3/\dl4 (some b)=some l4/\dm4 (some b)=some l5/\dn4 (some b)=some l6/\do4 (some b)=some l7:=by obtain⟨l7,e7⟩:=Aq7 (s:=do4 (some b)) h;obtain⟨l6,e6⟩:=Aq7 (s:=dn4 (some b)) e7;obtain⟨l5,e5⟩:=AO7 (s:=dm4 (some b)) e6;obtain⟨l4,e4⟩:=AO7 (s:=dl4 (some b)) e5;obtain⟨l3,e3⟩:=AO7 (s:=dk4 (some b)) e4;obtain⟨l2,e2⟩:=AO7 (s:=dj4 (some b)) e3;obtain⟨l1,e1⟩:=Aq7 e2;exact⟨l1,l2,l3,l4,l5,l6,l7,e1,e2,e3,e4,e5,e6,e7⟩
theorem DT7{s:RS}{l r:List Int}(hb:BS s)(hs:s=some l)(h:(j5 s).2=some r):l=y8 (x6 (j5 s).1)++r:=by have h1:=(Ci7 hb h).1;exact CE7 (hs.symm.trans h1)
theorem DD7(b:List Int)(x:(Int×Int)×Tns)(r:List Int)(hb:ByB b)(h:T5 b x r):b=enT x++r/\ByB r:=by obtain⟨h1,h2,_,_⟩:=h;obtain⟨l1,l2,l3,l4,l5,l6,l7,e1,e2,e3,e4,e5,e6,e7⟩:=Rb7 h1;have b0:=DB7 hb;have b1:BS (d8 (some b)).2:=FL7 b0;have b2:BS (dj4 (some b)):=FL7 b1;have b3:BS (dk4 (some b)):=ES7 b2;have b4:BS (dl4 (some b)):=ES7 b3;have b5:BS (dm4 (some b)):=ES7 b4;have b6:BS (dn4 (some b)):=ES7 b5;have b7:BS (do4 (some b)):=FL7 b6;have a0:=ER7 b0 rfl e1;have a1:=ER7 b1 e1 e2;have a2:=DT7 b2 e2 e3;have a3:=DT7 b3 e3 e4;have a4:=DT7 b4 e4 e5;have a5:=DT7 b5 e5 e6;have a6:=ER7 b6 e6 e7;have a7:=ER7 b7 e7 h1;refine⟨?_,FL7 b7 _ h1⟩;unfold enT l9;simp only[GZ7];rw[h2];unfold rdT;simp only[List.flatMap_cons,List.flatMap_nil,List.append_nil,jS];rw[<-a7,<-a6,<-a5,<-a4,<-a3,<-a2,<-a1];exact a0
theorem Ph7{rx:List Int}{x y:Rpl}(h:bj4 rx x)(h':bj4 rx y):x=y:=by have h1:=Gb7 h.1;have h2:=Gb7 h'.1;rw[<-h.2]at h1;rw[<-h'.2,h1]at h2;obtain⟨xe,xi,⟨x0,x1,x2,x3⟩⟩:=x;obtain⟨ye,yi,⟨y0,y1,y2,y3⟩⟩:=y;simp only[Prod.mk.injEq,List.cons.injEq,and_true]at h2;obtain⟨rfl,rfl,rfl,rfl,rfl,rfl⟩:=h2;rfl
theorem BE7(b:List Int)(x y:ByteArray×Vs)(r r':List Int)(h:H9 b x r)(h':H9 b y r'):x=y/\r=r':=by
 obtain⟨h1,h2,_,h4,_⟩:=h;obtain⟨h1',h2',_,h4',_⟩:=h';rw[h1]at h1'
 cases h1'
 obtain⟨e1,e2,e3⟩:=FZ7 h4 h4';obtain⟨xk,xp,xl,xn⟩:=x;obtain⟨yk,yp,yl,yn⟩:=y;simp only at h2 h2' e1 e2 e3;subst h2 h2' e1 e2 e3;exact⟨rfl,rfl⟩
theorem Cr7(b:List Int)(x y:Int×(Int×Rpl))(r r':List Int)(h:O7 b x r)(h':O7 b y r'):x=y/\r=r':=by
 obtain⟨h1,h2,h3,_,h5⟩:=h;obtain⟨h1',h2',h3',_,h5'⟩:=h';rw[h1]at h1'
 cases h1'
 have e:=Ph7 h5 h5';obtain⟨xk,xq,xr⟩:=x;obtain⟨yk,yq,yr⟩:=y;simp only at h2 h2' h3 h3' e;subst h2 h2' h3 h3' e;exact⟨rfl,rfl⟩
theorem DE7(b:List Int)(x y:(Int×Int)×Tns)(r r':List Int)(h:T5 b x r)(h':T5 b y r'):x=y/\r=r':=by
 obtain⟨h1,h2,h3,_⟩:=h;obtain⟨h1',h2',h3',_⟩:=h';rw[h1]at h1'
 cases h1'
 exact⟨Prod.ext (by rw[h3,h3',h2,h2']) (by rw[h2,h2']),rfl⟩
theorem Hg7(b:List Int)(x y:(Int×Int)×Unit)(r r':List Int)(h:aF4 b x r)(h':aF4 b y r'):x=y/\r=r':=by
 obtain⟨h1,h2,_⟩:=h;obtain⟨h1',h2',_⟩:=h';rw[h1]at h1'
 cases h1'
 exact⟨Prod.ext (by rw[h2,h2']) rfl,rfl⟩
theorem DF7{x:List Int}(_:ByB x)(hl:x.length<=5000000)(r:List Int):j5 (some (B6 x++r))=(x,some r):=by
 unfold j5 B6;rw[jS,As7 (by omega) (by omega)];unfold S8;simp only;rw[if_pos ⟨by omega,by rw[jA];omega⟩];have e:((x.length:Int)).toNat=x.length:=by omega
 rw[e,List.take_left,List.drop_left]
theorem Pi7{k:ByteArray}{z:List Int}(hk:k.size<=16)(hz:ByB z)(hl:z.length<=5000000){y:ByteArray×Vs}{r r':List Int}(h:H9 (B6 (y7 k)++B6 z++r) y r'):y.1=k/\r'=r:=by obtain⟨h1,h2,_⟩:=h;rw[jS,DF7 (Dd7 k) (by rw[AF7];omega)]at h1 h2;simp only at h1 h2;rw[DF7 hz hl]at h1;exact⟨h2.trans (EM7 k),(Option.some.inj h1).symm⟩
theorem Pj7{c q:Int}{z:List Int}(hw:br4 (c,q))(hz:ByB z)(hl:z.length<=5000000){y:Int×(Int×Rpl)}{r r':List Int}(h:O7 (l9 [c,q]++B6 z++r) y r'):y.1=c/\r'=r:=by
 obtain⟨⟨w1,w2⟩,w3,w4⟩:=hw;simp only at w1 w2 w3 w4;obtain⟨h1,h2,_⟩:=h;have e:l9 [c,q]++B6 z++r=j9 c++(j9 q++(B6 z++r)):=by unfold l9;simp
 rw[e,As7 (by omega) (by omega)]at h1 h2;simp only at h1 h2;rw[As7 (by omega) (by omega)]at h1;simp only at h1;rw[DF7 hz hl]at h1;exact⟨h2,(Option.some.inj h1).symm⟩
theorem Pk7{a:Int×Int}(hw:br4 a){y:(Int×Int)×Unit}{r r':List Int}(h:aF4 (enA a++r) y r'):y.1=a/\r'=r:=by
 obtain⟨⟨w1,w2⟩,w3,w4⟩:=hw;obtain⟨h1,h2,_⟩:=h;have e:enA a++r=j9 a.1++(j9 a.2++r):=by unfold enA l9;simp
 rw[e,As7 (by omega) (by omega)]at h1 h2;simp only at h1 h2;rw[As7 (by omega) (by omega)]at h1 h2;exact⟨h2,(Option.some.inj h1).symm⟩
theorem SL7{x:(Int×Int)×Tns}(h:TnOk x.2)(r:List Int):rdT (some (enT x++r))=x.2/\dO4 (some (enT x++r))=some r:=by
 obtain⟨k,⟨tc,tq,ak,aw,tk,tw,ti,tn⟩⟩:=x;obtain⟨⟨⟨w1,w2⟩,w3,w4⟩,h1,h2,h3,h4,i0,i1,c0,c1⟩:=h;simp only at w1 w2 w3 w4 h1 h2 h3 h4 i0 i1 c0 c1;have e:enT (k,⟨tc,tq,ak,aw,tk,tw,ti,tn⟩)++r=j9 tc++(j9 tq++(y8 ak++(y8 aw++(y8 tk++(y8 tw++(j9 ti++(j9 tn++r))))))):=by unfold enT l9;simp only[GZ7];simp
 rw[e];have q1:=As7 (n:=tc) (by omega) (by omega) (j9 tq++(y8 ak++(y8 aw++(y8 tk++(y8 tw++(j9 ti++(j9 tn++r)))))));have q2:=As7 (n:=tq) (by omega) (by omega) (y8 ak++(y8 aw++(y8 tk++(y8 tw++(j9 ti++(j9 tn++r))))));have q3:=Bx7 ak (by omega) (y8 aw++(y8 tk++(y8 tw++(j9 ti++(j9 tn++r)))));have q4:=Bx7 aw (by omega) (y8 tk++(y8 tw++(j9 ti++(j9 tn++r))));have q5:=Bx7 tk (by omega) (y8 tw++(j9 ti++(j9 tn++r)));have q6:=Bx7 tw (by omega) (j9 ti++(j9 tn++r));have q7:=As7 (n:=ti) (by omega) (by omega) (j9 tn++r);have q8:=As7 (n:=tn) (by omega) (by omega) r;unfold rdT dO4 do4 dn4 dm4 dl4 dk4 dj4;simp only[q1,q2,q3,q4,q5,q6,q7,q8,EM7];exact⟨trivial,trivial⟩
theorem Pl7{a:(Int×Int)×Tns}(ha:TnOk a.2/\a.1=(a.2.client,a.2.seq)){y:(Int×Int)×Tns}{r r':List Int}(h:T5 (enT a++r) y r'):y=a/\r'=r:=by obtain⟨h1,h2,h3,_⟩:=h;obtain⟨e1,e2⟩:=SL7 ha.1 r;rw[e1]at h2;rw[e2]at h1;exact⟨Prod.ext (by rw[h3,h2,ha.2]) h2,(Option.some.inj h1).symm⟩
section
variable{κ ν:Type}[DecidableEq κ]
def ptL(l:List (κ×ν))(x:κ×ν):List (κ×ν):=x::l8 l x.1
def I5(l:List (κ×ν)):List (κ×ν):=l.foldl ptL []
theorem TE7{l:List (κ×ν)}(h:(l.map (·.1)).Nodup)(x:κ×ν):((ptL l x).map (·.1)).Nodup:=by have h1:((l8 l x.1).map (·.1)).Nodup:=h.sublist (List.filter_sublist.map _);unfold ptL;rw[List.map_cons,List.nodup_cons];refine⟨fun h=>?_,h1⟩;obtain⟨y,hy,hk⟩:=List.mem_map.1 h;have:=(List.mem_filter.1 hy).2;simp only[ne_eq,decide_not,Bool.not_eq_eq_eq_not,Bool.not_true,decide_eq_false_iff_not]at this;exact this hk
theorem Pm7:∀(l a:List (κ×ν)),(a.map (·.1)).Nodup->((l.foldl ptL a).map (·.1)).Nodup
 | [],_,h=>h
 | x::l,a,h=>Pm7 l _ (TE7 h x)
theorem Mr7:∀(l a:List (κ×ν)),(l.foldl ptL a).Sublist (l.reverse++a)
 | [],a=>List.Sublist.refl _
 | x::l,a=>by rw[List.foldl_cons,List.reverse_cons,jS];refine(Mr7 l (ptL a x)).trans (List.Sublist.append_left ?_ _);unfold ptL l8;exact List.filter_sublist.cons_cons x
theorem Gc7(l:List (κ×ν)):((I5 l).map (·.1)).Nodup:=Pm7 l [] List.nodup_nil
theorem CU7(l:List (κ×ν)):(I5 l).Sublist l.reverse:=by have:=Mr7 l [];rwa [List.append_nil]at this
theorem Bt7{l:List (κ×ν)}{x:κ×ν}(h:x∈I5 l):x∈l:=List.mem_reverse.1 ((CU7 l).subset h)
theorem Ms7:∀(l a:List (κ×ν)),((l.reverse++a).map (·.1)).Nodup->l.foldl ptL a=l.reverse++a
 | [],_,_=>rfl
 | x::l,a,h=>by
  rw[List.reverse_cons,jS]at h;have h2:(((x::a:List (κ×ν))).map (·.1)).Nodup:=(List.nodup_append.1 (by rw[List.map_append]at h;exact h)).2.1;rw[List.map_cons,List.nodup_cons]at h2;have e:ptL a x=x::a:=by unfold ptL;rw[Ec7 fun y hy e=>h2.1 (List.mem_map.2 ⟨y,hy,e⟩)]
  rw[List.foldl_cons,e,Ms7 l (x::a) h,List.reverse_cons,jS];rfl
theorem EV7{l:List (κ×ν)}(h:(l.map (·.1)).Nodup):I5 l=l.reverse:=by have:=Ms7 l [] (by rw[List.append_nil,List.map_reverse];exact((List.reverse_perm _).nodup_iff).2 h);rwa [List.append_nil]at this
end
def ofX(X:Ec):Ec:=⟨I5 X.vs,I5 X.ss,I5 X.ts,I5 X.ar⟩
def bk4(X:Ec):Prop:=Asc ltB X.vs/\Asc ltI X.ss/\Asc ltW X.ts/\Asc ltW X.ar
def aT4(b:List Int)(X:Ec)(r:List Int):Prop:=∃b1 b2 b3 b4 b5 b6 b7,d8 (some b)=((X.vs.length:Int),some b1)/\D5 H9 b1 X.vs b2/\d8 (some b2)=((X.ss.length:Int),some b3)/\D5 O7 b3 X.ss b4/\d8 (some b4)=((X.ts.length:Int),some b5)/\D5 T5 b5 X.ts b6/\d8 (some b6)=((X.ar.length:Int),some b7)/\D5 aF4 b7 X.ar r
def J5(b:List Int)(X:Ec):Prop:=aT4 b X []
theorem Cj7{b r r':List Int}{X Y:Ec}(h:aT4 b X r)(h':aT4 b Y r'):X=Y/\r=r':=by obtain⟨b1,b2,b3,b4,b5,b6,b7,h1,h2,h3,h4,h5,h6,h7,h8⟩:=h;obtain⟨c1,c2,c3,c4,c5,c6,c7,k1,k2,k3,k4,k5,k6,k7,k8⟩:=h';obtain⟨xv,xs,xt,xa⟩:=X;obtain⟨yv,ys,yt,ya⟩:=Y;simp only at *;rw[h1]at k1;simp only[Prod.mk.injEq,Option.some.injEq]at k1;obtain⟨e1,rfl⟩:=k1;obtain⟨rfl,rfl⟩:=AY7 BE7 h2 k2 (by omega);rw[h3]at k3;simp only[Prod.mk.injEq,Option.some.injEq]at k3;obtain⟨e3,rfl⟩:=k3;obtain⟨rfl,rfl⟩:=AY7 Cr7 h4 k4 (by omega);rw[h5]at k5;simp only[Prod.mk.injEq,Option.some.injEq]at k5;obtain⟨e5,rfl⟩:=k5;obtain⟨rfl,rfl⟩:=AY7 DE7 h6 k6 (by omega);rw[h7]at k7;simp only[Prod.mk.injEq,Option.some.injEq]at k7;obtain⟨e7,rfl⟩:=k7;obtain⟨rfl,rfl⟩:=AY7 Hg7 h8 k8 (by omega);exact⟨rfl,rfl⟩
theorem Di7{b:List Int}{n:Nat}{r:List Int}(hb:ByB b)(h:d8 (some b)=((n:Int),some r)):b=j9 n++r/\ByB r:=by obtain⟨h1,_,_,h4⟩:=CT7 hb h;exact⟨h1,h4⟩
def fm4(X:Ec):List Int:=j9 X.vs.length++X.vs.flatMap fK++j9 X.ss.length++X.ss.flatMap fSe++j9 X.ts.length++X.ts.flatMap enT++j9 X.ar.length++X.ar.flatMap fAr
theorem JW7{b:List Int}{X:Ec}(hb:ByB b)(h:J5 b X):b=fm4 X:=by obtain⟨b1,b2,b3,b4,b5,b6,b7,h1,h2,h3,h4,h5,h6,h7,h8⟩:=h;obtain⟨a1,g1⟩:=Di7 hb h1;obtain⟨a2,g2⟩:=Cd7 DC7 g1 h2;obtain⟨a3,g3⟩:=Di7 g2 h3;obtain⟨a4,g4⟩:=Cd7 ET7 g3 h4;obtain⟨a5,g5⟩:=Di7 g4 h5;obtain⟨a6,g6⟩:=Cd7 DD7 g5 h6;obtain⟨a7,g7⟩:=Di7 g6 h7;obtain⟨a8,_⟩:=Cd7 EU7 g7 h8;rw[List.append_nil]at a8;unfold fm4;simp only[jS];rw[<-a8,<-a7,<-a6,<-a5,<-a4,<-a3,<-a2];exact a1
theorem RF7{e:Ec}(hn:(e.vs.map (·.1)).Nodup):e.vs.flatMap fK=(e.vs.map (·.1)).flatMap (enK e):=by
 rw[List.flatMap_map];refine DP7 fun x hx=>?_
 have h2:atV e x.1=x.2:=by unfold atV;rw[BK7 (v:=x.2) hn hx];rfl
 unfold fK enK;rw[h2];unfold y8 B6;rw[AF7]
theorem EW7{X:Ec}(h:bk4 X):SameE X (ofX X):=by
 obtain⟨h1,h2,h3,h4⟩:=h;unfold ofX;refine⟨?_,?_,?_,?_⟩
 ·show X.vs.Perm (I5 X.vs)
  rw[EV7 (Bg7 Ch7 h1)];exact(List.reverse_perm _).symm
 ·show X.ss.Perm (I5 X.ss)
  rw[EV7 (Bg7 EC7 h2)];exact(List.reverse_perm _).symm
 ·show X.ts.Perm (I5 X.ts)
  rw[EV7 (Bg7 AP7 h3)];exact(List.reverse_perm _).symm
 ·show X.ar.Perm (I5 X.ar)
  rw[EV7 (Bg7 AP7 h4)];exact(List.reverse_perm _).symm
theorem Nb7{b:List Int}{X:Ec}(hb:ByB b)(h:J5 b X)(ha:bk4 X):bq4 (ofX X) b:=by have he:=JW7 hb h;obtain⟨h1,h2,h3,h4⟩:=ha;have n1:=Bg7 Ch7 h1;have n2:=Bg7 EC7 h2;refine HN7 n1 n2 (EW7 ⟨h1,h2,h3,h4⟩) ⟨X.ts,X.ar.map (·.1),List.Perm.refl _,h3,List.Perm.refl _,(List.pairwise_map (f:=fun x:(Int×Int)×Unit=>x.1) (R:=fun x y=>ltW x y=true)).2 h4,?_⟩;have e1:ksE X=X.vs.map (·.1):=GV7 h1;rw[e1,Ma7 h2,<-RF7 n1,<-OK7 n2,<-OL7];exact he
theorem KX7{t:Tns}(h:cX4 t=true):TnOk t:=GY7 (o:=⟨2,t.client,t.seq,t.ak,t.aw,t.tk,t.tw,t.item,t.cnt,0,false,0⟩) h rfl
theorem Hh7{α:Type}{f:α->List Int}:∀{l:List α} {a:α},a∈l->(f a).length<=(l.flatMap f).length
 | x::l,a,h=>by
  rw[List.flatMap_cons,jA]
  rcases List.mem_cons.1 h with rfl|h
  ·omega
  ·have:=Hh7 (f:=f) h;omega
theorem KY7{α:Type}{f:α->List Int}{l l':List α}(h:l.Sublist l'):(l.flatMap f).length<=(l'.flatMap f).length:=by
 induction h with
 | slnil=>exact Nat.le_refl _
 | cons a _ ih=>rw[List.flatMap_cons,jA];omega
 | cons_cons a _ ih=>rw[List.flatMap_cons,List.flatMap_cons,jA,jA];omega
theorem AD7{α:Type}{f:α->List Int}(hf:∀x,1<=(f x).length):∀l:List α,l.length<=(l.flatMap f).length
 | []=>Nat.le_refl _
 | x::l=>by rw[List.flatMap_cons,jA,jC];have:=AD7 hf l;have:=hf x;omega
theorem fY4{e:Ec}(hn:(e.vs.map (·.1)).Nodup):(ksE e).Pairwise fun x y=>ltB x y=true:=by
 have h1:=AN7 (e.vs.map (·.1));have h2:(aR4 (e.vs.map (·.1))).Nodup:=(Aw7 _).nodup_iff.2 hn;refine(h1.and h2).imp fun{a b} hab=>?_
 cases h:ltB a b with
 | true=>rfl
 | false=>exact absurd (Ez7 hab.1 (Rr7 (Ch7.tri _ _ h hab.2))) hab.2
theorem SM7{l:List Int}(hn:l.Nodup):(ag4 l).Pairwise fun x y=>ltI x y=true:=by
 have hp:(ag4 l).Pairwise fun x y=>decide (x<=y)=true:=List.pairwise_mergeSort (fun a b c h1 h2=>by simp only[decide_eq_true_eq]at *;omega) (fun a b=>by simp only[Bool.or_eq_true,decide_eq_true_eq];omega) l
 have h2:(ag4 l).Nodup:=(Cp7 _).nodup_iff.2 hn;refine(hp.and h2).imp fun{a b} hab=>?_
 obtain⟨h3,h4⟩:=hab;simp only[decide_eq_true_eq]at h3;unfold ltI;simp only[decide_eq_true_eq];omega
theorem KZ7{κ ν:Type}{lt:κ->κ->Bool}{l:List (κ×ν)}{ks:List κ}(h:l.map (·.1)=ks)(hp:ks.Pairwise fun x y=>lt x y=true):Asc lt l:=by rw[<-h]at hp;exact List.pairwise_map.1 hp
theorem EX7{n m:Nat}{r s:List Int}(hn:n<=5000000)(h:d8 (some (j9 (n:Int)++r))=((m:Int),some s)):m=n/\s=r:=by rw[As7 (by omega) (by omega)]at h;simp only[Prod.mk.injEq,Option.some.injEq]at h;exact⟨by omega,h.2.symm⟩
theorem Nc7{b:List Int}{X:Ec}(hb:ByB b)(hl:b.length<=5000000)(h:J5 b X)(he:bq4 (ofX X) b):bk4 X:=by
 obtain⟨T,A,t1,t2,t3,t4,hd⟩:=he;obtain⟨b1,b2,b3,b4,b5,b6,b7,h1,h2,h3,h4,h5,h6,h7,h8⟩:=h;obtain⟨_,g1⟩:=Di7 hb h1;obtain⟨pv,g2⟩:=BD7 (I:=ByB) (P:=fun x:ByteArray×Vs=>x.1.size<=16) (fun b x r hb h=>⟨Ds7 h.2.2.1,(DC7 b x r hb h).2⟩) g1 h2;obtain⟨_,g3⟩:=Di7 g2 h3;obtain⟨ps,g4⟩:=BD7 (I:=ByB) (P:=fun x:Int×(Int×Rpl)=>br4 (x.1,x.2.1)) (fun b x r hb h=>⟨Cq7 h.2.2.2.1,(ET7 b x r hb h).2⟩) g3 h4;obtain⟨_,g5⟩:=Di7 g4 h5;obtain⟨pt,g6⟩:=BD7 (I:=ByB) (P:=fun x:(Int×Int)×Tns=>TnOk x.2/\x.1=(x.2.client,x.2.seq)) (fun b x r hb h=>⟨⟨KX7 h.2.2.2,h.2.2.1⟩,(DD7 b x r hb h).2⟩) g5 h6;obtain⟨_,g7⟩:=Di7 g6 h7;obtain⟨pa,_⟩:=BD7 (I:=ByB) (P:=fun x:(Int×Int)×Unit=>br4 x.1) (fun b x r hb h=>⟨Cq7 h.2.2,(EU7 b x r hb h).2⟩) g7 h8;have nv:((ofX X).vs.map (·.1)).Nodup:=Gc7 X.vs;have ns:((ofX X).ss.map (·.1)).Nodup:=Gc7 X.ss;have hlen:=hl;rw[hd]at hlen;simp only[jA]at hlen;have lv:(ofX X).vs.length<=5000000:=by have:=AD7 (f:=enK (ofX X)) (fun k=>by unfold enK B6;have:=Bm7 (y7 k).length;simp only[jA];omega) (ksE (ofX X));rw[Ef7]at this;omega
 have ls:(ofX X).ss.length<=5000000:=by have:=AD7 (f:=enS (ofX X)) (fun c=>by unfold enS l9;have:=Bm7 c;simp only[List.flatMap_cons,jA];omega) (ag4 ((ofX X).ss.map (·.1)));rw[DO7,jM]at this;omega
 have lt:(ofX X).ts.length<=5000000:=by have:=AD7 (f:=enT) (fun x=>by unfold enT l9;have:=Bm7 x.2.client;simp only[List.flatMap_cons,jA];omega) T;rw[t1.length_eq]at this;omega
 have la:(ofX X).ar.length<=5000000:=by have:=AD7 (f:=enA) (fun c=>by unfold enA l9;have:=Bm7 c.1;simp only[List.flatMap_cons,jA];omega) A;rw[t3.length_eq,jM]at this;omega
 have hkv:∀k∈ksE (ofX X),k.size<=16/\(enK (ofX X) k).length<=5000000:=fun k hk=>by obtain⟨x,hx,rfl⟩:=List.mem_map.1 ((Aw7 _).mem_iff.1 hk);refine⟨pv x (Bt7 hx),?_⟩;have:=Hh7 (f:=enK (ofX X)) hk;omega
 simp only[jS]at hd;rw[hd]at h1;obtain⟨m1,rfl⟩:=EX7 lv h1;obtain⟨k1,rfl⟩:=DA7 (key:=fun y:ByteArray×Vs=>y.1) (P:=fun k=>k.size<=16/\(enK (ofX X) k).length<=5000000) (fun k y r r' hp hs=>by unfold enK at hs;refine Pi7 hp.1 (EQ7 _ _ _) ?_ hs;have h9:=hp.2;unfold enK B6 at h9;simp only[jA]at h9;omega) hkv h2 (by rw[Ef7];exact m1);obtain⟨m2,rfl⟩:=EX7 ls h3
 obtain⟨k2,rfl⟩:=DA7 (key:=fun y:Int×(Int×Rpl)=>y.1) (P:=fun c=>∃x∈(ofX X).ss,x.1=c) (fun c y r r' hp hs=>by
  obtain⟨x,hx,rfl⟩:=hp;have hg:p9 (ofX X).ss x.1=some x.2:=BK7 ns hx;unfold enS at hs;rw[hg]at hs;refine Pj7 (ps x (Bt7 hx)) (Ay7 (AG7 Av7 _) (AG7 Av7 _)) ?_ hs;have:=Dx7 x.2.2;show(rpB x.2.2).length<=_
  omega) (fun c hc=>List.mem_map.1 ((Cp7 _).mem_iff.1 hc)) h4 (by rw[DO7,jM];exact m2)
 obtain⟨m3,rfl⟩:=EX7 lt h5;obtain⟨k3,rfl⟩:=DA7 (key:=fun y:(Int×Int)×Tns=>y) (P:=fun x:(Int×Int)×Tns=>TnOk x.2/\x.1=(x.2.client,x.2.seq)) (fun a y r r' hp hs=>Pl7 hp hs) (fun x hx=>pt x (Bt7 (t1.mem_iff.1 hx))) h6 (by rw[t1.length_eq];exact m3);obtain⟨m4,rfl⟩:=EX7 la h7;obtain⟨k4,_⟩:=DA7 (r:=[]) (key:=fun y:(Int×Int)×Unit=>y.1) (P:=fun x:Int×Int=>br4 x) (fun a y r r' hp hs=>Pk7 hp hs) (fun x hx=>by obtain⟨y,hy,rfl⟩:=List.mem_map.1 (t3.mem_iff.1 hx);exact pa y (Bt7 hy)) (by rw[List.append_nil];exact h8) (by rw[t3.length_eq,jM];exact m4);refine⟨KZ7 k1 (fY4 nv),KZ7 k2 (SM7 ns),?_,KZ7 k4 t4⟩;rw[List.map_id']at k3;rw[k3];exact t2
theorem Nd7{N:Nat}(hN:N<=50000){b:List Int}{x:ByteArray×Vs}{r:List Int}(hb:ByB b/\b.length<=N)(h:H9 b x r):(x.1.size<=16/\VkOk x.2/\G9 x.2=false)/\(ByB r/\r.length<=N):=by
 obtain⟨e1,e2⟩:=DC7 b x r hb.1 h;obtain⟨h1,_,h3,h4,h5⟩:=h;have hl:b.length=(fK x).length+r.length:=by rw[e1,jA]
 have hz:I9 x.2.ps x.2.L x.2.n=(j5 (j5 (some b)).2).1:=by obtain⟨s,_,_,_,_,g5⟩:=h4;exact g5
 have hzl:(I9 x.2.ps x.2.L x.2.n).length<=(fK x).length:=by unfold fK B6;simp only[jA];omega
 have hby:ByB (j5 (j5 (some b)).2).1:=by rw[<-hz];exact EQ7 _ _ _
 have hps:=RE7 hby h4;rw[<-hz]at hps;obtain⟨s,_,_,_,g4,_⟩:=h4;exact⟨⟨Ds7 h3,⟨hps.1,AI7 hps.2 (by omega),g4.n0,g4.n1⟩,h5⟩,e2,by omega⟩
theorem RG7(x:ByteArray×Vs):1<=(fK x).length:=by unfold fK y8;have:=Bm7 x.1.size;simp only[jA];omega
theorem Pn7(x:Int×(Int×Rpl)):1<=(fSe x).length:=by unfold fSe l9;have:=Bm7 x.1;simp only[List.flatMap_cons,jA];omega
theorem Po7(x:(Int×Int)×Tns):1<=(enT x).length:=by unfold enT l9;have:=Bm7 x.2.client;simp only[List.flatMap_cons,jA];omega
theorem Pp7(x:(Int×Int)×Unit):1<=(fAr x).length:=by unfold fAr l9;have:=Bm7 x.1.1;simp only[List.flatMap_cons,jA];omega
theorem Hi7{b:List Int}{X:Ec}(hb:ByB b)(hl:b.length<=9000)(h:J5 b X):EncOk (ofX X)/\∀x∈X.vs,G9 x.2=false:=by
 have he:=JW7 hb h;obtain⟨b1,b2,b3,b4,b5,b6,b7,h1,h2,h3,h4,h5,h6,h7,h8⟩:=h;have hlen:=hl;rw[he]at hlen;unfold fm4 at hlen;simp only[jA]at hlen;have l1:=AD7 RG7 X.vs;have l2:=AD7 Pn7 X.ss;have l3:=AD7 Po7 X.ts;have l4:=AD7 Pp7 X.ar;obtain⟨a1,g1⟩:=Di7 hb h1;have c1:b1.length<=9000:=by have:=congrArg List.length a1;rw[jA]at this;omega
 obtain⟨pv,g2,_⟩:=BD7 (I:=fun b=>ByB b/\b.length<=9000) (P:=fun x:ByteArray×Vs=>x.1.size<=16/\VkOk x.2/\G9 x.2=false) (fun b x r hb h=>Nd7 (by decide) hb h) ⟨g1,c1⟩ h2;obtain⟨_,g3⟩:=Di7 g2 h3;obtain⟨ps,g4⟩:=BD7 (I:=ByB) (P:=fun x:Int×(Int×Rpl)=>br4 (x.1,x.2.1)/\RpOk x.2.2) (fun b x r hb h=>⟨⟨Cq7 h.2.2.2.1,h.2.2.2.2.1⟩,(ET7 b x r hb h).2⟩) g3 h4;obtain⟨_,g5⟩:=Di7 g4 h5;obtain⟨pt,g6⟩:=BD7 (I:=ByB) (P:=fun x:(Int×Int)×Tns=>TnOk x.2/\x.1=(x.2.client,x.2.seq)) (fun b x r hb h=>⟨⟨KX7 h.2.2.2,h.2.2.1⟩,(DD7 b x r hb h).2⟩) g5 h6;obtain⟨_,g7⟩:=Di7 g6 h7;obtain⟨pa,_⟩:=BD7 (I:=ByB) (P:=fun x:(Int×Int)×Unit=>br4 x.1) (fun b x r hb h=>⟨Cq7 h.2.2,(EU7 b x r hb h).2⟩) g7 h8;have sv:(ofX X).vs.length<=X.vs.length:=by have:=(CU7 X.vs).length_le;rwa [List.length_reverse]at this
 have ss:(ofX X).ss.length<=X.ss.length:=by have:=(CU7 X.ss).length_le;rwa [List.length_reverse]at this
 have st:(ofX X).ts.length<=X.ts.length:=by have:=(CU7 X.ts).length_le;rwa [List.length_reverse]at this
 have sa:(ofX X).ar.length<=X.ar.length:=by have:=(CU7 X.ar).length_le;rwa [List.length_reverse]at this
 have hk:((ksE (ofX X)).flatMap (enK (ofX X))).length<=9000:=by have e1:((ksE (ofX X)).flatMap (enK (ofX X))).length=(((ofX X).vs.map (·.1)).flatMap (enK (ofX X))).length:=((Aw7 _).flatMap_right _).length_eq;rw[e1,<-RF7 (e:=ofX X) (Gc7 X.vs)];have e2:=KY7 (f:=fK) (CU7 X.vs);have e3:(X.vs.reverse.flatMap fK).length=(X.vs.flatMap fK).length:=((List.reverse_perm _).flatMap_right _).length_eq;have e4:((ofX X).vs.flatMap fK).length=((I5 X.vs).flatMap fK).length:=rfl;omega
 exact⟨⟨Gc7 X.vs,fun x hx=>(pv x (Bt7 hx)).1,fun x hx=>(pv x (Bt7 hx)).2.1,fun x hx=>(ps x (Bt7 hx)).1,fun x hx=>(ps x (Bt7 hx)).2,fun x hx=>pt x (Bt7 hx),fun x hx=>pa x (Bt7 hx),by omega,by omega,by omega,by omega,by omega⟩,fun x hx=>(pv x hx).2.2⟩
theorem JX7{e:Ec}{d:List Int}(h:bq4 e d):ByB d:=by
 obtain⟨T,A,_,_,_,_,rfl⟩:=h;have hr:∀z,ByB z->ByB (B6 z):=fun z hz=>Ay7 (Av7 _) hz
 have h1:∀k,ByB (enK e k):=fun k=>Ay7 (hr _ (Dd7 k)) (hr _ (EQ7 _ _ _))
 have h2:∀c,ByB (enS e c):=fun c=>Ay7 (AG7 Av7 _) (hr _ (Ay7 (AG7 Av7 _) (AG7 Av7 _)))
 have h3:∀x,ByB (enT x):=fun x=>Ay7 (Ay7 (AG7 Av7 _) (Ay7 (hr _ (Dd7 _)) (Ay7 (hr _ (Dd7 _)) (Ay7 (hr _ (Dd7 _)) (hr _ (Dd7 _)))))) (AG7 Av7 _)
 have h4:∀k,ByB (enA k):=fun k=>AG7 Av7 _
 exact Ay7 (Ay7 (Ay7 (Ay7 (Ay7 (Ay7 (Ay7 (Av7 _) (AG7 h1 _)) (Av7 _)) (AG7 h2 _)) (Av7 _)) (AG7 h3 _)) (Av7 _)) (AG7 h4 _)
end Go.Proofs.YtlmhakmoioogaaaGreat
end
