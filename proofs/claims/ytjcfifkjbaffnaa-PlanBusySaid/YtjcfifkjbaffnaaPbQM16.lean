/-
  The planner.
-/
import Derived.Test.YtjcfifkjbaffnaaPbQM5
import Derived.Test.YtjcfifkjbaffnaaPbQM15
import Derived.Test.YtjcfifkjbaffnaaProg
import Derived.Shelf.SlSortCmp.WholeK
import Derived.Ground.SlsfProg
import Derived.Ground.NamesProg
set_option maxHeartbeats 16000000
set_option maxRecDepth 100000
set_option linter.unusedSimpArgs false
set_option linter.unusedVariables false
section
namespace Go.Proofs.Ytjcfifkjbaffnaa
open Go.RowKit Go.Sl
section
variable{R:List HP}{W w:World}
theorem ag4:∀{A:List HP} {h:q9},sep (sats A) (sats R) h->sats (A++R) h
 | [],_,⟨_,_,h2⟩=>AN7 h2
 | _::_,_,hs=>Az7 (fun _ x=>x) (fun _ x=>ag4 x) (CX7 hs)
theorem GB7{h:q9}{A:List HP}(hs:sats A h):sep (sats []) (sats A) h:=⟨fun _=>false,trivial,by
 have:f7 (fun _=>false) h=h:=by funext b;rfl
 rw[this];exact hs⟩
theorem ah4:∀{A:List HP} {h:q9},sats (A++R) h->sep (sats A) (sats R) h
 | [],_,hs=>GB7 hs
 | _::_,_,hs=>Ei7 (Az7 (fun _ x=>x) (fun _ x=>ah4 x) hs)
theorem St.openP{A:List HP}(h:St W (sats A::R) w):St W (A++R) w:=⟨h.os,h.tape,h.output,ag4 h.sat⟩
theorem St.shutP(A:List HP)(h:St W (A++R) w):St W (sats A::R) w:=⟨h.os,h.tape,h.output,ah4 h.sat⟩
end
def aQ4(acc:List (Int×Ro))(r:Ro):List (Int×Ro):=if(l6 acc r.zone).isNone=true then(r.zone,⟨r.zone,J8 r.hits,r.mid⟩)::A5 acc r.zone else acc
def G7(l:List Ro):List (Int×Ro):=l.foldl aQ4 []
def aC4:List Ro->Int->Option Ro
 | [],_=>none
 | r::l,n=>if r.zone=n then some ⟨r.zone,J8 r.hits,r.mid⟩else aC4 l n
theorem HU7:∀(l:List Ro) (n:Int),(aC4 l n).getD ro0=F5 l n
 | [],_=>rfl
 | r::l,n=>by
  rw[aC4,F5];by_cases h:r.zone=n
  ·rw[if_pos h,if_pos h];rfl
  ·rw[if_neg h,if_neg h];exact HU7 l n
theorem DH7:∀(l:List Ro) (acc:List (Int×Ro)) (n:Int),l6 (l.foldl aQ4 acc) n=match l6 acc n with
  | some x=>some x
  | none=>aC4 l n
 | [],acc,n=>by
  rw[List.foldl_nil,aC4]
  cases l6 acc n <;> rfl
 | r::l,acc,n=>by
  rw[List.foldl_cons,DH7 l];unfold aQ4;by_cases hc:(l6 acc r.zone).isNone=true
  ·rw[if_pos hc,Cb7,aC4];by_cases h:r.zone=n
   ·subst h;rw[if_pos rfl,if_pos rfl];rw[Option.isNone_iff_eq_none]at hc;rw[hc]
   ·rw[if_neg h,if_neg h]
  ·rw[if_neg hc,aC4];by_cases h:r.zone=n
   ·subst h
    cases hg:l6 acc r.zone with
    | none=>rw[hg]at hc;exact absurd rfl hc
    | some x=>rfl
   ·rw[if_neg h]
theorem Ce7(l:List Ro)(n:Int):(l6 (G7 l) n).getD ro0=F5 l n:=by unfold G7;rw[DH7 l [] n];exact HU7 l n
theorem Hz7{l:List Ro}{i:Nat}(h:i<l.length):G7 (l.take (i+1))=aQ4 (G7 (l.take i)) l[i]:=by unfold G7;rw[List.take_succ_eq_append_getElem h,List.foldl_append];rfl
structure Pe where
 pb:Nat
 m1:Nat
 m2:Nat
 m3:Nat
 ver:Int
 nxt:Int
 hot:Int
 cold:Int
 zv:Value
 hv:Value
abbrev kB(b:Bool):Value:=.bool b
abbrev kRo(r:Ro):Value:=.agg r.cells.toArray
theorem tIB:s9 Try.prog 60=some (3,4):=by kernel_rfl
theorem tIR:s9 Try.prog 59=some (3,35):=by kernel_rfl
theorem zB0:r9 Try.prog 4=some (.bool false):=by kernel_rfl
theorem zR0:r9 Try.prog 35=some (.agg #[.I 0,.I 0,.string ⟨#[]⟩]):=by kernel_rfl
theorem Cg.len(c:Cg):c.cells.length=5:=rfl
def NmI(nl:List (Int×Bool))(nm:List Int):Prop:=∀k,(l6 nl k).getD false=decide (k∈nm)
theorem bM4:NmI [] []:=fun _=>rfl
theorem IB7{nl:List (Int×Bool)}{nm:List Int}(h:NmI nl nm)(x:Int):NmI ((x,true)::A5 nl x) (x::nm):=fun k=>by
 rw[Cb7];by_cases hk:x=k
 ·subst hk;rw[if_pos rfl];simp
 ·rw[if_neg hk,h k];rw[decide_eq_decide];constructor
  ·exact fun h=>List.mem_cons_of_mem _ h
  ·intro h2
   rcases List.mem_cons.1 h2 with e|h2
   ·exact absurd e.symm hk
   ·exact h2
def plB(E:Pe)(ov:Value):HP:=blk E.pb [.I E.ver,.I E.nxt,E.zv,.map (some E.m1),E.hv,.map (some E.m2),.map (some E.m3),.I E.hot,.I E.cold,ov] 63
def plX(E:Pe)(rl:List (Int×Ro))(s:Pn)(nl:List (Int×Bool))(ov:Value):List HP:=[plB E ov,f9 kI kRo E.m1 rl,f9 kI kB E.m2 nl,f9 kI kI E.m3 s.mv,row ov 5 42 s.out.length (s.out.flatMap Cg.cells)]
def plP(E:Pe)(rl:List (Int×Ro))(s:Pn):HP:=fun f=>∃x:List (Int×Bool)×Value,NmI x.1 s.nm/\sats (plX E rl s x.1 x.2) f
section
variable{E:Pe}{rl:List (Int×Ro)}{s:Pn}{W w:World}{R:List HP}
theorem p9(h:St W (plP E rl s::R) w):∃nl ov,NmI nl s.nm/\St W (plB E ov::f9 kI kRo E.m1 rl::f9 kI kB E.m2 nl::f9 kI kI E.m3 s.mv::row ov 5 42 s.out.length (s.out.flatMap Cg.cells)::R) w:=by obtain⟨⟨nl,ov⟩,h1⟩:=St.ex h;obtain⟨h2,h3⟩:=St.and h1;exact⟨nl,ov,h2,St.openP h3⟩
theorem C6{nl:List (Int×Bool)}{ov:Value}(hn:NmI nl s.nm)(h:St W (plB E ov::f9 kI kRo E.m1 rl::f9 kI kB E.m2 nl::f9 kI kI E.m3 s.mv::row ov 5 42 s.out.length (s.out.flatMap Cg.cells)::R) w):St W (plP E rl s::R) w:=by have h1:St W (sats (plX E rl s nl ov)::R) w:=St.shutP _ h;exact St.mkEx (nl,ov) (St.mkAnd hn h1)
end
theorem bj4(a b:Int)(c:ByteArray)(w:World):(Instr.field 35 (.agg #[.I a,.I b,.string c]) 1).run Try.prog w=.ok (.I b) w:=by kernel_rfl
theorem aR4(a b:Int)(c:ByteArray)(w:World):(Instr.field 35 (.agg #[.I a,.I b,.string c]) 2).run Try.prog w=.ok (.string c) w:=by kernel_rfl
section
variable{E:Pe}{rl:List (Int×Ro)}{s:Pn}{z0:Int}{z1 z2:ByteArray}{z3 z4 z5 z6:Int}{z7:ByteArray}{z8:Int}{W w:World}{R R':List HP}
theorem An7{r:Bool}(hr:x9 s ⟨z0,z1,z2,z3,z4,z5,z6,z7,z8⟩=r)(ht:Take R (plP E rl s) R')(hS:St W R w):
  Calls Try.prog 42 #[.pointer (some ⟨E.pb,0,none⟩),zV z0 z1 z2 z3 z4 z5 z6 z7 z8] w fun e w'=>e=.returned (.bool r)/\St W R w':=by
 suffices h:Calls Try.prog 42 #[.pointer (some ⟨E.pb,0,none⟩),zV z0 z1 z2 z3 z4 z5 z6 z7 z8] w fun e w'=>e=.returned (.bool r)/\St W (plP E rl s::R') w' by refine h.mono ?_;rintro e w' ⟨rfl,h2⟩;exact⟨rfl,h2.back ht⟩
 obtain⟨nl,ov,hn,hS1⟩:=p9 (hS.take ht);clear hS ht;have hS:=hS1;clear hS1;unfold plB at hS;have hq:=hn z0;unfold x9 at hr;simp only at hr;obtain⟨q,hqe⟩:∃q,q=decide (z0∈s.nm):=⟨_,rfl⟩
 rw[<-hqe]at hq hr;have e5:decide (z5=0)=(z5==0):=by rw[Bool.eq_iff_iff];simp
 rw[e5]at hr;subst hr;have Hn:=jH hn;have Hq:=jH hq;clear hn hq hqe e5;obtain⟨pb,m1,m2,m3,ver,nxt,hot,cold,zv,hv⟩:=E;simp only at hS ⊢;go_enter Try.func42,Try.ntmps42
 cases h5:z5==0 with
 | false=>
  go_wp2_with(first|go_big_skip|refine zbx hS ?_;clear hS;intro bO w hS);refine Aa7 (by kernel_rfl) (by kernel_rfl) hS ?_
  repeat(first|go_big_quiet_skip|refine zq1 ?_|refine zqn ?_|(apply Ae7 (ek:=kI) (ev:=kB) (k:=z0) false q);rfl;rfl;rfl;rfl;exact d9;exact tIB;exact mI;exact zB0;rfl;exact Hq.out;refine frS ?_|(apply Ae7 (ek:=kI) (ev:=kRo) (k:=z0) ro0 ⟨x0,x1,x2⟩);rfl;rfl;rfl;rfl;exact d9;exact tIR;exact mI;exact zR0;rfl;exact Hq.out;refine frS ?_|(apply AG7);rfl;rfl;rfl;exact bj4 _ _ _;refine frS ?_|refine qR ?_)
  clear hS;intro w hS;go_wp2_with(first|go_big_skip);go_ret;exact⟨rfl,C6 Hn.out hS.drop⟩
 | true=>
  go_wp2_with(first|go_big_skip|refine zbx hS ?_;clear hS;intro bO w hS);refine Aa7 (by kernel_rfl) (by kernel_rfl) hS ?_
  repeat(first|go_big_quiet_skip|refine zq1 ?_|refine zqn ?_|(apply Ae7 (ek:=kI) (ev:=kB) (k:=z0) false q);rfl;rfl;rfl;rfl;exact d9;exact tIB;exact mI;exact zB0;rfl;exact Hq.out;refine frS ?_|(apply Ae7 (ek:=kI) (ev:=kRo) (k:=z0) ro0 ⟨x0,x1,x2⟩);rfl;rfl;rfl;rfl;exact d9;exact tIR;exact mI;exact zR0;rfl;exact Hq.out;refine frS ?_|(apply AG7);rfl;rfl;rfl;exact bj4 _ _ _;refine frS ?_|refine qR ?_)
  clear hS;intro w hS;go_wp2_with(first|go_big_skip);go_ret;exact⟨rfl,C6 Hn.out hS.drop⟩
theorem Ag7{l:List Ro}{x:Int}(hrl:∀n,(l6 rl n).getD ro0=F5 l n)(hx:l8 l ⟨z0,z1,z2,z3,z4,z5,z6,z7,z8⟩=x)(ht:Take R (plP E rl s) R')(hS:St W R w):
  Calls Try.prog 43 #[.pointer (some ⟨E.pb,0,none⟩),zV z0 z1 z2 z3 z4 z5 z6 z7 z8] w fun e w'=>e=.returned (.I x)/\St W R w':=by
 suffices h:Calls Try.prog 43 #[.pointer (some ⟨E.pb,0,none⟩),zV z0 z1 z2 z3 z4 z5 z6 z7 z8] w fun e w'=>e=.returned (.I x)/\St W (plP E rl s::R') w' by refine h.mono ?_;rintro e w' ⟨rfl,h2⟩;exact⟨rfl,h2.back ht⟩
 obtain⟨nl,ov,hn,hS1⟩:=p9 (hS.take ht);clear hS ht;have hS:=hS1;clear hS1;unfold plB at hS;have hq:=hrl z0;unfold l8 at hx;simp only at hx;generalize F5 l z0=q at hq hx;obtain⟨x0,x1,x2⟩:=q;obtain rfl:x1=x:=hx;have Hn:=jH hn;have Hq:=jH hq;clear hn hq hrl;obtain⟨pb,m1,m2,m3,ver,nxt,hot,cold,zv,hv⟩:=E;simp only at hS ⊢;go_enter Try.func43,Try.ntmps43;go_wp2_with(first|go_big_skip|refine zbx hS ?_;clear hS;intro bO w hS);refine Aa7 (by kernel_rfl) (by kernel_rfl) hS ?_
 repeat(first|go_big_quiet_skip|refine zq1 ?_|refine zqn ?_|(apply Ae7 (ek:=kI) (ev:=kB) (k:=z0) false q);rfl;rfl;rfl;rfl;exact d9;exact tIB;exact mI;exact zB0;rfl;exact Hq.out;refine frS ?_|(apply Ae7 (ek:=kI) (ev:=kRo) (k:=z0) ro0 ⟨x0,x1,x2⟩);rfl;rfl;rfl;rfl;exact d9;exact tIR;exact mI;exact zR0;rfl;exact Hq.out;refine frS ?_|(apply AG7);rfl;rfl;rfl;exact bj4 _ _ _;refine frS ?_|refine qR ?_)
 clear hS;intro w hS;go_wp2_with(first|go_big_skip);go_ret;exact⟨rfl,C6 Hn.out hS.drop⟩
end
def PdR(W:World)(R:List HP)(zs:List Zo)(k:Int)(v5 v14:Value)(w:World):Prop:=
 ∃i:Nat,v14=.I i/\v5=.I (k7 (zs.take i) k)/\i<=zs.length/\St W R w
theorem HA7{zs:List Zo}{i:Nat}(h:i<zs.length)(k:Int):k7 (zs.take (i+1)) k=k7 (zs.take i) k+if zs[i].pend=k then 1 else 0:=by
 unfold k7;rw[List.take_succ_eq_append_getElem h,List.filter_append,jA]
 congr 1
 by_cases hp:zs[i].pend=k
 ·rw[if_pos hp,List.filter_cons_of_pos (by simpa using hp)];rfl
 ·rw[if_neg hp,List.filter_cons_of_neg (by simpa using hp)];rfl
theorem CV7(zs:List Zo)(k:Int):k7 zs k<=zs.length:=List.length_filter_le ..
theorem CD7{E:Pe}{rl:List (Int×Ro)}{s:Pn}{zs:List Zo}{V:World}(hv:d6 Zo.cells 9 V E.zv zs)(hl:zs.length<=60)(k:Int)(W w:World)(R:List HP)(hS:St W (plP E rl s::Old V::R) w):
  Calls Try.prog 40 #[.pointer (some ⟨E.pb,0,none⟩),.I k] w fun e w'=>e=.returned (.I (k7 zs k))/\St W (plP E rl s::Old V::R) w':=by
 obtain⟨nl,ov,hn,hS1⟩:=p9 hS;clear hS;have hS:=hS1;clear hS1;unfold plB at hS;have Hn:=jH hn;clear hn;have hsh:=fun w=>C6 (E:=E) (rl:=rl) (s:=s) (nl:=nl) (ov:=ov) (W:=W) (w:=w) (R:=Old V::R) Hn.out
 unfold plB at hsh;have Hsh:=jH hsh;clear hsh;obtain⟨pb,m1,m2,m3,ver,nxt,hot,cold,zv,hv0⟩:=E;simp only at hS hv Hsh ⊢;obtain⟨a,cap,rfl,h63,hact⟩:=hv;have Hat:=jH hact;clear hact;go_enter Try.func40,Try.ntmps40;go_wp2_with(first|go_big_skip|refine zl1 hS ?_)
 go_loopw [5,14] (fun v5 v14 wr=>PdR W (blk pb [.I ver,.I nxt,.slice a zs.length cap,.map (some m1),hv0,.map (some m2),.map (some m3),.I hot,.I cold,ov] 63::f9 kI kRo m1 rl::f9 kI kB m2 nl::f9 kI kI m3 s.mv::row ov 5 42 s.out.length (s.out.flatMap Cg.cells)::Old V::R) zs k v5 v14 wr) (fun _ v14 _=>zs.length-(intOf v14).toNat)
 case atStart=>exact⟨0,rfl,rfl,Nat.zero_le _,hS⟩
 case round=>
  clear hS;obtain⟨i,rfl,rfl,hi,hS⟩:=hrel;by_cases hil:i<zs.length
  ·have d1:decide (i<zs.length)=true:=decide_eq_true hil;have hnx:=HA7 hil k;have hle:k7 (zs.take i) k<=60:=Nat.le_trans (CV7 _ _) (by rw[jT];omega);generalize k7 (zs.take i) k=c at hnx hle;obtain⟨pb2,poff,rfl,hall⟩:=Hat.out i hil;generalize zs[i]=z at hnx hall;obtain⟨z0,z1,z2,z3,z4,z5,z6,z7,z8⟩:=z;simp only[Zo.cells]at hall hnx;have Hnx:=jH hnx;clear hnx hi;by_cases h5:z5=k
   ·have e5:(z5==k)=true:=by simpa using h5
    have hnx:=Hnx.out;rw[if_pos h5]at hnx;have Hn2:=jH hnx;clear hnx h5;go_wp2_with(first|go_big_skip|refine zlN hS ?_ (vs:=[.I z0,.string z1,.string z2,.I z3,.I z4,.I z5,.I z6,.string z7,.I z8]) (hc:=by exact a7.old (by exact b8) hall)|refine zal hS ?_;clear hS;intro b7 w hS|refine zsN hS ?_;clear hS;intro w hS|refine zl1 hS ?_);go_roundw
    case rel=>exact⟨i+1,rfl,by rw[Hn2.out];rfl,hil,hS.s _⟩
    case measure=>simp[intOf];omega
   ·have e5:(z5==k)=false:=by simpa using h5
    have hnx:=Hnx.out;rw[if_neg h5]at hnx;have Hn2:=jH hnx;clear hnx h5;go_wp2_with(first|go_big_skip|refine zlN hS ?_ (vs:=[.I z0,.string z1,.string z2,.I z3,.I z4,.I z5,.I z6,.string z7,.I z8]) (hc:=by exact a7.old (by exact b8) hall)|refine zal hS ?_;clear hS;intro b7 w hS|refine zsN hS ?_;clear hS;intro w hS|refine zl1 hS ?_);go_roundw
    case rel=>exact⟨i+1,rfl,by rw[Hn2.out];rfl,hil,hS.s _⟩
    case measure=>simp[intOf];omega
  ·have d1:decide (i<zs.length)=false:=decide_eq_false hil;have hie:i=zs.length:=by omega
   have Hie:=jH (show zs.take i=zs by rw[hie,List.take_length]);clear hi hie;go_wp2_with(first|go_big_skip);go_ret;exact⟨by rw[Hie.out];first|done|rfl,Hsh.out _ hS⟩
def NaR(W:World)(pre post:List HP)(m2:Nat)(ids nm:List Int)(v10:Value)(w:World):Prop:=
 ∃(i:Nat) (nl:List (Int×Bool)),v10=.I i/\i<=ids.length/\NmI nl ((ids.take i).reverse++nm)/\St W (pre++f9 kI kB m2 nl::post) w
theorem CW7{E:Pe}{rl:List (Int×Ro)}{s:Pn}(c0 c1 c2 c3:Int)(c4:ByteArray)(ids:List Int)(g cap:Nat)(hi:ids.length<=10)(hl:s.out.length<=1000)(W w:World)(R:List HP)(hS:St W (plP E rl s::blk g (ids.map kI) 3::R) w):
  Calls Try.prog 44 #[.pointer (some ⟨E.pb,0,none⟩),.agg #[.I c0,.I c1,.I c2,.I c3,.string c4],.S g ids.length cap] w fun e w'=>e=.returned (.tuple #[])/\St W (plP E rl ⟨ids.reverse++s.nm,s.mv,s.out++[⟨c0,c1,c2,c3,c4⟩]⟩::blk g (ids.map kI) 3::R) w':=by
 obtain⟨nl,ov,hn,hS1⟩:=p9 hS;clear hS;have hS:=hS1;clear hS1;unfold plB at hS;obtain⟨nm,mv,out⟩:=s;have hsh:=fun nl ov w (hn:NmI nl (ids.reverse++nm))=>C6 (E:=E) (rl:=rl) (s:=⟨ids.reverse++nm,mv,out++[⟨c0,c1,c2,c3,c4⟩]⟩) (nl:=nl) (ov:=ov) (W:=W) (w:=w) (R:=blk g (ids.map kI) 3::R) hn
 unfold plB at hsh;have Hsh:=jH hsh;clear hsh;obtain⟨pb,m1,m2,m3,ver,nxt,hot,cold,zv,hv⟩:=E;simp only at hS hl Hsh hn ⊢;have Hn:=jH hn;clear hn;go_enter Try.func44,Try.ntmps44;go_wp2_with(first|go_big_skip|refine zbx hS ?_ (v:=.agg #[.I c0,.I c1,.I c2,.I c3,.string c4]) (l:=[.I c0,.I c1,.I c2,.I c3,.string c4]);clear hS;intro b4 w hS)
 go_loopw [10] (fun v10 wr=>NaR W [blk b4 [.I c0,.I c1,.I c2,.I c3,.string c4] 42,blk pb [.I ver,.I nxt,zv,.map (some m1),hv,.map (some m2),.map (some m3),.I hot,.I cold,ov] 63,f9 kI kRo m1 rl] (f9 kI kI m3 mv::row ov 5 42 out.length (out.flatMap Cg.cells)::blk g (ids.map kI) 3::R) m2 ids nm v10 wr) (fun v10 _=>ids.length-(intOf v10).toNat)
 case atStart=>exact⟨0,nl,rfl,Nat.zero_le _,Hn.out,hS⟩
 case round=>
  clear hS Hn;obtain⟨i,nl,rfl,hil,hn,hS0⟩:=hrel;have hS:St W (blk b4 [.I c0,.I c1,.I c2,.I c3,.string c4] 42::blk pb [.I ver,.I nxt,zv,.map (some m1),hv,.map (some m2),.map (some m3),.I hot,.I cold,ov] 63::f9 kI kRo m1 rl::f9 kI kB m2 nl::f9 kI kI m3 mv::row ov 5 42 out.length (out.flatMap Cg.cells)::blk g (ids.map kI) 3::R) _:=hS0;clear hS0;by_cases hin:i<ids.length
  ·have d1:decide (i<ids.length)=true:=decide_eq_true hin;have hnx:NmI ((ids[i],true)::A5 nl ids[i]) ((ids.take (i+1)).reverse++nm):=by rw[List.take_succ_eq_append_getElem hin,List.reverse_append];exact IB7 hn _
   have hcx:a8 (blk g (ids.map kI) 3::R) g (0+i) (kI ids[i]):=a8.here (by rw[Nat.zero_add,List.getElem?_map,jG hin];rfl);generalize ids[i]=x at hnx hcx;have Hnx:=jH hnx;clear hnx hn hil;rw[Nat.zero_add]at hcx;go_wp2_with(first|go_big_skip|refine zl1 hS ?_ (v:=.I x) (hc:=by exact .there (.there (.there (.there (.there (.there hcx))))))|refine zl1 hS ?_|((apply CM7 (ek:=kI) (ev:=kB) (k:=x) (u:=true) hS);rfl;rfl;rfl;rfl;exact d9;(focus(rfl));exact tIB;exact mI;clear hS;intro w hS;try(refine frS ?_)));go_roundw
   case rel=>exact⟨i+1,_,rfl,hin,Hnx.out,hS.s (blk b4 [.I c0,.I c1,.I c2,.I c3,.string c4] 42::blk pb [.I ver,.I nxt,zv,.map (some m1),hv,.map (some m2),.map (some m3),.I hot,.I cold,ov] 63::f9 kI kRo m1 rl::f9 kI kB m2 _::f9 kI kI m3 mv::row ov 5 42 out.length (out.flatMap Cg.cells)::blk g (ids.map kI) 3::R)⟩
   case measure=>simp[intOf];omega
  ·have d1:decide (i<ids.length)=false:=decide_eq_false hin;have hie:i=ids.length:=by omega
   rw[hie,List.take_length]at hn;have Hn:=jH hn;clear hn hie hil;go_wp2_with(first|go_big_skip);have hS1:=hS.s (blk pb [.I ver,.I nxt,zv,.map (some m1),hv,.map (some m2),.map (some m3),.I hot,.I cold,ov] 63::row ov 5 42 out.length (out.flatMap Cg.cells)::blk b4 [.I c0,.I c1,.I c2,.I c3,.string c4] 42::f9 kI kRo m1 rl::f9 kI kB m2 nl::f9 kI kI m3 mv::blk g (ids.map kI) 3::R);clear hS;obtain⟨oa,oc,rfl⟩:=hS1.drop.rowVal
   refine rf2 [0,0,2,6,14,0,32,126,255,511,1023] (fun i=>i==6||i==7) [⟨some 6,none,fun nd=>K7 (nd 6) 1 1 [.I c0,.I c1,.I c2,.I c3,.string c4] 42⟩,⟨some 7,none,fun nd=>row (nd 7) 5 42 (out.length+1) (out.flatMap Cg.cells++[.I c0,.I c1,.I c2,.I c3,.string c4])⟩,⟨some 10,none,fun nd=>blk pb [.I ver,.I nxt,zv,.map (some m1),hv,.map (some m2),.map (some m3),.I hot,.I cold,nd 7] 63⟩]
    [some 10,some 7,none] hS1 ?_
   intro nd
   repeat(first|refine zc1 ?_|refine zcN ?_|apply aE4;rfl;rfl;rfl;(focus(simp only[fD,fI,fJ,Act.eval,fE,fF,fG,fH,fK];try rfl));exact esS;exact rsS;rfl;rfl;rfl;rfl;intro _;rfl;rfl;intro _;rfl;refine frS ?_|apply Dl7;rfl;rfl;rfl;(focus((conv=>lhs;whnf);try rfl));(focus((conv=>lhs;whnf);try rfl));exact esS;exact rsS;rfl;decide;rfl;intro F w hS;exact Es7 hS (by exact ax4);(focus(try rfl));rfl;(focus(unfold maxLen;omega));(focus(omega));intro _;rfl;intro _;rfl;refine frS ?_|(apply HL7;rfl;rfl;rfl;rfl;(focus((conv=>lhs;whnf);try rfl));kernel_rfl;rfl;intro F w hS;exact hS.rowOne (by exact ax4);(focus(simp));rfl;rfl;try(refine frS ?_))|refine zcn ?_|refine cR ?_)
   refine AD7 ?_;clear hS1;intro w hS0;have hS1:St W [K7 (nd 6) 1 1 _ _,row (nd 7) 5 _ (out.length+1) _,blk pb [.I ver,.I nxt,zv,.map (some m1),hv,.map (some m2),.map (some m3),.I hot,.I cold,nd 7] 63,blk b4 [.I c0,.I c1,.I c2,.I c3,.string c4] 42,sats _] w:=hS0;generalize nd 7=v7 at *;have hS:=hS1.drop.unpack [_,_,_];clear hS0 hS1;simp only[jK,jN]at hS;go_wp2_with(first|go_big_skip);go_end0;refine⟨rfl,Hsh.out nl v7 _ Hn.out ?_⟩;have h9:=hS.s (blk pb [.I ver,.I nxt,zv,.map (some m1),hv,.map (some m2),.map (some m3),.I hot,.I cold,v7] 63::f9 kI kRo m1 rl::f9 kI kB m2 nl::f9 kI kI m3 mv::row v7 5 42 (out.length+1) _::blk g (ids.map kI) 3::R);rw[jA,List.flatMap_append];exact h9
end Go.Proofs.Ytjcfifkjbaffnaa
end
section
namespace Go.Proofs.Ytjcfifkjbaffnaa
open Go.Shelf
def Try.sortZ_ren:Go.Shelf.Ren:=⟨fun|6=>38|15=>61|14=>60|28=>77|29=>78|20=>69|21=>70|22=>71|23=>72|24=>73|25=>74|26=>75|27=>76|46=>80|47=>81|48=>82|49=>83|50=>84|57=>85|n=>n,fun|22=>24|24=>32|25=>85|3=>3|39=>28|0=>0|53=>134|55=>106|4=>4|46=>128|45=>127|50=>121|5=>5|9=>9|66=>140|70=>72|76=>147|77=>148|n=>n,fun|n=>n⟩
theorem Try.sortZ:Go.Proofs.SlLaysF0.n6 Try.prog Try.sortZ_ren:={
 mixed:=by kernel_rfl
 f6:=⟨Try.f38.name,by decide,Try.func38.trans (congrArg some (by kernel_rfl))⟩
 f14:=⟨Try.f60.name,by decide,Try.func60.trans (congrArg some (by kernel_rfl))⟩
 f15:=Try.func61.trans (congrArg some (by kernel_rfl))
 f20:=⟨Try.f69.name,by decide,Try.func69.trans (congrArg some (by kernel_rfl))⟩
 f21:=⟨Try.f70.name,by decide,Try.func70.trans (congrArg some (by kernel_rfl))⟩
 f22:=⟨Try.f71.name,by decide,Try.func71.trans (congrArg some (by kernel_rfl))⟩
 f23:=⟨Try.f72.name,by decide,Try.func72.trans (congrArg some (by kernel_rfl))⟩
 f24:=⟨Try.f73.name,by decide,Try.func73.trans (congrArg some (by kernel_rfl))⟩
 f25:=⟨Try.f74.name,by decide,Try.func74.trans (congrArg some (by kernel_rfl))⟩
 f26:=⟨Try.f75.name,by decide,Try.func75.trans (congrArg some (by kernel_rfl))⟩
 f27:=⟨Try.f76.name,by decide,Try.func76.trans (congrArg some (by kernel_rfl))⟩
 f28:=Try.func77.trans (congrArg some (by kernel_rfl))
 f29:=Try.func78.trans (congrArg some (by kernel_rfl))
 f46:=⟨Try.f80.name,by decide,Try.func80.trans (congrArg some (by kernel_rfl))⟩
 f47:=Try.func81.trans (congrArg some (by kernel_rfl))
 f48:=Try.func82.trans (congrArg some (by kernel_rfl))
 f49:=⟨Try.f83.name,by decide,Try.func83.trans (congrArg some (by kernel_rfl))⟩
 f50:=⟨Try.f84.name,by decide,Try.func84.trans (congrArg some (by kernel_rfl))⟩
 f57:=⟨Try.f85.name,by decide,Try.func85.trans (congrArg some (by kernel_rfl))⟩
 t0:=Try.underlying0
 a0:=Try.isAgg0
 z0:=Try.sizeOf0
 v0:=Try.zeroValue0
 t3:=Try.underlying3
 a3:=Try.isAgg3
 z3:=Try.sizeOf3
 v3:=Try.zeroValue3
 t4:=Try.underlying4
 a4:=Try.isAgg4
 z4:=Try.sizeOf4
 v4:=Try.zeroValue4
 t5:=Try.underlying5
 a5:=Try.isAgg5
 z5:=Try.sizeOf5
 v5:=Try.zeroValue5
 t9:=Try.underlying9
 a9:=Try.isAgg9
 z9:=Try.sizeOf9
 v9:=Try.zeroValue9
 t22:=Try.underlying24
 a22:=Try.isAgg24
 z22:=Try.sizeOf24
 v22:=Try.zeroValue24
 t25:=Try.underlying85
 a25:=Try.isAgg85
 z25:=Try.sizeOf85
 v25:=Try.zeroValue85
 t39:=Try.underlying28
 a39:=Try.isAgg28
 z39:=Try.sizeOf28
 v39:=Try.zeroValue28
 t45:=Try.underlying127
 a45:=Try.isAgg127
 z45:=Try.sizeOf127
 v45:=Try.zeroValue127
 t46:=Try.underlying128
 a46:=Try.isAgg128
 z46:=Try.sizeOf128
 v46:=Try.zeroValue128
 t50:=Try.underlying121
 a50:=Try.isAgg121
 z50:=Try.sizeOf121
 v50:=Try.zeroValue121
 t53:=Try.underlying134
 a53:=Try.isAgg134
 z53:=Try.sizeOf134
 v53:=Try.zeroValue134
 t55:=Try.underlying106
 a55:=Try.isAgg106
 z55:=Try.sizeOf106
 v55:=Try.zeroValue106
 t66:=Try.underlying140
 a66:=Try.isAgg140
 z66:=Try.sizeOf140
 v66:=Try.zeroValue140
 t70:=Try.underlying72
 a70:=Try.isAgg72
 z70:=Try.sizeOf72
 v70:=Try.zeroValue72
 t76:=Try.underlying147
 a76:=Try.isAgg147
 z76:=Try.sizeOf147
 v76:=Try.zeroValue147
 t77:=Try.underlying148
 a77:=Try.isAgg148
 z77:=Try.sizeOf148
 v77:=Try.zeroValue148 }
end Go.Proofs.Ytjcfifkjbaffnaa
end
section
namespace Go.Proofs.Ytjcfifkjbaffnaa
open Go.Shelf Go.RowKit Go.Lib Go.Sort Go.Sl
abbrev ZoK:={z:Zo // 1<=z.id/\z.id<=1099511627776}
def zkC(x:ZoK):List Value:=x.val.cells
theorem zkL(x:ZoK):(zkC x).length=9:=rfl
instance : Inhabited ZoK := ⟨⟨⟨1,⟨#[]⟩,⟨#[]⟩,0,0,0,0,⟨#[]⟩,0⟩,by decide,by decide⟩⟩
def aD4(x y:ZoK):Int:=x.val.id-y.val.id
theorem ltZ(x y:ZoK):ltOf aD4 x y=decide (x.val.id<y.val.id):=by unfold ltOf aD4;rw[decide_eq_decide];omega
theorem bN4:SWO (ltOf aD4) where
 irrefl x:=by rw[ltZ];simp
 trans x y z h1 h2:=by rw[ltZ]at *;simp at *;omega
 ntrans x y z h1 h2:=by rw[ltZ]at *;simp at *;omega
theorem aS4(x y:ZoK)(W:World):Calls Try.prog 39 #[.agg (zkC x).toArray,.agg (zkC y).toArray] W fun e w'=>e=.returned (.I (aD4 x y))/\∃q os',w'=grow (W.drewN q) os':=by unfold aD4 zkC;obtain⟨⟨x0,x1,x2,x3,x4,x5,x6,x7,x8⟩,hx1,hx2⟩:=x;obtain⟨⟨y0,y1,y2,y3,y4,y5,y6,y7,y8⟩,hy1,hy2⟩:=y;simp only[Zo.cells]at hx1 hx2 hy1 hy2 ⊢;go_enter Try.func39,Try.ntmps39;go_wp2_with fail;go_ret;exact⟨rfl,0,_,by rw[alloc_eq_grow,alloc_eq_grow,grow_grow];rfl⟩
theorem aT4(blk off size:Nat)(w:World):CmpLays Try.prog 39 #[] zkC 9 aD4 blk off size w:=fun _ _ _ _ x y=>aS4 x y _
theorem St.grow{W w:World}{L:List HP}(h:St W L w)(os:Array Obj):St W L (Sort.grow w os):=by
 refine⟨h.os,h.tape,h.output,AN7 (S:=fun b=>decide (w.heap.size<=b)) ?_⟩
 have e:f7 (fun b=>decide (w.heap.size<=b)) (fun b=>(Sort.grow w os).heap[b]?)=fun b=>w.heap[b]? := by
  funext b
  show cond (decide (w.heap.size<=b)) none ((w.heap++os)[b]?)=w.heap[b]?
  by_cases hb:w.heap.size<=b
  ·rw[decide_eq_true hb,Array.getElem?_eq_none hb];rfl
  ·rw[decide_eq_false hb,Array.getElem?_append_left (by omega)];rfl
 rw[e];exact h.sat
theorem Cf7(l:List ZoK)(junk:List Value)(j:Nat)(hj:j<l.length*9):(l.flatMap zkC++junk)[j]? = some ((flatK zkC 9 l.toArray)[j]!):=by
 rw[get_flatK _ _ _ _ (by simpa using hj)];have hq:j / 9<l.length:=by omega
 have h1:=AP7 zkL l junk (j / 9) hq (j%9) (by omega);rw[show j / 9*9+j%9=j by omega]at h1;rw[h1];have h2:l.toArray[j / 9]! = l[j / 9]:=by simp[hq]
 rw[h2,jG (by rw[zkL];omega)];rw[getElem!_pos _ _ (by rw[zkL];omega)]
theorem GC7(l:List ZoK)(g cap:Nat)(junk:List Value)(h62:l.length<4611686018427387904)(W w:World)(L:List HP)(hS:St W (blk g (l.flatMap zkC++junk) 32::L) w):
  Calls Try.prog 38 #[.S g l.length cap,.func (.func 39) #[] #[]] w fun e w'=> e=.returned (.tuple #[])/\∃l':List ZoK,l'.Perm l/\l'.Pairwise (fun x y=>x.val.id<=y.val.id)/\St W (blk g (l'.flatMap zkC++junk) 32::L) w':=by
 have eg:∀args w,(callFunc 39 args).run Try.prog w=.ok (.enter 39 args) w:=enters_of Try.func39 (by kernel_rfl) rfl;have hgt:=hS.get (b:=g) .head;have hblk:g<w.heap.size:=(Array.getElem?_eq_some_iff.1 hgt).1;have hH:HoldsK zkC 9 w g 0 l.toArray:=by intro j hj;rw[size_flatK]at hj;refine⟨hS.cell .head ?_,hS.free .head⟩;rw[Nat.zero_add];exact Cf7 l junk j (by simpa using hj)
 have hcon:=AnyQ.slices_SortFunc Try.sortZ 9 Try.isAgg32 Try.sizeOf32 zkC zkL (fun x v hv=>List.all_eq_true.1 (Zo.one x.val) v hv) aD4 bN4 39 #[] g 0 cap l.toArray w eg (aT4 g 0 l.toArray.size w) hH hblk (by simpa using h62);change Calls Try.prog 38 _ _ _ at hcon;simp only[List.size_toArray]at hcon;refine hcon.mono ?_;rintro e w' ⟨rfl,d',n,os,⟨hp1,_,hp3⟩,hs,rfl⟩;refine⟨rfl,d'.toList,?_,?_,?_⟩
 ·have e1:d'.extract 0 l.length=d':=by
   have:l.length=d'.size:=by rw[hp1];simp
   rw[this,Array.extract_size]
  have e2:l.toArray.extract 0 l.length=l.toArray:=by
   have:l.length=l.toArray.size:=by simp
   rw[this,Array.extract_size]
  rw[e1,e2]at hp3;exact hp3
 ·rw[List.pairwise_iff_getElem];intro i j hi hj hij;have:=hs i j (Nat.zero_le _) hij (by simp at hj;rw[hp1]at hj;simpa using hj);rw[ltZ]at this;simp only[decide_eq_false_iff_not]at this;have hi':i<d'.size:=by simpa using hi
  have hj':j<d'.size:=by simpa using hj
  rw[getElem!_pos d' i hi',getElem!_pos d' j hj']at this;simp only[Array.getElem_toList];omega
 ·unfold sortWorldK;refine St.grow ?_ os;have hSd:St W (blk g (l.flatMap zkC++junk) 32::L) (Sort.ahead w n):=⟨hS.os,hS.tape,hS.output,hS.sat⟩
  refine hSd.putO (w':=putRowK zkC 9 (Sort.ahead w n) g 0 d') (o':=.cells (d'.toList.flatMap zkC++junk).toArray 32 (0,0)) .head rfl rfl rfl fun k=>?_
  show((Sort.ahead w n).heap.modify g _)[k]? = _
  rw[Array.getElem?_modify];by_cases hk:k=g
  ·subst hk;rw[if_pos rfl,if_pos rfl];have hgt':(Sort.ahead w n).heap[k]? = some (.cells (l.flatMap zkC++junk).toArray 32 (0,0)):=hgt;rw[hgt'];simp only[Option.map_some,Sort.onCells]
   congr 2
   have hdl:d'.toList.length=l.length:=by rw[Array.length_toList,hp1];simp
   have hf1:=Ak7 zkL l;have hf2:=Ak7 zkL d'.toList;apply Array.ext_getElem?;intro t;unfold Sort.putCells;simp only[Array.getElem?_mapIdx,List.getElem?_toArray,size_flatK,Nat.zero_le,true_and,Nat.zero_add,Nat.sub_zero,id];have hds:d'.size=l.length:=by rw[hp1];simp
   by_cases ht:t<l.length*9
   ·have h1:=Cf7 d'.toList junk t (by rw[hdl];exact ht);rw[h1,Cf7 l junk t ht];simp[hds,ht]
   ·have h2:(l.flatMap zkC++junk)[t]? = (d'.toList.flatMap zkC++junk)[t]? := by
     rw[List.getElem?_append_right (by omega),List.getElem?_append_right (by omega),hf1,hf2,hdl]
    rw[<-h2];simp[hds,ht]
  ·rw[if_neg (fun h=>hk h.symm),if_neg hk]
theorem HB7{zs:List Zo}(hz:∀z∈zs,1<=z.id/\z.id<=1099511627776)(h0:0<zs.length)(hl:zs.length<=1000)(v:Value)(W w:World)(R:List HP)(hS:St W (zoR v zs::R) w):
  Calls Try.prog 38 #[v,.func (.func 39) #[] #[]] w fun e w'=> e=.returned (.tuple #[])/\∃Z:List Zo,Z.Perm zs/\Z.Pairwise (fun x y=>x.id<=y.id)/\St W (zoR v Z::R) w':=by
 obtain⟨l,rfl⟩:∃l:List ZoK,zs=l.map (·.val):=⟨zs.pmap Subtype.mk hz,by rw[List.map_pmap];simp⟩
 rw[jM]at h0 hl
 rcases hS.rowOpen with ⟨rfl,h9,_⟩|⟨g,cap,junk,rfl,hn1,hm1,hj1,hl1,hS1⟩
 ·rw[jM]at h9;omega
 have e1:(l.map (·.val)).flatMap Zo.cells=l.flatMap zkC:=by rw[List.flatMap_map];rfl
 rw[e1]at hS1;have hcon:=GC7 l g cap junk (by omega) W w R hS1;rw[jM];refine hcon.mono ?_;rintro e w' ⟨rfl,Z,hp,hs,h2⟩;refine⟨rfl,Z.map (·.val),hp.map _,?_,?_⟩
 ·rw[List.pairwise_map];exact hs
 ·have e2:(Z.map (·.val)).flatMap Zo.cells=Z.flatMap zkC:=by rw[List.flatMap_map];rfl
  have hlz:Z.length=l.length:=hp.length_eq;unfold zoR;rw[e2,jM,hlz];rw[jM]at hn1;refine St.rowShut h2 hn1 hm1 ?_ ?_
  ·rw[e1,jA,Ak7 zkL]at hj1;rw[jA,Ak7 zkL,hlz];exact hj1
  ·rw[Ak7 zkL,hlz]
end Go.Proofs.Ytjcfifkjbaffnaa
end
section
namespace Go.Sl
open Go.RowKit
section
variable{κ ν:Type}[DecidableEq κ]{P:Program}{t K E:TypeId}{ek:κ->Value}{ev:ν->Value}{W w:World}{L:List HP}{b:Nat}{l:List (κ×ν)}{ops:Array Oper}{a:Act}{rest:List Oper}{o:Oper}
theorem Ao7{Q:Act->Prop}{x y:Operand}{k:κ}{z v:Value}{ok:Bool}(ho:o.op=.lookup t x y ok)(hg:Region.wanted o (yielded ops a.tmps)=true)(hx:a.eval x=.map (some b))(hy:a.eval y=ek k)(hu:∀w,St W L w->∃R,St W (f9 ek ev b l::R) w)
  (ht:s9 P t=some (K,E)) (hK:KeyOk P K ek) (hz:r9 P E=some z) (hv:D8 ok z ((l6 l k).map ev)=v) (h:wpQuiet P ops (St W L) Q rest (a.put o.dst v)):wpQuiet P ops (St W L) Q (o::rest) a:=
 BP7 hg (fun w hS=>by obtain⟨R,h2⟩:=hu w hS;unfold execOp;simp[ho,hx,hy,BS7 h2 ht hK hz,hv]) h
end
end Go.Sl
namespace Go.Proofs.Ytjcfifkjbaffnaa
open Go.RowKit Go.Sl
section
variable{E:Pe}{rl:List (Int×Ro)}{s:Pn}{W w:World}{L R R':List HP}
theorem K9:a8 (plP E rl s::L) E.pb 2 E.zv:=fun W w hS=>by obtain⟨nl,ov,_,h⟩:=p9 hS;exact h.cell .head rfl
theorem i7{v:Value}(h:E.zv=v):a8 (plP E rl s::L) E.pb 2 v:=h▸K9
theorem M6:a8 (plP E rl s::L) E.pb 3 (.map (some E.m1)):=fun W w hS=>by obtain⟨nl,ov,_,h⟩:=p9 hS;exact h.cell .head rfl
theorem bO4:a8 (plP E rl s::L) E.pb 4 E.hv:=fun W w hS=>by obtain⟨nl,ov,_,h⟩:=p9 hS;exact h.cell .head rfl
theorem be4{v:Value}(h:E.hv=v):a8 (plP E rl s::L) E.pb 4 v:=h▸bO4
theorem aw4:a8 (plP E rl s::L) E.pb 6 (.map (some E.m3)):=fun W w hS=>by obtain⟨nl,ov,_,h⟩:=p9 hS;exact h.cell .head rfl
theorem M7:a8 (plP E rl s::L) E.pb 7 (.I E.hot):=fun W w hS=>by obtain⟨nl,ov,_,h⟩:=p9 hS;exact h.cell .head rfl
theorem M8:a8 (plP E rl s::L) E.pb 8 (.I E.cold):=fun W w hS=>by obtain⟨nl,ov,_,h⟩:=p9 hS;exact h.cell .head rfl
theorem M9(ht:Take L (plP E rl s) R')(w:World)(hS:St W L w):∃R,St W (f9 kI kRo E.m1 rl::R) w:=by obtain⟨nl,ov,_,h⟩:=p9 (hS.take ht);exact⟨_,h.drop⟩
theorem A9(ht:Take L (plP E rl s) R')(w:World)(hS:St W L w):∃R,St W (f9 kI kI E.m3 s.mv::R) w:=by obtain⟨nl,ov,_,h⟩:=p9 (hS.take ht);exact⟨_,h.drop.drop.drop⟩
end
end Go.Proofs.Ytjcfifkjbaffnaa
end
