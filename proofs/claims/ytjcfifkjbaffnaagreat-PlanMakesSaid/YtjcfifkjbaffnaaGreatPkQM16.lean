/-
  The planner.
-/
import Derived.Test.YtjcfifkjbaffnaaGreatPkQM5
import Derived.Test.YtjcfifkjbaffnaaGreatPkQM15
import Derived.Test.YtjcfifkjbaffnaaGreatProg
import Derived.Shelf.SlSortCmp.WholeK
import Derived.Ground.SlsfProg
import Derived.Ground.NamesProg
set_option maxHeartbeats 16000000
set_option maxRecDepth 100000
set_option linter.unusedSimpArgs false
set_option linter.unusedVariables false
section
namespace Go.Proofs.YtjcfifkjbaffnaaGreat
open Go.RowKit Go.Sl
section
variable{R:List HP}{W w:World}
theorem ap4:∀{A:List HP} {h:t7},sep (sats A) (sats R) h->sats (A++R) h
 | [],_,⟨_,_,h2⟩=>AW7 h2
 | _::_,_,hs=>AH7 (fun _ x=>x) (fun _ x=>ap4 x) (DA7 hs)
theorem Hd7{h:t7}{A:List HP}(hs:sats A h):sep (sats []) (sats A) h:=⟨fun _=>false,trivial,by
 have:f8 (fun _=>false) h=h:=by funext b;rfl
 rw[this];exact hs⟩
theorem aq4:∀{A:List HP} {h:t7},sats (A++R) h->sep (sats A) (sats R) h
 | [],_,hs=>Hd7 hs
 | _::_,_,hs=>EN7 (AH7 (fun _ x=>x) (fun _ x=>aq4 x) hs)
theorem St.openP{A:List HP}(h:St W (sats A::R) w):St W (A++R) w:=⟨h.os,h.tape,h.output,ap4 h.sat⟩
theorem St.shutP(A:List HP)(h:St W (A++R) w):St W (sats A::R) w:=⟨h.os,h.tape,h.output,aq4 h.sat⟩
end
def aV4(acc:List (Int×Ro))(r:Ro):List (Int×Ro):=if(m6 acc r.zone).isNone=true then(r.zone,⟨r.zone,L7 r.hits,r.mid⟩)::C7 acc r.zone else acc
def H9(l:List Ro):List (Int×Ro):=l.foldl aV4 []
def aH4:List Ro->Int->Option Ro
 | [],_=>none
 | r::l,n=>if r.zone=n then some ⟨r.zone,L7 r.hits,r.mid⟩else aH4 l n
theorem IL7:∀(l:List Ro) (n:Int),(aH4 l n).getD ro0=C5 l n
 | [],_=>rfl
 | r::l,n=>by
  rw[aH4,C5];by_cases h:r.zone=n
  ·rw[if_pos h,if_pos h];rfl
  ·rw[if_neg h,if_neg h];exact IL7 l n
theorem Ej7:∀(l:List Ro) (acc:List (Int×Ro)) (n:Int),m6 (l.foldl aV4 acc) n=match m6 acc n with
  | some x=>some x
  | none=>aH4 l n
 | [],acc,n=>by
  rw[List.foldl_nil,aH4]
  cases m6 acc n <;> rfl
 | r::l,acc,n=>by
  rw[List.foldl_cons,Ej7 l];unfold aV4;by_cases hc:(m6 acc r.zone).isNone=true
  ·rw[if_pos hc,BD7,aH4];by_cases h:r.zone=n
   ·subst h;rw[if_pos rfl,if_pos rfl];rw[Option.isNone_iff_eq_none]at hc;rw[hc]
   ·rw[if_neg h,if_neg h]
  ·rw[if_neg hc,aH4];by_cases h:r.zone=n
   ·subst h
    cases hg:m6 acc r.zone with
    | none=>rw[hg]at hc;exact absurd rfl hc
    | some x=>rfl
   ·rw[if_neg h]
theorem Cx7(l:List Ro)(n:Int):(m6 (H9 l) n).getD ro0=C5 l n:=by unfold H9;rw[Ej7 l [] n];exact IL7 l n
theorem Ih7{l:List Ro}{i:Nat}(h:i<l.length):H9 (l.take (i+1))=aV4 (H9 (l.take i)) l[i]:=by unfold H9;rw[List.take_succ_eq_append_getElem h,List.foldl_append];rfl
structure Pe where
 pb:Nat
 m1:Nat
 m2:Nat
 m3:Nat
 ver:Int
 nxt:Int
 hot:Int
 cold:Int
 zv:Value
 hv:Value
abbrev kB(b:Bool):Value:=.bool b
abbrev kRo(r:Ro):Value:=.agg r.cells.toArray
theorem tIB:A7 Tryz.prog 58=some (3,4):=by kernel_rfl
theorem tIR:A7 Tryz.prog 57=some (3,34):=by kernel_rfl
theorem zB0:w6 Tryz.prog 4=some (.bool false):=by kernel_rfl
theorem zR0:w6 Tryz.prog 34=some (.agg #[.I 0,.I 0,.string ⟨#[]⟩]):=by kernel_rfl
theorem Cg.len(c:Cg):c.cells.length=5:=rfl
def NmI(nl:List (Int×Bool))(nm:List Int):Prop:=∀k,(m6 nl k).getD false=decide (k∈nm)
theorem bX4:NmI [] []:=fun _=>rfl
theorem Ju7{nl:List (Int×Bool)}{nm:List Int}(h:NmI nl nm)(x:Int):NmI ((x,true)::C7 nl x) (x::nm):=fun k=>by
 rw[BD7];by_cases hk:x=k
 ·subst hk;rw[if_pos rfl];simp
 ·rw[if_neg hk,h k];rw[decide_eq_decide];constructor
  ·exact fun h=>List.mem_cons_of_mem _ h
  ·intro h2
   rcases List.mem_cons.1 h2 with e|h2
   ·exact absurd e.symm hk
   ·exact h2
def plB(E:Pe)(ov:Value):HP:=blk E.pb [.I E.ver,.I E.nxt,E.zv,.map (some E.m1),E.hv,.map (some E.m2),.map (some E.m3),.I E.hot,.I E.cold,ov] 61
def plX(E:Pe)(rl:List (Int×Ro))(s:Pn)(nl:List (Int×Bool))(ov:Value):List HP:=[plB E ov,i5 kI kRo E.m1 rl,i5 kI kB E.m2 nl,i5 kI kI E.m3 s.mv,row ov 5 64 s.out.length (s.out.flatMap Cg.cells)]
def plP(E:Pe)(rl:List (Int×Ro))(s:Pn):HP:=fun f=>∃x:List (Int×Bool)×Value,NmI x.1 s.nm/\sats (plX E rl s x.1 x.2) f
section
variable{E:Pe}{rl:List (Int×Ro)}{s:Pn}{W w:World}{R:List HP}
theorem s6(h:St W (plP E rl s::R) w):∃nl ov,NmI nl s.nm/\St W (plB E ov::i5 kI kRo E.m1 rl::i5 kI kB E.m2 nl::i5 kI kI E.m3 s.mv::row ov 5 64 s.out.length (s.out.flatMap Cg.cells)::R) w:=by obtain⟨⟨nl,ov⟩,h1⟩:=St.ex h;obtain⟨h2,h3⟩:=St.and h1;exact⟨nl,ov,h2,St.openP h3⟩
theorem E7{nl:List (Int×Bool)}{ov:Value}(hn:NmI nl s.nm)(h:St W (plB E ov::i5 kI kRo E.m1 rl::i5 kI kB E.m2 nl::i5 kI kI E.m3 s.mv::row ov 5 64 s.out.length (s.out.flatMap Cg.cells)::R) w):St W (plP E rl s::R) w:=by have h1:St W (sats (plX E rl s nl ov)::R) w:=St.shutP _ h;exact St.mkEx (nl,ov) (St.mkAnd hn h1)
end
theorem bp4(a b:Int)(c:ByteArray)(w:World):(Instr.field 34 (.agg #[.I a,.I b,.string c]) 1).run Tryz.prog w=.ok (.I b) w:=by kernel_rfl
theorem aW4(a b:Int)(c:ByteArray)(w:World):(Instr.field 34 (.agg #[.I a,.I b,.string c]) 2).run Tryz.prog w=.ok (.string c) w:=by kernel_rfl
section
variable{E:Pe}{rl:List (Int×Ro)}{s:Pn}{z0:Int}{z1 z2:ByteArray}{z3 z4 z5 z6:Int}{z7:ByteArray}{z8:Int}{W w:World}{R R':List HP}
theorem As7{r:Bool}(hr:s7 s ⟨z0,z1,z2,z3,z4,z5,z6,z7,z8⟩=r)(ht:Take R (plP E rl s) R')(hS:St W R w):
  Calls Tryz.prog 43 #[.pointer (some ⟨E.pb,0,none⟩),zV z0 z1 z2 z3 z4 z5 z6 z7 z8] w fun e w'=>e=.returned (.bool r)/\St W R w':=by
 suffices h:Calls Tryz.prog 43 #[.pointer (some ⟨E.pb,0,none⟩),zV z0 z1 z2 z3 z4 z5 z6 z7 z8] w fun e w'=>e=.returned (.bool r)/\St W (plP E rl s::R') w' by refine h.mono ?_;rintro e w' ⟨rfl,h2⟩;exact⟨rfl,h2.back ht⟩
 obtain⟨nl,ov,hn,hS1⟩:=s6 (hS.take ht);clear hS ht;have hS:=hS1;clear hS1;unfold plB at hS;have hq:=hn z0;unfold s7 at hr;simp only at hr;obtain⟨q,hqe⟩:∃q,q=decide (z0∈s.nm):=⟨_,rfl⟩
 rw[<-hqe]at hq hr;have e5:decide (z5=0)=(z5==0):=by rw[Bool.eq_iff_iff];simp
 rw[e5]at hr;subst hr;have Hn:=jH hn;have Hq:=jH hq;clear hn hq hqe e5;obtain⟨pb,m1,m2,m3,ver,nxt,hot,cold,zv,hv⟩:=E;simp only at hS ⊢;go_enter Tryz.func43,Tryz.ntmps43
 cases h5:z5==0 with
 | false=>
  go_wp2_with(first|go_big_skip|refine zbx hS ?_;clear hS;intro bO w hS);refine Aa7 (by kernel_rfl) (by kernel_rfl) hS ?_
  repeat(first|go_big_quiet_skip|refine zq1 ?_|refine zqn ?_|(apply Ae7 (ek:=kI) (ev:=kB) (k:=z0) false q);rfl;rfl;rfl;rfl;exact d7;exact tIB;exact mI;exact zB0;rfl;exact Hq.out;refine frS ?_|(apply Ae7 (ek:=kI) (ev:=kRo) (k:=z0) ro0 ⟨x0,x1,x2⟩);rfl;rfl;rfl;rfl;exact d7;exact tIR;exact mI;exact zR0;rfl;exact Hq.out;refine frS ?_|(apply AQ7);rfl;rfl;rfl;exact bp4 _ _ _;refine frS ?_|refine qR ?_)
  clear hS;intro w hS;go_wp2_with(first|go_big_skip);go_ret;exact⟨rfl,E7 Hn.out hS.drop⟩
 | true=>
  go_wp2_with(first|go_big_skip|refine zbx hS ?_;clear hS;intro bO w hS);refine Aa7 (by kernel_rfl) (by kernel_rfl) hS ?_
  repeat(first|go_big_quiet_skip|refine zq1 ?_|refine zqn ?_|(apply Ae7 (ek:=kI) (ev:=kB) (k:=z0) false q);rfl;rfl;rfl;rfl;exact d7;exact tIB;exact mI;exact zB0;rfl;exact Hq.out;refine frS ?_|(apply Ae7 (ek:=kI) (ev:=kRo) (k:=z0) ro0 ⟨x0,x1,x2⟩);rfl;rfl;rfl;rfl;exact d7;exact tIR;exact mI;exact zR0;rfl;exact Hq.out;refine frS ?_|(apply AQ7);rfl;rfl;rfl;exact bp4 _ _ _;refine frS ?_|refine qR ?_)
  clear hS;intro w hS;go_wp2_with(first|go_big_skip);go_ret;exact⟨rfl,E7 Hn.out hS.drop⟩
theorem Ah7{l:List Ro}{x:Int}(hrl:∀n,(m6 rl n).getD ro0=C5 l n)(hx:i9 l ⟨z0,z1,z2,z3,z4,z5,z6,z7,z8⟩=x)(ht:Take R (plP E rl s) R')(hS:St W R w):
  Calls Tryz.prog 44 #[.pointer (some ⟨E.pb,0,none⟩),zV z0 z1 z2 z3 z4 z5 z6 z7 z8] w fun e w'=>e=.returned (.I x)/\St W R w':=by
 suffices h:Calls Tryz.prog 44 #[.pointer (some ⟨E.pb,0,none⟩),zV z0 z1 z2 z3 z4 z5 z6 z7 z8] w fun e w'=>e=.returned (.I x)/\St W (plP E rl s::R') w' by refine h.mono ?_;rintro e w' ⟨rfl,h2⟩;exact⟨rfl,h2.back ht⟩
 obtain⟨nl,ov,hn,hS1⟩:=s6 (hS.take ht);clear hS ht;have hS:=hS1;clear hS1;unfold plB at hS;have hq:=hrl z0;unfold i9 at hx;simp only at hx;generalize C5 l z0=q at hq hx;obtain⟨x0,x1,x2⟩:=q;obtain rfl:x1=x:=hx;have Hn:=jH hn;have Hq:=jH hq;clear hn hq hrl;obtain⟨pb,m1,m2,m3,ver,nxt,hot,cold,zv,hv⟩:=E;simp only at hS ⊢;go_enter Tryz.func44,Tryz.ntmps44;go_wp2_with(first|go_big_skip|refine zbx hS ?_;clear hS;intro bO w hS);refine Aa7 (by kernel_rfl) (by kernel_rfl) hS ?_
 repeat(first|go_big_quiet_skip|refine zq1 ?_|refine zqn ?_|(apply Ae7 (ek:=kI) (ev:=kB) (k:=z0) false q);rfl;rfl;rfl;rfl;exact d7;exact tIB;exact mI;exact zB0;rfl;exact Hq.out;refine frS ?_|(apply Ae7 (ek:=kI) (ev:=kRo) (k:=z0) ro0 ⟨x0,x1,x2⟩);rfl;rfl;rfl;rfl;exact d7;exact tIR;exact mI;exact zR0;rfl;exact Hq.out;refine frS ?_|(apply AQ7);rfl;rfl;rfl;exact bp4 _ _ _;refine frS ?_|refine qR ?_)
 clear hS;intro w hS;go_wp2_with(first|go_big_skip);go_ret;exact⟨rfl,E7 Hn.out hS.drop⟩
end
def PdR(W:World)(R:List HP)(zs:List Zo)(k:Int)(v5 v14:Value)(w:World):Prop:=
 ∃i:Nat,v14=.I i/\v5=.I (i7 (zs.take i) k)/\i<=zs.length/\St W R w
theorem Dv7{zs:List Zo}{i:Nat}(h:i<zs.length)(k:Int):i7 (zs.take (i+1)) k=i7 (zs.take i) k+if zs[i].pend=k then 1 else 0:=by
 unfold i7;rw[List.take_succ_eq_append_getElem h,List.filter_append,jA]
 congr 1
 by_cases hp:zs[i].pend=k
 ·rw[if_pos hp,List.filter_cons_of_pos (by simpa using hp)];rfl
 ·rw[if_neg hp,List.filter_cons_of_neg (by simpa using hp)];rfl
theorem Bb7(zs:List Zo)(k:Int):i7 zs k<=zs.length:=List.length_filter_le ..
theorem Db7{E:Pe}{rl:List (Int×Ro)}{s:Pn}{zs:List Zo}{V:World}(hv:d6 Zo.cells 9 V E.zv zs)(hl:zs.length<=60)(k:Int)(W w:World)(R:List HP)(hS:St W (plP E rl s::Old V::R) w):
  Calls Tryz.prog 41 #[.pointer (some ⟨E.pb,0,none⟩),.I k] w fun e w'=>e=.returned (.I (i7 zs k))/\St W (plP E rl s::Old V::R) w':=by
 obtain⟨nl,ov,hn,hS1⟩:=s6 hS;clear hS;have hS:=hS1;clear hS1;unfold plB at hS;have Hn:=jH hn;clear hn;have hsh:=fun w=>E7 (E:=E) (rl:=rl) (s:=s) (nl:=nl) (ov:=ov) (W:=W) (w:=w) (R:=Old V::R) Hn.out
 unfold plB at hsh;have Hsh:=jH hsh;clear hsh;obtain⟨pb,m1,m2,m3,ver,nxt,hot,cold,zv,hv0⟩:=E;simp only at hS hv Hsh ⊢;obtain⟨a,cap,rfl,h63,hact⟩:=hv;have Hat:=jH hact;clear hact;go_enter Tryz.func41,Tryz.ntmps41;go_wp2_with(first|go_big_skip|refine zl1 hS ?_)
 go_loopw [5,14] (fun v5 v14 wr=>PdR W (blk pb [.I ver,.I nxt,.slice a zs.length cap,.map (some m1),hv0,.map (some m2),.map (some m3),.I hot,.I cold,ov] 61::i5 kI kRo m1 rl::i5 kI kB m2 nl::i5 kI kI m3 s.mv::row ov 5 64 s.out.length (s.out.flatMap Cg.cells)::Old V::R) zs k v5 v14 wr) (fun _ v14 _=>zs.length-(intOf v14).toNat)
 case atStart=>exact⟨0,rfl,rfl,Nat.zero_le _,hS⟩
 case round=>
  clear hS;obtain⟨i,rfl,rfl,hi,hS⟩:=hrel;by_cases hil:i<zs.length
  ·have d1:decide (i<zs.length)=true:=decide_eq_true hil;have hnx:=Dv7 hil k;have hle:i7 (zs.take i) k<=60:=Nat.le_trans (Bb7 _ _) (by rw[jT];omega);generalize i7 (zs.take i) k=c at hnx hle;obtain⟨pb2,poff,rfl,hall⟩:=Hat.out i hil;generalize zs[i]=z at hnx hall;obtain⟨z0,z1,z2,z3,z4,z5,z6,z7,z8⟩:=z;simp only[Zo.cells]at hall hnx;have Hnx:=jH hnx;clear hnx hi;by_cases h5:z5=k
   ·have e5:(z5==k)=true:=by simpa using h5
    have hnx:=Hnx.out;rw[if_pos h5]at hnx;have Hn2:=jH hnx;clear hnx h5;go_wp2_with(first|go_big_skip|refine zlN hS ?_ (vs:=[.I z0,.string z1,.string z2,.I z3,.I z4,.I z5,.I z6,.string z7,.I z8]) (hc:=by exact a7.old (by exact b8) hall)|refine zal hS ?_;clear hS;intro b7 w hS|refine zsN hS ?_;clear hS;intro w hS|refine zl1 hS ?_);go_roundw
    case rel=>exact⟨i+1,rfl,by rw[Hn2.out];rfl,hil,hS.s _⟩
    case measure=>simp[intOf];omega
   ·have e5:(z5==k)=false:=by simpa using h5
    have hnx:=Hnx.out;rw[if_neg h5]at hnx;have Hn2:=jH hnx;clear hnx h5;go_wp2_with(first|go_big_skip|refine zlN hS ?_ (vs:=[.I z0,.string z1,.string z2,.I z3,.I z4,.I z5,.I z6,.string z7,.I z8]) (hc:=by exact a7.old (by exact b8) hall)|refine zal hS ?_;clear hS;intro b7 w hS|refine zsN hS ?_;clear hS;intro w hS|refine zl1 hS ?_);go_roundw
    case rel=>exact⟨i+1,rfl,by rw[Hn2.out];rfl,hil,hS.s _⟩
    case measure=>simp[intOf];omega
  ·have d1:decide (i<zs.length)=false:=decide_eq_false hil;have hie:i=zs.length:=by omega
   have Hie:=jH (show zs.take i=zs by rw[hie,List.take_length]);clear hi hie;go_wp2_with(first|go_big_skip);go_ret;exact⟨by rw[Hie.out];first|done|rfl,Hsh.out _ hS⟩
def NaR(W:World)(pre post:List HP)(m2:Nat)(ids nm:List Int)(v10:Value)(w:World):Prop:=
 ∃(i:Nat) (nl:List (Int×Bool)),v10=.I i/\i<=ids.length/\NmI nl ((ids.take i).reverse++nm)/\St W (pre++i5 kI kB m2 nl::post) w
theorem Dw7{E:Pe}{rl:List (Int×Ro)}{s:Pn}(c0 c1 c2 c3:Int)(c4:ByteArray)(ids:List Int)(g cap:Nat)(hi:ids.length<=10)(hl:s.out.length<=1000)(W w:World)(R:List HP)(hS:St W (plP E rl s::blk g (ids.map kI) 3::R) w):
  Calls Tryz.prog 45 #[.pointer (some ⟨E.pb,0,none⟩),.agg #[.I c0,.I c1,.I c2,.I c3,.string c4],.S g ids.length cap] w fun e w'=>e=.returned (.tuple #[])/\St W (plP E rl ⟨ids.reverse++s.nm,s.mv,s.out++[⟨c0,c1,c2,c3,c4⟩]⟩::blk g (ids.map kI) 3::R) w':=by
 obtain⟨nl,ov,hn,hS1⟩:=s6 hS;clear hS;have hS:=hS1;clear hS1;unfold plB at hS;obtain⟨nm,mv,out⟩:=s;have hsh:=fun nl ov w (hn:NmI nl (ids.reverse++nm))=>E7 (E:=E) (rl:=rl) (s:=⟨ids.reverse++nm,mv,out++[⟨c0,c1,c2,c3,c4⟩]⟩) (nl:=nl) (ov:=ov) (W:=W) (w:=w) (R:=blk g (ids.map kI) 3::R) hn
 unfold plB at hsh;have Hsh:=jH hsh;clear hsh;obtain⟨pb,m1,m2,m3,ver,nxt,hot,cold,zv,hv⟩:=E;simp only at hS hl Hsh hn ⊢;have Hn:=jH hn;clear hn;go_enter Tryz.func45,Tryz.ntmps45;go_wp2_with(first|go_big_skip|refine zbx hS ?_ (v:=.agg #[.I c0,.I c1,.I c2,.I c3,.string c4]) (l:=[.I c0,.I c1,.I c2,.I c3,.string c4]);clear hS;intro b4 w hS)
 go_loopw [10] (fun v10 wr=>NaR W [blk b4 [.I c0,.I c1,.I c2,.I c3,.string c4] 64,blk pb [.I ver,.I nxt,zv,.map (some m1),hv,.map (some m2),.map (some m3),.I hot,.I cold,ov] 61,i5 kI kRo m1 rl] (i5 kI kI m3 mv::row ov 5 64 out.length (out.flatMap Cg.cells)::blk g (ids.map kI) 3::R) m2 ids nm v10 wr) (fun v10 _=>ids.length-(intOf v10).toNat)
 case atStart=>exact⟨0,nl,rfl,Nat.zero_le _,Hn.out,hS⟩
 case round=>
  clear hS Hn;obtain⟨i,nl,rfl,hil,hn,hS0⟩:=hrel;have hS:St W (blk b4 [.I c0,.I c1,.I c2,.I c3,.string c4] 64::blk pb [.I ver,.I nxt,zv,.map (some m1),hv,.map (some m2),.map (some m3),.I hot,.I cold,ov] 61::i5 kI kRo m1 rl::i5 kI kB m2 nl::i5 kI kI m3 mv::row ov 5 64 out.length (out.flatMap Cg.cells)::blk g (ids.map kI) 3::R) _:=hS0;clear hS0;by_cases hin:i<ids.length
  ·have d1:decide (i<ids.length)=true:=decide_eq_true hin;have hnx:NmI ((ids[i],true)::C7 nl ids[i]) ((ids.take (i+1)).reverse++nm):=by rw[List.take_succ_eq_append_getElem hin,List.reverse_append];exact Ju7 hn _
   have hcx:a8 (blk g (ids.map kI) 3::R) g (0+i) (kI ids[i]):=a8.here (by rw[Nat.zero_add,List.getElem?_map,jG hin];rfl);generalize ids[i]=x at hnx hcx;have Hnx:=jH hnx;clear hnx hn hil;rw[Nat.zero_add]at hcx;go_wp2_with(first|go_big_skip|refine zl1 hS ?_ (v:=.I x) (hc:=by exact .there (.there (.there (.there (.there (.there hcx))))))|refine zl1 hS ?_|((apply Dk7 (ek:=kI) (ev:=kB) (k:=x) (u:=true) hS);rfl;rfl;rfl;rfl;exact d7;(focus(rfl));exact tIB;exact mI;clear hS;intro w hS;try(refine frS ?_)));go_roundw
   case rel=>exact⟨i+1,_,rfl,hin,Hnx.out,hS.s (blk b4 [.I c0,.I c1,.I c2,.I c3,.string c4] 64::blk pb [.I ver,.I nxt,zv,.map (some m1),hv,.map (some m2),.map (some m3),.I hot,.I cold,ov] 61::i5 kI kRo m1 rl::i5 kI kB m2 _::i5 kI kI m3 mv::row ov 5 64 out.length (out.flatMap Cg.cells)::blk g (ids.map kI) 3::R)⟩
   case measure=>simp[intOf];omega
  ·have d1:decide (i<ids.length)=false:=decide_eq_false hin;have hie:i=ids.length:=by omega
   rw[hie,List.take_length]at hn;have Hn:=jH hn;clear hn hie hil;go_wp2_with(first|go_big_skip);have hS1:=hS.s (blk pb [.I ver,.I nxt,zv,.map (some m1),hv,.map (some m2),.map (some m3),.I hot,.I cold,ov] 61::row ov 5 64 out.length (out.flatMap Cg.cells)::blk b4 [.I c0,.I c1,.I c2,.I c3,.string c4] 64::i5 kI kRo m1 rl::i5 kI kB m2 nl::i5 kI kI m3 mv::blk g (ids.map kI) 3::R);clear hS;obtain⟨oa,oc,rfl⟩:=hS1.drop.rowVal
   refine rf2 [0,0,2,6,14,0,32,126,255,511,1023] (fun i=>i==6||i==7) [⟨some 6,none,fun nd=>I6 (nd 6) 1 1 [.I c0,.I c1,.I c2,.I c3,.string c4] 64⟩,⟨some 7,none,fun nd=>row (nd 7) 5 64 (out.length+1) (out.flatMap Cg.cells++[.I c0,.I c1,.I c2,.I c3,.string c4])⟩,⟨some 10,none,fun nd=>blk pb [.I ver,.I nxt,zv,.map (some m1),hv,.map (some m2),.map (some m3),.I hot,.I cold,nd 7] 61⟩]
    [some 10,some 7,none] hS1 ?_
   intro nd
   repeat(first|refine zc1 ?_|refine zcN ?_|apply ay4;rfl;rfl;rfl;(focus(simp only[fD,fI,fJ,Act.eval,fE,fF,fG,fH,fK];try rfl));exact esS;exact rsS;rfl;rfl;rfl;rfl;intro _;rfl;rfl;intro _;rfl;refine frS ?_|apply Ch7;rfl;rfl;rfl;(focus((conv=>lhs;whnf);try rfl));(focus((conv=>lhs;whnf);try rfl));exact esS;exact rsS;rfl;decide;rfl;intro F w hS;exact Dg7 hS (by exact I7);(focus(try rfl));rfl;(focus(unfold maxLen;omega));(focus(omega));intro _;rfl;intro _;rfl;refine frS ?_|(apply Gj7;rfl;rfl;rfl;rfl;(focus((conv=>lhs;whnf);try rfl));kernel_rfl;rfl;intro F w hS;exact hS.rowOne (by exact I7);(focus(simp));rfl;rfl;try(refine frS ?_))|refine zcn ?_|refine cR ?_)
   refine AC7 ?_;clear hS1;intro w hS0;have hS1:St W [I6 (nd 6) 1 1 _ _,row (nd 7) 5 _ (out.length+1) _,blk pb [.I ver,.I nxt,zv,.map (some m1),hv,.map (some m2),.map (some m3),.I hot,.I cold,nd 7] 61,blk b4 [.I c0,.I c1,.I c2,.I c3,.string c4] 64,sats _] w:=hS0;generalize nd 7=v7 at *;have hS:=hS1.drop.unpack [_,_,_];clear hS0 hS1;simp only[jK,jN]at hS;go_wp2_with(first|go_big_skip);go_end0;refine⟨rfl,Hsh.out nl v7 _ Hn.out ?_⟩;have h9:=hS.s (blk pb [.I ver,.I nxt,zv,.map (some m1),hv,.map (some m2),.map (some m3),.I hot,.I cold,v7] 61::i5 kI kRo m1 rl::i5 kI kB m2 nl::i5 kI kI m3 mv::row v7 5 64 (out.length+1) _::blk g (ids.map kI) 3::R);rw[jA,List.flatMap_append];exact h9
end Go.Proofs.YtjcfifkjbaffnaaGreat
end
section
namespace Go.Proofs.YtjcfifkjbaffnaaGreat
open Go.Shelf
def Tryz.sortZ_ren:Go.Shelf.Ren:=⟨fun|6=>39|15=>69|14=>68|28=>89|29=>90|20=>81|21=>82|22=>83|23=>84|24=>85|25=>86|26=>87|27=>88|46=>92|47=>93|48=>94|49=>95|50=>96|57=>97|n=>n,fun|22=>22|24=>55|25=>88|3=>3|39=>125|0=>0|53=>147|55=>115|4=>4|46=>141|45=>140|50=>131|5=>5|9=>9|66=>153|70=>75|76=>160|77=>109|n=>n,fun|n=>n⟩
theorem Tryz.sortZ:Go.Proofs.SlLaysF0.n6 Tryz.prog Tryz.sortZ_ren:={
 mixed:=by kernel_rfl
 f6:=⟨Tryz.f39.name,by decide,Tryz.func39.trans (congrArg some (by kernel_rfl))⟩
 f14:=⟨Tryz.f68.name,by decide,Tryz.func68.trans (congrArg some (by kernel_rfl))⟩
 f15:=Tryz.func69.trans (congrArg some (by kernel_rfl))
 f20:=⟨Tryz.f81.name,by decide,Tryz.func81.trans (congrArg some (by kernel_rfl))⟩
 f21:=⟨Tryz.f82.name,by decide,Tryz.func82.trans (congrArg some (by kernel_rfl))⟩
 f22:=⟨Tryz.f83.name,by decide,Tryz.func83.trans (congrArg some (by kernel_rfl))⟩
 f23:=⟨Tryz.f84.name,by decide,Tryz.func84.trans (congrArg some (by kernel_rfl))⟩
 f24:=⟨Tryz.f85.name,by decide,Tryz.func85.trans (congrArg some (by kernel_rfl))⟩
 f25:=⟨Tryz.f86.name,by decide,Tryz.func86.trans (congrArg some (by kernel_rfl))⟩
 f26:=⟨Tryz.f87.name,by decide,Tryz.func87.trans (congrArg some (by kernel_rfl))⟩
 f27:=⟨Tryz.f88.name,by decide,Tryz.func88.trans (congrArg some (by kernel_rfl))⟩
 f28:=Tryz.func89.trans (congrArg some (by kernel_rfl))
 f29:=Tryz.func90.trans (congrArg some (by kernel_rfl))
 f46:=⟨Tryz.f92.name,by decide,Tryz.func92.trans (congrArg some (by kernel_rfl))⟩
 f47:=Tryz.func93.trans (congrArg some (by kernel_rfl))
 f48:=Tryz.func94.trans (congrArg some (by kernel_rfl))
 f49:=⟨Tryz.f95.name,by decide,Tryz.func95.trans (congrArg some (by kernel_rfl))⟩
 f50:=⟨Tryz.f96.name,by decide,Tryz.func96.trans (congrArg some (by kernel_rfl))⟩
 f57:=⟨Tryz.f97.name,by decide,Tryz.func97.trans (congrArg some (by kernel_rfl))⟩
 t0:=Tryz.underlying0
 a0:=Tryz.isAgg0
 z0:=Tryz.sizeOf0
 v0:=Tryz.zeroValue0
 t3:=Tryz.underlying3
 a3:=Tryz.isAgg3
 z3:=Tryz.sizeOf3
 v3:=Tryz.zeroValue3
 t4:=Tryz.underlying4
 a4:=Tryz.isAgg4
 z4:=Tryz.sizeOf4
 v4:=Tryz.zeroValue4
 t5:=Tryz.underlying5
 a5:=Tryz.isAgg5
 z5:=Tryz.sizeOf5
 v5:=Tryz.zeroValue5
 t9:=Tryz.underlying9
 a9:=Tryz.isAgg9
 z9:=Tryz.sizeOf9
 v9:=Tryz.zeroValue9
 t22:=Tryz.underlying22
 a22:=Tryz.isAgg22
 z22:=Tryz.sizeOf22
 v22:=Tryz.zeroValue22
 t25:=Tryz.underlying88
 a25:=Tryz.isAgg88
 z25:=Tryz.sizeOf88
 v25:=Tryz.zeroValue88
 t39:=Tryz.underlying125
 a39:=Tryz.isAgg125
 z39:=Tryz.sizeOf125
 v39:=Tryz.zeroValue125
 t45:=Tryz.underlying140
 a45:=Tryz.isAgg140
 z45:=Tryz.sizeOf140
 v45:=Tryz.zeroValue140
 t46:=Tryz.underlying141
 a46:=Tryz.isAgg141
 z46:=Tryz.sizeOf141
 v46:=Tryz.zeroValue141
 t50:=Tryz.underlying131
 a50:=Tryz.isAgg131
 z50:=Tryz.sizeOf131
 v50:=Tryz.zeroValue131
 t53:=Tryz.underlying147
 a53:=Tryz.isAgg147
 z53:=Tryz.sizeOf147
 v53:=Tryz.zeroValue147
 t55:=Tryz.underlying115
 a55:=Tryz.isAgg115
 z55:=Tryz.sizeOf115
 v55:=Tryz.zeroValue115
 t66:=Tryz.underlying153
 a66:=Tryz.isAgg153
 z66:=Tryz.sizeOf153
 v66:=Tryz.zeroValue153
 t70:=Tryz.underlying75
 a70:=Tryz.isAgg75
 z70:=Tryz.sizeOf75
 v70:=Tryz.zeroValue75
 t76:=Tryz.underlying160
 a76:=Tryz.isAgg160
 z76:=Tryz.sizeOf160
 v76:=Tryz.zeroValue160
 t77:=Tryz.underlying109
 a77:=Tryz.isAgg109
 z77:=Tryz.sizeOf109
 v77:=Tryz.zeroValue109 }
end Go.Proofs.YtjcfifkjbaffnaaGreat
end
section
namespace Go.Proofs.YtjcfifkjbaffnaaGreat
open Go.Shelf Go.RowKit Go.Lib Go.Sort Go.Sl
abbrev ZoK:={z:Zo // 1<=z.id/\z.id<=1099511627776}
def zkC(x:ZoK):List Value:=x.val.cells
theorem zkL(x:ZoK):(zkC x).length=9:=rfl
instance : Inhabited ZoK := ⟨⟨⟨1,⟨#[]⟩,⟨#[]⟩,0,0,0,0,⟨#[]⟩,0⟩,by decide,by decide⟩⟩
def aI4(x y:ZoK):Int:=x.val.id-y.val.id
theorem ltZ(x y:ZoK):ltOf aI4 x y=decide (x.val.id<y.val.id):=by unfold ltOf aI4;rw[decide_eq_decide];omega
theorem bY4:SWO (ltOf aI4) where
 irrefl x:=by rw[ltZ];simp
 trans x y z h1 h2:=by rw[ltZ]at *;simp at *;omega
 ntrans x y z h1 h2:=by rw[ltZ]at *;simp at *;omega
theorem aX4(x y:ZoK)(W:World):Calls Tryz.prog 40 #[.agg (zkC x).toArray,.agg (zkC y).toArray] W fun e w'=>e=.returned (.I (aI4 x y))/\∃q os',w'=grow (W.drewN q) os':=by unfold aI4 zkC;obtain⟨⟨x0,x1,x2,x3,x4,x5,x6,x7,x8⟩,hx1,hx2⟩:=x;obtain⟨⟨y0,y1,y2,y3,y4,y5,y6,y7,y8⟩,hy1,hy2⟩:=y;simp only[Zo.cells]at hx1 hx2 hy1 hy2 ⊢;go_enter Tryz.func40,Tryz.ntmps40;go_wp2_with fail;go_ret;exact⟨rfl,0,_,by rw[alloc_eq_grow,alloc_eq_grow,grow_grow];rfl⟩
theorem aY4(blk off size:Nat)(w:World):CmpLays Tryz.prog 40 #[] zkC 9 aI4 blk off size w:=fun _ _ _ _ x y=>aX4 x y _
theorem St.grow{W w:World}{L:List HP}(h:St W L w)(os:Array Obj):St W L (Sort.grow w os):=by
 refine⟨h.os,h.tape,h.output,AW7 (S:=fun b=>decide (w.heap.size<=b)) ?_⟩
 have e:f8 (fun b=>decide (w.heap.size<=b)) (fun b=>(Sort.grow w os).heap[b]?)=fun b=>w.heap[b]? := by
  funext b
  show cond (decide (w.heap.size<=b)) none ((w.heap++os)[b]?)=w.heap[b]?
  by_cases hb:w.heap.size<=b
  ·rw[decide_eq_true hb,Array.getElem?_eq_none hb];rfl
  ·rw[decide_eq_false hb,Array.getElem?_append_left (by omega)];rfl
 rw[e];exact h.sat
theorem Cy7(l:List ZoK)(junk:List Value)(j:Nat)(hj:j<l.length*9):(l.flatMap zkC++junk)[j]? = some ((flatK zkC 9 l.toArray)[j]!):=by
 rw[get_flatK _ _ _ _ (by simpa using hj)];have hq:j / 9<l.length:=by omega
 have h1:=AX7 zkL l junk (j / 9) hq (j%9) (by omega);rw[show j / 9*9+j%9=j by omega]at h1;rw[h1];have h2:l.toArray[j / 9]! = l[j / 9]:=by simp[hq]
 rw[h2,jG (by rw[zkL];omega)];rw[getElem!_pos _ _ (by rw[zkL];omega)]
theorem He7(l:List ZoK)(g cap:Nat)(junk:List Value)(h62:l.length<4611686018427387904)(W w:World)(L:List HP)(hS:St W (blk g (l.flatMap zkC++junk) 55::L) w):
  Calls Tryz.prog 39 #[.S g l.length cap,.func (.func 40) #[] #[]] w fun e w'=> e=.returned (.tuple #[])/\∃l':List ZoK,l'.Perm l/\l'.Pairwise (fun x y=>x.val.id<=y.val.id)/\St W (blk g (l'.flatMap zkC++junk) 55::L) w':=by
 have eg:∀args w,(callFunc 40 args).run Tryz.prog w=.ok (.enter 40 args) w:=enters_of Tryz.func40 (by kernel_rfl) rfl;have hgt:=hS.get (b:=g) .head;have hblk:g<w.heap.size:=(Array.getElem?_eq_some_iff.1 hgt).1;have hH:HoldsK zkC 9 w g 0 l.toArray:=by intro j hj;rw[size_flatK]at hj;refine⟨hS.cell .head ?_,hS.free .head⟩;rw[Nat.zero_add];exact Cy7 l junk j (by simpa using hj)
 have hcon:=AnyQ.slices_SortFunc Tryz.sortZ 9 Tryz.isAgg55 Tryz.sizeOf55 zkC zkL (fun x v hv=>List.all_eq_true.1 (Zo.one x.val) v hv) aI4 bY4 40 #[] g 0 cap l.toArray w eg (aY4 g 0 l.toArray.size w) hH hblk (by simpa using h62);change Calls Tryz.prog 39 _ _ _ at hcon;simp only[List.size_toArray]at hcon;refine hcon.mono ?_;rintro e w' ⟨rfl,d',n,os,⟨hp1,_,hp3⟩,hs,rfl⟩;refine⟨rfl,d'.toList,?_,?_,?_⟩
 ·have e1:d'.extract 0 l.length=d':=by
   have:l.length=d'.size:=by rw[hp1];simp
   rw[this,Array.extract_size]
  have e2:l.toArray.extract 0 l.length=l.toArray:=by
   have:l.length=l.toArray.size:=by simp
   rw[this,Array.extract_size]
  rw[e1,e2]at hp3;exact hp3
 ·rw[List.pairwise_iff_getElem];intro i j hi hj hij;have:=hs i j (Nat.zero_le _) hij (by simp at hj;rw[hp1]at hj;simpa using hj);rw[ltZ]at this;simp only[decide_eq_false_iff_not]at this;have hi':i<d'.size:=by simpa using hi
  have hj':j<d'.size:=by simpa using hj
  rw[getElem!_pos d' i hi',getElem!_pos d' j hj']at this;simp only[Array.getElem_toList];omega
 ·unfold sortWorldK;refine St.grow ?_ os;have hSd:St W (blk g (l.flatMap zkC++junk) 55::L) (Sort.ahead w n):=⟨hS.os,hS.tape,hS.output,hS.sat⟩
  refine hSd.putO (w':=putRowK zkC 9 (Sort.ahead w n) g 0 d') (o':=.cells (d'.toList.flatMap zkC++junk).toArray 55 (0,0)) .head rfl rfl rfl fun k=>?_
  show((Sort.ahead w n).heap.modify g _)[k]? = _
  rw[Array.getElem?_modify];by_cases hk:k=g
  ·subst hk;rw[if_pos rfl,if_pos rfl];have hgt':(Sort.ahead w n).heap[k]? = some (.cells (l.flatMap zkC++junk).toArray 55 (0,0)):=hgt;rw[hgt'];simp only[Option.map_some,Sort.onCells]
   congr 2
   have hdl:d'.toList.length=l.length:=by rw[Array.length_toList,hp1];simp
   have hf1:=Am7 zkL l;have hf2:=Am7 zkL d'.toList;apply Array.ext_getElem?;intro t;unfold Sort.putCells;simp only[Array.getElem?_mapIdx,List.getElem?_toArray,size_flatK,Nat.zero_le,true_and,Nat.zero_add,Nat.sub_zero,id];have hds:d'.size=l.length:=by rw[hp1];simp
   by_cases ht:t<l.length*9
   ·have h1:=Cy7 d'.toList junk t (by rw[hdl];exact ht);rw[h1,Cy7 l junk t ht];simp[hds,ht]
   ·have h2:(l.flatMap zkC++junk)[t]? = (d'.toList.flatMap zkC++junk)[t]? := by
     rw[List.getElem?_append_right (by omega),List.getElem?_append_right (by omega),hf1,hf2,hdl]
    rw[<-h2];simp[hds,ht]
  ·rw[if_neg (fun h=>hk h.symm),if_neg hk]
theorem Ii7{zs:List Zo}(hz:∀z∈zs,1<=z.id/\z.id<=1099511627776)(h0:0<zs.length)(hl:zs.length<=1000)(v:Value)(W w:World)(R:List HP)(hS:St W (zoR v zs::R) w):
  Calls Tryz.prog 39 #[v,.func (.func 40) #[] #[]] w fun e w'=> e=.returned (.tuple #[])/\∃Z:List Zo,Z.Perm zs/\Z.Pairwise (fun x y=>x.id<=y.id)/\St W (zoR v Z::R) w':=by
 obtain⟨l,rfl⟩:∃l:List ZoK,zs=l.map (·.val):=⟨zs.pmap Subtype.mk hz,by rw[List.map_pmap];simp⟩
 rw[jM]at h0 hl
 rcases hS.rowOpen with ⟨rfl,h9,_⟩|⟨g,cap,junk,rfl,hn1,hm1,hj1,hl1,hS1⟩
 ·rw[jM]at h9;omega
 have e1:(l.map (·.val)).flatMap Zo.cells=l.flatMap zkC:=by rw[List.flatMap_map];rfl
 rw[e1]at hS1;have hcon:=He7 l g cap junk (by omega) W w R hS1;rw[jM];refine hcon.mono ?_;rintro e w' ⟨rfl,Z,hp,hs,h2⟩;refine⟨rfl,Z.map (·.val),hp.map _,?_,?_⟩
 ·rw[List.pairwise_map];exact hs
 ·have e2:(Z.map (·.val)).flatMap Zo.cells=Z.flatMap zkC:=by rw[List.flatMap_map];rfl
  have hlz:Z.length=l.length:=hp.length_eq;unfold zoR;rw[e2,jM,hlz];rw[jM]at hn1;refine St.rowShut h2 hn1 hm1 ?_ ?_
  ·rw[e1,jA,Am7 zkL]at hj1;rw[jA,Am7 zkL,hlz];exact hj1
  ·rw[Am7 zkL,hlz]
end Go.Proofs.YtjcfifkjbaffnaaGreat
end
section
namespace Go.Sl
open Go.RowKit
section
variable{κ ν:Type}[DecidableEq κ]{P:Program}{t K E:TypeId}{ek:κ->Value}{ev:ν->Value}{W w:World}{L:List HP}{b:Nat}{l:List (κ×ν)}{ops:Array Oper}{a:Act}{rest:List Oper}{o:Oper}
theorem Av7{Q:Act->Prop}{x y:Operand}{k:κ}{z v:Value}{ok:Bool}(ho:o.op=.lookup t x y ok)(hg:Region.wanted o (yielded ops a.tmps)=true)(hx:a.eval x=.map (some b))(hy:a.eval y=ek k)(hu:∀w,St W L w->∃R,St W (i5 ek ev b l::R) w)
  (ht:A7 P t=some (K,E)) (hK:KeyOk P K ek) (hz:w6 P E=some z) (hv:F9 ok z ((m6 l k).map ev)=v) (h:wpQuiet P ops (St W L) Q rest (a.put o.dst v)):wpQuiet P ops (St W L) Q (o::rest) a:=
 Ce7 hg (fun w hS=>by obtain⟨R,h2⟩:=hu w hS;unfold execOp;simp[ho,hx,hy,Cj7 h2 ht hK hz,hv]) h
end
end Go.Sl
namespace Go.Proofs.YtjcfifkjbaffnaaGreat
open Go.RowKit Go.Sl
section
variable{E:Pe}{rl:List (Int×Ro)}{s:Pn}{W w:World}{L R R':List HP}
theorem M8:a8 (plP E rl s::L) E.pb 2 E.zv:=fun W w hS=>by obtain⟨nl,ov,_,h⟩:=s6 hS;exact h.cell .head rfl
theorem j9{v:Value}(h:E.zv=v):a8 (plP E rl s::L) E.pb 2 v:=h▸M8
theorem ae4:a8 (plP E rl s::L) E.pb 3 (.map (some E.m1)):=fun W w hS=>by obtain⟨nl,ov,_,h⟩:=s6 hS;exact h.cell .head rfl
theorem bZ4:a8 (plP E rl s::L) E.pb 4 E.hv:=fun W w hS=>by obtain⟨nl,ov,_,h⟩:=s6 hS;exact h.cell .head rfl
theorem bk4{v:Value}(h:E.hv=v):a8 (plP E rl s::L) E.pb 4 v:=h▸bZ4
theorem aD4:a8 (plP E rl s::L) E.pb 6 (.map (some E.m3)):=fun W w hS=>by obtain⟨nl,ov,_,h⟩:=s6 hS;exact h.cell .head rfl
theorem af4:a8 (plP E rl s::L) E.pb 7 (.I E.hot):=fun W w hS=>by obtain⟨nl,ov,_,h⟩:=s6 hS;exact h.cell .head rfl
theorem ag4:a8 (plP E rl s::L) E.pb 8 (.I E.cold):=fun W w hS=>by obtain⟨nl,ov,_,h⟩:=s6 hS;exact h.cell .head rfl
theorem ah4(ht:Take L (plP E rl s) R')(w:World)(hS:St W L w):∃R,St W (i5 kI kRo E.m1 rl::R) w:=by obtain⟨nl,ov,_,h⟩:=s6 (hS.take ht);exact⟨_,h.drop⟩
theorem D6(ht:Take L (plP E rl s) R')(w:World)(hS:St W L w):∃R,St W (i5 kI kI E.m3 s.mv::R) w:=by obtain⟨nl,ov,_,h⟩:=s6 (hS.take ht);exact⟨_,h.drop.drop.drop⟩
end
end Go.Proofs.YtjcfifkjbaffnaaGreat
end
