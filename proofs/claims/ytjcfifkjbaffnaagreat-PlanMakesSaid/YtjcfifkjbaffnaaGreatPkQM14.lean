/-
  A map of zones as bytes.
-/
import Derived.Test.YtjcfifkjbaffnaaGreatPkQM5
import Derived.Test.YtjcfifkjbaffnaaGreatPkQM10
import Derived.Test.YtjcfifkjbaffnaaGreatPkQM13
set_option maxHeartbeats 16000000
set_option maxRecDepth 100000
set_option linter.unusedSimpArgs false
set_option linter.unusedVariables false
section
namespace Go.Proofs.YtjcfifkjbaffnaaGreat
open Go.RowKit Go.Sl
def rgI(n:Int):Prop := -9223372036854775808<=n/\n<=9223372036854775807
def rgZ(z:Zo):Prop:=rgI z.id/\rgI z.own/\rgI z.ep/\rgI z.pend/\rgI z.to/\rgI z.new
theorem BS7(n:Int):rgI (clN n):=by have:=IG7 n;unfold rgI;omega
theorem Kb7(z:Zo):rgZ (clZ z):=⟨BS7 _,BS7 _,BS7 _,BS7 _,BS7 _,BS7 _⟩
theorem GV7(s:ByteArray)(a:Option Addr)(c:Nat):C6 [(a,c,w9 s)]=n5 s:=by unfold C6 aR4 n5;simp[Az7]
theorem GW7(wb:Nat)(d:List Int)(s1 s2:ByteArray)(b g1 c1 g2 c2 c:Nat)(hd:d.length<=30000000)(h1:s1.size<=1000000)(h2:s2.size<=1000000)(W w:World)(R:List HP)(hS:St W (wrR wb d::blk b [.S g1 s1.size c1,.S g2 s2.size c2] 46::sbR g1 s1::sbR g2 s2::R) w):
  Calls Tryz.prog 34 #[.P wb,.S b 2 c] w fun e w'=>e=.returned (.tuple #[])/\St W (wrR wb (d++(n5 s1++n5 s2))::blk b [.S g1 s1.size c1,.S g2 s2.size c2] 46::sbR g1 s1::sbR g2 s2::R) w':=by
 have h:=Jb7 wb d [(some ⟨g1,0,none⟩,c1,w9 s1),(some ⟨g2,0,none⟩,c2,w9 s2)] b 0 c hd (by simp) (fun x hx=>by
  rcases List.mem_cons.1 hx with rfl|hx
  ·show(w9 s1).length<=_;rw[Az7];omega
  ·obtain rfl:=List.mem_singleton.1 hx;show(w9 s2).length<=_;rw[Az7];omega) W w (blk b [.S g1 s1.size c1,.S g2 s2.size c2] 46::sbR g1 s1::sbR g2 s2::R) (fun i hi=>by
  have hi2:i=0\/i=1:=by simp at hi;omega
  rcases hi2 with rfl|rfl
  ·show a8 _ _ _ (.S g1 (w9 s1).length c1)
   rw[Az7];exact a8.here rfl
  ·show a8 _ _ _ (.S g2 (w9 s2).length c2)
   rw[Az7];exact a8.here rfl) (fun x hx=>by
  rcases List.mem_cons.1 hx with rfl|hx
  ·exact Src.mk (a7.there a7.sb)
  ·obtain rfl:=List.mem_singleton.1 hx;exact Src.mk (a7.there (a7.there a7.sb))) hS
 have e:C6 [(some (⟨g1,0,none⟩:Addr),c1,w9 s1),(some ⟨g2,0,none⟩,c2,w9 s2)]=n5 s1++n5 s2:=by rw[<-GV7 s1 (jP g1) c1,<-GV7 s2 (jP g2) c2];unfold C6;simp
 rw[e]at h;exact h
def EzR(W:World)(R:List HP)(wb:Nat)(base:List Int)(zs:List Zo)(v:Value)(w:World):Prop:=
 ∃i:Nat,v=.I i/\i<=zs.length/\St W (wrR wb (base++(zs.take i).flatMap r7)::R) w
theorem Fo7(wb:Nat)(d:List Int)(ns:List Int)(b c:Nat)(cs:List Value){n:Nat}(hcs:cs=ns.map (Value.int .i64))(hn0:n=ns.length)(hd:d.length<=90000000)(hl:ns.length<=100)(hn:∀x∈ns,rgI x)(W w:World)(R:List HP)(hS:St W (wrR wb d::blk b cs 3::R) w):
  Calls Tryz.prog 33 #[.P wb,.S b n c] w fun e w'=>e=.returned (.tuple #[])/\St W (wrR wb (d++k9 ns)::blk b cs 3::R) w':=by
 subst hcs hn0;exact GC7 wb d ns b c hd hl hn W w R hS
theorem AG7{zs:List Zo}{v:Value}{V:World}(hv:d6 Zo.cells 9 V v zs){ver nxt:Int}(hs:∀z∈zs,smZ z/\rgZ z)(hl:zs.length<=60)(h1:rgI ver)(h2:rgI nxt)(W w:World)(R:List HP)(hS:St W (Old V::R) w):
  Calls Tryz.prog 14 #[.agg #[.I ver,.I nxt,v]] w fun e w'=>∃u,e=.returned u/\St W (byR u (F6 ⟨ver,nxt,zs⟩)::Old V::R) w':=by
 obtain⟨a,cap,rfl,h63,hact⟩:=hv;have Hat:=jH hact;have Hs:=jH hs
 have Hr3:=jH (show ∀x∈[ver,nxt,(zs.length:Int)],rgI x from fun x hx=>by
  simp only[List.mem_cons,List.not_mem_nil,or_false]at hx
  rcases hx with rfl|rfl|rfl
  ·exact h1
  ·exact h2
  ·unfold rgI;omega)
 have hbl:(k9 [ver,nxt,(zs.length:Int)]).length<=27:=by have:=Do7 [ver,nxt,(zs.length:Int)];simp only[jC,List.length_nil]at this;exact this
 clear hact hs h1 h2;have hem:F6 ⟨ver,nxt,zs⟩=k9 [ver,nxt,(zs.length:Int)]++zs.flatMap r7:=rfl;rw[hem];clear hem;go_enter Tryz.func14,Tryz.ntmps14;go_wp2_with(first|go_big_skip|refine zbx hS ?_;clear hS;intro b1 w hS|refine zal hS ?_;clear hS;intro wb w hS|refine zl1 hS ?_|refine zbs hS ?_;clear hS;intro bS w hS|((have hS2:St W (blk bS [.I ver,.I nxt,.I zs.length] 3::_) _:=hS);clear hS;have hS:=hS2;clear hS2);go_at_call 33;refine(Fo7 wb [] [ver,nxt,zs.length] bS 3 [.I ver,.I nxt,.I zs.length] rfl rfl (by simp) (by simp) Hr3.out W _ _ (bz4 (hS.s (blk wb _ _::blk bS _ _::blk b1 _ _::Old V::R)))).mono ?_;clear hS;rw[jN];rintro e w ⟨rfl,hS⟩);have hS1:=hS.s (wrR wb _::Old V::R);clear hS;have hS:=hS1;clear hS1;obtain⟨base,hb⟩:∃base,base=k9 [ver,nxt,(zs.length:Int)]:=⟨_,rfl⟩
 rw[<-hb]at hS hbl;have Hb0:=jH hb;clear hb
 go_loopw [18] (fun v wr=>EzR W (Old V::R) wb base zs v wr) (fun v _=>zs.length-(intOf v).toNat)
 case atStart=>exact⟨0,rfl,Nat.zero_le _,by simpa using hS⟩
 case round=>
  clear hS;obtain⟨i,rfl,hi,hS⟩:=hrel;by_cases hil:i<zs.length
  ·have d1:decide (i<zs.length)=true:=decide_eq_true hil;have hst:base++(zs.take (i+1)).flatMap r7=base++(zs.take i).flatMap r7++r7 zs[i]:=by rw[List.take_succ_eq_append_getElem hil,List.flatMap_append,jS];simp
   have hdl:=BC7 (l:=zs.take i) fun z hz=>(Hs.out z (List.mem_of_mem_take hz)).1
   rw[jT]at hdl;obtain⟨⟨s1,s2,s3⟩,⟨r0,r3,r4,r5,r6,r8⟩⟩:=Hs.out _ (jW hil);obtain⟨d,hd⟩:∃d,d=base++(zs.take i).flatMap r7:=⟨_,rfl⟩
   have hdn:d.length<=20000:=by rw[hd,jA];omega
   rw[<-hd]at hS hst;obtain⟨pb,poff,rfl,hall⟩:=Hat.out i hil;generalize zs[i]=z at hst hall s1 s2 s3 r0 r3 r4 r5 r6 r8;obtain⟨z0,z1,z2,z3,z4,z5,z6,z7,z8⟩:=z;simp only[Zo.cells]at hall;simp only at s1 s2 s3 r0 r3 r4 r5 r6 r8;have e1:d++k9 [z0]++(n5 z1++n5 z2)++k9 [z3,z4,z5,z6]++n5 z7++k9 [z8]=d++r7 ⟨z0,z1,z2,z3,z4,z5,z6,z7,z8⟩:=by unfold r7 k9;simp only[List.flatMap_cons,List.flatMap_nil,List.append_nil,jS]
   rw[<-e1]at hst;have l0:=AB7 z0;have l1:(n5 z1).length<=69:=by have:=AB7 z1.size;unfold n5;rw[jA,Az7];omega
   have l2:(n5 z2).length<=69:=by have:=AB7 z2.size;unfold n5;rw[jA,Az7];omega
   have l3:=DY7 z3 z4 z5 z6;have l4:(n5 z7).length<=69:=by have:=AB7 z7.size;unfold n5;rw[jA,Az7];omega
   have l5:(k9 [z0]).length<=9:=by unfold k9;simpa using l0
   have HL1:=jH (show(d++k9 [z0]).length<=30000000 by simp only[jA];omega);have HL2:=jH (show(d++k9 [z0]++(n5 z1++n5 z2)).length<=30000000 by simp only[jA];omega);have HL3:=jH (show(d++k9 [z0]++(n5 z1++n5 z2)++k9 [z3,z4,z5,z6]).length<=30000000 by simp only[jA];omega);have HL4:=jH (show(d++k9 [z0]++(n5 z1++n5 z2)++k9 [z3,z4,z5,z6]++n5 z7).length<=30000000 by simp only[jA];omega);have Ha:=jH (show ∀x∈[z0],rgI x from fun x hx=>by rw[List.mem_singleton.1 hx];exact r0)
   have Hb:=jH (show ∀x∈[z3,z4,z5,z6],rgI x from fun x hx=>by
    simp only[List.mem_cons,List.not_mem_nil,or_false]at hx
    rcases hx with rfl|rfl|rfl|rfl <;> assumption)
   have Hc:=jH (show ∀x∈[z8],rgI x from fun x hx=>by rw[List.mem_singleton.1 hx];exact r8);have Hst:=jH hst;clear hst e1 l0 l1 l2 l3 l4 l5 r0 r3 r4 r5 r6 r8 hdl hd hi
   go_wp2_with(first|go_big_skip|refine zlN hS ?_ (vs:=[.I z0,.string z1,.string z2,.I z3,.I z4,.I z5,.I z6,.string z7,.I z8]) (hc:=by exact a7.old (by exact b8) hall)|refine zal hS ?_;clear hS;intro b5 w hS|refine zsN hS ?_;clear hS;intro w hS|refine zl1 hS ?_|(fail_if_success (have:=mG1));((with_reducible apply Br7 hS);rfl;rfl;rfl;exact Tryz.underlying9;exact Tryz.underlying46;exact Tryz.underlying5);clear hS;have mG1:Nat:=0;intro ga ca w hS;refine frS ?_|(have:=mG1);(fail_if_success (have:=mG2));((with_reducible apply Br7 hS);rfl;rfl;rfl;exact Tryz.underlying9;exact Tryz.underlying46;exact Tryz.underlying5);clear hS;have mG2:Nat:=0;intro gb cb w hS;refine frS ?_|(have:=mG2);((with_reducible apply Br7 hS);rfl;rfl;rfl;exact Tryz.underlying9;exact Tryz.underlying46;exact Tryz.underlying5);clear hS;intro gc cc w hS;refine frS ?_|refine zbs hS ?_;clear hS;intro bS w hS|(fail_if_success (have:=mN1));((have hS2:St W (blk bS [.I z0] 3::_) _:=hS);clear hS;have hS:=hS2;clear hS2);(go_at_call 33;refine(Fo7 wb d [z0] bS 1 [.I z0] rfl rfl (by omega) (by simp) Ha.out W _ _ (hS.s (wrR wb d::blk bS _ _::blk b5 [.I z0,.string z1,.string z2,.I z3,.I z4,.I z5,.I z6,.string z7,.I z8] _::Old V::R))).mono ?_;clear hS;have mN1:Nat:=0;rintro e w ⟨rfl,hS⟩)|(fail_if_success (have:=mB1));((have hS2:St W (blk bS [.S ga z1.size ca,.S gb z2.size cb] 46::_) _:=hS);clear hS;have hS:=hS2;clear hS2);(go_at_call 34;refine(GW7 wb (d++k9 [z0]) z1 z2 bS ga ca gb cb 2 HL1.out (by omega) (by omega) W _ _ (hS.s (wrR wb (d++k9 [z0])::blk bS _ _::sbR ga z1::sbR gb z2::blk b5 [.I z0,.string z1,.string z2,.I z3,.I z4,.I z5,.I z6,.string z7,.I z8] _::Old V::R))).mono ?_;clear hS;have mB1:Nat:=0;rintro e w ⟨rfl,hS⟩)|(have:=mN1);(fail_if_success (have:=mN2));((have hS2:St W (blk bS [.I z3,.I z4,.I z5,.I z6] 3::_) _:=hS);clear hS;have hS:=hS2;clear hS2);(go_at_call 33;refine(Fo7 wb (d++k9 [z0]++(n5 z1++n5 z2)) [z3,z4,z5,z6] bS 4 [.I z3,.I z4,.I z5,.I z6] rfl rfl (by have:=HL2.out;omega) (by simp) Hb.out W _ _ (hS.s (wrR wb _::blk bS _ _::blk b5 [.I z0,.string z1,.string z2,.I z3,.I z4,.I z5,.I z6,.string z7,.I z8] _::Old V::R))).mono ?_;clear hS;have mN2:Nat:=0;rintro e w ⟨rfl,hS⟩)|(have:=mB1);((have hS2:St W (blk bS [.S gc z7.size cc] 46::_) _:=hS);clear hS;have hS:=hS2;clear hS2);go_at_call 34;refine(IZ7 wb (d++k9 [z0]++(n5 z1++n5 z2)++k9 [z3,z4,z5,z6]) z7 bS gc cc 1 (by have:=HL3.out;omega) (by omega) W _ _ (hS.s (wrR wb _::blk bS _ _::sbR gc z7::blk b5 [.I z0,.string z1,.string z2,.I z3,.I z4,.I z5,.I z6,.string z7,.I z8] _::Old V::R))).mono ?_;clear hS;rintro e w ⟨rfl,hS⟩|(have:=mN2);((have hS2:St W (blk bS [.I z8] 3::_) _:=hS);clear hS;have hS:=hS2;clear hS2);go_at_call 33;refine(Fo7 wb (d++k9 [z0]++(n5 z1++n5 z2)++k9 [z3,z4,z5,z6]++n5 z7) [z8] bS 1 [.I z8] rfl rfl (by have:=HL4.out;omega) (by simp) Hc.out W _ _ (hS.s (wrR wb _::blk bS _ _::blk b5 [.I z0,.string z1,.string z2,.I z3,.I z4,.I z5,.I z6,.string z7,.I z8] _::Old V::R))).mono ?_;clear hS;rintro e w ⟨rfl,hS⟩)
   go_roundw
   case rel=>exact⟨i+1,rfl,hil,by rw[Hst.out];exact hS.s _⟩
   case measure=>simp[intOf];omega
  ·have d1:decide (i<zs.length)=false:=decide_eq_false hil;have hie:i=zs.length:=by omega
   rw[hie,List.take_length]at hS;have hdl:=BC7 (l:=zs) fun z hz=>(Hs.out z hz).1
   have hz0:0<(base++zs.flatMap r7).length:=by
    rw[Hb0.out,jA];have:0<(k9 [ver,nxt,(zs.length:Int)]).length:=by have:=HL7 ver;unfold k9;rw[List.flatMap_cons,jA];omega
    omega
   have hz1:(base++zs.flatMap r7).length<=100000000:=by rw[jA];omega
   have Hz0:=jH hz0;have Hz1:=jH hz1;clear hie hi hdl hz0 hz1;go_wp2_with(first|go_big_skip|go_at_call 35;refine(by4 wb _ Hz1.out Hz0.out W _ _ hS).mono ?_;clear hS;rintro e w ⟨vo,rfl,hS⟩);go_ret;exact⟨vo,rfl,by rw[<-Hb0.out];exact hS.s _⟩
section
variable{D:HP}{rb bM bZ bS c:Nat}{s s2:RS}{W w:World}{R R':List HP}
theorem Kc7{x0 x1:Int}(hx:k5 2 s=([x0,x1],s2))(h:RdOk s)(ht:Take R D R')(hS:St W (rdG D rb s::blk bM [.I 0,.I 0,.slice none 0 0] 24::blk bS [.P bM,.pointer (some ⟨bM,1,none⟩)] 75::R) w):
  Calls Tryz.prog 26 #[.P rb,.S bS 2 c] w fun e w'=>e=.returned (.tuple #[])/\St W (rdG D rb s2::blk bM [.I x0,.I x1,.slice none 0 0] 24::R) w':=by
 refine(IF7 D rb s h [(bM,0),(bM,1)] (by simp) bS c (fun xs=>blk bM [.I (xs.getD 0 0),.I (xs.getD 1 0),.slice none 0 0] 24::blk bS [.P bM,.pointer (some ⟨bM,1,none⟩)] 75::R) ⟨?_,fun xs=>⟨_,.tail (.tail ht)⟩⟩ ?_ W w hS).mono ?_
 ·intro xs x hx
  match xs,hx with
  | [],_=>exact⟨_,_,by simp,by simp,.head⟩
  | [_],_=>exact⟨_,_,by simp,by simp,.head⟩
  | _::_::_,hx=>simp at hx;omega
 ·intro xs i hi
  match i,hi with
  | 0,_=>exact .there (.here rfl)
  | 1,_=>exact .there (.here rfl)
  | i+2,hi=>simp at hi;omega
 ·rintro e w' ⟨rfl,hS⟩;rw[show[(bM,0),(bM,1)].length=2 from rfl,hx]at hS;have hS2:St W (rdG D rb s2::blk bM [.I x0,.I x1,.slice none 0 0] 24::blk bS _ _::R) w':=hS;exact⟨rfl,hS2.s _⟩
theorem Js7{z0:Int}{z1 z2:ByteArray}{x0 x1 x2 x3:Int}(hx:k5 4 s=([x0,x1,x2,x3],s2))(h:RdOk s)(ht:Take R D R')(hS:St W (rdG D rb s::blk bZ [.I z0,.string z1,.string z2,.I 0,.I 0,.I 0,.I 0,.string ⟨#[]⟩,.I 0] 55::blk bS [.pointer (some ⟨bZ,3,none⟩),.pointer (some ⟨bZ,4,none⟩),.pointer (some ⟨bZ,5,none⟩),.pointer (some ⟨bZ,6,none⟩)] 75::R) w):
  Calls Tryz.prog 26 #[.P rb,.S bS 4 c] w fun e w'=>e=.returned (.tuple #[])/\St W (rdG D rb s2::blk bZ [.I z0,.string z1,.string z2,.I x0,.I x1,.I x2,.I x3,.string ⟨#[]⟩,.I 0] 55::R) w':=by
 refine(IF7 D rb s h [(bZ,3),(bZ,4),(bZ,5),(bZ,6)] (by simp) bS c (fun xs=>blk bZ [.I z0,.string z1,.string z2,.I (xs.getD 0 0),.I (xs.getD 1 0),.I (xs.getD 2 0),.I (xs.getD 3 0),.string ⟨#[]⟩,.I 0] 55::blk bS [.pointer (some ⟨bZ,3,none⟩),.pointer (some ⟨bZ,4,none⟩),.pointer (some ⟨bZ,5,none⟩),.pointer (some ⟨bZ,6,none⟩)] 75::R) ⟨?_,fun xs=>⟨_,.tail (.tail ht)⟩⟩ ?_ W w hS).mono ?_
 ·intro xs x hx
  match xs,hx with
  | [],_=>exact⟨_,_,by simp,by simp,.head⟩
  | [_],_=>exact⟨_,_,by simp,by simp,.head⟩
  | [_,_],_=>exact⟨_,_,by simp,by simp,.head⟩
  | [_,_,_],_=>exact⟨_,_,by simp,by simp,.head⟩
  | _::_::_::_::_,hx=>simp at hx;omega
 ·intro xs i hi
  match i,hi with
  | 0,_=>exact .there (.here rfl)
  | 1,_=>exact .there (.here rfl)
  | 2,_=>exact .there (.here rfl)
  | 3,_=>exact .there (.here rfl)
  | i+4,hi=>simp at hi;omega
 ·rintro e w' ⟨rfl,hS⟩;rw[show[(bZ,3),(bZ,4),(bZ,5),(bZ,6)].length=4 from rfl,hx]at hS;have hS2:St W (rdG D rb s2::blk bZ [.I z0,.string z1,.string z2,.I x0,.I x1,.I x2,.I x3,.string ⟨#[]⟩,.I 0] 55::blk bS _ _::R) w':=hS;exact⟨rfl,hS2.s _⟩
end
abbrev zoR(v:Value)(l:List Zo):HP:=row v 9 55 l.length (l.flatMap Zo.cells)
theorem GX7{l:List Zo}{v:Value}{ver nxt:Int}{r:Bool}(hr:r=true↔p7 ⟨ver,nxt,l⟩)(W w:World)(R R':List HP)(ht:Take R (zoR v l) R')(hS:St W R w):
  Calls Tryz.prog 31 #[.agg #[.I ver,.I nxt,v]] w fun e w'=>e=.returned (.bool r)/\St W R w':=by
 have hv:=St.sliceV (enc:=Zo.cells) Zo.len (hS.take ht);refine(Jr7 hv ver nxt w w [] (St.start w)).mono ?_;rintro e w' ⟨q,h1,rfl,h2⟩;have:q=r:=by rw[Bool.eq_iff_iff,h1,hr]
 subst this;exact⟨rfl,St.rebase (A:=[]) hS h2⟩
theorem Jt7{l:List Zo}{v:Value}{ver nxt:Int}(h:p7 ⟨ver,nxt,l⟩)(W w:World)(R R':List HP)(ht:Take R (zoR v l) R')(hS:St W R w):
  Calls Tryz.prog 31 #[.agg #[.I ver,.I nxt,v]] w fun e w'=>e=.returned (.bool true)/\St W R w':=GX7 (r:=true) ⟨fun _=>h,fun _=>rfl⟩ W w R R' ht hS
theorem Kd7{l:List Zo}{v:Value}{ver nxt:Int}(h:¬p7 ⟨ver,nxt,l⟩)(W w:World)(R R':List HP)(ht:Take R (zoR v l) R')(hS:St W R w):
  Calls Tryz.prog 31 #[.agg #[.I ver,.I nxt,v]] w fun e w'=>e=.returned (.bool false)/\St W R w':=GX7 (r:=false) ⟨fun h=>(by cases h),fun h2=>absurd h2 h⟩ W w R R' ht hS
theorem FM7{l:List Zo}{v:Value}{ver nxt:Int}(hs:∀z∈l,smZ z/\rgZ z)(hl:l.length<=60)(h1:rgI ver)(h2:rgI nxt)(W w:World)(R R':List HP)(ht:Take R (zoR v l) R')(hS:St W R w):
  Calls Tryz.prog 14 #[.agg #[.I ver,.I nxt,v]] w fun e w'=>∃u,e=.returned u/\St W (byR u (F6 ⟨ver,nxt,l⟩)::R) w':=by
 have hv:=St.sliceV (enc:=Zo.cells) Zo.len (hS.take ht);refine(AG7 hv hs hl h1 h2 w w [] (St.start w)).mono ?_;rintro e w' ⟨u,rfl,h2⟩;exact⟨u,rfl,St.rebase (A:=[byR u (F6 ⟨ver,nxt,l⟩)]) hS h2⟩
theorem FN7(D:HP)(a:Option Addr)(c:Nat)(b:List Int)(v:Value)(hat:At D a c b)(W w:World)(R R' R2:List HP)(ht:Take R D R')(hx:Take R (byR v b) R2)(hS:St W R w):
  Calls Tryz.prog 32 #[v,.slice a b.length c] w fun e w'=>e=.returned (.bool true)/\St W R w':=Ji7 D a c b b v hat (beq_self_eq_true _) W w R R' R2 ht hx hS
def DzR(W:World)(R:List HP)(D:HP)(rb b4:Nat)(ver nxt:Int)(zs:List Zo)(v:Value)(w:World):Prop:=
 ∃(i:Nat) (zv:Value),v=.I ((zs.length:Int)-i)/\i<=zs.length/\RdOk (some ((zs.drop i).flatMap r7))/\St W (rdG D rb (some ((zs.drop i).flatMap r7))::blk b4 [.I ver,.I nxt,zv] 24::row zv 9 55 i (((zs.take i).map clZ).flatMap Zo.cells)::R) w
theorem Da7{m:Mp}(hs:∀z∈m.zs,smZ z/\rgZ z)(hl:m.zs.length<=60){r:Bool}(hr:r=true↔p7 (clM m))(v:Value)(W w:World)(R:List HP)(hS:St W (byR v (F6 m)::R) w):
  Calls Tryz.prog 13 #[v] w fun e w'=>(r=false/\e=.returned (.tuple #[.agg #[.I 0,.I 0,.slice none 0 0],.I 3])/\St W R w') \/
   (r=true/\∃zv,e=.returned (.tuple #[.agg #[.I (clN m.ver),.I (clN m.nxt),zv],.I 0])/\St W (zoR zv (m.zs.map clZ)::R) w'):=by
 obtain⟨ver,nxt,zs⟩:=m;simp only at hs hl;obtain⟨X,hX⟩:∃X,X=F6 ⟨ver,nxt,zs⟩:=⟨_,rfl⟩
 have hXl:X.length<=20000:=by rw[hX];exact Id7 (fun z hz=>(hs z hz).1) hl
 have hXb:ByB X:=by rw[hX];exact Ic7 _
 obtain⟨y1,q1,q2⟩:=GQ7 ⟨ver,nxt,zs⟩;rw[<-hX]at hS q1;simp only at q1 q2;rw[Bi7 (n:=(zs.length:Int)) (by omega) (by omega)]at q2;have k0:RdOk (some X):=⟨fun l hl=>by cases hl;exact hXb,fun l hl=>by cases hl;omega⟩
 have k1:RdOk (some y1):=by have:=RdOk.nums 2 k0;rw[q1]at this;exact this
 have k2:RdOk (some (zs.flatMap r7)):=by have:=k1.num;rw[q2]at this;exact this
 have H2:=jH q1;have H3:=jH q2;have K0:=jH k0;have K1:=jH k1;have K2:=jH k2;have HX:=jH hX;have Hs:=jH hs;have Hr:=jH (show r=true↔p7 ⟨clN ver,clN nxt,zs.map clZ⟩from hr);obtain⟨a0,c0,rfl,hd⟩:=IE7 hS;have Hat:=jH (GG7 hd);clear q1 q2 k0 k1 k2 hX hs hd hr;go_enter Tryz.func13,Tryz.ntmps13;go_wp2_with(first|go_big_skip|(fail_if_success (have:=mA1));(refine zal hS ?_;clear hS;have mA1:Nat:=0;intro b2 w hS)|(have:=mA1);refine zal hS ?_;clear hS;intro b4 w hS|go_at_call 25;refine(JV7 _ a0 c0 X Hat.out (by omega) W _ _ _ (by(focus((repeat(first|exact .head|apply Take.tail));done))) hS).mono ?_;clear hS;rintro e w ⟨v2,rb,rfl,hS⟩|refine zbs hS ?_;clear hS;intro bS w hS|(have hS2:St W (blk bS [.P b4,.pointer (some ⟨b4,1,none⟩)] 75::_) _:=hS);clear hS;go_at_call 26;refine(Kc7 H2.out K0.out (by(focus((repeat(first|exact .head|apply Take.tail));done))) (hS2.s (rdG _ rb (some X)::blk b4 _ _::blk bS _ _::byR v2 X::byR (.slice a0 X.length c0) X::blk b2 _ _::R))).mono ?_;clear hS2;rintro e w ⟨rfl,hS⟩|go_at_call 27;refine(GN7 H3.out K1.out W _ _ _ (by(focus((repeat(first|exact .head|apply Take.tail));done))) hS).mono ?_;clear hS;rintro e w ⟨rfl,hS⟩);obtain⟨D,hD⟩:∃D,D=byR v2 X:=⟨_,rfl⟩
 rw[<-hD]at hS;have hS1:=((hS.rowNil (k:=9) (T:=55)).s (rdG D rb (some (zs.flatMap r7))::blk b4 [.I (clN ver),.I (clN nxt),.slice none 0 0] 24::row (.slice none 0 0) 9 55 0 []::D::byR (.slice a0 X.length c0) X::blk b2 [.I 0,.I 0,.slice none 0 0] 24::R))
 clear hS;have hS:=hS1;clear hS1 hD
 go_loopw [6] (fun v wr=>DzR W (D::byR (.slice a0 X.length c0) X::blk b2 [.I 0,.I 0,.slice none 0 0] 24::R) D rb b4 (clN ver) (clN nxt) zs v wr) (fun v _=>(intOf v).toNat)
 case atStart=>exact⟨0,.slice none 0 0,by simp,Nat.zero_le _,K2.out,hS⟩
 case round=>
  clear hS;obtain⟨i,zv,rfl,hi,hok,hS⟩:=hrel;by_cases hil:i<zs.length
  ·have d1:decide ((0:Int)<(zs.length:Int)-(i:Int))=true:=by simp;omega
   have hst:((zs.take (i+1)).map clZ).flatMap Zo.cells=((zs.take i).map clZ).flatMap Zo.cells++(clZ zs[i]).cells:=by rw[List.take_succ_eq_append_getElem hil,List.map_append,List.flatMap_append];simp
   have hdr:(zs.drop i).flatMap r7=r7 zs[i]++(zs.drop (i+1)).flatMap r7:=by rw[List.drop_eq_getElem_cons hil,List.flatMap_cons]
   obtain⟨hz,_⟩:=Hs.out _ (jW hil);obtain⟨r1,r2,r3,r4,r5,e1,e2,e3,e4,e5,e6⟩:=GP7 hz ((zs.drop (i+1)).flatMap r7);rw[<-hdr]at e1;have t1:RdOk (some r1):=by have:=hok.num;rw[e1]at this;exact this
   have t2:RdOk (some r2):=by have:=t1.bytes;rw[e2]at this;exact this
   have t3:RdOk (some r3):=by have:=t2.bytes;rw[e3]at this;exact this
   have t4:RdOk (some r4):=by have:=RdOk.nums 4 t3;rw[e4]at this;exact this
   have t5:RdOk (some r5):=by have:=t4.bytes;rw[e5]at this;exact this
   have t6:RdOk (some ((zs.drop (i+1)).flatMap r7)):=by have:=t5.num;rw[e6]at this;exact this
   generalize (zs.drop i).flatMap r7=s0 at hS hok e1;generalize zs[i]=z at hst e1 e2 e3 e4 e5 e6;obtain⟨z0,z1,z2,z3,z4,z5,z6,z7,z8⟩:=z;simp only at e1 e2 e3 e4 e5 e6;obtain⟨za,zc,rfl⟩:=hS.drop.drop.rowVal;have E1:=jH e1;have E2:=jH e2;have E3:=jH e3;have E4:=jH e4;have E5:=jH e5;have E6:=jH e6;have Q0:=jH hok;have Q1:=jH t1;have Q2:=jH t2;have Q3:=jH t3;have Q4:=jH t4;have Q5:=jH t5;have Q6:=jH t6;have Hst:=jH hst;clear e1 e2 e3 e4 e5 e6 hok t1 t2 t3 t4 t5 t6 hst hdr hz
   go_wp2_with(first|go_big_skip|go_at_call 28;refine(HZ7 W _ _ hS).mono ?_;clear hS;rintro e w ⟨rfl,hS⟩|refine zal hS ?_;clear hS;intro b7 w hS|(fail_if_success (have:=mN1));(go_at_call 27;refine(GN7 E1.out Q0.out W _ _ _ (by(focus((repeat(first|exact .head|apply Take.tail));done))) (hS.s (rdG D rb _::blk b7 _ _::blk b4 _ _::row _ 9 _ _ _::D::byR (.slice a0 X.length c0) X::blk b2 [.I 0,.I 0,.slice none 0 0] 24::R))).mono ?_;clear hS;have mN1:Nat:=0;rintro e w ⟨rfl,hS⟩)|(have:=mN1);go_at_call 27;refine(GN7 E6.out Q5.out W _ _ _ (by(focus((repeat(first|exact .head|apply Take.tail));done))) (hS.s (rdG D rb _::blk b7 _ _::blk b4 _ _::row _ 9 _ _ _::D::byR (.slice a0 X.length c0) X::blk b2 [.I 0,.I 0,.slice none 0 0] 24::R))).mono ?_;clear hS;rintro e w ⟨rfl,hS⟩|(fail_if_success (have:=mB1));go_at_call 29;refine(Dp7 E2.out Q1.out W _ _ _ (by(focus((repeat(first|exact .head|apply Take.tail));done))) (hS.s (rdG D rb _::blk b7 _ _::blk b4 _ _::row _ 9 _ _ _::D::byR (.slice a0 X.length c0) X::blk b2 [.I 0,.I 0,.slice none 0 0] 24::R))).mono ?_;clear hS;rintro e w ⟨vx,rfl,hS⟩;have mB1:Nat:=0|(have:=mB1);(fail_if_success (have:=mB2));go_at_call 29;refine(Dp7 E3.out Q2.out W _ _ _ (by(focus((repeat(first|exact .head|apply Take.tail));done))) (hS.s (rdG D rb _::blk b7 _ _::blk b4 _ _::row _ 9 _ _ _::D::byR (.slice a0 X.length c0) X::blk b2 [.I 0,.I 0,.slice none 0 0] 24::R))).mono ?_;clear hS;rintro e w ⟨vx,rfl,hS⟩;have mB2:Nat:=0|(have:=mB2);go_at_call 29;refine(Dp7 E5.out Q4.out W _ _ _ (by(focus((repeat(first|exact .head|apply Take.tail));done))) (hS.s (rdG D rb _::blk b7 _ _::blk b4 _ _::row _ 9 _ _ _::D::byR (.slice a0 X.length c0) X::blk b2 [.I 0,.I 0,.slice none 0 0] 24::R))).mono ?_;clear hS;rintro e w ⟨vx,rfl,hS⟩|(have:=mB1);(fail_if_success (have:=mB2));((with_reducible apply AE7 (ns:=w9 z1) hS);rfl;rfl;rfl;exact Tryz.underlying46;exact Tryz.underlying5;exact Tryz.underlying9;exact Take.head;rw[Cn7];refine frS ?_)|(have:=mB2);(fail_if_success (have:=mB3));((with_reducible apply AE7 (ns:=w9 z2) hS);rfl;rfl;rfl;exact Tryz.underlying46;exact Tryz.underlying5;exact Tryz.underlying9;exact Take.head;rw[Cn7];refine frS ?_);have mB3:Nat:=0|(have:=mB3);((with_reducible apply AE7 (ns:=w9 z7) hS);rfl;rfl;rfl;exact Tryz.underlying46;exact Tryz.underlying5;exact Tryz.underlying9;exact Take.head;rw[Cn7];refine frS ?_)|refine zbs hS ?_;clear hS;intro bS w hS|(have hS2:St W (blk bS [.pointer (some ⟨b7,3,none⟩),.pointer (some ⟨b7,4,none⟩),.pointer (some ⟨b7,5,none⟩),.pointer (some ⟨b7,6,none⟩)] 75::_) _:=hS);clear hS;go_at_call 26;refine(Js7 E4.out Q3.out (by(focus((repeat(first|exact .head|apply Take.tail));done))) (hS2.s (rdG D rb _::blk b7 _ _::blk bS _ _::blk b4 _ _::row _ 9 _ _ _::D::byR (.slice a0 X.length c0) X::blk b2 [.I 0,.I 0,.slice none 0 0] 24::R))).mono ?_;clear hS2;rintro e w ⟨rfl,hS⟩|refine zlN hS ?_|refine zl1 hS ?_|refine zs1 hS ?_;clear hS;intro w hS|(with_reducible apply At7 hS);rfl;rfl;rfl;rfl;exact esS;exact rsS;rfl;decide;exact d7;exact Src.mk a7.whole;(focus(try rfl));rfl;(focus(unfold maxLen;omega));(focus(omega));clear hS;intro v w hS;(have hv:=hS.rowVal;obtain⟨va,vc,rfl⟩:=hv);refine frS ?_)
   have hS1:=hS.s (rdG D rb _::blk b4 _ _::row (.slice va (i+1) vc) 9 55 (i+1) _::D::byR (.slice a0 X.length c0) X::blk b2 [.I 0,.I 0,.slice none 0 0] 24::R);go_roundw
   case rel=>exact⟨i+1,.slice va (i+1) vc,by congr 1;omega,hil,Q6.out,by rw[Hst.out];exact hS1⟩
   case measure=>simp[intOf];omega
  ·have hie:i=zs.length:=by omega
   have d1:decide ((0:Int)<(zs.length:Int)-(i:Int))=false:=by simp;omega
   have d0:(zs.length:Int)-(i:Int)=0:=by omega
   rw[hie,List.drop_length,List.take_length]at hS;have hs2:∀z∈zs.map clZ,smZ z/\rgZ z:=fun z hz=>by obtain⟨y,hy,rfl⟩:=List.mem_map.1 hz;exact⟨JX7 (Hs.out y hy).1,Kb7 y⟩
   have hen:F6 ⟨clN ver,clN nxt,zs.map clZ⟩=X:=(Jl7 ⟨ver,nxt,zs⟩).trans HX.out.symm;have hll:(zs.map clZ).length=zs.length:=jM ..;have hrr:=Hr.out;obtain⟨l,hle⟩:∃l,l=zs.map clZ:=⟨_,rfl⟩
   rw[<-hle]at hS hs2 hen hll hrr;rw[<-hll]at hS;obtain⟨za,zc,rfl⟩:=hS.drop.drop.rowVal;have Hle:=jH hle;have Hsz:=jH hs2;have Hen:=jH hen;have Hrr:=jH hrr;have He:=jH (show aJ4 (some [])=true from rfl);have hl60:l.length<=60:=by omega
   clear hle hs2 hen hrr hie hi hll d0 hok
   rcases Bool.eq_false_or_eq_true r with hr1|hr1
   ·have hmy:=Hrr.out.1 hr1;have Hry:=jH hmy;have Hr1:=jH hr1;clear Hrr hmy hr1 Hr;go_wp2_with(first|go_big_skip|go_at_call 30;refine(Fj7 He.out W _ _ hS).mono ?_;clear hS;rintro e w ⟨rfl,hS⟩|refine zlN hS ?_|go_at_call 31;refine(Jt7 Hry.out W _ _ _ (by(focus((repeat(first|exact .head|apply Take.tail));done))) hS).mono ?_;clear hS;rintro e w ⟨rfl,hS⟩|go_at_call 14;refine(FM7 Hsz.out (by omega) (BS7 _) (BS7 _) W _ _ _ (by(focus((repeat(first|exact .head|apply Take.tail));done))) hS).mono ?_;clear hS;rintro e w ⟨ev,rfl,hS⟩;rw[Hen.out]at hS|go_at_call 32;refine(FN7 (byR (.slice a0 X.length c0) X) a0 c0 X ev Hat.out W _ _ _ _ (by(focus((repeat(first|exact .head|apply Take.tail));done))) .head hS).mono ?_;clear hS;rintro e w ⟨rfl,hS⟩|refine zsN hS ?_;clear hS;intro w hS);apply AD7;rfl;rfl;rfl;rfl;exact hS;decide +kernel;(exact s9);kernel_rfl;refine .inr ⟨Hr1.out,_,rfl,?_⟩;rw[<-Hle.out];exact hS.s _
   ·have hmy:¬p7 ⟨clN ver,clN nxt,l⟩:=fun h=>by
     have:=Hrr.out.2 h;rw[hr1]at this
     cases this
    have Hry:=jH hmy;have Hr1:=jH hr1;clear Hrr hmy hr1 Hr;go_wp2_with(first|go_big_skip|go_at_call 30;refine(Fj7 He.out W _ _ hS).mono ?_;clear hS;rintro e w ⟨rfl,hS⟩|refine zlN hS ?_|go_at_call 31;refine(Kd7 Hry.out W _ _ _ (by(focus((repeat(first|exact .head|apply Take.tail));done))) hS).mono ?_;clear hS;rintro e w ⟨rfl,hS⟩|refine zsN hS ?_;clear hS;intro w hS);apply AD7;rfl;rfl;rfl;rfl;exact hS;decide +kernel;(exact s9);kernel_rfl;exact .inl ⟨Hr1.out,rfl,hS.s _⟩
end Go.Proofs.YtjcfifkjbaffnaaGreat
end
