/-
  A map of zones out of its bytes.
-/
import Derived.Test.YtjcfifkjbaffnaaPeQM5
import Derived.Test.YtjcfifkjbaffnaaPeQM11
import Derived.Test.YtjcfifkjbaffnaaPeQM14
set_option maxHeartbeats 16000000
set_option maxRecDepth 100000
set_option linter.unusedSimpArgs false
set_option linter.unusedVariables false
section
namespace Go.Proofs.Ytjcfifkjbaffnaa
open Go.RowKit Go.Sl
section
variable{D:HP}{rb bM bZ bS c:Nat}{s s2:RS}{W w:World}{R R':List HP}
theorem Jd7{x0 x1:Int}(hx:j9 2 s=([x0,x1],s2))(h:RdOk s)(ht:Take R D R')(hS:St W (rdG D rb s::blk bM [.I 0,.I 0,.slice none 0 0] 26::blk bS [.P bM,.pointer (some ⟨bM,1,none⟩)] 72::R) w):
  Calls Try.prog 25 #[.P rb,.S bS 2 c] w fun e w'=>e=.returned (.tuple #[])/\St W (rdG D rb s2::blk bM [.I x0,.I x1,.slice none 0 0] 26::R) w':=by
 refine(HI7 D rb s h [(bM,0),(bM,1)] (by simp) bS c (fun xs=>blk bM [.I (xs.getD 0 0),.I (xs.getD 1 0),.slice none 0 0] 26::blk bS [.P bM,.pointer (some ⟨bM,1,none⟩)] 72::R) ⟨?_,fun xs=>⟨_,.tail (.tail ht)⟩⟩ ?_ W w hS).mono ?_
 ·intro xs x hx
  match xs,hx with
  | [],_=>exact⟨_,_,by simp,by simp,.head⟩
  | [_],_=>exact⟨_,_,by simp,by simp,.head⟩
  | _::_::_,hx=>simp at hx;omega
 ·intro xs i hi
  match i,hi with
  | 0,_=>exact .there (.here rfl)
  | 1,_=>exact .there (.here rfl)
  | i+2,hi=>simp at hi;omega
 ·rintro e w' ⟨rfl,hS⟩;rw[show[(bM,0),(bM,1)].length=2 from rfl,hx]at hS;have hS2:St W (rdG D rb s2::blk bM [.I x0,.I x1,.slice none 0 0] 26::blk bS _ _::R) w':=hS;exact⟨rfl,hS2.s _⟩
theorem Ix7{z0:Int}{z1 z2:ByteArray}{x0 x1 x2 x3:Int}(hx:j9 4 s=([x0,x1,x2,x3],s2))(h:RdOk s)(ht:Take R D R')(hS:St W (rdG D rb s::blk bZ [.I z0,.string z1,.string z2,.I 0,.I 0,.I 0,.I 0,.string ⟨#[]⟩,.I 0] 32::blk bS [.pointer (some ⟨bZ,3,none⟩),.pointer (some ⟨bZ,4,none⟩),.pointer (some ⟨bZ,5,none⟩),.pointer (some ⟨bZ,6,none⟩)] 72::R) w):
  Calls Try.prog 25 #[.P rb,.S bS 4 c] w fun e w'=>e=.returned (.tuple #[])/\St W (rdG D rb s2::blk bZ [.I z0,.string z1,.string z2,.I x0,.I x1,.I x2,.I x3,.string ⟨#[]⟩,.I 0] 32::R) w':=by
 refine(HI7 D rb s h [(bZ,3),(bZ,4),(bZ,5),(bZ,6)] (by simp) bS c (fun xs=>blk bZ [.I z0,.string z1,.string z2,.I (xs.getD 0 0),.I (xs.getD 1 0),.I (xs.getD 2 0),.I (xs.getD 3 0),.string ⟨#[]⟩,.I 0] 32::blk bS [.pointer (some ⟨bZ,3,none⟩),.pointer (some ⟨bZ,4,none⟩),.pointer (some ⟨bZ,5,none⟩),.pointer (some ⟨bZ,6,none⟩)] 72::R) ⟨?_,fun xs=>⟨_,.tail (.tail ht)⟩⟩ ?_ W w hS).mono ?_
 ·intro xs x hx
  match xs,hx with
  | [],_=>exact⟨_,_,by simp,by simp,.head⟩
  | [_],_=>exact⟨_,_,by simp,by simp,.head⟩
  | [_,_],_=>exact⟨_,_,by simp,by simp,.head⟩
  | [_,_,_],_=>exact⟨_,_,by simp,by simp,.head⟩
  | _::_::_::_::_,hx=>simp at hx;omega
 ·intro xs i hi
  match i,hi with
  | 0,_=>exact .there (.here rfl)
  | 1,_=>exact .there (.here rfl)
  | 2,_=>exact .there (.here rfl)
  | 3,_=>exact .there (.here rfl)
  | i+4,hi=>simp at hi;omega
 ·rintro e w' ⟨rfl,hS⟩;rw[show[(bZ,3),(bZ,4),(bZ,5),(bZ,6)].length=4 from rfl,hx]at hS;have hS2:St W (rdG D rb s2::blk bZ [.I z0,.string z1,.string z2,.I x0,.I x1,.I x2,.I x3,.string ⟨#[]⟩,.I 0] 32::blk bS _ _::R) w':=hS;exact⟨rfl,hS2.s _⟩
end
abbrev zoR(v:Value)(l:List Zo):HP:=row v 9 32 l.length (l.flatMap Zo.cells)
theorem Gq7{l:List Zo}{v:Value}{ver nxt:Int}{r:Bool}(hr:r=true↔t8 ⟨ver,nxt,l⟩)(W w:World)(R R':List HP)(ht:Take R (zoR v l) R')(hS:St W R w):
  Calls Try.prog 30 #[.agg #[.I ver,.I nxt,v]] w fun e w'=>e=.returned (.bool r)/\St W R w':=by
 have hv:=St.sliceV (enc:=Zo.cells) Zo.len (hS.take ht);refine(Iw7 hv ver nxt w w [] (St.start w)).mono ?_;rintro e w' ⟨q,h1,rfl,h2⟩;have:q=r:=by rw[Bool.eq_iff_iff,h1,hr]
 subst this;exact⟨rfl,St.rebase (A:=[]) hS h2⟩
theorem Iy7{l:List Zo}{v:Value}{ver nxt:Int}(h:t8 ⟨ver,nxt,l⟩)(W w:World)(R R':List HP)(ht:Take R (zoR v l) R')(hS:St W R w):
  Calls Try.prog 30 #[.agg #[.I ver,.I nxt,v]] w fun e w'=>e=.returned (.bool true)/\St W R w':=Gq7 (r:=true) ⟨fun _=>h,fun _=>rfl⟩ W w R R' ht hS
theorem Je7{l:List Zo}{v:Value}{ver nxt:Int}(h:¬t8 ⟨ver,nxt,l⟩)(W w:World)(R R':List HP)(ht:Take R (zoR v l) R')(hS:St W R w):
  Calls Try.prog 30 #[.agg #[.I ver,.I nxt,v]] w fun e w'=>e=.returned (.bool false)/\St W R w':=Gq7 (r:=false) ⟨fun h=>(by cases h),fun h2=>absurd h2 h⟩ W w R R' ht hS
theorem Fn7{l:List Zo}{v:Value}{ver nxt:Int}(hs:∀z∈l,smZ z/\rgZ z)(hl:l.length<=60)(h1:rgI ver)(h2:rgI nxt)(W w:World)(R R':List HP)(ht:Take R (zoR v l) R')(hS:St W R w):
  Calls Try.prog 14 #[.agg #[.I ver,.I nxt,v]] w fun e w'=>∃u,e=.returned u/\St W (byR u (E8 ⟨ver,nxt,l⟩)::R) w':=by
 have hv:=St.sliceV (enc:=Zo.cells) Zo.len (hS.take ht);refine(At7 hv hs hl h1 h2 w w [] (St.start w)).mono ?_;rintro e w' ⟨u,rfl,h2⟩;exact⟨u,rfl,St.rebase (A:=[byR u (E8 ⟨ver,nxt,l⟩)]) hS h2⟩
theorem Fo7(D:HP)(a:Option Addr)(c:Nat)(b:List Int)(v:Value)(hat:At D a c b)(W w:World)(R R' R2:List HP)(ht:Take R D R')(hx:Take R (byR v b) R2)(hS:St W R w):
  Calls Try.prog 31 #[v,.slice a b.length c] w fun e w'=>e=.returned (.bool true)/\St W R w':=Ik7 D a c b b v hat (beq_self_eq_true _) W w R R' R2 ht hx hS
def DzR(W:World)(R:List HP)(D:HP)(rb b4:Nat)(ver nxt:Int)(zs:List Zo)(v:Value)(w:World):Prop:=
 ∃(i:Nat) (zv:Value),v=.I ((zs.length:Int)-i)/\i<=zs.length/\RdOk (some ((zs.drop i).flatMap p8))/\St W (rdG D rb (some ((zs.drop i).flatMap p8))::blk b4 [.I ver,.I nxt,zv] 26::row zv 9 32 i (((zs.take i).map clZ).flatMap Zo.cells)::R) w
theorem CA7{m:Mp}(hs:∀z∈m.zs,smZ z/\rgZ z)(hl:m.zs.length<=60){r:Bool}(hr:r=true↔t8 (clM m))(v:Value)(W w:World)(R:List HP)(hS:St W (byR v (E8 m)::R) w):
  Calls Try.prog 13 #[v] w fun e w'=>(r=false/\e=.returned (.tuple #[.agg #[.I 0,.I 0,.slice none 0 0],.I 3])/\St W R w') \/
   (r=true/\∃zv,e=.returned (.tuple #[.agg #[.I (clN m.ver),.I (clN m.nxt),zv],.I 0])/\St W (zoR zv (m.zs.map clZ)::R) w'):=by
 obtain⟨ver,nxt,zs⟩:=m;simp only at hs hl;obtain⟨X,hX⟩:∃X,X=E8 ⟨ver,nxt,zs⟩:=⟨_,rfl⟩
 have hXl:X.length<=20000:=by rw[hX];exact Hn7 (fun z hz=>(hs z hz).1) hl
 have hXb:ByB X:=by rw[hX];exact Hm7 _
 obtain⟨y1,q1,q2⟩:=Gi7 ⟨ver,nxt,zs⟩;rw[<-hX]at hS q1;simp only at q1 q2;rw[AV7 (n:=(zs.length:Int)) (by omega) (by omega)]at q2;have k0:RdOk (some X):=⟨fun l hl=>by cases hl;exact hXb,fun l hl=>by cases hl;omega⟩
 have k1:RdOk (some y1):=by have:=RdOk.nums 2 k0;rw[q1]at this;exact this
 have k2:RdOk (some (zs.flatMap p8)):=by have:=k1.num;rw[q2]at this;exact this
 have H2:=jH q1;have H3:=jH q2;have K0:=jH k0;have K1:=jH k1;have K2:=jH k2;have HX:=jH hX;have Hs:=jH hs;have Hr:=jH (show r=true↔t8 ⟨clN ver,clN nxt,zs.map clZ⟩from hr);obtain⟨a0,c0,rfl,hd⟩:=HH7 hS;have Hat:=jH (FY7 hd);clear q1 q2 k0 k1 k2 hX hs hd hr;go_enter Try.func13,Try.ntmps13;go_wp2_with(first|go_big_skip|(fail_if_success (have:=mA1));(refine zal hS ?_;clear hS;have mA1:Nat:=0;intro b2 w hS)|(have:=mA1);refine zal hS ?_;clear hS;intro b4 w hS|go_at_call 24;refine(IV7 _ a0 c0 X Hat.out (by omega) W _ _ _ (by(focus((repeat(first|exact .head|apply Take.tail));done))) hS).mono ?_;clear hS;rintro e w ⟨v2,rb,rfl,hS⟩|refine zbs hS ?_;clear hS;intro bS w hS|(have hS2:St W (blk bS [.P b4,.pointer (some ⟨b4,1,none⟩)] 72::_) _:=hS);clear hS;go_at_call 25;refine(Jd7 H2.out K0.out (by(focus((repeat(first|exact .head|apply Take.tail));done))) (hS2.s (rdG _ rb (some X)::blk b4 _ _::blk bS _ _::byR v2 X::byR (.slice a0 X.length c0) X::blk b2 _ _::R))).mono ?_;clear hS2;rintro e w ⟨rfl,hS⟩|go_at_call 26;refine(Gf7 H3.out K1.out W _ _ _ (by(focus((repeat(first|exact .head|apply Take.tail));done))) hS).mono ?_;clear hS;rintro e w ⟨rfl,hS⟩);obtain⟨D,hD⟩:∃D,D=byR v2 X:=⟨_,rfl⟩
 rw[<-hD]at hS;have hS1:=((hS.rowNil (k:=9) (T:=32)).s (rdG D rb (some (zs.flatMap p8))::blk b4 [.I (clN ver),.I (clN nxt),.slice none 0 0] 26::row (.slice none 0 0) 9 32 0 []::D::byR (.slice a0 X.length c0) X::blk b2 [.I 0,.I 0,.slice none 0 0] 26::R))
 clear hS;have hS:=hS1;clear hS1 hD
 go_loopw [6] (fun v wr=>DzR W (D::byR (.slice a0 X.length c0) X::blk b2 [.I 0,.I 0,.slice none 0 0] 26::R) D rb b4 (clN ver) (clN nxt) zs v wr) (fun v _=>(intOf v).toNat)
 case atStart=>exact⟨0,.slice none 0 0,by simp,Nat.zero_le _,K2.out,hS⟩
 case round=>
  clear hS;obtain⟨i,zv,rfl,hi,hok,hS⟩:=hrel;by_cases hil:i<zs.length
  ·have d1:decide ((0:Int)<(zs.length:Int)-(i:Int))=true:=by simp;omega
   have hst:((zs.take (i+1)).map clZ).flatMap Zo.cells=((zs.take i).map clZ).flatMap Zo.cells++(clZ zs[i]).cells:=by rw[List.take_succ_eq_append_getElem hil,List.map_append,List.flatMap_append];simp
   have hdr:(zs.drop i).flatMap p8=p8 zs[i]++(zs.drop (i+1)).flatMap p8:=by rw[List.drop_eq_getElem_cons hil,List.flatMap_cons]
   obtain⟨hz,_⟩:=Hs.out _ (jW hil);obtain⟨r1,r2,r3,r4,r5,e1,e2,e3,e4,e5,e6⟩:=Gh7 hz ((zs.drop (i+1)).flatMap p8);rw[<-hdr]at e1;have t1:RdOk (some r1):=by have:=hok.num;rw[e1]at this;exact this
   have t2:RdOk (some r2):=by have:=t1.bytes;rw[e2]at this;exact this
   have t3:RdOk (some r3):=by have:=t2.bytes;rw[e3]at this;exact this
   have t4:RdOk (some r4):=by have:=RdOk.nums 4 t3;rw[e4]at this;exact this
   have t5:RdOk (some r5):=by have:=t4.bytes;rw[e5]at this;exact this
   have t6:RdOk (some ((zs.drop (i+1)).flatMap p8)):=by have:=t5.num;rw[e6]at this;exact this
   generalize (zs.drop i).flatMap p8=s0 at hS hok e1;generalize zs[i]=z at hst e1 e2 e3 e4 e5 e6;obtain⟨z0,z1,z2,z3,z4,z5,z6,z7,z8⟩:=z;simp only at e1 e2 e3 e4 e5 e6;obtain⟨za,zc,rfl⟩:=hS.drop.drop.rowVal;have E1:=jH e1;have E2:=jH e2;have E3:=jH e3;have E4:=jH e4;have E5:=jH e5;have E6:=jH e6;have Q0:=jH hok;have Q1:=jH t1;have Q2:=jH t2;have Q3:=jH t3;have Q4:=jH t4;have Q5:=jH t5;have Q6:=jH t6;have Hst:=jH hst;clear e1 e2 e3 e4 e5 e6 hok t1 t2 t3 t4 t5 t6 hst hdr hz
   go_wp2_with(first|go_big_skip|go_at_call 27;refine(Hj7 W _ _ hS).mono ?_;clear hS;rintro e w ⟨rfl,hS⟩|refine zal hS ?_;clear hS;intro b7 w hS|(fail_if_success (have:=mN1));(go_at_call 26;refine(Gf7 E1.out Q0.out W _ _ _ (by(focus((repeat(first|exact .head|apply Take.tail));done))) (hS.s (rdG D rb _::blk b7 _ _::blk b4 _ _::row _ 9 _ _ _::D::byR (.slice a0 X.length c0) X::blk b2 [.I 0,.I 0,.slice none 0 0] 26::R))).mono ?_;clear hS;have mN1:Nat:=0;rintro e w ⟨rfl,hS⟩)|(have:=mN1);go_at_call 26;refine(Gf7 E6.out Q5.out W _ _ _ (by(focus((repeat(first|exact .head|apply Take.tail));done))) (hS.s (rdG D rb _::blk b7 _ _::blk b4 _ _::row _ 9 _ _ _::D::byR (.slice a0 X.length c0) X::blk b2 [.I 0,.I 0,.slice none 0 0] 26::R))).mono ?_;clear hS;rintro e w ⟨rfl,hS⟩|(fail_if_success (have:=mB1));go_at_call 28;refine(CP7 E2.out Q1.out W _ _ _ (by(focus((repeat(first|exact .head|apply Take.tail));done))) (hS.s (rdG D rb _::blk b7 _ _::blk b4 _ _::row _ 9 _ _ _::D::byR (.slice a0 X.length c0) X::blk b2 [.I 0,.I 0,.slice none 0 0] 26::R))).mono ?_;clear hS;rintro e w ⟨vx,rfl,hS⟩;have mB1:Nat:=0|(have:=mB1);(fail_if_success (have:=mB2));go_at_call 28;refine(CP7 E3.out Q2.out W _ _ _ (by(focus((repeat(first|exact .head|apply Take.tail));done))) (hS.s (rdG D rb _::blk b7 _ _::blk b4 _ _::row _ 9 _ _ _::D::byR (.slice a0 X.length c0) X::blk b2 [.I 0,.I 0,.slice none 0 0] 26::R))).mono ?_;clear hS;rintro e w ⟨vx,rfl,hS⟩;have mB2:Nat:=0|(have:=mB2);go_at_call 28;refine(CP7 E5.out Q4.out W _ _ _ (by(focus((repeat(first|exact .head|apply Take.tail));done))) (hS.s (rdG D rb _::blk b7 _ _::blk b4 _ _::row _ 9 _ _ _::D::byR (.slice a0 X.length c0) X::blk b2 [.I 0,.I 0,.slice none 0 0] 26::R))).mono ?_;clear hS;rintro e w ⟨vx,rfl,hS⟩|(have:=mB1);(fail_if_success (have:=mB2));((with_reducible apply Aq7 (ns:=s7 z1) hS);rfl;rfl;rfl;exact Try.underlying33;exact Try.underlying5;exact Try.underlying9;exact Take.head;rw[BU7];refine frS ?_)|(have:=mB2);(fail_if_success (have:=mB3));((with_reducible apply Aq7 (ns:=s7 z2) hS);rfl;rfl;rfl;exact Try.underlying33;exact Try.underlying5;exact Try.underlying9;exact Take.head;rw[BU7];refine frS ?_);have mB3:Nat:=0|(have:=mB3);((with_reducible apply Aq7 (ns:=s7 z7) hS);rfl;rfl;rfl;exact Try.underlying33;exact Try.underlying5;exact Try.underlying9;exact Take.head;rw[BU7];refine frS ?_)|refine zbs hS ?_;clear hS;intro bS w hS|(have hS2:St W (blk bS [.pointer (some ⟨b7,3,none⟩),.pointer (some ⟨b7,4,none⟩),.pointer (some ⟨b7,5,none⟩),.pointer (some ⟨b7,6,none⟩)] 72::_) _:=hS);clear hS;go_at_call 25;refine(Ix7 E4.out Q3.out (by(focus((repeat(first|exact .head|apply Take.tail));done))) (hS2.s (rdG D rb _::blk b7 _ _::blk bS _ _::blk b4 _ _::row _ 9 _ _ _::D::byR (.slice a0 X.length c0) X::blk b2 [.I 0,.I 0,.slice none 0 0] 26::R))).mono ?_;clear hS2;rintro e w ⟨rfl,hS⟩|refine zlN hS ?_|refine zl1 hS ?_|refine zs1 hS ?_;clear hS;intro w hS|(with_reducible apply Am7 hS);rfl;rfl;rfl;rfl;exact esS;exact rsS;rfl;decide;exact c7;exact Src.mk a7.whole;(focus(try rfl));rfl;(focus(unfold maxLen;omega));(focus(omega));clear hS;intro v w hS;(have hv:=hS.rowVal;obtain⟨va,vc,rfl⟩:=hv);refine frS ?_)
   have hS1:=hS.s (rdG D rb _::blk b4 _ _::row (.slice va (i+1) vc) 9 32 (i+1) _::D::byR (.slice a0 X.length c0) X::blk b2 [.I 0,.I 0,.slice none 0 0] 26::R);go_roundw
   case rel=>exact⟨i+1,.slice va (i+1) vc,by congr 1;omega,hil,Q6.out,by rw[Hst.out];exact hS1⟩
   case measure=>simp[intOf];omega
  ·have hie:i=zs.length:=by omega
   have d1:decide ((0:Int)<(zs.length:Int)-(i:Int))=false:=by simp;omega
   have d0:(zs.length:Int)-(i:Int)=0:=by omega
   rw[hie,List.drop_length,List.take_length]at hS;have hs2:∀z∈zs.map clZ,smZ z/\rgZ z:=fun z hz=>by obtain⟨y,hy,rfl⟩:=List.mem_map.1 hz;exact⟨IX7 (Hs.out y hy).1,Jc7 y⟩
   have hen:E8 ⟨clN ver,clN nxt,zs.map clZ⟩=X:=(In7 ⟨ver,nxt,zs⟩).trans HX.out.symm;have hll:(zs.map clZ).length=zs.length:=jM ..;have hrr:=Hr.out;obtain⟨l,hle⟩:∃l,l=zs.map clZ:=⟨_,rfl⟩
   rw[<-hle]at hS hs2 hen hll hrr;rw[<-hll]at hS;obtain⟨za,zc,rfl⟩:=hS.drop.drop.rowVal;have Hle:=jH hle;have Hsz:=jH hs2;have Hen:=jH hen;have Hrr:=jH hrr;have He:=jH (show aK4 (some [])=true from rfl);have hl60:l.length<=60:=by omega
   clear hle hs2 hen hrr hie hi hll d0 hok
   rcases Bool.eq_false_or_eq_true r with hr1|hr1
   ·have hmy:=Hrr.out.1 hr1;have Hry:=jH hmy;have Hr1:=jH hr1;clear Hrr hmy hr1 Hr;go_wp2_with(first|go_big_skip|go_at_call 29;refine(EJ7 He.out W _ _ hS).mono ?_;clear hS;rintro e w ⟨rfl,hS⟩|refine zlN hS ?_|go_at_call 30;refine(Iy7 Hry.out W _ _ _ (by(focus((repeat(first|exact .head|apply Take.tail));done))) hS).mono ?_;clear hS;rintro e w ⟨rfl,hS⟩|go_at_call 14;refine(Fn7 Hsz.out (by omega) (BB7 _) (BB7 _) W _ _ _ (by(focus((repeat(first|exact .head|apply Take.tail));done))) hS).mono ?_;clear hS;rintro e w ⟨ev,rfl,hS⟩;rw[Hen.out]at hS|go_at_call 31;refine(Fo7 (byR (.slice a0 X.length c0) X) a0 c0 X ev Hat.out W _ _ _ _ (by(focus((repeat(first|exact .head|apply Take.tail));done))) .head hS).mono ?_;clear hS;rintro e w ⟨rfl,hS⟩|refine zsN hS ?_;clear hS;intro w hS);apply Ap7;rfl;rfl;rfl;rfl;exact hS;decide +kernel;(exact I5);kernel_rfl;refine .inr ⟨Hr1.out,_,rfl,?_⟩;rw[<-Hle.out];exact hS.s _
   ·have hmy:¬t8 ⟨clN ver,clN nxt,l⟩:=fun h=>by
     have:=Hrr.out.2 h;rw[hr1]at this
     cases this
    have Hry:=jH hmy;have Hr1:=jH hr1;clear Hrr hmy hr1 Hr;go_wp2_with(first|go_big_skip|go_at_call 29;refine(EJ7 He.out W _ _ hS).mono ?_;clear hS;rintro e w ⟨rfl,hS⟩|refine zlN hS ?_|go_at_call 30;refine(Je7 Hry.out W _ _ _ (by(focus((repeat(first|exact .head|apply Take.tail));done))) hS).mono ?_;clear hS;rintro e w ⟨rfl,hS⟩|refine zsN hS ?_;clear hS;intro w hS);apply Ap7;rfl;rfl;rfl;rfl;exact hS;decide +kernel;(exact I5);kernel_rfl;exact .inl ⟨Hr1.out,rfl,hS.s _⟩
theorem c9.flat{α:Type}{enc:α->List Value}{k:Nat}(henc:∀x,(enc x).length=k)(hk:0<k){V:World}{b off cap:Nat}{xs:List α}(h:c9 enc k V (.slice (some ⟨b,off,none⟩) xs.length cap) xs)(j:Nat)(u:Value)(hj:(xs.flatMap enc)[j]? = some u):V.cell? ⟨b,off+j,none⟩=some u:=by
 obtain⟨a,c,e,_,h⟩:=h
 cases e
 have hl:=Ai7 henc xs;have hjl:=(List.getElem?_eq_some_iff.1 hj).1;rw[hl]at hjl;have hi:j / k<xs.length:=Nat.div_lt_of_lt_mul (by rw[Nat.mul_comm];exact hjl);have hr:j%k<k:=Nat.mod_lt _ hk;obtain⟨b2,off2,e2,h2⟩:=h (j / k) hi
 cases e2
 have h3:=AL7 henc xs [] (j / k) hi (j%k) hr;rw[List.append_nil,Nat.mul_comm,Nat.div_add_mod]at h3;have h4:=h2 (j%k) u (h3.symm.trans hj);rw[show off+j / k*k+j%k=off+j by rw[Nat.add_assoc,Nat.mul_comm,Nat.div_add_mod]]at h4;exact h4
def hC(n:Int):List Value:=[.I n]
theorem DG7(n:Int):(hC n).length=1:=rfl
theorem DH7{α:Type}{enc:α->List Value}(xs:List α)(h:∀x,((enc x).all fun v=>v.oneCell')=true):(xs.flatMap enc).all (·.oneCell')=true:=by rw[List.all_eq_true];intro v hv;obtain⟨x,_,hx⟩:=List.mem_flatMap.1 hv;exact List.all_eq_true.1 (h x) v hx
theorem Zo.one(z:Zo):(z.cells.all fun v=>v.oneCell')=true:=rfl
theorem Jf7(n:Int):((hC n).all fun v=>v.oneCell')=true:=rfl
theorem Gr7{xs:List Int}{v:Value}{V:World}(hv:c9 hC 1 V v xs)(h0:0<xs.length)(hl:xs.length<=1000)(W w:World)(R:List HP)(hS:St W (Old V::R) w):
  Calls Try.prog 36 #[v] w fun e w'=>∃u,e=.returned u/\St W (row u 1 3 xs.length (xs.flatMap hC)::Old V::R) w':=by
 obtain⟨a,cap,rfl,h63,hact⟩:=id hv;obtain⟨pb,poff,rfl,_⟩:=hact 0 h0;have Hsrc:=jH (show Src (Old V::R) (.slice (some ⟨pb,poff,none⟩) xs.length cap) xs.length (xs.flatMap hC)from Src.mk (a7.old .head (fun j u hj=>c9.flat DG7 (by decide) hv j u hj)));clear hact hv h63;go_enter Try.func36,Try.ntmps36;go_wp2_with(first|go_big_skip|(with_reducible apply BV7);rfl;rfl;rfl;rfl;exact Try.underlying22;simp only[Option.isNone_some,Option.isNone_none];refine frS ?_|(with_reducible apply Dn7 (n:=0) hS);rfl;rfl;(focus(simp only[fD,fI,fJ,Act.eval,fE,fF,fG,fH,fK];try rfl));exact esS;exact rsS;rfl;rfl;rfl;rfl;rfl;decide;clear hS;intro bv w hS;refine frS ?_|(with_reducible apply Am7 hS);rfl;rfl;rfl;rfl;exact esS;exact rsS;rfl;decide;exact c7;exact Hsrc.out.there;(focus(rw[Ai7 DG7]));exact DH7 xs Jf7;(focus(unfold maxLen;omega));(focus(omega));clear hS;intro v w hS;(have hv:=hS.rowVal;obtain⟨va,vc,rfl⟩:=hv);refine frS ?_);go_ret;refine⟨.slice va xs.length vc,by show Ending.returned (.slice va (0+xs.length) vc)=_;rw[Nat.zero_add],?_⟩;have h0:St W (row (.slice va (0+xs.length) vc) 1 _ (0+xs.length) ([]++xs.flatMap hC)::_) w:=hS;rw[jN,Nat.zero_add]at h0;exact h0
theorem Gs7{xs:List Zo}{v:Value}{V:World}(hv:c9 Zo.cells 9 V v xs)(h0:0<xs.length)(hl:xs.length<=1000)(W w:World)(R:List HP)(hS:St W (Old V::R) w):
  Calls Try.prog 37 #[v] w fun e w'=>∃u,e=.returned u/\St W (zoR u xs::Old V::R) w':=by
 obtain⟨a,cap,rfl,h63,hact⟩:=id hv;obtain⟨pb,poff,rfl,_⟩:=hact 0 h0;have Hsrc:=jH (show Src (Old V::R) (.slice (some ⟨pb,poff,none⟩) xs.length cap) xs.length (xs.flatMap Zo.cells)from Src.mk (a7.old .head (fun j u hj=>c9.flat Zo.len (by decide) hv j u hj)));clear hact hv h63;go_enter Try.func37,Try.ntmps37;go_wp2_with(first|go_big_skip|(with_reducible apply BV7);rfl;rfl;rfl;rfl;exact Try.underlying24;simp only[Option.isNone_some,Option.isNone_none];refine frS ?_|(with_reducible apply Dn7 (n:=0) hS);rfl;rfl;(focus(simp only[fD,fI,fJ,Act.eval,fE,fF,fG,fH,fK];try rfl));exact esS;exact rsS;rfl;rfl;rfl;rfl;rfl;decide;clear hS;intro bv w hS;refine frS ?_|(with_reducible apply Am7 hS);rfl;rfl;rfl;rfl;exact esS;exact rsS;rfl;decide;exact c7;exact Hsrc.out.there;(focus(rw[Ai7 Zo.len]));exact DH7 xs Zo.one;(focus(unfold maxLen;omega));(focus(omega));clear hS;intro v w hS;(have hv:=hS.rowVal;obtain⟨va,vc,rfl⟩:=hv);refine frS ?_);go_ret;refine⟨.slice va xs.length vc,by show Ending.returned (.slice va (0+xs.length) vc)=_;rw[Nat.zero_add],?_⟩;have h0:St W (row (.slice va (0+xs.length) vc) 9 _ (0+xs.length) ([]++xs.flatMap Zo.cells)::_) w:=hS;rw[jN,Nat.zero_add]at h0;exact h0
def B7(hs:List Int)(j:Nat)(h:j<hs.length):Prop:=8<=hs[j]/\hs[j]<14/\∀hj:0<j,hs[j-1]<hs[j]
theorem AH7(hs:List Int):p7 hs↔(1<=hs.length/\hs.length<=6)/\∀j (h:j<hs.length),B7 hs j h:=by
 constructor
 ·rintro⟨h1,h2,h3,h4⟩;refine⟨⟨h1,h2⟩,fun j h=>⟨(h3 _ (jW h)).1,(h3 _ (jW h)).2,fun hj=>?_⟩⟩;exact List.pairwise_iff_getElem.1 h4 (j-1) j (by omega) h (by omega)
 ·rintro⟨⟨h1,h2⟩,h3⟩;refine⟨h1,h2,fun h hh=>?_,?_⟩
  ·obtain⟨j,hj,rfl⟩:=List.getElem_of_mem hh;exact⟨(h3 j hj).1,(h3 j hj).2.1⟩
  ·rw[List.pairwise_iff_getElem];intro i j hi hj hij
   induction j with
   | zero=>omega
   | succ j ih=>
    have h5:=(h3 (j+1) hj).2.2 (by omega);simp only[Nat.add_sub_cancel]at h5
    rcases Nat.lt_or_ge i j with h6|h6
    ·have:=ih (by omega) h6;omega
    ·obtain rfl:i=j:=by omega
     exact h5
def HoR(W:World)(R:List HP)(hs:List Int)(v:Value)(w:World):Prop:=
 ∃i:Nat,v=.I i/\i<=hs.length/\(∀j (h:j<hs.length),j<i->B7 hs j h)/\St W R w
theorem Cb7{hs:List Int}{v:Value}{V:World}(hv:c9 hC 1 V v hs)(hl:hs.length<=1000)(W w:World)(R:List HP)(hS:St W (Old V::R) w):
  Calls Try.prog 35 #[v] w fun e w'=>∃r,(r=true↔p7 hs)/\e=.returned (.bool r)/\St W (Old V::R) w':=by
 obtain⟨a,cap,rfl,h63,hact⟩:=hv;have Hat:=jH hact;clear hact;go_enter Try.func35,Try.ntmps35;go_wp2_with(first|go_big_skip)
 go_loopw [7] (fun v wr=>HoR W (Old V::R) hs v wr) (fun v _=>hs.length-(intOf v).toNat)
 case atStart=>exact⟨0,rfl,Nat.zero_le _,fun j _ h=>absurd h (Nat.not_lt_zero _),hS⟩
 case round=>
  clear hS;obtain⟨i,rfl,hi,hok,hS⟩:=hrel;by_cases hil:i<hs.length
  ·have d1:decide (i<hs.length)=true:=decide_eq_true hil
   have hnx:B7 hs i hil->∀j (h:j<hs.length),j<i+1->B7 hs j h:=fun h j hj hlt=>by
    rcases Nat.lt_or_ge j i with h1|h1
    ·exact hok j hj h1
    ·obtain rfl:j=i:=by omega
     exact h
   have hbad:¬B7 hs i hil->¬∀j (h:j<hs.length),B7 hs j h:=fun h1 h2=>h1 (h2 i hil)
   obtain⟨pb,poff,rfl,hall⟩:=Hat.out i hil;have hx0:V.cell? ⟨pb,poff+i,none⟩=some (.I hs[i]):=by have:=hall 0 _ rfl;rwa [Nat.mul_one,Nat.add_zero]at this
   have hi1000:i<=1000:=by omega
   by_cases h0:i=0
   ·have d0:decide (0<i)=false:=decide_eq_false (by omega);have hat:(8<=hs[i]/\hs[i]<14)->B7 hs i hil:=fun h=>⟨h.1,h.2,fun hj=>absurd hj (by omega)⟩
    have hno:¬(8<=hs[i]/\hs[i]<14)->¬B7 hs i hil:=fun h h2=>h ⟨h2.1,h2.2.1⟩
    obtain⟨x,hx⟩:∃x,x=hs[i]:=⟨_,rfl⟩
    rw[<-hx]at hx0 hat hno;clear hall hok hx h0 hi;by_cases c1:8<=x
    case neg=>
     have e1:decide (x<8)=true:=by simp;omega
     have Hno:=jH (hbad (hno fun h=>c1 h.1));clear hbad hno hat hnx c1;go_wp2_with(first|go_big_skip|refine zl1 hS ?_ (v:=.I x) (hc:=by exact b8.old (by exact f9) hx0)|refine zl1 hS ?_ (v:=.I y) (hc:=by exact b8.old (by exact f9) hy0));go_ret;exact⟨false,⟨fun h=>(by cases h),fun h=>absurd ((AH7 _).1 h).2 Hno.out⟩,rfl,hS⟩
    have e1:decide (x<8)=false:=by simp;omega
    by_cases c2:x<14
    case neg=>
     have e2:decide (14<=x)=true:=by simp;omega
     have Hno:=jH (hbad (hno fun h=>c2 h.2));clear hbad hno hat hnx c1 c2;go_wp2_with(first|go_big_skip|refine zl1 hS ?_ (v:=.I x) (hc:=by exact b8.old (by exact f9) hx0)|refine zl1 hS ?_ (v:=.I y) (hc:=by exact b8.old (by exact f9) hy0));go_ret;exact⟨false,⟨fun h=>(by cases h),fun h=>absurd ((AH7 _).1 h).2 Hno.out⟩,rfl,hS⟩
    have e2:decide (14<=x)=false:=by simp;omega
    have Hnx:=jH (hnx (hat ⟨c1,c2⟩));clear hbad hno hat hnx c1 c2;go_wp2_with(first|go_big_skip|refine zl1 hS ?_ (v:=.I x) (hc:=by exact b8.old (by exact f9) hx0));go_roundw
    case rel=>exact⟨i+1,rfl,hil,Hnx.out,hS⟩
    case measure=>simp[intOf];omega
   ·have d0:decide (0<i)=true:=decide_eq_true (by omega);obtain⟨m,rfl⟩:∃m,i=m+1:=⟨i-1,by omega⟩
    have hml:m<hs.length:=by omega
    have hat:(8<=hs[m+1]/\hs[m+1]<14)->hs[m]<hs[m+1]->B7 hs (m+1) hil:=fun h h2=>⟨h.1,h.2,fun _=>h2⟩
    have hno:¬(8<=hs[m+1]/\hs[m+1]<14/\hs[m]<hs[m+1])->¬B7 hs (m+1) hil:=fun h h2=>h ⟨h2.1,h2.2.1,h2.2.2 (by omega)⟩
    obtain⟨pb2,poff2,ea,hally⟩:=Hat.out m hml
    cases ea
    have hy0:V.cell? ⟨pb,poff+m,none⟩=some (.I hs[m]):=by have:=hally 0 _ rfl;rwa [Nat.mul_one,Nat.add_zero]at this
    obtain⟨x,hx⟩:∃x,x=hs[m+1]:=⟨_,rfl⟩
    obtain⟨y,hy⟩:∃y,y=hs[m]:=⟨_,rfl⟩
    rw[<-hx]at hx0 hat hno;rw[<-hy]at hy0 hat hno;have hm1:((m+1:Nat):Int)-1=(m:Int):=by omega
    clear hall hally hok hx hy h0 hi;by_cases c1:8<=x
    case neg=>
     have e1:decide (x<8)=true:=by simp;omega
     have Hno:=jH (hbad (hno fun h=>c1 h.1));clear hbad hno hat hnx c1;go_wp2_with(first|go_big_skip|refine zl1 hS ?_ (v:=.I x) (hc:=by exact b8.old (by exact f9) hx0)|refine zl1 hS ?_ (v:=.I y) (hc:=by exact b8.old (by exact f9) hy0));go_ret;exact⟨false,⟨fun h=>(by cases h),fun h=>absurd ((AH7 _).1 h).2 Hno.out⟩,rfl,hS⟩
    have e1:decide (x<8)=false:=by simp;omega
    by_cases c2:x<14
    case neg=>
     have e2:decide (14<=x)=true:=by simp;omega
     have Hno:=jH (hbad (hno fun h=>c2 h.2.1));clear hbad hno hat hnx c1 c2;go_wp2_with(first|go_big_skip|refine zl1 hS ?_ (v:=.I x) (hc:=by exact b8.old (by exact f9) hx0)|refine zl1 hS ?_ (v:=.I y) (hc:=by exact b8.old (by exact f9) hy0));go_ret;exact⟨false,⟨fun h=>(by cases h),fun h=>absurd ((AH7 _).1 h).2 Hno.out⟩,rfl,hS⟩
    have e2:decide (14<=x)=false:=by simp;omega
    by_cases c3:y<x
    case neg=>
     have e3:decide (x<=y)=true:=by simp;omega
     have Hno:=jH (hbad (hno fun h=>c3 h.2.2));clear hbad hno hat hnx c1 c2 c3;go_wp2_with(first|go_big_skip|refine zl1 hS ?_ (v:=.I x) (hc:=by exact b8.old (by exact f9) hx0)|refine zl1 hS ?_ (v:=.I y) (hc:=by exact b8.old (by exact f9) hy0));go_ret;exact⟨false,⟨fun h=>(by cases h),fun h=>absurd ((AH7 _).1 h).2 Hno.out⟩,rfl,hS⟩
    have e3:decide (x<=y)=false:=by simp;omega
    have Hnx:=jH (hnx (hat ⟨c1,c2⟩ c3));clear hbad hno hat hnx c1 c2 c3;go_wp2_with(first|go_big_skip|refine zl1 hS ?_ (v:=.I x) (hc:=by exact b8.old (by exact f9) hx0)|refine zl1 hS ?_ (v:=.I y) (hc:=by exact b8.old (by exact f9) hy0));go_roundw
    case rel=>exact⟨m+1+1,rfl,hil,Hnx.out,hS⟩
    case measure=>simp[intOf];omega
  ·have d1:decide (i<hs.length)=false:=decide_eq_false hil;have hall:∀j (h:j<hs.length),B7 hs j h:=fun j h=>hok j h (by omega)
   clear hok hi;by_cases c1:1<=hs.length
   case neg=>
    have e1:decide ((1:Int)<=(hs.length:Int))=false:=by simp;omega
    have Hno:=jH (show ¬p7 hs from fun h=>c1 h.1);clear hall c1;go_wp2_with(first|go_big_skip);go_ret;exact⟨false,⟨fun h=>(by cases h),fun h=>absurd h Hno.out⟩,rfl,hS⟩
   have e1:decide ((1:Int)<=(hs.length:Int))=true:=by simp;omega
   by_cases c2:hs.length<=6
   case neg=>
    have e2:decide ((hs.length:Int)<=6)=false:=by simp;omega
    have Hno:=jH (show ¬p7 hs from fun h=>c2 h.2.1);clear hall c1 c2;go_wp2_with(first|go_big_skip);go_ret;exact⟨false,⟨fun h=>(by cases h),fun h=>absurd h Hno.out⟩,rfl,hS⟩
   have e2:decide ((hs.length:Int)<=6)=true:=by simp;omega
   have Hyes:=jH ((AH7 hs).2 ⟨⟨c1,c2⟩,hall⟩);clear hall c1 c2;go_wp2_with(first|go_big_skip);go_ret;exact⟨true,⟨fun _=>Hyes.out,fun _=>rfl⟩,rfl,hS⟩
end Go.Proofs.Ytjcfifkjbaffnaa
end
