/-
  A map of zones as bytes.
-/
import Derived.Test.YtjcfifkjbaffnaaPeQM5
import Derived.Test.YtjcfifkjbaffnaaPeQM7
import Derived.Test.YtjcfifkjbaffnaaPeQM10
set_option maxHeartbeats 16000000
set_option maxRecDepth 100000
set_option linter.unusedSimpArgs false
set_option linter.unusedVariables false
section
namespace Go.Proofs.Ytjcfifkjbaffnaa
open Go.RowKit Go.Sl
def rgI(n:Int):Prop := -9223372036854775808<=n/\n<=9223372036854775807
def rgZ(z:Zo):Prop:=rgI z.id/\rgI z.own/\rgI z.ep/\rgI z.pend/\rgI z.to/\rgI z.new
theorem BB7(n:Int):rgI (clN n):=by have:=HJ7 n;unfold rgI;omega
theorem Jc7(z:Zo):rgZ (clZ z):=⟨BB7 _,BB7 _,BB7 _,BB7 _,BB7 _,BB7 _⟩
theorem Gn7(s:ByteArray)(a:Option Addr)(c:Nat):B6 [(a,c,s7 s)]=m8 s:=by unfold B6 aT4 m8;simp[An7]
theorem Go7(wb:Nat)(d:List Int)(s1 s2:ByteArray)(b g1 c1 g2 c2 c:Nat)(hd:d.length<=30000000)(h1:s1.size<=1000000)(h2:s2.size<=1000000)(W w:World)(R:List HP)(hS:St W (wrR wb d::blk b [.S g1 s1.size c1,.S g2 s2.size c2] 33::sbR g1 s1::sbR g2 s2::R) w):
  Calls Try.prog 33 #[.P wb,.S b 2 c] w fun e w'=>e=.returned (.tuple #[])/\St W (wrR wb (d++(m8 s1++m8 s2))::blk b [.S g1 s1.size c1,.S g2 s2.size c2] 33::sbR g1 s1::sbR g2 s2::R) w':=by
 have h:=Id7 wb d [(some ⟨g1,0,none⟩,c1,s7 s1),(some ⟨g2,0,none⟩,c2,s7 s2)] b 0 c hd (by simp) (fun x hx=>by
  rcases List.mem_cons.1 hx with rfl|hx
  ·show(s7 s1).length<=_;rw[An7];omega
  ·obtain rfl:=List.mem_singleton.1 hx;show(s7 s2).length<=_;rw[An7];omega) W w (blk b [.S g1 s1.size c1,.S g2 s2.size c2] 33::sbR g1 s1::sbR g2 s2::R) (fun i hi=>by
  have hi2:i=0\/i=1:=by simp at hi;omega
  rcases hi2 with rfl|rfl
  ·show b8 _ _ _ (.S g1 (s7 s1).length c1)
   rw[An7];exact b8.here rfl
  ·show b8 _ _ _ (.S g2 (s7 s2).length c2)
   rw[An7];exact b8.here rfl) (fun x hx=>by
  rcases List.mem_cons.1 hx with rfl|hx
  ·exact Src.mk (a7.there a7.sb)
  ·obtain rfl:=List.mem_singleton.1 hx;exact Src.mk (a7.there (a7.there a7.sb))) hS
 have e:B6 [(some (⟨g1,0,none⟩:Addr),c1,s7 s1),(some ⟨g2,0,none⟩,c2,s7 s2)]=m8 s1++m8 s2:=by rw[<-Gn7 s1 (jP g1) c1,<-Gn7 s2 (jP g2) c2];unfold B6;simp
 rw[e]at h;exact h
def EzR(W:World)(R:List HP)(wb:Nat)(base:List Int)(zs:List Zo)(v:Value)(w:World):Prop:=
 ∃i:Nat,v=.I i/\i<=zs.length/\St W (wrR wb (base++(zs.take i).flatMap p8)::R) w
theorem EO7(wb:Nat)(d:List Int)(ns:List Int)(b c:Nat)(cs:List Value){n:Nat}(hcs:cs=ns.map (Value.int .i64))(hn0:n=ns.length)(hd:d.length<=90000000)(hl:ns.length<=100)(hn:∀x∈ns,rgI x)(W w:World)(R:List HP)(hS:St W (wrR wb d::blk b cs 3::R) w):
  Calls Try.prog 32 #[.P wb,.S b n c] w fun e w'=>e=.returned (.tuple #[])/\St W (wrR wb (d++k7 ns)::blk b cs 3::R) w':=by
 subst hcs hn0;exact FU7 wb d ns b c hd hl hn W w R hS
theorem At7{zs:List Zo}{v:Value}{V:World}(hv:c9 Zo.cells 9 V v zs){ver nxt:Int}(hs:∀z∈zs,smZ z/\rgZ z)(hl:zs.length<=60)(h1:rgI ver)(h2:rgI nxt)(W w:World)(R:List HP)(hS:St W (Old V::R) w):
  Calls Try.prog 14 #[.agg #[.I ver,.I nxt,v]] w fun e w'=>∃u,e=.returned u/\St W (byR u (E8 ⟨ver,nxt,zs⟩)::Old V::R) w':=by
 obtain⟨a,cap,rfl,h63,hact⟩:=hv;have Hat:=jH hact;have Hs:=jH hs
 have Hr3:=jH (show ∀x∈[ver,nxt,(zs.length:Int)],rgI x from fun x hx=>by
  simp only[List.mem_cons,List.not_mem_nil,or_false]at hx
  rcases hx with rfl|rfl|rfl
  ·exact h1
  ·exact h2
  ·unfold rgI;omega)
 have hbl:(k7 [ver,nxt,(zs.length:Int)]).length<=27:=by have:=CO7 [ver,nxt,(zs.length:Int)];simp only[jC,List.length_nil]at this;exact this
 clear hact hs h1 h2;have hem:E8 ⟨ver,nxt,zs⟩=k7 [ver,nxt,(zs.length:Int)]++zs.flatMap p8:=rfl;rw[hem];clear hem;go_enter Try.func14,Try.ntmps14;go_wp2_with(first|go_big_skip|refine zbx hS ?_;clear hS;intro b1 w hS|refine zal hS ?_;clear hS;intro wb w hS|refine zl1 hS ?_|refine zbs hS ?_;clear hS;intro bS w hS|((have hS2:St W (blk bS [.I ver,.I nxt,.I zs.length] 3::_) _:=hS);clear hS;have hS:=hS2;clear hS2);go_at_call 32;refine(EO7 wb [] [ver,nxt,zs.length] bS 3 [.I ver,.I nxt,.I zs.length] rfl rfl (by simp) (by simp) Hr3.out W _ _ (bF4 (hS.s (blk wb _ _::blk bS _ _::blk b1 _ _::Old V::R)))).mono ?_;clear hS;rw[jN];rintro e w ⟨rfl,hS⟩);have hS1:=hS.s (wrR wb _::Old V::R);clear hS;have hS:=hS1;clear hS1;obtain⟨base,hb⟩:∃base,base=k7 [ver,nxt,(zs.length:Int)]:=⟨_,rfl⟩
 rw[<-hb]at hS hbl;have Hb0:=jH hb;clear hb
 go_loopw [18] (fun v wr=>EzR W (Old V::R) wb base zs v wr) (fun v _=>zs.length-(intOf v).toNat)
 case atStart=>exact⟨0,rfl,Nat.zero_le _,by simpa using hS⟩
 case round=>
  clear hS;obtain⟨i,rfl,hi,hS⟩:=hrel;by_cases hil:i<zs.length
  ·have d1:decide (i<zs.length)=true:=decide_eq_true hil;have hst:base++(zs.take (i+1)).flatMap p8=base++(zs.take i).flatMap p8++p8 zs[i]:=by rw[List.take_succ_eq_append_getElem hil,List.flatMap_append,jS];simp
   have hdl:=Bp7 (l:=zs.take i) fun z hz=>(Hs.out z (List.mem_of_mem_take hz)).1
   rw[jT]at hdl;obtain⟨⟨s1,s2,s3⟩,⟨r0,r3,r4,r5,r6,r8⟩⟩:=Hs.out _ (jW hil);obtain⟨d,hd⟩:∃d,d=base++(zs.take i).flatMap p8:=⟨_,rfl⟩
   have hdn:d.length<=20000:=by rw[hd,jA];omega
   rw[<-hd]at hS hst;obtain⟨pb,poff,rfl,hall⟩:=Hat.out i hil;generalize zs[i]=z at hst hall s1 s2 s3 r0 r3 r4 r5 r6 r8;obtain⟨z0,z1,z2,z3,z4,z5,z6,z7,z8⟩:=z;simp only[Zo.cells]at hall;simp only at s1 s2 s3 r0 r3 r4 r5 r6 r8;have e1:d++k7 [z0]++(m8 z1++m8 z2)++k7 [z3,z4,z5,z6]++m8 z7++k7 [z8]=d++p8 ⟨z0,z1,z2,z3,z4,z5,z6,z7,z8⟩:=by unfold p8 k7;simp only[List.flatMap_cons,List.flatMap_nil,List.append_nil,jS]
   rw[<-e1]at hst;have l0:=Ao7 z0;have l1:(m8 z1).length<=69:=by have:=Ao7 z1.size;unfold m8;rw[jA,An7];omega
   have l2:(m8 z2).length<=69:=by have:=Ao7 z2.size;unfold m8;rw[jA,An7];omega
   have l3:=Dy7 z3 z4 z5 z6;have l4:(m8 z7).length<=69:=by have:=Ao7 z7.size;unfold m8;rw[jA,An7];omega
   have l5:(k7 [z0]).length<=9:=by unfold k7;simpa using l0
   have HL1:=jH (show(d++k7 [z0]).length<=30000000 by simp only[jA];omega);have HL2:=jH (show(d++k7 [z0]++(m8 z1++m8 z2)).length<=30000000 by simp only[jA];omega);have HL3:=jH (show(d++k7 [z0]++(m8 z1++m8 z2)++k7 [z3,z4,z5,z6]).length<=30000000 by simp only[jA];omega);have HL4:=jH (show(d++k7 [z0]++(m8 z1++m8 z2)++k7 [z3,z4,z5,z6]++m8 z7).length<=30000000 by simp only[jA];omega);have Ha:=jH (show ∀x∈[z0],rgI x from fun x hx=>by rw[List.mem_singleton.1 hx];exact r0)
   have Hb:=jH (show ∀x∈[z3,z4,z5,z6],rgI x from fun x hx=>by
    simp only[List.mem_cons,List.not_mem_nil,or_false]at hx
    rcases hx with rfl|rfl|rfl|rfl <;> assumption)
   have Hc:=jH (show ∀x∈[z8],rgI x from fun x hx=>by rw[List.mem_singleton.1 hx];exact r8);have Hst:=jH hst;clear hst e1 l0 l1 l2 l3 l4 l5 r0 r3 r4 r5 r6 r8 hdl hd hi
   go_wp2_with(first|go_big_skip|refine zlN hS ?_ (vs:=[.I z0,.string z1,.string z2,.I z3,.I z4,.I z5,.I z6,.string z7,.I z8]) (hc:=by exact a7.old (by exact f9) hall)|refine zal hS ?_;clear hS;intro b5 w hS|refine zsN hS ?_;clear hS;intro w hS|refine zl1 hS ?_|(fail_if_success (have:=mG1));((with_reducible apply Be7 hS);rfl;rfl;rfl;exact Try.underlying9;exact Try.underlying33;exact Try.underlying5);clear hS;have mG1:Nat:=0;intro ga ca w hS;refine frS ?_|(have:=mG1);(fail_if_success (have:=mG2));((with_reducible apply Be7 hS);rfl;rfl;rfl;exact Try.underlying9;exact Try.underlying33;exact Try.underlying5);clear hS;have mG2:Nat:=0;intro gb cb w hS;refine frS ?_|(have:=mG2);((with_reducible apply Be7 hS);rfl;rfl;rfl;exact Try.underlying9;exact Try.underlying33;exact Try.underlying5);clear hS;intro gc cc w hS;refine frS ?_|refine zbs hS ?_;clear hS;intro bS w hS|(fail_if_success (have:=mN1));((have hS2:St W (blk bS [.I z0] 3::_) _:=hS);clear hS;have hS:=hS2;clear hS2);(go_at_call 32;refine(EO7 wb d [z0] bS 1 [.I z0] rfl rfl (by omega) (by simp) Ha.out W _ _ (hS.s (wrR wb d::blk bS _ _::blk b5 [.I z0,.string z1,.string z2,.I z3,.I z4,.I z5,.I z6,.string z7,.I z8] _::Old V::R))).mono ?_;clear hS;have mN1:Nat:=0;rintro e w ⟨rfl,hS⟩)|(fail_if_success (have:=mB1));((have hS2:St W (blk bS [.S ga z1.size ca,.S gb z2.size cb] 33::_) _:=hS);clear hS;have hS:=hS2;clear hS2);(go_at_call 33;refine(Go7 wb (d++k7 [z0]) z1 z2 bS ga ca gb cb 2 HL1.out (by omega) (by omega) W _ _ (hS.s (wrR wb (d++k7 [z0])::blk bS _ _::sbR ga z1::sbR gb z2::blk b5 [.I z0,.string z1,.string z2,.I z3,.I z4,.I z5,.I z6,.string z7,.I z8] _::Old V::R))).mono ?_;clear hS;have mB1:Nat:=0;rintro e w ⟨rfl,hS⟩)|(have:=mN1);(fail_if_success (have:=mN2));((have hS2:St W (blk bS [.I z3,.I z4,.I z5,.I z6] 3::_) _:=hS);clear hS;have hS:=hS2;clear hS2);(go_at_call 32;refine(EO7 wb (d++k7 [z0]++(m8 z1++m8 z2)) [z3,z4,z5,z6] bS 4 [.I z3,.I z4,.I z5,.I z6] rfl rfl (by have:=HL2.out;omega) (by simp) Hb.out W _ _ (hS.s (wrR wb _::blk bS _ _::blk b5 [.I z0,.string z1,.string z2,.I z3,.I z4,.I z5,.I z6,.string z7,.I z8] _::Old V::R))).mono ?_;clear hS;have mN2:Nat:=0;rintro e w ⟨rfl,hS⟩)|(have:=mB1);((have hS2:St W (blk bS [.S gc z7.size cc] 33::_) _:=hS);clear hS;have hS:=hS2;clear hS2);go_at_call 33;refine(Ib7 wb (d++k7 [z0]++(m8 z1++m8 z2)++k7 [z3,z4,z5,z6]) z7 bS gc cc 1 (by have:=HL3.out;omega) (by omega) W _ _ (hS.s (wrR wb _::blk bS _ _::sbR gc z7::blk b5 [.I z0,.string z1,.string z2,.I z3,.I z4,.I z5,.I z6,.string z7,.I z8] _::Old V::R))).mono ?_;clear hS;rintro e w ⟨rfl,hS⟩|(have:=mN2);((have hS2:St W (blk bS [.I z8] 3::_) _:=hS);clear hS;have hS:=hS2;clear hS2);go_at_call 32;refine(EO7 wb (d++k7 [z0]++(m8 z1++m8 z2)++k7 [z3,z4,z5,z6]++m8 z7) [z8] bS 1 [.I z8] rfl rfl (by have:=HL4.out;omega) (by simp) Hc.out W _ _ (hS.s (wrR wb _::blk bS _ _::blk b5 [.I z0,.string z1,.string z2,.I z3,.I z4,.I z5,.I z6,.string z7,.I z8] _::Old V::R))).mono ?_;clear hS;rintro e w ⟨rfl,hS⟩)
   go_roundw
   case rel=>exact⟨i+1,rfl,hil,by rw[Hst.out];exact hS.s _⟩
   case measure=>simp[intOf];omega
  ·have d1:decide (i<zs.length)=false:=decide_eq_false hil;have hie:i=zs.length:=by omega
   rw[hie,List.take_length]at hS;have hdl:=Bp7 (l:=zs) fun z hz=>(Hs.out z hz).1
   have hz0:0<(base++zs.flatMap p8).length:=by
    rw[Hb0.out,jA];have:0<(k7 [ver,nxt,(zs.length:Int)]).length:=by have:=GV7 ver;unfold k7;rw[List.flatMap_cons,jA];omega
    omega
   have hz1:(base++zs.flatMap p8).length<=100000000:=by rw[jA];omega
   have Hz0:=jH hz0;have Hz1:=jH hz1;clear hie hi hdl hz0 hz1;go_wp2_with(first|go_big_skip|go_at_call 34;refine(bE4 wb _ Hz1.out Hz0.out W _ _ hS).mono ?_;clear hS;rintro e w ⟨vo,rfl,hS⟩);go_ret;exact⟨vo,rfl,by rw[<-Hb0.out];exact hS.s _⟩
def t7(hs:List Int)(k:Nat):Int:=hs.getD k 0%256
def r7(hs:List Int)(k:Nat):Int:=8+hs.getD k 0 / 256%2
theorem Bb7(hs:List Int)(k:Nat):0<=t7 hs k/\t7 hs k<=255:=by unfold t7;omega
theorem Bq7(hs:List Int)(k:Nat):r7 hs k=8\/r7 hs k=9:=by unfold r7;omega
def O7(hs:List Int)(zs:List Zo):Prop:=∀k (h:k<zs.length), ∃f t,f.size<=60/\t.size<=60/\zs[k]=⟨k+1,f,t,r7 hs k,1,0,0,bN,0⟩
theorem Hq7(hs:List Int):O7 hs []:=fun k h=>absurd h (Nat.not_lt_zero _)
theorem Hr7{hs:List Int}{zs:List Zo}(h:O7 hs zs){f t:ByteArray}(hf:f.size<=60)(ht:t.size<=60):O7 hs (zs++[⟨zs.length+1,f,t,r7 hs zs.length,1,0,0,bN,0⟩]):=by
 intro k hk;rw[jA,List.length_singleton]at hk
 rcases Nat.lt_or_ge k zs.length with h1|h1
 ·obtain⟨f2,t2,h2,h3,h4⟩:=h k h1;exact⟨f2,t2,h2,h3,by rw[List.getElem_append_left h1];exact h4⟩
 ·obtain rfl:k=zs.length:=by omega
  exact⟨f,t,hf,ht,by simp⟩
def evL(hs:List Int)(i:Nat):List Ro:=(List.range i).map fun(k:Nat)=>(⟨(k:Int)+1,t7 hs k,bN⟩:Ro)
theorem Eg7(hs:List Int)(i:Nat):(evL hs i).length=i:=by simp[evL]
theorem It7(hs:List Int)(i:Nat):evL hs (i+1)=evL hs i++[⟨i+1,t7 hs i,bN⟩]:=by unfold evL;rw[List.range_succ,List.map_append];rfl
theorem Gp7:∀(l:List Ro) (n:Int) (k:Nat) (h:k<l.length),l[k].zone=n->(∀j (hj:j<k),(l[j]'(by omega)).zone≠n)->(D5 l n).hits=G9 l[k].hits
 | r::l,n,0,_,e,_=>by rw[D5,if_pos (show r.zone=n from e)];rfl
 | r::l,n,k+1,h,e,hn=>by rw[D5,if_neg (show ¬r.zone=n from hn 0 (by omega))];exact Gp7 l n k (by simpa using h) e fun j hj=>hn (j+1) (by omega)
theorem CT7{hs:List Int}{n k:Nat}(hk:k<n){z:Zo}(hz:z.id=k+1):i6 (evL hs n) z=t7 hs k:=by
 have hl:k<(evL hs n).length:=by rw[Eg7];exact hk
 have h1:=Gp7 (evL hs n) z.id k hl (by simp[evL,hz]) fun j hj=>by simp[evL,hz];omega
 unfold i6;rw[h1];have:=Bb7 hs k;simp only[evL,List.getElem_map,List.getElem_range,G9];omega
def i9(hs:List Int)(h:Int):Nat->Int
 | 0=>0
 | i+1=>i9 hs h i+(if r7 hs i=h then t7 hs i else 0)
theorem Bc7(hs:List Int)(h:Int):∀i,0<=i9 hs h i/\i9 hs h i<=i*255
 | 0=>⟨Int.le_refl _,Int.le_refl _⟩
 | i+1=>by have h1:=Bc7 hs h i;have h2:=Bb7 hs i;rw[i9];split <;> omega
theorem EP7{hs:List Int}{zs:List Zo}(hz:O7 hs zs)(h:Int):∀i,i<=zs.length->d6 (evL hs zs.length) pn0 h (zs.take i)=i9 hs h i
 | 0,_=>by rw[List.take_zero];rfl
 | i+1,hi=>by
  rw[Ex7 _ _ _ (by omega:i<zs.length),EP7 hz h i (by omega),i9];obtain⟨f,t,_,_,e⟩:=hz i (by omega);rw[CT7 (k:=i) (by omega) (by rw[e])];have:atZ pn0 (zs[i]'(by omega))=r7 hs i:=by rw[e];rfl
  rw[this]
theorem EQ7{l:List Ro}{zs:List Zo}{hs:List Int}:∀{n:Nat} {s t:Pn},MovI l zs hs n s t->t.out.length<=s.out.length+n
 | 0,s,_,.done _=>by omega
 | n+1,s,_,.none _ _ _=>by omega
 | n+1,s,t,.some (k:=k) (a:=a) (b:=b) ha hb hn hk hm=>by
  have:=EQ7 hm;have e:(I6 s zs[k] b).out.length=s.out.length+1:=by simp[I6]
  omega
theorem Hs7{l:List Ro}{zs:List Zo}{v nx hot:Int}{hs:List Int}{out:List Cg}(hh:∀z∈zs,i6 l z<=hot)(hM:L6 ⟨v,nx,zs⟩ hs l hot 0 out):out.length<=2:=by
 rcases hM with ⟨_,rfl⟩|⟨hm,Z,s,p1,p2,p3,rfl⟩
 ·exact Nat.zero_le _
 ·rw[CM7 _ _ _ _ fun z hz=>hh z (p1.mem_iff.1 hz)]at p3;rw[DZ7 _ (Int.le_refl _)];have h9:s.out.length<=0+(2-l9 zs 3):=EQ7 p3;omega
def EvJ(hs:List Int)(n:Nat)(was:Int):(Int->Int)->List Cg->Prop
 | ld,[]=>∀h,8<=h->h<=10->ld h<=was
 | ld,c::cs=>c.kind=3/\8<=c.to/\c.to<=10/\∃k:Nat,k<n/\c.zone=k+1/\evF ld (r7 hs k) c.to (t7 hs k) c.to<was/\EvJ hs n was (evF ld (r7 hs k) c.to (t7 hs k)) cs
theorem HN7{hs:List Int}{zs:List Zo}(hz:O7 hs zs){was:Int}:∀{cs:List Cg} {ld:Int->Int},EvI (evL hs zs.length) zs was ld cs->EvJ hs zs.length was ld cs
 | [],_,h=>h
 | c::cs,ld,⟨h1,h2,h3,k,hk,h4,h5,h6⟩=>by
  obtain⟨f,t,_,_,e⟩:=hz k hk;have e1:zs[k].own=r7 hs k:=by rw[e]
  have e2:i6 (evL hs zs.length) zs[k]=t7 hs k:=CT7 hk (by rw[e]);rw[e1,e2]at h5 h6;exact⟨h1,h2,h3,k,hk,h4,h5,HN7 hz h6⟩
theorem Ht7{hs:List Int}{zs:List Zo}(hz:O7 hs zs){was v nx:Int}{out:List Cg}(hw:∀h,8<=h->h<=10->i9 hs h zs.length<=was)(hM:L6 ⟨v,nx,zs⟩ [8,9,10] (evL hs zs.length) 1073741824 0 out):EvJ hs zs.length was (fun h=>i9 hs h zs.length) out/\out.length<=2:=by
 have hh:∀z∈zs,i6 (evL hs zs.length) z<=1073741824:=fun z hm=>by obtain⟨k,hk,rfl⟩:=List.getElem_of_mem hm;obtain⟨f,t,_,_,e⟩:=hz k hk;rw[CT7 hk (by rw[e])];have:=Bb7 hs k;omega
 have hld:(fun h=>d6 (evL hs zs.length) pn0 h zs)=fun h=>i9 hs h zs.length:=by
  funext h
  have:=EP7 hz h zs.length (Nat.le_refl _);rwa [List.take_length]at this
 refine⟨HN7 hz ?_,Hs7 hh hM⟩;rw[<-hld];refine Fb7 (fun k h=>?_) hh (fun h h8 h10=>?_) hM
 ·obtain⟨f,t,_,_,e⟩:=hz k h;rw[e];exact⟨rfl,rfl⟩
 ·have h9:d6 (evL hs zs.length) pn0 h zs=i9 hs h zs.length:=congrFun hld h;rw[h9];exact hw h h8 h10
theorem Iu7{hs:List Int}{zs:List Zo}(hz:O7 hs zs)(hl:zs.length<=12):∀z∈zs,smZ z/\rgZ z:=by
 intro z hm;obtain⟨k,hk,rfl⟩:=List.getElem_of_mem hm;obtain⟨f,t,h1,h2,e⟩:=hz k hk;have r:∀n:Int, -50<=n->n<=50->rgI n:=fun n a b=>by unfold rgI;omega
 rw[e];have:=Bq7 hs k;exact⟨⟨h1,h2,(by decide:(0:Nat)<=60)⟩,r _ (by show -50<=(k:Int)+1;omega) (by show(k:Int)+1<=50;omega),r _ (by show -50<=r7 hs k;omega) (by show r7 hs k<=50;omega),r 1 (by omega) (by omega),r 0 (by omega) (by omega),r 0 (by omega) (by omega),r 0 (by omega) (by omega)⟩
theorem Ca7(hs:List Int):∀i,i9 hs 10 i=0
 | 0=>rfl
 | i+1=>by rw[i9,Ca7 hs i,if_neg (by have:=Bq7 hs i;omega)];rfl
theorem Hu7{hs:List Int}{zs:List Zo}{n:Nat}(hz:O7 hs zs)(hl:zs.length=n){was v nx:Int}{out:List Cg}(w8:i9 hs 8 n<=was)(w9:i9 hs 9 n<=was)(w0:0<=was)(hM:L6 ⟨v,nx,zs⟩ [8,9,10] (evL hs n) 1073741824 0 out):EvJ hs n was (fun h=>i9 hs h n) out/\out.length<=2:=by
 subst hl;refine Ht7 hz (fun h h8 h10=>?_) hM;have h9:h=8\/h=9\/h=10:=by omega
 rcases h9 with rfl|rfl|rfl
 ·exact w8
 ·exact w9
 ·rw[Ca7];exact w0
end Go.Proofs.Ytjcfifkjbaffnaa
end
