/-
  Hosts, copies of slices, rows of zones that are the same.
-/
import Derived.Test.YtjcfifkjbaffnaaGreatPkQM5
import Derived.Test.YtjcfifkjbaffnaaGreatPkQM14
set_option maxHeartbeats 16000000
set_option maxRecDepth 100000
set_option linter.unusedSimpArgs false
set_option linter.unusedVariables false
section
namespace Go.Proofs.YtjcfifkjbaffnaaGreat
open Go.RowKit Go.Sl
theorem d6.flat{α:Type}{enc:α->List Value}{k:Nat}(henc:∀x,(enc x).length=k)(hk:0<k){V:World}{b off cap:Nat}{xs:List α}(h:d6 enc k V (.slice (some ⟨b,off,none⟩) xs.length cap) xs)(j:Nat)(u:Value)(hj:(xs.flatMap enc)[j]? = some u):V.cell? ⟨b,off+j,none⟩=some u:=by
 obtain⟨a,c,e,_,h⟩:=h
 cases e
 have hl:=Am7 henc xs;have hjl:=(List.getElem?_eq_some_iff.1 hj).1;rw[hl]at hjl;have hi:j / k<xs.length:=Nat.div_lt_of_lt_mul (by rw[Nat.mul_comm];exact hjl);have hr:j%k<k:=Nat.mod_lt _ hk;obtain⟨b2,off2,e2,h2⟩:=h (j / k) hi
 cases e2
 have h3:=AX7 henc xs [] (j / k) hi (j%k) hr;rw[List.append_nil,Nat.mul_comm,Nat.div_add_mod]at h3;have h4:=h2 (j%k) u (h3.symm.trans hj);rw[show off+j / k*k+j%k=off+j by rw[Nat.add_assoc,Nat.mul_comm,Nat.div_add_mod]]at h4;exact h4
def hC(n:Int):List Value:=[.I n]
theorem Cs7(n:Int):(hC n).length=1:=rfl
theorem Ct7{α:Type}{enc:α->List Value}(xs:List α)(h:∀x,((enc x).all fun v=>v.oneCell')=true):(xs.flatMap enc).all (·.oneCell')=true:=by rw[List.all_eq_true];intro v hv;obtain⟨x,_,hx⟩:=List.mem_flatMap.1 hv;exact List.all_eq_true.1 (h x) v hx
theorem Zo.one(z:Zo):(z.cells.all fun v=>v.oneCell')=true:=rfl
theorem IK7(n:Int):((hC n).all fun v=>v.oneCell')=true:=rfl
theorem GY7{xs:List Int}{v:Value}{V:World}(hv:d6 hC 1 V v xs)(h0:0<xs.length)(hl:xs.length<=1000)(W w:World)(R:List HP)(hS:St W (Old V::R) w):
  Calls Tryz.prog 37 #[v] w fun e w'=>∃u,e=.returned u/\St W (row u 1 3 xs.length (xs.flatMap hC)::Old V::R) w':=by
 obtain⟨a,cap,rfl,h63,hact⟩:=id hv;obtain⟨pb,poff,rfl,_⟩:=hact 0 h0;have Hsrc:=jH (show Src (Old V::R) (.slice (some ⟨pb,poff,none⟩) xs.length cap) xs.length (xs.flatMap hC)from Src.mk (a7.old .head (fun j u hj=>d6.flat Cs7 (by decide) hv j u hj)));clear hact hv h63;go_enter Tryz.func37,Tryz.ntmps37;go_wp2_with(first|go_big_skip|(with_reducible apply Co7);rfl;rfl;rfl;rfl;exact Tryz.underlying25;simp only[Option.isNone_some,Option.isNone_none];refine frS ?_|(with_reducible apply Ci7 (n:=0) hS);rfl;rfl;(focus(simp only[fD,fI,fJ,Act.eval,fE,fF,fG,fH,fK];try rfl));exact esS;exact rsS;rfl;rfl;rfl;rfl;rfl;decide;clear hS;intro bv w hS;refine frS ?_|(with_reducible apply At7 hS);rfl;rfl;rfl;rfl;exact esS;exact rsS;rfl;decide;exact d7;exact Hsrc.out.there;(focus(rw[Am7 Cs7]));exact Ct7 xs IK7;(focus(unfold maxLen;omega));(focus(omega));clear hS;intro v w hS;(have hv:=hS.rowVal;obtain⟨va,vc,rfl⟩:=hv);refine frS ?_);go_ret;refine⟨.slice va xs.length vc,by show Ending.returned (.slice va (0+xs.length) vc)=_;rw[Nat.zero_add],?_⟩;have h0:St W (row (.slice va (0+xs.length) vc) 1 _ (0+xs.length) ([]++xs.flatMap hC)::_) w:=hS;rw[jN,Nat.zero_add]at h0;exact h0
theorem GZ7{xs:List Zo}{v:Value}{V:World}(hv:d6 Zo.cells 9 V v xs)(h0:0<xs.length)(hl:xs.length<=1000)(W w:World)(R:List HP)(hS:St W (Old V::R) w):
  Calls Tryz.prog 38 #[v] w fun e w'=>∃u,e=.returned u/\St W (zoR u xs::Old V::R) w':=by
 obtain⟨a,cap,rfl,h63,hact⟩:=id hv;obtain⟨pb,poff,rfl,_⟩:=hact 0 h0;have Hsrc:=jH (show Src (Old V::R) (.slice (some ⟨pb,poff,none⟩) xs.length cap) xs.length (xs.flatMap Zo.cells)from Src.mk (a7.old .head (fun j u hj=>d6.flat Zo.len (by decide) hv j u hj)));clear hact hv h63;go_enter Tryz.func38,Tryz.ntmps38;go_wp2_with(first|go_big_skip|(with_reducible apply Co7);rfl;rfl;rfl;rfl;exact Tryz.underlying22;simp only[Option.isNone_some,Option.isNone_none];refine frS ?_|(with_reducible apply Ci7 (n:=0) hS);rfl;rfl;(focus(simp only[fD,fI,fJ,Act.eval,fE,fF,fG,fH,fK];try rfl));exact esS;exact rsS;rfl;rfl;rfl;rfl;rfl;decide;clear hS;intro bv w hS;refine frS ?_|(with_reducible apply At7 hS);rfl;rfl;rfl;rfl;exact esS;exact rsS;rfl;decide;exact d7;exact Hsrc.out.there;(focus(rw[Am7 Zo.len]));exact Ct7 xs Zo.one;(focus(unfold maxLen;omega));(focus(omega));clear hS;intro v w hS;(have hv:=hS.rowVal;obtain⟨va,vc,rfl⟩:=hv);refine frS ?_);go_ret;refine⟨.slice va xs.length vc,by show Ending.returned (.slice va (0+xs.length) vc)=_;rw[Nat.zero_add],?_⟩;have h0:St W (row (.slice va (0+xs.length) vc) 9 _ (0+xs.length) ([]++xs.flatMap Zo.cells)::_) w:=hS;rw[jN,Nat.zero_add]at h0;exact h0
def m9(hs:List Int)(j:Nat)(h:j<hs.length):Prop:=8<=hs[j]/\hs[j]<14/\∀hj:0<j,hs[j-1]<hs[j]
theorem Ay7(hs:List Int):n9 hs↔(1<=hs.length/\hs.length<=6)/\∀j (h:j<hs.length),m9 hs j h:=by
 constructor
 ·rintro⟨h1,h2,h3,h4⟩;refine⟨⟨h1,h2⟩,fun j h=>⟨(h3 _ (jW h)).1,(h3 _ (jW h)).2,fun hj=>?_⟩⟩;exact List.pairwise_iff_getElem.1 h4 (j-1) j (by omega) h (by omega)
 ·rintro⟨⟨h1,h2⟩,h3⟩;refine⟨h1,h2,fun h hh=>?_,?_⟩
  ·obtain⟨j,hj,rfl⟩:=List.getElem_of_mem hh;exact⟨(h3 j hj).1,(h3 j hj).2.1⟩
  ·rw[List.pairwise_iff_getElem];intro i j hi hj hij
   induction j with
   | zero=>omega
   | succ j ih=>
    have h5:=(h3 (j+1) hj).2.2 (by omega);simp only[Nat.add_sub_cancel]at h5
    rcases Nat.lt_or_ge i j with h6|h6
    ·have:=ih (by omega) h6;omega
    ·obtain rfl:i=j:=by omega
     exact h5
def HoR(W:World)(R:List HP)(hs:List Int)(v:Value)(w:World):Prop:=
 ∃i:Nat,v=.I i/\i<=hs.length/\(∀j (h:j<hs.length),j<i->m9 hs j h)/\St W R w
theorem Cu7{hs:List Int}{v:Value}{V:World}(hv:d6 hC 1 V v hs)(hl:hs.length<=1000)(W w:World)(R:List HP)(hS:St W (Old V::R) w):
  Calls Tryz.prog 36 #[v] w fun e w'=>∃r,(r=true↔n9 hs)/\e=.returned (.bool r)/\St W (Old V::R) w':=by
 obtain⟨a,cap,rfl,h63,hact⟩:=hv;have Hat:=jH hact;clear hact;go_enter Tryz.func36,Tryz.ntmps36;go_wp2_with(first|go_big_skip)
 go_loopw [7] (fun v wr=>HoR W (Old V::R) hs v wr) (fun v _=>hs.length-(intOf v).toNat)
 case atStart=>exact⟨0,rfl,Nat.zero_le _,fun j _ h=>absurd h (Nat.not_lt_zero _),hS⟩
 case round=>
  clear hS;obtain⟨i,rfl,hi,hok,hS⟩:=hrel;by_cases hil:i<hs.length
  ·have d1:decide (i<hs.length)=true:=decide_eq_true hil
   have hnx:m9 hs i hil->∀j (h:j<hs.length),j<i+1->m9 hs j h:=fun h j hj hlt=>by
    rcases Nat.lt_or_ge j i with h1|h1
    ·exact hok j hj h1
    ·obtain rfl:j=i:=by omega
     exact h
   have hbad:¬m9 hs i hil->¬∀j (h:j<hs.length),m9 hs j h:=fun h1 h2=>h1 (h2 i hil)
   obtain⟨pb,poff,rfl,hall⟩:=Hat.out i hil;have hx0:V.cell? ⟨pb,poff+i,none⟩=some (.I hs[i]):=by have:=hall 0 _ rfl;rwa [Nat.mul_one,Nat.add_zero]at this
   have hi1000:i<=1000:=by omega
   by_cases h0:i=0
   ·have d0:decide (0<i)=false:=decide_eq_false (by omega);have hat:(8<=hs[i]/\hs[i]<14)->m9 hs i hil:=fun h=>⟨h.1,h.2,fun hj=>absurd hj (by omega)⟩
    have hno:¬(8<=hs[i]/\hs[i]<14)->¬m9 hs i hil:=fun h h2=>h ⟨h2.1,h2.2.1⟩
    obtain⟨x,hx⟩:∃x,x=hs[i]:=⟨_,rfl⟩
    rw[<-hx]at hx0 hat hno;clear hall hok hx h0 hi;by_cases c1:8<=x
    case neg=>
     have e1:decide (x<8)=true:=by simp;omega
     have Hno:=jH (hbad (hno fun h=>c1 h.1));clear hbad hno hat hnx c1;go_wp2_with(first|go_big_skip|refine zl1 hS ?_ (v:=.I x) (hc:=by exact a8.old (by exact b8) hx0)|refine zl1 hS ?_ (v:=.I y) (hc:=by exact a8.old (by exact b8) hy0));go_ret;exact⟨false,⟨fun h=>(by cases h),fun h=>absurd ((Ay7 _).1 h).2 Hno.out⟩,rfl,hS⟩
    have e1:decide (x<8)=false:=by simp;omega
    by_cases c2:x<14
    case neg=>
     have e2:decide (14<=x)=true:=by simp;omega
     have Hno:=jH (hbad (hno fun h=>c2 h.2));clear hbad hno hat hnx c1 c2;go_wp2_with(first|go_big_skip|refine zl1 hS ?_ (v:=.I x) (hc:=by exact a8.old (by exact b8) hx0)|refine zl1 hS ?_ (v:=.I y) (hc:=by exact a8.old (by exact b8) hy0));go_ret;exact⟨false,⟨fun h=>(by cases h),fun h=>absurd ((Ay7 _).1 h).2 Hno.out⟩,rfl,hS⟩
    have e2:decide (14<=x)=false:=by simp;omega
    have Hnx:=jH (hnx (hat ⟨c1,c2⟩));clear hbad hno hat hnx c1 c2;go_wp2_with(first|go_big_skip|refine zl1 hS ?_ (v:=.I x) (hc:=by exact a8.old (by exact b8) hx0));go_roundw
    case rel=>exact⟨i+1,rfl,hil,Hnx.out,hS⟩
    case measure=>simp[intOf];omega
   ·have d0:decide (0<i)=true:=decide_eq_true (by omega);obtain⟨m,rfl⟩:∃m,i=m+1:=⟨i-1,by omega⟩
    have hml:m<hs.length:=by omega
    have hat:(8<=hs[m+1]/\hs[m+1]<14)->hs[m]<hs[m+1]->m9 hs (m+1) hil:=fun h h2=>⟨h.1,h.2,fun _=>h2⟩
    have hno:¬(8<=hs[m+1]/\hs[m+1]<14/\hs[m]<hs[m+1])->¬m9 hs (m+1) hil:=fun h h2=>h ⟨h2.1,h2.2.1,h2.2.2 (by omega)⟩
    obtain⟨pb2,poff2,ea,hally⟩:=Hat.out m hml
    cases ea
    have hy0:V.cell? ⟨pb,poff+m,none⟩=some (.I hs[m]):=by have:=hally 0 _ rfl;rwa [Nat.mul_one,Nat.add_zero]at this
    obtain⟨x,hx⟩:∃x,x=hs[m+1]:=⟨_,rfl⟩
    obtain⟨y,hy⟩:∃y,y=hs[m]:=⟨_,rfl⟩
    rw[<-hx]at hx0 hat hno;rw[<-hy]at hy0 hat hno;have hm1:((m+1:Nat):Int)-1=(m:Int):=by omega
    clear hall hally hok hx hy h0 hi;by_cases c1:8<=x
    case neg=>
     have e1:decide (x<8)=true:=by simp;omega
     have Hno:=jH (hbad (hno fun h=>c1 h.1));clear hbad hno hat hnx c1;go_wp2_with(first|go_big_skip|refine zl1 hS ?_ (v:=.I x) (hc:=by exact a8.old (by exact b8) hx0)|refine zl1 hS ?_ (v:=.I y) (hc:=by exact a8.old (by exact b8) hy0));go_ret;exact⟨false,⟨fun h=>(by cases h),fun h=>absurd ((Ay7 _).1 h).2 Hno.out⟩,rfl,hS⟩
    have e1:decide (x<8)=false:=by simp;omega
    by_cases c2:x<14
    case neg=>
     have e2:decide (14<=x)=true:=by simp;omega
     have Hno:=jH (hbad (hno fun h=>c2 h.2.1));clear hbad hno hat hnx c1 c2;go_wp2_with(first|go_big_skip|refine zl1 hS ?_ (v:=.I x) (hc:=by exact a8.old (by exact b8) hx0)|refine zl1 hS ?_ (v:=.I y) (hc:=by exact a8.old (by exact b8) hy0));go_ret;exact⟨false,⟨fun h=>(by cases h),fun h=>absurd ((Ay7 _).1 h).2 Hno.out⟩,rfl,hS⟩
    have e2:decide (14<=x)=false:=by simp;omega
    by_cases c3:y<x
    case neg=>
     have e3:decide (x<=y)=true:=by simp;omega
     have Hno:=jH (hbad (hno fun h=>c3 h.2.2));clear hbad hno hat hnx c1 c2 c3;go_wp2_with(first|go_big_skip|refine zl1 hS ?_ (v:=.I x) (hc:=by exact a8.old (by exact b8) hx0)|refine zl1 hS ?_ (v:=.I y) (hc:=by exact a8.old (by exact b8) hy0));go_ret;exact⟨false,⟨fun h=>(by cases h),fun h=>absurd ((Ay7 _).1 h).2 Hno.out⟩,rfl,hS⟩
    have e3:decide (x<=y)=false:=by simp;omega
    have Hnx:=jH (hnx (hat ⟨c1,c2⟩ c3));clear hbad hno hat hnx c1 c2 c3;go_wp2_with(first|go_big_skip|refine zl1 hS ?_ (v:=.I x) (hc:=by exact a8.old (by exact b8) hx0)|refine zl1 hS ?_ (v:=.I y) (hc:=by exact a8.old (by exact b8) hy0));go_roundw
    case rel=>exact⟨m+1+1,rfl,hil,Hnx.out,hS⟩
    case measure=>simp[intOf];omega
  ·have d1:decide (i<hs.length)=false:=decide_eq_false hil;have hall:∀j (h:j<hs.length),m9 hs j h:=fun j h=>hok j h (by omega)
   clear hok hi;by_cases c1:1<=hs.length
   case neg=>
    have e1:decide ((1:Int)<=(hs.length:Int))=false:=by simp;omega
    have Hno:=jH (show ¬n9 hs from fun h=>c1 h.1);clear hall c1;go_wp2_with(first|go_big_skip);go_ret;exact⟨false,⟨fun h=>(by cases h),fun h=>absurd h Hno.out⟩,rfl,hS⟩
   have e1:decide ((1:Int)<=(hs.length:Int))=true:=by simp;omega
   by_cases c2:hs.length<=6
   case neg=>
    have e2:decide ((hs.length:Int)<=6)=false:=by simp;omega
    have Hno:=jH (show ¬n9 hs from fun h=>c2 h.2.1);clear hall c1 c2;go_wp2_with(first|go_big_skip);go_ret;exact⟨false,⟨fun h=>(by cases h),fun h=>absurd h Hno.out⟩,rfl,hS⟩
   have e2:decide ((hs.length:Int)<=6)=true:=by simp;omega
   have Hyes:=jH ((Ay7 hs).2 ⟨⟨c1,c2⟩,hall⟩);clear hall c1 c2;go_wp2_with(first|go_big_skip);go_ret;exact⟨true,⟨fun _=>Hyes.out,fun _=>rfl⟩,rfl,hS⟩
section
variable{hs:List Int}{v:Value}{V:World}
theorem Ig7(h:¬n9 hs)(hv:d6 hC 1 V v hs)(hl:hs.length<=1000)(W w:World)(R:List HP)(hS:St W (Old V::R) w):
  Calls Tryz.prog 36 #[v] w fun e w'=>e=.returned (.bool false)/\St W (Old V::R) w':=by
 refine(Cu7 hv hl W w R hS).mono ?_;rintro e w' ⟨r,h1,rfl,h2⟩;have:r=false:=by rw[<-Bool.not_eq_true];exact fun e=>h (h1.1 e)
 subst this;exact⟨rfl,h2⟩
theorem Ha7(h:n9 hs)(hv:d6 hC 1 V v hs)(hl:hs.length<=1000)(W w:World)(R:List HP)(hS:St W (Old V::R) w):
  Calls Tryz.prog 36 #[v] w fun e w'=>e=.returned (.bool true)/\St W (Old V::R) w':=by
 refine(Cu7 hv hl W w R hS).mono ?_;rintro e w' ⟨r,h1,rfl,h2⟩;have:r=true:=h1.2 h;subst this;exact⟨rfl,h2⟩
theorem Hb7(hv:d6 hC 1 V v hs)(h0:0<hs.length)(hl:hs.length<=1000)(W w:World)(R R':List HP)(ht:Take R (Old V) R')(hS:St W R w):
  Calls Tryz.prog 37 #[v] w fun e w'=>∃u,e=.returned u/\St W (row u 1 3 hs.length (hs.flatMap hC)::R) w':=by
 refine(GY7 hv h0 hl W w R' (hS.take ht)).mono ?_;rintro e w' ⟨u,rfl,h⟩;exact⟨u,rfl,h.swap.back (.tail ht)⟩
end
theorem Ke7{hs:List Int}{v:Value}{V:World}(h:¬n9 hs)(hv:d6 hC 1 V v hs)(hl:hs.length<=1000)(W w:World)(R:List HP)(hS:St W (Old V::R) w):
  Calls Tryz.prog 15 #[v] w fun e w'=>e=.returned (.tuple #[.pointer none,.I 1])/\St W (Old V::R) w':=by
 have H:=jH h;have Hv:=jH hv;clear h hv;go_enter Tryz.func15,Tryz.ntmps15;go_wp2_with(first|go_big_skip|go_at_call 36;refine(Ig7 H.out Hv.out hl W _ _ hS).mono ?_;clear hS;rintro e w ⟨rfl,hS⟩);go_ret2;exact⟨rfl,hS⟩
theorem bm4(a:Option Addr)(n c:Nat)(w:World):(Instr.build 24 #[(0,.I 1),(1,.I 2),(2,.slice a n c)]).run Tryz.prog w=.ok (.agg #[.I 1,.I 2,.slice a n c]) w:=by kernel_rfl
theorem bn4(a b:Option Addr)(n c m d:Nat)(w:World):(Instr.build 85 #[(0,.agg #[.I 1,.I 2,.slice a n c]),(1,.slice b m d)]).run Tryz.prog w=.ok (.agg #[.I 1,.I 2,.slice a n c,.slice b m d]) w:=by kernel_rfl
theorem Cv7{hs:List Int}{v:Value}{V:World}(h:n9 hs)(hv:d6 hC 1 V v hs)(W w:World)(R:List HP)(hS:St W (Old V::R) w):
  Calls Tryz.prog 15 #[v] w fun e w'=>∃p,e=.returned (.tuple #[p,.I 0])/\St W (Old V::R) w':=by
 have H:=jH h;have Hv:=jH hv;have hl:hs.length<=1000:=Nat.le_trans h.2.1 (by decide);have hpos:0<hs.length:=h.1;obtain⟨a,cap,rfl,h63,hact⟩:=hv;obtain⟨pb,poff,rfl,hall⟩:=hact 0 hpos;have hx0:V.cell? ⟨pb,poff,none⟩=some (.I hs[0]):=hall 0 _ rfl;generalize hs[0]=x at hx0;clear h hall hact;go_enter Tryz.func15,Tryz.ntmps15;go_wp2_with(first|go_big_skip|go_at_call 36;refine(Ha7 H.out Hv.out hl W _ _ hS).mono ?_;clear hS;rintro e w ⟨rfl,hS⟩)
 refine rf2 [0,1,3,7,15,31,0,64,255,511,1023,2047] (fun i=>i==4||i==7||i==9) [⟨some 4,none,fun nd=>I6 (nd 4) 1 1 [.I 1,.string ⟨#[]⟩,.string ⟨#[]⟩,.I x,.I 1,.I 0,.I 0,.string ⟨#[]⟩,.I 0] 55⟩,⟨some 7,none,fun nd=>row (nd 7) 1 3 hs.length (hs.flatMap hC)⟩,⟨some 9,none,fun nd=>f7 (nd 9) [.I 1,.I 2,nd 4,nd 7] 85⟩]
  [none] hS ?_
 intro nd
 repeat(first|refine zc1 ?_ (v:=.I x) (hc:=by(intro F;exact a8.old (by first|exact Mem.head|exact Mem.tail Mem.head|exact Mem.tail (Mem.tail Mem.head)|exact Mem.tail (Mem.tail (Mem.tail Mem.head))) hx0))|apply ay4;rfl;rfl;rfl;(focus(simp only[fD,fI,fJ,Act.eval,fE,fF,fG,fH,fK];try rfl));exact esS;exact rsS;rfl;rfl;rfl;rfl;intro _;rfl;rfl;intro _;rfl;refine frS ?_|apply Bz7;rfl;rfl;rfl;decide +kernel;(focus(simp only[fD,fI,fJ,Act.eval,fE,fF,fG,fH,fK];try rfl));intro _;rfl;intro F w hS;exact Hb7 Hv.out hpos hl W w _ _ (by exact I7) hS;refine frS ?_|apply IC7;rfl;rfl;rfl;rfl;rfl;intro _;rfl;rfl;intro _;rfl;refine frS ?_|apply Dt7 (vs:=#[(0,.I 1),(1,.I 2),(2,nd 4)]) (v:=.agg #[.I 1,.I 2,nd 4]);rfl;kernel_rfl;rfl;rfl;(focus(simp only[fD,fI,fJ,Act.eval,fE,fF,fG,fH,fK];try rfl));(intro F w hS;have h9:St W (I6 (nd 4) 1 1 _ _::_) w:=hS;obtain⟨y1,g2,_⟩:=h9.sl;rw[g2];exact bm4 _ _ _ w);refine frS ?_|apply Dt7 (vs:=#[(0,.agg #[.I 1,.I 2,nd 4]),(1,nd 7)]) (v:=.agg #[.I 1,.I 2,nd 4,nd 7]);rfl;kernel_rfl;rfl;rfl;(focus(simp only[fD,fI,fJ,Act.eval,fE,fF,fG,fH,fK];try rfl));(intro F w hS;have h9:St W (I6 (nd 4) 1 1 _ _::row (nd 7) 1 _ hs.length _::_) w:=hS;obtain⟨y1,g2,_⟩:=h9.sl;obtain⟨x1,x2,g1⟩:=h9.drop.rowVal;rw[g1,g2];exact bn4 _ _ _ _ _ _ w);refine frS ?_|refine cR ?_)
 refine AC7 ?_;clear hS;intro w hS0;have hS:St W [_,_,_,Old V,sats R] w:=hS0;go_wp2_with(first|go_big_skip);go_ret2;exact⟨⟨_,rfl⟩,(St.unpack [Old V] hS.drop.drop.drop)⟩
def Zo.eqB(z y:Zo):Bool:=decide (z.id=y.id)&&(decide (z.sf.toList=y.sf.toList)&&(decide (z.st.toList=y.st.toList)&&(decide (z.own=y.own)&&(decide (z.ep=y.ep)&&(decide (z.pend=y.pend)&&(decide (z.to=y.to)&&(decide (z.key.toList=y.key.toList)&&decide (z.new=y.new))))))))
theorem Zo.eqB_iff(z y:Zo):z.eqB y=true↔z=y:=by
 obtain⟨z0,z1,z2,z3,z4,z5,z6,z7,z8⟩:=z;obtain⟨y0,y1,y2,y3,y4,y5,y6,y7,y8⟩:=y;unfold Zo.eqB;simp only[jB,decide_eq_true_eq,Lib.toList_data,Zo.mk.injEq];constructor
 ·rintro⟨a,b,c,d,e,f,g,h,i⟩;exact⟨a,AU7 b,AU7 c,d,e,f,g,AU7 h,i⟩
 ·rintro⟨a,b,c,d,e,f,g,h,i⟩;exact⟨a,by rw[b],by rw[c],d,e,f,g,by rw[h],i⟩
theorem bo4(z y:Zo)(w:World):(Op.equalIn 10000 55 (.agg z.cells.toArray) (.agg y.cells.toArray)).run Tryz.prog w=.ok (z.eqB y) w:=by
 have u9:=Tryz.underlying9;have a9:=Tryz.isAgg9;have z9:=Tryz.sizeOf9;have u3:=Tryz.underlying3;have a3:=Tryz.isAgg3;have z3:=Tryz.sizeOf3;have u5:=Tryz.underlying53;have a5:=Tryz.isAgg53;have z5:=Tryz.sizeOf53;have hp:=fun k u k2 u2 w=>aU4 k u k2 u2 9997 w
 have hs:Tryz.prog.stoodInHeld 55=false:=by kernel_rfl
 obtain⟨o0,o1,o2,o3,o4,o5,o6,o7,o8⟩:=z;obtain⟨q0,q1,q2,q3,q4,q5,q6,q7,q8⟩:=y;unfold Zo.eqB Zo.cells;dsimp only;rw[Op.equalIn];simp only[Sem.run_bind,run_underlying Tryz.underlying55,Result.andThen_ok,run_program,hs,Bool.false_eq_true,if_false];rw[<-Array.forIn_toList];simp only[List.forIn_cons,List.forIn_nil]
 go_simp
 by_cases h:o0=q0
 case neg=>simp[h]
 rw[if_pos h,decide_eq_true h,Bool.true_and];clear h;by_cases h:o1.toList=q1.toList
 case neg=>simp[h]
 by_cases h2:o2.toList=q2.toList
 case neg=>simp[h2]
 rw[if_neg (fun f=>f h h2),decide_eq_true h,decide_eq_true h2,Bool.true_and,Bool.true_and];clear h h2;by_cases h:o3=q3
 case neg=>simp[h]
 rw[if_pos h,decide_eq_true h,Bool.true_and];clear h;by_cases h:o4=q4
 case neg=>simp[h]
 rw[if_pos h,decide_eq_true h,Bool.true_and];clear h;by_cases h:o5=q5
 case neg=>simp[h]
 rw[if_pos h,decide_eq_true h,Bool.true_and];clear h;by_cases h:o6=q6
 case neg=>simp[h]
 rw[if_pos h,decide_eq_true h,Bool.true_and];clear h;by_cases h:o7.toList=q7.toList
 case neg=>simp[h]
 rw[if_pos h,decide_eq_true h,Bool.true_and];clear h;by_cases h:o8=q8 <;> simp[h]
theorem Cw7{z y:Zo}{r:Bool}(h:z.eqB y=r)(w:World):(Op.equalIn 10000 55 (.agg z.cells.toArray) (.agg y.cells.toArray)).run Tryz.prog w=.ok r w:=h▸bo4 z y w
def EqR(W:World)(R:List HP)(l zs:List Zo)(v:Value)(w:World):Prop:=
 ∃i:Nat,v=.I i/\i<=l.length/\(∀j (h:j<l.length) (h2:j<zs.length),j<i->l[j]=zs[j])/\St W R w
theorem Ei7{l zs:List Zo}{u v:Value}{V:World}(hv:d6 Zo.cells 9 V v zs)(hl:l.length<=1000)(hl2:zs.length<=1000)(W w:World)(R:List HP)(hS:St W (zoR u l::Old V::R) w):
  Calls Tryz.prog 16 #[u,v] w fun e w'=>∃r,(r=true↔l=zs)/\e=.returned (.bool r)/\St W (zoR u l::Old V::R) w':=by
 obtain⟨a,cap,rfl,h63,hact⟩:=hv;have Hat:=jH hact;obtain⟨ua,uc,rfl⟩:=hS.rowVal;clear hact;go_enter Tryz.func16,Tryz.ntmps16;by_cases h0:l.length=zs.length
 case neg=>
  have d0:((l.length:Int) != (zs.length:Int))=true:=by simp;omega
  have d0':(l.length != zs.length)=true:=by simpa using h0
  have Hno:=jH (show ¬l=zs from fun e=>h0 (by rw[e]));clear h0;go_wp2_with(first|go_big_skip);go_ret;exact⟨false,⟨fun h=>(by cases h),fun h=>absurd h Hno.out⟩,rfl,hS⟩
 have d0:((l.length:Int) != (zs.length:Int))=false:=by simp;omega
 have d0':(l.length != zs.length)=false:=by simpa using h0
 have H0:=jH h0;clear h0;go_wp2_with(first|go_big_skip)
 go_loopw [13] (fun v wr=>EqR W (zoR (.slice ua l.length uc) l::Old V::R) l zs v wr) (fun v _=>l.length-(intOf v).toNat)
 case atStart=>exact⟨0,rfl,Nat.zero_le _,fun j _ _ h=>absurd h (Nat.not_lt_zero _),hS⟩
 case round=>
  clear hS;obtain⟨i,rfl,hi,hok,hS⟩:=hrel;by_cases hil:i<l.length
  ·have d1:decide (i<l.length)=true:=decide_eq_true hil;have hiz:i<zs.length:=by have:=H0.out;omega
   have hnx:l[i]=zs[i]->∀j (h:j<l.length) (h2:j<zs.length),j<i+1->l[j]=zs[j]:=fun h j hj hj2 hlt=>by
    rcases Nat.lt_or_ge j i with h1|h1
    ·exact hok j hj hj2 h1
    ·obtain rfl:j=i:=by omega
     exact h
   have hbad:l[i]≠zs[i]->¬l=zs:=fun h e=>h (by subst e;rfl)
   obtain⟨pb,poff,rfl,hally⟩:=Hat.out i hiz;obtain⟨⟨g,rfl⟩,_,_⟩:=St.rowAddr hS (by omega);have hcx:∀{K:List HP},a7 (zoR (.S g l.length uc) l::K) g (i*9) (Zo.cells l[i]):=a7.elemM (enc:=Zo.cells) Zo.len .head hil;generalize l[i]=z at hcx hnx hbad;generalize zs[i]=y at hally hnx hbad
   cases hb:z.eqB y with
   | true=>
    have Hnx:=jH (hnx ((Zo.eqB_iff z y).1 hb));have Hb:=jH hb;obtain⟨z0,z1,z2,z3,z4,z5,z6,z7,z8⟩:=z;obtain⟨y0,y1,y2,y3,y4,y5,y6,y7,y8⟩:=y;simp only[Zo.cells]at hcx hally;clear hnx hbad hb hok hi;go_wp2_with(first|go_big_skip);refine Aa7 (by kernel_rfl) (by kernel_rfl) hS ?_
    repeat(first|go_big_quiet_skip|refine zqN ?_ (vs:=[.I z0,.string z1,.string z2,.I z3,.I z4,.I z5,.I z6,.string z7,.I z8]) (hc:=by exact hcx)|refine zqN ?_ (vs:=[.I y0,.string y1,.string y2,.I y3,.I y4,.I y5,.I y6,.string y7,.I y8]) (hc:=by exact a7.old (.tail .head) hally)|(apply Ec7);rfl;rfl;rfl;rfl;kernel_rfl;exact(Cw7 (z:=⟨z0,z1,z2,z3,z4,z5,z6,z7,z8⟩) (y:=⟨y0,y1,y2,y3,y4,y5,y6,y7,y8⟩) Hb.out);refine frS ?_|refine qR ?_)
    clear hS;intro w hS;go_wp2_with(first|go_big_skip);go_roundw
    case rel=>exact⟨i+1,rfl,hil,Hnx.out,hS⟩
    case measure=>simp[intOf];omega
   | false=>
    have Hno:=jH (hbad fun e=>by rw[(Zo.eqB_iff z y).2 e]at hb;cases hb);have Hb:=jH hb;obtain⟨z0,z1,z2,z3,z4,z5,z6,z7,z8⟩:=z;obtain⟨y0,y1,y2,y3,y4,y5,y6,y7,y8⟩:=y;simp only[Zo.cells]at hcx hally;clear hnx hbad hb hok hi;go_wp2_with(first|go_big_skip);refine Aa7 (by kernel_rfl) (by kernel_rfl) hS ?_
    repeat(first|go_big_quiet_skip|refine zqN ?_ (vs:=[.I z0,.string z1,.string z2,.I z3,.I z4,.I z5,.I z6,.string z7,.I z8]) (hc:=by exact hcx)|refine zqN ?_ (vs:=[.I y0,.string y1,.string y2,.I y3,.I y4,.I y5,.I y6,.string y7,.I y8]) (hc:=by exact a7.old (.tail .head) hally)|(apply Ec7);rfl;rfl;rfl;rfl;kernel_rfl;exact(Cw7 (z:=⟨z0,z1,z2,z3,z4,z5,z6,z7,z8⟩) (y:=⟨y0,y1,y2,y3,y4,y5,y6,y7,y8⟩) Hb.out);refine frS ?_|refine qR ?_)
    clear hS;intro w hS;go_wp2_with(first|go_big_skip);go_ret;exact⟨false,⟨fun h=>(by cases h),fun h=>absurd h Hno.out⟩,rfl,hS⟩
  ·have d1:decide (i<l.length)=false:=decide_eq_false hil;have hyes:l=zs:=List.ext_getElem H0.out fun j h1 h2=>hok j h1 h2 (by omega)
   have Hyes:=jH hyes;clear hyes hok hi;go_wp2_with(first|go_big_skip);go_ret;exact⟨true,⟨fun _=>Hyes.out,fun _=>rfl⟩,rfl,hS⟩
theorem FO7{l zs:List Zo}{u v:Value}{V:World}(h:l=zs)(hv:d6 Zo.cells 9 V v zs)(hl2:zs.length<=1000)(W w:World)(R R':List HP)(ht:Take R (zoR u l) (Old V::R'))(hS:St W R w):
  Calls Tryz.prog 16 #[u,v] w fun e w'=>e=.returned (.bool true)/\St W R w':=by
 refine(Ei7 hv (by rw[h];exact hl2) hl2 W w R' (hS.take ht)).mono ?_;rintro e w' ⟨r,h1,rfl,h2⟩;have:r=true:=h1.2 h;subst this;exact⟨rfl,h2.back ht⟩
theorem Hc7{l zs:List Zo}{u v:Value}{V:World}(h:¬l=zs)(hv:d6 Zo.cells 9 V v zs)(hl:l.length<=1000)(hl2:zs.length<=1000)(W w:World)(R R':List HP)(ht:Take R (zoR u l) (Old V::R'))(hS:St W R w):
  Calls Tryz.prog 16 #[u,v] w fun e w'=>e=.returned (.bool false)/\St W R w':=by
 refine(Ei7 hv hl hl2 W w R' (hS.take ht)).mono ?_;rintro e w' ⟨r,h1,rfl,h2⟩;have:r=false:=by rw[<-Bool.not_eq_true];exact fun e=>h (h1.1 e)
 subst this;exact⟨rfl,h2.back ht⟩
end Go.Proofs.YtjcfifkjbaffnaaGreat
end
