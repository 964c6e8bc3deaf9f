/-
  An economy as bytes, the program's.
-/
import Derived.Test.YtlmhakmoioogaaaGreatEconWjM5
import Derived.Test.YtlmhakmoioogaaaGreatEconWjM14
import Derived.Test.YtlmhakmoioogaaaGreatEconWjM41
import Derived.Test.YtlmhakmoioogaaaGreatEconWjM42
import Derived.Test.YtlmhakmoioogaaaGreatEconWjM43
import Derived.Test.YtlmhakmoioogaaaGreatEconWjM44
import Derived.Test.YtlmhakmoioogaaaGreatEconWjM45
import Derived.Test.YtlmhakmoioogaaaGreatEconWjM46
import Derived.Laws.BytesString
set_option maxHeartbeats 16000000
set_option maxRecDepth 100000
set_option linter.unusedSimpArgs false
set_option linter.unusedVariables false
section
namespace Go.Proofs.YtlmhakmoioogaaaGreat
open Go.RowKit Go.Sl
def enS(e:Ec)(c:Int):List Int:=m5 [c,((i9 e.ss c).getD (0,rp0)).1]++E6 (rpB ((i9 e.ss c).getD (0,rp0)).2)
def enT(x:(Int×Int)×Tns):List Int:=m5 [x.2.client,x.2.seq]++(E6 (A7 x.2.ak)++(E6 (A7 x.2.aw)++(E6 (A7 x.2.tk)++E6 (A7 x.2.tw))))++m5 [x.2.item,x.2.cnt]
def enA(k:Int×Int):List Int:=m5 [k.1,k.2]
def cx4(e:Ec)(d:List Int):Prop:=∃(T:List ((Int×Int)×Tns)) (A:List (Int×Int)),T.Perm e.ts/\Asc ltW T/\A.Perm (e.ar.map (·.1))/\A.Pairwise (fun x y=>ltW x y=true) /\
 d=l8 e.vs.length++(ksE e).flatMap (enK e)++l8 e.ss.length++(aN4 (e.ss.map (·.1))).flatMap (enS e)++l8 e.ts.length++T.flatMap enT++l8 e.ar.length++A.flatMap enA
theorem Qk7{e:Ec}{d d':List Int}(h:cx4 e d)(h':cx4 e d'):d=d':=by
 obtain⟨T,A,h1,h2,h3,h4,rfl⟩:=h;obtain⟨T',A',h1',h2',h3',h4',rfl⟩:=h';rw[Oa7 Au7 h2 h2' (h1.trans h1'.symm)]
 have:A=A':=List.Perm.eq_of_pairwise (fun a b _ _ g1 g2=>by
  have:=Au7.tr _ _ _ g1 g2;rw[Au7.irr]at this
  cases this) h4 h4' (h3.trans h3'.symm)
 rw[this]
theorem Fe7{α:Type}(f:α->List Int)(c:Nat)(xs:List α)(h:∀x∈xs,(f x).length<=c):(xs.flatMap f).length<=c*xs.length:=by
 induction xs with
 | nil=>simp
 | cons x xs ih=>
  have h1:=h x (List.mem_cons_self ..);have h2:=ih fun y hy=>h y (List.mem_cons_of_mem _ hy)
  rw[List.flatMap_cons,jA,jC,Nat.mul_succ];omega
theorem SR7(e:Ec)(c:Int):(enS e c).length<=100:=by
 have h1:=AK7 [c,((i9 e.ss c).getD (0,rp0)).1];have h2:=AZ7 (rpB ((i9 e.ss c).getD (0,rp0)).2);have h3:=Gy7 ((i9 e.ss c).getD (0,rp0)).2;unfold enS;rw[jA];simp only[jC,List.length_nil]at h1;omega
theorem OG7{x:(Int×Int)×Tns}(h:TnOk x.2):(enT x).length<=200:=by
 have h1:=AK7 [x.2.client,x.2.seq];have h2:=AK7 [x.2.item,x.2.cnt];have e1:=AZ7 (A7 x.2.ak);have e2:=AZ7 (A7 x.2.aw);have e3:=AZ7 (A7 x.2.tk);have e4:=AZ7 (A7 x.2.tw);rw[AJ7]at e1 e2 e3 e4;have:=h.ak;have:=h.aw;have:=h.tk;have:=h.tw;unfold enT;simp only[jA];simp only[jC,List.length_nil]at h1 h2;omega
theorem SS7(k:Int×Int):(enA k).length<=18:=by
 have h1:=AK7 [k.1,k.2];simp only[jC,List.length_nil]at h1
 exact h1
abbrev zrR(v:Value)(l:List Int):HP:=row v 1 3 l.length (l.map eZ)
abbrev waR(v:Value)(l:List (Int×Int)):HP:=row v 2 94 l.length (l.flatMap whC)
theorem Gz7{eb:Nat}{e:Ec}{n:Nat}(hE:EnL e n)(hn:n<=600)(W w:World)(R:List HP)(hS:St W (ecP eb e::R) w):
  Calls Tryz.prog 27 #[.pointer (jP eb)] w fun x w'=>∃v d,x=.returned v/\cx4 e d/\St W (byR v d::ecP eb e::R) w':=by
 have hEach:=Gw7 hS;have hkl:=Sb7 hE hEach hn;have hlv:=hE.en.lv;have hls:=hE.en.ls;have hlt:=hE.en.lt;have hla:=hE.en.la;obtain⟨m1,m2,m3,m4,E,hp,hnd,hS0⟩:=M7 hS;have hS1:=B8 hS0;clear hS hS0;have hS:=hS1;clear hS1
 have hEl:(i7 E).length=e.vs.length:=by
  have h1:=hp.length_eq;unfold k8 at h1;unfold i7;rw[jM]at h1 ⊢
  exact h1
 have HEl:=jH hEl;have HE:=jH hE;have HEach:=jH hEach;have Hp:=jH hp;have hpl:(i7 E).length<=600:=by omega
 have hb0:=Ao7 ((i7 E).length:Int);clear hEl hE hEach hp hnd;go_enter Tryz.func27,Tryz.ntmps27;go_wp2_with(first|(refine zal hS ?_;clear hS;intro wb w hS)|(refine zl1 hS ?_)|((with_reducible apply Hr7 (ek:=eS) (ev:=eN) hS);rfl;rfl;rfl;exact mV;(exact i6);(refine frS ?_))|(refine zbs hS ?_;clear hS;intro bS w hS)|(go_at_call 65;refine(bn4 wb [] ((i7 E).length:Int) bS 1 (by simp) ⟨by omega,by omega⟩ W _ _ (eH4 (hS.s (blk wb _ _::blk bS _ _::ebB eb m1 m2 m3 m4::d8 eS eN m1 (i7 E)::j8 E::d8 eI eSs m2 e.ss::d8 eW eTn m3 e.ts::d8 eW eU m4 e.ar::R)))).mono ?_;clear hS;rw[List.nil_append];rintro x w ⟨rfl,hS⟩));have hS9:=K6 Hp.out (hS.s (ebB eb m1 m2 m3 m4::d8 eS eN m1 (i7 E)::j8 E::d8 eI eSs m2 e.ss::d8 eW eTn m3 e.ts::d8 eW eU m4 e.ar::wrR wb _::R));rw[HEl.out]at hS9;clear hS;refine(Jm7 (fun x hx=>by have:=HE.out.en.vk x hx;unfold maxLen;omega) (by omega) W _ _ hS9).mono ?_;clear hS9 HEl Hp hpl hb0;rintro x w ⟨v,rfl,hS8⟩;obtain⟨sa,sc,rfl⟩:=hS8.rowVal;obtain⟨m1,m2,m3,m4,E,hp,hnd,hS7⟩:=M7 hS8.swap;have hS6:=B8 hS7;clear hS8 hS7;have hS:=hS6.s (wrR wb _::bo4 (.slice sa (ksE e).length sc) (ksE e)::ebB eb m1 m2 m3 m4::d8 eS eN m1 (i7 E)::j8 E::d8 eI eSs m2 e.ss::d8 eW eTn m3 e.ts::d8 eW eU m4 e.ar::R);clear hS6
 have hkv:∀k∈ksE e, ∃vb V,i9 (i7 E) k=some vb/\E.Perm ((k,(vb,V))::j5 E k)/\atV e k=V/\VOk V.ps V.n n/\k.size<=16/\(∀o∈V.L,MayP o)/\V.L.length<=32:=by
  intro k hk;obtain⟨x,hx,rfl⟩:=List.mem_map.1 ((Ax7 _).mem_iff.1 hk);obtain⟨y,hy,rfl⟩:=List.mem_map.1 (hp.mem_iff.2 hx);have h4:i9 E y.1=some y.2:=AT7 hnd hy;refine⟨y.2.1,y.2.2,?_,Bs7 hnd h4,?_,HE.out.en.ok _ hx,HE.out.en.vk _ hx,(HEach.out _ hx).1,(HEach.out _ hx).2⟩
  ·rw[BL7,h4];rfl
  ·rw[HG7 hnd hp];unfold vAt;rw[h4];rfl
 have hkn:(ksE e).length<=600:=by rw[HS7];omega
 generalize hkse:ksE e=ks at *;have Hks:=jH hkse;clear hkse;have Hkv:=jH hkv;have Hp:=jH hp;clear hkv hp hnd;have hb0:=Ao7 (e.vs.length:Int);obtain⟨b0,hb0e⟩:∃d,l8 (e.vs.length:Int)=d:=⟨_,rfl⟩
 rw[hb0e]at hS hb0;have Hb0:=jH hb0e;clear hb0e;go_wp2_with(fail)
 go_loopw [27] (fun v wr=>CwR W (bo4 (.slice sa ks.length sc) ks::ebB eb m1 m2 m3 m4::d8 eS eN m1 (i7 E)::j8 E::d8 eI eSs m2 e.ss::d8 eW eTn m3 e.ts::d8 eW eU m4 e.ar::R) wb (enK e) b0 ks v wr) (fun v _=>ks.length-(intOf v).toNat)
 case atStart=>exact⟨0,rfl,Nat.zero_le _,by simpa using hS⟩
 case round=>
  clear hS;obtain⟨k,rfl,hkk,hS⟩:=hrel
  by_cases hend:k=ks.length
  ·rw[hend,List.take_length]at hS;have hd1:decide (k<ks.length)=false:=by simp;omega
   clear hkk hend;have hb1:(b0++ks.flatMap (enK e)).length<=6000010:=by rw[jA];omega
   obtain⟨b1,hb1e⟩:∃d,b0++ks.flatMap (enK e)=d:=⟨_,rfl⟩
   rw[hb1e]at hS hb1;have Hb1:=jH hb1e;clear hb1e Hkv hkl hkn;go_wp2_with(first|(refine zl1 hS ?_)|((with_reducible apply Hr7 (ek:=eI) (ev:=eSs) hS);rfl;rfl;rfl;exact mS;(exact i6);(refine frS ?_))|(refine zbs hS ?_;clear hS;intro bS w hS)|(go_at_call 65;(have hS2:St W (blk bS [.I (e.ss.length:Int)] 3::_) _:=hS);refine(bn4 wb b1 (e.ss.length:Int) bS 1 (by omega) ⟨by omega,by omega⟩ W _ _ (hS2.s (wrR wb b1::blk bS _ _::ebB eb m1 m2 m3 m4::d8 eS eN m1 (i7 E)::j8 E::d8 eI eSs m2 e.ss::d8 eW eTn m3 e.ts::d8 eW eU m4 e.ar::R))).mono ?_;clear hS hS2;rintro x w ⟨rfl,hS⟩)|(go_at_call 69;refine(ME7 (some m2) W _ _ hS).mono ?_;clear hS;rintro x w ⟨g2,rfl,hS⟩)|(go_at_call 68;refine(eU4 (K:=e.ss.map (·.1)) (by rw[jM];omega) Kn7 Jh7 (hS.s (blk g2 [.map (some m2)] 80::d8 eI eSs m2 e.ss::wrR wb _::ebB eb m1 m2 m3 m4::d8 eS eN m1 (i7 E)::j8 E::d8 eW eTn m3 e.ts::d8 eW eU m4 e.ar::R))).mono ?_;clear hS;rintro x w ⟨v2,rfl,hS⟩;rw[<-FB7 (e.ss.map (·.1))]at hS;(have hv:=hS.rowVal;obtain⟨sa2,sc2,rfl⟩:=hv)));have hns:=Go.Sl.u6 (hS.s (d8 eI eSs m2 e.ss::R))
   have hcs:∀c∈aN4 (e.ss.map (·.1)), ∃q r,i9 e.ss c=some (q,r)/\dI4 (c,q)/\RpOk r:=by
    intro c hc;obtain⟨x,hx,rfl⟩:=List.mem_map.1 ((Dc7 _).mem_iff.1 hc)
    exact⟨x.2.1,x.2.2,AT7 hns hx,HE.out.en.sw x hx,HE.out.en.sr x hx⟩
   have hcl:(aN4 (e.ss.map (·.1))).length<=600:=by rw[FB7,jM];omega
   have hSz:=hS.s (wrR wb _::zrR (.slice sa2 (aN4 (e.ss.map (·.1))).length sc2) (aN4 (e.ss.map (·.1)))::ebB eb m1 m2 m3 m4::d8 eS eN m1 (i7 E)::j8 E::d8 eI eSs m2 e.ss::d8 eW eTn m3 e.ts::d8 eW eU m4 e.ar::R);clear hS;have hS:=hSz;clear hSz hns;generalize hcse:aN4 (e.ss.map (·.1))=cs at *;have Hcse:=jH hcse;have Hcs:=jH hcs;have hb2:=Ao7 (e.ss.length:Int);obtain⟨b2,hb2e⟩:∃d,b1++l8 (e.ss.length:Int)=d:=⟨_,rfl⟩
   have hb2l:b2.length<=6000020:=by rw[<-hb2e,jA];omega
   rw[hb2e]at hS;have Hb2:=jH hb2e;have hsl:=Fe7 (enS e) 100 cs fun c _=>SR7 e c
   clear hcse hcs hb2 hb2e;go_wp2_with(fail)
   go_loopw [57] (fun v wr=>CwR W (zrR (.slice sa2 cs.length sc2) cs::ebB eb m1 m2 m3 m4::d8 eS eN m1 (i7 E)::j8 E::d8 eI eSs m2 e.ss::d8 eW eTn m3 e.ts::d8 eW eU m4 e.ar::R) wb (enS e) b2 cs v wr) (fun v _=>cs.length-(intOf v).toNat)
   case atStart=>exact⟨0,rfl,Nat.zero_le _,by simpa using hS⟩
   case round=>
    clear hS;obtain⟨k,rfl,hkk,hS⟩:=hrel
    by_cases hend:k=cs.length
    ·rw[hend,List.take_length]at hS;have hd1:decide (k<cs.length)=false:=by simp;omega
     clear hkk hend;have hb3:(b2++cs.flatMap (enS e)).length<=6100000:=by rw[jA];omega
     obtain⟨b3,hb3e⟩:∃d,b2++cs.flatMap (enS e)=d:=⟨_,rfl⟩
     rw[hb3e]at hS hb3;have Hb3:=jH hb3e;clear hb3e Hcs hsl;go_wp2_with(first|(refine zl1 hS ?_)|((with_reducible apply Hr7 (ek:=eW) (ev:=eTn) hS);rfl;rfl;rfl;exact mT;(exact i6);(refine frS ?_))|(refine zbs hS ?_;clear hS;intro bS w hS)|(go_at_call 65;(have hS2:St W (blk bS [.I (e.ts.length:Int)] 3::_) _:=hS);refine(bn4 wb b3 (e.ts.length:Int) bS 1 (by omega) ⟨by omega,by omega⟩ W _ _ (hS2.s (wrR wb b3::blk bS _ _::ebB eb m1 m2 m3 m4::d8 eS eN m1 (i7 E)::j8 E::d8 eI eSs m2 e.ss::d8 eW eTn m3 e.ts::d8 eW eU m4 e.ar::R))).mono ?_;clear hS hS2;rintro x w ⟨rfl,hS⟩));have hb4:=Ao7 (e.ts.length:Int);obtain⟨b4,hb4e⟩:∃d,b3++l8 (e.ts.length:Int)=d:=⟨_,rfl⟩
     have hb4l:b4.length<=6100010:=by rw[<-hb4e,jA];omega
     rw[hb4e]at hS;have Hb4:=jH hb4e;clear hb4 hb4e;have hS9:=K6 Hp.out (hS.s (ebB eb m1 m2 m3 m4::d8 eS eN m1 (i7 E)::j8 E::d8 eI eSs m2 e.ss::d8 eW eTn m3 e.ts::d8 eW eU m4 e.ar::wrR wb b4::R));clear hS;refine(Ee7 (by omega) W _ _ hS9).mono ?_;clear hS9 Hp;rintro x w ⟨v,T,rfl,hT1,hT2,hS8⟩;obtain⟨sa,sc,rfl⟩:=hS8.rowVal;obtain⟨m1,m2,m3,m4,E,hp,hnd,hS7⟩:=M7 hS8.swap;have hS6:=B8 hS7;clear hS8 hS7;have hS:=hS6.s (wrR wb b4::xtP (.slice sa T.length sc) T::ebB eb m1 m2 m3 m4::d8 eS eN m1 (i7 E)::j8 E::d8 eI eSs m2 e.ss::d8 eW eTn m3 e.ts::d8 eW eU m4 e.ar::R);clear hS6 hnd;have Hp:=jH hp;have hTl:T.length<=600:=by rw[hT1.length_eq];omega
     have htk:∀x∈T,TnOk x.2:=fun x hx=>(HE.out.en.tw x (hT1.mem_iff.1 hx)).1
     have hsl:=Fe7 enT 200 T fun x hx=>OG7 (htk x hx)
     have HT1:=jH hT1;have HT2:=jH hT2;have Htk:=jH htk;clear hp hT1 hT2 htk;go_wp2_with(fail)
     go_loopw [92] (fun v wr=>CwR W (xtP (.slice sa T.length sc) T::ebB eb m1 m2 m3 m4::d8 eS eN m1 (i7 E)::j8 E::d8 eI eSs m2 e.ss::d8 eW eTn m3 e.ts::d8 eW eU m4 e.ar::R) wb enT b4 T v wr) (fun v _=>T.length-(intOf v).toNat)
     case atStart=>exact⟨0,rfl,Nat.zero_le _,by simpa using hS⟩
     case round=>
      clear hS;obtain⟨k,rfl,hkk,hS⟩:=hrel
      by_cases hend:k=T.length
      ·rw[hend,List.take_length]at hS;have hd1:decide (k<T.length)=false:=by simp;omega
       clear hkk hend;have hb5:(b4++T.flatMap enT).length<=6300000:=by rw[jA];omega
       obtain⟨b5,hb5e⟩:∃d,b4++T.flatMap enT=d:=⟨_,rfl⟩
       rw[hb5e]at hS hb5;have Hb5:=jH hb5e;clear hb5e Htk hsl;have hna:=Go.Sl.u6 (hS.s (d8 eW eU m4 e.ar::R));have Hna:=jH hna;clear hna;go_wp2_with(first|(refine zl1 hS ?_)|((with_reducible apply Hr7 (ek:=eW) (ev:=eU) hS);rfl;rfl;rfl;exact mAr;(exact i6);(refine frS ?_))|(refine zbs hS ?_;clear hS;intro bS w hS)|(go_at_call 65;(have hS2:St W (blk bS [.I (e.ar.length:Int)] 3::_) _:=hS);refine(bn4 wb b5 (e.ar.length:Int) bS 1 (by omega) ⟨by omega,by omega⟩ W _ _ (hS2.s (wrR wb b5::blk bS _ _::ebB eb m1 m2 m3 m4::d8 eS eN m1 (i7 E)::j8 E::d8 eI eSs m2 e.ss::d8 eW eTn m3 e.ts::d8 eW eU m4 e.ar::R))).mono ?_;clear hS hS2;rintro x w ⟨rfl,hS⟩)|(go_at_call 71;refine(MH7 (some m4) W _ _ hS).mono ?_;clear hS;rintro x w ⟨g2,rfl,hS⟩)|(go_at_call 44;refine(dW4 (K:=e.ar.map (·.1)) Hna.out (by rw[jM];omega) Kt7 Jo7 (hS.s (blk g2 [.map (some m4)] 82::d8 eW eU m4 e.ar::wrR wb _::ebB eb m1 m2 m3 m4::d8 eS eN m1 (i7 E)::j8 E::d8 eI eSs m2 e.ss::d8 eW eTn m3 e.ts::R))).mono ?_;clear hS;rintro x w ⟨v2,A,rfl,hA1,hA2,hS⟩;(have hv:=hS.rowVal;obtain⟨sa2,sc2,rfl⟩:=hv);have HA1:=jH hA1;have HA2:=jH hA2;have hAl2:A.length<=600:=(by(have h9:=hA1.length_eq;rw[jM]at h9;omega));clear hA1 hA2));have hS8:=hS.s (wrR wb _::waR (.slice sa2 A.length sc2) A::ebB eb m1 m2 m3 m4::d8 eS eN m1 (i7 E)::j8 E::d8 eI eSs m2 e.ss::d8 eW eTn m3 e.ts::d8 eW eU m4 e.ar::R);clear hS;have hS:=hS8;clear hS8;have hb6:=Ao7 (e.ar.length:Int);obtain⟨b6,hb6e⟩:∃d,b5++l8 (e.ar.length:Int)=d:=⟨_,rfl⟩
       have hb6l:b6.length<=6300010:=by rw[<-hb6e,jA];omega
       have hb6p:0<b6.length:=by rw[<-hb6e,jA];have:=FC7 (e.ar.length:Int);omega
       rw[hb6e]at hS;have Hb6:=jH hb6e
       have haw:∀x∈A,dI4 x:=fun x hx=>by
        obtain⟨y,hy,rfl⟩:=List.mem_map.1 (HA1.out.mem_iff.1 hx)
        exact HE.out.en.aw y hy
       have Haw:=jH haw;have hsl:=Fe7 enA 18 A fun x _=>SS7 x
       clear hb6 hb6e haw;go_wp2_with(fail)
       go_loopw [141] (fun v wr=>CwR W (waR (.slice sa2 A.length sc2) A::ebB eb m1 m2 m3 m4::d8 eS eN m1 (i7 E)::j8 E::d8 eI eSs m2 e.ss::d8 eW eTn m3 e.ts::d8 eW eU m4 e.ar::R) wb enA b6 A v wr) (fun v _=>A.length-(intOf v).toNat)
       case atStart=>exact⟨0,rfl,Nat.zero_le _,by simpa using hS⟩
       case round=>
        clear hS;obtain⟨k,rfl,hkk,hS⟩:=hrel
        by_cases hend:k=A.length
        ·rw[hend,List.take_length]at hS;have hd1:decide (k<A.length)=false:=by simp;omega
         clear hkk hend;obtain⟨b7,hb7e⟩:∃d,b6++A.flatMap enA=d:=⟨_,rfl⟩
         have hb7l:b7.length<=6400000:=by rw[<-hb7e,jA];omega
         have hb7p:0<b7.length:=by rw[<-hb7e,jA];omega
         rw[hb7e]at hS;have henc:cx4 e b7:=⟨T,A,HT1.out,HT2.out,HA1.out,HA2.out,by rw[<-hb7e,<-Hb6.out,<-Hb5.out,<-Hb4.out,<-Hb3.out,<-Hb2.out,<-Hb1.out,<-Hb0.out,Hcse.out,Hks.out]⟩
         have Henc:=jH henc;clear henc hb7e;go_wp2_with(first|(go_at_call 72;refine(eG4 wb b7 (by omega) hb7p W _ _ hS).mono ?_;clear hS;rintro x w ⟨vo,rfl,hS⟩));go_ret;have h9:=K6 Hp.out (hS.s (ebB eb m1 m2 m3 m4::d8 eS eN m1 (i7 E)::j8 E::d8 eI eSs m2 e.ss::d8 eW eTn m3 e.ts::d8 eW eU m4 e.ar::byR vo b7::R))
         exact⟨vo,b7,rfl,Henc.out,h9.swap⟩
        ·have hk1:k<A.length:=by omega
         have hd1:decide (k<A.length)=true:=by simp;omega
         obtain⟨⟨g,rfl⟩,_,_⟩:=St.rowAddr hS.drop (by omega);have hst:=Bd7 enA b6 A hk1;have htl:=Eu7 enA A k;have hc:∀{K K':List HP},Take K (waR (.slice (jP g) A.length sc2) A) K'->i5 K g (k*2) (whC A[k]):=fun hu=>i5.elemM (enc:=whC) Ct7 hu hk1
         have hwh:=Haw.out _ (List.getElem_mem hk1);generalize A[k]=x at hst hc hwh;obtain⟨x1,x2⟩:=x;simp only[whC]at hc;rw[show enA (x1,x2)=m5 [x1,x2]from rfl]at hst;obtain⟨⟨w0,w1⟩,w2,w3⟩:=hwh;simp only at w0 w1 w2 w3;obtain⟨d,hd⟩:∃d,b6++(A.take k).flatMap enA=d:=⟨_,rfl⟩
         have hdl:d.length<=6400000:=by rw[<-hd,jA];omega
         rw[hd]at hS hst;have Hst:=jH hst;clear hst hd htl Haw hend hkk hsl;go_wp2_with(first|(refine zlN hS ?_ (hc:=by exact hc (by exact i6)))|(refine zl1 hS ?_)|(refine zal hS ?_;clear hS;intro bA w hS)|(refine zsN hS ?_;clear hS;intro w hS)|(refine zbs hS ?_;clear hS;intro bS w hS)|(go_at_call 65;(have hS2:St W (blk bS [.I x1,.I x2] 3::_) _:=hS);refine(cZ4 wb d x1 x2 bS 2 (by first|omega|(rw[jA];omega)) ⟨by omega,by omega⟩ ⟨by omega,by omega⟩ W _ _ (hS2.s (wrR wb d::blk bS _ _::waR _ A::ebB eb m1 m2 m3 m4::d8 eS eN m1 (i7 E)::j8 E::d8 eI eSs m2 e.ss::d8 eW eTn m3 e.ts::d8 eW eU m4 e.ar::R))).mono ?_;clear hS hS2;rintro x w ⟨rfl,hS⟩))
         go_roundw
         case rel=>exact⟨k+1,rfl,hk1,by rw[Hst.out];exact hS.s _⟩
         case measure=>simp[intOf];omega
      ·have hk1:k<T.length:=by omega
       have hd1:decide (k<T.length)=true:=by simp;omega
       obtain⟨⟨g,rfl⟩,_,_⟩:=St.rowAddr hS.drop (by omega);have hst:=Bd7 enT b4 T hk1;have htl:=Eu7 enT T k;have hc:∀{K K':List HP},Take K (xtP (.slice (jP g) T.length sc) T) K'->i5 K g (k*8) (tnC T[k]):=fun hu=>i5.elemM (enc:=tnC) AQ7 hu hk1
       have hok:=Htk.out _ (List.getElem_mem hk1);generalize T[k]=x at hst hc hok;obtain⟨⟨y1,y2⟩,⟨t0,t1,t2,t3,t4,t5,t6,t7⟩⟩:=x;simp only[tnC,Tns.cells]at hc;have q1:=hok.w.1.1;have q2:=hok.w.1.2;have q3:=hok.w.2.1;have q4:=hok.w.2.2;have z1:=hok.ak;have z2:=hok.aw;have z3:=hok.tk;have z4:=hok.tw;have i0:=hok.i0;have i1:=hok.i1;have c0:=hok.c0;have c1:=hok.c1;simp only at q1 q2 q3 q4 z1 z2 z3 z4 i0 i1 c0 c1;have hen:enT ((y1,y2),⟨t0,t1,t2,t3,t4,t5,t6,t7⟩)=m5 [t0,t1]++(E6 (A7 t2)++(E6 (A7 t3)++(E6 (A7 t4)++E6 (A7 t5))))++m5 [t6,t7]:=rfl;rw[hen]at hst;have hnl:=AK7 [t0,t1];simp only[jC,List.length_nil]at hnl;obtain⟨d,hd⟩:∃d,b4++(T.take k).flatMap enT=d:=⟨_,rfl⟩
       have hdl:d.length<=6300000:=by rw[<-hd,jA];omega
       rw[hd]at hS hst;obtain⟨d5,hd5⟩:∃d5,d++m5 [t0,t1]++(E6 (A7 t2)++(E6 (A7 t3)++(E6 (A7 t4)++E6 (A7 t5))))=d5:=⟨_,rfl⟩
       have hd5l:d5.length<=6400000:=by
        have e1:=AZ7 (A7 t2);have e2:=AZ7 (A7 t3);have e3:=AZ7 (A7 t4);have e4:=AZ7 (A7 t5);rw[AJ7]at e1 e2 e3 e4;rw[<-hd5];simp only[jA];omega
       have hst2:d5++m5 [t6,t7]=b4++(T.take (k+1)).flatMap enT:=by rw[hst,<-hd5];simp only[jS]
       have Hst:=jH hst2;have Hd5:=jH hd5;clear hst hst2 hd5 hok hen hd htl Htk hend hkk hsl
       go_wp2_with(first|(refine zlN hS ?_ (hc:=by exact hc (by exact i6)))|(refine zl1 hS ?_)|(refine zal hS ?_;clear hS;intro bA w hS)|(refine zsN hS ?_;clear hS;intro w hS)|((fail_if_success (have:=f1));(with_reducible apply Ay7 hS);rfl;rfl;rfl;exact Tryz.underlying9;exact Tryz.underlying63;exact Tryz.underlying5;clear hS;intro g1 k1 w hS;have f1:Nat:=0;(refine frS ?_))|((have:=f1);(fail_if_success (have:=f2));(with_reducible apply Ay7 hS);rfl;rfl;rfl;exact Tryz.underlying9;exact Tryz.underlying63;exact Tryz.underlying5;clear hS;intro g2 k2 w hS;have f2:Nat:=0;(refine frS ?_))|((have:=f2);(fail_if_success (have:=f3));(with_reducible apply Ay7 hS);rfl;rfl;rfl;exact Tryz.underlying9;exact Tryz.underlying63;exact Tryz.underlying5;clear hS;intro g3 k3 w hS;have f3:Nat:=0;(refine frS ?_))|((have:=f3);(with_reducible apply Ay7 hS);rfl;rfl;rfl;exact Tryz.underlying9;exact Tryz.underlying63;exact Tryz.underlying5;clear hS;intro g4 k4 w hS;(refine frS ?_))|(refine zbs hS ?_;clear hS;intro bS w hS)|((fail_if_success (have:=mB));(go_at_call 65;(have hS2:St W (blk bS [.I t0,.I t1] 3::_) _:=hS);refine(cZ4 wb d t0 t1 bS 2 (by first|omega|(rw[jA];omega)) ⟨by omega,by omega⟩ ⟨by omega,by omega⟩ W _ _ (hS2.s (wrR wb d::blk bS _ _::blk bA _ _::xtP _ T::ebB eb m1 m2 m3 m4::d8 eS eN m1 (i7 E)::j8 E::d8 eI eSs m2 e.ss::d8 eW eTn m3 e.ts::d8 eW eU m4 e.ar::R))).mono ?_;clear hS hS2;rintro x w ⟨rfl,hS⟩))|((have:=mB);(go_at_call 65;(have hS2:St W (blk bS [.I t6,.I t7] 3::_) _:=hS);refine(cZ4 wb d5 t6 t7 bS 2 (by first|omega|(rw[jA];omega)) ⟨by omega,by omega⟩ ⟨by omega,by omega⟩ W _ _ (hS2.s (wrR wb d5::blk bS _ _::blk bA _ _::xtP _ T::ebB eb m1 m2 m3 m4::d8 eS eN m1 (i7 E)::j8 E::d8 eI eSs m2 e.ss::d8 eW eTn m3 e.ts::d8 eW eU m4 e.ar::R))).mono ?_;clear hS hS2;rintro x w ⟨rfl,hS⟩))|((go_at_call 66;(have hS2:St W (blk bS [sbV g1 t2 k1,sbV g2 t3 k2,sbV g3 t4 k3,sbV g4 t5 k4] 63::_) _:=hS);refine(Qj7 wb (d++m5 [t0,t1]) t2 t3 t4 t5 g1 g2 g3 g4 k1 k2 k3 k4 bS 4 (by rw[jA];omega) (by omega) (by omega) (by omega) (by omega) W _ _ (hS2.s (wrR wb _::blk bS _ _::sbR g1 t2::sbR g2 t3::sbR g3 t4::sbR g4 t5::blk bA _ _::xtP _ T::ebB eb m1 m2 m3 m4::d8 eS eN m1 (i7 E)::j8 E::d8 eI eSs m2 e.ss::d8 eW eTn m3 e.ts::d8 eW eU m4 e.ar::R))).mono ?_;clear hS hS2;rintro x w ⟨rfl,hS⟩;have mB:Nat:=0);rw[Hd5.out]at hS))
       go_roundw
       case rel=>exact⟨k+1,rfl,hk1,by rw[<-Hst.out];exact hS.s _⟩
       case measure=>simp[intOf];omega
    ·have hk1:k<cs.length:=by omega
     have hd1:decide (k<cs.length)=true:=by simp;omega
     obtain⟨⟨g,rfl⟩,_,_⟩:=St.rowAddr hS.drop (by omega);have hst:=Bd7 (enS e) b2 cs hk1;have htl:=Eu7 (enS e) cs k;have hget:(cs.map eZ)[k]? = some (.I cs[k]):=by rw[List.getElem?_map,List.getElem?_eq_getElem hk1];rfl
     obtain⟨q,r,hgl,hwh,hro⟩:=Hcs.out _ (List.getElem_mem hk1);generalize cs[k]=c1 at hst hget hgl hwh;have hc:∀{K K':List HP},Take K (zrR (.slice (jP g) cs.length sc2) cs) K'->i8 K g k (.I c1):=fun hu=>i8.rowM hu hget
     obtain⟨⟨w0,w1⟩,w2,w3⟩:=hwh;simp only at w0 w1 w2 w3;have hens:enS e c1=m5 [c1,q]++E6 (rpB r):=by unfold enS;rw[hgl];rfl
     rw[hens]at hst;obtain⟨r0,r1,⟨r2,r3,r4,r5⟩⟩:=r;have hrl:=Gy7 ⟨r0,r1,⟨r2,r3,r4,r5⟩⟩;have hnl:=AK7 [c1,q];simp only[jC,List.length_nil]at hnl;obtain⟨d,hd⟩:∃d,b2++(cs.take k).flatMap (enS e)=d:=⟨_,rfl⟩
     have hdl:d.length<=6100000:=by rw[<-hd,jA];omega
     rw[hd]at hS hst;have Hst:=jH hst;have Hr:=jH hro;clear hst hget hro hens hd htl Hcs hend hkk hsl;go_wp2_with(first|(refine zl1 hS ?_ (hc:=by exact hc (by exact i6)))|(refine zl1 hS ?_)|((with_reducible apply BU7 (ek:=eI) (ev:=eSs) (k:=c1) hS);rfl;rfl;rfl;rfl;(exact i6);exact mS;exact kEi;exact zS;exact hgl;(refine frS ?_))|(refine zal hS ?_;clear hS;intro bA w hS)|(refine zsN hS ?_;clear hS;intro w hS)|(refine zlN hS ?_ (vs:=[.I r0,.I r1,.I r2,.I r3,.I r4,.I r5]) (hc:=by exact i5.here rfl))|(go_at_call 70;refine(Kr7 Hr.out W _ _ hS).mono ?_;clear hS;rintro x w ⟨rv,rfl,hS⟩;(have hv:=hS.rowVal;obtain⟨ra,rc,rfl⟩:=hv))|(refine zbs hS ?_;clear hS;intro bS w hS)|(go_at_call 65;(have hS2:St W (blk bS [.I c1,.I q] 3::_) _:=hS);refine(cZ4 wb d c1 q bS 2 (by first|omega|(rw[jA];omega)) ⟨by omega,by omega⟩ ⟨by omega,by omega⟩ W _ _ (hS2.s (wrR wb d::blk bS _ _::byR _ _::zrR _ cs::ebB eb m1 m2 m3 m4::d8 eS eN m1 (i7 E)::j8 E::d8 eI eSs m2 e.ss::d8 eW eTn m3 e.ts::d8 eW eU m4 e.ar::R))).mono ?_;clear hS hS2;rintro x w ⟨rfl,hS⟩)|(go_at_call 66;(have hS2:St W (blk bS [.slice ra (rpB ⟨r0,r1,⟨r2,r3,r4,r5⟩⟩).length rc] 63::_) _:=hS);refine(Qh7 wb (d++m5 [c1,q]) (rpB ⟨r0,r1,⟨r2,r3,r4,r5⟩⟩) ra rc bS 1 (by rw[jA];omega) (by omega) W _ _ (hS2.s (wrR wb _::blk bS _ _::byR _ _::zrR _ cs::ebB eb m1 m2 m3 m4::d8 eS eN m1 (i7 E)::j8 E::d8 eI eSs m2 e.ss::d8 eW eTn m3 e.ts::d8 eW eU m4 e.ar::R))).mono ?_;clear hS hS2;rintro x w ⟨rfl,hS⟩))
     go_roundw
     case rel=>exact⟨k+1,rfl,hk1,by rw[Hst.out,<-jS];exact hS.s _⟩
     case measure=>simp[intOf];omega
  ·have hk1:k<ks.length:=by omega
   have hd1:decide (k<ks.length)=true:=by simp;omega
   obtain⟨⟨g,rfl⟩,_,_⟩:=St.rowAddr hS.drop (by omega);have hst:=Bd7 (enK e) b0 ks hk1;have htl:=Eu7 (enK e) ks k;have hget:(ks.map eS)[k]? = some (.string ks[k]):=by rw[List.getElem?_map,List.getElem?_eq_getElem hk1];rfl
   obtain⟨vb,V,hgl,hpp,hat,hok,hsz,hmy,hl32⟩:=Hkv.out _ (List.getElem_mem hk1);generalize ks[k]=k1 at hst hget hgl hpp hat hsz;have hc:∀{K K':List HP},Take K (bo4 (.slice (jP g) ks.length sc) ks) K'->i8 K g k (.string k1):=fun hu=>i8.rowM hu hget
   have hev:=OF7 (n:=V.n) hok.w hmy hl32;have hpl:=hok.w.len;have henk:enK e k1=E6 (A7 k1)++E6 (aW4 V.ps V.L V.n):=by unfold enK;rw[hat]
   rw[henk]at hst;obtain⟨d,hd⟩:∃d,b0++(ks.take k).flatMap (enK e)=d:=⟨_,rfl⟩
   have hdl:d.length<=6000010:=by rw[<-hd,jA];omega
   rw[hd]at hS hst;have hS1:=bU4 (aE4 hpp (hS.s (j8 E::wrR wb d::bo4 (.slice (jP g) ks.length sc) ks::ebB eb m1 m2 m3 m4::d8 eS eN m1 (i7 E)::d8 eI eSs m2 e.ss::d8 eW eTn m3 e.ts::d8 eW eU m4 e.ar::R)));obtain⟨vm,vk,hS2⟩:=aZ4 hS1;clear hS hS1;have hS:=hS2.s (wrR wb d::blk vb [.map (some vm),.pointer (jP vk),.I V.n] 176::d8 eS eP vm V.ps::m8 vk V.L V.n::j8 (j5 E k1)::bo4 (.slice (jP g) ks.length sc) ks::ebB eb m1 m2 m3 m4::d8 eS eN m1 (i7 E)::d8 eI eSs m2 e.ss::d8 eW eTn m3 e.ts::d8 eW eU m4 e.ar::R);clear hS2;have Hst:=jH hst;have Hpp:=jH hpp;have Hok:=jH hok;clear hst hget hpp hat hok hmy hl32 henk hd htl Hkv hend hkk
   go_wp2_with(first|(refine zl1 hS ?_ (hc:=by exact hc (by exact i6)))|((with_reducible apply Ay7 hS);rfl;rfl;rfl;exact Tryz.underlying9;exact Tryz.underlying63;exact Tryz.underlying5;clear hS;intro g9 c9 w hS;(refine frS ?_))|(refine zl1 hS ?_)|((with_reducible apply BU7 (ek:=eS) (ev:=eN) (k:=k1) hS);rfl;rfl;rfl;rfl;(exact i6);exact mV;exact kS;exact zV;exact hgl;(refine frS ?_))|(go_at_call 67;refine(eV4 vb vm vk V.ps V.L V.n Hok.out.ok Hok.out.w (by omega) Hok.out.n0 (by have:=Hok.out.n1;omega) W _ _ (hS.s (blk vb _ _::d8 eS eP vm V.ps::m8 vk V.L V.n::wrR wb d::sbR g9 k1::j8 (j5 E k1)::bo4 _ ks::ebB eb m1 m2 m3 m4::d8 eS eN m1 (i7 E)::d8 eI eSs m2 e.ss::d8 eW eTn m3 e.ts::d8 eW eU m4 e.ar::R))).mono ?_;clear hS;rintro x w ⟨vv,rfl,hS⟩;(have hv:=hS.rowVal;obtain⟨va,vc,rfl⟩:=hv);(have hS5:St W (byR _ (aW4 V.ps V.L V.n)::blk vb [.map (some vm),.pointer (jP vk),.I V.n] 176::d8 eS eP vm V.ps::m8 vk V.L V.n::_) _:=hS);clear hS;(have hS:=hS5);clear hS5)|(refine zbs hS ?_;clear hS;intro bS w hS)|(go_at_call 66;(have hS2:St W (blk bS [sbV g9 k1 c9,.slice va (aW4 V.ps V.L V.n).length vc] 63::_) _:=hS);refine(Qi7 wb d k1 g9 c9 (aW4 V.ps V.L V.n) va vc bS 2 (by omega) (by omega) (by omega) W _ _ (hS2.s (wrR wb d::blk bS _ _::sbR g9 k1::byR _ (aW4 V.ps V.L V.n)::blk vb _ _::d8 eS eP vm V.ps::m8 vk V.L V.n::j8 (j5 E k1)::bo4 _ ks::ebB eb m1 m2 m3 m4::d8 eS eN m1 (i7 E)::d8 eI eSs m2 e.ss::d8 eW eTn m3 e.ts::d8 eW eU m4 e.ar::R))).mono ?_;clear hS hS2;rintro x w ⟨rfl,hS⟩));have h1:=aC4 (V:=V) (hS.s (blk vb [.map (some vm),.pointer (jP vk),.I V.n] 176::d8 eS eP vm V.ps::m8 vk V.L V.n::j8 (j5 E k1)::wrR wb (d++(E6 (A7 k1)++E6 (aW4 V.ps V.L V.n)))::bo4 (.slice (jP g) ks.length sc) ks::ebB eb m1 m2 m3 m4::d8 eS eN m1 (i7 E)::d8 eI eSs m2 e.ss::d8 eW eTn m3 e.ts::d8 eW eU m4 e.ar::R))
   have h2:=aE4 Hpp.out.symm (cp4 (x:=(k1,(vb,V))) h1)
   go_roundw
   case rel=>exact⟨k+1,rfl,hk1,by rw[Hst.out];exact h2.s _⟩
   case measure=>simp[intOf];omega
def hI4(e:Ec)(o:Opn):Prop:=w7 o=false\/∃q r,i9 e.ss o.client=some (q,r)/\o.seq<=q
theorem Ql7:dX4 EnL:=fun _ _ o h he _ hok=>h.app he o hok
theorem HU7{I:Ec->Nat->Prop}(hI:dX4 I)(hi0:I ec0 0)(xs:List Opn)(hlen:xs.length<=150)(v:Value)(V:World)(hv:bm4 Opn.cells 12 V v xs)(W w:World)(Lr:List HP)(hS:St W (Old V::Lr) w):
  Calls Tryz.prog 23 #[v] w fun r w'=>∃eb xb,r=.returned (.tuple #[.pointer (jP eb),.pointer (jP xb),.bool true])/\GOk (bT4 xs ec0) (aB4 xs ec0) xs.length/\I (aB4 xs ec0) xs.length/\St W (ecP eb (aB4 xs ec0)::x9 xb (bT4 xs ec0)::Old V::Lr) w':=by
 have Hv:=jH hv;clear hv;go_enter Tryz.func23,Tryz.ntmps23;go_wp2_with(first|go_big_skip|(go_at_call 15;refine(Gi7 W _ _ hS).mono ?_;clear hS;rintro e w ⟨eb,rfl,hS⟩)|(refine zbx hS ?_;clear hS;intro xb w hS)|(go_at_call 32;(have hS1:=hw4 (hS.s (xeB xb (.slice none 0 0) (.slice none 0 0) (.slice none 0 0) (.slice none 0 0)::ecP eb ec0::Old V::Lr)));clear hS;refine(Ov7 xs hlen _ V Hv.out (n:=0) (by decide) hr4 hI hi0 eb xb W _ _ (hS1.s (ecP eb ec0::x9 xb ec0::Old V::Lr))).mono ?_;clear hS1;rintro e w ⟨rfl,hG,hN,hS⟩;have HG:=jH hG;have HN:=jH hN;clear hG hN));go_ret3
 exact⟨eb,xb,rfl,by have:=HG.out;rwa [Nat.zero_add]at this,by have:=HN.out;rwa [Nat.zero_add]at this,hS⟩
theorem Ku7(xs:List Opn)(hlen:xs.length<=150)(v:Value)(V:World)(hv:bm4 Opn.cells 12 V v xs)(W w:World)(Lr:List HP)(hS:St W (Old V::Lr) w):
  Calls Tryz.prog 23 #[v] w fun r w'=>∃eb xb,r=.returned (.tuple #[.pointer (jP eb),.pointer (jP xb),.bool true])/\GOk (bT4 xs ec0) (aB4 xs ec0) xs.length/\EnL (aB4 xs ec0) xs.length/\St W (ecP eb (aB4 xs ec0)::x9 xb (bT4 xs ec0)::Old V::Lr) w':=HU7 Ql7 gH4 xs hlen v V hv W w Lr hS
end Go.Proofs.YtlmhakmoioogaaaGreat
end
section
namespace Go.Sl
open Go.RowKit
structure Same(L L':List HP):Prop where
 to:∀{f:ai4},sats L f->sats L' f
 back:∀{f:ai4},sats L' f->sats L f
theorem Same.refl{L:List HP}:Same L L:=⟨fun h=>h,fun h=>h⟩
theorem Same.of{A:HP}{L R R':List HP}(h:Take L A R)(h2:Same R R'):Same L (A::R'):=
 ⟨fun hs=>AM7 (fun _ x=>x) (fun _ x=>h2.to x) (h.sats hs),fun hs=>h.back (AM7 (fun _ x=>x) (fun _ x=>h2.back x) hs)⟩
theorem Same.st{W w:World}{L L':List HP}(h:Same L L')(hS:St W L w):St W L' w:=⟨hS.os,hS.tape,hS.output,h.to hS.sat⟩
theorem Same.ts{W w:World}{L L':List HP}{X:HP}(h:Same L L')(hS:St W (X::L') w):St W (X::L) w:=⟨hS.os,hS.tape,hS.output,AM7 (fun _ x=>x) (fun _ x=>h.back x) hS.sat⟩
def gI4(ns:List Int):ByteArray:=ns.foldl (fun r n=>r.push (UInt8.ofNat n.toNat)) ByteArray.empty
section
variable{P:Program}{W:World}{ops:Array Oper}{t:List Nat}{toks:List Tok}{fresh:Nat->Bool}{pin:Nat->Option Value}{Qf:Act->Prop}{nd:Nat->Value}{i:Nat}{l:List Oper}{a:Act}{o:Oper}
theorem ST7{ty t2:TypeId}{x y:Operand}{xs ys:Array Value}{r:Bool}(hf:fresh i=false)(hn:aw4 toks i=true)(ho:o.op=.binOp .eql ty x y t2)(hg:Region.wanted o (yielded ops a.tmps)=true)(hx:a.eval x=.agg xs)(hy:a.eval y=.agg ys)(hm:P.eqGuardType P.depth ty=false)(hr:∀w:World,(Op.equalIn 10000 ty (.agg xs) (.agg ys)).run P w=.ok r w)
  (h:l9 P W ops t toks fresh pin Qf nd (i+1) l (a.put o.dst (.bool r))):l9 P W ops t toks fresh pin Qf nd i (o::l) a:=
 EW7 hf hn hg (fun F w _=>by
  unfold execOp;simp[ho,hx,hy,run_eqGuard_agg w .eql ty x y xs ys hm,run_eql_struct,hr]) h
theorem CN7{src dst e:TypeId}{x:Operand}{v0:Value}{ns:List Int}(hf:fresh i=false)(hn:aw4 toks i=true)(ho:o.op=.convert src dst x)(hg:Region.wanted o (yielded ops a.tmps)=true)(hx:a.eval x=v0)
  (hs:P.underlying src=some (.slice e)) (he:P.underlying e=some (.int .u8)) (hd:P.underlying dst=some .string) (hp:0<ns.length) (hr:∀F, ∃R,Take (kpL toks t i nd++F) (row v0 1 e ns.length (ns.map (Value.int .u8))) R)
  (h:l9 P W ops t toks fresh pin Qf nd (i+1) l (a.put o.dst (.string (gI4 ns)))):l9 P W ops t toks fresh pin Qf nd i (o::l) a:=
 EW7 hf hn hg (fun F w hS=>by
  obtain⟨R,hu⟩:=hr F;have hS1:=hS.take hu;obtain⟨b,c,rfl⟩:=hS1.rowVal;obtain⟨⟨g,rfl⟩,_,_⟩:=St.rowAddr hS1 hp
  have h1:=run_loadCells_list (P:=P) w ⟨g,0,none⟩ (ns.map (Value.int .u8)) (fun j v hj=>by
   rw[Addr.add_lit,Nat.zero_add]
   exact i8.row hp hj W w hS1)
  rw[jM]at h1;have h2:=run_bytesToString (P:=P) w ⟨g,0,none⟩ ns.length c ns h1;unfold execOp;simp[ho,hx,run_convert_bytes_string w src dst e (jP g) ns.length c hs he hd,h2,gI4]) h
end
end Go.Sl
namespace Go.Proofs.YtlmhakmoioogaaaGreat
open Go.RowKit Go.Sl
section
variable{W w:World}{vb mb bb xb xB:Nat}{p:Ps}{L:List Ord}{n:Int}{N:Nat}{L1 R3:List HP}
end
theorem Jp7{e:Ec}{d:List Int}(h:cx4 e d):0<d.length:=by
 obtain⟨T,A,_,_,_,_,rfl⟩:=h;have:=FC7 (e.vs.length:Int);simp only[jA];omega
theorem Jq7{eb:Nat}{e:Ec}{n:Nat}{d:List Int}(hd:cx4 e d)(hE:EnL e n)(hn:n<=600){W w:World}{L R:List HP}(ht:Take L (ecP eb e) R)(hS:St W L w):
  Calls Tryz.prog 27 #[.pointer (jP eb)] w fun x w'=>∃v,x=.returned v/\St W (byR v d::L) w':=by
 refine(Gz7 hE hn W w R (hS.take ht)).mono ?_;rintro x w' ⟨v,d',rfl,hd',hS⟩;obtain rfl:=Qk7 hd hd';refine⟨v,rfl,?_⟩
 exact hS.swap.back (Take.tail ht)
def OnR(W:World)(L:List HP)(n:Nat)(v:Value)(w:World):Prop:=∃i:Nat,v=.I i/\i<=n/\St W L w
end Go.Proofs.YtlmhakmoioogaaaGreat
end
