/-
  An economy as bytes, the program's.
-/
import Derived.Test.YtienbkdjkjbelaaGreatJoAM5
import Derived.Test.YtienbkdjkjbelaaGreatJoAM14
import Derived.Test.YtienbkdjkjbelaaGreatJoAM39
import Derived.Test.YtienbkdjkjbelaaGreatJoAM40
import Derived.Test.YtienbkdjkjbelaaGreatJoAM43
set_option maxHeartbeats 16000000
set_option maxRecDepth 100000
set_option linter.unusedSimpArgs false
set_option linter.unusedVariables false
section
namespace Go.Proofs.YtienbkdjkjbelaaGreat
open Go.RowKit Go.Sl
def enS(e:Ec)(c:Int):List Int:=l7 [c,((j8 e.ss c).getD (0,rp0)).1]++E5 (rpB ((j8 e.ss c).getD (0,rp0)).2)
def enT(x:(Int×Int)×Tns):List Int:=l7 [x.2.client,x.2.seq]++(E5 (A7 x.2.ak)++(E5 (A7 x.2.aw)++(E5 (A7 x.2.tk)++E5 (A7 x.2.tw))))++l7 [x.2.item,x.2.cnt]
def enA(k:Int×Int):List Int:=l7 [k.1,k.2]
def bC4(e:Ec)(d:List Int):Prop:=∃(T:List ((Int×Int)×Tns)) (A:List (Int×Int)),T.Perm e.ts/\Asc ltW T/\A.Perm (e.ar.map (·.1))/\A.Pairwise (fun x y=>ltW x y=true) /\
 d=l6 e.vs.length++(ksE e).flatMap (enK e)++l6 e.ss.length++(aq4 (e.ss.map (·.1))).flatMap (enS e)++l6 e.ts.length++T.flatMap enT++l6 e.ar.length++A.flatMap enA
theorem OC7{e:Ec}{d d':List Int}(h:bC4 e d)(h':bC4 e d'):d=d':=by
 obtain⟨T,A,h1,h2,h3,h4,rfl⟩:=h;obtain⟨T',A',h1',h2',h3',h4',rfl⟩:=h';rw[PP7 Ax7 h2 h2' (h1.trans h1'.symm)]
 have:A=A':=List.Perm.eq_of_pairwise (fun a b _ _ g1 g2=>by
  have:=Ax7.tr _ _ _ g1 g2;rw[Ax7.irr]at this
  cases this) h4 h4' (h3.trans h3'.symm)
 rw[this]
theorem Ey7{α:Type}(f:α->List Int)(c:Nat)(xs:List α)(h:∀x∈xs,(f x).length<=c):(xs.flatMap f).length<=c*xs.length:=by
 induction xs with
 | nil=>simp
 | cons x xs ih=>
  have h1:=h x (List.mem_cons_self ..);have h2:=ih fun y hy=>h y (List.mem_cons_of_mem _ hy)
  rw[List.flatMap_cons,jA,jC,Nat.mul_succ];omega
theorem QW7(e:Ec)(c:Int):(enS e c).length<=100:=by have h1:=AE7 [c,((j8 e.ss c).getD (0,rp0)).1];have h2:=AS7 (rpB ((j8 e.ss c).getD (0,rp0)).2);have h3:=FG7 ((j8 e.ss c).getD (0,rp0)).2;unfold enS;rw[jA];simp only[jC,List.length_nil]at h1;omega
theorem MQ7{x:(Int×Int)×Tns}(h:TnOk x.2):(enT x).length<=200:=by have h1:=AE7 [x.2.client,x.2.seq];have h2:=AE7 [x.2.item,x.2.cnt];have e1:=AS7 (A7 x.2.ak);have e2:=AS7 (A7 x.2.aw);have e3:=AS7 (A7 x.2.tk);have e4:=AS7 (A7 x.2.tw);rw[AD7]at e1 e2 e3 e4;have:=h.ak;have:=h.aw;have:=h.tk;have:=h.tw;unfold enT;simp only[jA];simp only[jC,List.length_nil]at h1 h2;omega
theorem QX7(k:Int×Int):(enA k).length<=18:=by have h1:=AE7 [k.1,k.2];simp only[jC,List.length_nil]at h1;exact h1
structure VkOk(V:Vs):Prop where
 ok:K6 V.ps
 w:PsW V.ps 60000
 n0:1<=V.n
 n1:V.n<=1099511627777
structure EncOk(e:Ec):Prop where
 nd:(e.vs.map (·.1)).Nodup
 vk:∀x∈e.vs,x.1.size<=16
 ok:∀x∈e.vs,VkOk x.2
 sw:∀x∈e.ss,cA4 (x.1,x.2.1)
 sr:∀x∈e.ss,RpOk x.2.2
 tw:∀x∈e.ts,TnOk x.2/\x.1=(x.2.client,x.2.seq)
 aw:∀x∈e.ar,cA4 x.1
 lv:e.vs.length<=10000
 ls:e.ss.length<=10000
 lt:e.ts.length<=10000
 la:e.ar.length<=10000
 lk:((ksE e).flatMap (enK e)).length<=6000000
theorem OD7{e:Ec}{n:Nat}(h:EnL e n)(he:aU4 e)(hn:n<=600):EncOk e:=
 ⟨h.nd,h.en.vk,fun x hx=>⟨(h.en.ok x hx).ok,Al7 (h.en.ok x hx).w (by omega),(h.en.ok x hx).n0,by have:=(h.en.ok x hx).n1;omega⟩,h.en.sw,h.en.sr,h.en.tw,h.en.aw,Nat.le_trans h.en.lv (by omega),Nat.le_trans h.en.ls (by omega),Nat.le_trans h.en.lt (by omega),Nat.le_trans h.en.la (by omega),Qg7 h he hn⟩
abbrev zrR(v:Value)(l:List Int):HP:=row v 1 3 l.length (l.map eZ)
abbrev waR(v:Value)(l:List (Int×Int)):HP:=row v 2 127 l.length (l.flatMap whC)
theorem MR7{eb:Nat}{e:Ec}(hE:EncOk e)(W w:World)(R:List HP)(hS:St W (ecP eb e::R) w):
  Calls Tryz.prog 22 #[.P eb] w fun x w'=>∃v d,x=.returned v/\bC4 e d/\St W (byR v d::ecP eb e::R) w':=by
 have hEach:=MD7 hS;have hkl:=hE.lk;have hlv:=hE.lv;have hls:=hE.ls;have hlt:=hE.lt;have hla:=hE.la;obtain⟨m1,m2,m3,m4,E,hp,hnd,hS0⟩:=br4 hS;have hS1:=F5 hS0;clear hS hS0;have hS:=hS1;clear hS1;have hEl:(j6 E).length=e.vs.length:=by have h1:=hp.length_eq;unfold k8 at h1;unfold j6;rw[jM]at h1 ⊢;exact h1
 have HEl:=jH hEl;have HE:=jH hE;have HEach:=jH hEach;have Hp:=jH hp;have hpl:(j6 E).length<=10000:=by omega
 have hb0:=Ak7 ((j6 E).length:Int);clear hEl hE hEach hp hnd;go_enter Tryz.func22,Tryz.ntmps22;go_wp2_with(first|refine zal hS ?_;clear hS;intro wb w hS|refine zl1 hS ?_|(with_reducible apply Gn7 (ek:=eS) (ev:=eN) hS);rfl;rfl;rfl;exact mV;exact i8;refine frS ?_|refine zbs hS ?_;clear hS;intro bS w hS|go_at_call 41;refine(aK4 wb [] ((j6 E).length:Int) bS 1 (by simp) ⟨by omega,by omega⟩ W _ _ (ed4 (hS.s (blk wb _ _::blk bS _ _::ebB eb m1 m2 m3 m4::d8 eS eN m1 (j6 E)::k9 E::d8 eI eSs m2 e.ss::d8 eW eTn m3 e.ts::d8 eW eU m4 e.ar::R)))).mono ?_;clear hS;rw[jN];rintro x w ⟨rfl,hS⟩);have hS9:=bl4 Hp.out (hS.s (ebB eb m1 m2 m3 m4::d8 eS eN m1 (j6 E)::k9 E::d8 eI eSs m2 e.ss::d8 eW eTn m3 e.ts::d8 eW eU m4 e.ar::wrR wb _::R));rw[HEl.out]at hS9;clear hS;refine(MM7 (fun x hx=>by have:=HE.out.vk x hx;unfold maxLen;omega) (by omega) W _ _ hS9).mono ?_;clear hS9 HEl Hp hpl hb0;rintro x w ⟨v,rfl,hS8⟩;obtain⟨sa,sc,rfl⟩:=hS8.rowVal;obtain⟨m1,m2,m3,m4,E,hp,hnd,hS7⟩:=br4 hS8.swap;have hS6:=F5 hS7;clear hS8 hS7;have hS:=hS6.s (wrR wb _::cw4 (.slice sa (ksE e).length sc) (ksE e)::ebB eb m1 m2 m3 m4::d8 eS eN m1 (j6 E)::k9 E::d8 eI eSs m2 e.ss::d8 eW eTn m3 e.ts::d8 eW eU m4 e.ar::R);clear hS6
 have hkv:∀k∈ksE e, ∃vb V,j8 (j6 E) k=some vb/\E.Perm ((k,(vb,V))::j5 E k)/\atV e k=V/\VkOk V/\k.size<=16/\(∀o∈V.L,MayP o)/\V.L.length<=32:=by
  intro k hk;obtain⟨x,hx,rfl⟩:=List.mem_map.1 ((Aw7 _).mem_iff.1 hk);obtain⟨y,hy,rfl⟩:=List.mem_map.1 (hp.mem_iff.2 hx);have h4:j8 E y.1=some y.2:=BD7 hnd hy;refine⟨y.2.1,y.2.2,?_,BT7 hnd h4,?_,HE.out.ok _ hx,HE.out.vk _ hx,(HEach.out _ hx).1,(HEach.out _ hx).2⟩
  ·rw[Co7,h4];rfl
  ·rw[IG7 hnd hp];unfold vAt;rw[h4];rfl
 have hkn:(ksE e).length<=10000:=by rw[IY7];omega
 generalize hkse:ksE e=ks at *;have Hks:=jH hkse;clear hkse;have Hkv:=jH hkv;have Hp:=jH hp;clear hkv hp hnd;have hb0:=Ak7 (e.vs.length:Int);obtain⟨b0,hb0e⟩:∃d,l6 (e.vs.length:Int)=d:=⟨_,rfl⟩
 rw[hb0e]at hS hb0;have Hb0:=jH hb0e;clear hb0e;go_wp2_with(fail)
 go_loopw [27] (fun v wr=>CwR W (cw4 (.slice sa ks.length sc) ks::ebB eb m1 m2 m3 m4::d8 eS eN m1 (j6 E)::k9 E::d8 eI eSs m2 e.ss::d8 eW eTn m3 e.ts::d8 eW eU m4 e.ar::R) wb (enK e) b0 ks v wr) (fun v _=>ks.length-(intOf v).toNat)
 case atStart=>exact⟨0,rfl,Nat.zero_le _,by simpa using hS⟩
 case round=>
  clear hS;obtain⟨k,rfl,hkk,hS⟩:=hrel;by_cases hend:k=ks.length
  ·rw[hend,List.take_length]at hS;have hd1:decide (k<ks.length)=false:=by simp;omega
   clear hkk hend;have hb1:(b0++ks.flatMap (enK e)).length<=6000010:=by rw[jA];omega
   obtain⟨b1,hb1e⟩:∃d,b0++ks.flatMap (enK e)=d:=⟨_,rfl⟩
   rw[hb1e]at hS hb1;have Hb1:=jH hb1e;clear hb1e Hkv hkl hkn;go_wp2_with(first|refine zl1 hS ?_|(with_reducible apply Gn7 (ek:=eI) (ev:=eSs) hS);rfl;rfl;rfl;exact mS;exact i8;refine frS ?_|refine zbs hS ?_;clear hS;intro bS w hS|go_at_call 41;(have hS2:St W (blk bS [.I (e.ss.length:Int)] 3::_) _:=hS);refine(aK4 wb b1 (e.ss.length:Int) bS 1 (by omega) ⟨by omega,by omega⟩ W _ _ (hS2.s (wrR wb b1::blk bS _ _::ebB eb m1 m2 m3 m4::d8 eS eN m1 (j6 E)::k9 E::d8 eI eSs m2 e.ss::d8 eW eTn m3 e.ts::d8 eW eU m4 e.ar::R))).mono ?_;clear hS hS2;rintro x w ⟨rfl,hS⟩|go_at_call 45;refine(KL7 (some m2) W _ _ hS).mono ?_;clear hS;rintro x w ⟨g2,rfl,hS⟩|go_at_call 44;refine(er4 (K:=e.ss.map (·.1)) (by rw[jM];omega) IS7 HS7 (hS.s (blk g2 [.map (some m2)] 108::d8 eI eSs m2 e.ss::wrR wb _::ebB eb m1 m2 m3 m4::d8 eS eN m1 (j6 E)::k9 E::d8 eW eTn m3 e.ts::d8 eW eU m4 e.ar::R))).mono ?_;clear hS;rintro x w ⟨v2,rfl,hS⟩;rw[<-EO7 (e.ss.map (·.1))]at hS;(have hv:=hS.rowVal;obtain⟨sa2,sc2,rfl⟩:=hv));have hns:=E7 (hS.s (d8 eI eSs m2 e.ss::R));have hcs:∀c∈aq4 (e.ss.map (·.1)), ∃q r,j8 e.ss c=some (q,r)/\cA4 (c,q)/\RpOk r:=by intro c hc;obtain⟨x,hx,rfl⟩:=List.mem_map.1 ((CG7 _).mem_iff.1 hc);exact⟨x.2.1,x.2.2,BD7 hns hx,HE.out.sw x hx,HE.out.sr x hx⟩
   have hcl:(aq4 (e.ss.map (·.1))).length<=10000:=by rw[EO7,jM];omega
   have hSz:=hS.s (wrR wb _::zrR (.slice sa2 (aq4 (e.ss.map (·.1))).length sc2) (aq4 (e.ss.map (·.1)))::ebB eb m1 m2 m3 m4::d8 eS eN m1 (j6 E)::k9 E::d8 eI eSs m2 e.ss::d8 eW eTn m3 e.ts::d8 eW eU m4 e.ar::R);clear hS;have hS:=hSz;clear hSz hns;generalize hcse:aq4 (e.ss.map (·.1))=cs at *;have Hcse:=jH hcse;have Hcs:=jH hcs;have hb2:=Ak7 (e.ss.length:Int);obtain⟨b2,hb2e⟩:∃d,b1++l6 (e.ss.length:Int)=d:=⟨_,rfl⟩
   have hb2l:b2.length<=6000020:=by rw[<-hb2e,jA];omega
   rw[hb2e]at hS;have Hb2:=jH hb2e;have hsl:=Ey7 (enS e) 100 cs fun c _=>QW7 e c
   clear hcse hcs hb2 hb2e;go_wp2_with(fail)
   go_loopw [57] (fun v wr=>CwR W (zrR (.slice sa2 cs.length sc2) cs::ebB eb m1 m2 m3 m4::d8 eS eN m1 (j6 E)::k9 E::d8 eI eSs m2 e.ss::d8 eW eTn m3 e.ts::d8 eW eU m4 e.ar::R) wb (enS e) b2 cs v wr) (fun v _=>cs.length-(intOf v).toNat)
   case atStart=>exact⟨0,rfl,Nat.zero_le _,by simpa using hS⟩
   case round=>
    clear hS;obtain⟨k,rfl,hkk,hS⟩:=hrel;by_cases hend:k=cs.length
    ·rw[hend,List.take_length]at hS;have hd1:decide (k<cs.length)=false:=by simp;omega
     clear hkk hend;have hb3:(b2++cs.flatMap (enS e)).length<=7100000:=by rw[jA];omega
     obtain⟨b3,hb3e⟩:∃d,b2++cs.flatMap (enS e)=d:=⟨_,rfl⟩
     rw[hb3e]at hS hb3;have Hb3:=jH hb3e;clear hb3e Hcs hsl;go_wp2_with(first|refine zl1 hS ?_|(with_reducible apply Gn7 (ek:=eW) (ev:=eTn) hS);rfl;rfl;rfl;exact mT;exact i8;refine frS ?_|refine zbs hS ?_;clear hS;intro bS w hS|go_at_call 41;(have hS2:St W (blk bS [.I (e.ts.length:Int)] 3::_) _:=hS);refine(aK4 wb b3 (e.ts.length:Int) bS 1 (by omega) ⟨by omega,by omega⟩ W _ _ (hS2.s (wrR wb b3::blk bS _ _::ebB eb m1 m2 m3 m4::d8 eS eN m1 (j6 E)::k9 E::d8 eI eSs m2 e.ss::d8 eW eTn m3 e.ts::d8 eW eU m4 e.ar::R))).mono ?_;clear hS hS2;rintro x w ⟨rfl,hS⟩);have hb4:=Ak7 (e.ts.length:Int);obtain⟨b4,hb4e⟩:∃d,b3++l6 (e.ts.length:Int)=d:=⟨_,rfl⟩
     have hb4l:b4.length<=7100010:=by rw[<-hb4e,jA];omega
     rw[hb4e]at hS;have Hb4:=jH hb4e;clear hb4 hb4e;have hS9:=bl4 Hp.out (hS.s (ebB eb m1 m2 m3 m4::d8 eS eN m1 (j6 E)::k9 E::d8 eI eSs m2 e.ss::d8 eW eTn m3 e.ts::d8 eW eU m4 e.ar::wrR wb b4::R));clear hS;refine(GD7 (by omega) W _ _ hS9).mono ?_;clear hS9 Hp;rintro x w ⟨v,T,rfl,hT1,hT2,hS8⟩;obtain⟨sa,sc,rfl⟩:=hS8.rowVal;obtain⟨m1,m2,m3,m4,E,hp,hnd,hS7⟩:=br4 hS8.swap;have hS6:=F5 hS7;clear hS8 hS7;have hS:=hS6.s (wrR wb b4::xtP (.slice sa T.length sc) T::ebB eb m1 m2 m3 m4::d8 eS eN m1 (j6 E)::k9 E::d8 eI eSs m2 e.ss::d8 eW eTn m3 e.ts::d8 eW eU m4 e.ar::R);clear hS6 hnd;have Hp:=jH hp;have hTl:T.length<=10000:=by rw[hT1.length_eq];omega
     have htk:∀x∈T,TnOk x.2:=fun x hx=>(HE.out.tw x (hT1.mem_iff.1 hx)).1
     have hsl:=Ey7 enT 200 T fun x hx=>MQ7 (htk x hx)
     have HT1:=jH hT1;have HT2:=jH hT2;have Htk:=jH htk;clear hp hT1 hT2 htk;go_wp2_with(fail)
     go_loopw [92] (fun v wr=>CwR W (xtP (.slice sa T.length sc) T::ebB eb m1 m2 m3 m4::d8 eS eN m1 (j6 E)::k9 E::d8 eI eSs m2 e.ss::d8 eW eTn m3 e.ts::d8 eW eU m4 e.ar::R) wb enT b4 T v wr) (fun v _=>T.length-(intOf v).toNat)
     case atStart=>exact⟨0,rfl,Nat.zero_le _,by simpa using hS⟩
     case round=>
      clear hS;obtain⟨k,rfl,hkk,hS⟩:=hrel;by_cases hend:k=T.length
      ·rw[hend,List.take_length]at hS;have hd1:decide (k<T.length)=false:=by simp;omega
       clear hkk hend;have hb5:(b4++T.flatMap enT).length<=9200000:=by rw[jA];omega
       obtain⟨b5,hb5e⟩:∃d,b4++T.flatMap enT=d:=⟨_,rfl⟩
       rw[hb5e]at hS hb5;have Hb5:=jH hb5e;clear hb5e Htk hsl;have hna:=E7 (hS.s (d8 eW eU m4 e.ar::R));have Hna:=jH hna;clear hna;go_wp2_with(first|refine zl1 hS ?_|(with_reducible apply Gn7 (ek:=eW) (ev:=eU) hS);rfl;rfl;rfl;exact mAr;exact i8;refine frS ?_|refine zbs hS ?_;clear hS;intro bS w hS|go_at_call 41;(have hS2:St W (blk bS [.I (e.ar.length:Int)] 3::_) _:=hS);refine(aK4 wb b5 (e.ar.length:Int) bS 1 (by omega) ⟨by omega,by omega⟩ W _ _ (hS2.s (wrR wb b5::blk bS _ _::ebB eb m1 m2 m3 m4::d8 eS eN m1 (j6 E)::k9 E::d8 eI eSs m2 e.ss::d8 eW eTn m3 e.ts::d8 eW eU m4 e.ar::R))).mono ?_;clear hS hS2;rintro x w ⟨rfl,hS⟩|go_at_call 48;refine(KO7 (some m4) W _ _ hS).mono ?_;clear hS;rintro x w ⟨g2,rfl,hS⟩|go_at_call 47;refine(dr4 (K:=e.ar.map (·.1)) Hna.out (by rw[jM];omega) IZ7 HX7 (hS.s (blk g2 [.map (some m4)] 110::d8 eW eU m4 e.ar::wrR wb _::ebB eb m1 m2 m3 m4::d8 eS eN m1 (j6 E)::k9 E::d8 eI eSs m2 e.ss::d8 eW eTn m3 e.ts::R))).mono ?_;clear hS;rintro x w ⟨v2,A,rfl,hA1,hA2,hS⟩;(have hv:=hS.rowVal;obtain⟨sa2,sc2,rfl⟩:=hv);have HA1:=jH hA1;have HA2:=jH hA2;have hAl2:A.length<=10000:=(by(have h9:=hA1.length_eq;rw[jM]at h9;omega));clear hA1 hA2);have hS8:=hS.s (wrR wb _::waR (.slice sa2 A.length sc2) A::ebB eb m1 m2 m3 m4::d8 eS eN m1 (j6 E)::k9 E::d8 eI eSs m2 e.ss::d8 eW eTn m3 e.ts::d8 eW eU m4 e.ar::R);clear hS;have hS:=hS8;clear hS8;have hb6:=Ak7 (e.ar.length:Int);obtain⟨b6,hb6e⟩:∃d,b5++l6 (e.ar.length:Int)=d:=⟨_,rfl⟩
       have hb6l:b6.length<=9200010:=by rw[<-hb6e,jA];omega
       have hb6p:0<b6.length:=by rw[<-hb6e,jA];have:=EP7 (e.ar.length:Int);omega
       rw[hb6e]at hS;have Hb6:=jH hb6e;have haw:∀x∈A,cA4 x:=fun x hx=>by obtain⟨y,hy,rfl⟩:=List.mem_map.1 (HA1.out.mem_iff.1 hx);exact HE.out.aw y hy
       have Haw:=jH haw;have hsl:=Ey7 enA 18 A fun x _=>QX7 x
       clear hb6 hb6e haw;go_wp2_with(fail)
       go_loopw [141] (fun v wr=>CwR W (waR (.slice sa2 A.length sc2) A::ebB eb m1 m2 m3 m4::d8 eS eN m1 (j6 E)::k9 E::d8 eI eSs m2 e.ss::d8 eW eTn m3 e.ts::d8 eW eU m4 e.ar::R) wb enA b6 A v wr) (fun v _=>A.length-(intOf v).toNat)
       case atStart=>exact⟨0,rfl,Nat.zero_le _,by simpa using hS⟩
       case round=>
        clear hS;obtain⟨k,rfl,hkk,hS⟩:=hrel;by_cases hend:k=A.length
        ·rw[hend,List.take_length]at hS;have hd1:decide (k<A.length)=false:=by simp;omega
         clear hkk hend;obtain⟨b7,hb7e⟩:∃d,b6++A.flatMap enA=d:=⟨_,rfl⟩
         have hb7l:b7.length<=9400000:=by rw[<-hb7e,jA];omega
         have hb7p:0<b7.length:=by rw[<-hb7e,jA];omega
         rw[hb7e]at hS;have henc:bC4 e b7:=⟨T,A,HT1.out,HT2.out,HA1.out,HA2.out,by rw[<-hb7e,<-Hb6.out,<-Hb5.out,<-Hb4.out,<-Hb3.out,<-Hb2.out,<-Hb1.out,<-Hb0.out,Hcse.out,Hks.out]⟩
         have Henc:=jH henc;clear henc hb7e;go_wp2_with(first|go_at_call 50;refine(ec4 wb b7 (by omega) hb7p W _ _ hS).mono ?_;clear hS;rintro x w ⟨vo,rfl,hS⟩);go_ret;have h9:=bl4 Hp.out (hS.s (ebB eb m1 m2 m3 m4::d8 eS eN m1 (j6 E)::k9 E::d8 eI eSs m2 e.ss::d8 eW eTn m3 e.ts::d8 eW eU m4 e.ar::byR vo b7::R));exact⟨vo,b7,rfl,Henc.out,h9.swap⟩
        ·have hk1:k<A.length:=by omega
         have hd1:decide (k<A.length)=true:=by simp;omega
         obtain⟨⟨g,rfl⟩,_,_⟩:=St.rowAddr hS.drop (by omega);have hst:=AW7 enA b6 A hk1;have htl:=DQ7 enA A k;have hc:∀{K K':List HP},Take K (waR (.S g A.length sc2) A) K'->i6 K g (k*2) (whC A[k]):=fun hu=>i6.elemM (enc:=whC) Cb7 hu hk1
         have hwh:=Haw.out _ (jW hk1);generalize A[k]=x at hst hc hwh;obtain⟨x1,x2⟩:=x;simp only[whC]at hc;rw[show enA (x1,x2)=l7 [x1,x2]from rfl]at hst;obtain⟨⟨w0,w1⟩,w2,w3⟩:=hwh;simp only at w0 w1 w2 w3;obtain⟨d,hd⟩:∃d,b6++(A.take k).flatMap enA=d:=⟨_,rfl⟩
         have hdl:d.length<=9400000:=by rw[<-hd,jA];omega
         rw[hd]at hS hst;have Hst:=jH hst;clear hst hd htl Haw hend hkk hsl;go_wp2_with(first|refine zlN hS ?_ (hc:=by exact hc (by exact i8))|refine zl1 hS ?_|refine zal hS ?_;clear hS;intro bA w hS|refine zsN hS ?_;clear hS;intro w hS|refine zbs hS ?_;clear hS;intro bS w hS|go_at_call 41;(have hS2:St W (blk bS [.I x1,.I x2] 3::_) _:=hS);refine(cv4 wb d x1 x2 bS 2 (by first|omega|(rw[jA];omega)) ⟨by omega,by omega⟩ ⟨by omega,by omega⟩ W _ _ (hS2.s (wrR wb d::blk bS _ _::waR _ A::ebB eb m1 m2 m3 m4::d8 eS eN m1 (j6 E)::k9 E::d8 eI eSs m2 e.ss::d8 eW eTn m3 e.ts::d8 eW eU m4 e.ar::R))).mono ?_;clear hS hS2;rintro x w ⟨rfl,hS⟩);go_roundw
         case rel=>exact⟨k+1,rfl,hk1,by rw[Hst.out];exact hS.s _⟩
         case measure=>simp[intOf];omega
      ·have hk1:k<T.length:=by omega
       have hd1:decide (k<T.length)=true:=by simp;omega
       obtain⟨⟨g,rfl⟩,_,_⟩:=St.rowAddr hS.drop (by omega);have hst:=AW7 enT b4 T hk1;have htl:=DQ7 enT T k;have hc:∀{K K':List HP},Take K (xtP (.S g T.length sc) T) K'->i6 K g (k*8) (tnC T[k]):=fun hu=>i6.elemM (enc:=tnC) Ba7 hu hk1
       have hok:=Htk.out _ (jW hk1);generalize T[k]=x at hst hc hok;obtain⟨⟨y1,y2⟩,⟨t0,t1,t2,t3,t4,t5,t6,t7⟩⟩:=x;simp only[tnC,Tns.cells]at hc;have q1:=hok.w.1.1;have q2:=hok.w.1.2;have q3:=hok.w.2.1;have q4:=hok.w.2.2;have z1:=hok.ak;have z2:=hok.aw;have z3:=hok.tk;have z4:=hok.tw;have i0:=hok.i0;have i1:=hok.i1;have c0:=hok.c0;have c1:=hok.c1;simp only at q1 q2 q3 q4 z1 z2 z3 z4 i0 i1 c0 c1;have hen:enT ((y1,y2),⟨t0,t1,t2,t3,t4,t5,t6,t7⟩)=l7 [t0,t1]++(E5 (A7 t2)++(E5 (A7 t3)++(E5 (A7 t4)++E5 (A7 t5))))++l7 [t6,t7]:=rfl;rw[hen]at hst;have hnl:=AE7 [t0,t1];simp only[jC,List.length_nil]at hnl;obtain⟨d,hd⟩:∃d,b4++(T.take k).flatMap enT=d:=⟨_,rfl⟩
       have hdl:d.length<=9200000:=by rw[<-hd,jA];omega
       rw[hd]at hS hst;obtain⟨d5,hd5⟩:∃d5,d++l7 [t0,t1]++(E5 (A7 t2)++(E5 (A7 t3)++(E5 (A7 t4)++E5 (A7 t5))))=d5:=⟨_,rfl⟩
       have hd5l:d5.length<=9400000:=by have e1:=AS7 (A7 t2);have e2:=AS7 (A7 t3);have e3:=AS7 (A7 t4);have e4:=AS7 (A7 t5);rw[AD7]at e1 e2 e3 e4;rw[<-hd5];simp only[jA];omega
       have hst2:d5++l7 [t6,t7]=b4++(T.take (k+1)).flatMap enT:=by rw[hst,<-hd5];simp only[jS]
       have Hst:=jH hst2;have Hd5:=jH hd5;clear hst hst2 hd5 hok hen hd htl Htk hend hkk hsl
       go_wp2_with(first|refine zlN hS ?_ (hc:=by exact hc (by exact i8))|refine zl1 hS ?_|refine zal hS ?_;clear hS;intro bA w hS|refine zsN hS ?_;clear hS;intro w hS|(fail_if_success (have:=f1));(with_reducible apply Au7 hS);rfl;rfl;rfl;exact Tryz.underlying9;exact Tryz.underlying73;exact Tryz.underlying5;clear hS;intro g1 k1 w hS;have f1:Nat:=0;refine frS ?_|(have:=f1);(fail_if_success (have:=f2));(with_reducible apply Au7 hS);rfl;rfl;rfl;exact Tryz.underlying9;exact Tryz.underlying73;exact Tryz.underlying5;clear hS;intro g2 k2 w hS;have f2:Nat:=0;refine frS ?_|(have:=f2);(fail_if_success (have:=f3));(with_reducible apply Au7 hS);rfl;rfl;rfl;exact Tryz.underlying9;exact Tryz.underlying73;exact Tryz.underlying5;clear hS;intro g3 k3 w hS;have f3:Nat:=0;refine frS ?_|(have:=f3);(with_reducible apply Au7 hS);rfl;rfl;rfl;exact Tryz.underlying9;exact Tryz.underlying73;exact Tryz.underlying5;clear hS;intro g4 k4 w hS;refine frS ?_|refine zbs hS ?_;clear hS;intro bS w hS|(fail_if_success (have:=mB));go_at_call 41;(have hS2:St W (blk bS [.I t0,.I t1] 3::_) _:=hS);refine(cv4 wb d t0 t1 bS 2 (by first|omega|(rw[jA];omega)) ⟨by omega,by omega⟩ ⟨by omega,by omega⟩ W _ _ (hS2.s (wrR wb d::blk bS _ _::blk bA _ _::xtP _ T::ebB eb m1 m2 m3 m4::d8 eS eN m1 (j6 E)::k9 E::d8 eI eSs m2 e.ss::d8 eW eTn m3 e.ts::d8 eW eU m4 e.ar::R))).mono ?_;clear hS hS2;rintro x w ⟨rfl,hS⟩|(have:=mB);go_at_call 41;(have hS2:St W (blk bS [.I t6,.I t7] 3::_) _:=hS);refine(cv4 wb d5 t6 t7 bS 2 (by first|omega|(rw[jA];omega)) ⟨by omega,by omega⟩ ⟨by omega,by omega⟩ W _ _ (hS2.s (wrR wb d5::blk bS _ _::blk bA _ _::xtP _ T::ebB eb m1 m2 m3 m4::d8 eS eN m1 (j6 E)::k9 E::d8 eI eSs m2 e.ss::d8 eW eTn m3 e.ts::d8 eW eU m4 e.ar::R))).mono ?_;clear hS hS2;rintro x w ⟨rfl,hS⟩|(go_at_call 42;(have hS2:St W (blk bS [sbV g1 t2 k1,sbV g2 t3 k2,sbV g3 t4 k3,sbV g4 t5 k4] 73::_) _:=hS);refine(OB7 wb (d++l7 [t0,t1]) t2 t3 t4 t5 g1 g2 g3 g4 k1 k2 k3 k4 bS 4 (by rw[jA];omega) (by omega) (by omega) (by omega) (by omega) W _ _ (hS2.s (wrR wb _::blk bS _ _::sbR g1 t2::sbR g2 t3::sbR g3 t4::sbR g4 t5::blk bA _ _::xtP _ T::ebB eb m1 m2 m3 m4::d8 eS eN m1 (j6 E)::k9 E::d8 eI eSs m2 e.ss::d8 eW eTn m3 e.ts::d8 eW eU m4 e.ar::R))).mono ?_;clear hS hS2;rintro x w ⟨rfl,hS⟩;have mB:Nat:=0);rw[Hd5.out]at hS)
       go_roundw
       case rel=>exact⟨k+1,rfl,hk1,by rw[<-Hst.out];exact hS.s _⟩
       case measure=>simp[intOf];omega
    ·have hk1:k<cs.length:=by omega
     have hd1:decide (k<cs.length)=true:=by simp;omega
     obtain⟨⟨g,rfl⟩,_,_⟩:=St.rowAddr hS.drop (by omega);have hst:=AW7 (enS e) b2 cs hk1;have htl:=DQ7 (enS e) cs k;have hget:(cs.map eZ)[k]? = some (.I cs[k]):=by rw[List.getElem?_map,jG hk1];rfl
     obtain⟨q,r,hgl,hwh,hro⟩:=Hcs.out _ (jW hk1);generalize cs[k]=c1 at hst hget hgl hwh;have hc:∀{K K':List HP},Take K (zrR (.S g cs.length sc2) cs) K'->i7 K g k (.I c1):=fun hu=>i7.rowM hu hget
     obtain⟨⟨w0,w1⟩,w2,w3⟩:=hwh;simp only at w0 w1 w2 w3;have hens:enS e c1=l7 [c1,q]++E5 (rpB r):=by unfold enS;rw[hgl];rfl
     rw[hens]at hst;obtain⟨r0,r1,⟨r2,r3,r4,r5⟩⟩:=r;have hrl:=FG7 ⟨r0,r1,⟨r2,r3,r4,r5⟩⟩;have hnl:=AE7 [c1,q];simp only[jC,List.length_nil]at hnl;obtain⟨d,hd⟩:∃d,b2++(cs.take k).flatMap (enS e)=d:=⟨_,rfl⟩
     have hdl:d.length<=7100000:=by rw[<-hd,jA];omega
     rw[hd]at hS hst;have Hst:=jH hst;have Hr:=jH hro;clear hst hget hro hens hd htl Hcs hend hkk hsl;go_wp2_with(first|refine zl1 hS ?_ (hc:=by exact hc (by exact i8))|refine zl1 hS ?_|(with_reducible apply Cy7 (ek:=eI) (ev:=eSs) (k:=c1) hS);rfl;rfl;rfl;rfl;exact i8;exact mS;exact kEi;exact zS;exact hgl;refine frS ?_|refine zal hS ?_;clear hS;intro bA w hS|refine zsN hS ?_;clear hS;intro w hS|refine zlN hS ?_ (vs:=[.I r0,.I r1,.I r2,.I r3,.I r4,.I r5]) (hc:=by exact i6.here rfl)|go_at_call 46;refine(IW7 Hr.out W _ _ hS).mono ?_;clear hS;rintro x w ⟨rv,rfl,hS⟩;(have hv:=hS.rowVal;obtain⟨ra,rc,rfl⟩:=hv)|refine zbs hS ?_;clear hS;intro bS w hS|go_at_call 41;(have hS2:St W (blk bS [.I c1,.I q] 3::_) _:=hS);refine(cv4 wb d c1 q bS 2 (by first|omega|(rw[jA];omega)) ⟨by omega,by omega⟩ ⟨by omega,by omega⟩ W _ _ (hS2.s (wrR wb d::blk bS _ _::byR _ _::zrR _ cs::ebB eb m1 m2 m3 m4::d8 eS eN m1 (j6 E)::k9 E::d8 eI eSs m2 e.ss::d8 eW eTn m3 e.ts::d8 eW eU m4 e.ar::R))).mono ?_;clear hS hS2;rintro x w ⟨rfl,hS⟩|go_at_call 42;(have hS2:St W (blk bS [.slice ra (rpB ⟨r0,r1,⟨r2,r3,r4,r5⟩⟩).length rc] 73::_) _:=hS);refine(Oz7 wb (d++l7 [c1,q]) (rpB ⟨r0,r1,⟨r2,r3,r4,r5⟩⟩) ra rc bS 1 (by rw[jA];omega) (by omega) W _ _ (hS2.s (wrR wb _::blk bS _ _::byR _ _::zrR _ cs::ebB eb m1 m2 m3 m4::d8 eS eN m1 (j6 E)::k9 E::d8 eI eSs m2 e.ss::d8 eW eTn m3 e.ts::d8 eW eU m4 e.ar::R))).mono ?_;clear hS hS2;rintro x w ⟨rfl,hS⟩);go_roundw
     case rel=>exact⟨k+1,rfl,hk1,by rw[Hst.out,<-jS];exact hS.s _⟩
     case measure=>simp[intOf];omega
  ·have hk1:k<ks.length:=by omega
   have hd1:decide (k<ks.length)=true:=by simp;omega
   obtain⟨⟨g,rfl⟩,_,_⟩:=St.rowAddr hS.drop (by omega);have hst:=AW7 (enK e) b0 ks hk1;have htl:=DQ7 (enK e) ks k;have hget:(ks.map eS)[k]? = some (.string ks[k]):=by rw[List.getElem?_map,jG hk1];rfl
   obtain⟨vb,V,hgl,hpp,hat,hok,hsz,hmy,hl32⟩:=Hkv.out _ (jW hk1);generalize ks[k]=k1 at hst hget hgl hpp hat hsz;have hc:∀{K K':List HP},Take K (cw4 (.S g ks.length sc) ks) K'->i7 K g k (.string k1):=fun hu=>i7.rowM hu hget
   have hev:=MP7 (n:=V.n) hok.w hmy hl32;have hpl:=hok.w.len;have henk:enK e k1=E5 (A7 k1)++E5 (av4 V.ps V.L V.n):=by unfold enK;rw[hat]
   rw[henk]at hst;obtain⟨d,hd⟩:∃d,b0++(ks.take k).flatMap (enK e)=d:=⟨_,rfl⟩
   have hdl:d.length<=6000010:=by rw[<-hd,jA];omega
   rw[hd]at hS hst;have hS1:=bN4 (aW4 hpp (hS.s (k9 E::wrR wb d::cw4 (.S g ks.length sc) ks::ebB eb m1 m2 m3 m4::d8 eS eN m1 (j6 E)::d8 eI eSs m2 e.ss::d8 eW eTn m3 e.ts::d8 eW eU m4 e.ar::R)));obtain⟨vm,vk,hS2⟩:=aT4 hS1;clear hS hS1;have hS:=hS2.s (wrR wb d::blk vb [.map (some vm),.P vk,.I V.n] 215::d8 eS eP vm V.ps::p8 vk V.L V.n::k9 (j5 E k1)::cw4 (.S g ks.length sc) ks::ebB eb m1 m2 m3 m4::d8 eS eN m1 (j6 E)::d8 eI eSs m2 e.ss::d8 eW eTn m3 e.ts::d8 eW eU m4 e.ar::R);clear hS2;have Hst:=jH hst;have Hpp:=jH hpp;have Hok:=jH hok;clear hst hget hpp hat hok hmy hl32 henk hd htl Hkv hend hkk
   go_wp2_with(first|refine zl1 hS ?_ (hc:=by exact hc (by exact i8))|(with_reducible apply Au7 hS);rfl;rfl;rfl;exact Tryz.underlying9;exact Tryz.underlying73;exact Tryz.underlying5;clear hS;intro g9 c9 w hS;refine frS ?_|refine zl1 hS ?_|(with_reducible apply Cy7 (ek:=eS) (ev:=eN) (k:=k1) hS);rfl;rfl;rfl;rfl;exact i8;exact mV;exact kS;exact zV;exact hgl;refine frS ?_|go_at_call 43;refine(es4 vb vm vk V.ps V.L V.n Hok.out.ok Hok.out.w (by omega) Hok.out.n0 (by have:=Hok.out.n1;omega) W _ _ (hS.s (blk vb _ _::d8 eS eP vm V.ps::p8 vk V.L V.n::wrR wb d::sbR g9 k1::k9 (j5 E k1)::cw4 _ ks::ebB eb m1 m2 m3 m4::d8 eS eN m1 (j6 E)::d8 eI eSs m2 e.ss::d8 eW eTn m3 e.ts::d8 eW eU m4 e.ar::R))).mono ?_;clear hS;rintro x w ⟨vv,rfl,hS⟩;(have hv:=hS.rowVal;obtain⟨va,vc,rfl⟩:=hv);(have hS5:St W (byR _ (av4 V.ps V.L V.n)::blk vb [.map (some vm),.P vk,.I V.n] 215::d8 eS eP vm V.ps::p8 vk V.L V.n::_) _:=hS);clear hS;(have hS:=hS5);clear hS5|refine zbs hS ?_;clear hS;intro bS w hS|go_at_call 42;(have hS2:St W (blk bS [sbV g9 k1 c9,.slice va (av4 V.ps V.L V.n).length vc] 73::_) _:=hS);refine(OA7 wb d k1 g9 c9 (av4 V.ps V.L V.n) va vc bS 2 (by omega) (by omega) (by omega) W _ _ (hS2.s (wrR wb d::blk bS _ _::sbR g9 k1::byR _ (av4 V.ps V.L V.n)::blk vb _ _::d8 eS eP vm V.ps::p8 vk V.L V.n::k9 (j5 E k1)::cw4 _ ks::ebB eb m1 m2 m3 m4::d8 eS eN m1 (j6 E)::d8 eI eSs m2 e.ss::d8 eW eTn m3 e.ts::d8 eW eU m4 e.ar::R))).mono ?_;clear hS hS2;rintro x w ⟨rfl,hS⟩);have h1:=ax4 (V:=V) (hS.s (blk vb [.map (some vm),.P vk,.I V.n] 215::d8 eS eP vm V.ps::p8 vk V.L V.n::k9 (j5 E k1)::wrR wb (d++(E5 (A7 k1)++E5 (av4 V.ps V.L V.n)))::cw4 (.S g ks.length sc) ks::ebB eb m1 m2 m3 m4::d8 eS eN m1 (j6 E)::d8 eI eSs m2 e.ss::d8 eW eTn m3 e.ts::d8 eW eU m4 e.ar::R))
   have h2:=aW4 Hpp.out.symm (cl4 (x:=(k1,(vb,V))) h1);go_roundw
   case rel=>exact⟨k+1,rfl,hk1,by rw[Hst.out];exact h2.s _⟩
   case measure=>simp[intOf];omega
theorem Ja7{eb:Nat}{e:Ec}{n:Nat}(hE:EnL e n)(hn:n<=600)(W w:World)(R:List HP)(hS:St W (ecP eb e::R) w):
  Calls Tryz.prog 22 #[.P eb] w fun x w'=>∃v d,x=.returned v/\bC4 e d/\St W (byR v d::ecP eb e::R) w':=
 MR7 (OD7 hE (MD7 hS) hn) W w R hS
def he4(e:Ec)(o:Opn):Prop:=A5 o=false\/∃q r,j8 e.ss o.client=some (q,r)/\o.seq<=q
theorem DR7{a b:ByteArray}(h:a.toList=b.toList):a=b:=by refine Dy7 ?_;rwa [Lib.toList_data,Lib.toList_data]at h
theorem Pk7(o q:Opn):o.eqB q=true↔o=q:=by
 obtain⟨a1,a2,a3,a4,a5,a6,a7,a8,a9,a10,a11,a12⟩:=o;obtain⟨b1,b2,b3,b4,b5,b6,b7,b8,b9,b10,b11,b12⟩:=q;unfold Opn.eqB;simp only[jB,decide_eq_true_eq];constructor
 ·rintro⟨rfl,rfl,rfl,h4,h5,h6,h7,rfl,rfl,rfl,rfl,rfl⟩;rw[DR7 h4,DR7 h5,DR7 h6,DR7 h7]
 ·intro h
  injection h
  subst_vars;exact⟨rfl,rfl,rfl,rfl,rfl,rfl,rfl,rfl,rfl,rfl,rfl,rfl⟩
instance decOpn : DecidableEq Opn := fun o q => decidable_of_iff _ (Pk7 o q)
theorem Qh7(o q:Opn):o.eqB q=decide (o=q):=by rw[Bool.eq_iff_iff,Pk7,decide_eq_true_eq]
def s7:List Opn->Ec->List Rpl
 | [],_=>[]
 | o::l,e=>(C5 e o).1::s7 l (C5 e o).2.2
theorem AZ7:∀(xs:List Opn) (e:Ec),(s7 xs e).length=xs.length
 | [],_=>rfl
 | o::l,e=>by rw[s7,jC,jC,AZ7 l]
theorem HY7:∀(l m:List Opn) (e:Ec),s7 (l++m) e=s7 l e++s7 m (K7 l e)
 | [],_,_=>rfl
 | o::l,m,e=>by rw[jK,s7,s7,HY7 l m];rfl
theorem GO7{xs:List Opn}{i:Nat}(h:i<xs.length)(e:Ec):s7 (xs.take (i+1)) e=s7 (xs.take i) e++[(C5 (K7 (xs.take i) e) xs[i]).1]:=by rw[List.take_succ_eq_append_getElem h,HY7,s7,s7]
theorem JX7:∀(xs:List Opn) {i:Nat} (h:i<xs.length) (e:Ec),(s7 xs e)[i]? = some (C5 (K7 (xs.take i) e) xs[i]).1
 | o::l,0,_,e=>rfl
 | o::l,i+1,h,e=>by rw[s7,List.getElem?_cons_succ,JX7 l (Nat.lt_of_succ_lt_succ h)];rfl
def cx4(xs:List Opn)(i:Nat)(h:i<xs.length):Bool:=(C5 (K7 (xs.take i) ec0) xs[i]).2.1
def TwI(xs:List Opn)(n:Int):Prop:=(n = -1/\∀i (h:i<xs.length),cx4 xs i h=true)\/∃i:Nat,n=i/\∃h:i<xs.length,cx4 xs i h=false/\∀j (hj:j<i),cx4 xs j (by omega)=true
theorem JY7{xs:List Opn}{n m:Int}(h1:TwI xs n)(h2:TwI xs m):n=m:=by
 rcases h1 with ⟨e1,h1⟩|⟨i,e1,hi,d1,h1⟩ <;> rcases h2 with ⟨e2,h2⟩|⟨k,e2,hk,d2,h2⟩
 ·omega
 ·rw[h1 k hk]at d2;cases d2
 ·rw[h2 i hi]at d1;cases d1
 ·have:i=k:=by
   rcases Nat.lt_trichotomy i k with h|h|h
   ·rw[h2 i h]at d1;cases d1
   ·exact h
   ·rw[h1 k h]at d2;cases d2
  omega
def de4:List Opn->List Rpl->Opn->Option Rpl
 | x::xs,r::rs,o=>if x=o then some r else de4 xs rs o
 | _,_,_=>none
structure Ans where
 op:Opn
 rep:Rpl
def okA(xs:List Opn)(rs:List Rpl)(a:Ans):Bool:=match de4 xs rs a.op with
 | some r=>r.eqB a.rep
 | none=>false
def L5(ok:Ans->Bool):List Ans->Nat->Int
 | [],_ => -1
 | a::l,n=>if ok a=true then L5 ok l (n+1)else n
theorem Eo7(ok:Ans->Bool):∀(l m:List Ans) (n:Nat),(∀a∈l,ok a=true)->L5 ok (l++m) n=L5 ok m (n+l.length)
 | [],m,n,_=>rfl
 | a::l,m,n,h=>by
  rw[jK,L5,if_pos (h a (List.mem_cons_self ..)),Eo7 ok l m (n+1) fun b hb=>h b (List.mem_cons_of_mem _ hb),jC]
  congr 1
  omega
theorem KP7{ok:Ans->Bool}{l:List Ans}(h:∀a∈l,ok a=true)(n:Nat):L5 ok l n = -1:=by have:=Eo7 ok l [] n h;rw[List.append_nil]at this;rw[this];rfl
def hq4(xs:List Opn):List Ans:=(xs.zip (s7 xs ec0)).map fun p=>⟨p.1,p.2⟩
structure SameE(e e':Ec):Prop where
 v:e.vs.Perm e'.vs
 s:e.ss.Perm e'.ss
 t:e.ts.Perm e'.ts
 a:e.ar.Perm e'.ar
theorem OE7{e e':Ec}{n:Nat}(h:EnL e n)(s:SameE e e'):EnL e' n:=
 ⟨⟨fun x hx=>h.en.ok x (s.v.mem_iff.2 hx),fun x hx=>h.en.vk x (s.v.mem_iff.2 hx),fun x hx=>h.en.sw x (s.s.mem_iff.2 hx),fun x hx=>h.en.sr x (s.s.mem_iff.2 hx),fun x hx=>h.en.tw x (s.t.mem_iff.2 hx),fun x hx=>h.en.aw x (s.a.mem_iff.2 hx),
  by rw[<-s.v.length_eq];exact h.en.lv,by rw[<-s.s.length_eq];exact h.en.ls,by rw[<-s.t.length_eq];exact h.en.lt,by rw[<-s.a.length_eq];exact h.en.la⟩,(s.v.map _).nodup_iff.1 h.nd,by rw[<-HW7 s.v];exact h.ln⟩
theorem KQ7{e e':Ec}{d:List Int}(hv:(e.vs.map (·.1)).Nodup)(hs:(e.ss.map (·.1)).Nodup)(s:SameE e e')(h:bC4 e d):bC4 e' d:=by
 obtain⟨T,A,h1,h2,h3,h4,rfl⟩:=h;refine⟨T,A,h1.trans s.t,h2,h3.trans (s.a.map _),h4,?_⟩;have e1:ksE e'=ksE e:=by unfold ksE;exact FH7 (s.v.symm.map _)
 have e2:∀k,enK e' k=enK e k:=fun k=>by
  have:atV e' k=atV e k:=by unfold atV;rw[AB7 hv s.v k]
  unfold enK;rw[this]
 have e3:∀c,enS e' c=enS e c:=fun c=>by unfold enS;rw[AB7 hs s.s c]
 have e4:aq4 (e'.ss.map (·.1))=aq4 (e.ss.map (·.1)):=Gh7 (s.s.symm.map _);rw[e1,e4,s.v.length_eq,s.s.length_eq,s.t.length_eq,s.a.length_eq,funext e2,funext e3]
theorem OF7{ν:Type}{l:List (Int×ν)}(h:Asc ltI l):aq4 (l.map (·.1))=l.map (·.1):=by
 have hp:∀m:List Int,(aq4 m).Pairwise fun x y=>decide (x<=y)=true:=fun m=>List.pairwise_mergeSort (fun a b c h1 h2=>by simp only[decide_eq_true_eq]at *;omega) (fun a b=>by simp only[Bool.or_eq_true,decide_eq_true_eq];omega) m
 refine List.Perm.eq_of_pairwise (fun a b _ _ h1 h2=>by simp only[decide_eq_true_eq]at h1 h2;omega) (hp _) ?_ (CG7 _);exact List.pairwise_map.2 (List.Pairwise.imp (fun{a b} h=>by simp only[ltI,decide_eq_true_eq]at h ⊢;omega) h)
def ee4(d:Ec):List Int:=l6 d.vs.length++(d.vs.map (·.1)).flatMap (enK d)++l6 d.ss.length++(d.ss.map (·.1)).flatMap (enS d)++l6 d.ts.length++d.ts.flatMap enT++l6 d.ar.length++(d.ar.map (·.1)).flatMap enA
theorem SimE.same{d e:Ec}(h:SimE d e):SameE d e:=⟨h.v,h.s,h.t,h.a⟩
theorem Qi7{d e:Ec}(h:SimE d e):bC4 e (ee4 d):=by refine KQ7 h.vn h.sn h.same ⟨d.ts,d.ar.map (·.1),List.Perm.refl _,h.ta,List.Perm.refl _,(List.pairwise_map (f:=fun x:(Int×Int)×Unit=>x.1) (R:=fun x y=>ltW x y=true)).2 h.aa,?_⟩;have e1:ksE d=d.vs.map (·.1):=ML7 h.va;rw[e1,OF7 h.sa];rfl
theorem Qj7{d e:Ec}{n:Nat}(h:EnL e n)(s:SimE d e):EnL d n:=OE7 h ⟨s.v.symm,s.s.symm,s.t.symm,s.a.symm⟩
theorem OG7{d e:Ec}(h:aU4 e)(s:SimE d e):aU4 d:=fun x hx=>h x (s.v.mem_iff.1 hx)
structure EnT(e:Ec)(n:Nat):Prop where
 en:EnL e n
 tt:n<=400->∀k,Kx k->cz4 e k<=n*1048576
end Go.Proofs.YtienbkdjkjbelaaGreat
end
