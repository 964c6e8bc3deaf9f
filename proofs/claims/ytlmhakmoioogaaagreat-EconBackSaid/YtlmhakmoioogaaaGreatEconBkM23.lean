/-
  An economy as bytes, the program's.
-/
import Derived.Test.YtlmhakmoioogaaaGreatEconBkM22
set_option maxHeartbeats 16000000
set_option maxRecDepth 100000
set_option linter.unusedSimpArgs false
set_option linter.unusedVariables false
section
namespace Go.Proofs.YtlmhakmoioogaaaGreat
open Go.RowKit Go.Sl
def enS(e:Ec)(c:Int):List Int:=r7 [c,((m7 e.ss c).getD (0,rp0)).1]++F7 (rpB ((m7 e.ss c).getD (0,rp0)).2)
def enT(x:(Int×Int)×Tns):List Int:=r7 [x.2.client,x.2.seq]++(F7 (D6 x.2.ak)++(F7 (D6 x.2.aw)++(F7 (D6 x.2.tk)++F7 (D6 x.2.tw))))++r7 [x.2.item,x.2.cnt]
def enA(k:Int×Int):List Int:=r7 [k.1,k.2]
def bn4(e:Ec)(d:List Int):Prop:=∃(T:List ((Int×Int)×Tns)) (A:List (Int×Int)),T.Perm e.ts/\Asc ltW T/\A.Perm (e.ar.map (·.1))/\A.Pairwise (fun x y=>ltW x y=true) /\
 d=m6 e.vs.length++(ksE e).flatMap (enK e)++m6 e.ss.length++(aG4 (e.ss.map (·.1))).flatMap (enS e)++m6 e.ts.length++T.flatMap enT++m6 e.ar.length++A.flatMap enA
theorem Ix7{e:Ec}{d d':List Int}(h:bn4 e d)(h':bn4 e d'):d=d':=by
 obtain⟨T,A,h1,h2,h3,h4,rfl⟩:=h;obtain⟨T',A',h1',h2',h3',h4',rfl⟩:=h';rw[Px7 Aw7 h2 h2' (h1.trans h1'.symm)]
 have:A=A':=List.Perm.eq_of_pairwise (fun a b _ _ g1 g2=>by
  have:=Aw7.tr _ _ _ g1 g2;rw[Aw7.irr]at this
  cases this) h4 h4' (h3.trans h3'.symm)
 rw[this]
theorem CY7{α:Type}(f:α->List Int)(c:Nat)(xs:List α)(h:∀x∈xs,(f x).length<=c):(xs.flatMap f).length<=c*xs.length:=by
 induction xs with
 | nil=>simp
 | cons x xs ih=>
  have h1:=h x (List.mem_cons_self ..);have h2:=ih fun y hy=>h y (List.mem_cons_of_mem _ hy)
  rw[List.flatMap_cons,jA,jC,Nat.mul_succ];omega
theorem SV7(e:Ec)(c:Int):(enS e c).length<=100:=by have h1:=AM7 [c,((m7 e.ss c).getD (0,rp0)).1];have h2:=Bb7 (rpB ((m7 e.ss c).getD (0,rp0)).2);have h3:=DT7 ((m7 e.ss c).getD (0,rp0)).2;unfold enS;rw[jA];simp only[jC,List.length_nil]at h1;omega
theorem Ms7{x:(Int×Int)×Tns}(h:TnOk x.2):(enT x).length<=200:=by have h1:=AM7 [x.2.client,x.2.seq];have h2:=AM7 [x.2.item,x.2.cnt];have e1:=Bb7 (D6 x.2.ak);have e2:=Bb7 (D6 x.2.aw);have e3:=Bb7 (D6 x.2.tk);have e4:=Bb7 (D6 x.2.tw);rw[Ay7]at e1 e2 e3 e4;have:=h.ak;have:=h.aw;have:=h.tk;have:=h.tw;unfold enT;simp only[jA];simp only[jC,List.length_nil]at h1 h2;omega
theorem SW7(k:Int×Int):(enA k).length<=18:=by have h1:=AM7 [k.1,k.2];simp only[jC,List.length_nil]at h1;exact h1
structure VkOk(V:Vs):Prop where
 ok:N5 V.ps
 w:PsW V.ps 60000
 n0:1<=V.n
 n1:V.n<=1099511627777
structure EncOk(e:Ec):Prop where
 nd:(e.vs.map (·.1)).Nodup
 vk:∀x∈e.vs,x.1.size<=16
 ok:∀x∈e.vs,VkOk x.2
 sw:∀x∈e.ss,cR4 (x.1,x.2.1)
 sr:∀x∈e.ss,RpOk x.2.2
 tw:∀x∈e.ts,TnOk x.2/\x.1=(x.2.client,x.2.seq)
 aw:∀x∈e.ar,cR4 x.1
 lv:e.vs.length<=10000
 ls:e.ss.length<=10000
 lt:e.ts.length<=10000
 la:e.ar.length<=10000
 lk:((ksE e).flatMap (enK e)).length<=6000000
theorem Mt7{e:Ec}{n:Nat}(h:EnL e n)(he:aQ4 e)(hn:n<=600):EncOk e:=
 ⟨h.nd,h.en.vk,fun x hx=>⟨(h.en.ok x hx).ok,Ap7 (h.en.ok x hx).w (by omega),(h.en.ok x hx).n0,by have:=(h.en.ok x hx).n1;omega⟩,h.en.sw,h.en.sr,h.en.tw,h.en.aw,Nat.le_trans h.en.lv (by omega),Nat.le_trans h.en.ls (by omega),Nat.le_trans h.en.lt (by omega),Nat.le_trans h.en.la (by omega),PQ7 h he hn⟩
abbrev zrR(v:Value)(l:List Int):HP:=row v 1 3 l.length (l.map eZ)
abbrev waR(v:Value)(l:List (Int×Int)):HP:=row v 2 94 l.length (l.flatMap whC)
theorem JY7{eb:Nat}{e:Ec}(hE:EncOk e)(W w:World)(R:List HP)(hS:St W (ecP eb e::R) w):
  Calls Tryz.prog 27 #[.P eb] w fun x w'=>∃v d,x=.returned v/\bn4 e d/\St W (byR v d::ecP eb e::R) w':=by
 have hEach:=DS7 hS;have hkl:=hE.lk;have hlv:=hE.lv;have hls:=hE.ls;have hlt:=hE.lt;have hla:=hE.la;obtain⟨m1,m2,m3,m4,E,hp,hnd,hS0⟩:=av4 hS;have hS1:=G6 hS0;clear hS hS0;have hS:=hS1;clear hS1;have hEl:(j6 E).length=e.vs.length:=by have h1:=hp.length_eq;unfold r6 at h1;unfold j6;rw[jM]at h1 ⊢;exact h1
 have HEl:=jH hEl;have HE:=jH hE;have HEach:=jH hEach;have Hp:=jH hp;have hpl:(j6 E).length<=10000:=by omega
 have hb0:=Ak7 ((j6 E).length:Int);clear hEl hE hEach hp hnd;go_enter Tryz.func27,Tryz.ntmps27;go_wp2_with(first|refine zal hS ?_;clear hS;intro wb w hS|refine zl1 hS ?_|(with_reducible apply HR7 (ek:=eS) (ev:=eN) hS);rfl;rfl;rfl;exact mV;exact j5;refine frS ?_|refine zbs hS ?_;clear hS;intro bS w hS|go_at_call 65;refine(bq4 wb [] ((j6 E).length:Int) bS 1 (by simp) ⟨by omega,by omega⟩ W _ _ (eK4 (hS.s (blk wb _ _::blk bS _ _::ebB eb m1 m2 m3 m4::d8 eS eN m1 (j6 E)::m9 E::d8 eI eSs m2 e.ss::d8 eW eTn m3 e.ts::d8 eW eU m4 e.ar::R)))).mono ?_;clear hS;rw[jN];rintro x w ⟨rfl,hS⟩);have hS9:=S8 Hp.out (hS.s (ebB eb m1 m2 m3 m4::d8 eS eN m1 (j6 E)::m9 E::d8 eI eSs m2 e.ss::d8 eW eTn m3 e.ts::d8 eW eU m4 e.ar::wrR wb _::R));rw[HEl.out]at hS9;clear hS;refine(JV7 (fun x hx=>by have:=HE.out.vk x hx;unfold maxLen;omega) (by omega) W _ _ hS9).mono ?_;clear hS9 HEl Hp hpl hb0;rintro x w ⟨v,rfl,hS8⟩;obtain⟨sa,sc,rfl⟩:=hS8.rowVal;obtain⟨m1,m2,m3,m4,E,hp,hnd,hS7⟩:=av4 hS8.swap;have hS6:=G6 hS7;clear hS8 hS7;have hS:=hS6.s (wrR wb _::bs4 (.slice sa (ksE e).length sc) (ksE e)::ebB eb m1 m2 m3 m4::d8 eS eN m1 (j6 E)::m9 E::d8 eI eSs m2 e.ss::d8 eW eTn m3 e.ts::d8 eW eU m4 e.ar::R);clear hS6
 have hkv:∀k∈ksE e, ∃vb V,m7 (j6 E) k=some vb/\E.Perm ((k,(vb,V))::j9 E k)/\atV e k=V/\VkOk V/\k.size<=16/\(∀o∈V.L,MayP o)/\V.L.length<=32:=by
  intro k hk;obtain⟨x,hx,rfl⟩:=List.mem_map.1 ((Ax7 _).mem_iff.1 hk);obtain⟨y,hy,rfl⟩:=List.mem_map.1 (hp.mem_iff.2 hx);have h4:m7 E y.1=some y.2:=Br7 hnd hy;refine⟨y.2.1,y.2.2,?_,BB7 hnd h4,?_,HE.out.ok _ hx,HE.out.vk _ hx,(HEach.out _ hx).1,(HEach.out _ hx).2⟩
  ·rw[CT7,h4];rfl
  ·rw[Ip7 hnd hp];unfold vAt;rw[h4];rfl
 have hkn:(ksE e).length<=10000:=by rw[Iw7];omega
 generalize hkse:ksE e=ks at *;have Hks:=jH hkse;clear hkse;have Hkv:=jH hkv;have Hp:=jH hp;clear hkv hp hnd;have hb0:=Ak7 (e.vs.length:Int);obtain⟨b0,hb0e⟩:∃d,m6 (e.vs.length:Int)=d:=⟨_,rfl⟩
 rw[hb0e]at hS hb0;have Hb0:=jH hb0e;clear hb0e;go_wp2_with(fail)
 go_loopw [27] (fun v wr=>CwR W (bs4 (.slice sa ks.length sc) ks::ebB eb m1 m2 m3 m4::d8 eS eN m1 (j6 E)::m9 E::d8 eI eSs m2 e.ss::d8 eW eTn m3 e.ts::d8 eW eU m4 e.ar::R) wb (enK e) b0 ks v wr) (fun v _=>ks.length-(intOf v).toNat)
 case atStart=>exact⟨0,rfl,Nat.zero_le _,by simpa using hS⟩
 case round=>
  clear hS;obtain⟨k,rfl,hkk,hS⟩:=hrel;by_cases hend:k=ks.length
  ·rw[hend,List.take_length]at hS;have hd1:decide (k<ks.length)=false:=by simp;omega
   clear hkk hend;have hb1:(b0++ks.flatMap (enK e)).length<=6000010:=by rw[jA];omega
   obtain⟨b1,hb1e⟩:∃d,b0++ks.flatMap (enK e)=d:=⟨_,rfl⟩
   rw[hb1e]at hS hb1;have Hb1:=jH hb1e;clear hb1e Hkv hkl hkn;go_wp2_with(first|refine zl1 hS ?_|(with_reducible apply HR7 (ek:=eI) (ev:=eSs) hS);rfl;rfl;rfl;exact mS;exact j5;refine frS ?_|refine zbs hS ?_;clear hS;intro bS w hS|go_at_call 65;(have hS2:St W (blk bS [.I (e.ss.length:Int)] 3::_) _:=hS);refine(bq4 wb b1 (e.ss.length:Int) bS 1 (by omega) ⟨by omega,by omega⟩ W _ _ (hS2.s (wrR wb b1::blk bS _ _::ebB eb m1 m2 m3 m4::d8 eS eN m1 (j6 E)::m9 E::d8 eI eSs m2 e.ss::d8 eW eTn m3 e.ts::d8 eW eU m4 e.ar::R))).mono ?_;clear hS hS2;rintro x w ⟨rfl,hS⟩|go_at_call 69;refine(Ns7 (some m2) W _ _ hS).mono ?_;clear hS;rintro x w ⟨g2,rfl,hS⟩|go_at_call 68;refine(fi4 (K:=e.ss.map (·.1)) (by rw[jM];omega) KX7 JR7 (hS.s (blk g2 [.map (some m2)] 80::d8 eI eSs m2 e.ss::wrR wb _::ebB eb m1 m2 m3 m4::d8 eS eN m1 (j6 E)::m9 E::d8 eW eTn m3 e.ts::d8 eW eU m4 e.ar::R))).mono ?_;clear hS;rintro x w ⟨v2,rfl,hS⟩;rw[<-EO7 (e.ss.map (·.1))]at hS;(have hv:=hS.rowVal;obtain⟨sa2,sc2,rfl⟩:=hv));have hns:=K8 (hS.s (d8 eI eSs m2 e.ss::R));have hcs:∀c∈aG4 (e.ss.map (·.1)), ∃q r,m7 e.ss c=some (q,r)/\cR4 (c,q)/\RpOk r:=by intro c hc;obtain⟨x,hx,rfl⟩:=List.mem_map.1 ((Dn7 _).mem_iff.1 hc);exact⟨x.2.1,x.2.2,Br7 hns hx,HE.out.sw x hx,HE.out.sr x hx⟩
   have hcl:(aG4 (e.ss.map (·.1))).length<=10000:=by rw[EO7,jM];omega
   have hSz:=hS.s (wrR wb _::zrR (.slice sa2 (aG4 (e.ss.map (·.1))).length sc2) (aG4 (e.ss.map (·.1)))::ebB eb m1 m2 m3 m4::d8 eS eN m1 (j6 E)::m9 E::d8 eI eSs m2 e.ss::d8 eW eTn m3 e.ts::d8 eW eU m4 e.ar::R);clear hS;have hS:=hSz;clear hSz hns;generalize hcse:aG4 (e.ss.map (·.1))=cs at *;have Hcse:=jH hcse;have Hcs:=jH hcs;have hb2:=Ak7 (e.ss.length:Int);obtain⟨b2,hb2e⟩:∃d,b1++m6 (e.ss.length:Int)=d:=⟨_,rfl⟩
   have hb2l:b2.length<=6000020:=by rw[<-hb2e,jA];omega
   rw[hb2e]at hS;have Hb2:=jH hb2e;have hsl:=CY7 (enS e) 100 cs fun c _=>SV7 e c
   clear hcse hcs hb2 hb2e;go_wp2_with(fail)
   go_loopw [57] (fun v wr=>CwR W (zrR (.slice sa2 cs.length sc2) cs::ebB eb m1 m2 m3 m4::d8 eS eN m1 (j6 E)::m9 E::d8 eI eSs m2 e.ss::d8 eW eTn m3 e.ts::d8 eW eU m4 e.ar::R) wb (enS e) b2 cs v wr) (fun v _=>cs.length-(intOf v).toNat)
   case atStart=>exact⟨0,rfl,Nat.zero_le _,by simpa using hS⟩
   case round=>
    clear hS;obtain⟨k,rfl,hkk,hS⟩:=hrel;by_cases hend:k=cs.length
    ·rw[hend,List.take_length]at hS;have hd1:decide (k<cs.length)=false:=by simp;omega
     clear hkk hend;have hb3:(b2++cs.flatMap (enS e)).length<=7100000:=by rw[jA];omega
     obtain⟨b3,hb3e⟩:∃d,b2++cs.flatMap (enS e)=d:=⟨_,rfl⟩
     rw[hb3e]at hS hb3;have Hb3:=jH hb3e;clear hb3e Hcs hsl;go_wp2_with(first|refine zl1 hS ?_|(with_reducible apply HR7 (ek:=eW) (ev:=eTn) hS);rfl;rfl;rfl;exact mT;exact j5;refine frS ?_|refine zbs hS ?_;clear hS;intro bS w hS|go_at_call 65;(have hS2:St W (blk bS [.I (e.ts.length:Int)] 3::_) _:=hS);refine(bq4 wb b3 (e.ts.length:Int) bS 1 (by omega) ⟨by omega,by omega⟩ W _ _ (hS2.s (wrR wb b3::blk bS _ _::ebB eb m1 m2 m3 m4::d8 eS eN m1 (j6 E)::m9 E::d8 eI eSs m2 e.ss::d8 eW eTn m3 e.ts::d8 eW eU m4 e.ar::R))).mono ?_;clear hS hS2;rintro x w ⟨rfl,hS⟩);have hb4:=Ak7 (e.ts.length:Int);obtain⟨b4,hb4e⟩:∃d,b3++m6 (e.ts.length:Int)=d:=⟨_,rfl⟩
     have hb4l:b4.length<=7100010:=by rw[<-hb4e,jA];omega
     rw[hb4e]at hS;have Hb4:=jH hb4e;clear hb4 hb4e;have hS9:=S8 Hp.out (hS.s (ebB eb m1 m2 m3 m4::d8 eS eN m1 (j6 E)::m9 E::d8 eI eSs m2 e.ss::d8 eW eTn m3 e.ts::d8 eW eU m4 e.ar::wrR wb b4::R));clear hS;refine(EE7 (by omega) W _ _ hS9).mono ?_;clear hS9 Hp;rintro x w ⟨v,T,rfl,hT1,hT2,hS8⟩;obtain⟨sa,sc,rfl⟩:=hS8.rowVal;obtain⟨m1,m2,m3,m4,E,hp,hnd,hS7⟩:=av4 hS8.swap;have hS6:=G6 hS7;clear hS8 hS7;have hS:=hS6.s (wrR wb b4::xtP (.slice sa T.length sc) T::ebB eb m1 m2 m3 m4::d8 eS eN m1 (j6 E)::m9 E::d8 eI eSs m2 e.ss::d8 eW eTn m3 e.ts::d8 eW eU m4 e.ar::R);clear hS6 hnd;have Hp:=jH hp;have hTl:T.length<=10000:=by rw[hT1.length_eq];omega
     have htk:∀x∈T,TnOk x.2:=fun x hx=>(HE.out.tw x (hT1.mem_iff.1 hx)).1
     have hsl:=CY7 enT 200 T fun x hx=>Ms7 (htk x hx)
     have HT1:=jH hT1;have HT2:=jH hT2;have Htk:=jH htk;clear hp hT1 hT2 htk;go_wp2_with(fail)
     go_loopw [92] (fun v wr=>CwR W (xtP (.slice sa T.length sc) T::ebB eb m1 m2 m3 m4::d8 eS eN m1 (j6 E)::m9 E::d8 eI eSs m2 e.ss::d8 eW eTn m3 e.ts::d8 eW eU m4 e.ar::R) wb enT b4 T v wr) (fun v _=>T.length-(intOf v).toNat)
     case atStart=>exact⟨0,rfl,Nat.zero_le _,by simpa using hS⟩
     case round=>
      clear hS;obtain⟨k,rfl,hkk,hS⟩:=hrel;by_cases hend:k=T.length
      ·rw[hend,List.take_length]at hS;have hd1:decide (k<T.length)=false:=by simp;omega
       clear hkk hend;have hb5:(b4++T.flatMap enT).length<=9200000:=by rw[jA];omega
       obtain⟨b5,hb5e⟩:∃d,b4++T.flatMap enT=d:=⟨_,rfl⟩
       rw[hb5e]at hS hb5;have Hb5:=jH hb5e;clear hb5e Htk hsl;have hna:=K8 (hS.s (d8 eW eU m4 e.ar::R));have Hna:=jH hna;clear hna;go_wp2_with(first|refine zl1 hS ?_|(with_reducible apply HR7 (ek:=eW) (ev:=eU) hS);rfl;rfl;rfl;exact mAr;exact j5;refine frS ?_|refine zbs hS ?_;clear hS;intro bS w hS|go_at_call 65;(have hS2:St W (blk bS [.I (e.ar.length:Int)] 3::_) _:=hS);refine(bq4 wb b5 (e.ar.length:Int) bS 1 (by omega) ⟨by omega,by omega⟩ W _ _ (hS2.s (wrR wb b5::blk bS _ _::ebB eb m1 m2 m3 m4::d8 eS eN m1 (j6 E)::m9 E::d8 eI eSs m2 e.ss::d8 eW eTn m3 e.ts::d8 eW eU m4 e.ar::R))).mono ?_;clear hS hS2;rintro x w ⟨rfl,hS⟩|go_at_call 71;refine(Nv7 (some m4) W _ _ hS).mono ?_;clear hS;rintro x w ⟨g2,rfl,hS⟩|go_at_call 44;refine(el4 (K:=e.ar.map (·.1)) Hna.out (by rw[jM];omega) La7 JX7 (hS.s (blk g2 [.map (some m4)] 82::d8 eW eU m4 e.ar::wrR wb _::ebB eb m1 m2 m3 m4::d8 eS eN m1 (j6 E)::m9 E::d8 eI eSs m2 e.ss::d8 eW eTn m3 e.ts::R))).mono ?_;clear hS;rintro x w ⟨v2,A,rfl,hA1,hA2,hS⟩;(have hv:=hS.rowVal;obtain⟨sa2,sc2,rfl⟩:=hv);have HA1:=jH hA1;have HA2:=jH hA2;have hAl2:A.length<=10000:=(by(have h9:=hA1.length_eq;rw[jM]at h9;omega));clear hA1 hA2);have hS8:=hS.s (wrR wb _::waR (.slice sa2 A.length sc2) A::ebB eb m1 m2 m3 m4::d8 eS eN m1 (j6 E)::m9 E::d8 eI eSs m2 e.ss::d8 eW eTn m3 e.ts::d8 eW eU m4 e.ar::R);clear hS;have hS:=hS8;clear hS8;have hb6:=Ak7 (e.ar.length:Int);obtain⟨b6,hb6e⟩:∃d,b5++m6 (e.ar.length:Int)=d:=⟨_,rfl⟩
       have hb6l:b6.length<=9200010:=by rw[<-hb6e,jA];omega
       have hb6p:0<b6.length:=by rw[<-hb6e,jA];have:=Ex7 (e.ar.length:Int);omega
       rw[hb6e]at hS;have Hb6:=jH hb6e;have haw:∀x∈A,cR4 x:=fun x hx=>by obtain⟨y,hy,rfl⟩:=List.mem_map.1 (HA1.out.mem_iff.1 hx);exact HE.out.aw y hy
       have Haw:=jH haw;have hsl:=CY7 enA 18 A fun x _=>SW7 x
       clear hb6 hb6e haw;go_wp2_with(fail)
       go_loopw [141] (fun v wr=>CwR W (waR (.slice sa2 A.length sc2) A::ebB eb m1 m2 m3 m4::d8 eS eN m1 (j6 E)::m9 E::d8 eI eSs m2 e.ss::d8 eW eTn m3 e.ts::d8 eW eU m4 e.ar::R) wb enA b6 A v wr) (fun v _=>A.length-(intOf v).toNat)
       case atStart=>exact⟨0,rfl,Nat.zero_le _,by simpa using hS⟩
       case round=>
        clear hS;obtain⟨k,rfl,hkk,hS⟩:=hrel;by_cases hend:k=A.length
        ·rw[hend,List.take_length]at hS;have hd1:decide (k<A.length)=false:=by simp;omega
         clear hkk hend;obtain⟨b7,hb7e⟩:∃d,b6++A.flatMap enA=d:=⟨_,rfl⟩
         have hb7l:b7.length<=9400000:=by rw[<-hb7e,jA];omega
         have hb7p:0<b7.length:=by rw[<-hb7e,jA];omega
         rw[hb7e]at hS;have henc:bn4 e b7:=⟨T,A,HT1.out,HT2.out,HA1.out,HA2.out,by rw[<-hb7e,<-Hb6.out,<-Hb5.out,<-Hb4.out,<-Hb3.out,<-Hb2.out,<-Hb1.out,<-Hb0.out,Hcse.out,Hks.out]⟩
         have Henc:=jH henc;clear henc hb7e;go_wp2_with(first|go_at_call 72;refine(eJ4 wb b7 (by omega) hb7p W _ _ hS).mono ?_;clear hS;rintro x w ⟨vo,rfl,hS⟩);go_ret;have h9:=S8 Hp.out (hS.s (ebB eb m1 m2 m3 m4::d8 eS eN m1 (j6 E)::m9 E::d8 eI eSs m2 e.ss::d8 eW eTn m3 e.ts::d8 eW eU m4 e.ar::byR vo b7::R));exact⟨vo,b7,rfl,Henc.out,h9.swap⟩
        ·have hk1:k<A.length:=by omega
         have hd1:decide (k<A.length)=true:=by simp;omega
         obtain⟨⟨g,rfl⟩,_,_⟩:=St.rowAddr hS.drop (by omega);have hst:=Bj7 enA b6 A hk1;have htl:=EP7 enA A k;have hc:∀{K K':List HP},Take K (waR (.S g A.length sc2) A) K'->i8 K g (k*2) (whC A[k]):=fun hu=>i8.elemM (enc:=whC) CB7 hu hk1
         have hwh:=Haw.out _ (jW hk1);generalize A[k]=x at hst hc hwh;obtain⟨x1,x2⟩:=x;simp only[whC]at hc;rw[show enA (x1,x2)=r7 [x1,x2]from rfl]at hst;obtain⟨⟨w0,w1⟩,w2,w3⟩:=hwh;simp only at w0 w1 w2 w3;obtain⟨d,hd⟩:∃d,b6++(A.take k).flatMap enA=d:=⟨_,rfl⟩
         have hdl:d.length<=9400000:=by rw[<-hd,jA];omega
         rw[hd]at hS hst;have Hst:=jH hst;clear hst hd htl Haw hend hkk hsl;go_wp2_with(first|refine zlN hS ?_ (hc:=by exact hc (by exact j5))|refine zl1 hS ?_|refine zal hS ?_;clear hS;intro bA w hS|refine zsN hS ?_;clear hS;intro w hS|refine zbs hS ?_;clear hS;intro bS w hS|go_at_call 65;(have hS2:St W (blk bS [.I x1,.I x2] 3::_) _:=hS);refine(dh4 wb d x1 x2 bS 2 (by first|omega|(rw[jA];omega)) ⟨by omega,by omega⟩ ⟨by omega,by omega⟩ W _ _ (hS2.s (wrR wb d::blk bS _ _::waR _ A::ebB eb m1 m2 m3 m4::d8 eS eN m1 (j6 E)::m9 E::d8 eI eSs m2 e.ss::d8 eW eTn m3 e.ts::d8 eW eU m4 e.ar::R))).mono ?_;clear hS hS2;rintro x w ⟨rfl,hS⟩);go_roundw
         case rel=>exact⟨k+1,rfl,hk1,by rw[Hst.out];exact hS.s _⟩
         case measure=>simp[intOf];omega
      ·have hk1:k<T.length:=by omega
       have hd1:decide (k<T.length)=true:=by simp;omega
       obtain⟨⟨g,rfl⟩,_,_⟩:=St.rowAddr hS.drop (by omega);have hst:=Bj7 enT b4 T hk1;have htl:=EP7 enT T k;have hc:∀{K K':List HP},Take K (xtP (.S g T.length sc) T) K'->i8 K g (k*8) (tnC T[k]):=fun hu=>i8.elemM (enc:=tnC) Bh7 hu hk1
       have hok:=Htk.out _ (jW hk1);generalize T[k]=x at hst hc hok;obtain⟨⟨y1,y2⟩,⟨t0,t1,t2,t3,t4,t5,t6,t7⟩⟩:=x;simp only[tnC,Tns.cells]at hc;have q1:=hok.w.1.1;have q2:=hok.w.1.2;have q3:=hok.w.2.1;have q4:=hok.w.2.2;have z1:=hok.ak;have z2:=hok.aw;have z3:=hok.tk;have z4:=hok.tw;have i0:=hok.i0;have i1:=hok.i1;have c0:=hok.c0;have c1:=hok.c1;simp only at q1 q2 q3 q4 z1 z2 z3 z4 i0 i1 c0 c1;have hen:enT ((y1,y2),⟨t0,t1,t2,t3,t4,t5,t6,t7⟩)=r7 [t0,t1]++(F7 (D6 t2)++(F7 (D6 t3)++(F7 (D6 t4)++F7 (D6 t5))))++r7 [t6,t7]:=rfl;rw[hen]at hst;have hnl:=AM7 [t0,t1];simp only[jC,List.length_nil]at hnl;obtain⟨d,hd⟩:∃d,b4++(T.take k).flatMap enT=d:=⟨_,rfl⟩
       have hdl:d.length<=9200000:=by rw[<-hd,jA];omega
       rw[hd]at hS hst;obtain⟨d5,hd5⟩:∃d5,d++r7 [t0,t1]++(F7 (D6 t2)++(F7 (D6 t3)++(F7 (D6 t4)++F7 (D6 t5))))=d5:=⟨_,rfl⟩
       have hd5l:d5.length<=9400000:=by have e1:=Bb7 (D6 t2);have e2:=Bb7 (D6 t3);have e3:=Bb7 (D6 t4);have e4:=Bb7 (D6 t5);rw[Ay7]at e1 e2 e3 e4;rw[<-hd5];simp only[jA];omega
       have hst2:d5++r7 [t6,t7]=b4++(T.take (k+1)).flatMap enT:=by rw[hst,<-hd5];simp only[jS]
       have Hst:=jH hst2;have Hd5:=jH hd5;clear hst hst2 hd5 hok hen hd htl Htk hend hkk hsl
       go_wp2_with(first|refine zlN hS ?_ (hc:=by exact hc (by exact j5))|refine zl1 hS ?_|refine zal hS ?_;clear hS;intro bA w hS|refine zsN hS ?_;clear hS;intro w hS|(fail_if_success (have:=f1));(with_reducible apply AA7 hS);rfl;rfl;rfl;exact Tryz.underlying9;exact Tryz.underlying63;exact Tryz.underlying5;clear hS;intro g1 k1 w hS;have f1:Nat:=0;refine frS ?_|(have:=f1);(fail_if_success (have:=f2));(with_reducible apply AA7 hS);rfl;rfl;rfl;exact Tryz.underlying9;exact Tryz.underlying63;exact Tryz.underlying5;clear hS;intro g2 k2 w hS;have f2:Nat:=0;refine frS ?_|(have:=f2);(fail_if_success (have:=f3));(with_reducible apply AA7 hS);rfl;rfl;rfl;exact Tryz.underlying9;exact Tryz.underlying63;exact Tryz.underlying5;clear hS;intro g3 k3 w hS;have f3:Nat:=0;refine frS ?_|(have:=f3);(with_reducible apply AA7 hS);rfl;rfl;rfl;exact Tryz.underlying9;exact Tryz.underlying63;exact Tryz.underlying5;clear hS;intro g4 k4 w hS;refine frS ?_|refine zbs hS ?_;clear hS;intro bS w hS|(fail_if_success (have:=mB));go_at_call 65;(have hS2:St W (blk bS [.I t0,.I t1] 3::_) _:=hS);refine(dh4 wb d t0 t1 bS 2 (by first|omega|(rw[jA];omega)) ⟨by omega,by omega⟩ ⟨by omega,by omega⟩ W _ _ (hS2.s (wrR wb d::blk bS _ _::blk bA _ _::xtP _ T::ebB eb m1 m2 m3 m4::d8 eS eN m1 (j6 E)::m9 E::d8 eI eSs m2 e.ss::d8 eW eTn m3 e.ts::d8 eW eU m4 e.ar::R))).mono ?_;clear hS hS2;rintro x w ⟨rfl,hS⟩|(have:=mB);go_at_call 65;(have hS2:St W (blk bS [.I t6,.I t7] 3::_) _:=hS);refine(dh4 wb d5 t6 t7 bS 2 (by first|omega|(rw[jA];omega)) ⟨by omega,by omega⟩ ⟨by omega,by omega⟩ W _ _ (hS2.s (wrR wb d5::blk bS _ _::blk bA _ _::xtP _ T::ebB eb m1 m2 m3 m4::d8 eS eN m1 (j6 E)::m9 E::d8 eI eSs m2 e.ss::d8 eW eTn m3 e.ts::d8 eW eU m4 e.ar::R))).mono ?_;clear hS hS2;rintro x w ⟨rfl,hS⟩|(go_at_call 66;(have hS2:St W (blk bS [sbV g1 t2 k1,sbV g2 t3 k2,sbV g3 t4 k3,sbV g4 t5 k4] 63::_) _:=hS);refine(Se7 wb (d++r7 [t0,t1]) t2 t3 t4 t5 g1 g2 g3 g4 k1 k2 k3 k4 bS 4 (by rw[jA];omega) (by omega) (by omega) (by omega) (by omega) W _ _ (hS2.s (wrR wb _::blk bS _ _::sbR g1 t2::sbR g2 t3::sbR g3 t4::sbR g4 t5::blk bA _ _::xtP _ T::ebB eb m1 m2 m3 m4::d8 eS eN m1 (j6 E)::m9 E::d8 eI eSs m2 e.ss::d8 eW eTn m3 e.ts::d8 eW eU m4 e.ar::R))).mono ?_;clear hS hS2;rintro x w ⟨rfl,hS⟩;have mB:Nat:=0);rw[Hd5.out]at hS)
       go_roundw
       case rel=>exact⟨k+1,rfl,hk1,by rw[<-Hst.out];exact hS.s _⟩
       case measure=>simp[intOf];omega
    ·have hk1:k<cs.length:=by omega
     have hd1:decide (k<cs.length)=true:=by simp;omega
     obtain⟨⟨g,rfl⟩,_,_⟩:=St.rowAddr hS.drop (by omega);have hst:=Bj7 (enS e) b2 cs hk1;have htl:=EP7 (enS e) cs k;have hget:(cs.map eZ)[k]? = some (.I cs[k]):=by rw[List.getElem?_map,jG hk1];rfl
     obtain⟨q,r,hgl,hwh,hro⟩:=Hcs.out _ (jW hk1);generalize cs[k]=c1 at hst hget hgl hwh;have hc:∀{K K':List HP},Take K (zrR (.S g cs.length sc2) cs) K'->i9 K g k (.I c1):=fun hu=>i9.rowM hu hget
     obtain⟨⟨w0,w1⟩,w2,w3⟩:=hwh;simp only at w0 w1 w2 w3;have hens:enS e c1=r7 [c1,q]++F7 (rpB r):=by unfold enS;rw[hgl];rfl
     rw[hens]at hst;obtain⟨r0,r1,⟨r2,r3,r4,r5⟩⟩:=r;have hrl:=DT7 ⟨r0,r1,⟨r2,r3,r4,r5⟩⟩;have hnl:=AM7 [c1,q];simp only[jC,List.length_nil]at hnl;obtain⟨d,hd⟩:∃d,b2++(cs.take k).flatMap (enS e)=d:=⟨_,rfl⟩
     have hdl:d.length<=7100000:=by rw[<-hd,jA];omega
     rw[hd]at hS hst;have Hst:=jH hst;have Hr:=jH hro;clear hst hget hro hens hd htl Hcs hend hkk hsl;go_wp2_with(first|refine zl1 hS ?_ (hc:=by exact hc (by exact j5))|refine zl1 hS ?_|(with_reducible apply CE7 (ek:=eI) (ev:=eSs) (k:=c1) hS);rfl;rfl;rfl;rfl;exact j5;exact mS;exact kEi;exact zS;exact hgl;refine frS ?_|refine zal hS ?_;clear hS;intro bA w hS|refine zsN hS ?_;clear hS;intro w hS|refine zlN hS ?_ (vs:=[.I r0,.I r1,.I r2,.I r3,.I r4,.I r5]) (hc:=by exact i8.here rfl)|go_at_call 70;refine(KZ7 Hr.out W _ _ hS).mono ?_;clear hS;rintro x w ⟨rv,rfl,hS⟩;(have hv:=hS.rowVal;obtain⟨ra,rc,rfl⟩:=hv)|refine zbs hS ?_;clear hS;intro bS w hS|go_at_call 65;(have hS2:St W (blk bS [.I c1,.I q] 3::_) _:=hS);refine(dh4 wb d c1 q bS 2 (by first|omega|(rw[jA];omega)) ⟨by omega,by omega⟩ ⟨by omega,by omega⟩ W _ _ (hS2.s (wrR wb d::blk bS _ _::byR _ _::zrR _ cs::ebB eb m1 m2 m3 m4::d8 eS eN m1 (j6 E)::m9 E::d8 eI eSs m2 e.ss::d8 eW eTn m3 e.ts::d8 eW eU m4 e.ar::R))).mono ?_;clear hS hS2;rintro x w ⟨rfl,hS⟩|go_at_call 66;(have hS2:St W (blk bS [.slice ra (rpB ⟨r0,r1,⟨r2,r3,r4,r5⟩⟩).length rc] 63::_) _:=hS);refine(Sc7 wb (d++r7 [c1,q]) (rpB ⟨r0,r1,⟨r2,r3,r4,r5⟩⟩) ra rc bS 1 (by rw[jA];omega) (by omega) W _ _ (hS2.s (wrR wb _::blk bS _ _::byR _ _::zrR _ cs::ebB eb m1 m2 m3 m4::d8 eS eN m1 (j6 E)::m9 E::d8 eI eSs m2 e.ss::d8 eW eTn m3 e.ts::d8 eW eU m4 e.ar::R))).mono ?_;clear hS hS2;rintro x w ⟨rfl,hS⟩);go_roundw
     case rel=>exact⟨k+1,rfl,hk1,by rw[Hst.out,<-jS];exact hS.s _⟩
     case measure=>simp[intOf];omega
  ·have hk1:k<ks.length:=by omega
   have hd1:decide (k<ks.length)=true:=by simp;omega
   obtain⟨⟨g,rfl⟩,_,_⟩:=St.rowAddr hS.drop (by omega);have hst:=Bj7 (enK e) b0 ks hk1;have htl:=EP7 (enK e) ks k;have hget:(ks.map eS)[k]? = some (.string ks[k]):=by rw[List.getElem?_map,jG hk1];rfl
   obtain⟨vb,V,hgl,hpp,hat,hok,hsz,hmy,hl32⟩:=Hkv.out _ (jW hk1);generalize ks[k]=k1 at hst hget hgl hpp hat hsz;have hc:∀{K K':List HP},Take K (bs4 (.S g ks.length sc) ks) K'->i9 K g k (.string k1):=fun hu=>i9.rowM hu hget
   have hev:=PP7 (n:=V.n) hok.w hmy hl32;have hpl:=hok.w.len;have henk:enK e k1=F7 (D6 k1)++F7 (I5 V.ps V.L V.n):=by unfold enK;rw[hat]
   rw[henk]at hst;obtain⟨d,hd⟩:∃d,b0++(ks.take k).flatMap (enK e)=d:=⟨_,rfl⟩
   have hdl:d.length<=6000010:=by rw[<-hd,jA];omega
   rw[hd]at hS hst;have hS1:=bE4 (aY4 hpp (hS.s (m9 E::wrR wb d::bs4 (.S g ks.length sc) ks::ebB eb m1 m2 m3 m4::d8 eS eN m1 (j6 E)::d8 eI eSs m2 e.ss::d8 eW eTn m3 e.ts::d8 eW eU m4 e.ar::R)));obtain⟨vm,vk,hS2⟩:=aF4 hS1;clear hS hS1;have hS:=hS2.s (wrR wb d::blk vb [.map (some vm),.P vk,.I V.n] 176::d8 eS eP vm V.ps::w7 vk V.L V.n::m9 (j9 E k1)::bs4 (.S g ks.length sc) ks::ebB eb m1 m2 m3 m4::d8 eS eN m1 (j6 E)::d8 eI eSs m2 e.ss::d8 eW eTn m3 e.ts::d8 eW eU m4 e.ar::R);clear hS2;have Hst:=jH hst;have Hpp:=jH hpp;have Hok:=jH hok;clear hst hget hpp hat hok hmy hl32 henk hd htl Hkv hend hkk
   go_wp2_with(first|refine zl1 hS ?_ (hc:=by exact hc (by exact j5))|(with_reducible apply AA7 hS);rfl;rfl;rfl;exact Tryz.underlying9;exact Tryz.underlying63;exact Tryz.underlying5;clear hS;intro g9 c9 w hS;refine frS ?_|refine zl1 hS ?_|(with_reducible apply CE7 (ek:=eS) (ev:=eN) (k:=k1) hS);rfl;rfl;rfl;rfl;exact j5;exact mV;exact kS;exact zV;exact hgl;refine frS ?_|go_at_call 67;refine(dy4 vb vm vk V.ps V.L V.n Hok.out.ok Hok.out.w (by omega) Hok.out.n0 (by have:=Hok.out.n1;omega) W _ _ (hS.s (blk vb _ _::d8 eS eP vm V.ps::w7 vk V.L V.n::wrR wb d::sbR g9 k1::m9 (j9 E k1)::bs4 _ ks::ebB eb m1 m2 m3 m4::d8 eS eN m1 (j6 E)::d8 eI eSs m2 e.ss::d8 eW eTn m3 e.ts::d8 eW eU m4 e.ar::R))).mono ?_;clear hS;rintro x w ⟨vv,rfl,hS⟩;(have hv:=hS.rowVal;obtain⟨va,vc,rfl⟩:=hv);(have hS5:St W (byR _ (I5 V.ps V.L V.n)::blk vb [.map (some vm),.P vk,.I V.n] 176::d8 eS eP vm V.ps::w7 vk V.L V.n::_) _:=hS);clear hS;(have hS:=hS5);clear hS5|refine zbs hS ?_;clear hS;intro bS w hS|go_at_call 66;(have hS2:St W (blk bS [sbV g9 k1 c9,.slice va (I5 V.ps V.L V.n).length vc] 63::_) _:=hS);refine(Sd7 wb d k1 g9 c9 (I5 V.ps V.L V.n) va vc bS 2 (by omega) (by omega) (by omega) W _ _ (hS2.s (wrR wb d::blk bS _ _::sbR g9 k1::byR _ (I5 V.ps V.L V.n)::blk vb _ _::d8 eS eP vm V.ps::w7 vk V.L V.n::m9 (j9 E k1)::bs4 _ ks::ebB eb m1 m2 m3 m4::d8 eS eN m1 (j6 E)::d8 eI eSs m2 e.ss::d8 eW eTn m3 e.ts::d8 eW eU m4 e.ar::R))).mono ?_;clear hS hS2;rintro x w ⟨rfl,hS⟩);have h1:=ah4 (V:=V) (hS.s (blk vb [.map (some vm),.P vk,.I V.n] 176::d8 eS eP vm V.ps::w7 vk V.L V.n::m9 (j9 E k1)::wrR wb (d++(F7 (D6 k1)++F7 (I5 V.ps V.L V.n)))::bs4 (.S g ks.length sc) ks::ebB eb m1 m2 m3 m4::d8 eS eN m1 (j6 E)::d8 eI eSs m2 e.ss::d8 eW eTn m3 e.ts::d8 eW eU m4 e.ar::R))
   have h2:=aY4 Hpp.out.symm (cb4 (x:=(k1,(vb,V))) h1);go_roundw
   case rel=>exact⟨k+1,rfl,hk1,by rw[Hst.out];exact h2.s _⟩
   case measure=>simp[intOf];omega
theorem GZ7{eb:Nat}{e:Ec}{n:Nat}(hE:EnL e n)(hn:n<=600)(W w:World)(R:List HP)(hS:St W (ecP eb e::R) w):
  Calls Tryz.prog 27 #[.P eb] w fun x w'=>∃v d,x=.returned v/\bn4 e d/\St W (byR v d::ecP eb e::R) w':=
 JY7 (Mt7 hE (DS7 hS) hn) W w R hS
def ib4(e:Ec)(o:Opn):Prop:=C5 o=false\/∃q r,m7 e.ss o.client=some (q,r)/\o.seq<=q
theorem Sf7{I:Ec->Nat->Prop}(hI:em4 I)(hi0:I ec0 0)(xs:List Opn)(hlen:xs.length<=150)(v:Value)(V:World)(hv:bU4 Opn.cells 12 V v xs)(W w:World)(Lr:List HP)(hS:St W (Old V::Lr) w):
  Calls Tryz.prog 23 #[v] w fun r w'=>∃eb xb,r=.returned (.tuple #[.P eb,.P xb,.bool true])/\GOk (cP4 xs ec0) (br4 xs ec0) xs.length/\I (br4 xs ec0) xs.length/\St W (ecP eb (br4 xs ec0)::Q6 xb (cP4 xs ec0)::Old V::Lr) w':=by
 have Hv:=jH hv;clear hv;go_enter Tryz.func23,Tryz.ntmps23;go_wp2_with(first|go_big_skip|go_at_call 15;refine(GL7 W _ _ hS).mono ?_;clear hS;rintro e w ⟨eb,rfl,hS⟩|refine zbx hS ?_;clear hS;intro xb w hS|go_at_call 32;(have hS1:=hL4 (hS.s (xeB xb (.slice none 0 0) (.slice none 0 0) (.slice none 0 0) (.slice none 0 0)::ecP eb ec0::Old V::Lr)));clear hS;refine(JP7 xs hlen _ V Hv.out (n:=0) (by decide) hI4 hI hi0 eb xb W _ _ (hS1.s (ecP eb ec0::Q6 xb ec0::Old V::Lr))).mono ?_;clear hS1;rintro e w ⟨rfl,hG,hN,hS⟩;have HG:=jH hG;have HN:=jH hN;clear hG hN);go_ret3;exact⟨eb,xb,rfl,by have:=HG.out;rwa [Nat.zero_add]at this,by have:=HN.out;rwa [Nat.zero_add]at this,hS⟩
structure SameE(e e':Ec):Prop where
 v:e.vs.Perm e'.vs
 s:e.ss.Perm e'.ss
 t:e.ts.Perm e'.ts
 a:e.ar.Perm e'.ar
theorem Mu7{e e':Ec}{n:Nat}(h:EnL e n)(s:SameE e e'):EnL e' n:=
 ⟨⟨fun x hx=>h.en.ok x (s.v.mem_iff.2 hx),fun x hx=>h.en.vk x (s.v.mem_iff.2 hx),fun x hx=>h.en.sw x (s.s.mem_iff.2 hx),fun x hx=>h.en.sr x (s.s.mem_iff.2 hx),fun x hx=>h.en.tw x (s.t.mem_iff.2 hx),fun x hx=>h.en.aw x (s.a.mem_iff.2 hx),
  by rw[<-s.v.length_eq];exact h.en.lv,by rw[<-s.s.length_eq];exact h.en.ls,by rw[<-s.t.length_eq];exact h.en.lt,by rw[<-s.a.length_eq];exact h.en.la⟩,(s.v.map _).nodup_iff.1 h.nd,by rw[<-JW7 s.v];exact h.ln⟩
theorem HJ7{e e':Ec}{d:List Int}(hv:(e.vs.map (·.1)).Nodup)(hs:(e.ss.map (·.1)).Nodup)(s:SameE e e')(h:bn4 e d):bn4 e' d:=by
 obtain⟨T,A,h1,h2,h3,h4,rfl⟩:=h;refine⟨T,A,h1.trans s.t,h2,h3.trans (s.a.map _),h4,?_⟩;have e1:ksE e'=ksE e:=by unfold ksE;exact DV7 (s.v.symm.map _)
 have e2:∀k,enK e' k=enK e k:=fun k=>by
  have:atV e' k=atV e k:=by unfold atV;rw[AJ7 hv s.v k]
  unfold enK;rw[this]
 have e3:∀c,enS e' c=enS e c:=fun c=>by unfold enS;rw[AJ7 hs s.s c]
 have e4:aG4 (e'.ss.map (·.1))=aG4 (e.ss.map (·.1)):=HI7 (s.s.symm.map _);rw[e1,e4,s.v.length_eq,s.s.length_eq,s.t.length_eq,s.a.length_eq,funext e2,funext e3]
theorem Mv7{ν:Type}{l:List (Int×ν)}(h:Asc ltI l):aG4 (l.map (·.1))=l.map (·.1):=by
 have hp:∀m:List Int,(aG4 m).Pairwise fun x y=>decide (x<=y)=true:=fun m=>List.pairwise_mergeSort (fun a b c h1 h2=>by simp only[decide_eq_true_eq]at *;omega) (fun a b=>by simp only[Bool.or_eq_true,decide_eq_true_eq];omega) m
 refine List.Perm.eq_of_pairwise (fun a b _ _ h1 h2=>by simp only[decide_eq_true_eq]at h1 h2;omega) (hp _) ?_ (Dn7 _);exact List.pairwise_map.2 (List.Pairwise.imp (fun{a b} h=>by simp only[ltI,decide_eq_true_eq]at h ⊢;omega) h)
def er4(d:Ec):List Int:=m6 d.vs.length++(d.vs.map (·.1)).flatMap (enK d)++m6 d.ss.length++(d.ss.map (·.1)).flatMap (enS d)++m6 d.ts.length++d.ts.flatMap enT++m6 d.ar.length++(d.ar.map (·.1)).flatMap enA
theorem SimE.same{d e:Ec}(h:SimE d e):SameE d e:=⟨h.v,h.s,h.t,h.a⟩
theorem PR7{d e:Ec}(h:SimE d e):bn4 e (er4 d):=by refine HJ7 h.vn h.sn h.same ⟨d.ts,d.ar.map (·.1),List.Perm.refl _,h.ta,List.Perm.refl _,(List.pairwise_map (f:=fun x:(Int×Int)×Unit=>x.1) (R:=fun x y=>ltW x y=true)).2 h.aa,?_⟩;have e1:ksE d=d.vs.map (·.1):=GX7 h.va;rw[e1,Mv7 h.sa];rfl
theorem Vt7{d e:Ec}(h:SimE d e):ksE e=d.vs.map (·.1):=(Ur7 h).symm
theorem Lb7{d e:Ec}{n:Nat}(h:EnL e n)(s:SimE d e):EnL d n:=Mu7 h ⟨s.v.symm,s.s.symm,s.t.symm,s.a.symm⟩
theorem Sg7{d e:Ec}(h:aQ4 e)(s:SimE d e):aQ4 d:=fun x hx=>h x (s.v.mem_iff.1 hx)
structure EnT(e:Ec)(n:Nat):Prop where
 en:EnL e n
 tt:n<=400->∀k,Kx k->T9 e k<=n*1048576
theorem hQ4:EnT ec0 0:=⟨hP4,fun _ _ _=>Int.le_refl _⟩
theorem Mw7:em4 EnT:=fun e n o h he he2 hok=>by refine⟨h.en.app he o hok,fun hn k hk=>?_⟩;have h1:=Uo7 h.en.nd h.en.en.ok he he2 (fun j hj=>by have:=h.tt (by omega) j hj;omega) (o:=o) hk;have h2:=Vn7 (e:=e) (o:=o) (M8 e o).1 k;have h3:=h.tt (by omega) k hk;rw[h1];omega
def S9(L:List Ord):Prop:=∀x∈L, ∀z∈L,K5 x z=false
theorem PS7(x z:Ord)(c d:Int):K5 { x with cnt:=c } { z with cnt:=d }=K5 x z:=rfl
theorem HK7:∀(f:Nat) (o:Ord) (L:List Ord) (ts:List Trd),S9 L->S9 (w6 f o L ts).2.1
 | 0,_,_,_,h=>h
 | f+1,o,L,ts,h=>by
  rw[w6];by_cases h0:0<o.cnt
  ·rw[if_pos h0]
   cases hb:B8 o L L.length with
   | none=>exact h
   | some k=>
    obtain⟨hk,_,_⟩:=AK7 hb;refine HK7 f _ _ _ ?_;intro x hx z hz
    have hm:∀y∈bf4 L k ((at' L k).cnt-O9 o.cnt (at' L k).cnt), ∃y'∈L, ∃c,y={ y' with cnt:=c }:=by
     intro y hy;unfold bf4 at hy;split at hy
     ·exact⟨y,List.mem_of_mem_eraseIdx hy,y.cnt,rfl⟩
     ·rcases List.mem_or_eq_of_mem_set hy with hy|rfl
      ·exact⟨y,hy,y.cnt,rfl⟩
      ·exact⟨_,L8 hk,_,rfl⟩
    obtain⟨x',hx',c,rfl⟩:=hm x hx;obtain⟨z',hz',d,rfl⟩:=hm z hz;rw[PS7];exact h x' hx' z' hz'
  ·rw[if_neg h0];exact h
theorem Mx7:∀(f:Nat) (o:Ord) (L:List Ord) (ts:List Trd),(∀x∈L,1<=x.cnt)->(L.length<f\/(o.cnt<=0/\0<f))->(w6 f o L ts).1.cnt<=0\/∀z∈(w6 f o L ts).2.1,K5 (w6 f o L ts).1 z=false
 | 0,_,_,_,_,h=>by omega
 | f+1,o,L,ts,hL,h=>by
  rw[w6];by_cases h0:0<o.cnt
  ·rw[if_pos h0]
   cases hb:B8 o L L.length with
   | none=>
    right
    intro z hz;obtain⟨i,hi,rfl⟩:=cu4 hz;exact Eh7 hb i hi
   | some k=>
    obtain⟨hk,_,_⟩:=AK7 hb;have hx:=hL _ (L8 hk);have hmin:=Du7 h0 (show 0<(at' L k).cnt by omega);refine Mx7 f _ _ _ ?_ ?_
    ·unfold bf4;split
     ·exact fun x hx=>hL x (List.mem_of_mem_eraseIdx hx)
     ·intro x hxm
      rcases List.mem_or_eq_of_mem_set hxm with hx'|rfl
      ·exact hL x hx'
      ·simp only;omega
    ·unfold bf4;by_cases hz:(at' L k).cnt-O9 o.cnt (at' L k).cnt=0
     ·left
      rw[if_pos hz,List.length_eraseIdx];split <;> omega
     ·right
      refine⟨?_,by omega⟩;simp only;unfold O9 at hz ⊢;split at hz <;> split <;> omega
  ·rw[if_neg h0];left;show o.cnt<=0
   omega
theorem Nw7(x z:Ord):K5 x z=K5 z x:=by
 unfold K5;by_cases h1:x.item=z.item
 ·rw[h1]
  cases hx:x.buy <;> cases hz:z.buy <;> simp
 ·have h2:¬z.item=x.item:=fun h=>h1 h.symm
  simp[h1,h2]
theorem Nx7(x:Ord):K5 x x=false:=by unfold K5;simp
theorem JZ7{L:List Ord}(id:Int)(h:S9 L):S9 (A6 L id).L:=by
 unfold A6;split
 ·exact h
 ·exact fun x hx z hz=>h x (List.mem_of_mem_eraseIdx hx) z (List.mem_of_mem_eraseIdx hz)
theorem PT7:S9 []:=fun _ h=>(by cases h)
theorem PU7{L:List Ord}{o:Ord}(h:S9 L)(hL:∀x∈L,1<=x.cnt):S9 (cJ4 L o):=by
 have h1:=HK7 (L.length+1) o L [] h;have h2:=Mx7 (L.length+1) o L [] hL (.inl (Nat.lt_succ_self _));unfold cJ4;split
 ·rename_i hc
  rcases h2 with h2|h2
  ·omega
  ·intro x hx z hz
   rcases List.mem_append.1 hx with hx|hx <;> rcases List.mem_append.1 hz with hz|hz
   ·exact h1 x hx z hz
   ·rw[List.mem_singleton.1 hz,Nw7];exact h2 x hx
   ·rw[List.mem_singleton.1 hx];exact h2 z hz
   ·rw[List.mem_singleton.1 hx,List.mem_singleton.1 hz];exact Nx7 _
 ·exact h1
theorem PV7{V:Vs}{o:Ord}(h:S9 V.L)(hmay:∀x∈V.L,MayP x):S9 (E6 V o).2.2.L:=by
 unfold E6;split
 ·exact h
 ·split
  ·exact h
  ·split
   ·exact PU7 h fun x hx=>(hmay x hx).cnt0
   ·exact h
theorem PW7{V:Vs}{who:ByteArray}{id:Int}(h:S9 V.L):S9 (F6 V who id).2.L:=by
 unfold F6;split
 ·exact JZ7 id h
 ·exact h
theorem Sh7{V:Vs}{o:Opn}(h:S9 V.L)(hmay:∀x∈V.L,MayP x):S9 (doV V o).2.L:=by
 unfold doV;split
 ·exact h
 split
 ·exact h
 split
 ·exact PV7 h hmay
 split
 ·exact PW7 h
 split
 ·exact h
 split
 ·exact h
 ·exact h
def es4(t:Tns):Bool:=C5 ⟨2,t.client,t.seq,t.ak,t.aw,t.tk,t.tw,t.item,t.cnt,0,false,0⟩
theorem Us7{o:Opn}(hm:C5 o=true)(hk:o.kind=2):es4 (dp4 o)=true:=by
 obtain⟨kd,cl,sq,ak,aw,tk,tw,it,ct,pr,bu,id⟩:=o;simp only at hk;subst hk;have h1:M7 ⟨2,cl,sq,ak,aw,tk,tw,it,ct,pr,bu,id⟩=true:=by unfold C5 at hm;exact(jB _ _▸hm).2
 have h2:R6 ⟨2,cl,sq,ak,aw,tk,tw,it,ct,pr,bu,id⟩=true:=h1;unfold R6 at h2;simp only[jB,decide_eq_true_eq,Bool.not_eq_true']at h2;obtain⟨_,_,hp,hb,hi⟩:=h2;subst hp hb hi;exact hm
theorem Si7{o:Opn}(hm:C5 o=true):C8 o.ak=true:=by unfold C5 K6 ax4 at hm;simp only[jB]at hm;exact hm.1.2.2.2.2.1
structure EnU(e:Ec)(n:Nat):Prop where
 t:EnT e n
 ap:∀x∈e.vs,S9 x.2.L
 wk:∀x∈e.vs,C8 x.1=true
 mt:∀x∈e.ts,es4 x.2=true
theorem hR4:EnU ec0 0:=⟨hQ4,fun _ h=>(by cases h),fun _ h=>(by cases h),fun _ h=>(by cases h)⟩
theorem Sj7:em4 EnU:=fun e n o h he he2 hok=>by
 have ht:=Mw7 e n o h.t he he2 hok
 cases hp:G9 e o with
 | mk r b=>
 cases b with
 | true=>
  rw[CU7 hp]at ht ⊢;exact⟨ht,h.ap,h.wk,h.mt⟩
 | false=>
  obtain⟨rfl,hm⟩:=BC7 hp;rw[CV7 hp]at ht ⊢
  have hat:S9 (atV e o.ak).L/\∀y∈(atV e o.ak).L,MayP y:=by
   unfold atV
   cases hg:m7 e.vs o.ak with
   | none=>exact⟨PT7,fun _ hy=>(by cases hy)⟩
   | some V=>exact⟨h.ap _ (AI7 hg),(he _ (AI7 hg)).1⟩
  refine⟨ht,fun x hx=>?_,fun x hx=>?_,fun x hx=>?_⟩
  ·have hx2:x∈(if C6 (doV (atV e o.ak) o).2=true then j9 e.vs o.ak else(o.ak,(doV (atV e o.ak) o).2)::j9 e.vs o.ak):=hx;split at hx2
   ·exact h.ap x (List.mem_filter.1 hx2).1
   ·rcases List.mem_cons.1 hx2 with rfl|hx2
    ·exact Sh7 hat.1 hat.2
    ·exact h.ap x (List.mem_filter.1 hx2).1
  ·have hx2:x∈(if C6 (doV (atV e o.ak) o).2=true then j9 e.vs o.ak else(o.ak,(doV (atV e o.ak) o).2)::j9 e.vs o.ak):=hx;split at hx2
   ·exact h.wk x (List.mem_filter.1 hx2).1
   ·rcases List.mem_cons.1 hx2 with rfl|hx2
    ·exact Si7 hm
    ·exact h.wk x (List.mem_filter.1 hx2).1
  ·have hx2:x∈doT e o (doV (atV e o.ak) o).1:=hx;unfold doT at hx2;split at hx2
   ·rename_i hk
    rcases List.mem_cons.1 hx2 with rfl|hx2
    ·exact Us7 hm hk.1
    ·exact h.mt x (List.mem_filter.1 hx2).1
   ·split at hx2
    ·exact h.mt x (List.mem_filter.1 hx2).1
    ·exact h.mt x hx2
abbrev erR(xr rb eb:Nat)(ok:Bool):HP:=blk xr [.P rb,.P eb,.bool ok] 150
theorem Ut7(ok b:Bool)(xr rb eb:Nat)(W w:World)(R:List HP)(hS:St W (erR xr rb eb ok::R) w):
  Calls Tryz.prog 153 #[.P xr,.bool b] w fun e w'=>e=.returned (.tuple #[])/\St W (erR xr rb eb (ok&&b)::R) w':=by
 cases ok <;> cases b
 all_goals
  go_enter Tryz.func153,Tryz.ntmps153;go_wp2_with(first|refine zl1 hS ?_|refine zs1 hS ?_;clear hS;intro w hS);go_end0;exact⟨rfl,hS⟩
def whB(c q:Int):Bool:=decide (1<=c)&&(decide (c<=1048576)&&(decide (1<=q)&&decide (q<=1099511627776)))
theorem My7{c q:Int}(h:cR4 (c,q)):whB c q=true:=by obtain⟨⟨h1,h2⟩,h3,h4⟩:=h;simp only at h1 h2 h3 h4;unfold whB;rw[decide_eq_true h1,decide_eq_true h2,decide_eq_true h3,decide_eq_true h4];rfl
theorem Sk7(c q:Int):C5 ⟨5,c,q,⟨#[107]⟩,⟨#[119]⟩,⟨#[]⟩,⟨#[]⟩,0,0,0,false,0⟩=whB c q:=by
 have h1:ax4 ⟨#[107]⟩ ⟨#[119]⟩=true:=by decide
 have h2:M7 ⟨5,c,q,⟨#[107]⟩,⟨#[119]⟩,⟨#[]⟩,⟨#[]⟩,0,0,0,false,0⟩=true:=by simp[M7,ch4,noB];rfl
 unfold C5 K6 whB;rw[h2,Bool.and_true];simp only;rw[h1,Bool.and_true]
theorem SX7{c q:Int}{r:Bool}(hr:whB c q=r)(W w:World)(R:List HP)(hS:St W R w):
  Calls Tryz.prog 156 #[.I c,.I q] w fun e w'=>e=.returned (.bool r)/\St W R w':=by
 have Hr:=jH ((Sk7 c q).trans hr);clear hr;go_enter Tryz.func156,Tryz.ntmps156;go_wp2_with(first|go_at_call 85;refine(Ci7 Hr.out W _ _ hS).mono ?_;clear hS;rintro e w ⟨rfl,hS⟩);go_ret;exact⟨rfl,hS⟩
theorem HL7:∀(ns:List Int),(∀n∈ns,0<=n/\n<=4611686018427387904)->∀r,I6 ns.length (some (r7 ns++r))=(ns,some r)
 | [],_,r=>rfl
 | n::ns,h,r=>by
  have h1:=h n (List.mem_cons_self ..);have e1:r7 (n::ns)++r=m6 n++(r7 ns++r):=by unfold r7;rw[List.flatMap_cons,jS]
  rw[e1,jC,I6,Aq7 h1.1 h1.2];show(n::(I6 ns.length (some (r7 ns++r))).1,(I6 ns.length (some (r7 ns++r))).2)=_
  rw[HL7 ns (fun m hm=>h m (List.mem_cons_of_mem _ hm)) r]
section
variable{D:HP}{rb bE bX bS c:Nat}{s:RS}{W w:World}{R R':List HP}
theorem gX4(h:RdOk s)(ht:Take R D R')(hS:St W (rdG D rb s::blk bE [.I 0] 3::blk bX [.I 0,.I 0,.I 0,.I 0,.I 0,.I 0] 31::blk bS [.P bE,.pointer (some ⟨bX,1,none⟩),.pointer (some ⟨bX,2,none⟩),.pointer (some ⟨bX,3,none⟩),.pointer (some ⟨bX,4,none⟩),.pointer (some ⟨bX,5,none⟩)] 262::R) w){x0 x1 x2 x3 x4 x5:Int}{s2:RS}(hx:I6 6 s=([x0,x1,x2,x3,x4,x5],s2)):
  Calls Tryz.prog 196 #[.P rb,.S bS 6 c] w fun e w'=>e=.returned (.tuple #[])/\St W (rdG D rb s2::blk bE [.I x0] 3::blk bX [.I 0,.I x1,.I x2,.I x3,.I x4,.I x5] 31::R) w':=by
 refine(LZ7 D rb s h [(bE,0),(bX,1),(bX,2),(bX,3),(bX,4),(bX,5)] (by simp) bS c (fun xs=>blk bE [.I (xs.getD 0 0)] 3::blk bX [.I 0,.I (xs.getD 1 0),.I (xs.getD 2 0),.I (xs.getD 3 0),.I (xs.getD 4 0),.I (xs.getD 5 0)] 31::blk bS [.P bE,.pointer (some ⟨bX,1,none⟩),.pointer (some ⟨bX,2,none⟩),.pointer (some ⟨bX,3,none⟩),.pointer (some ⟨bX,4,none⟩),.pointer (some ⟨bX,5,none⟩)] 262::R) ⟨?_,fun xs=>⟨_,.tail (.tail (.tail ht))⟩⟩ ?_ W w hS).mono ?_
 ·intro xs x hx
  match xs,hx with
  | [],_=>exact⟨_,_,by simp,by simp,.head⟩
  | [_],_=>exact⟨_,_,by simp,by simp,.tail .head⟩
  | [_,_],_=>exact⟨_,_,by simp,by simp,.tail .head⟩
  | [_,_,_],_=>exact⟨_,_,by simp,by simp,.tail .head⟩
  | [_,_,_,_],_=>exact⟨_,_,by simp,by simp,.tail .head⟩
  | [_,_,_,_,_],_=>exact⟨_,_,by simp,by simp,.tail .head⟩
  | _::_::_::_::_::_::_,hx=>simp at hx;omega
 ·intro xs i hi
  match i,hi with
  | 0,_=>exact .there (.there (.here rfl))
  | 1,_=>exact .there (.there (.here rfl))
  | 2,_=>exact .there (.there (.here rfl))
  | 3,_=>exact .there (.there (.here rfl))
  | 4,_=>exact .there (.there (.here rfl))
  | 5,_=>exact .there (.there (.here rfl))
  | i+6,hi=>simp at hi;omega
 ·rintro e w' ⟨rfl,hS⟩;have hx6:I6 [(bE,0),(bX,1),(bX,2),(bX,3),(bX,4),(bX,5)].length s=([x0,x1,x2,x3,x4,x5],s2):=hx;rw[hx6]at hS;have hS2:St W (rdG D rb s2::blk bE [.I x0] 3::blk bX [.I 0,.I x1,.I x2,.I x3,.I x4,.I x5] 31::blk bS _ _::R) w':=hS;exact⟨rfl,hS2.s _⟩
end
def rpM(e i x0 x1 x2 x3:Int):Bool:=decide (e<=19)&&(decide (i<=1099511627776)&&x8 ⟨x0,x1,x2,x3⟩)
theorem PX7(y:Rpl):rpB y=r7 [y.err,y.id,y.has.x0,y.has.x1,y.has.x2,y.has.x3]:=by unfold rpB r7;simp
theorem Sl7{y:Rpl}(h:RpOk y):I6 6 (some (rpB y))=([y.err,y.id,y.has.x0,y.has.x1,y.has.x2,y.has.x3],some []):=by
 obtain⟨⟨p0,p1⟩,⟨q0,q1⟩,⟨r0,r1⟩,⟨t0,t1⟩⟩:=Af7.1 h.has;have e0:=h.e0;have e1:=h.e1;have i0:=h.i0;have i1:=h.i1
 have h1:=HL7 [y.err,y.id,y.has.x0,y.has.x1,y.has.x2,y.has.x3] (fun n hn=>by
  simp only[List.mem_cons,List.not_mem_nil,or_false]at hn
  rcases hn with rfl|rfl|rfl|rfl|rfl|rfl
  all_goals exact⟨by omega,by omega⟩) []
 rw[List.append_nil,<-PX7]at h1;exact h1
def fB4(rx:List Int)(y:Rpl):Prop:=RpOk y/\rx=rpB y
theorem Ga7{s:RS}{l r:List Int}(hb:BS s)(hs:s=some l)(h:(j7 s).2=some r):l=m6 (j7 s).1++r:=by have h1:=(AQ7 hb h).1;exact Option.some.inj (hs.symm.trans h1)
theorem Sm7{e i x0 x1 x2 x3:Int}(h:RpOk ⟨e,i,⟨x0,x1,x2,x3⟩⟩)(W w:World)(R:List HP)(hS:St W R w):
  Calls Tryz.prog 193 #[rV e i x0 x1 x2 x3] w fun x w'=>x=.returned (.bool true)/\St W R w':=by
 have d0:decide (0<=e)=true:=by simpa using h.e0
 have d1:decide (e<=19)=true:=by simpa using h.e1
 have d2:decide (0<=i)=true:=by simpa using h.i0
 have d3:decide (i<=1099511627776)=true:=by simpa using h.i1
 have Hi:=jH h.has;clear h;go_enter Tryz.func193,Tryz.ntmps193;go_wp2_with(first|refine zbx hS ?_;clear hS;intro bO w hS|refine zl1 hS ?_|refine zlN hS ?_ (vs:=[.I x0,.I x1,.I x2,.I x3]) (hc:=by exact i8.here rfl)|go_at_call 116;refine(CJ7 _ _ _ _ W _ _ hS).mono ?_;clear hS;rw[Hi.out];rintro e w ⟨rfl,hS⟩);go_ret;exact⟨rfl,hS.drop⟩
theorem Ha7{x y:Int}(hx : -9223372036854775808<=x/\x<=9223372036854775807)(hy : -9223372036854775808<=y/\y<=9223372036854775807){v:Value}{W w:World}{R:List HP}(hS:St W (R5 v 2 2 [.I x,.I y] 3::R) w):
  Calls Tryz.prog 144 #[v] w fun e w'=>∃v',e=.returned v'/\St W (byR v' (r7 [x,y])::R) w':=by
 obtain⟨b,rfl,hS1⟩:=hS.sl
 exact cK4 [x,y] b 2 (by simp) (fun z hz=>by
  rcases List.mem_cons.1 hz with rfl|hz
  ·exact hx
  ·rw[List.mem_singleton.1 hz];exact hy) W w R hS1
theorem Ka7{e i x0 x1 x2 x3:Int}(h:RpOk ⟨e,i,⟨x0,x1,x2,x3⟩⟩)(W w:World)(R:List HP)(hS:St W R w):
  Calls Tryz.prog 143 #[rV e i x0 x1 x2 x3] w fun x w'=>∃v,x=.returned (.tuple #[v,.I 0])/\St W (byR v (rpB ⟨e,i,⟨x0,x1,x2,x3⟩⟩)::R) w':=by
 have e0:=h.e0;have e1:=h.e1;have i0:=h.i0;have i1:=h.i1;simp only at e0 e1 i0 i1;have l1:(r7 [e,i]).length<=18:=AM7 [e,i];have l2:(r7 [x0,x1,x2,x3]).length<=36:=AM7 [x0,x1,x2,x3];have hre : -9223372036854775808<=e/\e<=9223372036854775807:=⟨by omega,by omega⟩
 have hri : -9223372036854775808<=i/\i<=9223372036854775807:=⟨by omega,by omega⟩
 have Hre:=jH hre;have Hri:=jH hri;have Hit:=jH h.has;have Hh:=jH h;have He:=jH (show rpB ⟨e,i,⟨x0,x1,x2,x3⟩⟩=r7 [e,i]++r7 [x0,x1,x2,x3]from rfl);clear h hre hri;go_enter Tryz.func143,Tryz.ntmps143;go_wp2_with(first|refine zbx hS ?_;clear hS;intro bO w hS|refine zlN hS ?_|go_at_call 193;refine(Sm7 Hh.out W _ _ hS).mono ?_;clear hS;rintro x w ⟨rfl,hS⟩);refine rf2 [0,1,0,4,15,31,0,64,255,511,1023,2047] (fun i=>i==4||i==5||i==8||i==9) [⟨some 4,some 5,fun nd=>R5 (nd 4) 2 2 [.I e,.I i] 3⟩,⟨some 5,some 9,fun nd=>byR (nd 5) (r7 [e,i])⟩,⟨some 8,none,fun nd=>byR (nd 8) (r7 [x0,x1,x2,x3])⟩,⟨some 9,none,fun nd=>row (nd 9) 1 5 ((r7 [e,i]).length+(r7 [x0,x1,x2,x3]).length) (u8s (r7 [e,i])++u8s (r7 [x0,x1,x2,x3]))⟩] [none] hS ?_;clear hS;intro nd;refine cR ?_;refine zc1 ?_;refine cR ?_;refine zc1 ?_;apply an4;rfl;rfl;rfl;(focus(simp only[fD,fI,fJ,Act.eval,fE,fF,fG,fH,fK];try rfl));(exact esS);(exact rsS);rfl;rfl;rfl;rfl;(intro _;rfl);rfl;(intro _;rfl);(refine frS ?_);apply AP7;rfl;rfl;rfl;decide +kernel;(focus(simp only[fD,fI,fJ,Act.eval,fE,fF,fG,fH,fK];try rfl));(intro _;rfl);(intro F w hS;exact Ha7 Hre.out Hri.out hS);(refine frS ?_);refine cR ?_;refine zcN ?_ (vs:=[.I x0,.I x1,.I x2,.I x3]) (hc:=by(intro F;exact i8.here rfl));apply AP7;rfl;rfl;rfl;decide +kernel;(focus(simp only[fD,fI,fJ,Act.eval,fE,fF,fG,fH,fK];try rfl));(intro _;rfl);(intro F w hS;exact go4 ⟨x0,x1,x2,x3⟩ Hit.out W w _ hS);(refine frS ?_);apply Ai7;rfl;rfl;rfl;(focus((conv=>lhs;whnf);try rfl));(focus((conv=>lhs;whnf);try rfl));(exact esS);(exact rsS);rfl;decide;rfl;(intro F w hS;exact Ib7 (k:=1) (by decide) hS (by exact D5));(focus(rw[AS7,Nat.mul_one]));(focus(exact Be7 _));(focus(unfold maxLen;omega));(focus(omega));(intro _;rfl);(intro _;rfl);(refine frS ?_)
 iterate 2 (refine cR ?_)
 refine Ad7 ?_;intro w hS;have hS2:St W [byR (nd 8) _,row (nd 9) 1 5 _ _,blk bO _ _,sats R] w:=hS;clear hS;have hS:=hS2.unpack [_,_,_];clear hS2;simp only[jK,jN]at hS;generalize nd 9=v9 at *;go_wp2_with fail;go_ret2;refine⟨v9,rfl,?_⟩;have hS1:=hS.drop;rw[<-AB7]at hS1;rw[He.out];exact(AN7 (by rw[jA]) hS1).s _
def K8R(W:World)(L:List HP)(D:Ev)(v3 v4:Value)(w:World):Prop:=
 ∃k:Nat,v4=.I k/\k<=D.length/\St W (bs4 v3 ((D.take k).map (·.1))::L) w
theorem Uu7{xb:Nat}{d:Ec}(hl:d.vs.length<=1000000)(W w:World)(R:List HP)(hS:St W (Q6 xb d::R) w):
  Calls Tryz.prog 73 #[.P xb] w fun e w'=>∃v,e=.returned v/\St W (bs4 v (d.vs.map (·.1))::Q6 xb d::R) w':=by
 obtain⟨v1,v2,v3,v4,D,hd,hS0⟩:=bm4 hS;clear hS;have hS:=hS0.s (xeB xb v1 v2 v3 v4::xrP v1 D::w8 D::xsP v2 d.ss::xtP v3 d.ts::xmP v4 d.ar::R);clear hS0;have hD:D.length<=1000000:=by rw[<-Dm7,hd];exact hl
 have Hd:=jH hd;clear hd hl;obtain⟨a,cap,rfl⟩:=hS.drop.rowVal;go_enter Tryz.func73,Tryz.ntmps73;go_wp2_with(fail);have hS1:=hS.rowNil (k:=1) (T:=9);clear hS;have hS:=hS1;clear hS1
 go_loopw [3,4] (fun v3' v4' wr=>K8R W (xeB xb (.slice a D.length cap) v2 v3 v4::xrP (.slice a D.length cap) D::w8 D::xsP v2 d.ss::xtP v3 d.ts::xmP v4 d.ar::R) D v3' v4' wr) (fun _ v4' _=>D.length-(intOf v4').toNat)
 case atStart=>exact⟨0,rfl,Nat.zero_le _,hS⟩
 case round=>
  clear hS;obtain⟨k,rfl,hkl,hS⟩:=hrel;by_cases hkn:k=D.length
  ·rw[hkn,List.take_length]at hS;have hd1:decide (k<D.length)=false:=by simp;omega
   clear hkl hkn;go_wp2_with(first|refine zl1 hS ?_);go_ret;refine⟨_,rfl,?_⟩;rw[<-Hd.out,BA7];exact(aw4 Hd.out (hS.s (dg4 xb (.slice a D.length cap) v2 v3 v4 D d (bs4 _ (D.map (·.1))::R)))).swap
  ·have hk1:k<D.length:=by omega
   have hd1:decide (k<D.length)=true:=by simp;omega
   obtain⟨⟨g,rfl⟩,_,_⟩:=St.rowAddr hS.drop.drop (by omega);have hname:∀{K K':List HP},Take K (xrP (.S g D.length cap) D) K'->i9 K g (k*2) (.string D[k].1):=fun hu=>i8.elemM (enc:=rwC) Bm7 hu hk1 0 _ rfl
   have hstep:=CL7 (fun x:ByteArray×(Nat×Vs)=>x.1) D hk1;have hbl:((D.take k).map (·.1)).length<=1000000:=by rw[jM,jT];omega
   have Hstep:=jH hstep;clear hstep hkn hkl;generalize (D.take k).map (·.1)=acc at hS Hstep hbl;generalize D[k]=x at hname Hstep;obtain⟨xk,xv⟩:=x;go_wp2_with(first|refine zl1 hS ?_ (hc:=by exact hname (by exact j5))|refine zl1 hS ?_|refine zbs hS ?_;clear hS;intro bS w hS|refine zap hS ?_ (h63:=by unfold maxLen;omega) (hb:=by omega);clear hS;intro v w hS);go_roundw
   case rel=>
    refine⟨k+1,rfl,hk1,?_⟩;rw[Hstep.out];have h0:St W (row v 1 9 (acc.length+1) (acc.map eS++[xk].map eS)::_) w:=hS;rw[<-List.map_append]at h0;unfold bs4;rw[jA,List.length_singleton];exact h0.s _
   case measure=>simp[intOf];omega
theorem en4(v:Value)(l:List Int)(hl:l.length<=60000000)(W w:World)(R:List HP)(hS:St W (byR v l::R) w):
  Calls Tryz.prog 141 #[v] w fun e w'=>∃v',e=.returned v'/\St W (byR v' (F7 l)::R) w':=by
 obtain⟨a,c,rfl⟩:=hS.rowVal;have hln:=Ak7 (l.length:Int);go_enter Tryz.func141,Tryz.ntmps141;go_wp2_with(first|go_at_call 140;refine(cX4 _ ⟨by omega,by omega⟩ W _ _ hS).mono ?_;clear hS;rintro e w ⟨vn,rfl,hS⟩;(have hv:=hS.rowVal;obtain⟨na,nc,rfl⟩:=hv)|(with_reducible apply Ae7 hS);rfl;rfl;rfl;rfl;exact esS;exact rsS;rfl;decide;exact j5;exact(St.src (by decide) hS.drop).there;(focus(rw[AS7,Nat.mul_one]));exact Be7 _;(focus(unfold maxLen;omega));(focus(omega));clear hS;intro v w hS;refine frS ?_);go_ret;refine⟨v,rfl,?_⟩;have h0:St W (row v 1 5 ((m6 l.length).length+l.length) (u8s (m6 l.length)++u8s l)::_) w:=hS;rw[<-AB7]at h0;unfold F7;exact(AN7 (by rw[jA]) h0).s _
theorem PY7{vb N:Nat}{V:Vs}(hp:N5 V.ps)(hw:PsW V.ps N)(hN:N<=1000000)(hmay:∀x∈V.L,MayP x)(hl32:V.L.length<=32)(hn0:1<=V.n)(hn1:V.n<=1099511627777){W w:World}{R:List HP}(hS:St W (dvP vb V::R) w):
  Calls Tryz.prog 142 #[.P vb] w fun e w'=>∃v,e=.returned v/\St W (byR v (I5 V.ps V.L V.n)::dvP vb V::R) w':=by
 obtain⟨xB,hS0⟩:=de4 hS;obtain⟨xv,hS1⟩:=bc4 hS0;obtain⟨la,lc,last,hlast,hS2⟩:=bD4 (hS1.s (xkP xB V.L V.n::blk vb _ _::hdR _ (hdL V.ps)::R));clear hS hS0 hS1;obtain⟨ha,hc,rfl⟩:=hS2.drop.drop.drop.rowVal;refine(OP7 vb xB ha la hc lc last V.ps V.L V.n hp hw hN hmay hl32 hn0 hn1 W w R hS2).mono ?_;rintro e w' ⟨v,rfl,hS⟩;refine⟨v,rfl,?_⟩;have hS3:=aT4 hlast (hS.s (blk xB _ _::j8 _ V.L::blk vb _ _::hdR _ (hdL V.ps)::byR v _::R));exact(bF4 (au4 (hS3.s (blk vb _ _::hdR _ (hdL V.ps)::xkP xB V.L V.n::byR v _::R)))).swap
def fKv(x:ByteArray×(Nat×Vs)):List Int:=C9 x.1++F7 (I5 x.2.2.ps x.2.2.L x.2.2.n)
def fSe(x:Int×(Int×Rpl)):List Int:=r7 [x.1,x.2.1]++F7 (rpB x.2.2)
def fAr(x:(Int×Int)×Unit):List Int:=r7 [x.1.1,x.1.2]
theorem DI7{α β:Type}{f g:α->List β}:∀{l:List α},(∀x∈l,f x=g x)->l.flatMap f=l.flatMap g
 | [],_=>rfl
 | x::l,h=>by rw[List.flatMap_cons,List.flatMap_cons,h x (List.mem_cons_self ..),DI7 fun y hy=>h y (List.mem_cons_of_mem _ hy)]
theorem PZ7{d:Ec}{D:Ev}(hd:r6 D=d.vs)(hn:(d.vs.map (·.1)).Nodup):D.flatMap fKv=(d.vs.map (·.1)).flatMap (enK d):=by
 rw[<-hd,BA7,List.flatMap_map];refine DI7 fun x hx=>?_
 have h1:(x.1,x.2.2)∈d.vs:=by rw[<-hd];exact List.mem_map.2 ⟨x,hx,rfl⟩
 have h2:atV d x.1=x.2.2:=by unfold atV;rw[Br7 hn h1];rfl
 unfold fKv enK;rw[h2];unfold C9 F7;rw[Ay7]
theorem Lc7{d:Ec}(hn:(d.ss.map (·.1)).Nodup):d.ss.flatMap fSe=(d.ss.map (·.1)).flatMap (enS d):=by
 rw[List.flatMap_map];refine DI7 fun x hx=>?_
 unfold fSe enS;rw[Br7 (v:=x.2) hn hx];rfl
theorem Ld7(d:Ec):d.ar.flatMap fAr=(d.ar.map (·.1)).flatMap enA:=by rw[List.flatMap_map];rfl
section
variable{W w:World}{vb mb bb:Nat}{p p2:Ps}{L L2:List Ord}{n r:Int}{u1 u2:Value}{L1 R1:List HP}
end
section
variable{W w:World}{xb xB:Nat}{p p2:Ps}{L L2:List Ord}{n r:Int}{N:Nat}{R:List HP}
end
section
variable{W w:World}{vb mb bb xb xB:Nat}{p p2:Ps}{L L2:List Ord}{n n2 r1 r2:Int}{N:Nat}{R:List HP}{o:Ord}
end
def PlR(W:World)(Lr:List HP)(m vb mb bb xb xB:Nat)(v:Value)(w:World):Prop:=
 ∃(i:Nat) (p:Ps) (L:List Ord) (n:Int),v=.I i/\i<=m/\i<=100/\VOk p n i/\S9 L/\St W (B7 vb mb bb p L n (xvR xb xB p L n Lr)) w
theorem Ny7{W w:World}{R:List HP}{bb:Nat}{L:List Ord}{m:Int}(h:St W (w7 bb L m::R) w):bp4 L:=by obtain⟨b,hr,_,_⟩:=aD4 h;exact hr.byId
theorem Vu7{p:Ps}{N:Nat}(h:N5 p)(hw:PsW p N):PuI p N:=⟨h,hw,hw.who⟩
theorem Vv7{L:List Ord}{n:Int}(h32:L.length<=32)(hid:bp4 L)(hap:S9 L)(heach:∀x∈L,MayP x/\x.id<n)(h0:1<=n)(h1:n<=1099511627777):OkN L n:=by
 refine⟨h32,?_,?_,h0,h1⟩
 ·intro j hj;have hmem:at' L j∈L:=L8 hj;have hm:=(heach _ hmem).1;unfold bI4;rw[Ao7.2 hm]
  have hlast:¬((at' L j).id<=aC4 L j):=by
   cases j with
   | zero=>
    have:=hm.id0;show ¬((at' L 0).id<=0)
    omega
   | succ k=>
    have:=hid.lt hj (Nat.lt_succ_self k);show ¬((at' L (k+1)).id<=(at' L k).id)
    omega
  have hbest:B8 (at' L j) (L.take j) (L.take j).length=none:=by
   cases hb:B8 (at' L j) (L.take j) (L.take j).length with
   | none=>rfl
   | some k=>
    obtain⟨hk,hmt,_⟩:=AK7 hb;have h2:=hap _ hmem _ (List.mem_of_mem_take (L8 hk));rw[h2]at hmt
    cases hmt
  rw[hbest,decide_eq_false hlast];rfl
 ·rcases Nat.eq_zero_or_pos L.length with h|h
  ·rw[h];show(0:Int)<n
   omega
  ·rw[Ph7 h];exact(heach _ (jW _)).2
theorem Sn7{p:Ps}{N:Nat}{L:List Ord}{n:Int}(hp:N5 p)(hw:PsW p N)(hN:N<=4611686018427387904)(hn:OkN L n):∃q,VGk (I5 p L n) q L n/\hdL q=hdL p:=by
 obtain⟨h1,h2,h3,h4⟩:=Rw7 (Vu7 hp hw) hN hn rfl;obtain⟨q,s,g1,g2,g3,g4⟩:=Rv7 (DF7 p L n) h1;refine⟨q,⟨s,g1,?_,?_,hn,?_⟩,by rw[g2,h2]⟩
 ·rw[g3,h3]
 ·unfold gN;rw[g3];exact(Prod.ext h4 h1.1:dN (I5 p L n)=(n,some []))
 ·rw[h3,h4]at g4;exact g4
theorem Vw7{p q:Ps}(h:hdL q=hdL p)(xb:Nat)(vB:Value)(n:Int):xvP xb vB n p=xvP xb vB n q:=by unfold xvP;rw[h]
theorem SY7{b:List Int}{q:Ps}{L:List Ord}{n:Int}(hb:ByB b)(h:VGk b q L n):N5 q/\PsW q (b.length+1):=by obtain⟨s,h1,_⟩:=h;have h2:=(ft4 hb h1).1;exact⟨h2.ok,h2.w⟩
def bN4{α:Type}(S:List Int->α->List Int->Prop):List Int->List α->List Int->Prop
 | b,[],r=>b=r
 | b,x::l,r=>∃m,S b x m/\bN4 S m l r
section
variable{α β:Type}{S:List Int->α->List Int->Prop}
theorem EQ7{f:α->List Int}(hf:∀b x r,ByB b->S b x r->b=f x++r/\ByB r):∀{l:List α} {b r:List Int},ByB b->bN4 S b l r->b=l.flatMap f++r/\ByB r
 | [],_,_,h,h1=>by cases h1;exact⟨rfl,h⟩
 | x::l,b,r,h,⟨m,h1,h2⟩=>by obtain⟨h3,h4⟩:=hf _ _ _ h h1;obtain⟨h5,h6⟩:=EQ7 hf h4 h2;refine⟨?_,h6⟩;rw[List.flatMap_cons,jS,<-h5];exact h3
theorem ER7{f:α->List Int}{P:α->Prop}(hy:∀x r,P x->S (f x++r) x r):∀{l:List α} {r:List Int},(∀x∈l,P x)->bN4 S (l.flatMap f++r) l r
 | [],_,_=>rfl
 | x::l,r,hp=>by refine⟨l.flatMap f++r,?_,ER7 hy fun y h=>hp y (List.mem_cons_of_mem _ h)⟩;rw[List.flatMap_cons,jS];exact hy _ _ (hp x (List.mem_cons_self ..))
end
def ca4(b:List Int)(x:ByteArray×Vs)(r:List Int):Prop:=
 (m8 (m8 (some b)).2).2=some r/\x.1=E7 (m8 (some b)).1/\C8 x.1=true/\VGk (m8 (m8 (some b)).2).1 x.2.ps x.2.L x.2.n/\C6 x.2=false
def cE4(b:List Int)(x:Int×(Int×Rpl))(r:List Int):Prop:=
 (m8 (j7 (j7 (some b)).2).2).2=some r/\x.1=(j7 (some b)).1/\x.2.1=(j7 (j7 (some b)).2).1/\whB x.1 x.2.1=true/\fB4 (m8 (j7 (j7 (some b)).2).2).1 x.2.2
def dZ4(s:RS):RS:=(j7 (j7 s).2).2
def ea4(s:RS):RS:=(m8 (dZ4 s)).2
def eb4(s:RS):RS:=(m8 (ea4 s)).2
def ec4(s:RS):RS:=(m8 (eb4 s)).2
def ed4(s:RS):RS:=(m8 (ec4 s)).2
def ee4(s:RS):RS:=(j7 (ed4 s)).2
def eW4(s:RS):RS:=(j7 (ee4 s)).2
def rdT(s:RS):Tns:=⟨(j7 s).1,(j7 (j7 s).2).1,E7 (m8 (dZ4 s)).1,E7 (m8 (ea4 s)).1,E7 (m8 (eb4 s)).1,E7 (m8 (ec4 s)).1,(j7 (ed4 s)).1,(j7 (ee4 s)).1⟩
def cl4(b:List Int)(x:(Int×Int)×Tns)(r:List Int):Prop:=
 eW4 (some b)=some r/\x.2=rdT (some b)/\x.1=(x.2.client,x.2.seq)/\es4 x.2=true
def cm4(b:List Int)(x:(Int×Int)×Unit)(r:List Int):Prop:=
 (j7 (j7 (some b)).2).2=some r/\x.1=((j7 (some b)).1,(j7 (j7 (some b)).2).1)/\whB x.1.1 x.1.2=true
theorem Do7{b:List Int}(h:ByB b):BS (some b):=fun l hl=>by cases hl;exact h
theorem FC7{s:RS}(h:BS s):BS (j7 s).2:=fun _ hr=>(AQ7 h hr).2.2.2
theorem ES7{s:RS}(h:BS s):BS (m8 s).2:=fun _ hr=>(BX7 h hr).2
theorem Hb7{s:RS}{r:List Int}(hb:BS s)(h:(m8 s).2=some r):s=some (F7 (m8 s).1++r)/\ByB r:=by obtain⟨l,rfl⟩:=AG7 h;obtain⟨h1,h2,h3⟩:=Fy7 (hb l rfl) (show m8 (some l)=((m8 (some l)).1,some r)by rw[<-h]);refine⟨?_,h3⟩;rw[<-GY7,BI7 h2]at h1;rw[<-h1]
theorem Cx7{l x r:List Int}(h:some l=some (x++r)):l=x++r:=Option.some.inj h
def fK(x:ByteArray×Vs):List Int:=C9 x.1++F7 (I5 x.2.ps x.2.L x.2.n)
theorem Qa7(b:List Int)(x:ByteArray×Vs)(r:List Int)(hb:ByB b)(h:ca4 b x r):b=fK x++r/\ByB r:=by obtain⟨h1,h2,_,h4,_⟩:=h;obtain⟨l1,e1⟩:=AG7 h1;obtain⟨a1,a2⟩:=BX7 (Do7 hb) e1;have hb1:BS (m8 (some b)).2:=ES7 (Do7 hb);obtain⟨c1,c2⟩:=Hb7 hb1 h1;obtain⟨s,_,_,_,_,g5⟩:=h4;refine⟨?_,c2⟩;rw[e1]at c1;have c3:=Cx7 c1;rw[<-e1,<-g5]at c3;unfold fK;rw[jS,<-c3,h2];exact Cx7 a1
theorem Qb7(b:List Int)(x:Int×(Int×Rpl))(r:List Int)(hb:ByB b)(h:cE4 b x r):b=fSe x++r/\ByB r:=by obtain⟨h1,h2,h3,_,h5,h6⟩:=h;obtain⟨l2,e2⟩:=AG7 h1;obtain⟨l1,e1⟩:=Ar7 e2;obtain⟨a1,_,_,a4⟩:=AQ7 (Do7 hb) e1;obtain⟨c1,_,_,c4⟩:=AQ7 (FC7 (Do7 hb)) e2;obtain⟨d1,d2⟩:=Hb7 (FC7 (FC7 (Do7 hb))) h1;refine⟨?_,d2⟩;rw[e1]at c1;rw[e2]at d1;have c3:=Cx7 c1;have d3:=Cx7 d1;rw[<-e1]at c3;rw[<-e2,h6]at d3;unfold fSe r7;simp only[List.flatMap_cons,List.flatMap_nil,List.append_nil,jS];rw[<-d3,h3,<-c3,h2];exact Cx7 a1
theorem Qc7(b:List Int)(x:(Int×Int)×Unit)(r:List Int)(hb:ByB b)(h:cm4 b x r):b=fAr x++r/\ByB r:=by obtain⟨h1,h2,_⟩:=h;obtain⟨l1,e1⟩:=Ar7 h1;obtain⟨a1,_,_,a4⟩:=AQ7 (Do7 hb) e1;obtain⟨c1,_,_,c4⟩:=AQ7 (FC7 (Do7 hb)) h1;refine⟨?_,c4⟩;rw[e1]at c1;have c3:=Cx7 c1;rw[<-e1]at c3;unfold fAr r7;simp only[List.flatMap_cons,List.flatMap_nil,List.append_nil,jS];rw[h2];simp only;rw[<-c3];exact Cx7 a1
theorem So7{b r:List Int}(h:eW4 (some b)=some r):∃l1 l2 l3 l4 l5 l6 l7,(j7 (some b)).2=some l1/\dZ4 (some b)=some l2/\ea4 (some b)=some l3/\eb4 (some b)=some l4/\ec4 (some b)=some l5/\ed4 (some b)=some l6/\ee4 (some b)=some l7:=by obtain⟨l7,e7⟩:=Ar7 (s:=ee4 (some b)) h;obtain⟨l6,e6⟩:=Ar7 (s:=ed4 (some b)) e7;obtain⟨l5,e5⟩:=AG7 (s:=ec4 (some b)) e6;obtain⟨l4,e4⟩:=AG7 (s:=eb4 (some b)) e5;obtain⟨l3,e3⟩:=AG7 (s:=ea4 (some b)) e4;obtain⟨l2,e2⟩:=AG7 (s:=dZ4 (some b)) e3;obtain⟨l1,e1⟩:=Ar7 e2;exact⟨l1,l2,l3,l4,l5,l6,l7,e1,e2,e3,e4,e5,e6,e7⟩
theorem DJ7{s:RS}{l r:List Int}(hb:BS s)(hs:s=some l)(h:(m8 s).2=some r):l=C9 (E7 (m8 s).1)++r:=by have h1:=(BX7 hb h).1;exact Cx7 (hs.symm.trans h1)
theorem Qd7(b:List Int)(x:(Int×Int)×Tns)(r:List Int)(hb:ByB b)(h:cl4 b x r):b=enT x++r/\ByB r:=by obtain⟨h1,h2,_,_⟩:=h;obtain⟨l1,l2,l3,l4,l5,l6,l7,e1,e2,e3,e4,e5,e6,e7⟩:=So7 h1;have b0:=Do7 hb;have b1:BS (j7 (some b)).2:=FC7 b0;have b2:BS (dZ4 (some b)):=FC7 b1;have b3:BS (ea4 (some b)):=ES7 b2;have b4:BS (eb4 (some b)):=ES7 b3;have b5:BS (ec4 (some b)):=ES7 b4;have b6:BS (ed4 (some b)):=ES7 b5;have b7:BS (ee4 (some b)):=FC7 b6;have a0:=Ga7 b0 rfl e1;have a1:=Ga7 b1 e1 e2;have a2:=DJ7 b2 e2 e3;have a3:=DJ7 b3 e3 e4;have a4:=DJ7 b4 e4 e5;have a5:=DJ7 b5 e5 e6;have a6:=Ga7 b6 e6 e7;have a7:=Ga7 b7 e7 h1;refine⟨?_,FC7 b7 _ h1⟩;unfold enT r7;simp only[GY7];rw[h2];unfold rdT;simp only[List.flatMap_cons,List.flatMap_nil,List.append_nil,jS];rw[<-a7,<-a6,<-a5,<-a4,<-a3,<-a2,<-a1];exact a0
theorem FD7{x:List Int}(_:ByB x)(hl:x.length<=5000000)(r:List Int):m8 (some (F7 x++r))=(x,some r):=by
 unfold m8 F7;rw[jS,Aq7 (by omega) (by omega)];unfold aW4;simp only;rw[if_pos ⟨by omega,by rw[jA];omega⟩];have e:((x.length:Int)).toNat=x.length:=by omega
 rw[e,List.take_left,List.drop_left]
theorem Uv7{x:(Int×Int)×Tns}(h:TnOk x.2)(r:List Int):rdT (some (enT x++r))=x.2/\eW4 (some (enT x++r))=some r:=by
 obtain⟨k,⟨tc,tq,ak,aw,tk,tw,ti,tn⟩⟩:=x;obtain⟨⟨⟨w1,w2⟩,w3,w4⟩,h1,h2,h3,h4,i0,i1,c0,c1⟩:=h;simp only at w1 w2 w3 w4 h1 h2 h3 h4 i0 i1 c0 c1;have e:enT (k,⟨tc,tq,ak,aw,tk,tw,ti,tn⟩)++r=m6 tc++(m6 tq++(C9 ak++(C9 aw++(C9 tk++(C9 tw++(m6 ti++(m6 tn++r))))))):=by unfold enT r7;simp only[GY7];simp
 rw[e];have q1:=Aq7 (n:=tc) (by omega) (by omega) (m6 tq++(C9 ak++(C9 aw++(C9 tk++(C9 tw++(m6 ti++(m6 tn++r)))))));have q2:=Aq7 (n:=tq) (by omega) (by omega) (C9 ak++(C9 aw++(C9 tk++(C9 tw++(m6 ti++(m6 tn++r))))));have q3:=Bf7 ak (by omega) (C9 aw++(C9 tk++(C9 tw++(m6 ti++(m6 tn++r)))));have q4:=Bf7 aw (by omega) (C9 tk++(C9 tw++(m6 ti++(m6 tn++r))));have q5:=Bf7 tk (by omega) (C9 tw++(m6 ti++(m6 tn++r)));have q6:=Bf7 tw (by omega) (m6 ti++(m6 tn++r));have q7:=Aq7 (n:=ti) (by omega) (by omega) (m6 tn++r);have q8:=Aq7 (n:=tn) (by omega) (by omega) r;unfold rdT eW4 ee4 ed4 ec4 eb4 ea4 dZ4;simp only[q1,q2,q3,q4,q5,q6,q7,q8,Ez7];exact⟨trivial,trivial⟩
end Go.Proofs.YtlmhakmoioogaaaGreat
end
