/-
  An economy as bytes, the program's. For every economy behind requests.
  played; what was asked once is known. For every row of requests.
  Both economies' bytes are the same; what holds behind requests, totals too. The plain law: no program in sight.
-/
import Derived.Test.YtlmhakmoioogaaaGreatEconPlaysM5
import Derived.Test.YtlmhakmoioogaaaGreatEconPlaysM15
import Derived.Test.YtlmhakmoioogaaaGreatEconPlaysM49
import Derived.Test.YtlmhakmoioogaaaGreatEconPlaysM50
set_option maxHeartbeats 16000000
set_option maxRecDepth 100000
set_option linter.unusedSimpArgs false
set_option linter.unusedVariables false
section
namespace Go.Proofs.YtlmhakmoioogaaaGreat
open Go.RowKit Go.Sl
def enS(e:Ec)(c:Int):List Int:=numsB [c,((getL e.ss c).getD (0,rp0)).1]++encR (rpB ((getL e.ss c).getD (0,rp0)).2)
def enT(x:(Int×Int)×Tns):List Int:=numsB [x.2.client,x.2.seq]++(encR (strI x.2.ak)++(encR (strI x.2.aw)++(encR (strI x.2.tk)++encR (strI x.2.tw))))++numsB [x.2.item,x.2.cnt]
def enA(k:Int×Int):List Int:=numsB [k.1,k.2]
def EncIs(e:Ec)(d:List Int):Prop:=∃(T:List ((Int×Int)×Tns)) (A:List (Int×Int)),T.Perm e.ts∧Asc ltW T∧A.Perm (e.ar.map (·.1))∧A.Pairwise (fun x y=>ltW x y=true) ∧
 d=numB e.vs.length++(ksE e).flatMap (enK e)++numB e.ss.length++(srtI (e.ss.map (·.1))).flatMap (enS e)++numB e.ts.length++T.flatMap enT++numB e.ar.length++A.flatMap enA
theorem OQ7{e:Ec}{d d':List Int}(h:EncIs e d)(h':EncIs e d'):d=d':=by
 obtain⟨T,A,h1,h2,h3,h4,rfl⟩:=h
 obtain⟨T',A',h1',h2',h3',h4',rfl⟩:=h'
 rw[MY7 Ax7 h2 h2' (h1.trans h1'.symm)]
 have:A=A':=List.Perm.eq_of_pairwise (fun a b _ _ g1 g2=>by
  have:=Ax7.tr _ _ _ g1 g2
  rw[Ax7.irr]at this
  cases this) h4 h4' (h3.trans h3'.symm)
 rw[this]
theorem EF7{α:Type}(f:α→List Int)(c:Nat)(xs:List α)(h:∀x∈xs,(f x).length≤c):(xs.flatMap f).length≤c*xs.length:=by
 induction xs with
 | nil=>simp
 | cons x xs ih=>
  have h1:=h x (List.mem_cons_self ..)
  have h2:=ih fun y hy=>h y (List.mem_cons_of_mem _ hy)
  rw[List.flatMap_cons,List.length_append,List.length_cons,Nat.mul_succ]
  omega
theorem Rj7(e:Ec)(c:Int):(enS e c).length≤100:=by
 have h1:=AF7 [c,((getL e.ss c).getD (0,rp0)).1]
 have h2:=AS7 (rpB ((getL e.ss c).getD (0,rp0)).2)
 have h3:=FI7 ((getL e.ss c).getD (0,rp0)).2
 unfold enS
 rw[List.length_append]
 simp only[List.length_cons,List.length_nil]at h1
 omega
theorem Nr7{x:(Int×Int)×Tns}(h:TnOk x.2):(enT x).length≤200:=by
 have h1:=AF7 [x.2.client,x.2.seq]
 have h2:=AF7 [x.2.item,x.2.cnt]
 have e1:=AS7 (strI x.2.ak)
 have e2:=AS7 (strI x.2.aw)
 have e3:=AS7 (strI x.2.tk)
 have e4:=AS7 (strI x.2.tw)
 rw[AE7]at e1 e2 e3 e4
 have:=h.ak;have:=h.aw;have:=h.tk;have:=h.tw
 unfold enT
 simp only[List.length_append]
 simp only[List.length_cons,List.length_nil]at h1 h2
 omega
theorem Rk7(k:Int×Int):(enA k).length≤18:=by
 have h1:=AF7 [k.1,k.2]
 simp only[List.length_cons,List.length_nil]at h1
 exact h1
abbrev zrR(v:Value)(l:List Int):HP:=row v 1 3 l.length (l.map eZ)
abbrev waR(v:Value)(l:List (Int×Int)):HP:=row v 2 94 l.length (l.flatMap whC)
theorem Jz7{eb:Nat}{e:Ec}{n:Nat}(hE:EnL e n)(hn:n≤600)(W w:World)(R:List HP)(hS:St W (ecP eb e::R) w):
  Calls Tryz.prog 27 #[.pointer (some ⟨eb,0,none⟩)] w fun x w'=>∃v d,x=.returned v∧EncIs e d∧St W (byR v d::ecP eb e::R) w':=by
 have hEach:=FU7 hS
 have hkl:=Qx7 hE hEach hn
 have hlv:=hE.en.lv
 have hls:=hE.en.ls
 have hlt:=hE.en.lt
 have hla:=hE.en.la
 obtain⟨m1,m2,m3,m4,E,hp,hnd,hS0⟩:=ecOpenR hS
 have hS1:=evOpen hS0
 clear hS hS0
 have hS:=hS1
 clear hS1
 have hEl:(ptrsE E).length=e.vs.length:=by
  have h1:=hp.length_eq
  unfold stripE at h1
  unfold ptrsE
  rw[List.length_map]at h1 ⊢
  exact h1
 have HEl:=Lib.hid hEl
 have HE:=Lib.hid hE
 have HEach:=Lib.hid hEach
 have Hp:=Lib.hid hp
 have hpl:(ptrsE E).length≤600:=by omega
 have hb0:=Am7 ((ptrsE E).length:Int)
 clear hEl hE hEach hp hnd
 go_enter Tryz.func27,Tryz.ntmps27
 go_wp2_with(first|(refine zal hS ?_;clear hS;intro wb w hS)|(refine zl1 hS ?_)|((with_reducible apply GC7 (ek:=eS) (ev:=eN) hS);(with_reducible rfl);rfl;rfl;exact mV;(exact takeS);(refine frS ?_))|(refine zbs hS ?_;clear hS;intro bS w hS)|(go_at_call 65;refine(nums1E wb [] ((ptrsE E).length:Int) bS 1 (by simp) ⟨by omega,by omega⟩ W _ _ (wrNew (hS.s (blk wb _ _::blk bS _ _::ebB eb m1 m2 m3 m4::amap eS eN m1 (ptrsE E)::vauP E::amap eI eSs m2 e.ss::amap eW eTn m3 e.ts::amap eW eU m4 e.ar::R)))).mono ?_;clear hS;rw[List.nil_append];rintro x w ⟨rfl,hS⟩))
 have hS9:=ecShut Hp.out (hS.s (ebB eb m1 m2 m3 m4::amap eS eN m1 (ptrsE E)::vauP E::amap eI eSs m2 e.ss::amap eW eTn m3 e.ts::amap eW eU m4 e.ar::wrR wb _::R))
 rw[HEl.out]at hS9
 clear hS
 refine(Iw7 (fun x hx=>by have:=HE.out.en.vk x hx;unfold maxLen;omega) (by omega) W _ _ hS9).mono ?_
 clear hS9 HEl Hp hpl hb0
 rintro x w ⟨v,rfl,hS8⟩
 obtain⟨sa,sc,rfl⟩:=hS8.rowVal
 obtain⟨m1,m2,m3,m4,E,hp,hnd,hS7⟩:=ecOpenR hS8.swap
 have hS6:=evOpen hS7
 clear hS8 hS7
 have hS:=hS6.s (wrR wb _::strR (.slice sa (ksE e).length sc) (ksE e)::ebB eb m1 m2 m3 m4::amap eS eN m1 (ptrsE E)::vauP E::amap eI eSs m2 e.ss::amap eW eTn m3 e.ts::amap eW eU m4 e.ar::R)
 clear hS6
 have hkv:∀k∈ksE e, ∃vb V,getL (ptrsE E) k=some vb∧E.Perm ((k,(vb,V))::delL E k)∧atV e k=V∧VOk V.ps V.n n∧k.size≤16∧(∀o∈V.L,MayP o)∧V.L.length≤32:=by
  intro k hk
  obtain⟨x,hx,rfl⟩:=List.mem_map.1 ((Au7 _).mem_iff.1 hk)
  obtain⟨y,hy,rfl⟩:=List.mem_map.1 (hp.mem_iff.2 hx)
  have h4:getL E y.1=some y.2:=Bh7 hnd hy
  refine⟨y.2.1,y.2.2,?_,Bl7 hnd h4,?_,HE.out.en.ok _ hx,HE.out.en.vk _ hx,(HEach.out _ hx).1,(HEach.out _ hx).2⟩
  ·rw[Cx7,h4];rfl
  ·rw[GW7 hnd hp];unfold vAt;rw[h4];rfl
 have hkn:(ksE e).length≤600:=by rw[Hd7];omega
 generalize hkse:ksE e=ks at *
 have Hks:=Lib.hid hkse
 clear hkse
 have Hkv:=Lib.hid hkv
 have Hp:=Lib.hid hp
 clear hkv hp hnd
 have hb0:=Am7 (e.vs.length:Int)
 obtain⟨b0,hb0e⟩:∃d,numB (e.vs.length:Int)=d:=⟨_,rfl⟩
 rw[hb0e]at hS hb0
 have Hb0:=Lib.hid hb0e
 clear hb0e
 go_wp2_with(fail)
 go_loopw [27] (fun v wr=>CwR W (strR (.slice sa ks.length sc) ks::ebB eb m1 m2 m3 m4::amap eS eN m1 (ptrsE E)::vauP E::amap eI eSs m2 e.ss::amap eW eTn m3 e.ts::amap eW eU m4 e.ar::R) wb (enK e) b0 ks v wr) (fun v _=>ks.length-(intOf v).toNat)
 case atStart=>exact⟨0,rfl,Nat.zero_le _,by simpa using hS⟩
 case round=>
  clear hS
  obtain⟨k,rfl,hkk,hS⟩:=hrel
  by_cases hend:k=ks.length
  ·rw[hend,List.take_length]at hS
   have hd1:decide (k<ks.length)=false:=by simp;omega
   clear hkk hend
   have hb1:(b0++ks.flatMap (enK e)).length≤6000010:=by rw[List.length_append];omega
   obtain⟨b1,hb1e⟩:∃d,b0++ks.flatMap (enK e)=d:=⟨_,rfl⟩
   rw[hb1e]at hS hb1
   have Hb1:=Lib.hid hb1e
   clear hb1e Hkv hkl hkn
   go_wp2_with(first|(refine zl1 hS ?_)|((with_reducible apply GC7 (ek:=eI) (ev:=eSs) hS);(with_reducible rfl);rfl;rfl;exact mS;(exact takeS);(refine frS ?_))|(refine zbs hS ?_;clear hS;intro bS w hS)|(go_at_call 65;(have hS2:St W (blk bS [.int .i64 (e.ss.length:Int)] 3::_) _:=hS);refine(nums1E wb b1 (e.ss.length:Int) bS 1 (by omega) ⟨by omega,by omega⟩ W _ _ (hS2.s (wrR wb b1::blk bS _ _::ebB eb m1 m2 m3 m4::amap eS eN m1 (ptrsE E)::vauP E::amap eI eSs m2 e.ss::amap eW eTn m3 e.ts::amap eW eU m4 e.ar::R))).mono ?_;clear hS hS2;rintro x w ⟨rfl,hS⟩)|(go_at_call 69;refine(Lr7 (some m2) W _ _ hS).mono ?_;clear hS;rintro x w ⟨g2,rfl,hS⟩)|(go_at_call 68;refine(sortedZ (K:=e.ss.map (·.1)) (by rw[List.length_map];omega) Jw7 Iy7 (hS.s (blk g2 [.map (some m2)] 80::amap eI eSs m2 e.ss::wrR wb _::ebB eb m1 m2 m3 m4::amap eS eN m1 (ptrsE E)::vauP E::amap eW eTn m3 e.ts::amap eW eU m4 e.ar::R))).mono ?_;clear hS;rintro x w ⟨v2,rfl,hS⟩;rw[←Fb7 (e.ss.map (·.1))]at hS;(have hv:=hS.rowVal;obtain⟨sa2,sc2,rfl⟩:=hv)))
   have hns:=amapKeys (hS.s (amap eI eSs m2 e.ss::R))
   have hcs:∀c∈srtI (e.ss.map (·.1)), ∃q r,getL e.ss c=some (q,r)∧whOk (c,q)∧RpOk r:=by
    intro c hc
    obtain⟨x,hx,rfl⟩:=List.mem_map.1 ((CN7 _).mem_iff.1 hc)
    exact⟨x.2.1,x.2.2,Bh7 hns hx,HE.out.en.sw x hx,HE.out.en.sr x hx⟩
   have hcl:(srtI (e.ss.map (·.1))).length≤600:=by rw[Fb7,List.length_map];omega
   have hSz:=hS.s (wrR wb _::zrR (.slice sa2 (srtI (e.ss.map (·.1))).length sc2) (srtI (e.ss.map (·.1)))::ebB eb m1 m2 m3 m4::amap eS eN m1 (ptrsE E)::vauP E::amap eI eSs m2 e.ss::amap eW eTn m3 e.ts::amap eW eU m4 e.ar::R)
   clear hS
   have hS:=hSz
   clear hSz hns
   generalize hcse:srtI (e.ss.map (·.1))=cs at *
   have Hcse:=Lib.hid hcse
   have Hcs:=Lib.hid hcs
   have hb2:=Am7 (e.ss.length:Int)
   obtain⟨b2,hb2e⟩:∃d,b1++numB (e.ss.length:Int)=d:=⟨_,rfl⟩
   have hb2l:b2.length≤6000020:=by rw[←hb2e,List.length_append];omega
   rw[hb2e]at hS
   have Hb2:=Lib.hid hb2e
   have hsl:=EF7 (enS e) 100 cs fun c _=>Rj7 e c
   clear hcse hcs hb2 hb2e
   go_wp2_with(fail)
   go_loopw [57] (fun v wr=>CwR W (zrR (.slice sa2 cs.length sc2) cs::ebB eb m1 m2 m3 m4::amap eS eN m1 (ptrsE E)::vauP E::amap eI eSs m2 e.ss::amap eW eTn m3 e.ts::amap eW eU m4 e.ar::R) wb (enS e) b2 cs v wr) (fun v _=>cs.length-(intOf v).toNat)
   case atStart=>exact⟨0,rfl,Nat.zero_le _,by simpa using hS⟩
   case round=>
    clear hS
    obtain⟨k,rfl,hkk,hS⟩:=hrel
    by_cases hend:k=cs.length
    ·rw[hend,List.take_length]at hS
     have hd1:decide (k<cs.length)=false:=by simp;omega
     clear hkk hend
     have hb3:(b2++cs.flatMap (enS e)).length≤6100000:=by rw[List.length_append];omega
     obtain⟨b3,hb3e⟩:∃d,b2++cs.flatMap (enS e)=d:=⟨_,rfl⟩
     rw[hb3e]at hS hb3
     have Hb3:=Lib.hid hb3e
     clear hb3e Hcs hsl
     go_wp2_with(first|(refine zl1 hS ?_)|((with_reducible apply GC7 (ek:=eW) (ev:=eTn) hS);(with_reducible rfl);rfl;rfl;exact mT;(exact takeS);(refine frS ?_))|(refine zbs hS ?_;clear hS;intro bS w hS)|(go_at_call 65;(have hS2:St W (blk bS [.int .i64 (e.ts.length:Int)] 3::_) _:=hS);refine(nums1E wb b3 (e.ts.length:Int) bS 1 (by omega) ⟨by omega,by omega⟩ W _ _ (hS2.s (wrR wb b3::blk bS _ _::ebB eb m1 m2 m3 m4::amap eS eN m1 (ptrsE E)::vauP E::amap eI eSs m2 e.ss::amap eW eTn m3 e.ts::amap eW eU m4 e.ar::R))).mono ?_;clear hS hS2;rintro x w ⟨rfl,hS⟩))
     have hb4:=Am7 (e.ts.length:Int)
     obtain⟨b4,hb4e⟩:∃d,b3++numB (e.ts.length:Int)=d:=⟨_,rfl⟩
     have hb4l:b4.length≤6100010:=by rw[←hb4e,List.length_append];omega
     rw[hb4e]at hS
     have Hb4:=Lib.hid hb4e
     clear hb4 hb4e
     have hS9:=ecShut Hp.out (hS.s (ebB eb m1 m2 m3 m4::amap eS eN m1 (ptrsE E)::vauP E::amap eI eSs m2 e.ss::amap eW eTn m3 e.ts::amap eW eU m4 e.ar::wrR wb b4::R))
     clear hS
     refine(DQ7 (by omega) W _ _ hS9).mono ?_
     clear hS9 Hp
     rintro x w ⟨v,T,rfl,hT1,hT2,hS8⟩
     obtain⟨sa,sc,rfl⟩:=hS8.rowVal
     obtain⟨m1,m2,m3,m4,E,hp,hnd,hS7⟩:=ecOpenR hS8.swap
     have hS6:=evOpen hS7
     clear hS8 hS7
     have hS:=hS6.s (wrR wb b4::xtP (.slice sa T.length sc) T::ebB eb m1 m2 m3 m4::amap eS eN m1 (ptrsE E)::vauP E::amap eI eSs m2 e.ss::amap eW eTn m3 e.ts::amap eW eU m4 e.ar::R)
     clear hS6 hnd
     have Hp:=Lib.hid hp
     have hTl:T.length≤600:=by rw[hT1.length_eq];omega
     have htk:∀x∈T,TnOk x.2:=fun x hx=>(HE.out.en.tw x (hT1.mem_iff.1 hx)).1
     have hsl:=EF7 enT 200 T fun x hx=>Nr7 (htk x hx)
     have HT1:=Lib.hid hT1
     have HT2:=Lib.hid hT2
     have Htk:=Lib.hid htk
     clear hp hT1 hT2 htk
     go_wp2_with(fail)
     go_loopw [92] (fun v wr=>CwR W (xtP (.slice sa T.length sc) T::ebB eb m1 m2 m3 m4::amap eS eN m1 (ptrsE E)::vauP E::amap eI eSs m2 e.ss::amap eW eTn m3 e.ts::amap eW eU m4 e.ar::R) wb enT b4 T v wr) (fun v _=>T.length-(intOf v).toNat)
     case atStart=>exact⟨0,rfl,Nat.zero_le _,by simpa using hS⟩
     case round=>
      clear hS
      obtain⟨k,rfl,hkk,hS⟩:=hrel
      by_cases hend:k=T.length
      ·rw[hend,List.take_length]at hS
       have hd1:decide (k<T.length)=false:=by simp;omega
       clear hkk hend
       have hb5:(b4++T.flatMap enT).length≤6300000:=by rw[List.length_append];omega
       obtain⟨b5,hb5e⟩:∃d,b4++T.flatMap enT=d:=⟨_,rfl⟩
       rw[hb5e]at hS hb5
       have Hb5:=Lib.hid hb5e
       clear hb5e Htk hsl
       have hna:=amapKeys (hS.s (amap eW eU m4 e.ar::R))
       have Hna:=Lib.hid hna
       clear hna
       go_wp2_with(first|(refine zl1 hS ?_)|((with_reducible apply GC7 (ek:=eW) (ev:=eU) hS);(with_reducible rfl);rfl;rfl;exact mAr;(exact takeS);(refine frS ?_))|(refine zbs hS ?_;clear hS;intro bS w hS)|(go_at_call 65;(have hS2:St W (blk bS [.int .i64 (e.ar.length:Int)] 3::_) _:=hS);refine(nums1E wb b5 (e.ar.length:Int) bS 1 (by omega) ⟨by omega,by omega⟩ W _ _ (hS2.s (wrR wb b5::blk bS _ _::ebB eb m1 m2 m3 m4::amap eS eN m1 (ptrsE E)::vauP E::amap eI eSs m2 e.ss::amap eW eTn m3 e.ts::amap eW eU m4 e.ar::R))).mono ?_;clear hS hS2;rintro x w ⟨rfl,hS⟩)|(go_at_call 71;refine(Ls7 (some m4) W _ _ hS).mono ?_;clear hS;rintro x w ⟨g2,rfl,hS⟩)|(go_at_call 44;refine(sortedW (K:=e.ar.map (·.1)) Hna.out (by rw[List.length_map];omega) Jy7 IB7 (hS.s (blk g2 [.map (some m4)] 82::amap eW eU m4 e.ar::wrR wb _::ebB eb m1 m2 m3 m4::amap eS eN m1 (ptrsE E)::vauP E::amap eI eSs m2 e.ss::amap eW eTn m3 e.ts::R))).mono ?_;clear hS;rintro x w ⟨v2,A,rfl,hA1,hA2,hS⟩;(have hv:=hS.rowVal;obtain⟨sa2,sc2,rfl⟩:=hv);have HA1:=Lib.hid hA1;have HA2:=Lib.hid hA2;have hAl2:A.length≤600:=(by(have h9:=hA1.length_eq;rw[List.length_map]at h9;omega));clear hA1 hA2))
       have hS8:=hS.s (wrR wb _::waR (.slice sa2 A.length sc2) A::ebB eb m1 m2 m3 m4::amap eS eN m1 (ptrsE E)::vauP E::amap eI eSs m2 e.ss::amap eW eTn m3 e.ts::amap eW eU m4 e.ar::R)
       clear hS
       have hS:=hS8
       clear hS8
       have hb6:=Am7 (e.ar.length:Int)
       obtain⟨b6,hb6e⟩:∃d,b5++numB (e.ar.length:Int)=d:=⟨_,rfl⟩
       have hb6l:b6.length≤6300010:=by rw[←hb6e,List.length_append];omega
       have hb6p:0<b6.length:=by rw[←hb6e,List.length_append];have:=EV7 (e.ar.length:Int);omega
       rw[hb6e]at hS
       have Hb6:=Lib.hid hb6e
       have haw:∀x∈A,whOk x:=fun x hx=>by
        obtain⟨y,hy,rfl⟩:=List.mem_map.1 (HA1.out.mem_iff.1 hx)
        exact HE.out.en.aw y hy
       have Haw:=Lib.hid haw
       have hsl:=EF7 enA 18 A fun x _=>Rk7 x
       clear hb6 hb6e haw
       go_wp2_with(fail)
       go_loopw [141] (fun v wr=>CwR W (waR (.slice sa2 A.length sc2) A::ebB eb m1 m2 m3 m4::amap eS eN m1 (ptrsE E)::vauP E::amap eI eSs m2 e.ss::amap eW eTn m3 e.ts::amap eW eU m4 e.ar::R) wb enA b6 A v wr) (fun v _=>A.length-(intOf v).toNat)
       case atStart=>exact⟨0,rfl,Nat.zero_le _,by simpa using hS⟩
       case round=>
        clear hS
        obtain⟨k,rfl,hkk,hS⟩:=hrel
        by_cases hend:k=A.length
        ·rw[hend,List.take_length]at hS
         have hd1:decide (k<A.length)=false:=by simp;omega
         clear hkk hend
         obtain⟨b7,hb7e⟩:∃d,b6++A.flatMap enA=d:=⟨_,rfl⟩
         have hb7l:b7.length≤6400000:=by rw[←hb7e,List.length_append];omega
         have hb7p:0<b7.length:=by rw[←hb7e,List.length_append];omega
         rw[hb7e]at hS
         have henc:EncIs e b7:=⟨T,A,HT1.out,HT2.out,HA1.out,HA2.out,by rw[←hb7e,←Hb6.out,←Hb5.out,←Hb4.out,←Hb3.out,←Hb2.out,←Hb1.out,←Hb0.out,Hcse.out,Hks.out]⟩
         have Henc:=Lib.hid henc
         clear henc hb7e
         go_wp2_with(first|(go_at_call 72;refine(out_w wb b7 (by omega) hb7p W _ _ hS).mono ?_;clear hS;rintro x w ⟨vo,rfl,hS⟩))
         go_ret
         have h9:=ecShut Hp.out (hS.s (ebB eb m1 m2 m3 m4::amap eS eN m1 (ptrsE E)::vauP E::amap eI eSs m2 e.ss::amap eW eTn m3 e.ts::amap eW eU m4 e.ar::byR vo b7::R))
         exact⟨vo,b7,rfl,Henc.out,h9.swap⟩
        ·have hk1:k<A.length:=by omega
         have hd1:decide (k<A.length)=true:=by simp;omega
         obtain⟨⟨g,rfl⟩,hcap,hcn⟩:=St.rowAddr hS.drop (by omega)
         have hst:=AX7 enA b6 A hk1
         have htl:=Ea7 enA A k
         have hc:∀{K K':List HP},Take K (waR (.slice (some ⟨g,0,none⟩) A.length sc2) A) K'→Cells K g (k*2) (whC A[k]):=fun hu=>Cells.elemM (enc:=whC) Cg7 hu hk1
         have hwh:=Haw.out _ (List.getElem_mem hk1)
         generalize A[k]=x at hst hc hwh
         obtain⟨x1,x2⟩:=x
         simp only[whC]at hc
         rw[show enA (x1,x2)=numsB [x1,x2]from rfl]at hst
         obtain⟨⟨w0,w1⟩,w2,w3⟩:=hwh
         simp only at w0 w1 w2 w3
         obtain⟨d,hd⟩:∃d,b6++(A.take k).flatMap enA=d:=⟨_,rfl⟩
         have hdl:d.length≤6400000:=by rw[←hd,List.length_append];omega
         rw[hd]at hS hst
         have Hst:=Lib.hid hst
         clear hst hd htl Haw hend hkk hsl
         go_wp2_with(first|(refine zlN hS ?_ (hc:=by exact hc (by exact takeS)))|(refine zl1 hS ?_)|(refine zal hS ?_;clear hS;intro bA w hS)|(refine zsN hS ?_;clear hS;intro w hS)|(refine zbs hS ?_;clear hS;intro bS w hS)|(go_at_call 65;(have hS2:St W (blk bS [.int .i64 x1,.int .i64 x2] 3::_) _:=hS);refine(nums2E wb d x1 x2 bS 2 (by first|omega|(rw[List.length_append];omega)) ⟨by omega,by omega⟩ ⟨by omega,by omega⟩ W _ _ (hS2.s (wrR wb d::blk bS _ _::waR _ A::ebB eb m1 m2 m3 m4::amap eS eN m1 (ptrsE E)::vauP E::amap eI eSs m2 e.ss::amap eW eTn m3 e.ts::amap eW eU m4 e.ar::R))).mono ?_;clear hS hS2;rintro x w ⟨rfl,hS⟩))
         go_roundw
         case rel=>exact⟨k+1,rfl,hk1,by rw[Hst.out];exact hS.s _⟩
         case measure=>simp[intOf];omega
      ·have hk1:k<T.length:=by omega
       have hd1:decide (k<T.length)=true:=by simp;omega
       obtain⟨⟨g,rfl⟩,hcap,hcn⟩:=St.rowAddr hS.drop (by omega)
       have hst:=AX7 enT b4 T hk1
       have htl:=Ea7 enT T k
       have hc:∀{K K':List HP},Take K (xtP (.slice (some ⟨g,0,none⟩) T.length sc) T) K'→Cells K g (k*8) (tnC T[k]):=fun hu=>Cells.elemM (enc:=tnC) AV7 hu hk1
       have hok:=Htk.out _ (List.getElem_mem hk1)
       generalize T[k]=x at hst hc hok
       obtain⟨⟨y1,y2⟩,⟨t0,t1,t2,t3,t4,t5,t6,t7⟩⟩:=x
       simp only[tnC,Tns.cells]at hc
       have q1:=hok.w.1.1
       have q2:=hok.w.1.2
       have q3:=hok.w.2.1
       have q4:=hok.w.2.2
       have z1:=hok.ak
       have z2:=hok.aw
       have z3:=hok.tk
       have z4:=hok.tw
       have i0:=hok.i0
       have i1:=hok.i1
       have c0:=hok.c0
       have c1:=hok.c1
       simp only at q1 q2 q3 q4 z1 z2 z3 z4 i0 i1 c0 c1
       have hen:enT ((y1,y2),⟨t0,t1,t2,t3,t4,t5,t6,t7⟩)=numsB [t0,t1]++(encR (strI t2)++(encR (strI t3)++(encR (strI t4)++encR (strI t5))))++numsB [t6,t7]:=rfl
       rw[hen]at hst
       have hnl:=AF7 [t0,t1]
       simp only[List.length_cons,List.length_nil]at hnl
       obtain⟨d,hd⟩:∃d,b4++(T.take k).flatMap enT=d:=⟨_,rfl⟩
       have hdl:d.length≤6300000:=by rw[←hd,List.length_append];omega
       rw[hd]at hS hst
       obtain⟨d5,hd5⟩:∃d5,d++numsB [t0,t1]++(encR (strI t2)++(encR (strI t3)++(encR (strI t4)++encR (strI t5))))=d5:=⟨_,rfl⟩
       have hd5l:d5.length≤6400000:=by
        have e1:=AS7 (strI t2)
        have e2:=AS7 (strI t3)
        have e3:=AS7 (strI t4)
        have e4:=AS7 (strI t5)
        rw[AE7]at e1 e2 e3 e4
        rw[←hd5]
        simp only[List.length_append]
        omega
       have hst2:d5++numsB [t6,t7]=b4++(T.take (k+1)).flatMap enT:=by rw[hst,←hd5];simp only[List.append_assoc]
       have Hst:=Lib.hid hst2
       have Hd5:=Lib.hid hd5
       clear hst hst2 hd5 hok hen hd htl Htk hend hkk hsl
       go_wp2_with(first|(refine zlN hS ?_ (hc:=by exact hc (by exact takeS)))|(refine zl1 hS ?_)|(refine zal hS ?_;clear hS;intro bA w hS)|(refine zsN hS ?_;clear hS;intro w hS)|((fail_if_success (have:=f1));(with_reducible apply Av7 hS);(with_reducible rfl);rfl;rfl;exact Tryz.underlying9;exact Tryz.underlying63;exact Tryz.underlying5;clear hS;intro g1 k1 w hS;have f1:Nat:=0;(refine frS ?_))|((have:=f1);(fail_if_success (have:=f2));(with_reducible apply Av7 hS);(with_reducible rfl);rfl;rfl;exact Tryz.underlying9;exact Tryz.underlying63;exact Tryz.underlying5;clear hS;intro g2 k2 w hS;have f2:Nat:=0;(refine frS ?_))|((have:=f2);(fail_if_success (have:=f3));(with_reducible apply Av7 hS);(with_reducible rfl);rfl;rfl;exact Tryz.underlying9;exact Tryz.underlying63;exact Tryz.underlying5;clear hS;intro g3 k3 w hS;have f3:Nat:=0;(refine frS ?_))|((have:=f3);(with_reducible apply Av7 hS);(with_reducible rfl);rfl;rfl;exact Tryz.underlying9;exact Tryz.underlying63;exact Tryz.underlying5;clear hS;intro g4 k4 w hS;(refine frS ?_))|(refine zbs hS ?_;clear hS;intro bS w hS)|((fail_if_success (have:=mB));(go_at_call 65;(have hS2:St W (blk bS [.int .i64 t0,.int .i64 t1] 3::_) _:=hS);refine(nums2E wb d t0 t1 bS 2 (by first|omega|(rw[List.length_append];omega)) ⟨by omega,by omega⟩ ⟨by omega,by omega⟩ W _ _ (hS2.s (wrR wb d::blk bS _ _::blk bA _ _::xtP _ T::ebB eb m1 m2 m3 m4::amap eS eN m1 (ptrsE E)::vauP E::amap eI eSs m2 e.ss::amap eW eTn m3 e.ts::amap eW eU m4 e.ar::R))).mono ?_;clear hS hS2;rintro x w ⟨rfl,hS⟩))|((have:=mB);(go_at_call 65;(have hS2:St W (blk bS [.int .i64 t6,.int .i64 t7] 3::_) _:=hS);refine(nums2E wb d5 t6 t7 bS 2 (by first|omega|(rw[List.length_append];omega)) ⟨by omega,by omega⟩ ⟨by omega,by omega⟩ W _ _ (hS2.s (wrR wb d5::blk bS _ _::blk bA _ _::xtP _ T::ebB eb m1 m2 m3 m4::amap eS eN m1 (ptrsE E)::vauP E::amap eI eSs m2 e.ss::amap eW eTn m3 e.ts::amap eW eU m4 e.ar::R))).mono ?_;clear hS hS2;rintro x w ⟨rfl,hS⟩))|((go_at_call 66;(have hS2:St W (blk bS [sbV g1 t2 k1,sbV g2 t3 k2,sbV g3 t4 k3,sbV g4 t5 k4] 63::_) _:=hS);refine(OP7 wb (d++numsB [t0,t1]) t2 t3 t4 t5 g1 g2 g3 g4 k1 k2 k3 k4 bS 4 (by rw[List.length_append];omega) (by omega) (by omega) (by omega) (by omega) W _ _ (hS2.s (wrR wb _::blk bS _ _::sbR g1 t2::sbR g2 t3::sbR g3 t4::sbR g4 t5::blk bA _ _::xtP _ T::ebB eb m1 m2 m3 m4::amap eS eN m1 (ptrsE E)::vauP E::amap eI eSs m2 e.ss::amap eW eTn m3 e.ts::amap eW eU m4 e.ar::R))).mono ?_;clear hS hS2;rintro x w ⟨rfl,hS⟩;have mB:Nat:=0);rw[Hd5.out]at hS))
       go_roundw
       case rel=>exact⟨k+1,rfl,hk1,by rw[←Hst.out];exact hS.s _⟩
       case measure=>simp[intOf];omega
    ·have hk1:k<cs.length:=by omega
     have hd1:decide (k<cs.length)=true:=by simp;omega
     obtain⟨⟨g,rfl⟩,hcap,hcn⟩:=St.rowAddr hS.drop (by omega)
     have hst:=AX7 (enS e) b2 cs hk1
     have htl:=Ea7 (enS e) cs k
     have hget:(cs.map eZ)[k]? = some (.int .i64 cs[k]):=by rw[List.getElem?_map,List.getElem?_eq_getElem hk1];rfl
     obtain⟨q,r,hgl,hwh,hro⟩:=Hcs.out _ (List.getElem_mem hk1)
     generalize cs[k]=c1 at hst hget hgl hwh
     have hc:∀{K K':List HP},Take K (zrR (.slice (some ⟨g,0,none⟩) cs.length sc2) cs) K'→Cell K g k (.int .i64 c1):=fun hu=>Cell.rowM hu hget
     obtain⟨⟨w0,w1⟩,w2,w3⟩:=hwh
     simp only at w0 w1 w2 w3
     have hens:enS e c1=numsB [c1,q]++encR (rpB r):=by unfold enS;rw[hgl];rfl
     rw[hens]at hst
     obtain⟨r0,r1,⟨r2,r3,r4,r5⟩⟩:=r
     have hrl:=FI7 ⟨r0,r1,⟨r2,r3,r4,r5⟩⟩
     have hnl:=AF7 [c1,q]
     simp only[List.length_cons,List.length_nil]at hnl
     obtain⟨d,hd⟩:∃d,b2++(cs.take k).flatMap (enS e)=d:=⟨_,rfl⟩
     have hdl:d.length≤6100000:=by rw[←hd,List.length_append];omega
     rw[hd]at hS hst
     have Hst:=Lib.hid hst
     have Hr:=Lib.hid hro
     clear hst hget hro hens hd htl Hcs hend hkk hsl
     go_wp2_with(first|(refine zl1 hS ?_ (hc:=by exact hc (by exact takeS)))|(refine zl1 hS ?_)|((with_reducible apply Cj7 (ek:=eI) (ev:=eSs) (k:=c1) hS);(with_reducible rfl);rfl;rfl;rfl;(exact takeS);exact mS;exact kEi;exact zS;exact hgl;(refine frS ?_))|(refine zal hS ?_;clear hS;intro bA w hS)|(refine zsN hS ?_;clear hS;intro w hS)|(refine zlN hS ?_ (vs:=[.int .i64 r0,.int .i64 r1,.int .i64 r2,.int .i64 r3,.int .i64 r4,.int .i64 r5]) (hc:=by exact Cells.here rfl))|(go_at_call 70;refine(Jj7 Hr.out W _ _ hS).mono ?_;clear hS;rintro x w ⟨rv,rfl,hS⟩;(have hv:=hS.rowVal;obtain⟨ra,rc,rfl⟩:=hv))|(refine zbs hS ?_;clear hS;intro bS w hS)|(go_at_call 65;(have hS2:St W (blk bS [.int .i64 c1,.int .i64 q] 3::_) _:=hS);refine(nums2E wb d c1 q bS 2 (by first|omega|(rw[List.length_append];omega)) ⟨by omega,by omega⟩ ⟨by omega,by omega⟩ W _ _ (hS2.s (wrR wb d::blk bS _ _::byR _ _::zrR _ cs::ebB eb m1 m2 m3 m4::amap eS eN m1 (ptrsE E)::vauP E::amap eI eSs m2 e.ss::amap eW eTn m3 e.ts::amap eW eU m4 e.ar::R))).mono ?_;clear hS hS2;rintro x w ⟨rfl,hS⟩)|(go_at_call 66;(have hS2:St W (blk bS [.slice ra (rpB ⟨r0,r1,⟨r2,r3,r4,r5⟩⟩).length rc] 63::_) _:=hS);refine(ON7 wb (d++numsB [c1,q]) (rpB ⟨r0,r1,⟨r2,r3,r4,r5⟩⟩) ra rc bS 1 (by rw[List.length_append];omega) (by omega) W _ _ (hS2.s (wrR wb _::blk bS _ _::byR _ _::zrR _ cs::ebB eb m1 m2 m3 m4::amap eS eN m1 (ptrsE E)::vauP E::amap eI eSs m2 e.ss::amap eW eTn m3 e.ts::amap eW eU m4 e.ar::R))).mono ?_;clear hS hS2;rintro x w ⟨rfl,hS⟩))
     go_roundw
     case rel=>exact⟨k+1,rfl,hk1,by rw[Hst.out,←List.append_assoc];exact hS.s _⟩
     case measure=>simp[intOf];omega
  ·have hk1:k<ks.length:=by omega
   have hd1:decide (k<ks.length)=true:=by simp;omega
   obtain⟨⟨g,rfl⟩,hcap,hcn⟩:=St.rowAddr hS.drop (by omega)
   have hst:=AX7 (enK e) b0 ks hk1
   have htl:=Ea7 (enK e) ks k
   have hget:(ks.map eS)[k]? = some (.string ks[k]):=by rw[List.getElem?_map,List.getElem?_eq_getElem hk1];rfl
   obtain⟨vb,V,hgl,hpp,hat,hok,hsz,hmy,hl32⟩:=Hkv.out _ (List.getElem_mem hk1)
   generalize ks[k]=k1 at hst hget hgl hpp hat hsz
   have hc:∀{K K':List HP},Take K (strR (.slice (some ⟨g,0,none⟩) ks.length sc) ks) K'→Cell K g k (.string k1):=fun hu=>Cell.rowM hu hget
   have hev:=Nq7 (n:=V.n) hok.w hmy hl32
   have hpl:=hok.w.len
   have henk:enK e k1=encR (strI k1)++encR (encV V.ps V.L V.n):=by unfold enK;rw[hat]
   rw[henk]at hst
   obtain⟨d,hd⟩:∃d,b0++(ks.take k).flatMap (enK e)=d:=⟨_,rfl⟩
   have hdl:d.length≤6000010:=by rw[←hd,List.length_append];omega
   rw[hd]at hS hst
   have hS1:=vauOpen (vauPerm hpp (hS.s (vauP E::wrR wb d::strR (.slice (some ⟨g,0,none⟩) ks.length sc) ks::ebB eb m1 m2 m3 m4::amap eS eN m1 (ptrsE E)::amap eI eSs m2 e.ss::amap eW eTn m3 e.ts::amap eW eU m4 e.ar::R)))
   obtain⟨vm,vk,hS2⟩:=vaultOpen hS1
   clear hS hS1
   have hS:=hS2.s (wrR wb d::blk vb [.map (some vm),.pointer (some ⟨vk,0,none⟩),.int .i64 V.n] 176::amap eS eP vm V.ps::bookL vk V.L V.n::vauP (delL E k1)::strR (.slice (some ⟨g,0,none⟩) ks.length sc) ks::ebB eb m1 m2 m3 m4::amap eS eN m1 (ptrsE E)::amap eI eSs m2 e.ss::amap eW eTn m3 e.ts::amap eW eU m4 e.ar::R)
   clear hS2
   have Hst:=Lib.hid hst
   have Hpp:=Lib.hid hpp
   have Hok:=Lib.hid hok
   clear hst hget hpp hat hok hmy hl32 henk hd htl Hkv hend hkk
   go_wp2_with(first|(refine zl1 hS ?_ (hc:=by exact hc (by exact takeS)))|((with_reducible apply Av7 hS);(with_reducible rfl);rfl;rfl;exact Tryz.underlying9;exact Tryz.underlying63;exact Tryz.underlying5;clear hS;intro g9 c9 w hS;(refine frS ?_))|(refine zl1 hS ?_)|((with_reducible apply Cj7 (ek:=eS) (ev:=eN) (k:=k1) hS);(with_reducible rfl);rfl;rfl;rfl;(exact takeS);exact mV;exact kS;exact zV;exact hgl;(refine frS ?_))|(go_at_call 67;refine(encodeV vb vm vk V.ps V.L V.n Hok.out.ok Hok.out.w (by omega) Hok.out.n0 (by have:=Hok.out.n1;omega) W _ _ (hS.s (blk vb _ _::amap eS eP vm V.ps::bookL vk V.L V.n::wrR wb d::sbR g9 k1::vauP (delL E k1)::strR _ ks::ebB eb m1 m2 m3 m4::amap eS eN m1 (ptrsE E)::amap eI eSs m2 e.ss::amap eW eTn m3 e.ts::amap eW eU m4 e.ar::R))).mono ?_;clear hS;rintro x w ⟨vv,rfl,hS⟩;(have hv:=hS.rowVal;obtain⟨va,vc,rfl⟩:=hv);(have hS5:St W (byR _ (encV V.ps V.L V.n)::blk vb [.map (some vm),.pointer (some ⟨vk,0,none⟩),.int .i64 V.n] 176::amap eS eP vm V.ps::bookL vk V.L V.n::_) _:=hS);clear hS;(have hS:=hS5);clear hS5)|(refine zbs hS ?_;clear hS;intro bS w hS)|(go_at_call 66;(have hS2:St W (blk bS [sbV g9 k1 c9,.slice va (encV V.ps V.L V.n).length vc] 63::_) _:=hS);refine(OO7 wb d k1 g9 c9 (encV V.ps V.L V.n) va vc bS 2 (by omega) (by omega) (by omega) W _ _ (hS2.s (wrR wb d::blk bS _ _::sbR g9 k1::byR _ (encV V.ps V.L V.n)::blk vb _ _::amap eS eP vm V.ps::bookL vk V.L V.n::vauP (delL E k1)::strR _ ks::ebB eb m1 m2 m3 m4::amap eS eN m1 (ptrsE E)::amap eI eSs m2 e.ss::amap eW eTn m3 e.ts::amap eW eU m4 e.ar::R))).mono ?_;clear hS hS2;rintro x w ⟨rfl,hS⟩))
   have h1:=vaultShut (V:=V) (hS.s (blk vb [.map (some vm),.pointer (some ⟨vk,0,none⟩),.int .i64 V.n] 176::amap eS eP vm V.ps::bookL vk V.L V.n::vauP (delL E k1)::wrR wb (d++(encR (strI k1)++encR (encV V.ps V.L V.n)))::strR (.slice (some ⟨g,0,none⟩) ks.length sc) ks::ebB eb m1 m2 m3 m4::amap eS eN m1 (ptrsE E)::amap eI eSs m2 e.ss::amap eW eTn m3 e.ts::amap eW eU m4 e.ar::R))
   have h2:=vauPerm Hpp.out.symm (vauShut (x:=(k1,(vb,V))) h1)
   go_roundw
   case rel=>exact⟨k+1,rfl,hk1,by rw[Hst.out];exact h2.s _⟩
   case measure=>simp[intOf];omega
def SeenO(e:Ec)(o:Opn):Prop:=mayO o=false∨∃q r,getL e.ss o.client=some (q,r)∧o.seq≤q
theorem OR7{I:Ec→Nat→Prop}(hI:KeepE I)(hi0:I ec0 0)(xs:List Opn)(hlen:xs.length≤150)(v:Value)(V:World)(hv:SliceV Opn.cells 12 V v xs)(W w:World)(Lr:List HP)(hS:St W (Old V::Lr) w):
  Calls Tryz.prog 23 #[v] w fun r w'=>∃eb xb,r=.returned (.tuple #[.pointer (some ⟨eb,0,none⟩),.pointer (some ⟨xb,0,none⟩),.bool true])∧GOk (runD xs ec0) (runE xs ec0) xs.length∧I (runE xs ec0) xs.length∧St W (ecP eb (runE xs ec0)::xecP xb (runD xs ec0)::Old V::Lr) w':=by
 have Hv:=Lib.hid hv
 clear hv
 go_enter Tryz.func23,Tryz.ntmps23
 go_wp2_with(first|go_big_skip|(go_at_call 15;refine(Ig7 W _ _ hS).mono ?_;clear hS;rintro e w ⟨eb,rfl,hS⟩)|(refine zbx hS ?_;clear hS;intro xb w hS)|(go_at_call 32;(have hS1:=xec0 (hS.s (xeB xb (.slice none 0 0) (.slice none 0 0) (.slice none 0 0) (.slice none 0 0)::ecP eb ec0::Old V::Lr)));clear hS;refine(Nk7 xs hlen _ V Hv.out (n:=0) (by decide) gOk0 hI hi0 eb xb W _ _ (hS1.s (ecP eb ec0::xecP xb ec0::Old V::Lr))).mono ?_;clear hS1;rintro e w ⟨rfl,hG,hN,hS⟩;have HG:=Lib.hid hG;have HN:=Lib.hid hN;clear hG hN))
 go_ret3
 exact⟨eb,xb,rfl,by have:=HG.out;rwa [Nat.zero_add]at this,by have:=HN.out;rwa [Nat.zero_add]at this,hS⟩
structure SameE(e e':Ec):Prop where
 v:e.vs.Perm e'.vs
 s:e.ss.Perm e'.ss
 t:e.ts.Perm e'.ts
 a:e.ar.Perm e'.ar
theorem OS7{e e':Ec}{n:Nat}(h:EnL e n)(s:SameE e e'):EnL e' n:=
 ⟨⟨fun x hx=>h.en.ok x (s.v.mem_iff.2 hx),fun x hx=>h.en.vk x (s.v.mem_iff.2 hx),fun x hx=>h.en.sw x (s.s.mem_iff.2 hx),fun x hx=>h.en.sr x (s.s.mem_iff.2 hx),fun x hx=>h.en.tw x (s.t.mem_iff.2 hx),fun x hx=>h.en.aw x (s.a.mem_iff.2 hx),
  by rw[←s.v.length_eq];exact h.en.lv,by rw[←s.s.length_eq];exact h.en.ls,by rw[←s.t.length_eq];exact h.en.lt,by rw[←s.a.length_eq];exact h.en.la⟩,(s.v.map _).nodup_iff.1 h.nd,by rw[←IA7 s.v];exact h.ln⟩
theorem Lt7{e e':Ec}{d:List Int}(hv:(e.vs.map (·.1)).Nodup)(hs:(e.ss.map (·.1)).Nodup)(s:SameE e e')(h:EncIs e d):EncIs e' d:=by
 obtain⟨T,A,h1,h2,h3,h4,rfl⟩:=h
 refine⟨T,A,h1.trans s.t,h2,h3.trans (s.a.map _),h4,?_⟩
 have e1:ksE e'=ksE e:=by unfold ksE;exact Dm7 (s.v.symm.map _)
 have e2:∀k,enK e' k=enK e k:=fun k=>by
  have:atV e' k=atV e k:=by unfold atV;rw[AA7 hv s.v k]
  unfold enK
  rw[this]
 have e3:∀c,enS e' c=enS e c:=fun c=>by
  unfold enS
  rw[AA7 hs s.s c]
 have e4:srtI (e'.ss.map (·.1))=srtI (e.ss.map (·.1)):=Gw7 (s.s.symm.map _)
 rw[e1,e4,s.v.length_eq,s.s.length_eq,s.t.length_eq,s.a.length_eq,funext e2,funext e3]
theorem OT7{ν:Type}{l:List (Int×ν)}(h:Asc ltI l):srtI (l.map (·.1))=l.map (·.1):=by
 have hp:∀m:List Int,(srtI m).Pairwise fun x y=>decide (x≤y)=true:=fun m=>List.pairwise_mergeSort (fun a b c h1 h2=>by simp only[decide_eq_true_eq]at *;omega) (fun a b=>by simp only[Bool.or_eq_true,decide_eq_true_eq];omega) m
 refine List.Perm.eq_of_pairwise (fun a b _ _ h1 h2=>by simp only[decide_eq_true_eq]at h1 h2;omega) (hp _) ?_ (CN7 _)
 exact List.pairwise_map.2 (List.Pairwise.imp (fun{a b} h=>by simp only[ltI,decide_eq_true_eq]at h ⊢;omega) h)
def encD(d:Ec):List Int:=numB d.vs.length++(d.vs.map (·.1)).flatMap (enK d)++numB d.ss.length++(d.ss.map (·.1)).flatMap (enS d)++numB d.ts.length++d.ts.flatMap enT++numB d.ar.length++(d.ar.map (·.1)).flatMap enA
theorem SimE.same{d e:Ec}(h:SimE d e):SameE d e:=⟨h.v,h.s,h.t,h.a⟩
theorem Qy7{d e:Ec}(h:SimE d e):EncIs e (encD d):=by
 refine Lt7 h.vn h.sn h.same ⟨d.ts,d.ar.map (·.1),List.Perm.refl _,h.ta,List.Perm.refl _,(List.pairwise_map (f:=fun x:(Int×Int)×Unit=>x.1) (R:=fun x y=>ltW x y=true)).2 h.aa,?_⟩
 have e1:ksE d=d.vs.map (·.1):=Iv7 h.va
 rw[e1,OT7 h.sa]
 rfl
theorem Rl7{d e:Ec}(h:SimE d e):ksE e=d.vs.map (·.1):=(Qs7 h).symm
theorem Qz7{d e:Ec}{n:Nat}(h:EnL e n)(s:SimE d e):EnL d n:=OS7 h ⟨s.v.symm,s.s.symm,s.t.symm,s.a.symm⟩
theorem OU7{d e:Ec}(h:EachV e)(s:SimE d e):EachV d:=fun x hx=>h x (s.v.mem_iff.1 hx)
structure EnT(e:Ec)(n:Nat):Prop where
 en:EnL e n
 tt:n≤400→∀k,Kx k→totE e k≤n*1048576
theorem enT0:EnT ec0 0:=⟨enL0,fun _ _ _=>Int.le_refl _⟩
theorem OV7:KeepE EnT:=fun e n o h he he2 hok=>by
 refine⟨h.en.app he o hok,fun hn k hk=>?_⟩
 have h1:=Qv7 h.en.nd h.en.en.ok he he2 (fun j hj=>by have:=h.tt (by omega) j hj;omega) (o:=o) hk
 have h2:=Re7 (e:=e) (o:=o) (appE e o).1 k
 have h3:=h.tt (by omega) k hk
 rw[h1]
 omega
end Go.Proofs.YtlmhakmoioogaaaGreat
end
