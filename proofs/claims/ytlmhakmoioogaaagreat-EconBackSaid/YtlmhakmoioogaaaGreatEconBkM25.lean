/-
  The document's economy as bytes.
-/
import Derived.Test.YtlmhakmoioogaaaGreatEconBkM24
import Derived.OpenShut
import Derived.ReadAgain
set_option maxHeartbeats 16000000
set_option maxRecDepth 100000
set_option linter.unusedSimpArgs false
set_option linter.unusedVariables false
section
namespace Go.Proofs.YtlmhakmoioogaaaGreat
open Go.RowKit Go.Sl
structure VEn(V:Vs):Prop where
 ok:N5 V.ps
 w:PsW V.ps 1000000
 n0:1<=V.n
 n1:V.n<=1099511627777
 may:∀x∈V.L,MayP x
 l32:V.L.length<=32
structure EnB(D:Ev)(ss:List (Int×(Int×Rpl)))(ts:List ((Int×Int)×Tns))(ar:List ((Int×Int)×Unit)):Prop where
 ld:D.length<=10000
 ls:ss.length<=10000
 lt:ts.length<=10000
 la:ar.length<=10000
 lk:(D.flatMap fKv).length<=6000000
 vk:∀x∈D,x.1.size<=16/\VEn x.2.2
 sw:∀x∈ss,cR4 (x.1,x.2.1)
 sr:∀x∈ss,RpOk x.2.2
 tw:∀x∈ts,TnOk x.2
 aw:∀x∈ar,cR4 x.1
def eu4(D:Ev)(ss:List (Int×(Int×Rpl)))(ts:List ((Int×Int)×Tns))(ar:List ((Int×Int)×Unit)):List Int:=
 m6 D.length++D.flatMap fKv++m6 ss.length++ss.flatMap fSe++m6 ts.length++ts.flatMap enT++m6 ar.length++ar.flatMap fAr
theorem Ta7(x:Int×(Int×Rpl)):(fSe x).length<=100:=by have h1:=AM7 [x.1,x.2.1];have h2:=Bb7 (rpB x.2.2);have h3:=DT7 x.2.2;unfold fSe;rw[jA];simp only[jC,List.length_nil]at h1;omega
theorem Vx7(x:(Int×Int)×Unit):(fAr x).length<=18:=AM7 [x.1.1,x.1.2]
abbrev tB24a:List Nat:=[0,0,2,6,14,0,62,126,254,0,512,1536,3584,0,15872,32256,65024,131070,262142,524287,1048575]
theorem Qg7{D:Ev}{ss:List (Int×(Int×Rpl))}{ts:List ((Int×Int)×Tns)}{ar:List ((Int×Int)×Unit)}(h:EnB D ss ts ar)(xb:Nat)(a1 a2 a3 a4:Option Addr)(c1 c2 c3 c4:Nat)(W w:World)(R:List HP)(hS:St W (xeB xb (.slice a1 D.length c1) (.slice a2 ss.length c2) (.slice a3 ts.length c3) (.slice a4 ar.length c4)::xrP (.slice a1 D.length c1) D::w8 D::xsP (.slice a2 ss.length c2) ss::xtP (.slice a3 ts.length c3) ts::xmP (.slice a4 ar.length c4) ar::R) w):
  Calls Tryz.prog 76 #[.P xb] w fun e w'=>∃v,e=.returned v/\St W (byR v (eu4 D ss ts ar)::xeB xb (.slice a1 D.length c1) (.slice a2 ss.length c2) (.slice a3 ts.length c3) (.slice a4 ar.length c4)::xrP (.slice a1 D.length c1) D::w8 D::xsP (.slice a2 ss.length c2) ss::xtP (.slice a3 ts.length c3) ts::xmP (.slice a4 ar.length c4) ar::R) w':=by
 have ld:=h.ld;have ls:=h.ls;have lt:=h.lt;have la:=h.la;have Hh:=jH h;clear h;have b1:=Ak7 (D.length:Int);have b2:=Ak7 (ss.length:Int);have b3:=Ak7 (ts.length:Int);have b4:=Ak7 (ar.length:Int);unfold eu4;go_enter Tryz.func76,Tryz.ntmps76;go_wp2_with(first|refine zl1 hS ?_|go_at_call 140;refine(cX4 _ ⟨by omega,by omega⟩ W _ _ hS).mono ?_;clear hS;rintro e w ⟨vn,rfl,hS⟩;(have hv:=hS.rowVal;obtain⟨na,nc,rfl⟩:=hv))
 go_loopw [3,4] (fun v3 v4 wr=>CtR W (xeB xb (.slice a1 D.length c1) (.slice a2 ss.length c2) (.slice a3 ts.length c3) (.slice a4 ar.length c4)::xrP (.slice a1 D.length c1) D::w8 D::xsP (.slice a2 ss.length c2) ss::xtP (.slice a3 ts.length c3) ts::xmP (.slice a4 ar.length c4) ar::R) fKv (m6 D.length) D v3 v4 wr) (fun _ v4 _=>D.length-(intOf v4).toNat)
 case atStart=>exact⟨0,rfl,Nat.zero_le _,by simpa using hS⟩
 case round=>
  clear hS;obtain⟨k,rfl,hkl,hS⟩:=hrel;by_cases hkn:k=D.length
  case neg=>
   have hk1:k<D.length:=by omega
   have hd1:decide (k<D.length)=true:=decide_eq_true hk1;obtain⟨⟨g,rfl⟩,_,_⟩:=St.rowAddr hS.drop.drop (by omega);have hck:∀{K K':List HP},Take K (xrP (.S g D.length c1) D) K'->i9 K g (k*2) (.string D[k].1):=fun hu=>i8.elemM (enc:=rwC) Bm7 hu hk1 0 _ rfl
   have hcp:∀{K K':List HP},Take K (xrP (.S g D.length c1) D) K'->i9 K g (k*2+1) (.pointer (some ⟨D[k].2.1,0,none⟩)):=fun hu=>i8.elemM (enc:=rwC) Bm7 hu hk1 1 _ rfl
   have hst:=Bj7 fKv (m6 D.length) D hk1;have hvk:=Hh.out.vk _ (jW hk1);have hlt:=EP7 fKv D (k+1);have hlk:=Hh.out.lk;rw[List.take_succ_eq_append_getElem hk1,List.flatMap_append,jA,List.flatMap_singleton]at hlt
   have hop:∀(w:World) (K:List HP),St W (w8 D::K) w->St W (dvP D[k].2.1 D[k].2.2::w8 (D.take k++D.drop (k+1))::K) w:=fun w K h=>by
    have h1:St W (w8 (D.take k++D[k]::D.drop (k+1))::K) w:=by rw[<-List.drop_eq_getElem_cons hk1,List.take_append_drop];exact h
    exact cB4 h1
   have hcl:∀(w:World) (K:List HP),St W (dvP D[k].2.1 D[k].2.2::w8 (D.take k++D.drop (k+1))::K) w->St W (w8 D::K) w:=fun w K h=>by have h1:=cC4 h;rwa [<-List.drop_eq_getElem_cons hk1,List.take_append_drop]at h1
   generalize hd:m6 D.length++(D.take k).flatMap fKv=d at hS hst;have hdl:d.length=(m6 D.length).length+((D.take k).flatMap fKv).length:=by rw[<-hd,jA]
   generalize D.take k++D.drop (k+1)=D2 at hop hcl;generalize D[k]=x at hck hcp hst hvk hlt hop hcl;obtain⟨xk,vb,V⟩:=x;obtain⟨hk16,hv⟩:=hvk;simp only at hck hcp hk16 hop hcl;have hfl:(fKv (xk,vb,V)).length=(C9 xk).length+(F7 (I5 V.ps V.L V.n)).length:=by unfold fKv;rw[jA]
   have hel:(F7 (I5 V.ps V.L V.n)).length=(m6 ((I5 V.ps V.L V.n).length:Int)).length+(I5 V.ps V.L V.n).length:=by unfold F7;rw[jA]
   have e1:(C9 xk).length<=6000000:=by omega
   have e2:(F7 (I5 V.ps V.L V.n)).length<=6000000:=by omega
   have e3:(I5 V.ps V.L V.n).length<=6000000:=by omega
   have e4:d.length<=6001000:=by omega
   have Hst:=jH hst;have Hop:=jH hop;have Hcl:=jH hcl;have Hv:=jH hv;clear hst hop hcl hv hd hlt hkn hkl hfl hel hdl hlk;go_wp2_with(first|refine zl1 hS ?_ (hc:=by exact hck (by exact j5))|refine zl1 hS ?_ (hc:=by exact hcp (by exact j5))|refine zl1 hS ?_|(with_reducible apply AA7 hS);rfl;rfl;rfl;exact Tryz.underlying9;exact Tryz.underlying63;exact Tryz.underlying5;clear hS;intro g9 c9 w hS;refine frS ?_|(fail_if_success (have:=mB));go_at_call 141;refine(cy4 g9 c9 xk (by omega) W _ _ hS).mono ?_;clear hS;rintro e w ⟨vn,rfl,hS⟩;(have hv:=hS.rowVal;obtain⟨na,nc,rfl⟩:=hv);have mB:Nat:=0|(have:=mB);go_at_call 141;refine(en4 _ _ (by omega) W _ _ (hS)).mono ?_;clear hS;rintro e w ⟨vn,rfl,hS⟩;(have hv:=hS.rowVal;obtain⟨na,nc,rfl⟩:=hv)|(with_reducible apply Ae7 hS);rfl;rfl;rfl;rfl;exact esS;exact rsS;rfl;decide;exact j5;exact St.src (by decide) hS;(focus(rw[AS7,Nat.mul_one]));exact Be7 _;(focus(unfold maxLen;omega));(focus(omega));clear hS;intro v w hS;refine frS ?_|go_at_call 142;refine(PY7 Hv.out.ok Hv.out.w (by decide) Hv.out.may Hv.out.l32 Hv.out.n0 Hv.out.n1 (Hop.out _ _ (hS.s (w8 D::row v 1 5 (d.length+(C9 xk).length) (u8s d++u8s (C9 xk))::xeB xb _ _ _ _::xrP _ D::xsP _ ss::xtP _ ts::xmP _ ar::R)))).mono ?_;clear hS;rintro e w ⟨vn,rfl,hS0⟩;have hS1:=Hcl.out _ _ (hS0.s (dvP vb V::w8 D2::byR vn _::row v 1 5 (d.length+(C9 xk).length) (u8s d++u8s (C9 xk))::xeB xb _ _ _ _::xrP _ D::xsP _ ss::xtP _ ts::xmP _ ar::R));clear hS0;have hS:=hS1.s (byR vn _::row v 1 5 (d.length+(C9 xk).length) (u8s d++u8s (C9 xk))::w8 D::xeB xb _ _ _ _::xrP _ D::xsP _ ss::xtP _ ts::xmP _ ar::R);clear hS1);go_roundw
   case rel=>
    refine⟨k+1,rfl,hk1,?_⟩;rw[Hst.out];unfold fKv;have h0:St W (row v 1 5 (d.length+(C9 xk).length+(F7 (I5 V.ps V.L V.n)).length) (u8s d++u8s (C9 xk)++u8s (F7 (I5 V.ps V.L V.n)))::_) w:=hS;rw[<-AB7,<-AB7,jS d]at h0;exact(AN7 (by simp only[jA];omega) h0).s _
   case measure=>simp[intOf];omega
  rw[hkn,List.take_length]at hS;have hd1:decide (k<D.length)=false:=by simp;omega
  clear hkl hkn;have g1:(m6 D.length++D.flatMap fKv).length<=6000009:=by have:=Hh.out.lk;rw[jA];omega
  generalize hacc:m6 D.length++D.flatMap fKv=d0 at hS g1;have H0:=jH hacc;clear hacc;go_wp2_with(first|refine zl1 hS ?_|go_at_call 140;refine(cX4 _ ⟨by omega,by omega⟩ W _ _ hS).mono ?_;clear hS;rintro e w ⟨vn,rfl,hS⟩;(have hv:=hS.rowVal;obtain⟨na,nc,rfl⟩:=hv)|(with_reducible apply Ae7 hS);rfl;rfl;rfl;rfl;exact esS;exact rsS;rfl;decide;exact j5;exact St.src (by decide) hS;(focus(rw[AS7,Nat.mul_one]));exact Be7 _;(focus(unfold maxLen;omega));(focus(omega));clear hS;intro v w hS;refine frS ?_);have h0:St W (row v 1 5 (d0.length+(m6 (ss.length:Int)).length) (u8s d0++u8s (m6 (ss.length:Int)))::_) w:=hS;clear hS;rw[<-AB7]at h0;have hS:=(AN7 (by rw[jA]) h0).s (byR v (d0++m6 (ss.length:Int))::xeB xb _ _ _ _::xrP _ D::w8 D::xsP _ ss::xtP _ ts::xmP _ ar::R);clear h0
  go_loopw [3,5] (fun v3 v5 wr=>CtR W (xeB xb (.slice a1 D.length c1) (.slice a2 ss.length c2) (.slice a3 ts.length c3) (.slice a4 ar.length c4)::xrP (.slice a1 D.length c1) D::w8 D::xsP (.slice a2 ss.length c2) ss::xtP (.slice a3 ts.length c3) ts::xmP (.slice a4 ar.length c4) ar::R) fSe (d0++m6 ss.length) ss v3 v5 wr) (fun _ v5 _=>ss.length-(intOf v5).toNat)
  case atStart=>exact⟨0,rfl,Nat.zero_le _,by simpa using hS⟩
  case round=>
   clear hS;obtain⟨k,rfl,hkl,hS⟩:=hrel;by_cases hkn:k=ss.length
   case neg=>
    have hk1:k<ss.length:=by omega
    have hd2:decide (k<ss.length)=true:=decide_eq_true hk1;obtain⟨⟨g,rfl⟩,_,_⟩:=St.rowAddr hS.drop.drop.drop.drop (by omega);have hca:∀{K K':List HP},Take K (xsP (.S g ss.length c2) ss) K'->i9 K g (k*8) (.I ss[k].1):=fun hu=>i8.elemM (enc:=seC) AX7 hu hk1 0 _ rfl
    have hcb:∀{K K':List HP},Take K (xsP (.S g ss.length c2) ss) K'->i9 K g (k*8+1) (.I ss[k].2.1):=fun hu=>i8.elemM (enc:=seC) AX7 hu hk1 1 _ rfl
    have hcr:∀{K K':List HP},Take K (xsP (.S g ss.length c2) ss) K'->i8 K g (k*8+2) [.I ss[k].2.2.err,.I ss[k].2.2.id,.I ss[k].2.2.has.x0,.I ss[k].2.2.has.x1,.I ss[k].2.2.has.x2,.I ss[k].2.2.has.x3]:=fun hu j v hj=>by have h1:=i8.elemM (enc:=seC) AX7 hu hk1 (2+j) v (by rw[Nat.add_comm];exact hj);rwa [<-Nat.add_assoc]at h1
    have hst:=Bj7 fSe (d0++m6 ss.length) ss hk1;have hlt:=CY7 fSe 100 (ss.take k) fun x _=>Ta7 x
    have hsw:=Hh.out.sw _ (jW hk1);have hsr:=Hh.out.sr _ (jW hk1);rw[jT]at hlt;generalize hd:d0++m6 ss.length++(ss.take k).flatMap fSe=d at hS hst;have hdl:d.length<=8000000:=by rw[<-hd,jA,jA];omega
    generalize ss[k]=x at hca hcb hcr hst hsw hsr;obtain⟨c,q,⟨e,i,⟨x0,x1,x2,x3⟩⟩⟩:=x;simp only at hca hcb hcr;obtain⟨⟨w1,w2⟩,w3,w4⟩:=hsw;simp only at w1 w2 w3 w4;have hrl:=DT7 ⟨e,i,⟨x0,x1,x2,x3⟩⟩;have hrl2:=Bb7 (rpB ⟨e,i,⟨x0,x1,x2,x3⟩⟩);have hnl:(r7 [c,q]).length<=18:=AM7 [c,q];have Hca:=jH (show -9223372036854775808<=c/\c<=9223372036854775807 from⟨by omega,by omega⟩);have Hcb:=jH (show -9223372036854775808<=q/\q<=9223372036854775807 from⟨by omega,by omega⟩);have Hst:=jH hst;have Hr:=jH hsr;clear hst hsr hd hlt hkn hkl;generalize hrp:rpB ⟨e,i,⟨x0,x1,x2,x3⟩⟩=rp at hrl hrl2;have Hrp:=jH hrp;clear hrp;go_wp2_with(first|refine zlN hS ?_ (hc:=by exact hcr (by exact j5))|refine zl1 hS ?_|go_at_call 143;refine(Ka7 Hr.out W _ _ hS).mono ?_;clear hS;rw[Hrp.out];rintro ex w ⟨rv,rfl,hS⟩);have hS1:=hS.s (byR _ d::byR rv rp::xeB xb _ _ _ _::xsP _ ss::xrP _ D::w8 D::xtP _ ts::xmP _ ar::R);clear hS;refine rf2 tB24a (fun i=>i==17||i==18||i==19) [⟨some 17,some 18,fun nd=>R5 (nd 17) 2 2 [.I c,.I q] 3⟩,⟨some 18,none,fun nd=>byR (nd 18) (r7 [c,q])⟩,⟨some 19,none,fun nd=>row (nd 19) 1 5 (d.length+(r7 [c,q]).length) (u8s d++u8s (r7 [c,q]))⟩] [some 19,none,none,none] hS1 ?_;clear hS1;intro nd
    iterate 2 (refine cR ?_)
    (refine zcn ?_);refine cR ?_;refine zc1 ?_
    iterate 3 (refine cR ?_)
    (refine zc1 ?_ (hc:=by(intro F;exact hca (by exact D5))));refine cR ?_;refine zcn ?_;refine cR ?_;refine zc1 ?_
    iterate 3 (refine cR ?_)
    (refine zc1 ?_ (hc:=by(intro F;exact hcb (by exact D5))));apply an4;rfl;rfl;rfl;(focus(simp only[fD,fI,fJ,Act.eval,fE,fF,fG,fH,fK];try rfl));(exact esS);(exact rsS);rfl;rfl;rfl;rfl;(intro _;rfl);rfl;(intro _;rfl);(refine frS ?_);apply AP7;rfl;rfl;rfl;decide +kernel;(focus(simp only[fD,fI,fJ,Act.eval,fE,fF,fG,fH,fK];try rfl));(intro _;rfl);(intro F w hS;exact Ha7 Hca.out Hcb.out hS);(refine frS ?_);apply Ai7;rfl;rfl;rfl;(focus((conv=>lhs;whnf);try rfl));(focus((conv=>lhs;whnf);try rfl));(exact esS);(exact rsS);rfl;decide;rfl;(intro F w hS;exact Ib7 (k:=1) (by decide) hS (by exact D5));(focus(rw[AS7,Nat.mul_one]));(focus(exact Be7 _));(focus(unfold maxLen;omega));(focus(omega));(intro _;rfl);(intro _;rfl);(refine frS ?_);refine cR ?_;refine Ad7 ?_;intro w hS;have hS2:St W [byR (nd 18) _,row (nd 19) 1 5 _ _,byR rv rp,xeB xb (.slice a1 D.length c1) (.S g ss.length c2) (.slice a3 ts.length c3) (.slice a4 ar.length c4),xsP _ ss,sats (xrP (.slice a1 D.length c1) D::w8 D::xtP (.slice a3 ts.length c3) ts::xmP (.slice a4 ar.length c4) ar::R)] w:=hS;clear hS;have hS:=hS2.drop.unpack [_,_,_,_];clear hS2;simp only[jK,jN]at hS;generalize nd 19=v9 at *;go_wp2_with(first|go_at_call 141;refine(en4 _ _ (by omega) W _ _ (hS.s (byR rv rp::row v9 1 5 (d.length+(r7 [c,q]).length) (u8s d++u8s (r7 [c,q]))::xeB xb _ _ _ _::xrP _ D::w8 D::xsP _ ss::xtP _ ts::xmP _ ar::R))).mono ?_;clear hS;rintro e w ⟨vn,rfl,hS⟩;(have hv:=hS.rowVal;obtain⟨na,nc,rfl⟩:=hv)|(with_reducible apply Ae7 hS);rfl;rfl;rfl;rfl;exact esS;exact rsS;rfl;decide;exact j5;exact St.src (by decide) hS;(focus(rw[AS7,Nat.mul_one]));exact Be7 _;(focus(unfold maxLen;omega));(focus(omega));clear hS;intro v w hS;refine frS ?_);go_roundw
    case rel=>
     refine⟨k+1,rfl,hk1,?_⟩;rw[Hst.out];unfold fSe;simp only;rw[Hrp.out];have h0:St W (row v 1 5 (d.length+(r7 [c,q]).length+(F7 rp).length) (u8s d++u8s (r7 [c,q])++u8s (F7 rp))::_) w:=hS;rw[<-AB7,<-AB7,jS d]at h0;exact(AN7 (by simp only[jA];omega) h0).s _
    case measure=>simp[intOf];omega
   rw[hkn,List.take_length]at hS;have hd2:decide (k<ss.length)=false:=by simp;omega
   clear hkl hkn
   have g2:(d0++m6 ss.length++ss.flatMap fSe).length<=7010000:=by
    have:=CY7 fSe 100 ss fun x _=>Ta7 x
    rw[jA,jA];omega
   generalize hacc:d0++m6 ss.length++ss.flatMap fSe=d1 at hS g2;have H1:=jH hacc;clear hacc;go_wp2_with(first|refine zl1 hS ?_|go_at_call 140;refine(cX4 _ ⟨by omega,by omega⟩ W _ _ hS).mono ?_;clear hS;rintro e w ⟨vn,rfl,hS⟩;(have hv:=hS.rowVal;obtain⟨na,nc,rfl⟩:=hv)|(with_reducible apply Ae7 hS);rfl;rfl;rfl;rfl;exact esS;exact rsS;rfl;decide;exact j5;exact St.src (by decide) hS;(focus(rw[AS7,Nat.mul_one]));exact Be7 _;(focus(unfold maxLen;omega));(focus(omega));clear hS;intro v w hS;refine frS ?_);have h0:St W (row v 1 5 (d1.length+(m6 (ts.length:Int)).length) (u8s d1++u8s (m6 (ts.length:Int)))::_) w:=hS;clear hS;rw[<-AB7]at h0;have hS:=(AN7 (by rw[jA]) h0).s (byR v (d1++m6 (ts.length:Int))::xeB xb _ _ _ _::xrP _ D::w8 D::xsP _ ss::xtP _ ts::xmP _ ar::R);clear h0
   go_loopw [3,8] (fun v3 v8 wr=>CtR W (xeB xb (.slice a1 D.length c1) (.slice a2 ss.length c2) (.slice a3 ts.length c3) (.slice a4 ar.length c4)::xrP (.slice a1 D.length c1) D::w8 D::xsP (.slice a2 ss.length c2) ss::xtP (.slice a3 ts.length c3) ts::xmP (.slice a4 ar.length c4) ar::R) enT (d1++m6 ts.length) ts v3 v8 wr) (fun _ v8 _=>ts.length-(intOf v8).toNat)
   case atStart=>exact⟨0,rfl,Nat.zero_le _,by simpa using hS⟩
   case round=>
    clear hS;obtain⟨k,rfl,hkl,hS⟩:=hrel;by_cases hkn:k=ts.length
    case neg=>
     have hk1:k<ts.length:=by omega
     have hd3:decide (k<ts.length)=true:=decide_eq_true hk1;obtain⟨⟨g,rfl⟩,_,_⟩:=St.rowAddr hS.drop.drop.drop.drop.drop (by omega);have hcx:∀{K K':List HP},Take K (xtP (.S g ts.length c3) ts) K'->i8 K g (k*8) (tnC ts[k]):=fun hu=>i8.elemM (enc:=tnC) Bh7 hu hk1
     have hst:=Bj7 enT (d1++m6 ts.length) ts hk1;have hlt:=CY7 enT 200 (ts.take k) fun x hx=>Ms7 (Hh.out.tw x (List.mem_of_mem_take hx))
     have htw:=Hh.out.tw _ (jW hk1);rw[jT]at hlt;generalize hd:d1++m6 ts.length++(ts.take k).flatMap enT=d at hS hst;have hdl:d.length<=10000000:=by rw[<-hd,jA,jA];omega
     generalize ts[k]=x at hcx hst htw;obtain⟨⟨y1,y2⟩,⟨t0,t1,t2,t3,t4,t5,t6,t7⟩⟩:=x;simp only[tnC,Tns.cells]at hcx;obtain⟨⟨⟨w1,w2⟩,w3,w4⟩,z2,z3,z4,z5,i0,i1,j0,j1⟩:=htw;simp only at w1 w2 w3 w4 z2 z3 z4 z5 i0 i1 j0 j1;have hna:(r7 [t0,t1]).length<=18:=AM7 [t0,t1];have hnb:(r7 [t6,t7]).length<=18:=AM7 [t6,t7]
     have Hn1:=jH (show ∀x∈[t0,t1], -9223372036854775808<=x/\x<=9223372036854775807 from fun x hx=>by
      simp only[List.mem_cons,List.not_mem_nil,or_false]at hx
      rcases hx with rfl|rfl
      all_goals exact⟨by omega,by omega⟩)
     have Hn2:=jH (show ∀x∈[t6,t7], -9223372036854775808<=x/\x<=9223372036854775807 from fun x hx=>by
      simp only[List.mem_cons,List.not_mem_nil,or_false]at hx
      rcases hx with rfl|rfl
      all_goals exact⟨by omega,by omega⟩)
     have Hst:=jH hst
     have H16:=jH (show ∀s∈[t2,t3,t4,t5],s.size<=16 from fun s hs=>by
      simp only[List.mem_cons,List.not_mem_nil,or_false]at hs
      rcases hs with rfl|rfl|rfl|rfl
      all_goals assumption)
     clear hst hd hlt hkn hkl;go_wp2_with(first|refine zlN hS ?_ (hc:=by exact hcx (by exact j5))|refine zal hS ?_;clear hS;intro b6 w hS|refine zsN hS ?_;clear hS;intro w hS|refine zl1 hS ?_|refine zbs hS ?_;clear hS;intro bS w hS|go_at_call 144;refine(cK4 [t0,t1] bS 2 (by simp) Hn1.out W _ _ hS).mono ?_;clear hS;rintro e w ⟨vn,rfl,hS⟩;(have hv:=hS.rowVal;obtain⟨na,nc,rfl⟩:=hv)|(with_reducible apply Ae7 hS);rfl;rfl;rfl;rfl;exact esS;exact rsS;rfl;decide;exact j5;exact St.src (by decide) hS;(focus(rw[AS7,Nat.mul_one]));exact Be7 _;(focus(unfold maxLen;omega));(focus(omega));clear hS;intro v w hS;refine frS ?_);have hS9:St W (blk bS [.string t2,.string t3,.string t4,.string t5] 9::_) w:=hS;clear hS;have h0:St W (row v 1 5 (d.length+(r7 [t0,t1]).length) (u8s d++u8s (r7 [t0,t1]))::_) w:=hS9.s (row v 1 5 (d.length+(r7 [t0,t1]).length) (u8s d++u8s (r7 [t0,t1]))::blk bS [.string t2,.string t3,.string t4,.string t5] 9::blk b6 [.I t0,.I t1,.string t2,.string t3,.string t4,.string t5,.I t6,.I t7] 40::xeB xb _ _ _ _::xrP _ D::w8 D::xsP _ ss::xtP _ ts::xmP _ ar::R);clear hS9;rw[<-AB7]at h0;have hS:=AN7 (by rw[jA]) h0;clear h0
     go_loopw [3,11] (fun v3 v11 wr=>CtR W (blk bS [.string t2,.string t3,.string t4,.string t5] 9::blk b6 [.I t0,.I t1,.string t2,.string t3,.string t4,.string t5,.I t6,.I t7] 40::xeB xb (.slice a1 D.length c1) (.slice a2 ss.length c2) (.S g ts.length c3) (.slice a4 ar.length c4)::xrP (.slice a1 D.length c1) D::w8 D::xsP (.slice a2 ss.length c2) ss::xtP (.S g ts.length c3) ts::xmP (.slice a4 ar.length c4) ar::R) C9 (d++r7 [t0,t1]) [t2,t3,t4,t5] v3 v11 wr) (fun _ v11 _=>4-(intOf v11).toNat)
     case atStart=>exact⟨0,rfl,Nat.zero_le _,by simpa using hS⟩
     case round=>
      clear hS;obtain⟨j,rfl,hjl,hS⟩:=hrel;have hj4:j<=4:=hjl;by_cases hjn:j=4
      case neg=>
       have hj1:j<4:=by omega
       have hd5:decide ((j:Int)<4)=true:=by simp;omega
       have hst2:=Bj7 C9 (d++r7 [t0,t1]) [t2,t3,t4,t5] (k:=j) hj1;have h16:=H16.out _ (jW (l:=[t2,t3,t4,t5]) (n:=j) hj1)
       have hx:([.string t2,.string t3,.string t4,.string t5]:List Value)[j]? = some (.string ([t2,t3,t4,t5][j]'hj1)):=by
        match j,hj1 with
        | 0,_=>rfl
        | 1,_=>rfl
        | 2,_=>rfl
        | 3,_=>rfl
        | j+4,h=>omega
       have hlt2:=Bz7 C9 ([t2,t3,t4,t5].take j) fun s hs=>by have:=BS7 s (H16.out s (List.mem_of_mem_take hs));omega
       have hlt3:([t2,t3,t4,t5].take j).length<=4:=by rw[jT];exact Nat.min_le_right _ _
       generalize hd9:d++r7 [t0,t1]++([t2,t3,t4,t5].take j).flatMap C9=d9 at hS hst2;have hdl9:d9.length<=11000000:=by rw[<-hd9,jA,jA];omega
       generalize [t2,t3,t4,t5][j]'hj1=s at hst2 h16 hx;have hsl:=BS7 s h16;have Hst2:=jH hst2;clear hst2 hd9 hlt2 hlt3 hjn hjl hj4;go_wp2_with(first|refine zl1 hS ?_ (hc:=by exact i9.there (i9.here hx))|(with_reducible apply AA7 hS);rfl;rfl;rfl;exact Tryz.underlying9;exact Tryz.underlying63;exact Tryz.underlying5;clear hS;intro g9 c9 w hS;refine frS ?_|go_at_call 141;refine(cy4 g9 c9 s (by omega) W _ _ hS).mono ?_;clear hS;rintro e w ⟨vn,rfl,hS⟩;(have hv:=hS.rowVal;obtain⟨na,nc,rfl⟩:=hv)|(with_reducible apply Ae7 hS);rfl;rfl;rfl;rfl;exact esS;exact rsS;rfl;decide;exact j5;exact St.src (by decide) hS;(focus(rw[AS7,Nat.mul_one]));exact Be7 _;(focus(unfold maxLen;omega));(focus(omega));clear hS;intro v w hS;refine frS ?_);go_roundw
       case rel=>
        refine⟨j+1,rfl,hj1,?_⟩;rw[Hst2.out];have h0:St W (row v 1 5 (d9.length+(C9 s).length) (u8s d9++u8s (C9 s))::_) w:=hS;rw[<-AB7]at h0;exact(AN7 (by rw[jA]) h0).s _
       case measure=>simp[intOf];omega
      have hd5:decide ((j:Int)<4)=false:=by simp;omega
      have ht4:[t2,t3,t4,t5].take j=[t2,t3,t4,t5]:=by rw[hjn];rfl
      rw[ht4]at hS;have hl4:=Bz7 C9 [t2,t3,t4,t5] fun s hs=>by have:=BS7 s (H16.out s hs);omega
      have g9:(d++r7 [t0,t1]++[t2,t3,t4,t5].flatMap C9).length<=11000000:=by rw[jA,jA];simp only[jC,List.length_nil]at hl4;omega
      have he9:d++enT ((y1,y2),⟨t0,t1,t2,t3,t4,t5,t6,t7⟩)=d++r7 [t0,t1]++[t2,t3,t4,t5].flatMap C9++r7 [t6,t7]:=by
       have hE:∀s:ByteArray,F7 (D6 s)=C9 s:=fun s=>by unfold F7 C9;rw[Ay7]
       unfold enT;simp only[hE,List.flatMap_cons,List.flatMap_nil,List.append_nil,jS]
      generalize hacc:d++r7 [t0,t1]++[t2,t3,t4,t5].flatMap C9=d9 at hS g9 he9;have He9:=jH he9;clear hacc hjl hjn hj4 ht4 hl4 he9;go_wp2_with(first|refine zl1 hS ?_|refine zbs hS ?_;clear hS;intro bS w hS|go_at_call 144;refine(cK4 [t6,t7] bS 2 (by simp) Hn2.out W _ _ hS).mono ?_;clear hS;rintro e w ⟨vn,rfl,hS⟩;(have hv:=hS.rowVal;obtain⟨na,nc,rfl⟩:=hv)|(with_reducible apply Ae7 hS);rfl;rfl;rfl;rfl;exact esS;exact rsS;rfl;decide;exact j5;exact St.src (by decide) hS;(focus(rw[AS7,Nat.mul_one]));exact Be7 _;(focus(unfold maxLen;omega));(focus(omega));clear hS;intro v w hS;refine frS ?_);go_roundw
      case rel=>
       refine⟨k+1,rfl,hk1,?_⟩;rw[Hst.out,He9.out];have h0:St W (row v 1 5 (d9.length+(r7 [t6,t7]).length) (u8s d9++u8s (r7 [t6,t7]))::_) w:=hS;rw[<-AB7]at h0;exact(AN7 (by rw[jA]) h0).s _
      case measure=>simp[intOf];omega
    rw[hkn,List.take_length]at hS;have hd3:decide (k<ts.length)=false:=by simp;omega
    clear hkl hkn
    have g3:(d1++m6 ts.length++ts.flatMap enT).length<=9100000:=by
     have:=CY7 enT 200 ts fun x hx=>Ms7 (Hh.out.tw x hx)
     rw[jA,jA];omega
    generalize hacc:d1++m6 ts.length++ts.flatMap enT=d2 at hS g3;have H2:=jH hacc;clear hacc;go_wp2_with(first|refine zl1 hS ?_|go_at_call 140;refine(cX4 _ ⟨by omega,by omega⟩ W _ _ hS).mono ?_;clear hS;rintro e w ⟨vn,rfl,hS⟩;(have hv:=hS.rowVal;obtain⟨na,nc,rfl⟩:=hv)|(with_reducible apply Ae7 hS);rfl;rfl;rfl;rfl;exact esS;exact rsS;rfl;decide;exact j5;exact St.src (by decide) hS;(focus(rw[AS7,Nat.mul_one]));exact Be7 _;(focus(unfold maxLen;omega));(focus(omega));clear hS;intro v w hS;refine frS ?_);have h0:St W (row v 1 5 (d2.length+(m6 (ar.length:Int)).length) (u8s d2++u8s (m6 (ar.length:Int)))::_) w:=hS;clear hS;rw[<-AB7]at h0;have hS:=(AN7 (by rw[jA]) h0).s (byR v (d2++m6 (ar.length:Int))::xeB xb _ _ _ _::xrP _ D::w8 D::xsP _ ss::xtP _ ts::xmP _ ar::R);clear h0
    go_loopw [3,12] (fun v3 v12 wr=>CtR W (xeB xb (.slice a1 D.length c1) (.slice a2 ss.length c2) (.slice a3 ts.length c3) (.slice a4 ar.length c4)::xrP (.slice a1 D.length c1) D::w8 D::xsP (.slice a2 ss.length c2) ss::xtP (.slice a3 ts.length c3) ts::xmP (.slice a4 ar.length c4) ar::R) fAr (d2++m6 ar.length) ar v3 v12 wr) (fun _ v12 _=>ar.length-(intOf v12).toNat)
    case atStart=>exact⟨0,rfl,Nat.zero_le _,by simpa using hS⟩
    case round=>
     clear hS;obtain⟨k,rfl,hkl,hS⟩:=hrel;by_cases hkn:k=ar.length
     case neg=>
      have hk1:k<ar.length:=by omega
      have hd4:decide (k<ar.length)=true:=decide_eq_true hk1;obtain⟨⟨g,rfl⟩,_,_⟩:=St.rowAddr hS.drop.drop.drop.drop.drop.drop (by omega);have hca:∀{K K':List HP},Take K (xmP (.S g ar.length c4) ar) K'->i9 K g (k*2) (.I ar[k].1.1):=fun hu=>i8.elemM (enc:=mkC) Cj7 hu hk1 0 _ rfl
      have hcb:∀{K K':List HP},Take K (xmP (.S g ar.length c4) ar) K'->i9 K g (k*2+1) (.I ar[k].1.2):=fun hu=>i8.elemM (enc:=mkC) Cj7 hu hk1 1 _ rfl
      have hst:=Bj7 fAr (d2++m6 ar.length) ar hk1;have hlt:=CY7 fAr 18 (ar.take k) fun x _=>Vx7 x
      have haw:=Hh.out.aw _ (jW hk1);rw[jT]at hlt;generalize hd:d2++m6 ar.length++(ar.take k).flatMap fAr=d at hS hst;have hdl:d.length<=10000000:=by rw[<-hd,jA,jA];omega
      generalize ar[k]=x at hca hcb hst haw;obtain⟨⟨c,q⟩,u⟩:=x;simp only at hca hcb;obtain⟨⟨w1,w2⟩,w3,w4⟩:=haw;simp only at w1 w2 w3 w4;have hnl:(r7 [c,q]).length<=18:=AM7 [c,q];have Hca:=jH (show -9223372036854775808<=c/\c<=9223372036854775807 from⟨by omega,by omega⟩);have Hcb:=jH (show -9223372036854775808<=q/\q<=9223372036854775807 from⟨by omega,by omega⟩);have Hst:=jH hst;clear hst hd hlt hkn hkl;go_wp2_with(first|refine zl1 hS ?_);have hS1:=hS.s (byR _ d::xeB xb _ _ _ _::xmP _ ar::xrP _ D::w8 D::xsP _ ss::xtP _ ts::R);clear hS;refine rf2 tB24a (fun i=>i==17||i==18||i==19) [⟨some 17,some 18,fun nd=>R5 (nd 17) 2 2 [.I c,.I q] 3⟩,⟨some 18,none,fun nd=>byR (nd 18) (r7 [c,q])⟩,⟨some 19,none,fun nd=>row (nd 19) 1 5 (d.length+(r7 [c,q]).length) (u8s d++u8s (r7 [c,q]))⟩] [some 19,none,none] hS1 ?_;clear hS1;intro nd
      iterate 2 (refine cR ?_)
      (refine zcn ?_);refine cR ?_;refine zc1 ?_
      iterate 3 (refine cR ?_)
      (refine zc1 ?_ (hc:=by(intro F;exact hca (by exact D5))));refine cR ?_;refine zcn ?_;refine cR ?_;refine zc1 ?_
      iterate 3 (refine cR ?_)
      (refine zc1 ?_ (hc:=by(intro F;exact hcb (by exact D5))));apply an4;rfl;rfl;rfl;(focus(simp only[fD,fI,fJ,Act.eval,fE,fF,fG,fH,fK];try rfl));(exact esS);(exact rsS);rfl;rfl;rfl;rfl;(intro _;rfl);rfl;(intro _;rfl);(refine frS ?_);apply AP7;rfl;rfl;rfl;decide +kernel;(focus(simp only[fD,fI,fJ,Act.eval,fE,fF,fG,fH,fK];try rfl));(intro _;rfl);(intro F w hS;exact Ha7 Hca.out Hcb.out hS);(refine frS ?_);apply Ai7;rfl;rfl;rfl;(focus((conv=>lhs;whnf);try rfl));(focus((conv=>lhs;whnf);try rfl));(exact esS);(exact rsS);rfl;decide;rfl;(intro F w hS;exact Ib7 (k:=1) (by decide) hS (by exact D5));(focus(rw[AS7,Nat.mul_one]));(focus(exact Be7 _));(focus(unfold maxLen;omega));(focus(omega));(intro _;rfl);(intro _;rfl);(refine frS ?_);refine cR ?_;refine Ad7 ?_;intro w hS;have hS2:St W [byR (nd 18) _,row (nd 19) 1 5 _ _,xeB xb (.slice a1 D.length c1) (.slice a2 ss.length c2) (.slice a3 ts.length c3) (.S g ar.length c4),xmP _ ar,sats (xrP (.slice a1 D.length c1) D::w8 D::xsP (.slice a2 ss.length c2) ss::xtP (.slice a3 ts.length c3) ts::R)] w:=hS;clear hS;have hS:=hS2.drop.unpack [_,_,_];clear hS2;simp only[jK,jN]at hS;generalize nd 19=v9 at *;go_wp2_with(fail);go_roundw
      case rel=>
       refine⟨k+1,rfl,hk1,?_⟩;rw[Hst.out];unfold fAr;have h0:St W (row v9 1 5 (d.length+(r7 [c,q]).length) (u8s d++u8s (r7 [c,q]))::_) w:=hS;rw[<-AB7]at h0;exact(AN7 (by rw[jA]) h0).s _
      case measure=>simp[intOf];omega
     rw[hkn,List.take_length]at hS;have hd4:decide (k<ar.length)=false:=by simp;omega
     clear hkl hkn;go_wp2_with(first|refine zl1 hS ?_);go_ret;refine⟨_,rfl,?_⟩;rw[H0.out,H1.out,H2.out];exact hS.s _
theorem gZ4(o0 o1:Int)(o2 o3 o4 o5:ByteArray)(o6 o7:Int)(w:World):(Op.equalIn 10000 40 (.agg #[.I o0,.I o1,.string o2,.string o3,.string o4,.string o5,.I o6,.I o7]) (.agg #[.I o0,.I o1,.string o2,.string o3,.string o4,.string o5,.I o6,.I o7])).run Tryz.prog w=.ok true w:=by
 have u3:=Tryz.underlying3;have a3:=Tryz.isAgg3;have z3:=Tryz.sizeOf3;have u5:=Tryz.underlying26;have a5:=Tryz.isAgg26;have z5:=Tryz.sizeOf26;have hp:=fun k u k2 u2 w=>dB4 k u k2 u2 9997 w
 have hs:Tryz.prog.stoodInHeld 40=false:=by kernel_rfl
 rw[Op.equalIn];simp only[Sem.run_bind,run_underlying Tryz.underlying40,Result.andThen_ok,run_program,hs,Bool.false_eq_true,if_false];rw[<-Array.forIn_toList];simp only[List.forIn_cons,List.forIn_nil]
 go_simp
def TzR(W:World)(Lr:List HP)(n:Nat)(v:Value)(w:World):Prop:=∃i:Nat,v=.I i/\i<=n/\St W Lr w
theorem Hj7(L:List ((Int×Int)×Tns))(a1 a2:Option Addr)(c1 c2:Nat)(hlen:L.length<=1000000)(W w:World)(Lr:List HP)(hS:St W (xtP (.slice a1 L.length c1) L::xtP (.slice a2 L.length c2) L::Lr) w):
  Calls Tryz.prog 75 #[.slice a1 L.length c1,.slice a2 L.length c2] w fun e w'=>e=.returned (.bool true)/\St W (xtP (.slice a1 L.length c1) L::xtP (.slice a2 L.length c2) L::Lr) w':=by
 go_enter Tryz.func75,Tryz.ntmps75;go_wp2_with fail
 go_loopw [5] (fun v wr=>TzR W (xtP (.slice a1 L.length c1) L::xtP (.slice a2 L.length c2) L::Lr) L.length v wr) (fun v _=>L.length-(intOf v).toNat)
 case atStart=>exact⟨0,rfl,by omega,hS⟩
 case round=>
  clear hS;obtain⟨i,rfl,hi,hS⟩:=hrel;by_cases hn:i=L.length
  ·subst hn;go_wp2_with fail;go_ret;exact⟨rfl,hS⟩
  ·have hil:i<L.length:=by omega
   clear hn hi;obtain⟨⟨g1,rfl⟩,hc1,hn1⟩:=St.rowAddr hS (by omega);obtain⟨⟨g2,rfl⟩,hc2,hn2⟩:=St.rowAddr hS.drop (by omega);have q1:∀{X:List HP},i8 (xtP (.S g1 L.length c1) L::X) g1 (i*8) (tnC L[i]):=fun{X}=>i8.rowE Bh7 hil
   have q2:∀{X:List HP},i8 (xtP (.S g2 L.length c2) L::X) g2 (i*8) (tnC L[i]):=fun{X}=>i8.rowE Bh7 hil
   generalize L[i]=x at q1 q2;obtain⟨⟨y1,y2⟩,⟨t0,t1,t2,t3,t4,t5,t6,t7⟩⟩:=x;simp only[tnC,Tns.cells]at q1 q2;go_wp2_with fail;refine Aa7 (by kernel_rfl) (by kernel_rfl) hS ?_
   iterate 3 (refine qR ?_)
   (apply ND7;rfl;rfl;rfl;decide +kernel;exact q1;kernel_rfl;refine frS ?_)
   iterate 3 (refine qR ?_)
   (apply ND7;rfl;rfl;rfl;decide +kernel;exact i8.there q2;kernel_rfl;refine frS ?_)
   ((with_reducible apply LM7);rfl;rfl;rfl;rfl;kernel_rfl;exact gZ4 _ _ _ _ _ _ _ _;simp only[Bool.not_true];refine frS ?_)
   clear hS q1 q2;intro w hS;go_wp2_with fail;go_roundw
   case rel=>exact⟨i+1,rfl,hil,hS⟩
   case measure=>simp[intOf];omega
theorem Hk7{L:List ((Int×Int)×Tns)}{v1 v2:Value}(hlen:L.length<=1000000){W w:World}{Lr R R2:List HP}(hS:St W Lr w)(h1:Take Lr (xtP v1 L) R)(h2:Take R (xtP v2 L) R2):
  Calls Tryz.prog 75 #[v1,v2] w fun e w'=>e=.returned (.bool true)/\St W Lr w':=by
 obtain⟨a1,c1,rfl⟩:=(hS.take h1).rowVal;obtain⟨a2,c2,rfl⟩:=((hS.take h1).drop.take h2).rowVal;have h3:St W (xtP (.slice a2 L.length c2) L::xtP (.slice a1 L.length c1) L::R2) w:=⟨hS.os,hS.tape,hS.output,Dp7 (AO7 (fun _ x=>x) (fun _ x=>h2.sats x) (h1.sats hS.sat))⟩
 refine(Hj7 L a1 a2 c1 c2 hlen W w R2 h3.swap).mono ?_;rintro e w' ⟨rfl,h⟩;refine⟨rfl,St.back ⟨h.os,h.tape,h.output,AO7 (fun _ x=>x) (fun _ x=>h2.back x) h.sat⟩ h1⟩
theorem Su7{vb N:Nat}{V:Vs}(hw:PsW V.ps N)(hN:N<=1000000)(hmay:∀x∈V.L,MayP x)(hl32:V.L.length<=32){s0 s1 s2 s3:Int}(ht:G5 (co4 V) it0=some ⟨s0,s1,s2,s3⟩){W w:World}{R:List HP}(hS:St W (dvP vb V::R) w):
  Calls Tryz.prog 139 #[.P vb] w fun e w'=>e=.returned (.tuple #[.agg #[.I s0,.I s1,.I s2,.I s3],.bool true])/\St W (dvP vb V::R) w':=by
 obtain⟨xB,hS0⟩:=de4 hS;refine(fR4 vb xB V.ps V.L V.n hw hN hmay hl32 W w R hS0).mono ?_;rintro e w' ⟨rfl,hS⟩;refine⟨?_,bF4 hS⟩;have h1:G5 (co4 ⟨V.ps,V.L,V.n⟩) it0=some ⟨s0,s1,s2,s3⟩:=ht;rw[h1,bK4,h1];rfl
theorem Sv7{xb:Nat}{d:Ec}(hv:∀x∈d.vs,(PsW x.2.ps 1000000/\(∀o∈x.2.L,MayP o)/\x.2.L.length<=32)/\G5 (co4 x.2) it0=some (al4 x.2))(hl:d.vs.length<=100000){t0 t1 t2 t3:Int}(ht:G5 (d.vs.map fun x=>al4 x.2) it0=some ⟨t0,t1,t2,t3⟩)(W w:World)(R:List HP)(hS:St W (Q6 xb d::R) w):
  Calls Tryz.prog 74 #[.P xb] w fun x w'=>x=.returned (.tuple #[.agg #[.I t0,.I t1,.I t2,.I t3],.bool true])/\St W (Q6 xb d::R) w':=by
 obtain⟨v1,v2,v3,v4,D,hd,hS0⟩:=bm4 hS;clear hS;have hS:=hS0.s (xeB xb v1 v2 v3 v4::xrP v1 D::w8 D::xsP v2 d.ss::xtP v3 d.ts::xmP v4 d.ar::R);clear hS0;have hD:D.length<=100000:=by rw[<-Dm7,hd];exact hl
 have hvD:∀x∈D,(PsW x.2.2.ps 1000000/\(∀o∈x.2.2.L,MayP o)/\x.2.2.L.length<=32)/\G5 (co4 x.2.2) it0=some (al4 x.2.2):=fun x hx=>hv (x.1,x.2.2) (by rw[<-hd];exact List.mem_map.2 ⟨x,hx,rfl⟩)
 have htD:G5 (D.map fun x=>al4 x.2.2) it0=some ⟨t0,t1,t2,t3⟩:=by rw[<-hd]at ht;unfold r6 at ht;rw[List.map_map]at ht;exact ht
 have Hd:=jH hd;have HvD:=jH hvD;have HtD:=jH htD;clear hd hl hv ht hvD htD;obtain⟨a,cap,rfl⟩:=hS.drop.rowVal;go_enter Tryz.func74,Tryz.ntmps74;go_wp2_with(first|refine zal hS ?_;clear hS;intro b0 w hS);have hS1:=hS.rowNil (k:=4) (T:=29);clear hS;have hS:=hS1;clear hS1
 go_loopw [4,5] (fun v4' v5 wr=>TtR W (blk b0 [.I 0,.I 0,.I 0,.I 0] 29::xeB xb (.slice a D.length cap) v2 v3 v4::xrP (.slice a D.length cap) D::w8 D::xsP v2 d.ss::xtP v3 d.ts::xmP v4 d.ar::R) D.length (fun k=>(D.take k).map fun x=>al4 x.2.2) v4' v5 wr) (fun _ v5 _=>D.length-(intOf v5).toNat)
 case atStart=>exact⟨0,rfl,Nat.zero_le _,hS⟩
 case round=>
  clear hS;obtain⟨k,rfl,hkl,hS⟩:=hrel;dsimp only at hS;by_cases hkn:k=D.length
  ·rw[hkn,List.take_length]at hS;have hd1:decide (k<D.length)=false:=by simp;omega
   clear hkl hkn;generalize (D.map fun x=>al4 x.2.2)=acc at hS HtD;go_wp2_with(first|refine zl1 hS ?_|go_at_call 117;refine(Jl7 HtD.out _ W _ _ hS).mono ?_;clear hS;rintro ex w ⟨rfl,hS⟩|refine zsN hS ?_;clear hS;intro w hS);apply Ac7;rfl;rfl;rfl;rfl;exact hS;decide +kernel;(exact x9);kernel_rfl;exact⟨rfl,aw4 Hd.out (hS.s _)⟩
  ·have hk1:k<D.length:=by omega
   have hd1:decide (k<D.length)=true:=decide_eq_true hk1;obtain⟨⟨g,rfl⟩,_,_⟩:=St.rowAddr hS.drop.drop.drop (by omega);have hcp:∀{K K':List HP},Take K (xrP (.S g D.length cap) D) K'->i9 K g (k*2+1) (.pointer (some ⟨D[k].2.1,0,none⟩)):=fun hu=>i8.elemM (enc:=rwC) Bm7 hu hk1 1 _ rfl
   have hstep:=CL7 (fun x:ByteArray×(Nat×Vs)=>al4 x.2.2) D hk1;have hmx:=HvD.out _ (jW hk1);have hbl:((D.take k).map fun x=>al4 x.2.2).length<=100000:=by rw[jM,jT];omega
   have hop:∀(w:World) (K:List HP),St W (w8 D::K) w->St W (dvP D[k].2.1 D[k].2.2::w8 (D.take k++D.drop (k+1))::K) w:=fun w K h=>by
    have h1:St W (w8 (D.take k++D[k]::D.drop (k+1))::K) w:=by rw[<-List.drop_eq_getElem_cons hk1,List.take_append_drop];exact h
    exact cB4 h1
   have hcl:∀(w:World) (K:List HP),St W (dvP D[k].2.1 D[k].2.2::w8 (D.take k++D.drop (k+1))::K) w->St W (w8 D::K) w:=fun w K h=>by have h1:=cC4 h;rwa [<-List.drop_eq_getElem_cons hk1,List.take_append_drop]at h1
   generalize D.take k++D.drop (k+1)=D2 at hop hcl;generalize ((D.take k).map fun x=>al4 x.2.2)=acc at hS hstep hbl;generalize D[k]=x at hcp hstep hmx hop hcl;obtain⟨xk,vb,V⟩:=x;obtain⟨⟨s0,s1,s2,s3⟩,hs⟩:∃z,al4 V=z:=⟨_,rfl⟩
   obtain⟨hw,ht⟩:=hmx;simp only at hcp hop hcl hw ht hstep;rw[hs]at ht hstep;have Hstep:=jH hstep;have Hw:=jH hw;have Ht:=jH ht;have Hop:=jH hop;have Hcl:=jH hcl;clear hstep hw ht hop hcl hs hkn hkl;go_wp2_with(first|refine zl1 hS ?_ (hc:=by exact hcp (by exact j5))|refine zl1 hS ?_|go_at_call 139;refine(Su7 Hw.out.1 (Nat.le_refl _) Hw.out.2.1 Hw.out.2.2 Ht.out (Hop.out _ _ (hS.s (w8 D::cx4 _ acc::blk b0 _ _::xeB xb (.S g D.length cap) v2 v3 v4::xrP (.S g D.length cap) D::xsP v2 d.ss::xtP v3 d.ts::xmP v4 d.ar::R)))).mono ?_;clear hS;rintro e w ⟨rfl,hS0⟩;have hS:=(Hcl.out _ _ hS0).s (cx4 _ acc::w8 D::blk b0 _ _::xeB xb (.S g D.length cap) v2 v3 v4::xrP (.S g D.length cap) D::xsP v2 d.ss::xtP v3 d.ts::xmP v4 d.ar::R);clear hS0|refine zal hS ?_;clear hS;intro b6 w hS|refine zsN hS ?_;clear hS;intro w hS|refine zlN hS ?_|refine zbs hS ?_;clear hS;intro bS w hS|refine zap hS ?_ (h63:=by unfold maxLen;omega) (hb:=by omega);clear hS;intro v w hS);go_roundw
   case rel=>
    refine⟨k+1,rfl,hk1,?_⟩;dsimp only;rw[Hstep.out];unfold cx4;rw[DA7,jA,List.length_singleton];have h0:St W (row v 4 29 (acc.length+1) (acc.flatMap It.cells++It.cells ⟨s0,s1,s2,s3⟩)::_) w:=hS;exact h0.s _
   case measure=>simp[intOf];omega
theorem Qh7{e:Ec}{d:List Int}(h:bn4 e d):0<d.length:=by obtain⟨T,A,_,_,_,_,rfl⟩:=h;have:=Ex7 (e.vs.length:Int);simp only[jA];omega
theorem Qi7{eb:Nat}{e:Ec}{n:Nat}{d:List Int}(hd:bn4 e d)(hE:EnL e n)(hn:n<=600){W w:World}{L R:List HP}(ht:Take L (ecP eb e) R)(hS:St W L w):
  Calls Tryz.prog 27 #[.P eb] w fun x w'=>∃v,x=.returned v/\St W (byR v d::L) w':=by
 refine(GZ7 hE hn W w R (hS.take ht)).mono ?_;rintro x w' ⟨v,d',rfl,hd',hS⟩;obtain rfl:=Ix7 hd hd';refine⟨v,rfl,?_⟩;exact hS.swap.back (Take.tail ht)
def OnR(W:World)(L:List HP)(n:Nat)(v:Value)(w:World):Prop:=∃i:Nat,v=.I i/\i<=n/\St W L w
theorem UC7{d:Ec}{D:Ev}(hd:r6 D=d.vs)(hn:(d.vs.map (·.1)).Nodup)(hs:(d.ss.map (·.1)).Nodup):eu4 D d.ss d.ts d.ar=er4 d:=by
 have e1:D.length=d.vs.length:=by rw[<-hd,Dm7]
 unfold eu4 er4;rw[PZ7 hd hn,Lc7 hs,Ld7,e1]
theorem Vy7{d:Ec}{D:Ev}{n:Nat}(hd:r6 D=d.vs)(h:EnL d n)(hn:n<=600)(he:aQ4 d):EnB D d.ss d.ts d.ar:=by
 have e1:D.length=d.vs.length:=by rw[<-hd,Dm7]
 have h1:=h.en.lv;have h2:=h.en.ls;have h3:=h.en.lt;have h4:=h.en.la;have h5:=h.ln;have h6:=FZ7 h he d.vs fun x hx=>hx
 refine⟨by omega,by omega,by omega,by omega,by rw[PZ7 hd h.nd];omega,fun x hx=>?_,h.en.sw,h.en.sr,fun x hx=>(h.en.tw x hx).1,h.en.aw⟩;have hm:(x.1,x.2.2)∈d.vs:=by rw[<-hd];exact List.mem_map.2 ⟨x,hx,rfl⟩
 have hv:=h.en.ok _ hm;have:=hv.n1;exact⟨h.en.vk _ hm,hv.ok,Ap7 hv.w (by omega),hv.n0,by simp only at this;omega,(he _ hm).1,(he _ hm).2⟩
theorem Kd7{eb:Nat}{e:Ec}{X:List ((Int×Int)×Tns)}(hX:X.Perm e.ts)(hA:Asc ltW X)(hl:e.ts.length<=1000000){W w:World}{L R:List HP}(ht:Take L (ecP eb e) R)(hS:St W L w):
  Calls Tryz.prog 17 #[.P eb] w fun x w'=>∃v,x=.returned v/\St W (xtP v X::L) w':=by
 refine(EE7 (by omega) W w R (hS.take ht)).mono ?_;rintro x w' ⟨v,T,rfl,hT,hT2,hS⟩;obtain rfl:X=T:=Px7 Aw7 hA hT2 (hX.trans hT.symm);exact⟨v,rfl,hS.swap.back (Take.tail ht)⟩
theorem NA7{D:Ev}{ss:List (Int×(Int×Rpl))}{ts:List ((Int×Int)×Tns)}{ar:List ((Int×Int)×Unit)}{z:List Int}(h:EnB D ss ts ar)(hz:eu4 D ss ts ar=z){xb:Nat}{a1 a2 a3 a4:Option Addr}{c1 c2 c3 c4:Nat}{W w:World}{L R:List HP}(hs:Same L (xeB xb (.slice a1 D.length c1) (.slice a2 ss.length c2) (.slice a3 ts.length c3) (.slice a4 ar.length c4)::xrP (.slice a1 D.length c1) D::w8 D::xsP (.slice a2 ss.length c2) ss::xtP (.slice a3 ts.length c3) ts::xmP (.slice a4 ar.length c4) ar::R))(hS:St W L w):
  Calls Tryz.prog 76 #[.P xb] w fun e w'=>∃v,e=.returned v/\St W (byR v z::L) w':=by
 refine(Qg7 h xb a1 a2 a3 a4 c1 c2 c3 c4 W w R (hs.st hS)).mono ?_;rintro e w' ⟨v,rfl,hS⟩;rw[hz]at hS;exact⟨v,rfl,hs.ts hS⟩
theorem Hc7{eb xb:Nat}{d e:Ec}{n:Nat}(hsim:SimE d e)(hE:EnL e n)(hT:∀k,Kx k->T9 e k<=500000000)(hn:n<=600)(W w:World)(R:List HP)(hS:St W (ecP eb e::Q6 xb d::R) w):
  Calls Tryz.prog 28 #[.P eb,.P xb] w fun x w'=>x=.returned (.bool true)/\St W (ecP eb e::Q6 xb d::R) w':=by
 have he:=DS7 hS;have hD:=Lb7 hE hsim;have heD:=Sg7 he hsim;have hvk:∀x∈e.vs,x.1.size<=maxLen:=fun x hx=>by have:=hE.en.vk x hx;unfold maxLen;omega
 have hlv:=hE.en.lv;have hlt:=hE.en.lt;have hlD:=hD.en.lv;have hltD:=hD.en.lt;have hks:=Vt7 hsim;have hkl:(ksE e).length<=600:=by rw[Iw7];omega
 have htv:=Vo7 hE.en.ok he hT;have htt:=Vp7 hE.en.ok he hT;have htvD:∀x∈d.vs,(PsW x.2.ps 1000000/\(∀o∈x.2.L,MayP o)/\x.2.L.length<=32)/\G5 (co4 x.2) it0=some (al4 x.2):=fun x hx=>⟨⟨Ap7 (hD.en.ok x hx).w (by omega),(heD x hx).1,(heD x hx).2⟩,htv x (hsim.v.mem_iff.1 hx)⟩
 have httD:=htt _ (hsim.v.map fun x=>al4 x.2);have hz0:=PR7 hsim;have Hvk:=jH hvk;have Hok:=jH hE.en.ok;have HN:=jH hE;have Htv:=jH htv;have HtvD:=jH htvD;obtain⟨s0,q0⟩:∃s,T9 e 0=s:=⟨_,rfl⟩
 obtain⟨s1,q1⟩:∃s,T9 e 1=s:=⟨_,rfl⟩
 obtain⟨s2,q2⟩:∃s,T9 e 2=s:=⟨_,rfl⟩
 obtain⟨s3,q3⟩:∃s,T9 e 3=s:=⟨_,rfl⟩
 rw[q0,q1,q2,q3]at httD;have htt':∀l:List It,l.Perm (e.vs.map fun x=>al4 x.2)->G5 l it0=some ⟨s0,s1,s2,s3⟩:=by rw[<-q0,<-q1,<-q2,<-q3];exact htt
 have Htt:=jH htt';have HttD:=jH httD;have Hsim:=jH hsim;have HD:=jH hD;have HeD:=jH heD;clear hvk htv htvD htt htt' httD q0 q1 q2 q3 he heD hE hD hT hsim;have heq:((s0==s0)&&((s1==s1)&&((s2==s2)&&(s3==s3))))=true:=by simp
 obtain⟨z,hz⟩:∃z,er4 d=z:=⟨_,rfl⟩
 rw[hz]at hz0;have Hz0:=jH hz0;have Hz:=jH hz;have Hpos:=jH (Qh7 hz0);have Hks:=jH hks;clear hz hz0 hks;obtain⟨ks,hvs⟩:∃ks,d.vs.map (·.1)=ks:=⟨_,rfl⟩
 have Hvs:=jH hvs;rw[hvs]at Hks;clear hvs;go_enter Tryz.func28,Tryz.ntmps28;go_wp2_with(first|go_at_call 25;refine(JV7 Hvk.out (by omega) W _ _ hS).mono ?_;clear hS;rintro x w ⟨va,rfl,hS⟩;rw[Hks.out]at hS hkl;obtain⟨sa,sc,rfl⟩:=hS.rowVal|go_at_call 73;refine(Uu7 (by omega) W _ _ (hS.s (Q6 xb d::bs4 (.slice sa ks.length sc) ks::ecP eb e::R))).mono ?_;clear hS;rintro x w ⟨vb,rfl,hS0⟩;rw[Hvs.out]at hS0;have hS:=hS0.s (bs4 (.slice sa ks.length sc) ks::bs4 vb ks::ecP eb e::Q6 xb d::R);clear hS0;obtain⟨sb,sd,rfl⟩:=hS.drop.rowVal)
 go_loopw [7] (fun v wr=>OnR W (bs4 (.slice sa ks.length sc) ks::bs4 (.slice sb ks.length sd) ks::ecP eb e::Q6 xb d::R) ks.length v wr) (fun v _=>ks.length-(intOf v).toNat)
 case atStart=>exact⟨0,rfl,Nat.zero_le _,hS⟩
 case round=>
  clear hS;obtain⟨i,rfl,hi,hS⟩:=hrel;by_cases hiz:i<ks.length
  case pos=>
   have hd1:decide (i<ks.length)=true:=decide_eq_true hiz;obtain⟨⟨g,rfl⟩,_,_⟩:=St.rowAddr hS (by omega);obtain⟨⟨g2,rfl⟩,hcap2,hcn2⟩:=St.rowAddr hS.drop (by omega);have hca:∀{K K':List HP},Take K (bs4 (.S g ks.length sc) ks) K'->i9 K g i (eS ks[i]):=fun hu=>i9.rowM hu (by rw[List.getElem?_map,jG hiz];rfl)
   have hcb:∀{K K':List HP},Take K (bs4 (.S g2 ks.length sd) ks) K'->i9 K g2 i (eS ks[i]):=fun hu=>i9.rowM hu (by rw[List.getElem?_map,jG hiz];rfl)
   generalize ks[i]=k at hca hcb;have hkk:(k.toList==k.toList)=true:=by simp
   go_wp2_with(fail);refine Aa7 (by kernel_rfl) (by kernel_rfl) hS ?_
   iterate 3 (refine qR ?_)
   (apply As7;rfl;rfl;rfl;decide +kernel;exact hca (by exact j5);refine frS ?_)
   iterate 3 (refine qR ?_)
   (apply As7;rfl;rfl;rfl;decide +kernel;exact hcb (by exact j5);refine frS ?_);refine qR ?_;clear hS;intro w hS;go_wp2_with fail;go_roundw
   case rel=>exact⟨i+1,rfl,hiz,hS⟩
   case measure=>simp[intOf];omega
  have hd1:decide (i<ks.length)=false:=decide_eq_false hiz;clear hi hiz;go_wp2_with(first|go_at_call 22;refine(RV7 Hok.out (by omega) (by omega) Htv.out Htt.out W _ _ (hS.s (ecP eb e::Q6 xb d::R))).mono ?_;clear hS;rintro x w ⟨rfl,hS⟩|go_at_call 74;refine(Sv7 HtvD.out (by omega) HttD.out W _ _ (hS.s (Q6 xb d::ecP eb e::blk b8 _ _::R))).mono ?_;clear hS;rintro x w ⟨rfl,hS⟩|(fail_if_success (have:=gA));(refine zal hS ?_;clear hS;have gA:Nat:=0;intro b8 w hS)|(have:=gA);refine zal hS ?_;clear hS;intro b10 w hS|refine zsN hS ?_;clear hS;intro w hS);obtain⟨v1,v2,v3,v4,D,hd,hS0⟩:=bm4 (hS.s (Q6 xb d::ecP eb e::blk b8 _ _::blk b10 _ _::R));clear hS;obtain⟨a1,c1,rfl⟩:=hS0.drop.rowVal;obtain⟨a2,c2,rfl⟩:=hS0.drop.drop.drop.rowVal;obtain⟨a3,c3,rfl⟩:=hS0.drop.drop.drop.drop.rowVal;obtain⟨a4,c4,rfl⟩:=hS0.drop.drop.drop.drop.drop.rowVal;have hS:=hS0.s (ecP eb e::blk b8 _ _::blk b10 _ _::xeB xb (.slice a1 D.length c1) (.slice a2 d.ss.length c2) (.slice a3 d.ts.length c3) (.slice a4 d.ar.length c4)::xrP (.slice a1 D.length c1) D::w8 D::xsP (.slice a2 d.ss.length c2) d.ss::xtP (.slice a3 d.ts.length c3) d.ts::xmP (.slice a4 d.ar.length c4) d.ar::R);clear hS0;have HB:=jH (Vy7 hd HD.out hn HeD.out);have HZ:=jH (show eu4 D d.ss d.ts d.ar=z by rw[UC7 hd Hsim.out.vn Hsim.out.sn];exact Hz.out);have Hd:=jH hd;clear hd;refine rf3 [0,0,3,7,15,15,63,127,255,511,1023,511,2559,6655,14847,32767,65535,131071,262143,524287,1048575,262143,3145727,7340031,16777215,33554431,67108863] (fun i=>i==10||i==19||i==22) (fun i=>if i==15 then some (.bool true)else none) [⟨some 10,none,fun nd=>xtP (nd 10) d.ts⟩,⟨some 19,none,fun nd=>byR (nd 19) z⟩,⟨some 22,none,fun nd=>byR (nd 22) z⟩] [none,none,none,none,none,none,none,none,none] hS ?_;clear hS;intro nd
  iterate 2 (refine zcN ?_)
  (apply UT7;rfl;kernel_rfl;rfl;rfl;rfl;rfl;kernel_rfl;exact eqI _ _ _ _ _ _ _ _;rw[heq];refine frS ?_)
  iterate 7 (refine cR ?_)
  (apply AP7;rfl;rfl;rfl;decide +kernel;(focus(simp only[fD,fI,fJ,Act.eval,fE,fF,fG,fH,fK];try rfl));intro _;rfl;intro F w hS;exact Kd7 Hsim.out.t Hsim.out.ta (by omega) .head hS;refine frS ?_);refine cR ?_;refine zcn ?_;refine cR ?_;refine zc1 ?_;refine zcv ?_ (hs:=by(intro F w hS;(try clear hS0);exact Hk7 (by omega) hS .head (.tail (.tail (.tail (.tail (.tail (.tail (.tail .head)))))))))
  iterate 3 (refine cR ?_)
  (apply AP7;rfl;rfl;rfl;decide +kernel;(focus(simp only[fD,fI,fJ,Act.eval,fE,fF,fG,fH,fK];try rfl));intro _;rfl;intro F w hS;exact Qi7 Hz0.out HN.out hn (.tail .head) hS;refine frS ?_);apply GE7 (ns:=z);rfl;kernel_rfl;rfl;rfl;rfl;exact Tryz.underlying63;exact Tryz.underlying5;exact Tryz.underlying9;exact Hpos.out;(intro F;exact⟨_,by exact D5⟩);(refine frS ?_);refine cR ?_;apply AP7;rfl;rfl;rfl;decide +kernel;(focus(simp only[fD,fI,fJ,Act.eval,fE,fF,fG,fH,fK];try rfl));(intro _;rfl);(intro F w hS;exact NA7 HB.out HZ.out (Same.of (.tail (.tail (.tail (.tail (.tail .head))))) (Same.of (.tail (.tail (.tail (.tail (.tail .head))))) (Same.of (.tail (.tail (.tail (.tail (.tail .head))))) (Same.of (.tail (.tail (.tail (.tail (.tail .head))))) (Same.of (.tail (.tail (.tail (.tail (.tail .head))))) (Same.of (.tail (.tail (.tail (.tail (.tail .head))))) Same.refl)))))) hS);(refine frS ?_);apply GE7 (ns:=z);rfl;kernel_rfl;rfl;rfl;rfl;exact Tryz.underlying63;exact Tryz.underlying5;exact Tryz.underlying9;exact Hpos.out;(intro F;exact⟨_,by exact D5⟩);(refine frS ?_)
  iterate 3 (refine cR ?_)
  refine Ad7 ?_;intro w hS;have hS2:St W [xtP (nd 10) _,byR (nd 19) _,byR (nd 22) _,ecP eb e,blk b8 _ _,blk b10 _ _,xeB xb (.slice a1 D.length c1) (.slice a2 d.ss.length c2) (.slice a3 d.ts.length c3) (.slice a4 d.ar.length c4),xrP (.slice a1 D.length c1) D,w8 D,xsP (.slice a2 d.ss.length c2) d.ss,xtP (.slice a3 d.ts.length c3) d.ts,xmP (.slice a4 d.ar.length c4) d.ar,sats R] w:=hS;clear hS;have hS:=hS2.unpack [_,_,_,_,_,_,_,_,_,_,_,_];clear hS2;simp only[jK,jN]at hS;go_wp2_with fail;go_ret;exact⟨rfl,(aw4 Hd.out (hS.s (dg4 xb (.slice a1 D.length c1) (.slice a2 d.ss.length c2) (.slice a3 d.ts.length c3) (.slice a4 d.ar.length c4) D d (ecP eb e::R)))).swap⟩
structure TwV(x y:ByteArray×Vs):Prop where
 k:y.1=x.1
 l:y.2.L=x.2.L
 n:y.2.n=x.2.n
 h:hdL y.2.ps=hdL x.2.ps
 g:VGk (I5 y.2.ps y.2.L y.2.n) y.2.ps y.2.L y.2.n
def Tw:List (ByteArray×Vs)->List (ByteArray×Vs)->Prop
 | [],[]=>True
 | x::l,y::l'=>TwV x y/\Tw l l'
 | _,_=>False
theorem Lf7{p q:Ps}(h:hdL q=hdL p)(L:List Ord)(n:Int):I5 q L n=I5 p L n:=by unfold I5;rw[h]
theorem fC4{N:Nat}(hN:N<=1000000):∀l:List (ByteArray×Vs),(∀x∈l,N5 x.2.ps/\PsW x.2.ps N/\OkN x.2.L x.2.n)->∃l',Tw l l'
 | [],_=>⟨[],trivial⟩
 | x::l,h=>by
  obtain⟨l',hl⟩:=fC4 hN l fun y hy=>h y (List.mem_cons_of_mem _ hy)
  obtain⟨h1,h2,h3⟩:=h x (List.mem_cons_self ..);obtain⟨q,hq,he⟩:=Sn7 h1 h2 (by omega) h3;exact⟨(x.1,⟨q,x.2.L,x.2.n⟩)::l',⟨rfl,rfl,rfl,he,by rw[Lf7 he];exact hq⟩,hl⟩
theorem TwV.len{x y:ByteArray×Vs}(h:TwV x y):y.2.ps.length=x.2.ps.length:=by rw[<-Bl7,h.h,Bl7]
theorem TwV.fk{x y:ByteArray×Vs}(h:TwV x y):fK y=fK x:=by unfold fK;rw[h.k,h.l,h.n,Lf7 h.h]
theorem TwV.none{x y:ByteArray×Vs}(h:TwV x y):C6 y.2=C6 x.2:=by unfold C6;rw[h.len,h.l,h.n]
theorem TwV.dv{x y:ByteArray×Vs}(h:TwV x y)(vb:Nat):dvP vb y.2=dvP vb x.2:=by
 obtain⟨xk,⟨xp,xl,xn⟩⟩:=x;obtain⟨yk,⟨yp,yl,yn⟩⟩:=y;obtain⟨_,h2,h3,h4,_⟩:=h;simp only at h2 h3 h4;subst h2 h3;unfold dvP;simp only
 funext f
 simp only[Vw7 h4]
theorem TwV.ps{x y:ByteArray×Vs}(h:TwV x y){N:Nat}(hw:PsW x.2.ps N):N5 y.2.ps/\PsW y.2.ps N:=by have h1:=SY7 (DF7 _ _ _) h.g;exact⟨h1.1,h1.2.nd,h1.2.nz,h1.2.who,by rw[h.len];exact hw.len⟩
theorem Lg7:∀{l l':List (ByteArray×Vs)},Tw l l'->l'.map (·.1)=l.map (·.1)
 | [],[],_=>rfl
 | x::l,y::l',h=>by rw[List.map_cons,List.map_cons,h.1.k,Lg7 h.2]
theorem Qj7:∀{l l':List (ByteArray×Vs)},Tw l l'->l'.flatMap fK=l.flatMap fK
 | [],[],_=>rfl
 | x::l,y::l',h=>by rw[List.flatMap_cons,List.flatMap_cons,h.1.fk,Qj7 h.2]
theorem Tb7:∀{l l':List (ByteArray×Vs)},Tw l l'->bi4 l'=bi4 l
 | [],[],_=>rfl
 | x::l,y::l',h=>by rw[bi4,bi4,h.1.len,Tb7 h.2]
theorem Qk7{l l':List (ByteArray×Vs)}(h:Tw l l'):l'.length=l.length:=by have:=congrArg List.length (Lg7 h);simpa using this
theorem Tc7:∀{l l':List (ByteArray×Vs)},Tw l l'->∀y∈l', ∃x∈l,TwV x y
 | [],[],_=>fun _ h=>(by cases h)
 | x::l,y::l',h=>fun z hz=>by
  rcases List.mem_cons.1 hz with rfl|hz
  ·exact⟨x,List.mem_cons_self ..,h.1⟩
  ·obtain⟨u,hu,hv⟩:=Tc7 h.2 z hz;exact⟨u,List.mem_cons_of_mem _ hu,hv⟩
theorem ha4:∀{l l':List (ByteArray×Vs)} (D:Ev),Tw l l'->r6 D=l->∃D':Ev,r6 D'=l'/\(D'.map fun x=>dvP x.2.1 x.2.2)=(D.map fun x=>dvP x.2.1 x.2.2)/\D'.flatMap rwC=D.flatMap rwC/\D'.length=D.length
 | [],[],[],_,_=>⟨[],rfl,rfl,rfl,rfl⟩
 | [],[],_::_,_,h=>by cases h
 | x::l,y::l',[],_,h=>by cases h
 | x::l,y::l',z::D,h,hd=>by
  have hd2:(z.1,z.2.2)::r6 D=x::l:=hd
  injection hd2 with e1 e2
  obtain⟨D',h1,h2,h3,h4⟩:=ha4 D h.2 e2;refine⟨(y.1,(z.2.1,y.2))::D',?_,?_,?_,?_⟩
  ·show(y.1,y.2)::r6 D'=y::l'
   rw[h1]
  ·rw[List.map_cons,List.map_cons,h2]
   congr 1
   show dvP z.2.1 y.2=dvP z.2.1 z.2.2
   rw[h.1.dv,<-e1]
  ·rw[List.flatMap_cons,List.flatMap_cons,h3]
   congr 1
   unfold rwC;rw[h.1.k,<-e1]
  ·rw[jC,jC,h4]
theorem Vz7{W w:World}{R:List HP}{xb:Nat}{d:Ec}{l':List (ByteArray×Vs)}(h:Tw d.vs l')(hS:St W (Q6 xb d::R) w):St W (Q6 xb ⟨l',d.ss,d.ts,d.ar⟩::R) w:=by
 obtain⟨v1,v2,v3,v4,D,hD,hS⟩:=bm4 hS;obtain⟨D',h1,h2,h3,h4⟩:=ha4 D h hD;refine aw4 (d:=⟨l',d.ss,d.ts,d.ar⟩) (D:=D') (v1:=v1) (v2:=v2) (v3:=v3) (v4:=v4) h1 ?_;have e1:w8 D'=w8 D:=by unfold w8;rw[h2]
 have e2:xrP v1 D'=xrP v1 D:=by unfold xrP;rw[h3,h4]
 unfold dg4 at hS ⊢;rw[e1,e2];exact hS
theorem Ql7{y:ByteArray×Vs}(hk:C8 y.1=true)(hg:VGk (I5 y.2.ps y.2.L y.2.n) y.2.ps y.2.L y.2.n)(hn:C6 y.2=false)(hl:(I5 y.2.ps y.2.L y.2.n).length<=1000000)(r:List Int):ca4 (fK y++r) y r:=by unfold ca4 fK;have hs:=Dh7 hk;rw[jS,Bf7 y.1 (by omega)];simp only;rw[FD7 (DF7 _ _ _) (by omega)];exact⟨rfl,(Ez7 _).symm,hk,hg,hn⟩
theorem Qm7{x:Int×(Int×Rpl)}(hw:cR4 (x.1,x.2.1))(hr:RpOk x.2.2)(r:List Int):cE4 (fSe x++r) x r:=by
 have hb:=My7 hw;obtain⟨⟨w1,w2⟩,w3,w4⟩:=hw;simp only at w1 w2 w3 w4;have e:fSe x++r=m6 x.1++(m6 x.2.1++(F7 (rpB x.2.2)++r)):=by unfold fSe r7;simp
 have hl:=DT7 x.2.2;unfold cE4;rw[e,Aq7 (by omega) (by omega)];simp only;rw[Aq7 (by omega) (by omega)];simp only;rw[FD7 (x:=rpB x.2.2) (AC7 (AD7 Az7 _) (AD7 Az7 _)) (by omega)];exact⟨rfl,trivial,trivial,hb,hr,rfl⟩
theorem Qn7{x:(Int×Int)×Tns}(hm:es4 x.2=true)(hk:x.1=(x.2.client,x.2.seq))(r:List Int):cl4 (enT x++r) x r:=by obtain⟨e1,e2⟩:=Uv7 (x:=x) (Uw7 hm) r;exact⟨e2,e1.symm,hk,hm⟩
theorem Qo7{x:(Int×Int)×Unit}(hw:cR4 x.1)(r:List Int):cm4 (fAr x++r) x r:=by
 have hb:=My7 (c:=x.1.1) (q:=x.1.2) hw;obtain⟨⟨w1,w2⟩,w3,w4⟩:=hw;have e:fAr x++r=m6 x.1.1++(m6 x.1.2++r):=by unfold fAr r7;simp
 unfold cm4;rw[e,Aq7 (by omega) (by omega)];simp only;rw[Aq7 (by omega) (by omega)];exact⟨rfl,rfl,hb⟩
theorem Sw7{X:Ec}(l1:X.vs.length<=1000000)(l2:X.ss.length<=1000000)(l3:X.ts.length<=1000000)(l4:X.ar.length<=1000000)(pv:∀x∈X.vs, ∀r,ca4 (fK x++r) x r)(ps:∀x∈X.ss, ∀r,cE4 (fSe x++r) x r)(pt:∀x∈X.ts, ∀r,cl4 (enT x++r) x r)(pa:∀x∈X.ar, ∀r,cm4 (fAr x++r) x r):cS4 (dR4 X) X:=by unfold dR4;simp only[jS];refine⟨_,_,_,_,_,_,_,Aq7 (by omega) (by omega) _,ER7 (P:=fun x=>∀r,ca4 (fK x++r) x r) (fun x r h=>h r) pv,Aq7 (by omega) (by omega) _,ER7 (P:=fun x=>∀r,cE4 (fSe x++r) x r) (fun x r h=>h r) ps,Aq7 (by omega) (by omega) _,ER7 (P:=fun x=>∀r,cl4 (enT x++r) x r) (fun x r h=>h r) pt,Aq7 (by omega) (by omega) _,?_⟩;have h:=ER7 (S:=cm4) (f:=fAr) (P:=fun x=>∀r,cm4 (fAr x++r) x r) (fun x r h=>h r) (r:=[]) pa;rw[List.append_nil]at h;exact h
theorem VA7{d:Ec}(hv:(d.vs.map (·.1)).Nodup)(hs:(d.ss.map (·.1)).Nodup):er4 d=dR4 d:=by unfold er4 dR4;rw[SZ7 hv,Lc7 hs,Ld7]
theorem Sx7{n:Int}(h0:0<=n)(h1:n<128):(m6 n).length=1:=by
 have e:bh4 n=n.toNat:=by
  unfold bh4
  repeat' split
  all_goals omega
 unfold m6;rw[e,BW7 (by omega)];rfl
theorem Qp7{x:Hd}(h:x.who.size<=16):(T7 x).length<=53:=by have h1:=AM7 [x.has.x0,x.has.x1,x.has.x2,x.has.x3];have h2:=Sx7 (n:=(x.who.size:Int)) (by omega) (by omega);unfold T7 C9;rw[jA,jA,h2,Ay7];simp only[jC,List.length_nil]at h1;omega
theorem Sy7{p:Ps}{L:List Ord}{n:Int}{N:Nat}(hw:PsW p N)(hL:∀x∈L,MayP x)(hl:L.length<=32):(I5 p L n).length<=53*p.length+2300:=by
 have h1:=Ak7 ((hdL p).length:Int);have h2:=Ak7 (L.length:Int);have h3:=Ak7 n;have h4:=CY7 T7 53 (hdL p) (fun x hx=>by have hk:x.who∈(hdL p).map Hd.who:=List.mem_map_of_mem hx;rw[DN7]at hk;obtain⟨y,hy,e⟩:=Hz7 hk;exact Qp7 (by rw[<-e];exact Dh7 (hw.who y hy)));have h5:=Bz7 S5 L fun x hx=>DB7 x (hL x hx).who1
 have h6:=Bl7 p;unfold I5;rw[jA,jA,jA,jA];omega
theorem UD7{d e:Ec}{n:Nat}(hG:GOk d e n)(hU:EnU e n)(he:aQ4 e)(hid:∀x∈e.vs,bp4 x.2.L/\∀o∈x.2.L,o.id<x.2.n)(hn:n<=150){b:List Int}(hb:bn4 e b):
  ∃l',Tw d.vs l'/\cS4 b ⟨l',d.ss,d.ts,d.ar⟩/\et4 ⟨l',d.ss,d.ts,d.ar⟩/\GOk ⟨l',d.ss,d.ts,d.ar⟩ (ofX ⟨l',d.ss,d.ts,d.ar⟩) n/\EnL (ofX ⟨l',d.ss,d.ts,d.ar⟩) n/\aQ4 (ofX ⟨l',d.ss,d.ts,d.ar⟩)/\∀y∈l',(I5 y.2.ps y.2.L y.2.n).length<=990000:=by
 have hL:=Lb7 hU.t.en hG.sim;have hds:∀x∈d.vs,x∈e.vs:=fun x hx=>hG.sim.v.mem_iff.1 hx
 obtain⟨l',ht⟩:=fC4 (N:=100*n) (by omega) d.vs fun x hx=>by have h1:=hL.en.ok x hx;have h2:=hid x (hds x hx);have h3:=he x (hds x hx);refine⟨h1.ok,h1.w,Vv7 h3.2 h2.1 (hU.ap x (hds x hx)) (fun o ho=>⟨h3.1 o ho,h2.2 o ho⟩) h1.n0 (by have:=h1.n1;omega)⟩
 have hkeys:=Lg7 ht;have hasc:et4 ⟨l',d.ss,d.ts,d.ar⟩:=⟨Ux7 hkeys (List.pairwise_map.2 hG.sim.va),hG.sim.sa,hG.sim.ta,hG.sim.aa⟩
 have henc:b=dR4 ⟨l',d.ss,d.ts,d.ar⟩:=by have h1:=Ix7 hb (PR7 hG.sim);rw[h1,VA7 hG.sim.vn hG.sim.sn];unfold dR4;simp only;rw[Qj7 ht,Qk7 ht]
 have hmem:∀y∈l', ∃x∈d.vs,TwV x y:=Tc7 ht;have hn1:∀y∈l',C6 y.2=false:=fun y hy=>by obtain⟨x,hx,h1⟩:=hmem y hy;rw[h1.none];exact hG.sim.ne x hx
 have hvok:∀y∈l',VOk y.2.ps y.2.n n:=fun y hy=>by obtain⟨x,hx,h1⟩:=hmem y hy;have h2:=hL.en.ok x hx;have h3:=h1.ps h2.w;exact⟨h3.1,h3.2,by rw[h1.n];exact h2.n0,by rw[h1.n];exact h2.n1⟩
 have hsame:SameE ⟨l',d.ss,d.ts,d.ar⟩ (ofX ⟨l',d.ss,d.ts,d.ar⟩):=Iy7 hasc
 have hEn:EnL ⟨l',d.ss,d.ts,d.ar⟩ n:=by
  refine⟨⟨fun y hy=>hvok y hy,fun y hy=>?_,hL.en.sw,hL.en.sr,hL.en.tw,hL.en.aw,by have:=hL.en.lv;show l'.length<=n;rw[Qk7 ht];exact this,hL.en.ls,hL.en.lt,hL.en.la⟩,?_,?_⟩
  ·obtain⟨x,hx,h1⟩:=hmem y hy;rw[h1.k];exact hL.en.vk x hx
  ·show(l'.map (·.1)).Nodup
   rw[hkeys];exact hG.sim.vn
  ·show bi4 l'<=_
   rw[Tb7 ht];exact hL.ln
 have hEn2:=Mu7 hEn hsame;have hvl:∀y∈l',(I5 y.2.ps y.2.L y.2.n).length<=990000:=fun y hy=>by obtain⟨x,hx,h1⟩:=hmem y hy;rw[h1.l,h1.n,Lf7 h1.h];have h2:=hL.en.ok x hx;have h3:=he x (hds x hx);have h4:=Sy7 (n:=x.2.n) h2.w h3.1 h3.2;have h5:=h2.w.len;omega
 have hpar:cS4 b ⟨l',d.ss,d.ts,d.ar⟩:=by rw[henc];have lv:=hEn.en.lv;have ls:=hEn.en.ls;have lt:=hEn.en.lt;have la:=hEn.en.la;refine Sw7 (by omega) (by omega) (by omega) (by omega) (fun y hy=>?_) (fun x hx=>Qm7 (hL.en.sw x hx) (hL.en.sr x hx)) (fun x hx=>Qn7 (hU.mt x (hG.sim.t.mem_iff.1 hx)) (hL.en.tw x hx).2) (fun x hx=>Qo7 (hL.en.aw x hx));obtain⟨x,hx,h1⟩:=hmem y hy;exact Ql7 (by rw[h1.k];exact hU.wk x (hds x hx)) h1.g (hn1 y hy) (Nat.le_trans (hvl y hy) (by decide))
 have hea:aQ4 (ofX ⟨l',d.ss,d.ts,d.ar⟩):=fun y hy=>by obtain⟨x,hx,h1⟩:=hmem y (hsame.v.mem_iff.2 hy);rw[h1.l];exact he x (hds x hx)
 refine⟨l',ht,hpar,hasc,⟨⟨hsame.v,hsame.s,hsame.t,hsame.a,hasc.1,hasc.2.1,hasc.2.2.1,hasc.2.2.2,hn1,hG.sim.tk,hG.sim.old⟩,hEn2.en.ok,?_,hG.ls,hG.lt,hG.la⟩,hEn2,hea,hvl⟩;show l'.length<=n
 rw[Qk7 ht];exact hG.lv
section
variable{W w:World}{R:List HP}
theorem Qq7:∀{E:Ev} {R:List HP},St W (m9 E::R) w->∀x∈E,bp4 x.2.2.L/\∀o∈x.2.2.L,o.id<x.2.2.n
 | [],_,_,_,hx=>by cases hx
 | y::E,R,h,x,hx=>by
  have h1:=bE4 (E:=E) h
  rcases List.mem_cons.1 hx with rfl|hx
  ·obtain⟨mb,bb,h2⟩:=aF4 h1;exact⟨Ny7 h2.drop.drop,fun o ho=>(Bn7 h2.drop.drop o ho).2⟩
  ·exact Qq7 h1.drop x hx
theorem VB7{eb:Nat}{e:Ec}(h:St W (ecP eb e::R) w):∀x∈e.vs,bp4 x.2.L/\∀o∈x.2.L,o.id<x.2.n:=by obtain⟨m1,m2,m3,m4,E,hp,h⟩:=cN4 h;have h1:St W (m9 E::R) w:=h.s _;intro x hx;obtain⟨y,hy,rfl⟩:=List.mem_map.1 (hp.mem_iff.2 hx);exact Qq7 h1 y hy
end
theorem TwV.tot{x y:ByteArray×Vs}(h:TwV x y){N:Nat}(hw:PsW x.2.ps N)(k:Int):I7 y.2 k=I7 x.2 k:=by unfold I7;rw[h.l,<-KD7 (h.ps hw).2.nd,h.h,KD7 hw.nd]
theorem Td7{N:Nat}(k:Int):∀{l l':List (ByteArray×Vs)},Tw l l'->(∀x∈l,PsW x.2.ps N)->R8 k l'=R8 k l
 | [],[],_,_=>rfl
 | x::l,y::l',h,hw=>by rw[R8,R8,h.1.tot (hw x (List.mem_cons_self ..)),Td7 k h.2 fun z hz=>hw z (List.mem_cons_of_mem _ hz)]
theorem Sz7{d e:Ec}{n:Nat}(hG:GOk d e n)(hU:EnT e n){l':List (ByteArray×Vs)}(ht:Tw d.vs l')(ha:et4 ⟨l',d.ss,d.ts,d.ar⟩)(hE:EnL (ofX ⟨l',d.ss,d.ts,d.ar⟩) n):EnT (ofX ⟨l',d.ss,d.ts,d.ar⟩) n:=by
 refine⟨hE,fun hn k hk=>?_⟩;have h1:=Fr7 (Iy7 ha).v k;have h2:=Td7 k ht fun x hx=>((Lb7 hU.en hG.sim).en.ok x hx).w
 have h3:=Fr7 hG.sim.v k;have h4:=hU.tt hn k hk;unfold T9 at h4 ⊢;rw[<-h1];show R8 k l'<=_
 rw[h2,h3];exact h4
theorem Qr7{e:Ec}{n:Nat}(h:EnL e n)(he:aQ4 e)(hn:n<=150){b:List Int}(hb:bn4 e b):b.length<=5000000:=by
 obtain⟨T,A,h1,_,h3,_,rfl⟩:=hb;have a1:=Ak7 (e.vs.length:Int);have a2:=Ak7 (e.ss.length:Int);have a3:=Ak7 (e.ts.length:Int);have a4:=Ak7 (e.ar.length:Int);have b1:=PQ7 h he (by omega);have b1':=FZ7 h he e.vs fun x hx=>hx
 have b1'':((ksE e).flatMap (enK e)).length=((e.vs.map (·.1)).flatMap (enK e)).length:=((Ax7 _).flatMap_right _).length_eq;have b2:=CY7 (enS e) 100 (aG4 (e.ss.map (·.1))) fun c _=>SV7 e c
 rw[EO7,jM]at b2;have b3:=CY7 enT 200 T fun x hx=>Ms7 (h.en.tw x (h1.mem_iff.1 hx)).1
 have b4:=CY7 enA 18 A fun x _=>SW7 x
 have c1:=h1.length_eq;have c3:=h3.length_eq;rw[jM]at c3;have d1:=h.en.lv;have d2:=h.en.ls;have d3:=h.en.lt;have d4:=h.en.la;have d5:=h.ln;simp only[jA];omega
theorem backE_spec(xs ys:List Opn)(v v2:Value)(V:World)(hv:bU4 Opn.cells 12 V v xs)(hv2:bU4 Opn.cells 12 V v2 ys)(W w:World)(Lr:List HP)(hS:St W (Old V::Lr) w):
  Calls Tryz.prog 13 #[v,v2] w fun e w'=>e=.returned (.bool true)/\St W (Old V::Lr) w':=by
 have Hv:=jH hv;have Hv2:=jH hv2;obtain⟨a,cap,rfl,h63,hact⟩:=hv.opn;obtain⟨a2,cap2,rfl,g63,hact2⟩:=hv2.opn;have Ha:=jH hact;have Ha2:=jH hact2;clear hact hact2 hv hv2;go_enter Tryz.func13,Tryz.ntmps13;go_wp2_with(first|(fail_if_success (have:=mH));(go_at_call 20;refine(EC7 xs a cap h63 (fun i hi=>(Ha.out i hi).imp fun b h=>h.imp fun off h=>⟨h.1,fun j v hj=>i9.old .head (h.2.all j v hj)⟩) W _ hS).mono ?_;clear hS;rintro e w ⟨hv,h150,rfl,hS⟩;have H150:=jH h150;clear h150;cases hv);(all_goals have mH:Nat:=0)|(have:=mH);(go_at_call 20;refine(EC7 ys a2 cap2 g63 (fun i hi=>(Ha2.out i hi).imp fun b h=>h.imp fun off h=>⟨h.1,fun j v hj=>i9.old .head (h.2.all j v hj)⟩) W _ hS).mono ?_;clear hS;rintro e w ⟨hv,h150,rfl,hS⟩;have G150:=jH h150;clear h150;cases hv))
 rotate_left
 ·go_ret;exact⟨rfl,hS⟩
 ·go_wp2_with(fail);go_ret;exact⟨rfl,hS⟩
 have hlen:xs.length<=150:=by have:=H150.out;first|exact this rfl|exact this trivial
 refine(Sf7 Sj7 hR4 xs hlen _ V Hv.out W _ _ hS).mono ?_;clear hS;rintro r w ⟨eb,xb,rfl,hG,hU,hS⟩;have Heach:=jH (DS7 hS);have Hids:=jH (VB7 hS);have HG:=jH hG;have HU:=jH hU;clear hG hU;generalize br4 xs ec0=e0 at *;generalize cP4 xs ec0=dd at *;go_wp2_with(first|go_at_call 27;refine(GZ7 HU.out.t.en (by omega) W _ _ hS).mono ?_;clear hS;rintro x w ⟨v9,b,rfl,hb,hS⟩;obtain⟨l',ht,hp,ha,hG2,hE2,he2,hvl⟩:=UD7 HG.out HU.out Heach.out Hids.out hlen hb;have Hlen:=jH (Qr7 HU.out.t.en Heach.out hlen hb);have Hbb:=jH (Kb7 hb);have Ht:=jH ht;have Hp:=jH hp;have Hasc:=jH ha;have HG2:=jH hG2;have HE2:=jH (Sz7 HG.out HU.out.t ht ha hE2);have Hok2:=jH (Mt7 hE2 he2 (by omega));have Hl:=jH hvl;clear hb ht hp ha hG2 hE2 he2 hvl;obtain⟨da,dc,rfl,hvd⟩:=LX7 hS;have Hat2:=jH (Ju7 hvd);clear hvd|go_at_call 34;refine(Qf7 _ _ _ _ Hp.out Hasc.out Hl.out Hat2.out Hbb.out Hlen.out Hok2.out W _ _ _ .head hS).mono ?_;clear hS;rintro x w ⟨fb,rfl,hS0⟩;have hS1:=Vz7 Ht.out (hS0.s (Q6 xb dd::ecP fb (ofX ⟨l',dd.ss,dd.ts,dd.ar⟩)::Old V::Lr));clear hS0;have hS:=hS1.swap;clear hS1|(fail_if_success (have:=mA));(go_at_call 28;refine(Hc7 HG2.out.sim HE2.out.en (fun k hk=>by have:=HE2.out.tt (by omega) k hk;omega) (n:=xs.length) (by omega) W _ _ hS).mono ?_;clear hS;have mA:Nat:=0;rintro x w ⟨rfl,hS⟩)|go_at_call 32;refine(JP7 ys (by have:=G150.out;first|exact this rfl|exact this trivial) _ V Hv2.out (n:=xs.length) (by omega) HG2.out Mw7 HE2.out fb xb W _ _ hS).mono ?_;clear hS;rintro x w ⟨rfl,hG3,hE3,hS⟩;have hlen2:ys.length<=150:=(by have:=G150.out;first|exact this rfl|exact this trivial);have HE3:=jH hE3;have HG3:=jH hG3;clear hG3 hE3|(have:=mA);go_at_call 28;refine(Hc7 HG3.out.sim HE3.out.en (fun k hk=>by have:=HE3.out.tt (by omega) k hk;omega) (by omega) W _ _ hS).mono ?_;clear hS;rintro x w ⟨rfl,hS⟩|go_at_call 14;refine(KM7 W _ _ hS).mono ?_;clear hS;rintro e w ⟨rfl,hS⟩);go_ret;exact⟨rfl,hS.s _⟩
end Go.Proofs.YtlmhakmoioogaaaGreat
end
section
namespace Go.Sl
open Go.ChangeShapes Go.WideShapes Go.ChangeAt Go.RowKit
section
variable{H:Type}{enc:TypeId×Value->H}{P:Program}
theorem EU7{w w':World}{base:Nat}{spare:Nat->Bool}{held:Bool}:∀{ts:List TypeId} {vs:List Value} {ds:List (DataW H)} {ps:List MemPlace},
  DataW.TrodAll enc P w base spare held ts vs ds ps->(∀p∈ps,w.sameAt w' p)->DataW.TrodAll enc P w' base spare held ts vs ds ps
 | [],[],[],_,h,_=>h
 | _::_,_::_,_::_,_,⟨p,q,⟨n,hn⟩,h2,e⟩,hs=>
  ⟨p,q,⟨n,DataW.trod_carry n _ _ _ hn fun x hx=>hs x (by rw[e];exact List.mem_append_left _ hx)⟩,EU7 h2 (fun x hx=>hs x (by rw[e];exact List.mem_append_right _ hx)),e⟩
theorem law_post{f:Func}{s:ChangeSpec}{apart fresh handsOn again:Bool}{W W':World}{args:Array Value}{ds gs:List (DataW H)}{before:List MemPlace}{tb:TypeId}
  (hl:laidOutB P=true) (hm:mapsRowed P=true) (hz:((List.range P.types.size).all fun t=>match P.underlying t with|some (.slice e)=>decide (0<P.cellsOf e)|_=>true)=true)
  (hT:f.params.toList.all (·<P.types.size)=true) (hr:f.resultTypes=#[tb]) (hb:P.underlying tb=some .bool) (hv:s.vars=[])
  (hW:DataW.Whole enc P f.params.toList s.vars apart W args.toList ds gs before)
  (hres:(s.fn H (ds++gs)).results=[.lit (.bool true)]) (hargs:(s.fn H (ds++gs)).args=ds) (hvars:(s.fn H (ds++gs)).vars=[])
  (hB:Below W.heap.size W W'):s.post enc P f apart fresh handsOn again W args (.bool true) W':=by
 have hW0:=hW;obtain⟨p,q,hA,hV,rfl,hfz,hnd⟩:=hW;rw[hv]at hV;obtain⟨rfl,rfl⟩:=trodVars_none hV;have hlt:∀x∈p++[],x.block<W.heap.size:=fun x hx=>hW0.lt x hx
 have hA':∀sp:Nat->Bool,(∀x∈p++[],sp x.block=true)->DataW.TrodAll enc P W' 0 sp true f.params.toList args.toList (s.fn H (ds++[])).args p:=fun sp hs=>by rw[hargs];refine EU7 (DataW.TrodAll.respare (kids_rows hl hm) (fun t e=>slices_full_of P hz t e) (fun t ht=>by simpa using List.all_eq_true.1 hT t ht) hA fun x hx=>hs x (by simpa using hx)) fun x hx=>hB.same (hlt x (by simpa using hx))
 have hR:∀(b:Nat) (sp:Nat->Bool) (hd:Bool),DataW.TrodAll enc P W' b sp hd f.resultTypes.toList ((Value.bool true).resultList f.resultTypes.size) (s.fn H (ds++[])).results []:=fun b sp hd=>by rw[hres,hr];exact trodAll_cons_mk (shut_bool hb _) trodAll_mk0
 have hU:∀sp:Nat->Bool,DataW.TrodVars enc P W' sp s.vars (s.fn H (ds++[])).vars []:=fun sp=>by rw[hv,hvars];rfl
 have hold:∀x∈p++[],(fun b=>decide (b<W.heap.size)) x.block=true:=fun x hx=>by simpa using hlt x hx
 refine⟨ds,[],p++[],[],p,[],hW0,hR _ _ _,hA' _ hold,hU _,World.keptBut_mono (fun x hx=>⟨hx,?_⟩) (hB.frame (·∈p++[])),fun _=>?_⟩
 ·exact Or.inr (by simpa using hx)
 ·refine⟨ok_one hr rfl (okWide_bool_mk hb _),_,_,([]++p)++[],⟨[]++p,[],trodAll_append (hA' _ (fun _ _=>rfl)) (hR _ _ _),hU _,rfl,?_,?_⟩,?_⟩
  ·intro b off hx;rw[hB.frozen (hlt _ (by simpa using hx))];exact hfz b off (by simpa using hx)
  ·intro ha;simpa using hnd ha
  ·intro x hx _;simpa using hx
end
end Go.Sl
end
