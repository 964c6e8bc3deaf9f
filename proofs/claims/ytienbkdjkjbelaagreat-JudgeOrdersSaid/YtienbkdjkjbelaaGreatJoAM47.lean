/-
  The document's economy as bytes.
-/
import Derived.Test.YtienbkdjkjbelaaGreatJoAM5
import Derived.Test.YtienbkdjkjbelaaGreatJoAM21
import Derived.Test.YtienbkdjkjbelaaGreatJoAM33
import Derived.Test.YtienbkdjkjbelaaGreatJoAM41
import Derived.Test.YtienbkdjkjbelaaGreatJoAM42
import Derived.Test.YtienbkdjkjbelaaGreatJoAM44
import Derived.Test.YtienbkdjkjbelaaGreatJoAM46
import Derived.Laws.BytesString
set_option maxHeartbeats 16000000
set_option maxRecDepth 100000
set_option linter.unusedSimpArgs false
set_option linter.unusedVariables false
section
namespace Go.Proofs.YtienbkdjkjbelaaGreat
open Go.RowKit Go.Sl
structure VEn(V:Vs):Prop where
 ok:K6 V.ps
 w:PsW V.ps 1000000
 n0:1<=V.n
 n1:V.n<=1099511627777
 may:∀x∈V.L,MayP x
 l32:V.L.length<=32
structure EnB(D:Ev)(ss:List (Int×(Int×Rpl)))(ts:List ((Int×Int)×Tns))(ar:List ((Int×Int)×Unit)):Prop where
 ld:D.length<=10000
 ls:ss.length<=10000
 lt:ts.length<=10000
 la:ar.length<=10000
 lk:(D.flatMap fKv).length<=6000000
 vk:∀x∈D,x.1.size<=16/\VEn x.2.2
 sw:∀x∈ss,cA4 (x.1,x.2.1)
 sr:∀x∈ss,RpOk x.2.2
 tw:∀x∈ts,TnOk x.2
 aw:∀x∈ar,cA4 x.1
def et4(D:Ev)(ss:List (Int×(Int×Rpl)))(ts:List ((Int×Int)×Tns))(ar:List ((Int×Int)×Unit)):List Int:=
 l6 D.length++D.flatMap fKv++l6 ss.length++ss.flatMap fSe++l6 ts.length++ts.flatMap enT++l6 ar.length++ar.flatMap fAr
theorem Pn7(x:Int×(Int×Rpl)):(fSe x).length<=100:=by have h1:=AE7 [x.1,x.2.1];have h2:=AS7 (rpB x.2.2);have h3:=FG7 x.2.2;unfold fSe;rw[jA];simp only[jC,List.length_nil]at h1;omega
theorem Rb7(x:(Int×Int)×Unit):(fAr x).length<=18:=AE7 [x.1.1,x.1.2]
abbrev tB46a:List Nat:=[0,0,2,6,14,0,62,126,254,0,512,1536,3584,0,15872,32256,65024,131070,262142,524287,1048575]
theorem Ng7{D:Ev}{ss:List (Int×(Int×Rpl))}{ts:List ((Int×Int)×Tns)}{ar:List ((Int×Int)×Unit)}(h:EnB D ss ts ar)(xb:Nat)(a1 a2 a3 a4:Option Addr)(c1 c2 c3 c4:Nat)(W w:World)(R:List HP)(hS:St W (xeB xb (.slice a1 D.length c1) (.slice a2 ss.length c2) (.slice a3 ts.length c3) (.slice a4 ar.length c4)::xrP (.slice a1 D.length c1) D::w6 D::xsP (.slice a2 ss.length c2) ss::xtP (.slice a3 ts.length c3) ts::xmP (.slice a4 ar.length c4) ar::R) w):
  Calls Tryz.prog 23 #[.P xb] w fun e w'=>∃v,e=.returned v/\St W (byR v (et4 D ss ts ar)::xeB xb (.slice a1 D.length c1) (.slice a2 ss.length c2) (.slice a3 ts.length c3) (.slice a4 ar.length c4)::xrP (.slice a1 D.length c1) D::w6 D::xsP (.slice a2 ss.length c2) ss::xtP (.slice a3 ts.length c3) ts::xmP (.slice a4 ar.length c4) ar::R) w':=by
 have ld:=h.ld;have ls:=h.ls;have lt:=h.lt;have la:=h.la;have Hh:=jH h;clear h;have b1:=Ak7 (D.length:Int);have b2:=Ak7 (ss.length:Int);have b3:=Ak7 (ts.length:Int);have b4:=Ak7 (ar.length:Int);unfold et4;go_enter Tryz.func23,Tryz.ntmps23;go_wp2_with(first|refine zl1 hS ?_|go_at_call 51;refine(ci4 _ ⟨by omega,by omega⟩ W _ _ hS).mono ?_;clear hS;rintro e w ⟨vn,rfl,hS⟩;(have hv:=hS.rowVal;obtain⟨na,nc,rfl⟩:=hv))
 go_loopw [3,4] (fun v3 v4 wr=>CtR W (xeB xb (.slice a1 D.length c1) (.slice a2 ss.length c2) (.slice a3 ts.length c3) (.slice a4 ar.length c4)::xrP (.slice a1 D.length c1) D::w6 D::xsP (.slice a2 ss.length c2) ss::xtP (.slice a3 ts.length c3) ts::xmP (.slice a4 ar.length c4) ar::R) fKv (l6 D.length) D v3 v4 wr) (fun _ v4 _=>D.length-(intOf v4).toNat)
 case atStart=>exact⟨0,rfl,Nat.zero_le _,by simpa using hS⟩
 case round=>
  clear hS;obtain⟨k,rfl,hkl,hS⟩:=hrel;by_cases hkn:k=D.length
  case neg=>
   have hk1:k<D.length:=by omega
   have hd1:decide (k<D.length)=true:=decide_eq_true hk1;obtain⟨⟨g,rfl⟩,_,_⟩:=St.rowAddr hS.drop.drop (by omega);have hck:∀{K K':List HP},Take K (xrP (.S g D.length c1) D) K'->i7 K g (k*2) (.string D[k].1):=fun hu=>i6.elemM (enc:=rwC) Bq7 hu hk1 0 _ rfl
   have hcp:∀{K K':List HP},Take K (xrP (.S g D.length c1) D) K'->i7 K g (k*2+1) (.pointer (some ⟨D[k].2.1,0,none⟩)):=fun hu=>i6.elemM (enc:=rwC) Bq7 hu hk1 1 _ rfl
   have hst:=AW7 fKv (l6 D.length) D hk1;have hvk:=Hh.out.vk _ (jW hk1);have hlt:=DQ7 fKv D (k+1);have hlk:=Hh.out.lk;rw[List.take_succ_eq_append_getElem hk1,List.flatMap_append,jA,List.flatMap_singleton]at hlt
   have hop:∀(w:World) (K:List HP),St W (w6 D::K) w->St W (dvP D[k].2.1 D[k].2.2::w6 (D.take k++D.drop (k+1))::K) w:=fun w K h=>by
    have h1:St W (w6 (D.take k++D[k]::D.drop (k+1))::K) w:=by rw[<-List.drop_eq_getElem_cons hk1,List.take_append_drop];exact h
    exact cO4 h1
   have hcl:∀(w:World) (K:List HP),St W (dvP D[k].2.1 D[k].2.2::w6 (D.take k++D.drop (k+1))::K) w->St W (w6 D::K) w:=fun w K h=>by have h1:=cP4 h;rwa [<-List.drop_eq_getElem_cons hk1,List.take_append_drop]at h1
   generalize hd:l6 D.length++(D.take k).flatMap fKv=d at hS hst;have hdl:d.length=(l6 D.length).length+((D.take k).flatMap fKv).length:=by rw[<-hd,jA]
   generalize D.take k++D.drop (k+1)=D2 at hop hcl;generalize D[k]=x at hck hcp hst hvk hlt hop hcl;obtain⟨xk,vb,V⟩:=x;obtain⟨hk16,hv⟩:=hvk;simp only at hck hcp hk16 hop hcl;have hfl:(fKv (xk,vb,V)).length=(F9 xk).length+(E5 (av4 V.ps V.L V.n)).length:=by unfold fKv;rw[jA]
   have hel:(E5 (av4 V.ps V.L V.n)).length=(l6 ((av4 V.ps V.L V.n).length:Int)).length+(av4 V.ps V.L V.n).length:=by unfold E5;rw[jA]
   have e1:(F9 xk).length<=6000000:=by omega
   have e2:(E5 (av4 V.ps V.L V.n)).length<=6000000:=by omega
   have e3:(av4 V.ps V.L V.n).length<=6000000:=by omega
   have e4:d.length<=6001000:=by omega
   have Hst:=jH hst;have Hop:=jH hop;have Hcl:=jH hcl;have Hv:=jH hv;clear hst hop hcl hv hd hlt hkn hkl hfl hel hdl hlk;go_wp2_with(first|refine zl1 hS ?_ (hc:=by exact hck (by exact i8))|refine zl1 hS ?_ (hc:=by exact hcp (by exact i8))|refine zl1 hS ?_|(with_reducible apply Au7 hS);rfl;rfl;rfl;exact Tryz.underlying9;exact Tryz.underlying73;exact Tryz.underlying5;clear hS;intro g9 c9 w hS;refine frS ?_|(fail_if_success (have:=mB));go_at_call 52;refine(bS4 g9 c9 xk (by omega) W _ _ hS).mono ?_;clear hS;rintro e w ⟨vn,rfl,hS⟩;(have hv:=hS.rowVal;obtain⟨na,nc,rfl⟩:=hv);have mB:Nat:=0|(have:=mB);go_at_call 52;refine(du4 _ _ (by omega) W _ _ (hS)).mono ?_;clear hS;rintro e w ⟨vn,rfl,hS⟩;(have hv:=hS.rowVal;obtain⟨na,nc,rfl⟩:=hv)|(with_reducible apply Ae7 hS);rfl;rfl;rfl;rfl;exact esS;exact rsS;rfl;decide;exact i8;exact St.src (by decide) hS;(focus(rw[AM7,Nat.mul_one]));exact AX7 _;(focus(unfold maxLen;omega));(focus(omega));clear hS;intro v w hS;refine frS ?_|go_at_call 53;refine(Ne7 Hv.out.ok Hv.out.w (by decide) Hv.out.may Hv.out.l32 Hv.out.n0 Hv.out.n1 (Hop.out _ _ (hS.s (w6 D::row v 1 5 (d.length+(F9 xk).length) (u8s d++u8s (F9 xk))::xeB xb _ _ _ _::xrP _ D::xsP _ ss::xtP _ ts::xmP _ ar::R)))).mono ?_;clear hS;rintro e w ⟨vn,rfl,hS0⟩;have hS1:=Hcl.out _ _ (hS0.s (dvP vb V::w6 D2::byR vn _::row v 1 5 (d.length+(F9 xk).length) (u8s d++u8s (F9 xk))::xeB xb _ _ _ _::xrP _ D::xsP _ ss::xtP _ ts::xmP _ ar::R));clear hS0;have hS:=hS1.s (byR vn _::row v 1 5 (d.length+(F9 xk).length) (u8s d++u8s (F9 xk))::w6 D::xeB xb _ _ _ _::xrP _ D::xsP _ ss::xtP _ ts::xmP _ ar::R);clear hS1);go_roundw
   case rel=>
    refine⟨k+1,rfl,hk1,?_⟩;rw[Hst.out];unfold fKv;have h0:St W (row v 1 5 (d.length+(F9 xk).length+(E5 (av4 V.ps V.L V.n)).length) (u8s d++u8s (F9 xk)++u8s (E5 (av4 V.ps V.L V.n)))::_) w:=hS;rw[<-Av7,<-Av7,jS d]at h0;exact(AC7 (by simp only[jA];omega) h0).s _
   case measure=>simp[intOf];omega
  rw[hkn,List.take_length]at hS;have hd1:decide (k<D.length)=false:=by simp;omega
  clear hkl hkn;have g1:(l6 D.length++D.flatMap fKv).length<=6000009:=by have:=Hh.out.lk;rw[jA];omega
  generalize hacc:l6 D.length++D.flatMap fKv=d0 at hS g1;have H0:=jH hacc;clear hacc;go_wp2_with(first|refine zl1 hS ?_|go_at_call 51;refine(ci4 _ ⟨by omega,by omega⟩ W _ _ hS).mono ?_;clear hS;rintro e w ⟨vn,rfl,hS⟩;(have hv:=hS.rowVal;obtain⟨na,nc,rfl⟩:=hv)|(with_reducible apply Ae7 hS);rfl;rfl;rfl;rfl;exact esS;exact rsS;rfl;decide;exact i8;exact St.src (by decide) hS;(focus(rw[AM7,Nat.mul_one]));exact AX7 _;(focus(unfold maxLen;omega));(focus(omega));clear hS;intro v w hS;refine frS ?_);have h0:St W (row v 1 5 (d0.length+(l6 (ss.length:Int)).length) (u8s d0++u8s (l6 (ss.length:Int)))::_) w:=hS;clear hS;rw[<-Av7]at h0;have hS:=(AC7 (by rw[jA]) h0).s (byR v (d0++l6 (ss.length:Int))::xeB xb _ _ _ _::xrP _ D::w6 D::xsP _ ss::xtP _ ts::xmP _ ar::R);clear h0
  go_loopw [3,5] (fun v3 v5 wr=>CtR W (xeB xb (.slice a1 D.length c1) (.slice a2 ss.length c2) (.slice a3 ts.length c3) (.slice a4 ar.length c4)::xrP (.slice a1 D.length c1) D::w6 D::xsP (.slice a2 ss.length c2) ss::xtP (.slice a3 ts.length c3) ts::xmP (.slice a4 ar.length c4) ar::R) fSe (d0++l6 ss.length) ss v3 v5 wr) (fun _ v5 _=>ss.length-(intOf v5).toNat)
  case atStart=>exact⟨0,rfl,Nat.zero_le _,by simpa using hS⟩
  case round=>
   clear hS;obtain⟨k,rfl,hkl,hS⟩:=hrel;by_cases hkn:k=ss.length
   case neg=>
    have hk1:k<ss.length:=by omega
    have hd2:decide (k<ss.length)=true:=decide_eq_true hk1;obtain⟨⟨g,rfl⟩,_,_⟩:=St.rowAddr hS.drop.drop.drop.drop (by omega);have hca:∀{K K':List HP},Take K (xsP (.S g ss.length c2) ss) K'->i7 K g (k*8) (.I ss[k].1):=fun hu=>i6.elemM (enc:=seC) AK7 hu hk1 0 _ rfl
    have hcb:∀{K K':List HP},Take K (xsP (.S g ss.length c2) ss) K'->i7 K g (k*8+1) (.I ss[k].2.1):=fun hu=>i6.elemM (enc:=seC) AK7 hu hk1 1 _ rfl
    have hcr:∀{K K':List HP},Take K (xsP (.S g ss.length c2) ss) K'->i6 K g (k*8+2) [.I ss[k].2.2.err,.I ss[k].2.2.id,.I ss[k].2.2.has.x0,.I ss[k].2.2.has.x1,.I ss[k].2.2.has.x2,.I ss[k].2.2.has.x3]:=fun hu j v hj=>by have h1:=i6.elemM (enc:=seC) AK7 hu hk1 (2+j) v (by rw[Nat.add_comm];exact hj);rwa [<-Nat.add_assoc]at h1
    have hst:=AW7 fSe (d0++l6 ss.length) ss hk1;have hlt:=Ey7 fSe 100 (ss.take k) fun x _=>Pn7 x
    have hsw:=Hh.out.sw _ (jW hk1);have hsr:=Hh.out.sr _ (jW hk1);rw[jT]at hlt;generalize hd:d0++l6 ss.length++(ss.take k).flatMap fSe=d at hS hst;have hdl:d.length<=8000000:=by rw[<-hd,jA,jA];omega
    generalize ss[k]=x at hca hcb hcr hst hsw hsr;obtain⟨c,q,⟨e,i,⟨x0,x1,x2,x3⟩⟩⟩:=x;simp only at hca hcb hcr;obtain⟨⟨w1,w2⟩,w3,w4⟩:=hsw;simp only at w1 w2 w3 w4;have hrl:=FG7 ⟨e,i,⟨x0,x1,x2,x3⟩⟩;have hrl2:=AS7 (rpB ⟨e,i,⟨x0,x1,x2,x3⟩⟩);have hnl:(l7 [c,q]).length<=18:=AE7 [c,q];have Hca:=jH (show -9223372036854775808<=c/\c<=9223372036854775807 from⟨by omega,by omega⟩);have Hcb:=jH (show -9223372036854775808<=q/\q<=9223372036854775807 from⟨by omega,by omega⟩);have Hst:=jH hst;have Hr:=jH hsr;clear hst hsr hd hlt hkn hkl;generalize hrp:rpB ⟨e,i,⟨x0,x1,x2,x3⟩⟩=rp at hrl hrl2;have Hrp:=jH hrp;clear hrp;go_wp2_with(first|refine zlN hS ?_ (hc:=by exact hcr (by exact i8))|refine zl1 hS ?_|go_at_call 54;refine(Ih7 Hr.out W _ _ hS).mono ?_;clear hS;rw[Hrp.out];rintro ex w ⟨rv,rfl,hS⟩);have hS1:=hS.s (byR _ d::byR rv rp::xeB xb _ _ _ _::xsP _ ss::xrP _ D::w6 D::xtP _ ts::xmP _ ar::R);clear hS;refine rf2 tB46a (fun i=>i==17||i==18||i==19) [⟨some 17,some 18,fun nd=>J8 (nd 17) 2 2 [.I c,.I q] 3⟩,⟨some 18,none,fun nd=>byR (nd 18) (l7 [c,q])⟩,⟨some 19,none,fun nd=>row (nd 19) 1 5 (d.length+(l7 [c,q]).length) (u8s d++u8s (l7 [c,q]))⟩] [some 19,none,none,none] hS1 ?_;clear hS1;intro nd
    iterate 2 (refine cR ?_)
    (refine zcn ?_);refine cR ?_;refine zc1 ?_
    iterate 3 (refine cR ?_)
    (refine zc1 ?_ (hc:=by(intro F;exact hca (by exact w8))));refine cR ?_;refine zcn ?_;refine cR ?_;refine zc1 ?_
    iterate 3 (refine cR ?_)
    (refine zc1 ?_ (hc:=by(intro F;exact hcb (by exact w8))));apply P7;rfl;rfl;rfl;(focus(simp only[fD,fI,fJ,Act.eval,fE,fF,fG,fH,fK];try rfl));(exact esS);(exact rsS);rfl;rfl;rfl;rfl;(intro _;rfl);rfl;(intro _;rfl);(refine frS ?_);apply AH7;rfl;rfl;rfl;decide +kernel;(focus(simp only[fD,fI,fJ,Act.eval,fE,fF,fG,fH,fK];try rfl));(intro _;rfl);(intro F w hS;exact FK7 Hca.out Hcb.out hS);(refine frS ?_);apply Ag7;rfl;rfl;rfl;(focus((conv=>lhs;whnf);try rfl));(focus((conv=>lhs;whnf);try rfl));(exact esS);(exact rsS);rfl;decide;rfl;(intro F w hS;exact Gt7 (k:=1) (by decide) hS (by exact w8));(focus(rw[AM7,Nat.mul_one]));(focus(exact AX7 _));(focus(unfold maxLen;omega));(focus(omega));(intro _;rfl);(intro _;rfl);(refine frS ?_);refine cR ?_;refine Ad7 ?_;intro w hS;have hS2:St W [byR (nd 18) _,row (nd 19) 1 5 _ _,byR rv rp,xeB xb (.slice a1 D.length c1) (.S g ss.length c2) (.slice a3 ts.length c3) (.slice a4 ar.length c4),xsP _ ss,sats (xrP (.slice a1 D.length c1) D::w6 D::xtP (.slice a3 ts.length c3) ts::xmP (.slice a4 ar.length c4) ar::R)] w:=hS;clear hS;have hS:=hS2.drop.unpack [_,_,_,_];clear hS2;simp only[jK,jN]at hS;generalize nd 19=v9 at *;go_wp2_with(first|go_at_call 52;refine(du4 _ _ (by omega) W _ _ (hS.s (byR rv rp::row v9 1 5 (d.length+(l7 [c,q]).length) (u8s d++u8s (l7 [c,q]))::xeB xb _ _ _ _::xrP _ D::w6 D::xsP _ ss::xtP _ ts::xmP _ ar::R))).mono ?_;clear hS;rintro e w ⟨vn,rfl,hS⟩;(have hv:=hS.rowVal;obtain⟨na,nc,rfl⟩:=hv)|(with_reducible apply Ae7 hS);rfl;rfl;rfl;rfl;exact esS;exact rsS;rfl;decide;exact i8;exact St.src (by decide) hS;(focus(rw[AM7,Nat.mul_one]));exact AX7 _;(focus(unfold maxLen;omega));(focus(omega));clear hS;intro v w hS;refine frS ?_);go_roundw
    case rel=>
     refine⟨k+1,rfl,hk1,?_⟩;rw[Hst.out];unfold fSe;simp only;rw[Hrp.out];have h0:St W (row v 1 5 (d.length+(l7 [c,q]).length+(E5 rp).length) (u8s d++u8s (l7 [c,q])++u8s (E5 rp))::_) w:=hS;rw[<-Av7,<-Av7,jS d]at h0;exact(AC7 (by simp only[jA];omega) h0).s _
    case measure=>simp[intOf];omega
   rw[hkn,List.take_length]at hS;have hd2:decide (k<ss.length)=false:=by simp;omega
   clear hkl hkn
   have g2:(d0++l6 ss.length++ss.flatMap fSe).length<=7010000:=by
    have:=Ey7 fSe 100 ss fun x _=>Pn7 x
    rw[jA,jA];omega
   generalize hacc:d0++l6 ss.length++ss.flatMap fSe=d1 at hS g2;have H1:=jH hacc;clear hacc;go_wp2_with(first|refine zl1 hS ?_|go_at_call 51;refine(ci4 _ ⟨by omega,by omega⟩ W _ _ hS).mono ?_;clear hS;rintro e w ⟨vn,rfl,hS⟩;(have hv:=hS.rowVal;obtain⟨na,nc,rfl⟩:=hv)|(with_reducible apply Ae7 hS);rfl;rfl;rfl;rfl;exact esS;exact rsS;rfl;decide;exact i8;exact St.src (by decide) hS;(focus(rw[AM7,Nat.mul_one]));exact AX7 _;(focus(unfold maxLen;omega));(focus(omega));clear hS;intro v w hS;refine frS ?_);have h0:St W (row v 1 5 (d1.length+(l6 (ts.length:Int)).length) (u8s d1++u8s (l6 (ts.length:Int)))::_) w:=hS;clear hS;rw[<-Av7]at h0;have hS:=(AC7 (by rw[jA]) h0).s (byR v (d1++l6 (ts.length:Int))::xeB xb _ _ _ _::xrP _ D::w6 D::xsP _ ss::xtP _ ts::xmP _ ar::R);clear h0
   go_loopw [3,8] (fun v3 v8 wr=>CtR W (xeB xb (.slice a1 D.length c1) (.slice a2 ss.length c2) (.slice a3 ts.length c3) (.slice a4 ar.length c4)::xrP (.slice a1 D.length c1) D::w6 D::xsP (.slice a2 ss.length c2) ss::xtP (.slice a3 ts.length c3) ts::xmP (.slice a4 ar.length c4) ar::R) enT (d1++l6 ts.length) ts v3 v8 wr) (fun _ v8 _=>ts.length-(intOf v8).toNat)
   case atStart=>exact⟨0,rfl,Nat.zero_le _,by simpa using hS⟩
   case round=>
    clear hS;obtain⟨k,rfl,hkl,hS⟩:=hrel;by_cases hkn:k=ts.length
    case neg=>
     have hk1:k<ts.length:=by omega
     have hd3:decide (k<ts.length)=true:=decide_eq_true hk1;obtain⟨⟨g,rfl⟩,_,_⟩:=St.rowAddr hS.drop.drop.drop.drop.drop (by omega);have hcx:∀{K K':List HP},Take K (xtP (.S g ts.length c3) ts) K'->i6 K g (k*8) (tnC ts[k]):=fun hu=>i6.elemM (enc:=tnC) Ba7 hu hk1
     have hst:=AW7 enT (d1++l6 ts.length) ts hk1;have hlt:=Ey7 enT 200 (ts.take k) fun x hx=>MQ7 (Hh.out.tw x (List.mem_of_mem_take hx))
     have htw:=Hh.out.tw _ (jW hk1);rw[jT]at hlt;generalize hd:d1++l6 ts.length++(ts.take k).flatMap enT=d at hS hst;have hdl:d.length<=10000000:=by rw[<-hd,jA,jA];omega
     generalize ts[k]=x at hcx hst htw;obtain⟨⟨y1,y2⟩,⟨t0,t1,t2,t3,t4,t5,t6,t7⟩⟩:=x;simp only[tnC,Tns.cells]at hcx;obtain⟨⟨⟨w1,w2⟩,w3,w4⟩,z2,z3,z4,z5,i0,i1,j0,j1⟩:=htw;simp only at w1 w2 w3 w4 z2 z3 z4 z5 i0 i1 j0 j1;have hna:(l7 [t0,t1]).length<=18:=AE7 [t0,t1];have hnb:(l7 [t6,t7]).length<=18:=AE7 [t6,t7]
     have Hn1:=jH (show ∀x∈[t0,t1], -9223372036854775808<=x/\x<=9223372036854775807 from fun x hx=>by
      simp only[List.mem_cons,List.not_mem_nil,or_false]at hx
      rcases hx with rfl|rfl
      all_goals exact⟨by omega,by omega⟩)
     have Hn2:=jH (show ∀x∈[t6,t7], -9223372036854775808<=x/\x<=9223372036854775807 from fun x hx=>by
      simp only[List.mem_cons,List.not_mem_nil,or_false]at hx
      rcases hx with rfl|rfl
      all_goals exact⟨by omega,by omega⟩)
     have Hst:=jH hst
     have H16:=jH (show ∀s∈[t2,t3,t4,t5],s.size<=16 from fun s hs=>by
      simp only[List.mem_cons,List.not_mem_nil,or_false]at hs
      rcases hs with rfl|rfl|rfl|rfl
      all_goals assumption)
     clear hst hd hlt hkn hkl;go_wp2_with(first|refine zlN hS ?_ (hc:=by exact hcx (by exact i8))|refine zal hS ?_;clear hS;intro b6 w hS|refine zsN hS ?_;clear hS;intro w hS|refine zl1 hS ?_|refine zbs hS ?_;clear hS;intro bS w hS|go_at_call 55;refine(cc4 [t0,t1] bS 2 (by simp) Hn1.out W _ _ hS).mono ?_;clear hS;rintro e w ⟨vn,rfl,hS⟩;(have hv:=hS.rowVal;obtain⟨na,nc,rfl⟩:=hv)|(with_reducible apply Ae7 hS);rfl;rfl;rfl;rfl;exact esS;exact rsS;rfl;decide;exact i8;exact St.src (by decide) hS;(focus(rw[AM7,Nat.mul_one]));exact AX7 _;(focus(unfold maxLen;omega));(focus(omega));clear hS;intro v w hS;refine frS ?_);have hS9:St W (blk bS [.string t2,.string t3,.string t4,.string t5] 9::_) w:=hS;clear hS;have h0:St W (row v 1 5 (d.length+(l7 [t0,t1]).length) (u8s d++u8s (l7 [t0,t1]))::_) w:=hS9.s (row v 1 5 (d.length+(l7 [t0,t1]).length) (u8s d++u8s (l7 [t0,t1]))::blk bS [.string t2,.string t3,.string t4,.string t5] 9::blk b6 [.I t0,.I t1,.string t2,.string t3,.string t4,.string t5,.I t6,.I t7] 97::xeB xb _ _ _ _::xrP _ D::w6 D::xsP _ ss::xtP _ ts::xmP _ ar::R);clear hS9;rw[<-Av7]at h0;have hS:=AC7 (by rw[jA]) h0;clear h0
     go_loopw [3,11] (fun v3 v11 wr=>CtR W (blk bS [.string t2,.string t3,.string t4,.string t5] 9::blk b6 [.I t0,.I t1,.string t2,.string t3,.string t4,.string t5,.I t6,.I t7] 97::xeB xb (.slice a1 D.length c1) (.slice a2 ss.length c2) (.S g ts.length c3) (.slice a4 ar.length c4)::xrP (.slice a1 D.length c1) D::w6 D::xsP (.slice a2 ss.length c2) ss::xtP (.S g ts.length c3) ts::xmP (.slice a4 ar.length c4) ar::R) F9 (d++l7 [t0,t1]) [t2,t3,t4,t5] v3 v11 wr) (fun _ v11 _=>4-(intOf v11).toNat)
     case atStart=>exact⟨0,rfl,Nat.zero_le _,by simpa using hS⟩
     case round=>
      clear hS;obtain⟨j,rfl,hjl,hS⟩:=hrel;have hj4:j<=4:=hjl;by_cases hjn:j=4
      case neg=>
       have hj1:j<4:=by omega
       have hd5:decide ((j:Int)<4)=true:=by simp;omega
       have hst2:=AW7 F9 (d++l7 [t0,t1]) [t2,t3,t4,t5] (k:=j) hj1;have h16:=H16.out _ (jW (l:=[t2,t3,t4,t5]) (n:=j) hj1)
       have hx:([.string t2,.string t3,.string t4,.string t5]:List Value)[j]? = some (.string ([t2,t3,t4,t5][j]'hj1)):=by
        match j,hj1 with
        | 0,_=>rfl
        | 1,_=>rfl
        | 2,_=>rfl
        | 3,_=>rfl
        | j+4,h=>omega
       have hlt2:=Br7 F9 ([t2,t3,t4,t5].take j) fun s hs=>by have:=Bv7 s (H16.out s (List.mem_of_mem_take hs));omega
       have hlt3:([t2,t3,t4,t5].take j).length<=4:=by rw[jT];exact Nat.min_le_right _ _
       generalize hd9:d++l7 [t0,t1]++([t2,t3,t4,t5].take j).flatMap F9=d9 at hS hst2;have hdl9:d9.length<=11000000:=by rw[<-hd9,jA,jA];omega
       generalize [t2,t3,t4,t5][j]'hj1=s at hst2 h16 hx;have hsl:=Bv7 s h16;have Hst2:=jH hst2;clear hst2 hd9 hlt2 hlt3 hjn hjl hj4;go_wp2_with(first|refine zl1 hS ?_ (hc:=by exact i7.there (i7.here hx))|(with_reducible apply Au7 hS);rfl;rfl;rfl;exact Tryz.underlying9;exact Tryz.underlying73;exact Tryz.underlying5;clear hS;intro g9 c9 w hS;refine frS ?_|go_at_call 52;refine(bS4 g9 c9 s (by omega) W _ _ hS).mono ?_;clear hS;rintro e w ⟨vn,rfl,hS⟩;(have hv:=hS.rowVal;obtain⟨na,nc,rfl⟩:=hv)|(with_reducible apply Ae7 hS);rfl;rfl;rfl;rfl;exact esS;exact rsS;rfl;decide;exact i8;exact St.src (by decide) hS;(focus(rw[AM7,Nat.mul_one]));exact AX7 _;(focus(unfold maxLen;omega));(focus(omega));clear hS;intro v w hS;refine frS ?_);go_roundw
       case rel=>
        refine⟨j+1,rfl,hj1,?_⟩;rw[Hst2.out];have h0:St W (row v 1 5 (d9.length+(F9 s).length) (u8s d9++u8s (F9 s))::_) w:=hS;rw[<-Av7]at h0;exact(AC7 (by rw[jA]) h0).s _
       case measure=>simp[intOf];omega
      have hd5:decide ((j:Int)<4)=false:=by simp;omega
      have ht4:[t2,t3,t4,t5].take j=[t2,t3,t4,t5]:=by rw[hjn];rfl
      rw[ht4]at hS;have hl4:=Br7 F9 [t2,t3,t4,t5] fun s hs=>by have:=Bv7 s (H16.out s hs);omega
      have g9:(d++l7 [t0,t1]++[t2,t3,t4,t5].flatMap F9).length<=11000000:=by rw[jA,jA];simp only[jC,List.length_nil]at hl4;omega
      have he9:d++enT ((y1,y2),⟨t0,t1,t2,t3,t4,t5,t6,t7⟩)=d++l7 [t0,t1]++[t2,t3,t4,t5].flatMap F9++l7 [t6,t7]:=by
       have hE:∀s:ByteArray,E5 (A7 s)=F9 s:=fun s=>by unfold E5 F9;rw[AD7]
       unfold enT;simp only[hE,List.flatMap_cons,List.flatMap_nil,List.append_nil,jS]
      generalize hacc:d++l7 [t0,t1]++[t2,t3,t4,t5].flatMap F9=d9 at hS g9 he9;have He9:=jH he9;clear hacc hjl hjn hj4 ht4 hl4 he9;go_wp2_with(first|refine zl1 hS ?_|refine zbs hS ?_;clear hS;intro bS w hS|go_at_call 55;refine(cc4 [t6,t7] bS 2 (by simp) Hn2.out W _ _ hS).mono ?_;clear hS;rintro e w ⟨vn,rfl,hS⟩;(have hv:=hS.rowVal;obtain⟨na,nc,rfl⟩:=hv)|(with_reducible apply Ae7 hS);rfl;rfl;rfl;rfl;exact esS;exact rsS;rfl;decide;exact i8;exact St.src (by decide) hS;(focus(rw[AM7,Nat.mul_one]));exact AX7 _;(focus(unfold maxLen;omega));(focus(omega));clear hS;intro v w hS;refine frS ?_);go_roundw
      case rel=>
       refine⟨k+1,rfl,hk1,?_⟩;rw[Hst.out,He9.out];have h0:St W (row v 1 5 (d9.length+(l7 [t6,t7]).length) (u8s d9++u8s (l7 [t6,t7]))::_) w:=hS;rw[<-Av7]at h0;exact(AC7 (by rw[jA]) h0).s _
      case measure=>simp[intOf];omega
    rw[hkn,List.take_length]at hS;have hd3:decide (k<ts.length)=false:=by simp;omega
    clear hkl hkn
    have g3:(d1++l6 ts.length++ts.flatMap enT).length<=9100000:=by
     have:=Ey7 enT 200 ts fun x hx=>MQ7 (Hh.out.tw x hx)
     rw[jA,jA];omega
    generalize hacc:d1++l6 ts.length++ts.flatMap enT=d2 at hS g3;have H2:=jH hacc;clear hacc;go_wp2_with(first|refine zl1 hS ?_|go_at_call 51;refine(ci4 _ ⟨by omega,by omega⟩ W _ _ hS).mono ?_;clear hS;rintro e w ⟨vn,rfl,hS⟩;(have hv:=hS.rowVal;obtain⟨na,nc,rfl⟩:=hv)|(with_reducible apply Ae7 hS);rfl;rfl;rfl;rfl;exact esS;exact rsS;rfl;decide;exact i8;exact St.src (by decide) hS;(focus(rw[AM7,Nat.mul_one]));exact AX7 _;(focus(unfold maxLen;omega));(focus(omega));clear hS;intro v w hS;refine frS ?_);have h0:St W (row v 1 5 (d2.length+(l6 (ar.length:Int)).length) (u8s d2++u8s (l6 (ar.length:Int)))::_) w:=hS;clear hS;rw[<-Av7]at h0;have hS:=(AC7 (by rw[jA]) h0).s (byR v (d2++l6 (ar.length:Int))::xeB xb _ _ _ _::xrP _ D::w6 D::xsP _ ss::xtP _ ts::xmP _ ar::R);clear h0
    go_loopw [3,12] (fun v3 v12 wr=>CtR W (xeB xb (.slice a1 D.length c1) (.slice a2 ss.length c2) (.slice a3 ts.length c3) (.slice a4 ar.length c4)::xrP (.slice a1 D.length c1) D::w6 D::xsP (.slice a2 ss.length c2) ss::xtP (.slice a3 ts.length c3) ts::xmP (.slice a4 ar.length c4) ar::R) fAr (d2++l6 ar.length) ar v3 v12 wr) (fun _ v12 _=>ar.length-(intOf v12).toNat)
    case atStart=>exact⟨0,rfl,Nat.zero_le _,by simpa using hS⟩
    case round=>
     clear hS;obtain⟨k,rfl,hkl,hS⟩:=hrel;by_cases hkn:k=ar.length
     case neg=>
      have hk1:k<ar.length:=by omega
      have hd4:decide (k<ar.length)=true:=decide_eq_true hk1;obtain⟨⟨g,rfl⟩,_,_⟩:=St.rowAddr hS.drop.drop.drop.drop.drop.drop (by omega);have hca:∀{K K':List HP},Take K (xmP (.S g ar.length c4) ar) K'->i7 K g (k*2) (.I ar[k].1.1):=fun hu=>i6.elemM (enc:=mkC) BK7 hu hk1 0 _ rfl
      have hcb:∀{K K':List HP},Take K (xmP (.S g ar.length c4) ar) K'->i7 K g (k*2+1) (.I ar[k].1.2):=fun hu=>i6.elemM (enc:=mkC) BK7 hu hk1 1 _ rfl
      have hst:=AW7 fAr (d2++l6 ar.length) ar hk1;have hlt:=Ey7 fAr 18 (ar.take k) fun x _=>Rb7 x
      have haw:=Hh.out.aw _ (jW hk1);rw[jT]at hlt;generalize hd:d2++l6 ar.length++(ar.take k).flatMap fAr=d at hS hst;have hdl:d.length<=10000000:=by rw[<-hd,jA,jA];omega
      generalize ar[k]=x at hca hcb hst haw;obtain⟨⟨c,q⟩,u⟩:=x;simp only at hca hcb;obtain⟨⟨w1,w2⟩,w3,w4⟩:=haw;simp only at w1 w2 w3 w4;have hnl:(l7 [c,q]).length<=18:=AE7 [c,q];have Hca:=jH (show -9223372036854775808<=c/\c<=9223372036854775807 from⟨by omega,by omega⟩);have Hcb:=jH (show -9223372036854775808<=q/\q<=9223372036854775807 from⟨by omega,by omega⟩);have Hst:=jH hst;clear hst hd hlt hkn hkl;go_wp2_with(first|refine zl1 hS ?_);have hS1:=hS.s (byR _ d::xeB xb _ _ _ _::xmP _ ar::xrP _ D::w6 D::xsP _ ss::xtP _ ts::R);clear hS;refine rf2 tB46a (fun i=>i==17||i==18||i==19) [⟨some 17,some 18,fun nd=>J8 (nd 17) 2 2 [.I c,.I q] 3⟩,⟨some 18,none,fun nd=>byR (nd 18) (l7 [c,q])⟩,⟨some 19,none,fun nd=>row (nd 19) 1 5 (d.length+(l7 [c,q]).length) (u8s d++u8s (l7 [c,q]))⟩] [some 19,none,none] hS1 ?_;clear hS1;intro nd
      iterate 2 (refine cR ?_)
      (refine zcn ?_);refine cR ?_;refine zc1 ?_
      iterate 3 (refine cR ?_)
      (refine zc1 ?_ (hc:=by(intro F;exact hca (by exact w8))));refine cR ?_;refine zcn ?_;refine cR ?_;refine zc1 ?_
      iterate 3 (refine cR ?_)
      (refine zc1 ?_ (hc:=by(intro F;exact hcb (by exact w8))));apply P7;rfl;rfl;rfl;(focus(simp only[fD,fI,fJ,Act.eval,fE,fF,fG,fH,fK];try rfl));(exact esS);(exact rsS);rfl;rfl;rfl;rfl;(intro _;rfl);rfl;(intro _;rfl);(refine frS ?_);apply AH7;rfl;rfl;rfl;decide +kernel;(focus(simp only[fD,fI,fJ,Act.eval,fE,fF,fG,fH,fK];try rfl));(intro _;rfl);(intro F w hS;exact FK7 Hca.out Hcb.out hS);(refine frS ?_);apply Ag7;rfl;rfl;rfl;(focus((conv=>lhs;whnf);try rfl));(focus((conv=>lhs;whnf);try rfl));(exact esS);(exact rsS);rfl;decide;rfl;(intro F w hS;exact Gt7 (k:=1) (by decide) hS (by exact w8));(focus(rw[AM7,Nat.mul_one]));(focus(exact AX7 _));(focus(unfold maxLen;omega));(focus(omega));(intro _;rfl);(intro _;rfl);(refine frS ?_);refine cR ?_;refine Ad7 ?_;intro w hS;have hS2:St W [byR (nd 18) _,row (nd 19) 1 5 _ _,xeB xb (.slice a1 D.length c1) (.slice a2 ss.length c2) (.slice a3 ts.length c3) (.S g ar.length c4),xmP _ ar,sats (xrP (.slice a1 D.length c1) D::w6 D::xsP (.slice a2 ss.length c2) ss::xtP (.slice a3 ts.length c3) ts::R)] w:=hS;clear hS;have hS:=hS2.drop.unpack [_,_,_];clear hS2;simp only[jK,jN]at hS;generalize nd 19=v9 at *;go_wp2_with(fail);go_roundw
      case rel=>
       refine⟨k+1,rfl,hk1,?_⟩;rw[Hst.out];unfold fAr;have h0:St W (row v9 1 5 (d.length+(l7 [c,q]).length) (u8s d++u8s (l7 [c,q]))::_) w:=hS;rw[<-Av7]at h0;exact(AC7 (by rw[jA]) h0).s _
      case measure=>simp[intOf];omega
     rw[hkn,List.take_length]at hS;have hd4:decide (k<ar.length)=false:=by simp;omega
     clear hkl hkn;go_wp2_with(first|refine zl1 hS ?_);go_ret;refine⟨_,rfl,?_⟩;rw[H0.out,H1.out,H2.out];exact hS.s _
def TzR(W:World)(Lr:List HP)(n:Nat)(v:Value)(w:World):Prop:=∃i:Nat,v=.I i/\i<=n/\St W Lr w
end Go.Proofs.YtienbkdjkjbelaaGreat
end
section
namespace Go.Sl
open Go.RowKit
structure Same(L L':List HP):Prop where
 to:∀{f:O7},sats L f->sats L' f
 back:∀{f:O7},sats L' f->sats L f
theorem Same.refl{L:List HP}:Same L L:=⟨fun h=>h,fun h=>h⟩
theorem Same.of{A:HP}{L R R':List HP}(h:Take L A R)(h2:Same R R'):Same L (A::R'):=
 ⟨fun hs=>AR7 (fun _ x=>x) (fun _ x=>h2.to x) (h.sats hs),fun hs=>h.back (AR7 (fun _ x=>x) (fun _ x=>h2.back x) hs)⟩
theorem Same.st{W w:World}{L L':List HP}(h:Same L L')(hS:St W L w):St W L' w:=⟨hS.os,hS.tape,hS.output,h.to hS.sat⟩
theorem Same.ts{W w:World}{L L':List HP}{X:HP}(h:Same L L')(hS:St W (X::L') w):St W (X::L) w:=⟨hS.os,hS.tape,hS.output,AR7 (fun _ x=>x) (fun _ x=>h.back x) hS.sat⟩
def gi4(ns:List Int):ByteArray:=ns.foldl (fun r n=>r.push (UInt8.ofNat n.toNat)) ByteArray.empty
section
variable{P:Program}{W:World}{ops:Array Oper}{t:List Nat}{toks:List Tok}{fresh:Nat->Bool}{pin:Nat->Option Value}{Qf:Act->Prop}{nd:Nat->Value}{i:Nat}{l:List Oper}{a:Act}{o:Oper}
theorem FL7{src dst e:TypeId}{x:Operand}{v0:Value}{ns:List Int}(hf:fresh i=false)(hn:ak4 toks i=true)(ho:o.op=.convert src dst x)(hg:Region.wanted o (yielded ops a.tmps)=true)(hx:a.eval x=v0)
  (hs:P.underlying src=some (.slice e)) (he:P.underlying e=some (.int .u8)) (hd:P.underlying dst=some .string) (hp:0<ns.length) (hr:∀F, ∃R,Take (kpL toks t i nd++F) (row v0 1 e ns.length (ns.map (Value.int .u8))) R)
  (h:l8 P W ops t toks fresh pin Qf nd (i+1) l (a.put o.dst (.string (gi4 ns)))):l8 P W ops t toks fresh pin Qf nd i (o::l) a:=
 EW7 hf hn hg (fun F w hS=>by obtain⟨R,hu⟩:=hr F;have hS1:=hS.take hu;obtain⟨b,c,rfl⟩:=hS1.rowVal;obtain⟨⟨g,rfl⟩,_,_⟩:=St.rowAddr hS1 hp;have h1:=run_loadCells_list (P:=P) w ⟨g,0,none⟩ (ns.map (Value.int .u8)) (fun j v hj=>by rw[Addr.add_lit,Nat.zero_add];exact i7.row hp hj W w hS1);rw[jM]at h1;have h2:=run_bytesToString (P:=P) w ⟨g,0,none⟩ ns.length c ns h1;unfold execOp;simp[ho,hx,run_convert_bytes_string w src dst e (jP g) ns.length c hs he hd,h2,gi4]) h
end
end Go.Sl
namespace Go.Proofs.YtienbkdjkjbelaaGreat
open Go.RowKit Go.Sl
section
variable{W w:World}{vb mb bb xb xB:Nat}{p:Ps}{L:List Ord}{n:Int}{N:Nat}{L1 R3:List HP}
end
theorem Nh7{e:Ec}{d:List Int}(h:bC4 e d):0<d.length:=by obtain⟨T,A,_,_,_,_,rfl⟩:=h;have:=EP7 (e.vs.length:Int);simp only[jA];omega
theorem Ni7{eb:Nat}{e:Ec}{n:Nat}{d:List Int}(hd:bC4 e d)(hE:EnL e n)(hn:n<=600){W w:World}{L R:List HP}(ht:Take L (ecP eb e) R)(hS:St W L w):
  Calls Tryz.prog 22 #[.P eb] w fun x w'=>∃v,x=.returned v/\St W (byR v d::L) w':=by
 refine(Ja7 hE hn W w R (hS.take ht)).mono ?_;rintro x w' ⟨v,d',rfl,hd',hS⟩;obtain rfl:=OC7 hd hd';refine⟨v,rfl,?_⟩;exact hS.swap.back (Take.tail ht)
def OnR(W:World)(L:List HP)(n:Nat)(v:Value)(w:World):Prop:=∃i:Nat,v=.I i/\i<=n/\St W L w
theorem Qs7{d:Ec}{D:Ev}(hd:k8 D=d.vs)(hn:(d.vs.map (·.1)).Nodup)(hs:(d.ss.map (·.1)).Nodup):et4 D d.ss d.ts d.ar=ee4 d:=by
 have e1:D.length=d.vs.length:=by rw[<-hd,FD7]
 unfold et4 ee4;rw[Nf7 hd hn,Qq7 hs,Qr7,e1]
theorem Rc7{d:Ec}{D:Ev}{n:Nat}(hd:k8 D=d.vs)(h:EnL d n)(hn:n<=600)(he:aU4 d):EnB D d.ss d.ts d.ar:=by
 have e1:D.length=d.vs.length:=by rw[<-hd,FD7]
 have h1:=h.en.lv;have h2:=h.en.ls;have h3:=h.en.lt;have h4:=h.en.la;have h5:=h.ln;have h6:=GN7 h he d.vs fun x hx=>hx
 refine⟨by omega,by omega,by omega,by omega,by rw[Nf7 hd h.nd];omega,fun x hx=>?_,h.en.sw,h.en.sr,fun x hx=>(h.en.tw x hx).1,h.en.aw⟩;have hm:(x.1,x.2.2)∈d.vs:=by rw[<-hd];exact List.mem_map.2 ⟨x,hx,rfl⟩
 have hv:=h.en.ok _ hm;have:=hv.n1;exact⟨h.en.vk _ hm,hv.ok,Al7 hv.w (by omega),hv.n0,by simp only at this;omega,(he _ hm).1,(he _ hm).2⟩
end Go.Proofs.YtienbkdjkjbelaaGreat
end
