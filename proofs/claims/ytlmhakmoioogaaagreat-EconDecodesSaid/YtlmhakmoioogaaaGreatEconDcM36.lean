/-
  The document's reader of an economy.
-/
import Derived.Test.YtlmhakmoioogaaaGreatEconDcM4
import Derived.Test.YtlmhakmoioogaaaGreatEconDcM34
import Derived.Test.YtlmhakmoioogaaaGreatEconDcM35
set_option maxHeartbeats 16000000
set_option maxRecDepth 100000
set_option linter.unusedSimpArgs false
set_option linter.unusedVariables false
section
namespace Go.Proofs.YtlmhakmoioogaaaGreat
open Go.RowKit Go.Sl
def RtX(W:World)(D:HP)(xb rb:Nat)(b1:List Int)(n:Nat)(d:Ec)(R:List HP)(v:Value)(w:World):Prop:=
 ∃l m,v=.I (l.length:Nat)/\l.length<=n/\D5 T5 b1 l m/\Asc ltW l/\RdN (some m) 9000/\St W (rdX D rb (some m)::L6 xb ⟨d.vs,d.ss,l,d.ar⟩::D::R) w
theorem Mu7(v:Value)(l:List ((Int×Int)×Tns))(x:(Int×Int)×Tns):xtP v (l++[x])=row v 8 40 (l.length+1) (l.flatMap tnC++tnC x):=by unfold xtP;rw[jA,List.flatMap_append];simp
theorem Pr7{t:Tns}(h:cX4 t=true):1<=t.cnt:=(KX7 h).c0
abbrev tB35b:List Nat:=[0,1,3,0,11,27,7,71,223,511,1023,2047]
abbrev tB35c:List Nat:=[0,0,2,6,14,0,32,126,255,511,1023]
theorem La7{xb rb:Nat}{D:HP}{s:RS}{d:Ec}(hd:d.ts=[])(h:RdN s 9000)(W w:World)(R:List HP)(hS:St W (rdX D rb s::L6 xb d::D::R) w):
  Calls Tryz.prog 96 #[.P xb,.P rb] w fun x w'=>x=.returned (.tuple #[])/\ew4 ltW T5 W D xb rb s (fun l=>⟨d.vs,d.ss,l,d.ar⟩) (D::R) w':=by
 obtain⟨⟨n,s1⟩,h1⟩:∃y,d8 s=y:=⟨_,rfl⟩
 have hr:=At7 s;have hn1:RdN s1 9000:=by have:=h.num;rw[h1]at this;exact this
 have h0:s1=none->n=0:=fun h2=>by have h3:=Bv7 (s:=s) (by rw[h1];exact h2);rw[h1]at h3;exact h3
 rw[h1]at hr;simp only at hr;obtain⟨n,rfl⟩:∃k:Nat,n=k:=⟨n.toNat,by omega⟩
 have hd2:d=⟨d.vs,d.ss,[],d.ar⟩:=by rw[<-hd]
 rw[hd2]at hS;have Hok:=jH (h.ok (by decide));have H1:=jH h1;have Hn1:=jH hn1
 cases s1 with
 | none=>
  have hn0:n=0:=by have:=h0 rfl;omega
  subst hn0;have Hno:=jH (IC7 (lt:=ltW) (S:=T5) h1);clear h h1 hn1 hr h0 hd hd2;go_enter Tryz.func96,Tryz.ntmps96;go_wp2_with(first|go_big_skip|go_at_call 97;refine(Ae7 H1.out Hok.out W _ _ _ (by exact g8) hS).mono ?_;clear hS;rintro x w ⟨rfl,hS⟩)
  go_loopw [5] (fun v wr=>v=.I 0/\St W (rdX D rb none::D::R) wr) (fun _ _=>0)
  case atStart=>exact⟨rfl,hS.s _⟩
  case round=>
   clear hS;obtain⟨rfl,hS⟩:=hrel;go_wp2_with(first|go_big_skip);go_end0;exact⟨rfl,.inr ⟨Hno.out,hS⟩⟩
 | some b1=>
  clear h h1 hn1 h0 hd hd2;go_enter Tryz.func96,Tryz.ntmps96;go_wp2_with(first|go_big_skip|go_at_call 97;refine(Ae7 H1.out Hok.out W _ _ _ (by exact g8) hS).mono ?_;clear hS;rintro x w ⟨rfl,hS⟩)
  go_loopw [5] (fun v wr=>RtX W D xb rb b1 n d R v wr) (fun v _=>n-(intOf v).toNat)
  case atStart=>exact⟨[],b1,rfl,Nat.zero_le _,rfl,List.Pairwise.nil,Hn1.out,hS⟩
  case round=>
   clear hS;obtain⟨l,m,rfl,hln,hm,ha,hrn,hS⟩:=hrel;by_cases hend:l.length=n
   ·have d1:decide (l.length<n)=false:=by simp;omega
    have H2:=jH (hend▸H1.out);have Hm:=jH hm;have Ha:=jH ha;have Hrn:=jH hrn;clear hm ha hrn hend;go_wp2_with(first|go_big_skip);go_end0;exact⟨rfl,.inl ⟨b1,l,m,H2.out,Hm.out,Ha.out,Hrn.out,hS⟩⟩
   ·have d1:decide (l.length<n)=true:=by simp;omega
    have hlt:l.length<n:=by omega
    obtain⟨v1,v2,v3,v4,C,hC,hS1⟩:=aV4 (hS.s (L6 xb ⟨d.vs,d.ss,l,d.ar⟩::rdX D rb (some m)::D::R));clear hS;have hS2:=hS1.s (xtP v3 l::rdX D rb (some m)::xeB xb v1 v2 v3 v4::D::xrP v1 C::w5 C::xsP v2 d.ss::xmP v4 d.ar::R);obtain⟨va,vc,rfl⟩:=hS2.rowVal;have hS3:=hS2.s (rdX D rb (some m)::xeB xb v1 v2 (.slice va l.length vc) v4::xtP (.slice va l.length vc) l::D::xrP v1 C::w5 C::xsP v2 d.ss::xmP v4 d.ar::R);clear hS1 hS2;have hCb:l.length<=9000:=by obtain⟨e1,_⟩:=Cd7 DD7 (Hn1.out b1 rfl).1 hm;have e2:=AD7 Po7 l;have e3:=congrArg List.length e1;have e4:=(Hn1.out b1 rfl).2;rw[jA]at e3;omega
    have htk:=(BD7 (I:=ByB) (P:=fun x:(Int×Int)×Tns=>x.1=(x.2.client,x.2.seq)) (fun b x r hb h=>⟨h.2.2.1,(DD7 b x r hb h).2⟩) (Hn1.out b1 rfl).1 hm).1;obtain⟨rv,re,hv,hS⟩:=B9 hS3;obtain⟨ra0,rc0,rfl,rfl,Hv⟩:=ad4 hv;clear hv hS3;obtain⟨⟨c,s1⟩,k1⟩:∃y,d8 (some m)=y:=⟨_,rfl⟩
    obtain⟨⟨q,s2⟩,k2⟩:∃y,d8 s1=y:=⟨_,rfl⟩
    obtain⟨⟨x1,s3⟩,k3⟩:∃y,j5 s2=y:=⟨_,rfl⟩
    obtain⟨⟨x2,s4⟩,k4⟩:∃y,j5 s3=y:=⟨_,rfl⟩
    obtain⟨⟨x3,s5⟩,k5⟩:∃y,j5 s4=y:=⟨_,rfl⟩
    obtain⟨⟨x4,s6⟩,k6⟩:∃y,j5 s5=y:=⟨_,rfl⟩
    obtain⟨⟨t6,s7⟩,k7⟩:∃y,d8 s6=y:=⟨_,rfl⟩
    obtain⟨⟨t7,s8⟩,k8⟩:∃y,d8 s7=y:=⟨_,rfl⟩
    obtain⟨z1,g1⟩:∃u,x6 x1=u:=⟨_,rfl⟩
    obtain⟨z2,g2⟩:∃u,x6 x2=u:=⟨_,rfl⟩
    obtain⟨z3,g3⟩:∃u,x6 x3=u:=⟨_,rfl⟩
    obtain⟨z4,g4⟩:∃u,x6 x4=u:=⟨_,rfl⟩
    have hs1:RdN s1 9000:=by have:=hrn.num;rw[k1]at this;exact this
    have hs2:RdN s2 9000:=by have:=hs1.num;rw[k2]at this;exact this
    have hs3:RdN s3 9000:=by have:=hs2.bytes;rw[k3]at this;exact this
    have hs4:RdN s4 9000:=by have:=hs3.bytes;rw[k4]at this;exact this
    have hs5:RdN s5 9000:=by have:=hs4.bytes;rw[k5]at this;exact this
    have hs6:RdN s6 9000:=by have:=hs5.bytes;rw[k6]at this;exact this
    have hs7:RdN s7 9000:=by have:=hs6.num;rw[k7]at this;exact this
    have hs8:RdN s8 9000:=by have:=hs7.num;rw[k8]at this;exact this
    have hst:∀(y:(Int×Int)×Tns) (r:List Int),T5 m y r↔(s8=some r/\y.2=⟨c,q,z1,z2,z3,z4,t6,t7⟩/\y.1=(y.2.client,y.2.seq)/\cX4 y.2=true):=fun y r=>by unfold T5 rdT dO4 do4 dn4 dm4 dl4 dk4 dj4;simp only[k1,k2,k3,k4,k5,k6,k7,k8,g1,g2,g3,g4]
    have hnb:=Gf7 (lt:=ltW) DE7 H1.out hlt hm;have Hm:=jH (hrn.ok (by decide));have Hm1:=jH (hs1.ok (by decide));have Hm2:=jH (hs2.ok (by decide));have Hm3:=jH (hs3.ok (by decide));have Hm4:=jH (hs4.ok (by decide));have Hm5:=jH (hs5.ok (by decide));have Hm6:=jH (hs6.ok (by decide));have Hm7:=jH (hs7.ok (by decide));have Hs8:=jH hs8;have N1:=jH k1;have N2:=jH k2;have N3:=jH k3;have N4:=jH k4;have N5:=jH k5;have N6:=jH k6;have N7:=jH k7;have N8:=jH k8;have G1:=jH g1;have G2:=jH g2;have G3:=jH g3;have G4:=jH g4;have HC:=jH hC;have HM:=jH hm;have Ha:=jH ha;have Htk:=jH htk;have Hst:=jH hst;have Hnb:=jH hnb;clear hm ha hrn hs1 hs2 hs3 hs4 hs5 hs6 hs7 hs8 k1 k2 k3 k4 k5 k6 k7 k8 g1 g2 g3 g4 hln hend hC htk hst hnb;go_wp2_with(first|go_big_skip|(fail_if_success (have:=a4));(go_at_call 97;refine(Ae7 N1.out Hm.out W _ _ _ (by exact g8) (j7 Hv.out hS)).mono ?_;clear hS;have a4:Nat:=0;rintro ex w ⟨rfl,hS⟩)|(have:=a4);(fail_if_success (have:=a5));(go_at_call 97;refine(Ae7 N2.out Hm1.out W _ _ _ (by exact g8) hS).mono ?_;clear hS;have a5:Nat:=0;rintro ex w ⟨rfl,hS⟩)|(fail_if_success (have:=a1));(refine zal hS ?_;clear hS;have a1:Nat:=0;intro bT w hS)|refine zsN hS ?_;clear hS;intro w hS|refine zl1 hS ?_);have hS9:=hS.s (rdX D rb s2::blk bT [.I c,.I q,.string (⟨#[]⟩:ByteArray),.string (⟨#[]⟩:ByteArray),.string (⟨#[]⟩:ByteArray),.string (⟨#[]⟩:ByteArray),.I 0,.I 0] 40::D::xeB xb v1 v2 (.slice va l.length vc) v4::xtP (.slice va l.length vc) l::xrP v1 C::w5 C::xsP v2 d.ss::xmP v4 d.ar::R);clear hS;have hS:=hS9;clear hS9
    refine rf3 tB35b (fun i=>i==1||i==4) (fun _=>none) [⟨some 1,none,fun nd=>byR (nd 1) x1⟩,⟨some 1,some 4,fun _=>rdX D rb s3⟩,⟨some 4,none,fun nd=>byR (nd 4) x2⟩,⟨some 4,none,fun _=>rdX D rb s4⟩,⟨some 8,some 11,fun _=>blk bT [.I c,.I q,.string z1,.string (⟨#[]⟩:ByteArray),.string (⟨#[]⟩:ByteArray),.string (⟨#[]⟩:ByteArray),.I 0,.I 0] 40⟩,⟨some 11,none,fun _=>blk bT [.I c,.I q,.string z1,.string z2,.string (⟨#[]⟩:ByteArray),.string (⟨#[]⟩:ByteArray),.I 0,.I 0] 40⟩] [some 1,some 8,none] hS ?_;clear hS;intro nd;refine cR ?_;apply Az7;rfl;rfl;rfl;decide +kernel;(focus(simp only[fD,fI,fJ,Act.eval,fE,fF,fG,fH,fK];try rfl));(intro _;rfl);(intro F w hS;exact Ar7 N3.out Hm2.out W w _ _ (by exact A9) hS);(refine frS ?_);apply CF7 (ns:=x1);rfl;kernel_rfl;rfl;rfl;rfl;exact Tryz.underlying63;exact Tryz.underlying5;exact Tryz.underlying9;(intro F;exact⟨_,by exact A9⟩);(first|rw[G1.out]|rw[G2.out]|rw[G3.out]|rw[G4.out]);(refine frS ?_);refine cR ?_;apply Az7;rfl;rfl;rfl;decide +kernel;(focus(simp only[fD,fI,fJ,Act.eval,fE,fF,fG,fH,fK];try rfl));(intro _;rfl);(intro F w hS;exact Ar7 N4.out Hm3.out W w _ _ (by exact A9) hS);(refine frS ?_);apply CF7 (ns:=x2);rfl;kernel_rfl;rfl;rfl;rfl;exact Tryz.underlying63;exact Tryz.underlying5;exact Tryz.underlying9;(intro F;exact⟨_,by exact A9⟩);(first|rw[G1.out]|rw[G2.out]|rw[G3.out]|rw[G4.out]);(refine frS ?_)
    iterate 2 (refine cR ?_)
    (refine zcs ?_)
    iterate 2 (refine cR ?_)
    (refine zcs ?_);refine Ac7 ?_;intro w hS;have hS2:St W [byR (nd 1) x1,byR (nd 4) x2,rdX D rb s4,blk bT [.I c,.I q,.string z1,.string z2,.string (⟨#[]⟩:ByteArray),.string (⟨#[]⟩:ByteArray),.I 0,.I 0] 40,D,sats (xeB xb v1 v2 (.slice va l.length vc) v4::xtP (.slice va l.length vc) l::xrP v1 C::w5 C::xsP v2 d.ss::xmP v4 d.ar::R)] w:=hS;clear hS;have hS:=hS2.unpack [_,_,_,_,_];clear hS2;simp only[jK,jN]at hS;have hS9:=hS.s (rdX D rb s4::blk bT [.I c,.I q,.string z1,.string z2,.string (⟨#[]⟩:ByteArray),.string (⟨#[]⟩:ByteArray),.I 0,.I 0] 40::D::xeB xb v1 v2 (.slice va l.length vc) v4::xtP (.slice va l.length vc) l::xrP v1 C::w5 C::xsP v2 d.ss::xmP v4 d.ar::R);clear hS;have hS:=hS9;clear hS9;go_wp2_with(first|go_big_skip);refine rf3 tB35b (fun i=>i==1||i==4) (fun _=>none) [⟨some 1,none,fun nd=>byR (nd 1) x3⟩,⟨some 1,some 4,fun _=>rdX D rb s5⟩,⟨some 4,none,fun nd=>byR (nd 4) x4⟩,⟨some 4,none,fun _=>rdX D rb s6⟩,⟨some 8,some 11,fun _=>blk bT [.I c,.I q,.string z1,.string z2,.string z3,.string (⟨#[]⟩:ByteArray),.I 0,.I 0] 40⟩,⟨some 11,none,fun _=>blk bT [.I c,.I q,.string z1,.string z2,.string z3,.string z4,.I 0,.I 0] 40⟩] [some 1,some 8,none] hS ?_;clear hS;intro nd;refine cR ?_;apply Az7;rfl;rfl;rfl;decide +kernel;(focus(simp only[fD,fI,fJ,Act.eval,fE,fF,fG,fH,fK];try rfl));(intro _;rfl);(intro F w hS;exact Ar7 N5.out Hm4.out W w _ _ (by exact A9) hS);(refine frS ?_);apply CF7 (ns:=x3);rfl;kernel_rfl;rfl;rfl;rfl;exact Tryz.underlying63;exact Tryz.underlying5;exact Tryz.underlying9;(intro F;exact⟨_,by exact A9⟩);(first|rw[G1.out]|rw[G2.out]|rw[G3.out]|rw[G4.out]);(refine frS ?_);refine cR ?_
    (apply Az7;rfl;rfl;rfl;decide +kernel;(focus(simp only[fD,fI,fJ,Act.eval,fE,fF,fG,fH,fK];try rfl));intro _;rfl;intro F w hS;exact Ar7 N6.out Hm5.out W w _ _ (by exact A9) hS;refine frS ?_);apply CF7 (ns:=x4);rfl;kernel_rfl;rfl;rfl;rfl;exact Tryz.underlying63;exact Tryz.underlying5;exact Tryz.underlying9;(intro F;exact⟨_,by exact A9⟩);(first|rw[G1.out]|rw[G2.out]|rw[G3.out]|rw[G4.out]);(refine frS ?_)
    iterate 2 (refine cR ?_)
    (refine zcs ?_)
    iterate 2 (refine cR ?_)
    (refine zcs ?_);refine Ac7 ?_;intro w hS;have hS2:St W [byR (nd 1) x3,byR (nd 4) x4,rdX D rb s6,blk bT [.I c,.I q,.string z1,.string z2,.string z3,.string z4,.I 0,.I 0] 40,D,sats (xeB xb v1 v2 (.slice va l.length vc) v4::xtP (.slice va l.length vc) l::xrP v1 C::w5 C::xsP v2 d.ss::xmP v4 d.ar::R)] w:=hS;clear hS;have hS:=hS2.unpack [_,_,_,_,_];clear hS2;simp only[jK,jN]at hS;have hS9:=hS.s (rdX D rb s6::blk bT [.I c,.I q,.string z1,.string z2,.string z3,.string z4,.I 0,.I 0] 40::D::xeB xb v1 v2 (.slice va l.length vc) v4::xtP (.slice va l.length vc) l::xrP v1 C::w5 C::xsP v2 d.ss::xmP v4 d.ar::R);clear hS;have hS:=hS9;clear hS9;go_wp2_with(first|go_big_skip|(have:=a5);(fail_if_success (have:=a6));(go_at_call 97;refine(Ae7 N7.out Hm6.out W _ _ _ (by exact g8) hS).mono ?_;clear hS;have a6:Nat:=0;rintro ex w ⟨rfl,hS⟩)|(have:=a6);go_at_call 97;refine(Ae7 N8.out Hm7.out W _ _ _ (by exact g8) hS).mono ?_;clear hS;rintro ex w ⟨rfl,hS⟩|refine zs1 hS ?_;clear hS;intro w hS|refine zlN hS ?_ (vs:=[.string z1,.string z2]) (hc:=by first|exact d7.here rfl|exact d7.there (d7.here rfl))|refine zlN hS ?_ (vs:=[.string z3,.string z4]) (hc:=by first|exact d7.here rfl|exact d7.there (d7.here rfl))|refine zl1 hS ?_|refine zlN hS ?_|(have:=a1);refine zal hS ?_;clear hS;intro bO w hS|refine zsN hS ?_;clear hS;intro w hS);have hS9:=hS.s (blk bO _ _::rdX D rb s8::blk bT [.I c,.I q,.string z1,.string z2,.string z3,.string z4,.I t6,.I t7] 40::xeB xb v1 v2 (.slice va l.length vc) v4::xtP (.slice va l.length vc) l::D::xrP v1 C::w5 C::xsP v2 d.ss::xmP v4 d.ar::R);clear hS;have hS:=hS9;clear hS9
    cases hm:cX4 ⟨c,q,z1,z2,z3,z4,t6,t7⟩with
    | false=>
     have Hno:=jH (Hnb.out fun y r hy=>by
      obtain⟨_,e2,_,e4⟩:=(Hst.out y r).1 hy;rw[e2,hm]at e4
      cases e4)
     have Hmay:=jH (show A8 ⟨2,c,q,z1,z2,z3,z4,t6,t7,0,false,0⟩=false from hm);clear hm;refine Aa7 (by kernel_rfl) (by kernel_rfl) hS ?_
     repeat(first|go_big_quiet_skip|refine zq1 ?_|refine zqN ?_|(first|(apply Am7;rfl;rfl;rfl;decide +kernel;exact hlast (by exact g8);refine frS ?_)|(apply Am7;rfl;rfl;rfl;decide +kernel;exact hlast2 (by exact g8);refine frS ?_))|apply Ag7;rfl;intro w;apply Ad7;rfl;decide +kernel;(focus(simp only[fD,fI,fJ,Act.eval,fE,fF,fG,fH,fK];try rfl));intro w hS;exact It7 Hmay.out W w _ hS;refine frS ?_|apply Ag7;rfl;intro w;apply Ad7;rfl;decide +kernel;(focus(simp only[fD,fI,fJ,Act.eval,fE,fF,fG,fH,fK];try rfl));intro w hS;exact Bl7 Hlt.out W w _ hS;refine frS ?_|refine zqn ?_|refine qR ?_)
     clear hS;intro w hS;go_wp2_with(first|go_big_skip|go_at_call 99;refine(D7 D rb s8 W _ _ (hS.s (rdX D rb s8::D::R))).mono ?_;clear hS;rintro x w ⟨rfl,hS⟩);refine bodyPost_ret (results_none rfl _ _ _) rfl ?_;exact⟨rfl,.inr ⟨Hno.out,hS⟩⟩
    | true=>
     have Hmay:=jH (show A8 ⟨2,c,q,z1,z2,z3,z4,t6,t7,0,false,0⟩=true from hm)
     obtain⟨r,e9⟩:∃r,s8=some r:=by
      cases s8 with
      | some r=>exact⟨r,rfl⟩
      | none=>
       have h3:=Bv7 (s:=s7) (by rw[N8.out]);rw[N8.out]at h3;have h4:=Pr7 hm;simp only at h3 h4;omega
     have Hyes:=jH ((Hst.out ((c,q),⟨c,q,z1,z2,z3,z4,t6,t7⟩) r).2 ⟨e9,rfl,rfl,hm⟩);have E9:=jH e9;clear hm e9;by_cases hz:l.length=0
     ·have hl0:l=[]:=List.eq_nil_of_length_eq_zero hz;have hasc:Asc ltW (l++[((c,q),(⟨c,q,z1,z2,z3,z4,t6,t7⟩:Tns))]):=by rw[hl0];exact List.pairwise_singleton _ _
      have Hasc:=jH hasc;have d2:decide (0<l.length)=false:=decide_eq_false (by omega);clear hl0 hasc hz;refine Aa7 (by kernel_rfl) (by kernel_rfl) hS ?_
      repeat(first|go_big_quiet_skip|refine zq1 ?_|refine zqN ?_|(first|(apply Am7;rfl;rfl;rfl;decide +kernel;exact hlast (by exact g8);refine frS ?_)|(apply Am7;rfl;rfl;rfl;decide +kernel;exact hlast2 (by exact g8);refine frS ?_))|apply Ag7;rfl;intro w;apply Ad7;rfl;decide +kernel;(focus(simp only[fD,fI,fJ,Act.eval,fE,fF,fG,fH,fK];try rfl));intro w hS;exact It7 Hmay.out W w _ hS;refine frS ?_|apply Ag7;rfl;intro w;apply Ad7;rfl;decide +kernel;(focus(simp only[fD,fI,fJ,Act.eval,fE,fF,fG,fH,fK];try rfl));intro w hS;exact Bl7 Hlt.out W w _ hS;refine frS ?_|refine zqn ?_|refine qR ?_)
      clear hS;intro w hS;go_wp2_with(first|go_big_skip);have hS8:=hS.s (blk bT [.I c,.I q,.string z1,.string z2,.string z3,.string z4,.I t6,.I t7] 40::xeB xb v1 v2 (.slice va l.length vc) v4::xtP (.slice va l.length vc) l::rdX D rb s8::D::xrP v1 C::w5 C::xsP v2 d.ss::xmP v4 d.ar::R);clear hS;have hS:=hS8;clear hS8;refine rf2 tB35c (fun i=>i==6||i==7) [⟨some 6,none,fun nd=>R5 (nd 6) 1 1 [.I c,.I q,.string z1,.string z2,.string z3,.string z4,.I t6,.I t7] 40⟩,⟨some 7,none,fun nd=>row (nd 7) 8 40 (l.length+1) (l.flatMap tnC++[.I c,.I q,.string z1,.string z2,.string z3,.string z4,.I t6,.I t7])⟩,⟨some 10,none,fun nd=>xeB xb v1 v2 (nd 7) v4⟩] [none,some 10,some 7] hS ?_;intro nd
      iterate 2 (refine cR ?_)
      (refine zcn ?_);refine cR ?_;refine zc1 ?_;refine zcN ?_;apply aI4;rfl;rfl;rfl;(focus(simp only[fD,fI,fJ,Act.eval,fE,fF,fG,fH,fK];try rfl));(exact esS);(exact rsS);rfl;rfl;rfl;rfl;(intro _;rfl);rfl;(intro _;rfl);(refine frS ?_);apply AJ7;rfl;rfl;rfl;(focus((conv=>lhs;whnf);try rfl));(focus((conv=>lhs;whnf);try rfl));(exact esS);(exact rsS);rfl;decide;rfl;(intro F w hS;exact Bp7 hS (by exact A9));(focus(try rfl));rfl;(focus(unfold maxLen;omega));(focus omega);(intro _;rfl);(intro _;rfl);(refine frS ?_);refine zcn ?_;refine cR ?_;(apply Fz7;rfl;rfl;rfl;rfl;(focus((conv=>lhs;whnf);try rfl));kernel_rfl;rfl;intro F w hS;exact hS.rowOne (by exact A9);(focus(simp));rfl;rfl;try(refine frS ?_));refine Ac7 ?_;clear hS;intro w hS;have hS2:St W [R5 (nd 6) _ _ _ _,row (nd 7) 8 _ _ _,xeB xb v1 v2 (nd 7) v4,blk bT _ _,sats _] w:=hS;clear hS;have hS:=hS2.unpack [_,_,_,_];clear hS2;simp only[jK,jN]at hS;generalize nd 7=v9 at *;have e9:=E9.out;clear E9;subst e9;go_wp2_with(first|go_big_skip);go_roundw
      case rel=>
       have h0:St W (row v9 8 40 (l.length+1) (l.flatMap tnC++tnC ((c,q),⟨c,q,z1,z2,z3,z4,t6,t7⟩))::_) w:=hS.drop;rw[<-Mu7]at h0;have h3:=N9 (d:=⟨d.vs,d.ss,l++[((c,q),⟨c,q,z1,z2,z3,z4,t6,t7⟩)],d.ar⟩) (D:=C) HC.out (h0.s (xeB xb v1 v2 v9 v4::xrP v1 C::w5 C::xsP v2 d.ss::xtP v9 (l++[((c,q),⟨c,q,z1,z2,z3,z4,t6,t7⟩)])::xmP v4 d.ar::rdX D rb (some r)::D::R));exact⟨l++[((c,q),⟨c,q,z1,z2,z3,z4,t6,t7⟩)],r,by rw[jA];rfl,by rw[jA];exact hlt,Bd7 HM.out Hyes.out,Hasc.out,Hs8.out,h3.swap⟩
      case measure=>simp[intOf];omega
     ·have hpos:0<l.length:=by omega
      obtain⟨⟨g,rfl⟩,_,_⟩:=St.rowAddr hS.drop.drop.drop.drop hpos;obtain⟨yk,hyk⟩:∃y,l[l.length-1]'(by omega)=y:=⟨_,rfl⟩
      have hlast:∀{K K':List HP},Take K (xtP (.S g l.length vc) l) K'->e8 K g ((l.length-1)*8) (.I (l[l.length-1]'(by omega)).2.client):=fun hu=>d7.elemM (enc:=tnC) Fp7 hu (by omega) 0 _ rfl
      have hlast2:∀{K K':List HP},Take K (xtP (.S g l.length vc) l) K'->e8 K g ((l.length-1)*8+1) (.I (l[l.length-1]'(by omega)).2.seq):=fun hu=>d7.elemM (enc:=tnC) Fp7 hu (by omega) 1 _ rfl
      have hk9:=Htk.out _ (jW (show l.length-1<l.length by omega));rw[hyk]at hlast hlast2 hk9;obtain⟨yc,hyc⟩:∃y,yk.2.client=y:=⟨_,rfl⟩
      obtain⟨yq,hyq⟩:∃y,yk.2.seq=y:=⟨_,rfl⟩
      rw[hyc]at hlast hk9;rw[hyq]at hlast2 hk9
      cases hb:ltW (yc,yq) (c,q)with
      | true=>
       have hasc:Asc ltW (l++[((c,q),(⟨c,q,z1,z2,z3,z4,t6,t7⟩:Tns))]):=Gd7 AP7 Ha.out (by rw[Ge7 hpos];simp only[Option.all_some];rw[hyk,hk9];exact hb);have Hasc:=jH hasc;have Hlt:=jH hb;clear hasc hz hyk hyc hyq hk9 hb;refine Aa7 (by kernel_rfl) (by kernel_rfl) hS ?_
       repeat(first|go_big_quiet_skip|refine zq1 ?_|refine zqN ?_|(first|(apply Am7;rfl;rfl;rfl;decide +kernel;exact hlast (by exact g8);refine frS ?_)|(apply Am7;rfl;rfl;rfl;decide +kernel;exact hlast2 (by exact g8);refine frS ?_))|apply Ag7;rfl;intro w;apply Ad7;rfl;decide +kernel;(focus(simp only[fD,fI,fJ,Act.eval,fE,fF,fG,fH,fK];try rfl));intro w hS;exact It7 Hmay.out W w _ hS;refine frS ?_|apply Ag7;rfl;intro w;apply Ad7;rfl;decide +kernel;(focus(simp only[fD,fI,fJ,Act.eval,fE,fF,fG,fH,fK];try rfl));intro w hS;exact Bl7 Hlt.out W w _ hS;refine frS ?_|refine zqn ?_|refine qR ?_)
       clear hS;intro w hS;go_wp2_with(first|go_big_skip);have hS8:=hS.s (blk bT [.I c,.I q,.string z1,.string z2,.string z3,.string z4,.I t6,.I t7] 40::xeB xb v1 v2 (.S g l.length vc) v4::xtP (.S g l.length vc) l::rdX D rb s8::D::xrP v1 C::w5 C::xsP v2 d.ss::xmP v4 d.ar::R);clear hS;have hS:=hS8;clear hS8;refine rf2 tB35c (fun i=>i==6||i==7) [⟨some 6,none,fun nd=>R5 (nd 6) 1 1 [.I c,.I q,.string z1,.string z2,.string z3,.string z4,.I t6,.I t7] 40⟩,⟨some 7,none,fun nd=>row (nd 7) 8 40 (l.length+1) (l.flatMap tnC++[.I c,.I q,.string z1,.string z2,.string z3,.string z4,.I t6,.I t7])⟩,⟨some 10,none,fun nd=>xeB xb v1 v2 (nd 7) v4⟩] [none,some 10,some 7] hS ?_;intro nd
       iterate 2 (refine cR ?_)
       (refine zcn ?_);refine cR ?_;refine zc1 ?_;refine zcN ?_;apply aI4;rfl;rfl;rfl;(focus(simp only[fD,fI,fJ,Act.eval,fE,fF,fG,fH,fK];try rfl));(exact esS);(exact rsS);rfl;rfl;rfl;rfl;(intro _;rfl);rfl;(intro _;rfl);(refine frS ?_);apply AJ7;rfl;rfl;rfl;(focus((conv=>lhs;whnf);try rfl));(focus((conv=>lhs;whnf);try rfl));(exact esS);(exact rsS);rfl;decide;rfl;(intro F w hS;exact Bp7 hS (by exact A9));(focus(try rfl));rfl;(focus(unfold maxLen;omega));(focus omega);(intro _;rfl);(intro _;rfl);(refine frS ?_);refine zcn ?_;refine cR ?_;(apply Fz7;rfl;rfl;rfl;rfl;(focus((conv=>lhs;whnf);try rfl));kernel_rfl;rfl;intro F w hS;exact hS.rowOne (by exact A9);(focus(simp));rfl;rfl;try(refine frS ?_));refine Ac7 ?_;clear hS;intro w hS;have hS2:St W [R5 (nd 6) _ _ _ _,row (nd 7) 8 _ _ _,xeB xb v1 v2 (nd 7) v4,blk bT _ _,sats _] w:=hS;clear hS;have hS:=hS2.unpack [_,_,_,_];clear hS2;simp only[jK,jN]at hS;generalize nd 7=v9 at *;have e9:=E9.out;clear E9;subst e9;go_wp2_with(first|go_big_skip);go_roundw
       case rel=>
        have h0:St W (row v9 8 40 (l.length+1) (l.flatMap tnC++tnC ((c,q),⟨c,q,z1,z2,z3,z4,t6,t7⟩))::_) w:=hS.drop;rw[<-Mu7]at h0;have h3:=N9 (d:=⟨d.vs,d.ss,l++[((c,q),⟨c,q,z1,z2,z3,z4,t6,t7⟩)],d.ar⟩) (D:=C) HC.out (h0.s (xeB xb v1 v2 v9 v4::xrP v1 C::w5 C::xsP v2 d.ss::xtP v9 (l++[((c,q),⟨c,q,z1,z2,z3,z4,t6,t7⟩)])::xmP v4 d.ar::rdX D rb (some r)::D::R));exact⟨l++[((c,q),⟨c,q,z1,z2,z3,z4,t6,t7⟩)],r,by rw[jA];rfl,by rw[jA];exact hlt,Bd7 HM.out Hyes.out,Hasc.out,Hs8.out,h3.swap⟩
       case measure=>simp[intOf];omega
      | false=>
       have Hno:=jH (Hnb.out fun y r hy=>⟨hpos,fun h0=>by obtain⟨_,e2,e3,_⟩:=(Hst.out y r).1 hy;rw[hyk,hk9,e3,e2];exact hb⟩);have Hlt:=jH hb;clear hz hyk hyc hyq hk9 hb;refine Aa7 (by kernel_rfl) (by kernel_rfl) hS ?_
       repeat(first|go_big_quiet_skip|refine zq1 ?_|refine zqN ?_|(first|(apply Am7;rfl;rfl;rfl;decide +kernel;exact hlast (by exact g8);refine frS ?_)|(apply Am7;rfl;rfl;rfl;decide +kernel;exact hlast2 (by exact g8);refine frS ?_))|apply Ag7;rfl;intro w;apply Ad7;rfl;decide +kernel;(focus(simp only[fD,fI,fJ,Act.eval,fE,fF,fG,fH,fK];try rfl));intro w hS;exact It7 Hmay.out W w _ hS;refine frS ?_|apply Ag7;rfl;intro w;apply Ad7;rfl;decide +kernel;(focus(simp only[fD,fI,fJ,Act.eval,fE,fF,fG,fH,fK];try rfl));intro w hS;exact Bl7 Hlt.out W w _ hS;refine frS ?_|refine zqn ?_|refine qR ?_)
       clear hS;intro w hS;go_wp2_with(first|go_big_skip|go_at_call 99;refine(D7 D rb s8 W _ _ (hS.s (rdX D rb s8::D::R))).mono ?_;clear hS;rintro x w ⟨rfl,hS⟩);refine bodyPost_ret (results_none rfl _ _ _) rfl ?_;exact⟨rfl,.inr ⟨Hno.out,hS⟩⟩
theorem Ps7{c q:Int}(h:whB c q=true):1<=q:=(Cq7 h).2.1
abbrev tB35a:List Nat:=[0,1,3,7,15,0,32,96,224,511,1023,2047]
theorem SO7{xr rb eb:Nat}{D:HP}{b:List Int}{e:Ec}(h:RdN (some b) 5000000)(W w:World)(R:List HP)(hS:St W (erR xr rb eb true::rdG D rb (some b)::ecP eb e::D::R) w):
  Calls Tryz.prog 90 #[.P xr] w fun x w'=>x=.returned (.tuple #[])/\dH4 aF4 W D xr rb eb b (fun y=>⟨e.vs,e.ss,e.ts,ptL e.ar y⟩) R w':=by
 obtain⟨m1,m2,m3,m4,E,hp,hS1⟩:=cv4 (hS.s (ecP eb e::erR xr rb eb true::rdG D rb (some b)::D::R));clear hS;have hS:=hS1.s (rdG D rb (some b)::D::erR xr rb eb true::ebB eb m1 m2 m3 m4::c8 eI eSs m2 e.ss::c8 eW eU m4 e.ar::c8 eW eTn m3 e.ts::c8 eS eN m1 (i8 E)::j8 E::R);clear hS1;obtain⟨⟨c,s1⟩,h1⟩:∃y,d8 (some b)=y:=⟨_,rfl⟩
 obtain⟨⟨q,s2⟩,h2⟩:∃y,d8 s1=y:=⟨_,rfl⟩
 have hn1:RdN s1 5000000:=by have:=h.num;rw[h1]at this;exact this
 have hn2:RdN s2 5000000:=by have:=hn1.num;rw[h2]at this;exact this
 have hst:∀(y:(Int×Int)×Unit) (r:List Int),aF4 b y r↔(s2=some r/\y.1=(c,q)/\whB y.1.1 y.1.2=true):=fun y r=>by unfold aF4;rw[h1];simp only;rw[h2]
 have Hok:=jH (h.ok (by decide));have Hok1:=jH (hn1.ok (by decide));have Hs2:=jH hn2;have H1:=jH h1;have H2:=jH h2;have Hp:=jH hp
 cases hw:whB c q with
 | false=>
  have Hno:=jH (show ∀y r,¬aF4 b y r from fun y r hy=>by
   obtain⟨_,h4,h5⟩:=(hst y r).1 hy;rw[h4]at h5;simp only at h5;rw[hw]at h5
   cases h5)
  have Hw:=jH hw;clear h h1 h2 hw hp hn1 hn2 hst;go_enter Tryz.func90,Tryz.ntmps90;go_wp2_with(fail);refine rf3 tB35a (fun _=>false) (fun i=>if i==4 then some (.I c)else if i==9 then some (.I q)else none) [⟨some 4,some 9,fun _=>rdG D rb s1⟩,⟨some 9,none,fun _=>rdG D rb s2⟩] [some 4,none,none] hS ?_;clear hS;intro nd;refine cR ?_;refine zcn ?_;refine cR ?_;refine zc1 ?_;refine zcv ?_ (hs:=by(intro F w hS;(try clear hS0);exact AE7 H1.out Hok.out W w _ _ .head hS));refine cR ?_;refine zcn ?_;refine cR ?_;refine zc1 ?_;refine zcv ?_ (hs:=by(intro F w hS;(try clear hS0);exact AE7 H2.out Hok1.out W w _ _ .head hS))
  iterate 2 (refine cR ?_)
  refine Ac7 ?_;intro w hS;have hS2:St W [rdG D rb s2,D,erR xr rb eb true,sats (ebB eb m1 m2 m3 m4::c8 eI eSs m2 e.ss::c8 eW eU m4 e.ar::c8 eW eTn m3 e.ts::c8 eS eN m1 (i8 E)::j8 E::R)] w:=hS;clear hS;have hS:=hS2.unpack [_,_,_];clear hS2;simp only[jK,jN]at hS;go_wp2_with(first|refine zl1 hS ?_|go_at_call 156;refine(Mq7 Hw.out W _ _ hS).mono ?_;clear hS;rintro x w ⟨rfl,hS⟩|go_at_call 153;refine(Cs7 false xr rb eb W _ _ (hS.s (erR xr rb eb true::rdG D rb s2::D::ebB eb m1 m2 m3 m4::c8 eI eSs m2 e.ss::c8 eW eU m4 e.ar::c8 eW eTn m3 e.ts::c8 eS eN m1 (i8 E)::j8 E::R))).mono ?_;clear hS;rintro x w ⟨rfl,hS⟩|((with_reducible apply Ba7 (ek:=eW) (ev:=eU) (k:=(c,q)) (u:=()) hS);rfl;rfl;rfl;rfl;exact g8;(focus(rfl));exact mAr;exact kW;clear hS;intro w hS;try(refine frS ?_)));go_end0;exact⟨rfl,.inr ⟨Hno.out,s2,Hs2.out,hS.s (erR xr rb eb false::rdG D rb s2::D::R)⟩⟩
 | true=>
  obtain⟨r,e9⟩:∃r,s2=some r:=by
   cases s2 with
   | some r=>exact⟨r,rfl⟩
   | none=>
    have h3:=Bv7 (s:=s1) (by rw[h2]);rw[h2]at h3;have h4:=Ps7 hw;simp only at h3;omega
  have Hyes:=jH ((hst ((c,q),()) r).2 ⟨e9,rfl,hw⟩);have Hw:=jH hw;have E9:=jH e9;clear e9 h h1 h2 hw hp hn1 hn2 hst;go_enter Tryz.func90,Tryz.ntmps90;go_wp2_with(fail);refine rf3 tB35a (fun _=>false) (fun i=>if i==4 then some (.I c)else if i==9 then some (.I q)else none) [⟨some 4,some 9,fun _=>rdG D rb s1⟩,⟨some 9,none,fun _=>rdG D rb s2⟩] [some 4,none,none] hS ?_;clear hS;intro nd;refine cR ?_;refine zcn ?_;refine cR ?_;refine zc1 ?_;refine zcv ?_ (hs:=by(intro F w hS;(try clear hS0);exact AE7 H1.out Hok.out W w _ _ .head hS));refine cR ?_;refine zcn ?_;refine cR ?_;refine zc1 ?_;refine zcv ?_ (hs:=by(intro F w hS;(try clear hS0);exact AE7 H2.out Hok1.out W w _ _ .head hS))
  iterate 2 (refine cR ?_)
  refine Ac7 ?_;intro w hS;have hS2:St W [rdG D rb s2,D,erR xr rb eb true,sats (ebB eb m1 m2 m3 m4::c8 eI eSs m2 e.ss::c8 eW eU m4 e.ar::c8 eW eTn m3 e.ts::c8 eS eN m1 (i8 E)::j8 E::R)] w:=hS;clear hS;have hS:=hS2.unpack [_,_,_];clear hS2;simp only[jK,jN]at hS;go_wp2_with(first|refine zl1 hS ?_|go_at_call 156;refine(Mq7 Hw.out W _ _ hS).mono ?_;clear hS;rintro x w ⟨rfl,hS⟩|go_at_call 153;refine(Cs7 true xr rb eb W _ _ (hS.s (erR xr rb eb true::rdG D rb s2::D::ebB eb m1 m2 m3 m4::c8 eI eSs m2 e.ss::c8 eW eU m4 e.ar::c8 eW eTn m3 e.ts::c8 eS eN m1 (i8 E)::j8 E::R))).mono ?_;clear hS;rintro x w ⟨rfl,hS⟩|((with_reducible apply Ba7 (ek:=eW) (ev:=eU) (k:=(c,q)) (u:=()) hS);rfl;rfl;rfl;rfl;exact g8;(focus(rfl));exact mAr;exact kW;clear hS;intro w hS;try(refine frS ?_)));go_end0;have e9:=E9.out;clear E9;subst e9;refine⟨rfl,.inl ⟨((c,q),()),r,Hyes.out,Hs2.out,?_⟩⟩;have h9:=R6 (e:=⟨e.vs,e.ss,e.ts,ptL e.ar ((c,q),())⟩) Hp.out (hS.s (ebB eb m1 m2 m3 m4::c8 eS eN m1 (i8 E)::j8 E::c8 eI eSs m2 e.ss::c8 eW eTn m3 e.ts::c8 eW eU m4 (((c,q),())::l8 e.ar (c,q))::erR xr rb eb true::rdG D rb (some r)::D::R));exact h9.s _
theorem SP7{xr rb eb:Nat}{D:HP}{b:List Int}{e:Ec}(h:RdN (some b) 5000000)(W w:World)(R:List HP)(hS:St W (erR xr rb eb true::rdG D rb (some b)::ecP eb e::D::R) w):
  Calls Tryz.prog 88 #[.P xr] w fun x w'=>x=.returned (.tuple #[])/\dH4 O7 W D xr rb eb b (fun y=>⟨e.vs,ptL e.ss y,e.ts,e.ar⟩) R w':=by
 obtain⟨m1,m2,m3,m4,E,hp,hS1⟩:=cv4 (hS.s (ecP eb e::erR xr rb eb true::rdG D rb (some b)::D::R));clear hS;have hS:=hS1.s (rdG D rb (some b)::D::erR xr rb eb true::ebB eb m1 m2 m3 m4::c8 eI eSs m2 e.ss::c8 eW eU m4 e.ar::c8 eW eTn m3 e.ts::c8 eS eN m1 (i8 E)::j8 E::R);clear hS1;obtain⟨⟨c,s1⟩,h1⟩:∃y,d8 (some b)=y:=⟨_,rfl⟩
 obtain⟨⟨q,s2⟩,h2⟩:∃y,d8 s1=y:=⟨_,rfl⟩
 have hn1:RdN s1 5000000:=by have:=h.num;rw[h1]at this;exact this
 have hn2:RdN s2 5000000:=by have:=hn1.num;rw[h2]at this;exact this
 obtain⟨⟨rx,s3⟩,h3⟩:∃y,j5 s2=y:=⟨_,rfl⟩
 have hn3:RdN s3 5000000:=by have:=hn2.bytes;rw[h3]at this;exact this
 have hrow:ByB rx/\rx.length<=5000000:=by have:=hn2.row;rw[h3]at this;exact this
 have hst:∀(y:Int×(Int×Rpl)) (r:List Int),O7 b y r↔(s3=some r/\y.1=c/\y.2.1=q/\whB y.1 y.2.1=true/\bj4 rx y.2.2):=fun y r=>by unfold O7;rw[h1];simp only;rw[h2];simp only;rw[h3]
 have Hok:=jH (h.ok (by decide));have Hok1:=jH (hn1.ok (by decide));have Hok2:=jH (hn2.ok (by decide));have Hs3:=jH hn3;have H1:=jH h1;have H2:=jH h2;have H3:=jH h3;have Hp:=jH hp;have Hrow:=jH hrow;by_cases hr:∃y,bj4 rx y
 ·obtain⟨⟨r0,r1,⟨r2,r3,r4,r5⟩⟩,hr⟩:=hr;have Hr:=jH hr
  cases hw:whB c q with
  | false=>
   have Hno:=jH (show ∀y r,¬O7 b y r from fun y r hy=>by
    obtain⟨_,h4,h5,h6,_⟩:=(hst y r).1 hy;rw[h4,h5,hw]at h6
    cases h6)
   have Hw:=jH hw;clear h h1 h2 h3 hw hp hn1 hn2 hn3 hst hr hrow;go_enter Tryz.func88,Tryz.ntmps88;go_wp2_with(fail);refine rf3 tB35a (fun _=>false) (fun i=>if i==4 then some (.I c)else if i==9 then some (.I q)else none) [⟨some 4,some 9,fun _=>rdG D rb s1⟩,⟨some 9,none,fun _=>rdG D rb s2⟩] [some 4,none,none] hS ?_;clear hS;intro nd;refine cR ?_;refine zcn ?_;refine cR ?_;refine zc1 ?_;refine zcv ?_ (hs:=by(intro F w hS;(try clear hS0);exact AE7 H1.out Hok.out W w _ _ .head hS));refine cR ?_;refine zcn ?_;refine cR ?_;refine zc1 ?_;refine zcv ?_ (hs:=by(intro F w hS;(try clear hS0);exact AE7 H2.out Hok1.out W w _ _ .head hS))
   iterate 2 (refine cR ?_)
   refine Ac7 ?_;intro w hS;have hS2:St W [rdG D rb s2,D,erR xr rb eb true,sats (ebB eb m1 m2 m3 m4::c8 eI eSs m2 e.ss::c8 eW eU m4 e.ar::c8 eW eTn m3 e.ts::c8 eS eN m1 (i8 E)::j8 E::R)] w:=hS;clear hS;have hS:=hS2.unpack [_,_,_];clear hS2;simp only[jK,jN]at hS;go_wp2_with(first|refine zl1 hS ?_|go_at_call 151;refine(AA7 H3.out Hok2.out W _ _ _ .head hS).mono ?_;clear hS;rintro x w ⟨v1,rfl,hS⟩|go_at_call 155;refine(HZ7 Hr.out v1 W _ _ hS).mono ?_;clear hS;rintro x w ⟨rfl,hS⟩|refine zal hS ?_;clear hS;intro bA w hS|refine zsN hS ?_;clear hS;intro w hS|go_at_call 156;refine(Mq7 Hw.out W _ _ hS).mono ?_;clear hS;rintro x w ⟨rfl,hS⟩|go_at_call 153;refine(Cs7 false xr rb eb W _ _ (hS.s (erR xr rb eb true::blk bA _ _::rdG D rb s3::D::ebB eb m1 m2 m3 m4::c8 eI eSs m2 e.ss::c8 eW eU m4 e.ar::c8 eW eTn m3 e.ts::c8 eS eN m1 (i8 E)::j8 E::R))).mono ?_;clear hS;rintro x w ⟨rfl,hS⟩);refine rt 11 hS ?_
   repeat(first|refine zq1 ?_|refine zqN ?_|refine zqn ?_|refine qR ?_)
   clear hS;intro w hS;simp only[jD,List.drop_zero];go_wp2_with(first|((with_reducible apply Ba7 (ek:=eI) (ev:=eSs) (k:=c) (u:=(q,(⟨r0,r1,⟨r2,r3,r4,r5⟩⟩:Rpl))) hS);rfl;rfl;rfl;rfl;exact g8;(focus(rfl));exact mS;exact kEi;clear hS;intro w hS;try(refine frS ?_)));go_end0;exact⟨rfl,.inr ⟨Hno.out,s3,Hs3.out,hS.s (erR xr rb eb false::rdG D rb s3::D::R)⟩⟩
  | true=>
   obtain⟨r,e9⟩:∃r,s3=some r:=by
    cases s3 with
    | some r=>exact⟨r,rfl⟩
    | none=>
     have h4:=DU7 (s:=s2) (by rw[h3]);rw[h3]at h4;have h5:=KN7 ⟨r0,r1,⟨r2,r3,r4,r5⟩⟩;rw[<-hr.2]at h5;simp only at h4;rw[h4]at h5;simp at h5
   have Hyes:=jH ((hst (c,(q,⟨r0,r1,⟨r2,r3,r4,r5⟩⟩)) r).2 ⟨e9,rfl,rfl,hw,hr⟩);have Hw:=jH hw;have E9:=jH e9;clear e9 h h1 h2 h3 hw hp hn1 hn2 hn3 hst hr hrow;go_enter Tryz.func88,Tryz.ntmps88;go_wp2_with(fail);refine rf3 tB35a (fun _=>false) (fun i=>if i==4 then some (.I c)else if i==9 then some (.I q)else none) [⟨some 4,some 9,fun _=>rdG D rb s1⟩,⟨some 9,none,fun _=>rdG D rb s2⟩] [some 4,none,none] hS ?_;clear hS;intro nd;refine cR ?_;refine zcn ?_;refine cR ?_;refine zc1 ?_;refine zcv ?_ (hs:=by(intro F w hS;(try clear hS0);exact AE7 H1.out Hok.out W w _ _ .head hS));refine cR ?_;refine zcn ?_;refine cR ?_;refine zc1 ?_;refine zcv ?_ (hs:=by(intro F w hS;(try clear hS0);exact AE7 H2.out Hok1.out W w _ _ .head hS))
   iterate 2 (refine cR ?_)
   refine Ac7 ?_;intro w hS;have hS2:St W [rdG D rb s2,D,erR xr rb eb true,sats (ebB eb m1 m2 m3 m4::c8 eI eSs m2 e.ss::c8 eW eU m4 e.ar::c8 eW eTn m3 e.ts::c8 eS eN m1 (i8 E)::j8 E::R)] w:=hS;clear hS;have hS:=hS2.unpack [_,_,_];clear hS2;simp only[jK,jN]at hS;go_wp2_with(first|refine zl1 hS ?_|go_at_call 151;refine(AA7 H3.out Hok2.out W _ _ _ .head hS).mono ?_;clear hS;rintro x w ⟨v1,rfl,hS⟩|go_at_call 155;refine(HZ7 Hr.out v1 W _ _ hS).mono ?_;clear hS;rintro x w ⟨rfl,hS⟩|refine zal hS ?_;clear hS;intro bA w hS|refine zsN hS ?_;clear hS;intro w hS|go_at_call 156;refine(Mq7 Hw.out W _ _ hS).mono ?_;clear hS;rintro x w ⟨rfl,hS⟩|go_at_call 153;refine(Cs7 true xr rb eb W _ _ (hS.s (erR xr rb eb true::blk bA _ _::rdG D rb s3::D::ebB eb m1 m2 m3 m4::c8 eI eSs m2 e.ss::c8 eW eU m4 e.ar::c8 eW eTn m3 e.ts::c8 eS eN m1 (i8 E)::j8 E::R))).mono ?_;clear hS;rintro x w ⟨rfl,hS⟩);refine rt 11 hS ?_
   repeat(first|refine zq1 ?_|refine zqN ?_|refine zqn ?_|refine qR ?_)
   clear hS;intro w hS;simp only[jD,List.drop_zero];go_wp2_with(first|((with_reducible apply Ba7 (ek:=eI) (ev:=eSs) (k:=c) (u:=(q,(⟨r0,r1,⟨r2,r3,r4,r5⟩⟩:Rpl))) hS);rfl;rfl;rfl;rfl;exact g8;(focus(rfl));exact mS;exact kEi;clear hS;intro w hS;try(refine frS ?_)));go_end0;have e9:=E9.out;clear E9;subst e9;refine⟨rfl,.inl ⟨(c,(q,⟨r0,r1,⟨r2,r3,r4,r5⟩⟩)),r,Hyes.out,Hs3.out,?_⟩⟩;have h9:=R6 (e:=⟨e.vs,ptL e.ss (c,(q,⟨r0,r1,⟨r2,r3,r4,r5⟩⟩)),e.ts,e.ar⟩) Hp.out (hS.s (ebB eb m1 m2 m3 m4::c8 eS eN m1 (i8 E)::j8 E::c8 eI eSs m2 ((c,(q,⟨r0,r1,⟨r2,r3,r4,r5⟩⟩))::l8 e.ss c)::c8 eW eTn m3 e.ts::c8 eW eU m4 e.ar::erR xr rb eb true::rdG D rb (some r)::D::R));exact h9.s _
 ·have hr2:∀y,¬bj4 rx y:=fun y h=>hr ⟨y,h⟩
  have Hno:=jH (show ∀y r,¬O7 b y r from fun y r hy=>by obtain⟨_,_,_,_,h7⟩:=(hst y r).1 hy;exact hr2 _ h7);have Hr:=jH hr2
  cases hw:whB c q with
  | false=>
   have Hw:=jH hw;clear h h1 h2 h3 hw hp hn1 hn2 hn3 hst hr hr2 hrow;go_enter Tryz.func88,Tryz.ntmps88;go_wp2_with(fail);refine rf3 tB35a (fun _=>false) (fun i=>if i==4 then some (.I c)else if i==9 then some (.I q)else none) [⟨some 4,some 9,fun _=>rdG D rb s1⟩,⟨some 9,none,fun _=>rdG D rb s2⟩] [some 4,none,none] hS ?_;clear hS;intro nd;refine cR ?_;refine zcn ?_;refine cR ?_;refine zc1 ?_;refine zcv ?_ (hs:=by(intro F w hS;(try clear hS0);exact AE7 H1.out Hok.out W w _ _ .head hS));refine cR ?_;refine zcn ?_;refine cR ?_;refine zc1 ?_;refine zcv ?_ (hs:=by(intro F w hS;(try clear hS0);exact AE7 H2.out Hok1.out W w _ _ .head hS))
   iterate 2 (refine cR ?_)
   refine Ac7 ?_;intro w hS;have hS2:St W [rdG D rb s2,D,erR xr rb eb true,sats (ebB eb m1 m2 m3 m4::c8 eI eSs m2 e.ss::c8 eW eU m4 e.ar::c8 eW eTn m3 e.ts::c8 eS eN m1 (i8 E)::j8 E::R)] w:=hS;clear hS;have hS:=hS2.unpack [_,_,_];clear hS2;simp only[jK,jN]at hS;go_wp2_with(first|refine zl1 hS ?_|go_at_call 151;refine(AA7 H3.out Hok2.out W _ _ _ .head hS).mono ?_;clear hS;rintro x w ⟨v1,rfl,hS⟩|go_at_call 155;refine(Ia7 Hr.out Hrow.out.1 (Nat.le_trans Hrow.out.2 (by decide)) v1 W _ _ hS).mono ?_;clear hS;rintro x w ⟨rfl,hS⟩|refine zal hS ?_;clear hS;intro bA w hS|refine zsN hS ?_;clear hS;intro w hS|go_at_call 153;refine(Cs7 false xr rb eb W _ _ (hS.s (erR xr rb eb true::blk bA _ _::rdG D rb s3::D::ebB eb m1 m2 m3 m4::c8 eI eSs m2 e.ss::c8 eW eU m4 e.ar::c8 eW eTn m3 e.ts::c8 eS eN m1 (i8 E)::j8 E::R))).mono ?_;clear hS;rintro x w ⟨rfl,hS⟩);refine rt 11 hS ?_
   repeat(first|refine zq1 ?_|refine zqN ?_|refine zqn ?_|refine qR ?_)
   clear hS;intro w hS;simp only[jD,List.drop_zero];go_wp2_with(first|((with_reducible apply Ba7 (ek:=eI) (ev:=eSs) (k:=c) (u:=(q,(⟨0,0,⟨0,0,0,0⟩⟩:Rpl))) hS);rfl;rfl;rfl;rfl;exact g8;(focus(rfl));exact mS;exact kEi;clear hS;intro w hS;try(refine frS ?_)));go_end0;exact⟨rfl,.inr ⟨Hno.out,s3,Hs3.out,hS.s (erR xr rb eb false::rdG D rb s3::D::R)⟩⟩
  | true=>
   have Hw:=jH hw;clear h h1 h2 h3 hw hp hn1 hn2 hn3 hst hr hr2 hrow;go_enter Tryz.func88,Tryz.ntmps88;go_wp2_with(fail);refine rf3 tB35a (fun _=>false) (fun i=>if i==4 then some (.I c)else if i==9 then some (.I q)else none) [⟨some 4,some 9,fun _=>rdG D rb s1⟩,⟨some 9,none,fun _=>rdG D rb s2⟩] [some 4,none,none] hS ?_;clear hS;intro nd;refine cR ?_;refine zcn ?_;refine cR ?_;refine zc1 ?_;refine zcv ?_ (hs:=by(intro F w hS;(try clear hS0);exact AE7 H1.out Hok.out W w _ _ .head hS));refine cR ?_;refine zcn ?_;refine cR ?_;refine zc1 ?_;refine zcv ?_ (hs:=by(intro F w hS;(try clear hS0);exact AE7 H2.out Hok1.out W w _ _ .head hS))
   iterate 2 (refine cR ?_)
   refine Ac7 ?_;intro w hS;have hS2:St W [rdG D rb s2,D,erR xr rb eb true,sats (ebB eb m1 m2 m3 m4::c8 eI eSs m2 e.ss::c8 eW eU m4 e.ar::c8 eW eTn m3 e.ts::c8 eS eN m1 (i8 E)::j8 E::R)] w:=hS;clear hS;have hS:=hS2.unpack [_,_,_];clear hS2;simp only[jK,jN]at hS;go_wp2_with(first|refine zl1 hS ?_|go_at_call 151;refine(AA7 H3.out Hok2.out W _ _ _ .head hS).mono ?_;clear hS;rintro x w ⟨v1,rfl,hS⟩|go_at_call 155;refine(Ia7 Hr.out Hrow.out.1 (Nat.le_trans Hrow.out.2 (by decide)) v1 W _ _ hS).mono ?_;clear hS;rintro x w ⟨rfl,hS⟩|refine zal hS ?_;clear hS;intro bA w hS|refine zsN hS ?_;clear hS;intro w hS|go_at_call 153;refine(Cs7 false xr rb eb W _ _ (hS.s (erR xr rb eb true::blk bA _ _::rdG D rb s3::D::ebB eb m1 m2 m3 m4::c8 eI eSs m2 e.ss::c8 eW eU m4 e.ar::c8 eW eTn m3 e.ts::c8 eS eN m1 (i8 E)::j8 E::R))).mono ?_;clear hS;rintro x w ⟨rfl,hS⟩);refine rt 11 hS ?_
   repeat(first|refine zq1 ?_|refine zqN ?_|refine zqn ?_|refine qR ?_)
   clear hS;intro w hS;simp only[jD,List.drop_zero];go_wp2_with(first|((with_reducible apply Ba7 (ek:=eI) (ev:=eSs) (k:=c) (u:=(q,(⟨0,0,⟨0,0,0,0⟩⟩:Rpl))) hS);rfl;rfl;rfl;rfl;exact g8;(focus(rfl));exact mS;exact kEi;clear hS;intro w hS;try(refine frS ?_)));go_end0;exact⟨rfl,.inr ⟨Hno.out,s3,Hs3.out,hS.s (erR xr rb eb false::rdG D rb s3::D::R)⟩⟩
end Go.Proofs.YtlmhakmoioogaaaGreat
end
