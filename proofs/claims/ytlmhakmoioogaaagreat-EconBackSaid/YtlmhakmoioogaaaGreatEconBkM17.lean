/-
  Apply.
-/
import Derived.Test.YtlmhakmoioogaaaGreatEconBkM16
set_option maxHeartbeats 16000000
set_option maxRecDepth 100000
set_option linter.unusedSimpArgs false
set_option linter.unusedVariables false
section
namespace Go.Proofs.YtlmhakmoioogaaaGreat
open Go.RowKit Go.Sl
section
variable{eb m1 m2 m3 m4:Nat}{E:Ev}{i:Nat}{vs:List (ByteArray×Vs)}(kd cl sq:Int)(ak aw tk tw:ByteArray)(it ct pr:Int)(bu:Bool)(id:Int)(ss:List (Int×(Int×Rpl)))(ts:List ((Int×Int)×Tns))(ar:List ((Int×Int)×Unit))(W w:World)(R:List HP)
theorem TZ7{r:Rpl}(hpk:G9 ⟨vs,ss,ts,ar⟩ ⟨kd,cl,sq,ak,aw,tk,tw,it,ct,pr,bu,id⟩=(r,true))(hS:St W (ecR eb m1 m2 m3 m4 E ss ts ar R) w):
  Calls Tryz.prog 16 #[.P eb,oV kd cl sq ak aw tk tw it ct pr bu id] w fun e w'=>e=.returned (.tuple #[rV r.err r.id r.has.x0 r.has.x1 r.has.x2 r.has.x3,.bool false])/\St W (ecR eb m1 m2 m3 m4 E ss ts ar R) w':=by
 obtain⟨e0,e1,⟨y0,y1,y2,y3⟩⟩:=r;go_enter Tryz.func16,Tryz.ntmps16;go_wp2_with(first|refine zbx hS ?_;clear hS;intro bO w hS|(fail_if_success (have:=g1));(refine zal hS ?_;clear hS;have g1:Nat:=0;intro bR w hS)|(have:=g1);(fail_if_success (have:=g2));(refine zal hS ?_;clear hS;have g2:Nat:=0;intro b6 w hS)|refine zlN hS ?_|refine zsN hS ?_;clear hS;intro w hS|go_at_call 33;refine(Bk7 hpk W _ _ (hS.s (ecR eb m1 m2 m3 m4 E ss ts ar (blk bR _ _::blk bO _ _::R)))).mono ?_;clear hS;rintro e w ⟨rfl,hS⟩);apply Ac7;rfl;rfl;rfl;rfl;exact hS;decide +kernel;(exact x9);kernel_rfl;exact⟨rfl,hS.s _⟩
end
section
variable{eb m1 m2 m3 m4:Nat}{E:Ev}{i:Nat}{vs:List (ByteArray×Vs)}(cl sq:Int)(ak aw tk tw:ByteArray)(it ct pr:Int)(bu:Bool)(id:Int)(ss:List (Int×(Int×Rpl)))(ts:List ((Int×Int)×Tns))(ar:List ((Int×Int)×Unit))(W w:World)(R:List HP)
abbrev tB16a:List Nat:=[0,1,3,7,0,0,63,0,255]
theorem hz4(hpk:G9 ⟨vs,ss,ts,ar⟩ ⟨1,cl,sq,ak,aw,tk,tw,it,ct,pr,bu,id⟩=(rp0,false))(hE:O6 E i)(hi:i<=1000000)(hp:(r6 E).Perm vs)(h0:0<=it)(h4:it<4)(c0:1<=ct)(c1:ct<=1048576){r:Int}{q:Ps}(hr:Q5 (vAt E ak).ps aw (B5 it ct)=r)(hq:M5 (vAt E ak).ps aw (B5 it ct)=q)(hS:St W (ecR eb m1 m2 m3 m4 E ss ts ar R) w):
  Calls Tryz.prog 16 #[.P eb,oV 1 cl sq ak aw tk tw it ct pr bu id] w fun e w'=>∃E',O6 E' (i+1)/\(r6 E').Perm (cf4 ((ak,⟨q,(vAt E ak).L,(vAt E ak).n⟩)::j9 vs ak) ak)/\e=.returned (.tuple #[rV r 0 0 0 0 0,.bool true]) /\
   St W (ecR eb m1 m2 m3 m4 E' ((cl,(sq,⟨r,0,⟨0,0,0,0⟩⟩))::j9 ss cl) ts ar R) w':=by
 have hN:100*(i+1)<=1000000000:=by omega
 have Hp:=jH hp;have HE:=jH hE;have Hr:=jH hr;have Hq:=jH hq;clear hp hE hr hq;go_enter Tryz.func16,Tryz.ntmps16;go_wp2_with(first|refine zbx hS ?_;clear hS;intro bO w hS|(fail_if_success (have:=g1));(refine zal hS ?_;clear hS;have g1:Nat:=0;intro bR w hS)|(have:=g1);(fail_if_success (have:=g2));(refine zal hS ?_;clear hS;have g2:Nat:=0;intro b6 w hS)|(have:=g2);refine zal hS ?_;clear hS;intro b8 w hS|refine zlN hS ?_|refine zsN hS ?_;clear hS;intro w hS|go_at_call 33;refine(Bk7 hpk W _ _ (hS.s (ecR eb m1 m2 m3 m4 E ss ts ar (blk bR _ _::blk bO _ _::R)))).mono ?_;clear hS;rintro e w ⟨rfl,hS⟩);have hS0:=aI4 (hS.s (ecR eb m1 m2 m3 m4 E ss ts ar (blk bO _ _::blk b8 _ _::blk b6 _ _::blk bR _ _::R)));clear hS
 refine rf3 tB16a (fun i=>i==7) (fun i=>if i==6 then some (rV r 0 0 0 0 0)else none)
  [⟨some 6,none,fun _=>kdR eb m1 m2 m3 m4 ((ak,⟨q,(vAt E ak).L,(vAt E ak).n⟩)::j9 vs ak) ss ts ar (i+1)⟩,⟨some 7,some 8,fun nd=>k8 (nd 7) [.I 0,.I 0,.I 0,.I 0,.I 0,.I 0] 31⟩,⟨some 8,none,fun nd=>k8 (nd 7) [.I r,.I 0,.I 0,.I 0,.I 0,.I 0] 31⟩] [some 6,none,none] hS0 ?_
 clear hS0;intro nd
 repeat(first|refine zc1 ?_|refine zcN ?_|apply Cu7;rfl;rfl;rfl;rfl;rfl;decide +kernel;(focus(simp only[fD,fI,fJ,Act.eval,fE,fF,fG,fH,fK];try rfl));intro F w hS;exact gv4 cl sq ak aw tk tw it ct pr bu id ss ts ar W w _ HE.out Hp.out h0 h4 c0 c1 Hr.out Hq.out hS;refine frS ?_|refine zca ?_|refine zct ?_|refine cR ?_)
 refine Ad7 ?_;intro w hS;have hS2:St W [kdR eb m1 m2 m3 m4 _ _ _ _ _,k8 _ _ _,blk bO _ _,blk b8 _ _,sats (blk b6 _ _::blk bR _ _::R)] w:=hS;clear hS;have hS:=hS2.unpack [_,_,_,_];clear hS2;simp only[jK,jN]at hS;generalize nd 7=v9 at *;obtain⟨E2,hE2,hp2,hS0⟩:=bX4 hS;clear hS;have hS:St W (k8 v9 _ _::evP eb m1 m2 m3 m4 E2::d8 eI eSs m2 ss::d8 eW eTn m3 _::d8 eW eU m4 _::blk bO _ _::blk b8 _ _::blk b6 _ _::blk bR _ _::R) w:=hS0.s _;clear hS0;have h1:=hS.ptr;clear hS;obtain⟨b9,rfl,hS⟩:=h1;have hS0:=G6 hS.swap;clear hS;have hS:=hS0;clear hS0;have hnd:(E2.map (·.1)).Nodup:=by rw[<-AV7];exact K8 hS.drop
 have hp3:=BJ7 hnd hp2 ak;have hok3:=FA7 hE2 ak;have HE2:=jH hE2;have Hp3:=jH hp3;have Hok3:=jH hok3;clear hnd hp2 hp3 hE2 hok3;go_wp2_with(first|refine zl1 hS ?_|go_at_call 43;refine(Bg7 eb m1 m2 m3 m4 E2 ak (fun x hx=>(HE2.out x hx).w) hN W _ _ (hS.s (ebB eb m1 m2 m3 m4::d8 eS eN m1 (j6 E2)::m9 E2::d8 eI eSs m2 ss::d8 eW eTn m3 _::d8 eW eU m4 _::blk b9 _ _::blk b8 _ _::blk b6 _ _::blk bR _ _::blk bO _ _::R))).mono ?_;clear hS;rintro e w ⟨rfl,hS⟩);refine rt 10 hS ?_
 repeat(first|refine zq1 ?_|refine zqN ?_|refine zqn ?_|refine qR ?_)
 clear hS;intro w hS;simp only[jD,List.drop_zero];go_wp2_with(first|((with_reducible apply Bs7 (ek:=eI) (ev:=eSs) (k:=cl) (u:=(sq,(⟨r,0,⟨0,0,0,0⟩⟩:Rpl))) hS);rfl;rfl;rfl;rfl;exact j5;(focus(rfl));exact mS;exact kEi;clear hS;intro w hS;try(refine frS ?_))|refine zlN hS ?_|refine zsN hS ?_;clear hS;intro w hS);apply Ac7;rfl;rfl;rfl;rfl;exact hS;decide +kernel;(exact x9);kernel_rfl;exact⟨_,Hok3.out,Hp3.out,rfl,J7 (hS.s (ebB eb m1 m2 m3 m4::d8 eS eN m1 _::m9 _::d8 eI eSs m2 _::d8 eW eTn m3 _::d8 eW eU m4 _::R))⟩
theorem gB4(hpk:G9 ⟨vs,ss,ts,ar⟩ ⟨2,cl,sq,ak,aw,tk,tw,it,ct,pr,bu,id⟩=(rp0,false))(hE:O6 E i)(hi:i<=1000000)(hp:(r6 E).Perm vs)(h0:0<=it)(h4:it<4)(c0:1<=ct)(c1:ct<=1048576){r:Int}{q:Ps}(hr:A5 (vAt E ak).ps aw (B5 it ct)=r)(hr0:(r==0)=false)(hq:A8 (vAt E ak).ps aw (B5 it ct)=q)(hS:St W (ecR eb m1 m2 m3 m4 E ss ts ar R) w):
  Calls Tryz.prog 16 #[.P eb,oV 2 cl sq ak aw tk tw it ct pr bu id] w fun e w'=>∃E',O6 E' (i+1)/\(r6 E').Perm (cf4 ((ak,⟨q,(vAt E ak).L,(vAt E ak).n⟩)::j9 vs ak) ak)/\e=.returned (.tuple #[rV r 0 0 0 0 0,.bool true]) /\
   St W (ecR eb m1 m2 m3 m4 E' ((cl,(sq,⟨r,0,⟨0,0,0,0⟩⟩))::j9 ss cl) (ts) (ar) R) w':=by
 have hN:100*(i+1)<=1000000000:=by omega
 have Hp:=jH hp;have HE:=jH hE;have Hr:=jH hr;have Hq:=jH hq;clear hp hE hr hq;go_enter Tryz.func16,Tryz.ntmps16;go_wp2_with(first|refine zbx hS ?_;clear hS;intro bO w hS|(fail_if_success (have:=g1));(refine zal hS ?_;clear hS;have g1:Nat:=0;intro bR w hS)|(have:=g1);(fail_if_success (have:=g2));(refine zal hS ?_;clear hS;have g2:Nat:=0;intro b6 w hS)|(have:=g2);refine zal hS ?_;clear hS;intro b8 w hS|refine zlN hS ?_|refine zsN hS ?_;clear hS;intro w hS|go_at_call 33;refine(Bk7 hpk W _ _ (hS.s (ecR eb m1 m2 m3 m4 E ss ts ar (blk bR _ _::blk bO _ _::R)))).mono ?_;clear hS;rintro e w ⟨rfl,hS⟩);have hS0:=aI4 (hS.s (ecR eb m1 m2 m3 m4 E ss ts ar (blk bO _ _::blk b8 _ _::blk b6 _ _::blk bR _ _::R)));clear hS
 refine rf3 tB16a (fun i=>i==7) (fun i=>if i==6 then some (rV r 0 0 0 0 0)else none)
  [⟨some 6,none,fun _=>kdR eb m1 m2 m3 m4 ((ak,⟨q,(vAt E ak).L,(vAt E ak).n⟩)::j9 vs ak) ss (ts) (ar) (i+1)⟩,⟨some 7,some 8,fun nd=>k8 (nd 7) [.I 0,.I 0,.I 0,.I 0,.I 0,.I 0] 31⟩,⟨some 8,none,fun nd=>k8 (nd 7) [.I r,.I 0,.I 0,.I 0,.I 0,.I 0] 31⟩] [some 6,none,none] hS0 ?_
 clear hS0;intro nd
 repeat(first|refine zc1 ?_|refine zcN ?_|apply Cu7;rfl;rfl;rfl;rfl;rfl;decide +kernel;(focus(simp only[fD,fI,fJ,Act.eval,fE,fF,fG,fH,fK];try rfl));intro F w hS;exact fT4 cl sq ak aw tk tw it ct pr bu id ss ts ar W w _ HE.out Hp.out h0 h4 c0 c1 Hr.out hr0 Hq.out hS;refine frS ?_|refine zca ?_|refine zct ?_|refine cR ?_)
 refine Ad7 ?_;intro w hS;have hS2:St W [kdR eb m1 m2 m3 m4 _ _ _ _ _,k8 _ _ _,blk bO _ _,blk b8 _ _,sats (blk b6 _ _::blk bR _ _::R)] w:=hS;clear hS;have hS:=hS2.unpack [_,_,_,_];clear hS2;simp only[jK,jN]at hS;generalize nd 7=v9 at *;obtain⟨E2,hE2,hp2,hS0⟩:=bX4 hS;clear hS;have hS:St W (k8 v9 _ _::evP eb m1 m2 m3 m4 E2::d8 eI eSs m2 ss::d8 eW eTn m3 _::d8 eW eU m4 _::blk bO _ _::blk b8 _ _::blk b6 _ _::blk bR _ _::R) w:=hS0.s _;clear hS0;have h1:=hS.ptr;clear hS;obtain⟨b9,rfl,hS⟩:=h1;have hS0:=G6 hS.swap;clear hS;have hS:=hS0;clear hS0;have hnd:(E2.map (·.1)).Nodup:=by rw[<-AV7];exact K8 hS.drop
 have hp3:=BJ7 hnd hp2 ak;have hok3:=FA7 hE2 ak;have HE2:=jH hE2;have Hp3:=jH hp3;have Hok3:=jH hok3;clear hnd hp2 hp3 hE2 hok3;go_wp2_with(first|refine zl1 hS ?_|go_at_call 43;refine(Bg7 eb m1 m2 m3 m4 E2 ak (fun x hx=>(HE2.out x hx).w) hN W _ _ (hS.s (ebB eb m1 m2 m3 m4::d8 eS eN m1 (j6 E2)::m9 E2::d8 eI eSs m2 ss::d8 eW eTn m3 _::d8 eW eU m4 _::blk b9 _ _::blk b8 _ _::blk b6 _ _::blk bR _ _::blk bO _ _::R))).mono ?_;clear hS;rintro e w ⟨rfl,hS⟩);refine rt 10 hS ?_
 repeat(first|refine zq1 ?_|refine zqN ?_|refine zqn ?_|refine qR ?_)
 clear hS;intro w hS;simp only[jD,List.drop_zero];go_wp2_with(first|((with_reducible apply Bs7 (ek:=eI) (ev:=eSs) (k:=cl) (u:=(sq,(⟨r,0,⟨0,0,0,0⟩⟩:Rpl))) hS);rfl;rfl;rfl;rfl;exact j5;(focus(rfl));exact mS;exact kEi;clear hS;intro w hS;try(refine frS ?_))|refine zlN hS ?_|refine zsN hS ?_;clear hS;intro w hS);apply Ac7;rfl;rfl;rfl;rfl;exact hS;decide +kernel;(exact x9);kernel_rfl;exact⟨_,Hok3.out,Hp3.out,rfl,J7 (hS.s (ebB eb m1 m2 m3 m4::d8 eS eN m1 _::m9 _::d8 eI eSs m2 _::d8 eW eTn m3 _::d8 eW eU m4 _::R))⟩
theorem gC4(hpk:G9 ⟨vs,ss,ts,ar⟩ ⟨2,cl,sq,ak,aw,tk,tw,it,ct,pr,bu,id⟩=(rp0,false))(hE:O6 E i)(hi:i<=1000000)(hp:(r6 E).Perm vs)(h0:0<=it)(h4:it<4)(c0:1<=ct)(c1:ct<=1048576){q:Ps}(hr:A5 (vAt E ak).ps aw (B5 it ct)=0)(hq:A8 (vAt E ak).ps aw (B5 it ct)=q)(hS:St W (ecR eb m1 m2 m3 m4 E ss ts ar R) w):
  Calls Tryz.prog 16 #[.P eb,oV 2 cl sq ak aw tk tw it ct pr bu id] w fun e w'=>∃E',O6 E' (i+1)/\(r6 E').Perm (cf4 ((ak,⟨q,(vAt E ak).L,(vAt E ak).n⟩)::j9 vs ak) ak)/\e=.returned (.tuple #[rV 0 0 0 0 0 0,.bool true]) /\
   St W (ecR eb m1 m2 m3 m4 E' ((cl,(sq,⟨0,0,⟨0,0,0,0⟩⟩))::j9 ss cl) (((cl,sq),⟨cl,sq,ak,aw,tk,tw,it,ct⟩)::j9 ts (cl,sq)) (ar) R) w':=by
 have hN:100*(i+1)<=1000000000:=by omega
 have Hp:=jH hp;have HE:=jH hE;have Hr:=jH hr;have Hq:=jH hq;clear hp hE hr hq;go_enter Tryz.func16,Tryz.ntmps16;go_wp2_with(first|refine zbx hS ?_;clear hS;intro bO w hS|(fail_if_success (have:=g1));(refine zal hS ?_;clear hS;have g1:Nat:=0;intro bR w hS)|(have:=g1);(fail_if_success (have:=g2));(refine zal hS ?_;clear hS;have g2:Nat:=0;intro b6 w hS)|(have:=g2);refine zal hS ?_;clear hS;intro b8 w hS|refine zlN hS ?_|refine zsN hS ?_;clear hS;intro w hS|go_at_call 33;refine(Bk7 hpk W _ _ (hS.s (ecR eb m1 m2 m3 m4 E ss ts ar (blk bR _ _::blk bO _ _::R)))).mono ?_;clear hS;rintro e w ⟨rfl,hS⟩);have hS0:=aI4 (hS.s (ecR eb m1 m2 m3 m4 E ss ts ar (blk bO _ _::blk b8 _ _::blk b6 _ _::blk bR _ _::R)));clear hS
 refine rf3 tB16a (fun i=>i==7) (fun i=>if i==6 then some (rV 0 0 0 0 0 0)else none)
  [⟨some 6,none,fun _=>kdR eb m1 m2 m3 m4 ((ak,⟨q,(vAt E ak).L,(vAt E ak).n⟩)::j9 vs ak) ss (((cl,sq),⟨cl,sq,ak,aw,tk,tw,it,ct⟩)::j9 ts (cl,sq)) (ar) (i+1)⟩,⟨some 7,some 8,fun nd=>k8 (nd 7) [.I 0,.I 0,.I 0,.I 0,.I 0,.I 0] 31⟩,⟨some 8,none,fun nd=>k8 (nd 7) [.I 0,.I 0,.I 0,.I 0,.I 0,.I 0] 31⟩] [some 6,none,none] hS0 ?_
 clear hS0;intro nd
 repeat(first|refine zc1 ?_|refine zcN ?_|apply Cu7;rfl;rfl;rfl;rfl;rfl;decide +kernel;(focus(simp only[fD,fI,fJ,Act.eval,fE,fF,fG,fH,fK];try rfl));intro F w hS;exact fU4 cl sq ak aw tk tw it ct pr bu id ss ts ar W w _ HE.out Hp.out h0 h4 c0 c1 Hr.out Hq.out hS;refine frS ?_|refine zca ?_|refine zct ?_|refine cR ?_)
 refine Ad7 ?_;intro w hS;have hS2:St W [kdR eb m1 m2 m3 m4 _ _ _ _ _,k8 _ _ _,blk bO _ _,blk b8 _ _,sats (blk b6 _ _::blk bR _ _::R)] w:=hS;clear hS;have hS:=hS2.unpack [_,_,_,_];clear hS2;simp only[jK,jN]at hS;generalize nd 7=v9 at *;obtain⟨E2,hE2,hp2,hS0⟩:=bX4 hS;clear hS;have hS:St W (k8 v9 _ _::evP eb m1 m2 m3 m4 E2::d8 eI eSs m2 ss::d8 eW eTn m3 _::d8 eW eU m4 _::blk bO _ _::blk b8 _ _::blk b6 _ _::blk bR _ _::R) w:=hS0.s _;clear hS0;have h1:=hS.ptr;clear hS;obtain⟨b9,rfl,hS⟩:=h1;have hS0:=G6 hS.swap;clear hS;have hS:=hS0;clear hS0;have hnd:(E2.map (·.1)).Nodup:=by rw[<-AV7];exact K8 hS.drop
 have hp3:=BJ7 hnd hp2 ak;have hok3:=FA7 hE2 ak;have HE2:=jH hE2;have Hp3:=jH hp3;have Hok3:=jH hok3;clear hnd hp2 hp3 hE2 hok3;go_wp2_with(first|refine zl1 hS ?_|go_at_call 43;refine(Bg7 eb m1 m2 m3 m4 E2 ak (fun x hx=>(HE2.out x hx).w) hN W _ _ (hS.s (ebB eb m1 m2 m3 m4::d8 eS eN m1 (j6 E2)::m9 E2::d8 eI eSs m2 ss::d8 eW eTn m3 _::d8 eW eU m4 _::blk b9 _ _::blk b8 _ _::blk b6 _ _::blk bR _ _::blk bO _ _::R))).mono ?_;clear hS;rintro e w ⟨rfl,hS⟩);refine rt 10 hS ?_
 repeat(first|refine zq1 ?_|refine zqN ?_|refine zqn ?_|refine qR ?_)
 clear hS;intro w hS;simp only[jD,List.drop_zero];go_wp2_with(first|((with_reducible apply Bs7 (ek:=eI) (ev:=eSs) (k:=cl) (u:=(sq,(⟨0,0,⟨0,0,0,0⟩⟩:Rpl))) hS);rfl;rfl;rfl;rfl;exact j5;(focus(rfl));exact mS;exact kEi;clear hS;intro w hS;try(refine frS ?_))|refine zlN hS ?_|refine zsN hS ?_;clear hS;intro w hS);apply Ac7;rfl;rfl;rfl;rfl;exact hS;decide +kernel;(exact x9);kernel_rfl;exact⟨_,Hok3.out,Hp3.out,rfl,J7 (hS.s (ebB eb m1 m2 m3 m4::d8 eS eN m1 _::m9 _::d8 eI eSs m2 _::d8 eW eTn m3 _::d8 eW eU m4 _::R))⟩
theorem hA4(hpk:G9 ⟨vs,ss,ts,ar⟩ ⟨3,cl,sq,ak,aw,tk,tw,it,ct,pr,bu,id⟩=(rp0,false))(hE:O6 E i)(hi:i<=1000000)(hp:(r6 E).Perm vs){r1 r2:Int}{V2:Vs}(h1:(E6 (vAt E ak) ⟨0,aw,bu,it,ct,pr⟩).1=r1)(h2:(E6 (vAt E ak) ⟨0,aw,bu,it,ct,pr⟩).2.1=r2)(h3:(E6 (vAt E ak) ⟨0,aw,bu,it,ct,pr⟩).2.2=V2)(hS:St W (ecR eb m1 m2 m3 m4 E ss ts ar R) w):
  Calls Tryz.prog 16 #[.P eb,oV 3 cl sq ak aw tk tw it ct pr bu id] w fun e w'=>∃E',O6 E' (i+1)/\(r6 E').Perm (cf4 ((ak,V2)::j9 vs ak) ak)/\e=.returned (.tuple #[rV r2 r1 0 0 0 0,.bool true]) /\
   St W (ecR eb m1 m2 m3 m4 E' ((cl,(sq,⟨r2,r1,⟨0,0,0,0⟩⟩))::j9 ss cl) (ts) (ar) R) w':=by
 have hN:100*(i+1)<=1000000000:=by omega
 have Hp:=jH hp;have HE:=jH hE;have H1:=jH h1;have H2:=jH h2;have H3:=jH h3;clear hp hE h1 h2 h3;go_enter Tryz.func16,Tryz.ntmps16;go_wp2_with(first|refine zbx hS ?_;clear hS;intro bO w hS|(fail_if_success (have:=g1));(refine zal hS ?_;clear hS;have g1:Nat:=0;intro bR w hS)|(have:=g1);(fail_if_success (have:=g2));(refine zal hS ?_;clear hS;have g2:Nat:=0;intro b6 w hS)|(have:=g2);refine zal hS ?_;clear hS;intro b8 w hS|refine zlN hS ?_|refine zsN hS ?_;clear hS;intro w hS|go_at_call 33;refine(Bk7 hpk W _ _ (hS.s (ecR eb m1 m2 m3 m4 E ss ts ar (blk bR _ _::blk bO _ _::R)))).mono ?_;clear hS;rintro e w ⟨rfl,hS⟩);have hS0:=aI4 (hS.s (ecR eb m1 m2 m3 m4 E ss ts ar (blk bO _ _::blk b8 _ _::blk b6 _ _::blk bR _ _::R)));clear hS
 refine rf3 tB16a (fun i=>i==7) (fun i=>if i==6 then some (rV r2 r1 0 0 0 0)else none)
  [⟨some 6,none,fun _=>kdR eb m1 m2 m3 m4 ((ak,V2)::j9 vs ak) ss (ts) (ar) (i+1)⟩,⟨some 7,some 8,fun nd=>k8 (nd 7) [.I 0,.I 0,.I 0,.I 0,.I 0,.I 0] 31⟩,⟨some 8,none,fun nd=>k8 (nd 7) [.I r2,.I r1,.I 0,.I 0,.I 0,.I 0] 31⟩] [some 6,none,none] hS0 ?_
 clear hS0;intro nd
 repeat(first|refine zc1 ?_|refine zcN ?_|apply Cu7;rfl;rfl;rfl;rfl;rfl;decide +kernel;(focus(simp only[fD,fI,fJ,Act.eval,fE,fF,fG,fH,fK];try rfl));intro F w hS;exact gw4 cl sq ak aw tk tw it ct pr bu id ss ts ar W w _ HE.out Hp.out H1.out H2.out H3.out hS;refine frS ?_|refine zca ?_|refine zct ?_|refine cR ?_)
 refine Ad7 ?_;intro w hS;have hS2:St W [kdR eb m1 m2 m3 m4 _ _ _ _ _,k8 _ _ _,blk bO _ _,blk b8 _ _,sats (blk b6 _ _::blk bR _ _::R)] w:=hS;clear hS;have hS:=hS2.unpack [_,_,_,_];clear hS2;simp only[jK,jN]at hS;generalize nd 7=v9 at *;obtain⟨E2,hE2,hp2,hS0⟩:=bX4 hS;clear hS;have hS:St W (k8 v9 _ _::evP eb m1 m2 m3 m4 E2::d8 eI eSs m2 ss::d8 eW eTn m3 _::d8 eW eU m4 _::blk bO _ _::blk b8 _ _::blk b6 _ _::blk bR _ _::R) w:=hS0.s _;clear hS0;have h1:=hS.ptr;clear hS;obtain⟨b9,rfl,hS⟩:=h1;have hS0:=G6 hS.swap;clear hS;have hS:=hS0;clear hS0;have hnd:(E2.map (·.1)).Nodup:=by rw[<-AV7];exact K8 hS.drop
 have hp3:=BJ7 hnd hp2 ak;have hok3:=FA7 hE2 ak;have HE2:=jH hE2;have Hp3:=jH hp3;have Hok3:=jH hok3;clear hnd hp2 hp3 hE2 hok3;go_wp2_with(first|refine zl1 hS ?_|go_at_call 43;refine(Bg7 eb m1 m2 m3 m4 E2 ak (fun x hx=>(HE2.out x hx).w) hN W _ _ (hS.s (ebB eb m1 m2 m3 m4::d8 eS eN m1 (j6 E2)::m9 E2::d8 eI eSs m2 ss::d8 eW eTn m3 _::d8 eW eU m4 _::blk b9 _ _::blk b8 _ _::blk b6 _ _::blk bR _ _::blk bO _ _::R))).mono ?_;clear hS;rintro e w ⟨rfl,hS⟩);refine rt 10 hS ?_
 repeat(first|refine zq1 ?_|refine zqN ?_|refine zqn ?_|refine qR ?_)
 clear hS;intro w hS;simp only[jD,List.drop_zero];go_wp2_with(first|((with_reducible apply Bs7 (ek:=eI) (ev:=eSs) (k:=cl) (u:=(sq,(⟨r2,r1,⟨0,0,0,0⟩⟩:Rpl))) hS);rfl;rfl;rfl;rfl;exact j5;(focus(rfl));exact mS;exact kEi;clear hS;intro w hS;try(refine frS ?_))|refine zlN hS ?_|refine zsN hS ?_;clear hS;intro w hS);apply Ac7;rfl;rfl;rfl;rfl;exact hS;decide +kernel;(exact x9);kernel_rfl;exact⟨_,Hok3.out,Hp3.out,rfl,J7 (hS.s (ebB eb m1 m2 m3 m4::d8 eS eN m1 _::m9 _::d8 eI eSs m2 _::d8 eW eTn m3 _::d8 eW eU m4 _::R))⟩
theorem hB4(hpk:G9 ⟨vs,ss,ts,ar⟩ ⟨4,cl,sq,ak,aw,tk,tw,it,ct,pr,bu,id⟩=(rp0,false))(hE:O6 E i)(hi:i<=1000000)(hp:(r6 E).Perm vs){r:Int}{V2:Vs}(h1:(F6 (vAt E ak) aw id).1=r)(h2:(F6 (vAt E ak) aw id).2=V2)(hS:St W (ecR eb m1 m2 m3 m4 E ss ts ar R) w):
  Calls Tryz.prog 16 #[.P eb,oV 4 cl sq ak aw tk tw it ct pr bu id] w fun e w'=>∃E',O6 E' (i+1)/\(r6 E').Perm (cf4 ((ak,V2)::j9 vs ak) ak)/\e=.returned (.tuple #[rV r 0 0 0 0 0,.bool true]) /\
   St W (ecR eb m1 m2 m3 m4 E' ((cl,(sq,⟨r,0,⟨0,0,0,0⟩⟩))::j9 ss cl) (ts) (ar) R) w':=by
 have hN:100*(i+1)<=1000000000:=by omega
 have Hp:=jH hp;have HE:=jH hE;have H1:=jH h1;have H2:=jH h2;clear hp hE h1 h2;go_enter Tryz.func16,Tryz.ntmps16;go_wp2_with(first|refine zbx hS ?_;clear hS;intro bO w hS|(fail_if_success (have:=g1));(refine zal hS ?_;clear hS;have g1:Nat:=0;intro bR w hS)|(have:=g1);(fail_if_success (have:=g2));(refine zal hS ?_;clear hS;have g2:Nat:=0;intro b6 w hS)|(have:=g2);refine zal hS ?_;clear hS;intro b8 w hS|refine zlN hS ?_|refine zsN hS ?_;clear hS;intro w hS|go_at_call 33;refine(Bk7 hpk W _ _ (hS.s (ecR eb m1 m2 m3 m4 E ss ts ar (blk bR _ _::blk bO _ _::R)))).mono ?_;clear hS;rintro e w ⟨rfl,hS⟩);have hS0:=aI4 (hS.s (ecR eb m1 m2 m3 m4 E ss ts ar (blk bO _ _::blk b8 _ _::blk b6 _ _::blk bR _ _::R)));clear hS
 refine rf3 tB16a (fun i=>i==7) (fun i=>if i==6 then some (rV r 0 0 0 0 0)else none)
  [⟨some 6,none,fun _=>kdR eb m1 m2 m3 m4 ((ak,V2)::j9 vs ak) ss (ts) (ar) (i+1)⟩,⟨some 7,some 8,fun nd=>k8 (nd 7) [.I 0,.I 0,.I 0,.I 0,.I 0,.I 0] 31⟩,⟨some 8,none,fun nd=>k8 (nd 7) [.I r,.I 0,.I 0,.I 0,.I 0,.I 0] 31⟩] [some 6,none,none] hS0 ?_
 clear hS0;intro nd
 repeat(first|refine zc1 ?_|refine zcN ?_|apply Cu7;rfl;rfl;rfl;rfl;rfl;decide +kernel;(focus(simp only[fD,fI,fJ,Act.eval,fE,fF,fG,fH,fK];try rfl));intro F w hS;exact gx4 cl sq ak aw tk tw it ct pr bu id ss ts ar W w _ HE.out Hp.out H1.out H2.out hS;refine frS ?_|refine zca ?_|refine zct ?_|refine cR ?_)
 refine Ad7 ?_;intro w hS;have hS2:St W [kdR eb m1 m2 m3 m4 _ _ _ _ _,k8 _ _ _,blk bO _ _,blk b8 _ _,sats (blk b6 _ _::blk bR _ _::R)] w:=hS;clear hS;have hS:=hS2.unpack [_,_,_,_];clear hS2;simp only[jK,jN]at hS;generalize nd 7=v9 at *;obtain⟨E2,hE2,hp2,hS0⟩:=bX4 hS;clear hS;have hS:St W (k8 v9 _ _::evP eb m1 m2 m3 m4 E2::d8 eI eSs m2 ss::d8 eW eTn m3 _::d8 eW eU m4 _::blk bO _ _::blk b8 _ _::blk b6 _ _::blk bR _ _::R) w:=hS0.s _;clear hS0;have h1:=hS.ptr;clear hS;obtain⟨b9,rfl,hS⟩:=h1;have hS0:=G6 hS.swap;clear hS;have hS:=hS0;clear hS0;have hnd:(E2.map (·.1)).Nodup:=by rw[<-AV7];exact K8 hS.drop
 have hp3:=BJ7 hnd hp2 ak;have hok3:=FA7 hE2 ak;have HE2:=jH hE2;have Hp3:=jH hp3;have Hok3:=jH hok3;clear hnd hp2 hp3 hE2 hok3;go_wp2_with(first|refine zl1 hS ?_|go_at_call 43;refine(Bg7 eb m1 m2 m3 m4 E2 ak (fun x hx=>(HE2.out x hx).w) hN W _ _ (hS.s (ebB eb m1 m2 m3 m4::d8 eS eN m1 (j6 E2)::m9 E2::d8 eI eSs m2 ss::d8 eW eTn m3 _::d8 eW eU m4 _::blk b9 _ _::blk b8 _ _::blk b6 _ _::blk bR _ _::blk bO _ _::R))).mono ?_;clear hS;rintro e w ⟨rfl,hS⟩);refine rt 10 hS ?_
 repeat(first|refine zq1 ?_|refine zqN ?_|refine zqn ?_|refine qR ?_)
 clear hS;intro w hS;simp only[jD,List.drop_zero];go_wp2_with(first|((with_reducible apply Bs7 (ek:=eI) (ev:=eSs) (k:=cl) (u:=(sq,(⟨r,0,⟨0,0,0,0⟩⟩:Rpl))) hS);rfl;rfl;rfl;rfl;exact j5;(focus(rfl));exact mS;exact kEi;clear hS;intro w hS;try(refine frS ?_))|refine zlN hS ?_|refine zsN hS ?_;clear hS;intro w hS);apply Ac7;rfl;rfl;rfl;rfl;exact hS;decide +kernel;(exact x9);kernel_rfl;exact⟨_,Hok3.out,Hp3.out,rfl,J7 (hS.s (ebB eb m1 m2 m3 m4::d8 eS eN m1 _::m9 _::d8 eI eSs m2 _::d8 eW eTn m3 _::d8 eW eU m4 _::R))⟩
theorem hC4(hpk:G9 ⟨vs,ss,ts,ar⟩ ⟨5,cl,sq,ak,aw,tk,tw,it,ct,pr,bu,id⟩=(rp0,false))(hE:O6 E i)(hi:i<=1000000)(hp:(r6 E).Perm vs){x0 x1 x2 x3:Int}(hx:m5 (vAt E ak).ps aw=⟨x0,x1,x2,x3⟩)(hS:St W (ecR eb m1 m2 m3 m4 E ss ts ar R) w):
  Calls Tryz.prog 16 #[.P eb,oV 5 cl sq ak aw tk tw it ct pr bu id] w fun e w'=>∃E',O6 E' (i+1)/\(r6 E').Perm (cf4 (vs) ak)/\e=.returned (.tuple #[rV 0 0 x0 x1 x2 x3,.bool true]) /\
   St W (ecR eb m1 m2 m3 m4 E' ((cl,(sq,⟨0,0,⟨x0,x1,x2,x3⟩⟩))::j9 ss cl) (ts) (ar) R) w':=by
 have hN:100*(i+1)<=1000000000:=by omega
 have Hp:=jH hp;have HE:=jH hE;have Hx:=jH hx;clear hp hE hx;go_enter Tryz.func16,Tryz.ntmps16;go_wp2_with(first|refine zbx hS ?_;clear hS;intro bO w hS|(fail_if_success (have:=g1));(refine zal hS ?_;clear hS;have g1:Nat:=0;intro bR w hS)|(have:=g1);(fail_if_success (have:=g2));(refine zal hS ?_;clear hS;have g2:Nat:=0;intro b6 w hS)|(have:=g2);refine zal hS ?_;clear hS;intro b8 w hS|refine zlN hS ?_|refine zsN hS ?_;clear hS;intro w hS|go_at_call 33;refine(Bk7 hpk W _ _ (hS.s (ecR eb m1 m2 m3 m4 E ss ts ar (blk bR _ _::blk bO _ _::R)))).mono ?_;clear hS;rintro e w ⟨rfl,hS⟩);have hS0:=aI4 (hS.s (ecR eb m1 m2 m3 m4 E ss ts ar (blk bO _ _::blk b8 _ _::blk b6 _ _::blk bR _ _::R)));clear hS
 refine rf3 tB16a (fun i=>i==7) (fun i=>if i==6 then some (rV 0 0 x0 x1 x2 x3)else none)
  [⟨some 6,none,fun _=>kdR eb m1 m2 m3 m4 (vs) ss (ts) (ar) (i+1)⟩,⟨some 7,some 8,fun nd=>k8 (nd 7) [.I 0,.I 0,.I 0,.I 0,.I 0,.I 0] 31⟩,⟨some 8,none,fun nd=>k8 (nd 7) [.I 0,.I 0,.I x0,.I x1,.I x2,.I x3] 31⟩] [some 6,none,none] hS0 ?_
 clear hS0;intro nd
 repeat(first|refine zc1 ?_|refine zcN ?_|apply Cu7;rfl;rfl;rfl;rfl;rfl;decide +kernel;(focus(simp only[fD,fI,fJ,Act.eval,fE,fF,fG,fH,fK];try rfl));intro F w hS;exact gy4 cl sq ak aw tk tw it ct pr bu id ss ts ar W w _ HE.out Hp.out Hx.out hS;refine frS ?_|refine zca ?_|refine zct ?_|refine cR ?_)
 refine Ad7 ?_;intro w hS;have hS2:St W [kdR eb m1 m2 m3 m4 _ _ _ _ _,k8 _ _ _,blk bO _ _,blk b8 _ _,sats (blk b6 _ _::blk bR _ _::R)] w:=hS;clear hS;have hS:=hS2.unpack [_,_,_,_];clear hS2;simp only[jK,jN]at hS;generalize nd 7=v9 at *;obtain⟨E2,hE2,hp2,hS0⟩:=bX4 hS;clear hS;have hS:St W (k8 v9 _ _::evP eb m1 m2 m3 m4 E2::d8 eI eSs m2 ss::d8 eW eTn m3 _::d8 eW eU m4 _::blk bO _ _::blk b8 _ _::blk b6 _ _::blk bR _ _::R) w:=hS0.s _;clear hS0;have h1:=hS.ptr;clear hS;obtain⟨b9,rfl,hS⟩:=h1;have hS0:=G6 hS.swap;clear hS;have hS:=hS0;clear hS0;have hnd:(E2.map (·.1)).Nodup:=by rw[<-AV7];exact K8 hS.drop
 have hp3:=BJ7 hnd hp2 ak;have hok3:=FA7 hE2 ak;have HE2:=jH hE2;have Hp3:=jH hp3;have Hok3:=jH hok3;clear hnd hp2 hp3 hE2 hok3;go_wp2_with(first|refine zl1 hS ?_|go_at_call 43;refine(Bg7 eb m1 m2 m3 m4 E2 ak (fun x hx=>(HE2.out x hx).w) hN W _ _ (hS.s (ebB eb m1 m2 m3 m4::d8 eS eN m1 (j6 E2)::m9 E2::d8 eI eSs m2 ss::d8 eW eTn m3 _::d8 eW eU m4 _::blk b9 _ _::blk b8 _ _::blk b6 _ _::blk bR _ _::blk bO _ _::R))).mono ?_;clear hS;rintro e w ⟨rfl,hS⟩);refine rt 10 hS ?_
 repeat(first|refine zq1 ?_|refine zqN ?_|refine zqn ?_|refine qR ?_)
 clear hS;intro w hS;simp only[jD,List.drop_zero];go_wp2_with(first|((with_reducible apply Bs7 (ek:=eI) (ev:=eSs) (k:=cl) (u:=(sq,(⟨0,0,⟨x0,x1,x2,x3⟩⟩:Rpl))) hS);rfl;rfl;rfl;rfl;exact j5;(focus(rfl));exact mS;exact kEi;clear hS;intro w hS;try(refine frS ?_))|refine zlN hS ?_|refine zsN hS ?_;clear hS;intro w hS);apply Ac7;rfl;rfl;rfl;rfl;exact hS;decide +kernel;(exact x9);kernel_rfl;exact⟨_,Hok3.out,Hp3.out,rfl,J7 (hS.s (ebB eb m1 m2 m3 m4::d8 eS eN m1 _::m9 _::d8 eI eSs m2 _::d8 eW eTn m3 _::d8 eW eU m4 _::R))⟩
theorem hD4(hpk:G9 ⟨vs,ss,ts,ar⟩ ⟨6,cl,sq,ak,aw,tk,tw,it,ct,pr,bu,id⟩=(rp0,false))(hE:O6 E i)(hi:i<=1000000)(hp:(r6 E).Perm vs)(h0:0<=it)(h4:it<4)(c0:1<=ct)(c1:ct<=1048576){q:Ps}(hq:M5 (vAt E ak).ps aw (B5 it ct)=q)(hS:St W (ecR eb m1 m2 m3 m4 E ss ts ar R) w):
  Calls Tryz.prog 16 #[.P eb,oV 6 cl sq ak aw tk tw it ct pr bu id] w fun e w'=>∃E',O6 E' (i+1)/\(r6 E').Perm (cf4 ((ak,⟨q,(vAt E ak).L,(vAt E ak).n⟩)::j9 vs ak) ak)/\e=.returned (.tuple #[rV 0 0 0 0 0 0,.bool true]) /\
   St W (ecR eb m1 m2 m3 m4 E' ss (ts) (((cl,sq),())::j9 ar (cl,sq)) R) w':=by
 have hN:100*(i+1)<=1000000000:=by omega
 have Hp:=jH hp;have HE:=jH hE;have Hq:=jH hq;clear hp hE hq;go_enter Tryz.func16,Tryz.ntmps16;go_wp2_with(first|refine zbx hS ?_;clear hS;intro bO w hS|(fail_if_success (have:=g1));(refine zal hS ?_;clear hS;have g1:Nat:=0;intro bR w hS)|(have:=g1);(fail_if_success (have:=g2));(refine zal hS ?_;clear hS;have g2:Nat:=0;intro b6 w hS)|(have:=g2);refine zal hS ?_;clear hS;intro b8 w hS|refine zlN hS ?_|refine zsN hS ?_;clear hS;intro w hS|go_at_call 33;refine(Bk7 hpk W _ _ (hS.s (ecR eb m1 m2 m3 m4 E ss ts ar (blk bR _ _::blk bO _ _::R)))).mono ?_;clear hS;rintro e w ⟨rfl,hS⟩);have hS0:=aI4 (hS.s (ecR eb m1 m2 m3 m4 E ss ts ar (blk bO _ _::blk b8 _ _::blk b6 _ _::blk bR _ _::R)));clear hS
 refine rf3 tB16a (fun i=>i==7) (fun i=>if i==6 then some (rV 0 0 0 0 0 0)else none)
  [⟨some 6,none,fun _=>kdR eb m1 m2 m3 m4 ((ak,⟨q,(vAt E ak).L,(vAt E ak).n⟩)::j9 vs ak) ss (ts) (((cl,sq),())::j9 ar (cl,sq)) (i+1)⟩,⟨some 7,some 8,fun nd=>k8 (nd 7) [.I 0,.I 0,.I 0,.I 0,.I 0,.I 0] 31⟩,⟨some 8,none,fun nd=>k8 (nd 7) [.I 0,.I 0,.I 0,.I 0,.I 0,.I 0] 31⟩] [some 6,none,none] hS0 ?_
 clear hS0;intro nd
 repeat(first|refine zc1 ?_|refine zcN ?_|apply Cu7;rfl;rfl;rfl;rfl;rfl;decide +kernel;(focus(simp only[fD,fI,fJ,Act.eval,fE,fF,fG,fH,fK];try rfl));intro F w hS;exact gz4 cl sq ak aw tk tw it ct pr bu id ss ts ar W w _ HE.out Hp.out h0 h4 c0 c1 Hq.out hS;refine frS ?_|refine zca ?_|refine zct ?_|refine cR ?_)
 refine Ad7 ?_;intro w hS;have hS2:St W [kdR eb m1 m2 m3 m4 _ _ _ _ _,k8 _ _ _,blk bO _ _,blk b8 _ _,sats (blk b6 _ _::blk bR _ _::R)] w:=hS;clear hS;have hS:=hS2.unpack [_,_,_,_];clear hS2;simp only[jK,jN]at hS;generalize nd 7=v9 at *;obtain⟨E2,hE2,hp2,hS0⟩:=bX4 hS;clear hS;have hS:St W (k8 v9 _ _::evP eb m1 m2 m3 m4 E2::d8 eI eSs m2 ss::d8 eW eTn m3 _::d8 eW eU m4 _::blk bO _ _::blk b8 _ _::blk b6 _ _::blk bR _ _::R) w:=hS0.s _;clear hS0;have h1:=hS.ptr;clear hS;obtain⟨b9,rfl,hS⟩:=h1;have hS0:=G6 hS.swap;clear hS;have hS:=hS0;clear hS0;have hnd:(E2.map (·.1)).Nodup:=by rw[<-AV7];exact K8 hS.drop
 have hp3:=BJ7 hnd hp2 ak;have hok3:=FA7 hE2 ak;have HE2:=jH hE2;have Hp3:=jH hp3;have Hok3:=jH hok3;clear hnd hp2 hp3 hE2 hok3;go_wp2_with(first|go_big_skip|refine zl1 hS ?_|refine zlN hS ?_|refine zsN hS ?_;clear hS;intro w hS|go_at_call 43;refine(Bg7 eb m1 m2 m3 m4 E2 ak (fun x hx=>(HE2.out x hx).w) hN W _ _ (hS.s (ebB eb m1 m2 m3 m4::d8 eS eN m1 (j6 E2)::m9 E2::d8 eI eSs m2 ss::d8 eW eTn m3 _::d8 eW eU m4 _::blk b9 _ _::blk b8 _ _::blk b6 _ _::blk bR _ _::blk bO _ _::R))).mono ?_;clear hS;rintro e w ⟨rfl,hS⟩)
 skip
 (apply Ac7;rfl;rfl;rfl;rfl;exact hS;decide +kernel;exact x9;kernel_rfl);exact⟨_,Hok3.out,Hp3.out,rfl,J7 (hS.s (ebB eb m1 m2 m3 m4::d8 eS eN m1 _::m9 _::d8 eI eSs m2 _::d8 eW eTn m3 _::d8 eW eU m4 _::R))⟩
theorem hE4(hpk:G9 ⟨vs,ss,ts,ar⟩ ⟨7,cl,sq,ak,aw,tk,tw,it,ct,pr,bu,id⟩=(rp0,false))(hE:O6 E i)(hi:i<=1000000)(hp:(r6 E).Perm vs)  (hS:St W (ecR eb m1 m2 m3 m4 E ss ts ar R) w):
  Calls Tryz.prog 16 #[.P eb,oV 7 cl sq ak aw tk tw it ct pr bu id] w fun e w'=>∃E',O6 E' (i+1)/\(r6 E').Perm (cf4 (vs) ak)/\e=.returned (.tuple #[rV 0 0 0 0 0 0,.bool true]) /\
   St W (ecR eb m1 m2 m3 m4 E' ss (j9 ts (cl,sq)) (ar) R) w':=by
 have hN:100*(i+1)<=1000000000:=by omega
 have Hp:=jH hp;have HE:=jH hE;clear hp hE;go_enter Tryz.func16,Tryz.ntmps16;go_wp2_with(first|refine zbx hS ?_;clear hS;intro bO w hS|(fail_if_success (have:=g1));(refine zal hS ?_;clear hS;have g1:Nat:=0;intro bR w hS)|(have:=g1);(fail_if_success (have:=g2));(refine zal hS ?_;clear hS;have g2:Nat:=0;intro b6 w hS)|(have:=g2);refine zal hS ?_;clear hS;intro b8 w hS|refine zlN hS ?_|refine zsN hS ?_;clear hS;intro w hS|go_at_call 33;refine(Bk7 hpk W _ _ (hS.s (ecR eb m1 m2 m3 m4 E ss ts ar (blk bR _ _::blk bO _ _::R)))).mono ?_;clear hS;rintro e w ⟨rfl,hS⟩);have hS0:=aI4 (hS.s (ecR eb m1 m2 m3 m4 E ss ts ar (blk bO _ _::blk b8 _ _::blk b6 _ _::blk bR _ _::R)));clear hS
 refine rf3 tB16a (fun i=>i==7) (fun i=>if i==6 then some (rV 0 0 0 0 0 0)else none)
  [⟨some 6,none,fun _=>kdR eb m1 m2 m3 m4 (vs) ss (j9 ts (cl,sq)) (ar) (i+1)⟩,⟨some 7,some 8,fun nd=>k8 (nd 7) [.I 0,.I 0,.I 0,.I 0,.I 0,.I 0] 31⟩,⟨some 8,none,fun nd=>k8 (nd 7) [.I 0,.I 0,.I 0,.I 0,.I 0,.I 0] 31⟩] [some 6,none,none] hS0 ?_
 clear hS0;intro nd
 repeat(first|refine zc1 ?_|refine zcN ?_|apply Cu7;rfl;rfl;rfl;rfl;rfl;decide +kernel;(focus(simp only[fD,fI,fJ,Act.eval,fE,fF,fG,fH,fK];try rfl));intro F w hS;exact gA4 cl sq ak aw tk tw it ct pr bu id ss ts ar W w _ HE.out Hp.out hS;refine frS ?_|refine zca ?_|refine zct ?_|refine cR ?_)
 refine Ad7 ?_;intro w hS;have hS2:St W [kdR eb m1 m2 m3 m4 _ _ _ _ _,k8 _ _ _,blk bO _ _,blk b8 _ _,sats (blk b6 _ _::blk bR _ _::R)] w:=hS;clear hS;have hS:=hS2.unpack [_,_,_,_];clear hS2;simp only[jK,jN]at hS;generalize nd 7=v9 at *;obtain⟨E2,hE2,hp2,hS0⟩:=bX4 hS;clear hS;have hS:St W (k8 v9 _ _::evP eb m1 m2 m3 m4 E2::d8 eI eSs m2 ss::d8 eW eTn m3 _::d8 eW eU m4 _::blk bO _ _::blk b8 _ _::blk b6 _ _::blk bR _ _::R) w:=hS0.s _;clear hS0;have h1:=hS.ptr;clear hS;obtain⟨b9,rfl,hS⟩:=h1;have hS0:=G6 hS.swap;clear hS;have hS:=hS0;clear hS0;have hnd:(E2.map (·.1)).Nodup:=by rw[<-AV7];exact K8 hS.drop
 have hp3:=BJ7 hnd hp2 ak;have hok3:=FA7 hE2 ak;have HE2:=jH hE2;have Hp3:=jH hp3;have Hok3:=jH hok3;clear hnd hp2 hp3 hE2 hok3;go_wp2_with(first|refine zl1 hS ?_|refine zlN hS ?_|refine zsN hS ?_;clear hS;intro w hS|go_at_call 43;refine(Bg7 eb m1 m2 m3 m4 E2 ak (fun x hx=>(HE2.out x hx).w) hN W _ _ (hS.s (ebB eb m1 m2 m3 m4::d8 eS eN m1 (j6 E2)::m9 E2::d8 eI eSs m2 ss::d8 eW eTn m3 _::d8 eW eU m4 _::blk b9 _ _::blk b8 _ _::blk b6 _ _::blk bR _ _::blk bO _ _::R))).mono ?_;clear hS;rintro e w ⟨rfl,hS⟩)
 skip
 (apply Ac7;rfl;rfl;rfl;rfl;exact hS;decide +kernel;exact x9;kernel_rfl);exact⟨_,Hok3.out,Hp3.out,rfl,J7 (hS.s (ebB eb m1 m2 m3 m4::d8 eS eN m1 _::m9 _::d8 eI eSs m2 _::d8 eW eTn m3 _::d8 eW eU m4 _::R))⟩
end
def EOk(e:Ec)(i:Nat):Prop:=∀x∈e.vs,VOk x.2.ps x.2.n i
theorem fV4(i:Nat):EOk ec0 i:=fun _ h=>(by cases h)
theorem Vf7{E:Ev}{e:Ec}{i:Nat}(h:EOk e i)(hp:(r6 E).Perm e.vs):O6 E i:=fun x hx=>h (x.1,x.2.2) (hp.mem_iff.1 (List.mem_map.2 ⟨x,hx,rfl⟩))
theorem Vg7{E:Ev}{e:Ec}{i:Nat}(h:O6 E i)(hp:(r6 E).Perm e.vs):EOk e i:=fun y hy=>by obtain⟨x,hx,rfl⟩:=List.mem_map.1 (hp.mem_iff.2 hy);exact h x hx
theorem BC7{e:Ec}{o:Opn}{r:Rpl}(h:G9 e o=(r,false)):r=rp0/\C5 o=true:=by
 unfold G9 at h;split at h
 ·cases h
 ·rename_i hm
  refine⟨?_,by simpa using hm⟩;split at h
  ·exact(congrArg Prod.fst h).symm
  ·split at h
   ·exact(congrArg Prod.fst h).symm
   ·split at h
    ·exact(congrArg Prod.fst h).symm
    ·split at h
     ·cases h
     ·split at h
      ·cases h
      ·exact(congrArg Prod.fst h).symm
theorem CU7{e:Ec}{o:Opn}{r:Rpl}(h:G9 e o=(r,true)):M8 e o=(r,false,e):=by unfold M8;rw[h];rfl
theorem CV7{e:Ec}{o:Opn}(h:G9 e o=(rp0,false)):M8 e o=((doV (atV e o.ak) o).1,true,⟨(bL4 e o.ak (doV (atV e o.ak) o).2).vs,doS e o (doV (atV e o.ak) o).1,doT e o (doV (atV e o.ak) o).1,doA e o⟩):=by unfold M8;rw[h];rfl
theorem Dl7{o:Opn}(h:N6 o=true):0<=o.item/\o.item<4/\1<=o.cnt/\o.cnt<=1048576:=by unfold N6 at h;simpa using h
section
variable{W w:World}{R:List HP}{eb m1 m2 m3 m4:Nat}{E:Ev}{i:Nat}{e:Ec}
theorem Cv7{vs:List (ByteArray×Vs)}{ss:List (Int×(Int×Rpl))}{ts:List ((Int×Int)×Tns)}{ar:List ((Int×Int)×Unit)}(hok:O6 E i)(hp:(r6 E).Perm vs)(hS:St W (ecR eb m1 m2 m3 m4 E ss ts ar R) w):EOk ⟨vs,ss,ts,ar⟩ i/\St W (ecP eb ⟨vs,ss,ts,ar⟩::R) w:=
 ⟨Vg7 (e:=⟨vs,ss,ts,ar⟩) hok hp,S8 (e:=⟨vs,ss,ts,ar⟩) hp (G6 hS)⟩
theorem av4(h:St W (ecP eb e::R) w):∃m1 m2 m3 m4 E,(r6 E).Perm e.vs/\(E.map (·.1)).Nodup/\St W (ecR eb m1 m2 m3 m4 E e.ss e.ts e.ar R) w:=by obtain⟨m1,m2,m3,m4,E,hp,h⟩:=cN4 h;exact⟨m1,m2,m3,m4,E,hp,by rw[<-AV7];exact K8 h.drop,J7 h⟩
theorem Ip7(hn:(E.map (·.1)).Nodup)(hp:(r6 E).Perm e.vs)(k:ByteArray):atV e k=vAt E k:=by unfold atV vAt;rw[Vd7 hn hp]
end
theorem Mi7{eb:Nat}{e:Ec}(k u:ByteArray){x0 x1 x2 x3:Int}(hx:m5 (atV e k).ps u=⟨x0,x1,x2,x3⟩)(W w:World)(R:List HP)(hS:St W (ecP eb e::R) w):
  Calls Tryz.prog 18 #[.P eb,.agg #[.string k,.string u]] w fun x w'=>x=.returned (.agg #[.I x0,.I x1,.I x2,.I x3])/\St W (ecP eb e::R) w':=by
 obtain⟨m1,m2,m3,m4,E,hp,hn,hS⟩:=av4 hS;rw[Ip7 hn hp]at hx;refine(Mh7 k u hx W w _ hS).mono ?_;rintro x w' ⟨rfl,hS⟩;exact⟨rfl,S8 hp (G6 hS)⟩
theorem RI7{eb:Nat}{e:Ec}{i:Nat}(hE:EOk e i)(hi:i<=1000000)(kd cl sq:Int)(ak aw tk tw:ByteArray)(it ct pr:Int)(bu:Bool)(id:Int)(W w:World)(R:List HP)(hS:St W (ecP eb e::R) w):
  Calls Tryz.prog 16 #[.P eb,oV kd cl sq ak aw tk tw it ct pr bu id] w fun x w'=>EOk (M8 e ⟨kd,cl,sq,ak,aw,tk,tw,it,ct,pr,bu,id⟩).2.2 (i+1) /\
   x=.returned (.tuple #[rV (M8 e ⟨kd,cl,sq,ak,aw,tk,tw,it,ct,pr,bu,id⟩).1.err (M8 e ⟨kd,cl,sq,ak,aw,tk,tw,it,ct,pr,bu,id⟩).1.id (M8 e ⟨kd,cl,sq,ak,aw,tk,tw,it,ct,pr,bu,id⟩).1.has.x0 (M8 e ⟨kd,cl,sq,ak,aw,tk,tw,it,ct,pr,bu,id⟩).1.has.x1 (M8 e ⟨kd,cl,sq,ak,aw,tk,tw,it,ct,pr,bu,id⟩).1.has.x2 (M8 e ⟨kd,cl,sq,ak,aw,tk,tw,it,ct,pr,bu,id⟩).1.has.x3,.bool (M8 e ⟨kd,cl,sq,ak,aw,tk,tw,it,ct,pr,bu,id⟩).2.1]) /\
   St W (ecP eb (M8 e ⟨kd,cl,sq,ak,aw,tk,tw,it,ct,pr,bu,id⟩).2.2::R) w':=by
 obtain⟨m1,m2,m3,m4,E,hp,hn,hS⟩:=av4 hS;have hEv:=Vf7 hE hp;have hV:=Ip7 hn hp ak;have hnv:(e.vs.map (·.1)).Nodup:=by rw[<-BA7]at hn;exact(hp.map (·.1)).nodup_iff.1 hn
 cases hpk:G9 e ⟨kd,cl,sq,ak,aw,tk,tw,it,ct,pr,bu,id⟩with
 | mk r k=>
 cases k with
 | true=>
  rw[CU7 hpk];refine(TZ7 (vs:=e.vs) kd cl sq ak aw tk tw it ct pr bu id e.ss e.ts e.ar W w R hpk hS).mono ?_;rintro x w' ⟨rfl,hS⟩;exact⟨fun x hx=>(hE x hx).on,rfl,S8 hp (G6 hS)⟩
 | false=>
  obtain⟨rfl,hm⟩:=BC7 hpk;have hap:=CV7 hpk;dsimp only at hap;rw[hV]at hap;have hm2:M7 ⟨kd,cl,sq,ak,aw,tk,tw,it,ct,pr,bu,id⟩=true:=by unfold C5 at hm;exact(jB _ _▸hm).2
  have hk:kd=1\/kd=2\/kd=3\/kd=4\/kd=5\/kd=6\/kd=7:=by
   unfold M7 at hm2;dsimp only at hm2
   repeat' split at hm2
   all_goals first|omega|cases hm2
  have hs:∀V,(cf4 ((ak,V)::j9 e.vs ak) ak).Perm (bL4 e ak V).vs:=fun V=>by rw[RH7]
  have hsame:(cf4 e.vs ak).Perm (bL4 e ak (vAt E ak)).vs:=by rw[<-hV];exact Pr7 e ak hnv
  rcases hk with rfl|rfl|rfl|rfl|rfl|rfl|rfl
  ·have hm3:B9 ⟨1,cl,sq,ak,aw,tk,tw,it,ct,pr,bu,id⟩=true:=hm2;have hc:N6 ⟨1,cl,sq,ak,aw,tk,tw,it,ct,pr,bu,id⟩=true:=by unfold B9 at hm3;exact(jB _ _▸hm3).1
   obtain⟨h0,h4,c0,c1⟩:=Dl7 hc;refine(hz4 (vs:=e.vs) cl sq ak aw tk tw it ct pr bu id e.ss e.ts e.ar W w R hpk hEv hi hp h0 h4 c0 c1 rfl rfl hS).mono ?_;rintro x w' ⟨E',h1,h2,rfl,hS⟩;rw[hap];obtain⟨h3,h5⟩:=Cv7 h1 (h2.trans (hs _)) hS;exact⟨h3,rfl,h5⟩
  ·have hm3:R6 ⟨2,cl,sq,ak,aw,tk,tw,it,ct,pr,bu,id⟩=true:=hm2;have hc:N6 ⟨2,cl,sq,ak,aw,tk,tw,it,ct,pr,bu,id⟩=true:=by unfold R6 at hm3;exact(jB _ _▸(jB _ _▸hm3).2).1
   obtain⟨h0,h4,c0,c1⟩:=Dl7 hc;by_cases hr:A5 (vAt E ak).ps aw (B5 it ct)=0
   ·have hd:doT e ⟨2,cl,sq,ak,aw,tk,tw,it,ct,pr,bu,id⟩ (doV (vAt E ak) ⟨2,cl,sq,ak,aw,tk,tw,it,ct,pr,bu,id⟩).1=((cl,sq),⟨cl,sq,ak,aw,tk,tw,it,ct⟩)::j9 e.ts (cl,sq):=if_pos ⟨rfl,hr⟩
    have hv:(doV (vAt E ak) ⟨2,cl,sq,ak,aw,tk,tw,it,ct,pr,bu,id⟩).1=rp0:=by
     show(⟨A5 (vAt E ak).ps aw (B5 it ct),0,it0⟩:Rpl)=rp0
     rw[hr]
    rw[hd,hv]at hap;refine(gC4 (vs:=e.vs) cl sq ak aw tk tw it ct pr bu id e.ss e.ts e.ar W w R hpk hEv hi hp h0 h4 c0 c1 hr rfl hS).mono ?_;rintro x w' ⟨E',h1,h2,rfl,hS⟩;rw[hap];obtain⟨h3,h5⟩:=Cv7 h1 (h2.trans (hs _)) hS;exact⟨h3,rfl,h5⟩
   ·have hd:doT e ⟨2,cl,sq,ak,aw,tk,tw,it,ct,pr,bu,id⟩ (doV (vAt E ak) ⟨2,cl,sq,ak,aw,tk,tw,it,ct,pr,bu,id⟩).1=e.ts:=(if_neg (fun h=>hr h.2)).trans (if_neg (by show ¬((2:Int)=7);decide));rw[hd]at hap;refine(gB4 (vs:=e.vs) cl sq ak aw tk tw it ct pr bu id e.ss e.ts e.ar W w R hpk hEv hi hp h0 h4 c0 c1 rfl (by simpa using hr) rfl hS).mono ?_;rintro x w' ⟨E',h1,h2,rfl,hS⟩;rw[hap];obtain⟨h3,h5⟩:=Cv7 h1 (h2.trans (hs _)) hS;exact⟨h3,rfl,h5⟩
  ·skip
   refine(hA4 (vs:=e.vs) cl sq ak aw tk tw it ct pr bu id e.ss e.ts e.ar W w R hpk hEv hi hp rfl rfl rfl hS).mono ?_;rintro x w' ⟨E',h1,h2,rfl,hS⟩;rw[hap];obtain⟨h3,h5⟩:=Cv7 h1 (h2.trans (hs _)) hS;exact⟨h3,rfl,h5⟩
  ·skip
   refine(hB4 (vs:=e.vs) cl sq ak aw tk tw it ct pr bu id e.ss e.ts e.ar W w R hpk hEv hi hp rfl rfl hS).mono ?_;rintro x w' ⟨E',h1,h2,rfl,hS⟩;rw[hap];obtain⟨h3,h5⟩:=Cv7 h1 (h2.trans (hs _)) hS;exact⟨h3,rfl,h5⟩
  ·skip
   refine(hC4 (vs:=e.vs) cl sq ak aw tk tw it ct pr bu id e.ss e.ts e.ar W w R hpk hEv hi hp rfl hS).mono ?_;rintro x w' ⟨E',h1,h2,rfl,hS⟩;rw[hap];obtain⟨h3,h5⟩:=Cv7 h1 (h2.trans hsame) hS;exact⟨h3,rfl,h5⟩
  ·have hm3:B9 ⟨6,cl,sq,ak,aw,tk,tw,it,ct,pr,bu,id⟩=true:=hm2;have hc:N6 ⟨6,cl,sq,ak,aw,tk,tw,it,ct,pr,bu,id⟩=true:=by unfold B9 at hm3;exact(jB _ _▸hm3).1
   obtain⟨h0,h4,c0,c1⟩:=Dl7 hc;refine(hD4 (vs:=e.vs) cl sq ak aw tk tw it ct pr bu id e.ss e.ts e.ar W w R hpk hEv hi hp h0 h4 c0 c1 rfl hS).mono ?_;rintro x w' ⟨E',h1,h2,rfl,hS⟩;rw[hap];obtain⟨h3,h5⟩:=Cv7 h1 (h2.trans (hs _)) hS;exact⟨h3,rfl,h5⟩
  ·skip
   refine(hE4 (vs:=e.vs) cl sq ak aw tk tw it ct pr bu id e.ss e.ts e.ar W w R hpk hEv hi hp hS).mono ?_;rintro x w' ⟨E',h1,h2,rfl,hS⟩;rw[hap];obtain⟨h3,h5⟩:=Cv7 h1 (h2.trans hsame) hS;exact⟨h3,rfl,h5⟩
theorem Iq7{eb:Nat}{e e2:Ec}{i:Nat}{r:Rpl}{b:Bool}(hE:EOk e i)(hi:i<=1000000){kd cl sq:Int}{ak aw tk tw:ByteArray}{it ct pr:Int}{bu:Bool}{id:Int}(h:M8 e ⟨kd,cl,sq,ak,aw,tk,tw,it,ct,pr,bu,id⟩=(r,b,e2))(W w:World)(R:List HP)(hS:St W (ecP eb e::R) w):
  Calls Tryz.prog 16 #[.P eb,oV kd cl sq ak aw tk tw it ct pr bu id] w fun x w'=>EOk e2 (i+1)/\x=.returned (.tuple #[rV r.err r.id r.has.x0 r.has.x1 r.has.x2 r.has.x3,.bool b])/\St W (ecP eb e2::R) w':=by
 have h1:=RI7 hE hi kd cl sq ak aw tk tw it ct pr bu id W w R hS;rw[h]at h1;exact h1
abbrev kA:ByteArray:=⟨#[97]⟩
abbrev kX:ByteArray:=⟨#[120]⟩
abbrev kB:ByteArray:=⟨#[98]⟩
abbrev kY:ByteArray:=⟨#[121]⟩
abbrev kN:ByteArray:=⟨#[]⟩
abbrev ih4(last:Int):Opn:=⟨1,7,last,kA,kX,kN,kN,0,3,0,false,0⟩
abbrev ii4(now:Int):Opn:=⟨5,7,now,kA,kX,kN,kN,0,0,0,false,0⟩
abbrev ij4(last:Int):Ec:=⟨[(kA,⟨[(kX,⟨3,0,0,0⟩)],[],1⟩)],[(7,(last,rp0))],[],[]⟩
abbrev knO:Opn:=⟨1,1,1,kA,kX,kN,kN,0,5,0,false,0⟩
abbrev kn1:Ec:=⟨[(kA,⟨[(kX,⟨5,0,0,0⟩)],[],1⟩)],[(1,(1,rp0))],[],[]⟩
theorem Vh7:M8 ec0 knO=(rp0,true,kn1):=by kernel_rfl
theorem RJ7:M8 kn1 knO=(rp0,false,kn1):=by kernel_rfl
theorem gD4:m5 (atV kn1 kA).ps kX=⟨5,0,0,0⟩:=by kernel_rfl
def hF4(W:World)(L:List HP)(n:Nat)(v:Value)(w:World):Prop:=∃i:Nat,v=.I i/\i<=n/\St W L w
theorem EC7{L:List HP}(xs:List Opn)(a:Option Addr)(cap:Nat)(h63:xs.length<=9223372036854775807)(hat:∀i (h:i<xs.length), ∃b off,a=some ⟨b,off,none⟩/\∀j v,(xs[i]).cells[j]? = some v->i9 L b (off+i*12+j) v)(W w:World)(hS:St W L w):
  Calls Tryz.prog 20 #[.slice a xs.length cap] w fun e w'=>∃h:Bool,(h=false->xs.length<=150)/\e=.returned (.bool h)/\St W L w':=by
 have Hat:=jH hat
 clear hat
 go_enter Tryz.func20,Tryz.ntmps20;by_cases h150:150<xs.length
 ·have d0:((150:Nat):Int)<(xs.length:Int):=by omega
  go_wp2_with(fail);go_ret;exact⟨_,fun h=>(by cases h),rfl,hS⟩
 have d0:decide ((150:Int)<(xs.length:Int))=false:=by simp;omega
 go_wp2_with(fail)
 go_loopw [3] (fun v wr=>hF4 W L xs.length v wr) (fun v _=>xs.length-(intOf v).toNat)
 case atStart=>exact⟨0,rfl,by omega,hS⟩
 case round=>
  clear hS;obtain⟨i,rfl,hi,hS⟩:=hrel;by_cases hend:i=xs.length
  ·subst hend;have d1:decide ((xs.length:Int)<(xs.length:Int))=false:=by simp
   go_wp2_with(fail);go_ret;exact⟨_,fun _=>by omega,rfl,hS⟩
  have hil:i<xs.length:=by omega
  clear hend hi;obtain⟨pb,poff,rfl,hA⟩:=Hat.out i hil;have c3:=hA 3 _ rfl;have c4:=hA 4 _ rfl;have c5:=hA 5 _ rfl;have c6:=hA 6 _ rfl;clear hA;generalize xs[i]=x at c3 c4 c5 c6;obtain⟨kd,cl,sq,ak,aw,tk,tw,it,ct,pr,bu,id⟩:=x;simp only at c3 c4 c5 c6;by_cases h1:60<ak.size
  ·have d1:(60:Int)<(ak.size:Int):=by omega
   go_wp2_with(first|refine zl1 hS ?_);go_ret;exact⟨_,fun h=>(by cases h),rfl,hS⟩
  have d1:decide ((60:Int)<(ak.size:Int))=false:=by simp;omega
  by_cases h2:60<aw.size
  ·have d2:(60:Int)<(aw.size:Int):=by omega
   go_wp2_with(first|refine zl1 hS ?_);go_ret;exact⟨_,fun h=>(by cases h),rfl,hS⟩
  have d2:decide ((60:Int)<(aw.size:Int))=false:=by simp;omega
  by_cases h3:60<tk.size
  ·have d3:(60:Int)<(tk.size:Int):=by omega
   go_wp2_with(first|refine zl1 hS ?_);go_ret;exact⟨_,fun h=>(by cases h),rfl,hS⟩
  have d3:decide ((60:Int)<(tk.size:Int))=false:=by simp;omega
  by_cases h4:60<tw.size
  ·have d4:(60:Int)<(tw.size:Int):=by omega
   go_wp2_with(first|refine zl1 hS ?_);go_ret;exact⟨_,fun h=>(by cases h),rfl,hS⟩
  have d4:decide ((60:Int)<(tw.size:Int))=false:=by simp;omega
  go_wp2_with(first|refine zl1 hS ?_);go_roundw
  case rel=>exact⟨i+1,rfl,hil,hS⟩
  case measure=>simp[intOf];try omega
theorem Ir7{r0 r1 r2 r3 r4 r5 q0 q1 q2 q3 q4 q5:Int}{b:Bool}(h:Rpl.eqB ⟨r0,r1,⟨r2,r3,r4,r5⟩⟩ ⟨q0,q1,⟨q2,q3,q4,q5⟩⟩=b)(w:World):(Op.equalIn 10000 31 (rV r0 r1 r2 r3 r4 r5) (rV q0 q1 q2 q3 q4 q5)).run Tryz.prog w=.ok b w:=h▸gs4 ⟨r0,r1,⟨r2,r3,r4,r5⟩⟩ ⟨q0,q1,⟨q2,q3,q4,q5⟩⟩ w
theorem KM7(W w:World)(R:List HP)(hS:St W R w):
  Calls Tryz.prog 14 #[] w fun e w'=>e=.returned (.bool true)/\St W R w':=by
 go_enter Tryz.func14,Tryz.ntmps14;go_wp2_with(first|go_at_call 15;refine(GL7 W _ _ hS).mono ?_;clear hS;rintro e w ⟨eb,rfl,hS⟩|(fail_if_success (have:=q1));(refine zal hS ?_;clear hS;have q1:Nat:=0;intro b1 w hS)|(have:=q1);(fail_if_success (have:=q2));(refine zal hS ?_;clear hS;have q2:Nat:=0;intro b2 w hS)|(have:=q2);refine zal hS ?_;clear hS;intro b3 w hS|refine zlN hS ?_|refine zlN hS ?_ (vs:=[.string kA,.string kX]) (hc:=by first|exact i8.here rfl|exact i8.there (i8.here rfl)|exact i8.there (i8.there (i8.here rfl))|exact i8.there (i8.there (i8.there (i8.here rfl))))|refine zsN hS ?_;clear hS;intro w hS|(fail_if_success (have:=gA));go_at_call 16;refine(Iq7 (fV4 0) (by decide) Vh7 W _ _ (hS.s (ecP eb ec0::blk b1 _ _::R))).mono ?_;clear hS;have gA:Nat:=0;rintro e w ⟨hok,rfl,hS⟩;have Hok:=jH hok;clear hok|(have:=gA);go_at_call 16;refine(Iq7 Hok.out (by decide) RJ7 W _ _ (hS.s (ecP eb (kn1)::blk b2 _ _::blk b1 _ _::R))).mono ?_;clear hS;rintro e w ⟨_,rfl,hS⟩|(with_reducible apply Co7);rfl;rfl;rfl;rfl;kernel_rfl;exact Ir7 (rfl:Rpl.eqB ⟨0,0,⟨0,0,0,0⟩⟩ ⟨0,0,⟨0,0,0,0⟩⟩=true);refine frS ?_|(with_reducible apply Co7);rfl;rfl;rfl;rfl;kernel_rfl;exact eqI _ _ _ _ _ _ _ _;refine frS ?_|go_at_call 18;refine(Mi7 kA kX gD4 W _ _ (hS.s (ecP eb kn1::blk b3 _ _::blk b2 _ _::blk b1 _ _::R))).mono ?_;clear hS;rintro e w ⟨rfl,hS⟩);go_ret;exact⟨rfl,hS.drop.drop.drop.drop⟩
abbrev sM(n:Int):Opn:=⟨1,1,1,kA,kX,kN,kN,0,n,0,false,0⟩
abbrev sS(c:Int):Opn:=⟨2,1,2,kA,kX,kB,kY,0,c,0,false,0⟩
abbrev sA(c:Int):Opn:=⟨6,1,2,kB,kY,kN,kN,0,c,0,false,0⟩
abbrev sD:Opn:=⟨7,1,2,kA,kX,kN,kN,0,0,0,false,0⟩
section
variable{n c:Int}
abbrev s1(n:Int):Ec:=⟨[(kA,⟨[(kX,⟨n,0,0,0⟩)],[],1⟩)],[(1,(1,rp0))],[],[]⟩
abbrev s2n(n:Int):Ec:=⟨[(kA,⟨[(kX,⟨n,0,0,0⟩)],[],1⟩)],[(1,(2,⟨14,0,it0⟩))],[],[]⟩
abbrev qS(n c:Int):Ps:=K7 [(kX,⟨n,0,0,0⟩)] kX ⟨n-c,0,0,0⟩
abbrev s2(n c:Int):Ec:=⟨(bL4 (s1 n) kA ⟨qS n c,[],1⟩).vs,[(1,(2,rp0))],[((1,2),dp4 (sS c))],[]⟩
abbrev s3(n c:Int):Ec:=⟨(bL4 (s2 n c) kB ⟨[(kY,⟨c,0,0,0⟩)],[],1⟩).vs,[(1,(2,rp0))],[((1,2),dp4 (sS c))],[((1,2),())]⟩
abbrev s4(n c:Int):Ec:=⟨(bL4 (s3 n c) kA (atV (s3 n c) kA)).vs,[(1,(2,rp0))],[],[((1,2),())]⟩
end
theorem JG7{eb:Nat}{e:Ec}(cl sq:Int){b:Bool}(hb:(m7 e.ar (cl,sq)).isSome=b)(W w:World)(R:List HP)(hS:St W (ecP eb e::R) w):
  Calls Tryz.prog 19 #[.P eb,.I cl,.I sq] w fun x w'=>x=.returned (.bool b)/\St W (ecP eb e::R) w':=by
 obtain⟨m1,m2,m3,m4,E,hp,hn,hS⟩:=av4 hS;have hS1:=G6 hS;clear hS;have hS:=hS1;clear hS1;have Hp:=jH hp;clear hp hn
 cases hg:m7 e.ar (cl,sq)with
 | none=>
  rw[hg]at hb;obtain rfl:false=b:=hb;go_enter Tryz.func19,Tryz.ntmps19;go_wp2_with(first|go_big_skip|refine zl1 hS ?_|(with_reducible apply Gl7 (ek:=eW) (ev:=eU) (k:=(cl,sq)) hS);rfl;rfl;rfl;rfl;exact j5;exact mAr;exact kW;exact zA;exact hg;refine frS ?_);go_ret;exact⟨rfl,S8 Hp.out (hS.s _)⟩
 | some u=>
  rw[hg]at hb;obtain rfl:true=b:=hb;go_enter Tryz.func19,Tryz.ntmps19;go_wp2_with(first|go_big_skip|refine zl1 hS ?_|(with_reducible apply CE7 (ek:=eW) (ev:=eU) (k:=(cl,sq)) hS);rfl;rfl;rfl;rfl;exact j5;exact mAr;exact kW;exact zA;exact hg;refine frS ?_);go_ret;exact⟨rfl,S8 Hp.out (hS.s _)⟩
end Go.Proofs.YtlmhakmoioogaaaGreat
end
section
namespace Go.Sl
open Go.RowKit
section
variable{κ ν:Type}{F:Fence}{n:Nat}{P:Program}{W w:World}{L R:List HP}{ops:Array Oper}{rest:List Oper}{o:Oper}{a:Act}{Q:Exit->Act->World->Prop}{ek:κ->Value}{ev:ν->Value}{b r:Nat}{l todo:List (κ×ν)}{t K E:TypeId}
theorem Fp7(hS:St W L w){x:Operand}(hg:o.guard=none)(hop:o.op=Op.range t x)(hx:a.eval x=.map (some b))(ht:I9 P t=some (K,E))(hu:Take L (d8 ek ev b l) R)
  (h:∀r w',St W (itR ek ev r b l l::R) w'->wpListIn F n P ops Q rest (a.put o.dst (.P r)) w'):wpListIn F n P ops Q (o::rest) a w:=by
 obtain⟨r,w',hr,hS'⟩:=Hq7 (P:=P) (hS.take hu) ht;refine wpListIn_plain hg fun K' hK'=>?_
 unfold Oper.wpIn;refine⟨?_,?_⟩
 ·simp[Oper.about,hop]
 ·rw[Oper.semAt_plain F _ _ (by rw[hop];intro c hc';cases hc')];simp[execOp,hop,hx,hr,Result.andThen];exact hK' _ _ (h r w' hS')
theorem GN7(hS:St W (itR ek ev r b l todo::L) w){x:Operand}(hg:o.guard=none)(hop:o.op=Op.next x false)(hx:a.eval x=.P r)
  (h0:todo=[]->wpListIn F n P ops Q rest (a.put o.dst (.tuple #[.bool false])) w)
  (h1:∀y todo' w',todo.Perm (y::todo')->y∈l->St W (itR ek ev r b l todo'::L) w'->(Instr.entry (.P r)).run P w'=.ok (.tuple #[ek y.1,ev y.2]) w'->wpListIn F n P ops Q rest (a.put o.dst (.tuple #[.bool true,ek y.1,ev y.2])) w'):
  wpListIn F n P ops Q (o::rest) a w:=by
 refine wpListIn_plain hg fun K' hK'=>?_
 unfold Oper.wpIn;refine⟨by simp[Oper.about,hop],?_⟩;rw[Oper.semAt_plain F _ _ (by rw[hop];intro c hc';cases hc')]
 rcases IP7 (P:=P) (ty:=o.type) hS with ⟨h2,hr⟩|⟨y,todo',hp,hy,w',hr,hS'⟩
 ·simp[execOp,hop,hx,hr,Result.andThen];exact hK' _ _ (h0 h2)
 ·simp[execOp,hop,hx,hr,Result.andThen];exact hK' _ _ (h1 y todo' w' hp hy (fp4 hS') (Hr7 hS'))
theorem HF7{s x:Operand}{e:TypeId}{z:Value}{k bytes:Nat}{v xv:Value}{m1 m:Nat}{cs news:List Value}(hS:St W L w)(hg:o.guard=none)(hop:o.op=.call { callee:=.builtin .append,args:=#[s,x],argTypes:=#[t,t] })
  (hs:a.eval s=v) (hx:a.eval x=xv) (ht:C7 P t=some e) (hi:F9 P e=some (some z,k,bytes)) (hz:z.cells.size=k) (hk:0<k) (hu:Take L (row v k e m1 cs) R) (hsrc:ds4 w xv m news) (hl:news.length=m*k) (h1:news.all (·.oneCell')=true) (h63:m1+m<=maxLen)
  (hb:(m1+m)*bytes<=140737488355328)
  (h:∀v' w',St W (row v' k e (m1+m) (cs++news)::R) w'->wpListIn F n P ops Q rest (a.put o.dst v') w'):wpListIn F n P ops Q (o::rest) a w:=by
 refine wpListIn_plain hg fun K' hK'=>?_
 unfold Oper.wpIn;obtain⟨v',w',hr,hS'⟩:=Dq7 (P:=P) (ty:=o.type) ht hi hz hk rfl hS hu hsrc hl h1 h63 hb;refine⟨by simp[Oper.about,hop,resolve,Target.leads,Sem.run_pure],?_⟩;rw[Oper.semAt_plain F _ _ (by rw[hop];intro c hc';cases hc')];simp[execOp,hop,resolve,invoke,builtin,hs,hx,hr,Result.andThen];exact hK' _ _ (h v' w' hS')
theorem GO7(hF:∀f,F.fn f)(hg:o.guard=none)(hpl:∀c,o.op ≠ .defer c){v:Value}{w':World}(hr:(execOp a.eval o).run P w=.ok (.value v) w')(h:wpListIn F n P ops Q rest (a.put o.dst v) w'):wpListIn F n P ops Q (o::rest) a w:=by
 refine wpListIn_plain hg fun K' hK'=>?_
 unfold Oper.wpIn;refine⟨fun f _=>hF f,?_⟩;rw[Oper.semAt_plain F _ _ hpl,hr];exact hK' _ _ h
theorem RK7(hF:∀f,F.fn f)(hg:o.guard=none)(hpl:∀c,o.op ≠ .defer c){w':World}(hr:(execOp a.eval o).run P w=.ok .skip w')(h:wpListIn F n P ops Q rest (a.put o.dst undef) w'):wpListIn F n P ops Q (o::rest) a w:=by
 refine wpListIn_plain hg fun K' hK'=>?_
 unfold Oper.wpIn;refine⟨fun f _=>hF f,?_⟩;rw[Oper.semAt_plain F _ _ hpl,hr];exact hK' _ _ h
theorem DP7(hF:∀f,F.fn f){x:Operand}{b off:Nat}{v:Value}(hS:St W L w)(ho:o.op=.load t x)(hg:o.guard=none)(hx:a.eval x=.pointer (some ⟨b,off,none⟩))(ht:Q9 P t=some false)(hc:i9 L b off v)(h:wpListIn F n P ops Q rest (a.put o.dst v) w):wpListIn F n P ops Q (o::rest) a w:=
 GO7 hF hg (fun c hc'=>by rw[ho]at hc';cases hc') (DW7 hS ho hx ht hc) h
theorem KN7(hF:∀f,F.fn f){x:Operand}{b off:Nat}{vs:List Value}(hS:St W L w)(ho:o.op=.load t x)(hg:o.guard=none)(hx:a.eval x=.pointer (some ⟨b,off,none⟩))(ht:Q9 P t=some true)(hn:I8 P t=some vs.length)(hc:i8 L b off vs)(h:wpListIn F n P ops Q rest (a.put o.dst (.agg vs.toArray)) w):wpListIn F n P ops Q (o::rest) a w:=
 GO7 hF hg (fun c hc'=>by rw[ho]at hc';cases hc') (FG7 hS ho hx ht hn hc) h
theorem GP7(hF:∀f,F.fn f){l:List Value}(hS:St W L w)(ho:o.op=.alloc t)(hg:o.guard=none)(hz:B6 P t=some l)(h:∀b w',St W (blk b l t::L) w'->wpListIn F n P ops Q rest (a.put o.dst (.P b)) w'):wpListIn F n P ops Q (o::rest) a w:=by obtain⟨b,w',hr,hS'⟩:=EW7 (P:=P) (a:=a) hS ho hz;exact GO7 hF hg (fun c hc'=>by rw[ho]at hc';cases hc') hr (h b w' hS')
theorem Pt7(hF:∀f,F.fn f){x:Operand}{v:Value}{l:List Value}(hS:St W L w)(ho:o.op=.box t x)(hg:o.guard=none)(hx:a.eval x=v)(hv:v.cells=l.toArray)(h:∀b w',St W (blk b l t::L) w'->wpListIn F n P ops Q rest (a.put o.dst (.P b)) w'):wpListIn F n P ops Q (o::rest) a w:=by obtain⟨b,w',hr,hS'⟩:=Lj7 (P:=P) (a:=a) hS ho hx hv;exact GO7 hF hg (fun c hc'=>by rw[ho]at hc';cases hc') hr (h b w' hS')
theorem SQ7(hF:∀f,F.fn f){L':List HP}{x y:Operand}{b off:Nat}{l vs l':List Value}{T:TypeId}{v:Value}(hS:St W L w)(ho:o.op=.store t x y)(hg:o.guard=none)(hx:a.eval x=.pointer (some ⟨b,off,none⟩))(hy:a.eval y=v)(hv:v.cells.toList=vs)
  (hn:I8 P t=some vs.length) (h1:vs.all (·.oneCell')=true) (hu:Upd L (blk b l T) (blk b l' T) L') (hl:off+vs.length<=l.length) (he:E8 l off vs=l') (h:∀w',St W L' w'->wpListIn F n P ops Q rest (a.put o.dst undef) w'):wpListIn F n P ops Q (o::rest) a w:=by
 obtain⟨w',hr,hS'⟩:=EV7 (P:=P) (a:=a) hS ho hx hy hv hn h1 hu hl he;exact RK7 hF hg (fun c hc'=>by rw[ho]at hc';cases hc') hr (h w' hS')
theorem KO7(hF:∀f,F.fn f){L':List HP}{x y:Operand}{b off:Nat}{l vs l':List Value}{T:TypeId}(hS:St W L w)(ho:o.op=.store t x y)(hg:o.guard=none)(hx:a.eval x=.pointer (some ⟨b,off,none⟩))(hy:a.eval y=.agg vs.toArray)
  (hn:I8 P t=some vs.length) (h1:vs.all (·.oneCell')=true) (hu:Upd L (blk b l T) (blk b l' T) L') (hl:off+vs.length<=l.length) (he:E8 l off vs=l') (h:∀w',St W L' w'->wpListIn F n P ops Q rest (a.put o.dst undef) w'):wpListIn F n P ops Q (o::rest) a w:=
 SQ7 hF hS ho hg hx hy (by simp[Value.cells]) hn h1 hu hl he h
theorem Pu7(hF:∀f,F.fn f){L':List HP}{x y:Operand}{b off:Nat}{l l':List Value}{T:TypeId}{v:Value}(hS:St W L w)(ho:o.op=.store t x y)(hg:o.guard=none)(hx:a.eval x=.pointer (some ⟨b,off,none⟩))(hy:a.eval y=v)
  (hn:I8 P t=some 1) (hv:v.cells.toList=[v]) (h1:v.oneCell'=true) (hu:Upd L (blk b l T) (blk b l' T) L') (hl:off<l.length) (he:l.set off v=l') (h:∀w',St W L' w'->wpListIn F n P ops Q rest (a.put o.dst undef) w'):wpListIn F n P ops Q (o::rest) a w:=
 SQ7 hF hS ho hg hx hy hv hn (by simp[h1]) hu (by simp;omega) (by simpa[E8]using he) h
theorem SR7(hF:∀f,F.fn f){e n1:TypeId}{z:Value}{k bytes:Nat}{xs:Array (Nat×Operand)}{parts:List (Nat×Value)}{l:List Value}(hS:St W L w)(ho:o.op=.buildSlice t n1 xs)(hg:o.guard=none)(hx:(xs.map fun(i,x)=>(i,a.eval x))=parts.toArray)
  (ht:C7 P t=some e) (hi:F9 P e=some (some z,k,bytes)) (hz:z.cells.size=k) (hn:decide (n1*k<=16777216)=true) (hp:aH4 k n1 parts=true) (hl:bt4 k (ae4 z n1) parts=l)
  (h:∀b w',St W (blk b l e::L) w'->wpListIn F n P ops Q rest (a.put o.dst (.S b n1 n1)) w'):wpListIn F n P ops Q (o::rest) a w:=by
 obtain⟨b,w',hr,hS'⟩:=Ge7 (P:=P) (a:=a) hS ho hx ht hi hz hn hp hl;exact GO7 hF hg (fun c hc'=>by rw[ho]at hc';cases hc') hr (h b w' hS')
end
theorem St.putObj{W w:World}{L:List HP}{b:Nat}{o:Obj}(o':Obj)(h:St W (ai4 b o::L) w):St W (ai4 b o'::L) (w.putObj b o'):=by
 have hg:=h.get (b:=b) .head;refine h.putO .head rfl rfl rfl fun k=>?_
 by_cases hk:k=b
 ·subst hk;rw[if_pos rfl];exact World.putObj_heap_same (Array.getElem?_eq_some_iff.1 hg).1
 ·rw[if_neg hk];exact World.putObj_heap_other hk
def dr4{κ:Type}(P:Program)(ek:κ->Value)(N:Nat)(l:Nat)(W:World)(X:List κ->HP):Prop:=
 ∀(m:Nat) (pre:List κ) (x:κ) (L:List HP) (w:World),pre.length<N->St W (X pre::L) w->YieldAt Fence.wide m P l #[ek x] w fun e w'=>e=.returned (.bool true)/\St W (X (pre++[x])::L) w'
def ck4{κ:Type}(P:Program)(ek:κ->Value)(N:Nat)(gf:Nat)(lb:Array Value)(S:List κ->Prop)(W:World)(R:List HP):Prop:=
 ∀(l m:Nat) (X:List κ->HP) (w:World),dr4 P ek N l W X->St W (X []::R) w->
  CallsIn Fence.wide m P gf (#[.func (.yield l) #[] #[]]++lb) w fun e w'=>(∃v,e=.returned v)/\∃ss,S ss/\St W (X ss::R) w'
theorem GQ7{κ:Type}{n:Nat}{P:Program}{W w:World}{L R:List HP}{ops:Array Oper}{rest:List Oper}{o:Oper}{a:Act}{Q:Exit->Act->World->Prop}{ek:κ->Value}{x y:Operand}{ats:Array TypeId}{lp N:Nat}{k:κ}{pre:List κ}{X:List κ->HP}
  (hY:dr4 P ek N lp W X) (hS:St W L w) (hop:o.op=.call { callee:=.value x,args:=#[y],argTypes:=ats }) (hg:o.guard=none) (hx:a.eval x=.func (.yield lp) #[] #[]) (hy:a.eval y=ek k) (hlt:pre.length<N) (hu:Take L (X pre) R)
  (h:∀w',St W (X (pre++[k])::R) w'->wpListIn Fence.wide n P ops Q rest (a.put o.dst (.bool true)) w'):wpListIn Fence.wide n P ops Q (o::rest) a w:=by
 obtain⟨fn,tmps,assign,body,hy2,hR⟩:=hY (n-1) pre k R w hlt (hS.take hu);refine wpListIn_plain hg fun K' hK'=>?_
 unfold Oper.wpIn;refine⟨fun f _=>trivial,?_⟩;rw[Oper.semAt_plain Fence.wide _ _ (by rw[hop];intro c hc';cases hc')]
 have e:(execOp a.eval o).run P w=.ok (.round lp fn tmps assign body) w:=by
  have ha:(#[y]:Array Operand).map a.eval=#[ek k]:=by simp[hy]
  unfold execOp;simp only[hop,resolve,Sem.run_bind,hx,Deferred.ofValue,ha,Sem.run_pure,Result.andThen_ok];simp[invoke,hy2]
 rw[e,Oper.uponIn_round];refine⟨(fun h=>by cases h),hR.mono ?_⟩;rintro e w3 ⟨rfl,h5⟩;exact hK' _ _ (h w3 h5)
def bY4(fn:FuncId)(tmps:Array Value)(ps:Array Tmp)(assign body:Code)(D:Nat)(st:LoopState)(pe:Option Code):Loop:={ state:=st,pending:=pe,fn,tmps,params:=ps,assign,body,defers:=D }
def ek4(rc:LoopState->Option Code->Loop)(l D:Nat)(I:HP):HP:=sep I (sep (ai4 l (.loop (rc .ready none))) (ai4 D (.deferred (some []))))
section
variable{κ:Type}{n:Nat}{P:Program}{W w:World}{L R:List HP}{a:Act}{Q:Exit->Act->World->Prop}{ek:κ->Value}
theorem dO4{rc:LoopState->Option Code->Loop}{l D:Nat}{I:HP}(h:St W (ek4 rc l D I::L) w):St W (I::ai4 l (.loop (rc .ready none))::ai4 D (.deferred (some []))::L) w:=
 (St.split (St.split h).swap).s _
theorem dP4{rc:LoopState->Option Code->Loop}{l D:Nat}{I:HP}(h:St W (I::ai4 l (.loop (rc .ready none))::ai4 D (.deferred (some []))::L) w):St W (ek4 rc l D I::L) w:=
 St.join ((St.join (h.s (ai4 l (.loop (rc .ready none))::ai4 D (.deferred (some []))::I::L))).swap)
theorem eO4{g:Operand}{p1:Tmp}{assign body:Code}{gf:Nat}{lb:Array Value}(hg:a.eval g=.func (.func gf) #[] lb)(eg:∀args w,(callFunc gf args).run P w=.ok (.enter gf args) w)
  {S:List κ->Prop} {N:Nat} {I:List κ->HP} (hseq:ck4 P ek N gf lb S W R) (hS:St W (I []::R) w)
  (hround:∀(l m:Nat) (pre:List κ) (x:κ) (L:List HP) (w:World),pre.length<N->St W (I pre::L) w->assign.wpIn (Fence.wide.inRound l) m P (Exit.then (fun a1 w1=>∃J:HP,St W (J::L) w1/\∀(L2:List HP) (w2:World),St W (J::L2) w2->
   body.wpIn (Fence.wide.inRound l) m P (fun e _ w'=>e=.normal/\St W (I (pre++[x])::L2) w') a1 w2) (fun _ _ _=>False)) { tmps:=a.tmps.setIfInBounds p1 (ek x),defers:=[] } w)
  (hdone:∀(D:Nat) (ss:List κ) (w:World),S ss->St W (I ss::ai4 D (.deferred (some []))::R) w->Q .normal { a with defers:={ target:=.collected D,args:=#[] }::a.defers } w):
  (Code.rangeFunc g #[p1] assign body).wpIn Fence.wide n P Q a w:=by
 refine wpIn_rangeFunc ?_;intro fn hfn;have h1:=(hS.alloc (.deferred (some []))).alloc (.loop (bY4 fn a.tmps #[p1] assign body w.heap.size .ready none));rw[World.size_alloc]at h1;generalize hW1:(w.alloc (.deferred (some []))).alloc (.loop (bY4 fn a.tmps #[p1] assign body w.heap.size .ready none))=w1 at h1
 refine⟨w.heap.size+1,[{ target:=.collected w.heap.size,args:=#[] }],w1, { target:=.fn (.func gf) lb,args:=#[.func (.yield (w.heap.size+1)) #[] #[]] },w1,gf,
  #[.func (.yield (w.heap.size + 1)) #[] #[]] ++ lb,w1,?_,?_,?_,?_,(fun h => by cases h),?_⟩
 ·rw[<-hW1];exact run_enterLoop_outer _ _ _ _ _
 ·simp only[resolve,hg];simp[go_sem]
 ·intro f' hf';trivial
 ·simp[invoke,go_sem,eg]
 ·have hT:dr4 P ek N (w.heap.size+1) W (fun ss=>ek4 (bY4 fn a.tmps #[p1] assign body w.heap.size) (w.heap.size+1) w.heap.size (I ss)):=by
   intro m pre x L' w2 hlt hS2;have h2:=dO4 hS2;have hl:=h2.get (b:=w.heap.size+1) (.tail .head);refine⟨_,_,_,_,run_yield (P:=P) (args:=#[ek x]) hl rfl,roundIn_of_wpIn trivial ?_⟩;have et:((bY4 fn a.tmps #[p1] assign body w.heap.size .ready none).params.zip #[ek x]).foldl (fun tmps (t,a)=>tmps.setIfInBounds t a) (bY4 fn a.tmps #[p1] assign body w.heap.size .ready none).tmps=a.tmps.setIfInBounds p1 (ek x):=by simp[bY4]
   rw[et];refine wpIn_mono (hround _ _ pre x _ w2 hlt h2) ?_;intro e a1 w1 hq
   cases e with
   | normal=>
    obtain⟨J,hJ,hb⟩:=hq;have hl1:=hJ.get (b:=w.heap.size+1) (.tail .head);refine⟨_,run_beginRound (P:=P) hl1 rfl,?_⟩;have h4:St W (J::ai4 (w.heap.size+1) (.loop (bY4 fn a.tmps #[p1] assign body w.heap.size .busy none))::ai4 w.heap.size (.deferred (some []))::L') _:=((hJ.swap).putObj (.loop (bY4 fn a.tmps #[p1] assign body w.heap.size .busy none))).swap;refine wpIn_mono (hb _ _ h4) ?_;rintro e a3 w3 ⟨rfl,h5⟩;have hl5:=h5.get (b:=w.heap.size+1) (.tail .head);refine⟨_,_,run_endRound (P:=P) none hl5,rfl,?_⟩;exact dP4 ((h5.swap).putObj (.loop (bY4 fn a.tmps #[p1] assign body w.heap.size .ready none))).swap
   | _=>exact hq
  refine(hseq (w.heap.size+1) _ (fun ss=>ek4 (bY4 fn a.tmps #[p1] assign body w.heap.size) (w.heap.size+1) w.heap.size (I ss)) w1 hT (dP4 (h1.s _))).mono ?_;rintro e w3 ⟨⟨v,rfl⟩,ss,hs,h2⟩;have h3:=dO4 h2;have hl:=h3.get (b:=w.heap.size+1) (.tail .head);refine⟨none,_,run_endLoop (P:=P) hl (by simp[bY4]),?_⟩;exact hdone _ ss _ hs (((h3.swap).putObj _).drop)
end
end Go.Sl
end
section
namespace Go.Sl
section
variable{κ ν:Type}
structure Ordr(lt:κ->κ->Bool):Prop where
 irr:∀a,lt a a=false
 tr:∀a b c,lt a b=true->lt b c=true->lt a c=true
 tri:∀a b,lt a b=false->a≠b->lt b a=true
def Asc(lt:κ->κ->Bool)(l:List (κ×ν)):Prop:=l.Pairwise fun x y=>lt x.1 y.1=true
def plI(lt:κ->κ->Bool):List (κ×ν)->κ->Nat
 | [],_=>0
 | x::l,k=>if lt x.1 k=true then plI lt l k+1 else 0
def plB[DecidableEq κ](lt:κ->κ->Bool):List (κ×ν)->κ->Bool
 | [],_=>false
 | x::l,k=>if lt x.1 k=true then plB lt l k else decide (x.1=k)
def plS[DecidableEq κ](lt:κ->κ->Bool)(l:List (κ×ν))(k:κ)(v:ν):List (κ×ν):=l.take (plI lt l k)++(k,v)::l.drop (if plB lt l k=true then plI lt l k+1 else plI lt l k)
theorem JH7(lt:κ->κ->Bool)(k:κ):∀l:List (κ×ν),plI lt l k<=l.length
 | []=>Nat.le_refl _
 | x::l=>by have:=JH7 lt k l;rw[plI,jC];split <;> omega
theorem Pv7[DecidableEq κ](lt:κ->κ->Bool)(k:κ):∀l:List (κ×ν),plB lt l k=true->∃h:plI lt l k<l.length,l[plI lt l k].1=k
 | [],h=>by cases h
 | x::l,h=>by
  rw[plB]at h;by_cases hx:lt x.1 k=true
  ·rw[if_pos hx]at h;obtain⟨h1,h2⟩:=Pv7 lt k l h;have e:plI lt (x::l) k=plI lt l k+1:=by rw[plI,if_pos hx]
   refine⟨by rw[e,jC];omega,?_⟩;simp only[e,List.getElem_cons_succ];exact h2
  ·rw[if_neg hx]at h;have e:plI lt (x::l) k=0:=by rw[plI,if_neg hx]
   refine⟨by rw[e,jC];omega,?_⟩;simp only[e,List.getElem_cons_zero];simpa using h
variable{lt:κ->κ->Bool}{l:List (κ×ν)}{k:κ}{v:ν}
theorem AW7(ho:Ordr lt)(h:Asc lt l):(l.map (·.1)).Nodup:=by
 unfold Asc at h;refine List.pairwise_map.2 (h.imp fun{a b} hab e=>?_);rw[e,ho.irr]at hab
 cases hab
theorem Pw7[DecidableEq κ](ho:Ordr lt)(h:Asc lt l):plB lt l k=(m7 l k).isSome:=by
 induction l with
 | nil=>rfl
 | cons x l ih=>
  unfold Asc at h;rw[List.pairwise_cons]at h;obtain⟨h1,h2⟩:=h;have e:m7 (x::l) k=if x.1=k then some x.2 else m7 l k:=by unfold m7;rw[List.find?_cons];by_cases hk:x.1=k <;> simp[hk]
  rw[plB,e];by_cases hx:lt x.1 k=true
  ·have hne:x.1≠k:=fun e=>by rw[e,ho.irr]at hx;cases hx
   rw[if_pos hx,if_neg hne];exact ih h2
  ·rw[if_neg hx];by_cases hk:x.1=k
   ·rw[if_pos hk];simp[hk]
   ·rw[if_neg hk];have h3:lt k x.1=true:=ho.tri _ _ (by simpa using hx) hk
    have h4:m7 l k=none:=by
     unfold m7;rw[Option.map_eq_none_iff,List.find?_eq_none];intro y hy;simp only[decide_eq_true_eq];intro e;have h5:=ho.tr _ _ _ h3 (h1 y hy);rw[e,ho.irr]at h5
     cases h5
    rw[h4];simp[hk]
theorem Px7(ho:Ordr lt){l':List (κ×ν)}(h:Asc lt l)(h':Asc lt l')(hp:l.Perm l'):l=l':=by
 unfold Asc at h h'
 exact List.Perm.eq_of_pairwise (fun a b _ _ h1 h2=>by
  have:=ho.tr _ _ _ h1 h2;rw[ho.irr]at this
  cases this) h h' hp
theorem GR7[DecidableEq κ](ho:Ordr lt):∀(l:List (κ×ν)) (k:κ),Asc lt l->(∀x∈l.take (plI lt l k),lt x.1 k=true)/\(∀y∈l.drop (if plB lt l k=true then plI lt l k+1 else plI lt l k),lt k y.1=true)
 | [],k,_=>⟨fun x hx=>(by simp at hx),fun y hy=>(by simp[plI,plB]at hy)⟩
 | z::l,k,h=>by
  unfold Asc at h;rw[List.pairwise_cons]at h;obtain⟨h1,h2⟩:=h;rw[plI,plB];by_cases hx:lt z.1 k=true
  ·rw[if_pos hx,if_pos hx];obtain⟨i1,i2⟩:=GR7 ho l k h2;refine⟨?_,?_⟩
   ·intro x hx2;rw[List.take_succ_cons]at hx2
    rcases List.mem_cons.1 hx2 with rfl|hx2
    ·exact hx
    ·exact i1 x hx2
   ·intro y hy;refine i2 y ?_;split at hy
    ·rename_i h3
     rw[if_pos h3];simpa using hy
    ·rename_i h3
     rw[if_neg h3];simpa using hy
  ·rw[if_neg hx,if_neg hx];refine⟨fun x hx2=>(by simp at hx2),?_⟩;intro y hy;by_cases hk:z.1=k
   ·rw[if_pos (by simp[hk])]at hy;rw[<-hk];exact h1 y (by simpa using hy)
   ·rw[if_neg (by simp[hk])]at hy;have h3:lt k z.1=true:=ho.tri _ _ (by simpa using hx) hk;rcases List.mem_cons.1 (by simpa using hy)with rfl|hy
    ·exact h3
    ·exact ho.tr _ _ _ h3 (h1 y hy)
theorem Is7[DecidableEq κ](ho:Ordr lt)(h:Asc lt l):Asc lt (plS lt l k v):=by
 obtain⟨h1,h2⟩:=GR7 ho l k h;unfold Asc at h ⊢;unfold plS;rw[List.pairwise_append,List.pairwise_cons];refine⟨h.sublist (List.take_sublist _ _),⟨h2,h.sublist (List.drop_sublist _ _)⟩,?_⟩;intro x hx y hy
 rcases List.mem_cons.1 hy with rfl|hy
 ·exact h1 x hx
 ·exact ho.tr _ _ _ (h1 x hx) (h2 y hy)
theorem ED7[DecidableEq κ](ho:Ordr lt)(h:Asc lt l):(plS lt l k v).Perm ((k,v)::j9 l k):=by
 obtain⟨h1,h2⟩:=GR7 ho l k h
 have e:j9 l k=l.take (plI lt l k)++l.drop (if plB lt l k=true then plI lt l k+1 else plI lt l k):=by
  have hl:l=l.take (plI lt l k)++l.drop (plI lt l k):=(List.take_append_drop _ _).symm;have hd:∀(t:List (κ×ν)),(∀x∈t,x.1≠k)->j9 t k=t:=fun t ht=>BN7 ht
  have ha:∀(s t:List (κ×ν)),j9 (s++t) k=j9 s k++j9 t k:=fun s t=>by unfold j9;rw[List.filter_append]
  have ht1:j9 (l.take (plI lt l k)) k=l.take (plI lt l k):=hd _ fun x hx e=>by
   have:=h1 x hx;rw[e,ho.irr]at this
   cases this
  have ht2:∀y∈l.drop (if plB lt l k=true then plI lt l k+1 else plI lt l k),y.1≠k:=fun y hy e=>by
   have:=h2 y hy;rw[e,ho.irr]at this
   cases this
  by_cases hb:plB lt l k=true
  ·obtain⟨h3,h4⟩:=Pv7 lt k l hb;rw[if_pos hb]at ht2 ⊢
   conv=>lhs;rw[hl]
   rw[ha,ht1]
   congr 1
   rw[List.drop_eq_getElem_cons h3];have:j9 (l[plI lt l k]::l.drop (plI lt l k+1)) k=j9 (l.drop (plI lt l k+1)) k:=by unfold j9;rw[List.filter_cons,if_neg (by simp[h4])]
   rw[this,hd _ ht2]
  ·rw[if_neg hb]at ht2 ⊢
   conv=>lhs;rw[hl]
   rw[ha,ht1,hd _ ht2]
 rw[e];unfold plS;exact List.perm_middle
end
theorem DG7:Ordr (fun a b:Int=>decide (a<b)):=⟨fun a=>by simp,fun a b c h1 h2=>by simp at *;omega,fun a b h1 h2=>by simp at *;omega⟩
abbrev ltW(a b:Int×Int):Bool:=decide (a.1<b.1\/(a.1=b.1/\a.2<b.2))
theorem Aw7:Ordr ltW:=⟨fun a=>by simp[ltW],fun a b c h1 h2=>by simp[ltW]at *;omega,fun a b h1 h2=>by obtain⟨a1,a2⟩:=a;obtain⟨b1,b2⟩:=b;simp only[ltW,ne_eq,Prod.mk.injEq,decide_eq_false_iff_not,decide_eq_true_eq]at *;omega⟩
end Go.Sl
end
