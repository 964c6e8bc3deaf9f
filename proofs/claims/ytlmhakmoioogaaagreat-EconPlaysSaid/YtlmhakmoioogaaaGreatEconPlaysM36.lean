/-
  Apply. For every economy, every request.
-/
import Derived.Test.YtlmhakmoioogaaaGreatEconPlaysM5
import Derived.Test.YtlmhakmoioogaaaGreatEconPlaysM35
set_option maxHeartbeats 16000000
set_option maxRecDepth 100000
set_option linter.unusedSimpArgs false
set_option linter.unusedVariables false
section
namespace Go.Proofs.YtlmhakmoioogaaaGreat
open Go.RowKit Go.Sl
section
variable{eb m1 m2 m3 m4:Nat}{E:Ev}{i:Nat}{vs:List (ByteArray×Vs)}(kd cl sq:Int)(ak aw tk tw:ByteArray)(it ct pr:Int)(bu:Bool)(id:Int)(ss:List (Int×(Int×Rpl)))(ts:List ((Int×Int)×Tns))(ar:List ((Int×Int)×Unit))(W w:World)(R:List HP)
theorem Qe7{r:Rpl}(hpk:peekE ⟨vs,ss,ts,ar⟩ ⟨kd,cl,sq,ak,aw,tk,tw,it,ct,pr,bu,id⟩=(r,true))(hS:St W (ecR eb m1 m2 m3 m4 E ss ts ar R) w):
  Calls Tryz.prog 16 #[.pointer (some ⟨eb,0,none⟩),oV kd cl sq ak aw tk tw it ct pr bu id] w fun e w'=>e=.returned (.tuple #[rV r.err r.id r.has.x0 r.has.x1 r.has.x2 r.has.x3,.bool false])∧St W (ecR eb m1 m2 m3 m4 E ss ts ar R) w':=by
 obtain⟨e0,e1,⟨y0,y1,y2,y3⟩⟩:=r
 go_enter Tryz.func16,Tryz.ntmps16
 go_wp2_with(first|(refine zbx hS ?_;clear hS;intro bO w hS)|((fail_if_success (have:=g1));(refine zal hS ?_;clear hS;have g1:Nat:=0;intro bR w hS))|((have:=g1);(fail_if_success (have:=g2));(refine zal hS ?_;clear hS;have g2:Nat:=0;intro b6 w hS))|(refine zlN hS ?_)|(refine zsN hS ?_;clear hS;intro w hS)|(go_at_call 33;refine(Ba7 hpk W _ _ (hS.s (ecR eb m1 m2 m3 m4 E ss ts ar (blk bR _ _::blk bO _ _::R)))).mono ?_;clear hS;rintro e w ⟨rfl,hS⟩))
 (apply Ac7;rfl;rfl;rfl;rfl;exact hS;decide +kernel;(exact cesS);kernel_rfl)
 exact⟨rfl,hS.s _⟩
end
section
variable{eb m1 m2 m3 m4:Nat}{E:Ev}{i:Nat}{vs:List (ByteArray×Vs)}(cl sq:Int)(ak aw tk tw:ByteArray)(it ct pr:Int)(bu:Bool)(id:Int)(ss:List (Int×(Int×Rpl)))(ts:List ((Int×Int)×Tns))(ar:List ((Int×Int)×Unit))(W w:World)(R:List HP)
theorem app1(hpk:peekE ⟨vs,ss,ts,ar⟩ ⟨1,cl,sq,ak,aw,tk,tw,it,ct,pr,bu,id⟩=(rp0,false))(hE:EvOk E i)(hi:i≤1000000)(hp:(stripE E).Perm vs)(h0:0≤it)(h4:it<4)(c0:1≤ct)(c1:ct≤1048576){r:Int}{q:Ps}(hr:putE (vAt E ak).ps aw (oneI it ct)=r)(hq:putP (vAt E ak).ps aw (oneI it ct)=q)(hS:St W (ecR eb m1 m2 m3 m4 E ss ts ar R) w):
  Calls Tryz.prog 16 #[.pointer (some ⟨eb,0,none⟩),oV 1 cl sq ak aw tk tw it ct pr bu id] w fun e w'=>∃E',EvOk E' (i+1)∧(stripE E').Perm (tidV ((ak,⟨q,(vAt E ak).L,(vAt E ak).n⟩)::delL vs ak) ak)∧e=.returned (.tuple #[rV r 0 0 0 0 0,.bool true]) ∧
   St W (ecR eb m1 m2 m3 m4 E' ((cl,(sq,⟨r,0,⟨0,0,0,0⟩⟩))::delL ss cl) ts ar R) w':=by
 have hN:100*(i+1)≤1000000000:=by omega
 have Hp:=Lib.hid hp
 have HE:=Lib.hid hE
 have Hr:=Lib.hid hr
 have Hq:=Lib.hid hq
 clear hp hE hr hq
 go_enter Tryz.func16,Tryz.ntmps16
 go_wp2_with(first|(refine zbx hS ?_;clear hS;intro bO w hS)|((fail_if_success (have:=g1));(refine zal hS ?_;clear hS;have g1:Nat:=0;intro bR w hS))|((have:=g1);(fail_if_success (have:=g2));(refine zal hS ?_;clear hS;have g2:Nat:=0;intro b6 w hS))|((have:=g2);(refine zal hS ?_;clear hS;intro b8 w hS))|(refine zlN hS ?_)|(refine zsN hS ?_;clear hS;intro w hS)|(go_at_call 33;refine(Ba7 hpk W _ _ (hS.s (ecR eb m1 m2 m3 m4 E ss ts ar (blk bR _ _::blk bO _ _::R)))).mono ?_;clear hS;rintro e w ⟨rfl,hS⟩))
 have hS0:=ecKShut (hS.s (ecR eb m1 m2 m3 m4 E ss ts ar (blk bO _ _::blk b8 _ _::blk b6 _ _::blk bR _ _::R)))
 clear hS
 refine rf3 [0,1,3,7,0,0,63,0,255] (fun i=>i==7) (fun i=>if i==6 then some (rV r 0 0 0 0 0)else none)
  [⟨some 6,none,fun _=>kdR eb m1 m2 m3 m4 ((ak,⟨q,(vAt E ak).L,(vAt E ak).n⟩)::delL vs ak) ss ts ar (i+1)⟩,⟨some 7,some 8,fun nd=>ptrTo (nd 7) [.int .i64 0,.int .i64 0,.int .i64 0,.int .i64 0,.int .i64 0,.int .i64 0] 31⟩,⟨some 8,none,fun nd=>ptrTo (nd 7) [.int .i64 r,.int .i64 0,.int .i64 0,.int .i64 0,.int .i64 0,.int .i64 0] 31⟩] [some 6,none,none] hS0 ?_
 clear hS0
 intro nd
 repeat(first|(refine zc1 ?_)|(refine zcN ?_)|(apply BZ7;rfl;rfl;rfl;(with_reducible rfl);rfl;decide +kernel;(focus(simp only[fD,fI,fJ,Act.eval,fE,fF,fG,fH,fK];try rfl));(intro F w hS;exact kind1 cl sq ak aw tk tw it ct pr bu id ss ts ar W w _ HE.out Hp.out h0 h4 c0 c1 Hr.out Hq.out hS);(refine frS ?_))|(refine zca ?_)|(refine zct ?_)|(refine cR ?_))
 refine Ad7 ?_
 intro w hS
 have hS2:St W [kdR eb m1 m2 m3 m4 _ _ _ _ _,ptrTo _ _ _,blk bO _ _,blk b8 _ _,sats (blk b6 _ _::blk bR _ _::R)] w:=hS
 clear hS
 have hS:=hS2.unpack [_,_,_,_]
 clear hS2
 simp only[List.cons_append,List.nil_append]at hS
 generalize nd 7=v9 at *
 obtain⟨E2,hE2,hp2,hS0⟩:=kdOpen hS
 clear hS
 have hS:St W (ptrTo v9 _ _::evP eb m1 m2 m3 m4 E2::amap eI eSs m2 ss::amap eW eTn m3 _::amap eW eU m4 _::blk bO _ _::blk b8 _ _::blk b6 _ _::blk bR _ _::R) w:=hS0.s _
 clear hS0
 have h1:=hS.ptr;clear hS;obtain⟨b9,rfl,hS⟩:=h1
 have hS0:=evOpen hS.swap
 clear hS
 have hS:=hS0
 clear hS0
 have hnd:(E2.map (·.1)).Nodup:=by rw[←AM7];exact amapKeys hS.drop
 have hp3:=Bs7 hnd hp2 ak
 have hok3:=ED7 hE2 ak
 have HE2:=Lib.hid hE2
 have Hp3:=Lib.hid hp3
 have Hok3:=Lib.hid hok3
 clear hnd hp2 hp3 hE2 hok3
 go_wp2_with(first|(refine zl1 hS ?_)|(go_at_call 43;refine(AU7 eb m1 m2 m3 m4 E2 ak (fun x hx=>(HE2.out x hx).w) hN W _ _ (hS.s (ebB eb m1 m2 m3 m4::amap eS eN m1 (ptrsE E2)::vauP E2::amap eI eSs m2 ss::amap eW eTn m3 _::amap eW eU m4 _::blk b9 _ _::blk b8 _ _::blk b6 _ _::blk bR _ _::blk bO _ _::R))).mono ?_;clear hS;rintro e w ⟨rfl,hS⟩))
 refine rt 10 hS ?_
 repeat(first|(refine zq1 ?_)|(refine zqN ?_)|(refine zqn ?_)|(refine qR ?_))
 clear hS
 intro w hS
 simp only[List.drop_succ_cons,List.drop_zero]
 go_wp2_with(first|((with_reducible apply Cd7 (ek:=eI) (ev:=eSs) (k:=cl) (u:=(sq,(⟨r,0,⟨0,0,0,0⟩⟩:Rpl))) hS);(with_reducible rfl);rfl;rfl;rfl;(exact takeS);(focus(rfl));exact mS;exact kEi;clear hS;intro w hS;try(refine frS ?_))|(refine zlN hS ?_)|(refine zsN hS ?_;clear hS;intro w hS))
 (apply Ac7;rfl;rfl;rfl;rfl;exact hS;decide +kernel;(exact cesS);kernel_rfl)
 exact⟨_,Hok3.out,Hp3.out,rfl,evShut (hS.s (ebB eb m1 m2 m3 m4::amap eS eN m1 _::vauP _::amap eI eSs m2 _::amap eW eTn m3 _::amap eW eU m4 _::R))⟩
theorem app2n(hpk:peekE ⟨vs,ss,ts,ar⟩ ⟨2,cl,sq,ak,aw,tk,tw,it,ct,pr,bu,id⟩=(rp0,false))(hE:EvOk E i)(hi:i≤1000000)(hp:(stripE E).Perm vs)(h0:0≤it)(h4:it<4)(c0:1≤ct)(c1:ct≤1048576){r:Int}{q:Ps}(hr:takeE (vAt E ak).ps aw (oneI it ct)=r)(hr0:(r==0)=false)(hq:takeP (vAt E ak).ps aw (oneI it ct)=q)(hS:St W (ecR eb m1 m2 m3 m4 E ss ts ar R) w):
  Calls Tryz.prog 16 #[.pointer (some ⟨eb,0,none⟩),oV 2 cl sq ak aw tk tw it ct pr bu id] w fun e w'=>∃E',EvOk E' (i+1)∧(stripE E').Perm (tidV ((ak,⟨q,(vAt E ak).L,(vAt E ak).n⟩)::delL vs ak) ak)∧e=.returned (.tuple #[rV r 0 0 0 0 0,.bool true]) ∧
   St W (ecR eb m1 m2 m3 m4 E' ((cl,(sq,⟨r,0,⟨0,0,0,0⟩⟩))::delL ss cl) (ts) (ar) R) w':=by
 have hN:100*(i+1)≤1000000000:=by omega
 have Hp:=Lib.hid hp
 have HE:=Lib.hid hE
 have Hr:=Lib.hid hr
 have Hq:=Lib.hid hq
 clear hp hE hr hq
 go_enter Tryz.func16,Tryz.ntmps16
 go_wp2_with(first|(refine zbx hS ?_;clear hS;intro bO w hS)|((fail_if_success (have:=g1));(refine zal hS ?_;clear hS;have g1:Nat:=0;intro bR w hS))|((have:=g1);(fail_if_success (have:=g2));(refine zal hS ?_;clear hS;have g2:Nat:=0;intro b6 w hS))|((have:=g2);(refine zal hS ?_;clear hS;intro b8 w hS))|(refine zlN hS ?_)|(refine zsN hS ?_;clear hS;intro w hS)|(go_at_call 33;refine(Ba7 hpk W _ _ (hS.s (ecR eb m1 m2 m3 m4 E ss ts ar (blk bR _ _::blk bO _ _::R)))).mono ?_;clear hS;rintro e w ⟨rfl,hS⟩))
 have hS0:=ecKShut (hS.s (ecR eb m1 m2 m3 m4 E ss ts ar (blk bO _ _::blk b8 _ _::blk b6 _ _::blk bR _ _::R)))
 clear hS
 refine rf3 [0,1,3,7,0,0,63,0,255] (fun i=>i==7) (fun i=>if i==6 then some (rV r 0 0 0 0 0)else none)
  [⟨some 6,none,fun _=>kdR eb m1 m2 m3 m4 ((ak,⟨q,(vAt E ak).L,(vAt E ak).n⟩)::delL vs ak) ss (ts) (ar) (i+1)⟩,⟨some 7,some 8,fun nd=>ptrTo (nd 7) [.int .i64 0,.int .i64 0,.int .i64 0,.int .i64 0,.int .i64 0,.int .i64 0] 31⟩,⟨some 8,none,fun nd=>ptrTo (nd 7) [.int .i64 r,.int .i64 0,.int .i64 0,.int .i64 0,.int .i64 0,.int .i64 0] 31⟩] [some 6,none,none] hS0 ?_
 clear hS0
 intro nd
 repeat(first|(refine zc1 ?_)|(refine zcN ?_)|(apply BZ7;rfl;rfl;rfl;(with_reducible rfl);rfl;decide +kernel;(focus(simp only[fD,fI,fJ,Act.eval,fE,fF,fG,fH,fK];try rfl));(intro F w hS;exact kind2n cl sq ak aw tk tw it ct pr bu id ss ts ar W w _ HE.out Hp.out h0 h4 c0 c1 Hr.out hr0 Hq.out hS);(refine frS ?_))|(refine zca ?_)|(refine zct ?_)|(refine cR ?_))
 refine Ad7 ?_
 intro w hS
 have hS2:St W [kdR eb m1 m2 m3 m4 _ _ _ _ _,ptrTo _ _ _,blk bO _ _,blk b8 _ _,sats (blk b6 _ _::blk bR _ _::R)] w:=hS
 clear hS
 have hS:=hS2.unpack [_,_,_,_]
 clear hS2
 simp only[List.cons_append,List.nil_append]at hS
 generalize nd 7=v9 at *
 obtain⟨E2,hE2,hp2,hS0⟩:=kdOpen hS
 clear hS
 have hS:St W (ptrTo v9 _ _::evP eb m1 m2 m3 m4 E2::amap eI eSs m2 ss::amap eW eTn m3 _::amap eW eU m4 _::blk bO _ _::blk b8 _ _::blk b6 _ _::blk bR _ _::R) w:=hS0.s _
 clear hS0
 have h1:=hS.ptr;clear hS;obtain⟨b9,rfl,hS⟩:=h1
 have hS0:=evOpen hS.swap
 clear hS
 have hS:=hS0
 clear hS0
 have hnd:(E2.map (·.1)).Nodup:=by rw[←AM7];exact amapKeys hS.drop
 have hp3:=Bs7 hnd hp2 ak
 have hok3:=ED7 hE2 ak
 have HE2:=Lib.hid hE2
 have Hp3:=Lib.hid hp3
 have Hok3:=Lib.hid hok3
 clear hnd hp2 hp3 hE2 hok3
 go_wp2_with(first|(refine zl1 hS ?_)|(go_at_call 43;refine(AU7 eb m1 m2 m3 m4 E2 ak (fun x hx=>(HE2.out x hx).w) hN W _ _ (hS.s (ebB eb m1 m2 m3 m4::amap eS eN m1 (ptrsE E2)::vauP E2::amap eI eSs m2 ss::amap eW eTn m3 _::amap eW eU m4 _::blk b9 _ _::blk b8 _ _::blk b6 _ _::blk bR _ _::blk bO _ _::R))).mono ?_;clear hS;rintro e w ⟨rfl,hS⟩))
 refine rt 10 hS ?_
 repeat(first|(refine zq1 ?_)|(refine zqN ?_)|(refine zqn ?_)|(refine qR ?_))
 clear hS
 intro w hS
 simp only[List.drop_succ_cons,List.drop_zero]
 go_wp2_with(first|((with_reducible apply Cd7 (ek:=eI) (ev:=eSs) (k:=cl) (u:=(sq,(⟨r,0,⟨0,0,0,0⟩⟩:Rpl))) hS);(with_reducible rfl);rfl;rfl;rfl;(exact takeS);(focus(rfl));exact mS;exact kEi;clear hS;intro w hS;try(refine frS ?_))|(refine zlN hS ?_)|(refine zsN hS ?_;clear hS;intro w hS))
 (apply Ac7;rfl;rfl;rfl;rfl;exact hS;decide +kernel;(exact cesS);kernel_rfl)
 exact⟨_,Hok3.out,Hp3.out,rfl,evShut (hS.s (ebB eb m1 m2 m3 m4::amap eS eN m1 _::vauP _::amap eI eSs m2 _::amap eW eTn m3 _::amap eW eU m4 _::R))⟩
theorem app2y(hpk:peekE ⟨vs,ss,ts,ar⟩ ⟨2,cl,sq,ak,aw,tk,tw,it,ct,pr,bu,id⟩=(rp0,false))(hE:EvOk E i)(hi:i≤1000000)(hp:(stripE E).Perm vs)(h0:0≤it)(h4:it<4)(c0:1≤ct)(c1:ct≤1048576){q:Ps}(hr:takeE (vAt E ak).ps aw (oneI it ct)=0)(hq:takeP (vAt E ak).ps aw (oneI it ct)=q)(hS:St W (ecR eb m1 m2 m3 m4 E ss ts ar R) w):
  Calls Tryz.prog 16 #[.pointer (some ⟨eb,0,none⟩),oV 2 cl sq ak aw tk tw it ct pr bu id] w fun e w'=>∃E',EvOk E' (i+1)∧(stripE E').Perm (tidV ((ak,⟨q,(vAt E ak).L,(vAt E ak).n⟩)::delL vs ak) ak)∧e=.returned (.tuple #[rV 0 0 0 0 0 0,.bool true]) ∧
   St W (ecR eb m1 m2 m3 m4 E' ((cl,(sq,⟨0,0,⟨0,0,0,0⟩⟩))::delL ss cl) (((cl,sq),⟨cl,sq,ak,aw,tk,tw,it,ct⟩)::delL ts (cl,sq)) (ar) R) w':=by
 have hN:100*(i+1)≤1000000000:=by omega
 have Hp:=Lib.hid hp
 have HE:=Lib.hid hE
 have Hr:=Lib.hid hr
 have Hq:=Lib.hid hq
 clear hp hE hr hq
 go_enter Tryz.func16,Tryz.ntmps16
 go_wp2_with(first|(refine zbx hS ?_;clear hS;intro bO w hS)|((fail_if_success (have:=g1));(refine zal hS ?_;clear hS;have g1:Nat:=0;intro bR w hS))|((have:=g1);(fail_if_success (have:=g2));(refine zal hS ?_;clear hS;have g2:Nat:=0;intro b6 w hS))|((have:=g2);(refine zal hS ?_;clear hS;intro b8 w hS))|(refine zlN hS ?_)|(refine zsN hS ?_;clear hS;intro w hS)|(go_at_call 33;refine(Ba7 hpk W _ _ (hS.s (ecR eb m1 m2 m3 m4 E ss ts ar (blk bR _ _::blk bO _ _::R)))).mono ?_;clear hS;rintro e w ⟨rfl,hS⟩))
 have hS0:=ecKShut (hS.s (ecR eb m1 m2 m3 m4 E ss ts ar (blk bO _ _::blk b8 _ _::blk b6 _ _::blk bR _ _::R)))
 clear hS
 refine rf3 [0,1,3,7,0,0,63,0,255] (fun i=>i==7) (fun i=>if i==6 then some (rV 0 0 0 0 0 0)else none)
  [⟨some 6,none,fun _=>kdR eb m1 m2 m3 m4 ((ak,⟨q,(vAt E ak).L,(vAt E ak).n⟩)::delL vs ak) ss (((cl,sq),⟨cl,sq,ak,aw,tk,tw,it,ct⟩)::delL ts (cl,sq)) (ar) (i+1)⟩,⟨some 7,some 8,fun nd=>ptrTo (nd 7) [.int .i64 0,.int .i64 0,.int .i64 0,.int .i64 0,.int .i64 0,.int .i64 0] 31⟩,⟨some 8,none,fun nd=>ptrTo (nd 7) [.int .i64 0,.int .i64 0,.int .i64 0,.int .i64 0,.int .i64 0,.int .i64 0] 31⟩] [some 6,none,none] hS0 ?_
 clear hS0
 intro nd
 repeat(first|(refine zc1 ?_)|(refine zcN ?_)|(apply BZ7;rfl;rfl;rfl;(with_reducible rfl);rfl;decide +kernel;(focus(simp only[fD,fI,fJ,Act.eval,fE,fF,fG,fH,fK];try rfl));(intro F w hS;exact kind2y cl sq ak aw tk tw it ct pr bu id ss ts ar W w _ HE.out Hp.out h0 h4 c0 c1 Hr.out Hq.out hS);(refine frS ?_))|(refine zca ?_)|(refine zct ?_)|(refine cR ?_))
 refine Ad7 ?_
 intro w hS
 have hS2:St W [kdR eb m1 m2 m3 m4 _ _ _ _ _,ptrTo _ _ _,blk bO _ _,blk b8 _ _,sats (blk b6 _ _::blk bR _ _::R)] w:=hS
 clear hS
 have hS:=hS2.unpack [_,_,_,_]
 clear hS2
 simp only[List.cons_append,List.nil_append]at hS
 generalize nd 7=v9 at *
 obtain⟨E2,hE2,hp2,hS0⟩:=kdOpen hS
 clear hS
 have hS:St W (ptrTo v9 _ _::evP eb m1 m2 m3 m4 E2::amap eI eSs m2 ss::amap eW eTn m3 _::amap eW eU m4 _::blk bO _ _::blk b8 _ _::blk b6 _ _::blk bR _ _::R) w:=hS0.s _
 clear hS0
 have h1:=hS.ptr;clear hS;obtain⟨b9,rfl,hS⟩:=h1
 have hS0:=evOpen hS.swap
 clear hS
 have hS:=hS0
 clear hS0
 have hnd:(E2.map (·.1)).Nodup:=by rw[←AM7];exact amapKeys hS.drop
 have hp3:=Bs7 hnd hp2 ak
 have hok3:=ED7 hE2 ak
 have HE2:=Lib.hid hE2
 have Hp3:=Lib.hid hp3
 have Hok3:=Lib.hid hok3
 clear hnd hp2 hp3 hE2 hok3
 go_wp2_with(first|(refine zl1 hS ?_)|(go_at_call 43;refine(AU7 eb m1 m2 m3 m4 E2 ak (fun x hx=>(HE2.out x hx).w) hN W _ _ (hS.s (ebB eb m1 m2 m3 m4::amap eS eN m1 (ptrsE E2)::vauP E2::amap eI eSs m2 ss::amap eW eTn m3 _::amap eW eU m4 _::blk b9 _ _::blk b8 _ _::blk b6 _ _::blk bR _ _::blk bO _ _::R))).mono ?_;clear hS;rintro e w ⟨rfl,hS⟩))
 refine rt 10 hS ?_
 repeat(first|(refine zq1 ?_)|(refine zqN ?_)|(refine zqn ?_)|(refine qR ?_))
 clear hS
 intro w hS
 simp only[List.drop_succ_cons,List.drop_zero]
 go_wp2_with(first|((with_reducible apply Cd7 (ek:=eI) (ev:=eSs) (k:=cl) (u:=(sq,(⟨0,0,⟨0,0,0,0⟩⟩:Rpl))) hS);(with_reducible rfl);rfl;rfl;rfl;(exact takeS);(focus(rfl));exact mS;exact kEi;clear hS;intro w hS;try(refine frS ?_))|(refine zlN hS ?_)|(refine zsN hS ?_;clear hS;intro w hS))
 (apply Ac7;rfl;rfl;rfl;rfl;exact hS;decide +kernel;(exact cesS);kernel_rfl)
 exact⟨_,Hok3.out,Hp3.out,rfl,evShut (hS.s (ebB eb m1 m2 m3 m4::amap eS eN m1 _::vauP _::amap eI eSs m2 _::amap eW eTn m3 _::amap eW eU m4 _::R))⟩
theorem app3(hpk:peekE ⟨vs,ss,ts,ar⟩ ⟨3,cl,sq,ak,aw,tk,tw,it,ct,pr,bu,id⟩=(rp0,false))(hE:EvOk E i)(hi:i≤1000000)(hp:(stripE E).Perm vs){r1 r2:Int}{V2:Vs}(h1:(ordV (vAt E ak) ⟨0,aw,bu,it,ct,pr⟩).1=r1)(h2:(ordV (vAt E ak) ⟨0,aw,bu,it,ct,pr⟩).2.1=r2)(h3:(ordV (vAt E ak) ⟨0,aw,bu,it,ct,pr⟩).2.2=V2)(hS:St W (ecR eb m1 m2 m3 m4 E ss ts ar R) w):
  Calls Tryz.prog 16 #[.pointer (some ⟨eb,0,none⟩),oV 3 cl sq ak aw tk tw it ct pr bu id] w fun e w'=>∃E',EvOk E' (i+1)∧(stripE E').Perm (tidV ((ak,V2)::delL vs ak) ak)∧e=.returned (.tuple #[rV r2 r1 0 0 0 0,.bool true]) ∧
   St W (ecR eb m1 m2 m3 m4 E' ((cl,(sq,⟨r2,r1,⟨0,0,0,0⟩⟩))::delL ss cl) (ts) (ar) R) w':=by
 have hN:100*(i+1)≤1000000000:=by omega
 have Hp:=Lib.hid hp
 have HE:=Lib.hid hE
 have H1:=Lib.hid h1
 have H2:=Lib.hid h2
 have H3:=Lib.hid h3
 clear hp hE h1 h2 h3
 go_enter Tryz.func16,Tryz.ntmps16
 go_wp2_with(first|(refine zbx hS ?_;clear hS;intro bO w hS)|((fail_if_success (have:=g1));(refine zal hS ?_;clear hS;have g1:Nat:=0;intro bR w hS))|((have:=g1);(fail_if_success (have:=g2));(refine zal hS ?_;clear hS;have g2:Nat:=0;intro b6 w hS))|((have:=g2);(refine zal hS ?_;clear hS;intro b8 w hS))|(refine zlN hS ?_)|(refine zsN hS ?_;clear hS;intro w hS)|(go_at_call 33;refine(Ba7 hpk W _ _ (hS.s (ecR eb m1 m2 m3 m4 E ss ts ar (blk bR _ _::blk bO _ _::R)))).mono ?_;clear hS;rintro e w ⟨rfl,hS⟩))
 have hS0:=ecKShut (hS.s (ecR eb m1 m2 m3 m4 E ss ts ar (blk bO _ _::blk b8 _ _::blk b6 _ _::blk bR _ _::R)))
 clear hS
 refine rf3 [0,1,3,7,0,0,63,0,255] (fun i=>i==7) (fun i=>if i==6 then some (rV r2 r1 0 0 0 0)else none)
  [⟨some 6,none,fun _=>kdR eb m1 m2 m3 m4 ((ak,V2)::delL vs ak) ss (ts) (ar) (i+1)⟩,⟨some 7,some 8,fun nd=>ptrTo (nd 7) [.int .i64 0,.int .i64 0,.int .i64 0,.int .i64 0,.int .i64 0,.int .i64 0] 31⟩,⟨some 8,none,fun nd=>ptrTo (nd 7) [.int .i64 r2,.int .i64 r1,.int .i64 0,.int .i64 0,.int .i64 0,.int .i64 0] 31⟩] [some 6,none,none] hS0 ?_
 clear hS0
 intro nd
 repeat(first|(refine zc1 ?_)|(refine zcN ?_)|(apply BZ7;rfl;rfl;rfl;(with_reducible rfl);rfl;decide +kernel;(focus(simp only[fD,fI,fJ,Act.eval,fE,fF,fG,fH,fK];try rfl));(intro F w hS;exact kind3 cl sq ak aw tk tw it ct pr bu id ss ts ar W w _ HE.out Hp.out H1.out H2.out H3.out hS);(refine frS ?_))|(refine zca ?_)|(refine zct ?_)|(refine cR ?_))
 refine Ad7 ?_
 intro w hS
 have hS2:St W [kdR eb m1 m2 m3 m4 _ _ _ _ _,ptrTo _ _ _,blk bO _ _,blk b8 _ _,sats (blk b6 _ _::blk bR _ _::R)] w:=hS
 clear hS
 have hS:=hS2.unpack [_,_,_,_]
 clear hS2
 simp only[List.cons_append,List.nil_append]at hS
 generalize nd 7=v9 at *
 obtain⟨E2,hE2,hp2,hS0⟩:=kdOpen hS
 clear hS
 have hS:St W (ptrTo v9 _ _::evP eb m1 m2 m3 m4 E2::amap eI eSs m2 ss::amap eW eTn m3 _::amap eW eU m4 _::blk bO _ _::blk b8 _ _::blk b6 _ _::blk bR _ _::R) w:=hS0.s _
 clear hS0
 have h1:=hS.ptr;clear hS;obtain⟨b9,rfl,hS⟩:=h1
 have hS0:=evOpen hS.swap
 clear hS
 have hS:=hS0
 clear hS0
 have hnd:(E2.map (·.1)).Nodup:=by rw[←AM7];exact amapKeys hS.drop
 have hp3:=Bs7 hnd hp2 ak
 have hok3:=ED7 hE2 ak
 have HE2:=Lib.hid hE2
 have Hp3:=Lib.hid hp3
 have Hok3:=Lib.hid hok3
 clear hnd hp2 hp3 hE2 hok3
 go_wp2_with(first|(refine zl1 hS ?_)|(go_at_call 43;refine(AU7 eb m1 m2 m3 m4 E2 ak (fun x hx=>(HE2.out x hx).w) hN W _ _ (hS.s (ebB eb m1 m2 m3 m4::amap eS eN m1 (ptrsE E2)::vauP E2::amap eI eSs m2 ss::amap eW eTn m3 _::amap eW eU m4 _::blk b9 _ _::blk b8 _ _::blk b6 _ _::blk bR _ _::blk bO _ _::R))).mono ?_;clear hS;rintro e w ⟨rfl,hS⟩))
 refine rt 10 hS ?_
 repeat(first|(refine zq1 ?_)|(refine zqN ?_)|(refine zqn ?_)|(refine qR ?_))
 clear hS
 intro w hS
 simp only[List.drop_succ_cons,List.drop_zero]
 go_wp2_with(first|((with_reducible apply Cd7 (ek:=eI) (ev:=eSs) (k:=cl) (u:=(sq,(⟨r2,r1,⟨0,0,0,0⟩⟩:Rpl))) hS);(with_reducible rfl);rfl;rfl;rfl;(exact takeS);(focus(rfl));exact mS;exact kEi;clear hS;intro w hS;try(refine frS ?_))|(refine zlN hS ?_)|(refine zsN hS ?_;clear hS;intro w hS))
 (apply Ac7;rfl;rfl;rfl;rfl;exact hS;decide +kernel;(exact cesS);kernel_rfl)
 exact⟨_,Hok3.out,Hp3.out,rfl,evShut (hS.s (ebB eb m1 m2 m3 m4::amap eS eN m1 _::vauP _::amap eI eSs m2 _::amap eW eTn m3 _::amap eW eU m4 _::R))⟩
theorem app4(hpk:peekE ⟨vs,ss,ts,ar⟩ ⟨4,cl,sq,ak,aw,tk,tw,it,ct,pr,bu,id⟩=(rp0,false))(hE:EvOk E i)(hi:i≤1000000)(hp:(stripE E).Perm vs){r:Int}{V2:Vs}(h1:(canV (vAt E ak) aw id).1=r)(h2:(canV (vAt E ak) aw id).2=V2)(hS:St W (ecR eb m1 m2 m3 m4 E ss ts ar R) w):
  Calls Tryz.prog 16 #[.pointer (some ⟨eb,0,none⟩),oV 4 cl sq ak aw tk tw it ct pr bu id] w fun e w'=>∃E',EvOk E' (i+1)∧(stripE E').Perm (tidV ((ak,V2)::delL vs ak) ak)∧e=.returned (.tuple #[rV r 0 0 0 0 0,.bool true]) ∧
   St W (ecR eb m1 m2 m3 m4 E' ((cl,(sq,⟨r,0,⟨0,0,0,0⟩⟩))::delL ss cl) (ts) (ar) R) w':=by
 have hN:100*(i+1)≤1000000000:=by omega
 have Hp:=Lib.hid hp
 have HE:=Lib.hid hE
 have H1:=Lib.hid h1
 have H2:=Lib.hid h2
 clear hp hE h1 h2
 go_enter Tryz.func16,Tryz.ntmps16
 go_wp2_with(first|(refine zbx hS ?_;clear hS;intro bO w hS)|((fail_if_success (have:=g1));(refine zal hS ?_;clear hS;have g1:Nat:=0;intro bR w hS))|((have:=g1);(fail_if_success (have:=g2));(refine zal hS ?_;clear hS;have g2:Nat:=0;intro b6 w hS))|((have:=g2);(refine zal hS ?_;clear hS;intro b8 w hS))|(refine zlN hS ?_)|(refine zsN hS ?_;clear hS;intro w hS)|(go_at_call 33;refine(Ba7 hpk W _ _ (hS.s (ecR eb m1 m2 m3 m4 E ss ts ar (blk bR _ _::blk bO _ _::R)))).mono ?_;clear hS;rintro e w ⟨rfl,hS⟩))
 have hS0:=ecKShut (hS.s (ecR eb m1 m2 m3 m4 E ss ts ar (blk bO _ _::blk b8 _ _::blk b6 _ _::blk bR _ _::R)))
 clear hS
 refine rf3 [0,1,3,7,0,0,63,0,255] (fun i=>i==7) (fun i=>if i==6 then some (rV r 0 0 0 0 0)else none)
  [⟨some 6,none,fun _=>kdR eb m1 m2 m3 m4 ((ak,V2)::delL vs ak) ss (ts) (ar) (i+1)⟩,⟨some 7,some 8,fun nd=>ptrTo (nd 7) [.int .i64 0,.int .i64 0,.int .i64 0,.int .i64 0,.int .i64 0,.int .i64 0] 31⟩,⟨some 8,none,fun nd=>ptrTo (nd 7) [.int .i64 r,.int .i64 0,.int .i64 0,.int .i64 0,.int .i64 0,.int .i64 0] 31⟩] [some 6,none,none] hS0 ?_
 clear hS0
 intro nd
 repeat(first|(refine zc1 ?_)|(refine zcN ?_)|(apply BZ7;rfl;rfl;rfl;(with_reducible rfl);rfl;decide +kernel;(focus(simp only[fD,fI,fJ,Act.eval,fE,fF,fG,fH,fK];try rfl));(intro F w hS;exact kind4 cl sq ak aw tk tw it ct pr bu id ss ts ar W w _ HE.out Hp.out H1.out H2.out hS);(refine frS ?_))|(refine zca ?_)|(refine zct ?_)|(refine cR ?_))
 refine Ad7 ?_
 intro w hS
 have hS2:St W [kdR eb m1 m2 m3 m4 _ _ _ _ _,ptrTo _ _ _,blk bO _ _,blk b8 _ _,sats (blk b6 _ _::blk bR _ _::R)] w:=hS
 clear hS
 have hS:=hS2.unpack [_,_,_,_]
 clear hS2
 simp only[List.cons_append,List.nil_append]at hS
 generalize nd 7=v9 at *
 obtain⟨E2,hE2,hp2,hS0⟩:=kdOpen hS
 clear hS
 have hS:St W (ptrTo v9 _ _::evP eb m1 m2 m3 m4 E2::amap eI eSs m2 ss::amap eW eTn m3 _::amap eW eU m4 _::blk bO _ _::blk b8 _ _::blk b6 _ _::blk bR _ _::R) w:=hS0.s _
 clear hS0
 have h1:=hS.ptr;clear hS;obtain⟨b9,rfl,hS⟩:=h1
 have hS0:=evOpen hS.swap
 clear hS
 have hS:=hS0
 clear hS0
 have hnd:(E2.map (·.1)).Nodup:=by rw[←AM7];exact amapKeys hS.drop
 have hp3:=Bs7 hnd hp2 ak
 have hok3:=ED7 hE2 ak
 have HE2:=Lib.hid hE2
 have Hp3:=Lib.hid hp3
 have Hok3:=Lib.hid hok3
 clear hnd hp2 hp3 hE2 hok3
 go_wp2_with(first|(refine zl1 hS ?_)|(go_at_call 43;refine(AU7 eb m1 m2 m3 m4 E2 ak (fun x hx=>(HE2.out x hx).w) hN W _ _ (hS.s (ebB eb m1 m2 m3 m4::amap eS eN m1 (ptrsE E2)::vauP E2::amap eI eSs m2 ss::amap eW eTn m3 _::amap eW eU m4 _::blk b9 _ _::blk b8 _ _::blk b6 _ _::blk bR _ _::blk bO _ _::R))).mono ?_;clear hS;rintro e w ⟨rfl,hS⟩))
 refine rt 10 hS ?_
 repeat(first|(refine zq1 ?_)|(refine zqN ?_)|(refine zqn ?_)|(refine qR ?_))
 clear hS
 intro w hS
 simp only[List.drop_succ_cons,List.drop_zero]
 go_wp2_with(first|((with_reducible apply Cd7 (ek:=eI) (ev:=eSs) (k:=cl) (u:=(sq,(⟨r,0,⟨0,0,0,0⟩⟩:Rpl))) hS);(with_reducible rfl);rfl;rfl;rfl;(exact takeS);(focus(rfl));exact mS;exact kEi;clear hS;intro w hS;try(refine frS ?_))|(refine zlN hS ?_)|(refine zsN hS ?_;clear hS;intro w hS))
 (apply Ac7;rfl;rfl;rfl;rfl;exact hS;decide +kernel;(exact cesS);kernel_rfl)
 exact⟨_,Hok3.out,Hp3.out,rfl,evShut (hS.s (ebB eb m1 m2 m3 m4::amap eS eN m1 _::vauP _::amap eI eSs m2 _::amap eW eTn m3 _::amap eW eU m4 _::R))⟩
theorem app5(hpk:peekE ⟨vs,ss,ts,ar⟩ ⟨5,cl,sq,ak,aw,tk,tw,it,ct,pr,bu,id⟩=(rp0,false))(hE:EvOk E i)(hi:i≤1000000)(hp:(stripE E).Perm vs){x0 x1 x2 x3:Int}(hx:purseA (vAt E ak).ps aw=⟨x0,x1,x2,x3⟩)(hS:St W (ecR eb m1 m2 m3 m4 E ss ts ar R) w):
  Calls Tryz.prog 16 #[.pointer (some ⟨eb,0,none⟩),oV 5 cl sq ak aw tk tw it ct pr bu id] w fun e w'=>∃E',EvOk E' (i+1)∧(stripE E').Perm (tidV (vs) ak)∧e=.returned (.tuple #[rV 0 0 x0 x1 x2 x3,.bool true]) ∧
   St W (ecR eb m1 m2 m3 m4 E' ((cl,(sq,⟨0,0,⟨x0,x1,x2,x3⟩⟩))::delL ss cl) (ts) (ar) R) w':=by
 have hN:100*(i+1)≤1000000000:=by omega
 have Hp:=Lib.hid hp
 have HE:=Lib.hid hE
 have Hx:=Lib.hid hx
 clear hp hE hx
 go_enter Tryz.func16,Tryz.ntmps16
 go_wp2_with(first|(refine zbx hS ?_;clear hS;intro bO w hS)|((fail_if_success (have:=g1));(refine zal hS ?_;clear hS;have g1:Nat:=0;intro bR w hS))|((have:=g1);(fail_if_success (have:=g2));(refine zal hS ?_;clear hS;have g2:Nat:=0;intro b6 w hS))|((have:=g2);(refine zal hS ?_;clear hS;intro b8 w hS))|(refine zlN hS ?_)|(refine zsN hS ?_;clear hS;intro w hS)|(go_at_call 33;refine(Ba7 hpk W _ _ (hS.s (ecR eb m1 m2 m3 m4 E ss ts ar (blk bR _ _::blk bO _ _::R)))).mono ?_;clear hS;rintro e w ⟨rfl,hS⟩))
 have hS0:=ecKShut (hS.s (ecR eb m1 m2 m3 m4 E ss ts ar (blk bO _ _::blk b8 _ _::blk b6 _ _::blk bR _ _::R)))
 clear hS
 refine rf3 [0,1,3,7,0,0,63,0,255] (fun i=>i==7) (fun i=>if i==6 then some (rV 0 0 x0 x1 x2 x3)else none)
  [⟨some 6,none,fun _=>kdR eb m1 m2 m3 m4 (vs) ss (ts) (ar) (i+1)⟩,⟨some 7,some 8,fun nd=>ptrTo (nd 7) [.int .i64 0,.int .i64 0,.int .i64 0,.int .i64 0,.int .i64 0,.int .i64 0] 31⟩,⟨some 8,none,fun nd=>ptrTo (nd 7) [.int .i64 0,.int .i64 0,.int .i64 x0,.int .i64 x1,.int .i64 x2,.int .i64 x3] 31⟩] [some 6,none,none] hS0 ?_
 clear hS0
 intro nd
 repeat(first|(refine zc1 ?_)|(refine zcN ?_)|(apply BZ7;rfl;rfl;rfl;(with_reducible rfl);rfl;decide +kernel;(focus(simp only[fD,fI,fJ,Act.eval,fE,fF,fG,fH,fK];try rfl));(intro F w hS;exact kind5 cl sq ak aw tk tw it ct pr bu id ss ts ar W w _ HE.out Hp.out Hx.out hS);(refine frS ?_))|(refine zca ?_)|(refine zct ?_)|(refine cR ?_))
 refine Ad7 ?_
 intro w hS
 have hS2:St W [kdR eb m1 m2 m3 m4 _ _ _ _ _,ptrTo _ _ _,blk bO _ _,blk b8 _ _,sats (blk b6 _ _::blk bR _ _::R)] w:=hS
 clear hS
 have hS:=hS2.unpack [_,_,_,_]
 clear hS2
 simp only[List.cons_append,List.nil_append]at hS
 generalize nd 7=v9 at *
 obtain⟨E2,hE2,hp2,hS0⟩:=kdOpen hS
 clear hS
 have hS:St W (ptrTo v9 _ _::evP eb m1 m2 m3 m4 E2::amap eI eSs m2 ss::amap eW eTn m3 _::amap eW eU m4 _::blk bO _ _::blk b8 _ _::blk b6 _ _::blk bR _ _::R) w:=hS0.s _
 clear hS0
 have h1:=hS.ptr;clear hS;obtain⟨b9,rfl,hS⟩:=h1
 have hS0:=evOpen hS.swap
 clear hS
 have hS:=hS0
 clear hS0
 have hnd:(E2.map (·.1)).Nodup:=by rw[←AM7];exact amapKeys hS.drop
 have hp3:=Bs7 hnd hp2 ak
 have hok3:=ED7 hE2 ak
 have HE2:=Lib.hid hE2
 have Hp3:=Lib.hid hp3
 have Hok3:=Lib.hid hok3
 clear hnd hp2 hp3 hE2 hok3
 go_wp2_with(first|(refine zl1 hS ?_)|(go_at_call 43;refine(AU7 eb m1 m2 m3 m4 E2 ak (fun x hx=>(HE2.out x hx).w) hN W _ _ (hS.s (ebB eb m1 m2 m3 m4::amap eS eN m1 (ptrsE E2)::vauP E2::amap eI eSs m2 ss::amap eW eTn m3 _::amap eW eU m4 _::blk b9 _ _::blk b8 _ _::blk b6 _ _::blk bR _ _::blk bO _ _::R))).mono ?_;clear hS;rintro e w ⟨rfl,hS⟩))
 refine rt 10 hS ?_
 repeat(first|(refine zq1 ?_)|(refine zqN ?_)|(refine zqn ?_)|(refine qR ?_))
 clear hS
 intro w hS
 simp only[List.drop_succ_cons,List.drop_zero]
 go_wp2_with(first|((with_reducible apply Cd7 (ek:=eI) (ev:=eSs) (k:=cl) (u:=(sq,(⟨0,0,⟨x0,x1,x2,x3⟩⟩:Rpl))) hS);(with_reducible rfl);rfl;rfl;rfl;(exact takeS);(focus(rfl));exact mS;exact kEi;clear hS;intro w hS;try(refine frS ?_))|(refine zlN hS ?_)|(refine zsN hS ?_;clear hS;intro w hS))
 (apply Ac7;rfl;rfl;rfl;rfl;exact hS;decide +kernel;(exact cesS);kernel_rfl)
 exact⟨_,Hok3.out,Hp3.out,rfl,evShut (hS.s (ebB eb m1 m2 m3 m4::amap eS eN m1 _::vauP _::amap eI eSs m2 _::amap eW eTn m3 _::amap eW eU m4 _::R))⟩
theorem app6(hpk:peekE ⟨vs,ss,ts,ar⟩ ⟨6,cl,sq,ak,aw,tk,tw,it,ct,pr,bu,id⟩=(rp0,false))(hE:EvOk E i)(hi:i≤1000000)(hp:(stripE E).Perm vs)(h0:0≤it)(h4:it<4)(c0:1≤ct)(c1:ct≤1048576){q:Ps}(hq:putP (vAt E ak).ps aw (oneI it ct)=q)(hS:St W (ecR eb m1 m2 m3 m4 E ss ts ar R) w):
  Calls Tryz.prog 16 #[.pointer (some ⟨eb,0,none⟩),oV 6 cl sq ak aw tk tw it ct pr bu id] w fun e w'=>∃E',EvOk E' (i+1)∧(stripE E').Perm (tidV ((ak,⟨q,(vAt E ak).L,(vAt E ak).n⟩)::delL vs ak) ak)∧e=.returned (.tuple #[rV 0 0 0 0 0 0,.bool true]) ∧
   St W (ecR eb m1 m2 m3 m4 E' ss (ts) (((cl,sq),())::delL ar (cl,sq)) R) w':=by
 have hN:100*(i+1)≤1000000000:=by omega
 have Hp:=Lib.hid hp
 have HE:=Lib.hid hE
 have Hq:=Lib.hid hq
 clear hp hE hq
 go_enter Tryz.func16,Tryz.ntmps16
 go_wp2_with(first|(refine zbx hS ?_;clear hS;intro bO w hS)|((fail_if_success (have:=g1));(refine zal hS ?_;clear hS;have g1:Nat:=0;intro bR w hS))|((have:=g1);(fail_if_success (have:=g2));(refine zal hS ?_;clear hS;have g2:Nat:=0;intro b6 w hS))|((have:=g2);(refine zal hS ?_;clear hS;intro b8 w hS))|(refine zlN hS ?_)|(refine zsN hS ?_;clear hS;intro w hS)|(go_at_call 33;refine(Ba7 hpk W _ _ (hS.s (ecR eb m1 m2 m3 m4 E ss ts ar (blk bR _ _::blk bO _ _::R)))).mono ?_;clear hS;rintro e w ⟨rfl,hS⟩))
 have hS0:=ecKShut (hS.s (ecR eb m1 m2 m3 m4 E ss ts ar (blk bO _ _::blk b8 _ _::blk b6 _ _::blk bR _ _::R)))
 clear hS
 refine rf3 [0,1,3,7,0,0,63,0,255] (fun i=>i==7) (fun i=>if i==6 then some (rV 0 0 0 0 0 0)else none)
  [⟨some 6,none,fun _=>kdR eb m1 m2 m3 m4 ((ak,⟨q,(vAt E ak).L,(vAt E ak).n⟩)::delL vs ak) ss (ts) (((cl,sq),())::delL ar (cl,sq)) (i+1)⟩,⟨some 7,some 8,fun nd=>ptrTo (nd 7) [.int .i64 0,.int .i64 0,.int .i64 0,.int .i64 0,.int .i64 0,.int .i64 0] 31⟩,⟨some 8,none,fun nd=>ptrTo (nd 7) [.int .i64 0,.int .i64 0,.int .i64 0,.int .i64 0,.int .i64 0,.int .i64 0] 31⟩] [some 6,none,none] hS0 ?_
 clear hS0
 intro nd
 repeat(first|(refine zc1 ?_)|(refine zcN ?_)|(apply BZ7;rfl;rfl;rfl;(with_reducible rfl);rfl;decide +kernel;(focus(simp only[fD,fI,fJ,Act.eval,fE,fF,fG,fH,fK];try rfl));(intro F w hS;exact kind6 cl sq ak aw tk tw it ct pr bu id ss ts ar W w _ HE.out Hp.out h0 h4 c0 c1 Hq.out hS);(refine frS ?_))|(refine zca ?_)|(refine zct ?_)|(refine cR ?_))
 refine Ad7 ?_
 intro w hS
 have hS2:St W [kdR eb m1 m2 m3 m4 _ _ _ _ _,ptrTo _ _ _,blk bO _ _,blk b8 _ _,sats (blk b6 _ _::blk bR _ _::R)] w:=hS
 clear hS
 have hS:=hS2.unpack [_,_,_,_]
 clear hS2
 simp only[List.cons_append,List.nil_append]at hS
 generalize nd 7=v9 at *
 obtain⟨E2,hE2,hp2,hS0⟩:=kdOpen hS
 clear hS
 have hS:St W (ptrTo v9 _ _::evP eb m1 m2 m3 m4 E2::amap eI eSs m2 ss::amap eW eTn m3 _::amap eW eU m4 _::blk bO _ _::blk b8 _ _::blk b6 _ _::blk bR _ _::R) w:=hS0.s _
 clear hS0
 have h1:=hS.ptr;clear hS;obtain⟨b9,rfl,hS⟩:=h1
 have hS0:=evOpen hS.swap
 clear hS
 have hS:=hS0
 clear hS0
 have hnd:(E2.map (·.1)).Nodup:=by rw[←AM7];exact amapKeys hS.drop
 have hp3:=Bs7 hnd hp2 ak
 have hok3:=ED7 hE2 ak
 have HE2:=Lib.hid hE2
 have Hp3:=Lib.hid hp3
 have Hok3:=Lib.hid hok3
 clear hnd hp2 hp3 hE2 hok3
 go_wp2_with(first|go_big_skip|(refine zl1 hS ?_)|(refine zlN hS ?_)|(refine zsN hS ?_;clear hS;intro w hS)|(go_at_call 43;refine(AU7 eb m1 m2 m3 m4 E2 ak (fun x hx=>(HE2.out x hx).w) hN W _ _ (hS.s (ebB eb m1 m2 m3 m4::amap eS eN m1 (ptrsE E2)::vauP E2::amap eI eSs m2 ss::amap eW eTn m3 _::amap eW eU m4 _::blk b9 _ _::blk b8 _ _::blk b6 _ _::blk bR _ _::blk bO _ _::R))).mono ?_;clear hS;rintro e w ⟨rfl,hS⟩))
 skip
 (apply Ac7;rfl;rfl;rfl;rfl;exact hS;decide +kernel;(exact cesS);kernel_rfl)
 exact⟨_,Hok3.out,Hp3.out,rfl,evShut (hS.s (ebB eb m1 m2 m3 m4::amap eS eN m1 _::vauP _::amap eI eSs m2 _::amap eW eTn m3 _::amap eW eU m4 _::R))⟩
theorem app7(hpk:peekE ⟨vs,ss,ts,ar⟩ ⟨7,cl,sq,ak,aw,tk,tw,it,ct,pr,bu,id⟩=(rp0,false))(hE:EvOk E i)(hi:i≤1000000)(hp:(stripE E).Perm vs)  (hS:St W (ecR eb m1 m2 m3 m4 E ss ts ar R) w):
  Calls Tryz.prog 16 #[.pointer (some ⟨eb,0,none⟩),oV 7 cl sq ak aw tk tw it ct pr bu id] w fun e w'=>∃E',EvOk E' (i+1)∧(stripE E').Perm (tidV (vs) ak)∧e=.returned (.tuple #[rV 0 0 0 0 0 0,.bool true]) ∧
   St W (ecR eb m1 m2 m3 m4 E' ss (delL ts (cl,sq)) (ar) R) w':=by
 have hN:100*(i+1)≤1000000000:=by omega
 have Hp:=Lib.hid hp
 have HE:=Lib.hid hE
 clear hp hE
 go_enter Tryz.func16,Tryz.ntmps16
 go_wp2_with(first|(refine zbx hS ?_;clear hS;intro bO w hS)|((fail_if_success (have:=g1));(refine zal hS ?_;clear hS;have g1:Nat:=0;intro bR w hS))|((have:=g1);(fail_if_success (have:=g2));(refine zal hS ?_;clear hS;have g2:Nat:=0;intro b6 w hS))|((have:=g2);(refine zal hS ?_;clear hS;intro b8 w hS))|(refine zlN hS ?_)|(refine zsN hS ?_;clear hS;intro w hS)|(go_at_call 33;refine(Ba7 hpk W _ _ (hS.s (ecR eb m1 m2 m3 m4 E ss ts ar (blk bR _ _::blk bO _ _::R)))).mono ?_;clear hS;rintro e w ⟨rfl,hS⟩))
 have hS0:=ecKShut (hS.s (ecR eb m1 m2 m3 m4 E ss ts ar (blk bO _ _::blk b8 _ _::blk b6 _ _::blk bR _ _::R)))
 clear hS
 refine rf3 [0,1,3,7,0,0,63,0,255] (fun i=>i==7) (fun i=>if i==6 then some (rV 0 0 0 0 0 0)else none)
  [⟨some 6,none,fun _=>kdR eb m1 m2 m3 m4 (vs) ss (delL ts (cl,sq)) (ar) (i+1)⟩,⟨some 7,some 8,fun nd=>ptrTo (nd 7) [.int .i64 0,.int .i64 0,.int .i64 0,.int .i64 0,.int .i64 0,.int .i64 0] 31⟩,⟨some 8,none,fun nd=>ptrTo (nd 7) [.int .i64 0,.int .i64 0,.int .i64 0,.int .i64 0,.int .i64 0,.int .i64 0] 31⟩] [some 6,none,none] hS0 ?_
 clear hS0
 intro nd
 repeat(first|(refine zc1 ?_)|(refine zcN ?_)|(apply BZ7;rfl;rfl;rfl;(with_reducible rfl);rfl;decide +kernel;(focus(simp only[fD,fI,fJ,Act.eval,fE,fF,fG,fH,fK];try rfl));(intro F w hS;exact kind7 cl sq ak aw tk tw it ct pr bu id ss ts ar W w _ HE.out Hp.out hS);(refine frS ?_))|(refine zca ?_)|(refine zct ?_)|(refine cR ?_))
 refine Ad7 ?_
 intro w hS
 have hS2:St W [kdR eb m1 m2 m3 m4 _ _ _ _ _,ptrTo _ _ _,blk bO _ _,blk b8 _ _,sats (blk b6 _ _::blk bR _ _::R)] w:=hS
 clear hS
 have hS:=hS2.unpack [_,_,_,_]
 clear hS2
 simp only[List.cons_append,List.nil_append]at hS
 generalize nd 7=v9 at *
 obtain⟨E2,hE2,hp2,hS0⟩:=kdOpen hS
 clear hS
 have hS:St W (ptrTo v9 _ _::evP eb m1 m2 m3 m4 E2::amap eI eSs m2 ss::amap eW eTn m3 _::amap eW eU m4 _::blk bO _ _::blk b8 _ _::blk b6 _ _::blk bR _ _::R) w:=hS0.s _
 clear hS0
 have h1:=hS.ptr;clear hS;obtain⟨b9,rfl,hS⟩:=h1
 have hS0:=evOpen hS.swap
 clear hS
 have hS:=hS0
 clear hS0
 have hnd:(E2.map (·.1)).Nodup:=by rw[←AM7];exact amapKeys hS.drop
 have hp3:=Bs7 hnd hp2 ak
 have hok3:=ED7 hE2 ak
 have HE2:=Lib.hid hE2
 have Hp3:=Lib.hid hp3
 have Hok3:=Lib.hid hok3
 clear hnd hp2 hp3 hE2 hok3
 go_wp2_with(first|(refine zl1 hS ?_)|(refine zlN hS ?_)|(refine zsN hS ?_;clear hS;intro w hS)|(go_at_call 43;refine(AU7 eb m1 m2 m3 m4 E2 ak (fun x hx=>(HE2.out x hx).w) hN W _ _ (hS.s (ebB eb m1 m2 m3 m4::amap eS eN m1 (ptrsE E2)::vauP E2::amap eI eSs m2 ss::amap eW eTn m3 _::amap eW eU m4 _::blk b9 _ _::blk b8 _ _::blk b6 _ _::blk bR _ _::blk bO _ _::R))).mono ?_;clear hS;rintro e w ⟨rfl,hS⟩))
 skip
 (apply Ac7;rfl;rfl;rfl;rfl;exact hS;decide +kernel;(exact cesS);kernel_rfl)
 exact⟨_,Hok3.out,Hp3.out,rfl,evShut (hS.s (ebB eb m1 m2 m3 m4::amap eS eN m1 _::vauP _::amap eI eSs m2 _::amap eW eTn m3 _::amap eW eU m4 _::R))⟩
end
end Go.Proofs.YtlmhakmoioogaaaGreat
end
