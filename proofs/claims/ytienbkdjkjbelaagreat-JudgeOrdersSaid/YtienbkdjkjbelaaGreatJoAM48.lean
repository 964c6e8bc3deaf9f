/-
  JudgeOrders.
-/
import Derived.Test.YtienbkdjkjbelaaGreatJoAM5
import Derived.Test.YtienbkdjkjbelaaGreatJoAM46
import Derived.Test.YtienbkdjkjbelaaGreatJoAM47
set_option maxHeartbeats 16000000
set_option maxRecDepth 100000
set_option linter.unusedSimpArgs false
set_option linter.unusedVariables false
section
namespace Go.Proofs.YtienbkdjkjbelaaGreat
open Go.RowKit Go.Sl
theorem Nj7{xb n:Nat}{d:Ec}{z:List Int}(hN:EnL d n)(hn:n<=600)(he:aU4 d)(h1:(d.vs.map (·.1)).Nodup)(h2:(d.ss.map (·.1)).Nodup)(hz:ee4 d=z){W w:World}{L R:List HP}(ht:Take L (aD4 xb d) R)(hS:St W L w):
  Calls Tryz.prog 23 #[.P xb] w fun e w'=>∃v,e=.returned v/\St W (byR v z::L) w':=by
 obtain⟨v1,v2,v3,v4,D,hd,hS0⟩:=dt4 (hS.take ht);clear hS;obtain⟨a1,c1,rfl⟩:=hS0.drop.rowVal;obtain⟨a2,c2,rfl⟩:=hS0.drop.drop.drop.rowVal;obtain⟨a3,c3,rfl⟩:=hS0.drop.drop.drop.drop.rowVal;obtain⟨a4,c4,rfl⟩:=hS0.drop.drop.drop.drop.drop.rowVal;refine(Ng7 (Rc7 hd hN hn he) xb a1 a2 a3 a4 c1 c2 c3 c4 W w R (hS0.s _)).mono ?_;rintro e w' ⟨v,rfl,hS⟩;rw[Qs7 hd h1 h2,hz]at hS;refine⟨v,rfl,?_⟩;have h3:=cm4 hd (hS.s (cQ4 xb (.slice a1 D.length c1) (.slice a2 d.ss.length c2) (.slice a3 d.ts.length c3) (.slice a4 d.ar.length c4) D d (byR v z::R)));exact h3.back (.tail ht)
theorem ordersJ_spec(xs:List Opn)(v:Value)(V:World)(hv:F7 Opn.cells 12 V v xs)(W w:World)(Lr:List HP)(hS:St W (Old V::Lr) w):
  Calls Tryz.prog 6 #[v] w fun e w'=>e=.returned (.bool true)/\St W (Old V::Lr) w':=by
 have Hv:=jH hv;clear hv;go_enter Tryz.func6,Tryz.ntmps6;go_wp2_with(first|go_big_skip|(go_at_call 7;refine(OP7 Hv.out W _ _ hS).mono ?_;clear hS;rintro e w ⟨hv9,h150,rfl,hS⟩;cases hv9))
 rotate_left
 ·go_ret;exact⟨rfl,hS⟩
 have hlen:xs.length<=150:=by first|exact h150 rfl|exact h150 trivial
 clear h150;have hj:=Qk7 xs;have hE:=Ql7 xs;have hD:=Qj7 hE hj.ok.sim;have heD:=OG7 hj.each hj.ok.sim;have hz0:=Qi7 hj.ok.sim;have Hsim:=jH hj.ok.sim;have HN:=jH hE;have HD:=jH hD;have HeD:=jH heD;obtain⟨z,hz⟩:∃z,ee4 (aY4 xs ec0)=z:=⟨_,rfl⟩
 rw[hz]at hz0;have Hz0:=jH hz0;have Hz:=jH hz;have Hpos:=jH (Nh7 hz0);have hrl:(s7 xs ec0).length<=150:=by rw[AZ7];exact hlen
 clear hj hE hD heD hz0 hz;go_wp2_with(first|go_big_skip|go_at_call 8;refine(Ic7 xs hlen _ V Hv.out W _ _ hS).mono ?_;clear hS;rintro e w ⟨va,vb,rfl,hS⟩|go_at_call 21;refine(Na7 (BN7 xs) hlen (T:=76) (evs:=J7 xs) (by exact i8) hS).mono ?_;clear hS;rintro e w ⟨vr,eb,rfl,hS⟩;obtain⟨ra,rc,rfl⟩:=hS.rowVal|go_at_call 12;refine(Nb7 (BN7 xs) hlen (T:=77) (evs:=J7 xs) (by exact i8) hS).mono ?_;clear hS;rintro e w ⟨vs,xb,rfl,hS⟩;obtain⟨sa,sc,rfl⟩:=hS.rowVal);have hS1:=hS.s (ecP eb (K7 xs ec0)::aD4 xb (aY4 xs ec0)::aC4 (.slice ra (s7 xs ec0).length rc) (s7 xs ec0)::aC4 (.slice sa (s7 xs ec0).length sc) (s7 xs ec0)::evR 76 va (J7 xs)::evR 77 vb (J7 xs)::Old V::Lr);clear hS;have hS:=hS1;clear hS1;generalize s7 xs ec0=rs at *;generalize K7 xs ec0=e at *;generalize aY4 xs ec0=d at *;refine rf3 [0,1,0,4,15,31,63,127,255,511,1023,2047,4095,1023,12287,28671,65535,131071] (fun i=>i==11||i==14) (fun _=>none) [⟨some 11,none,fun nd=>byR (nd 11) z⟩,⟨some 14,none,fun nd=>byR (nd 14) z⟩] [none,none,none,none,none,none,none] hS ?_;clear hS;intro nd
 iterate 11 (refine cR ?_)
 (apply AH7;rfl;rfl;rfl;decide +kernel;(focus(simp only[fD,fI,fJ,Act.eval,fE,fF,fG,fH,fK];try rfl));intro _;rfl;intro F w hS;exact Ni7 Hz0.out HN.out (by omega) .head hS;refine frS ?_);apply FL7 (ns:=z);rfl;kernel_rfl;rfl;rfl;rfl;exact Tryz.underlying73;exact Tryz.underlying5;exact Tryz.underlying9;exact Hpos.out;(intro F;exact⟨_,by exact w8⟩);(refine frS ?_);refine cR ?_;apply AH7;rfl;rfl;rfl;decide +kernel;(focus(simp only[fD,fI,fJ,Act.eval,fE,fF,fG,fH,fK];try rfl));(intro _;rfl);(intro F w hS;exact Nj7 HD.out (by omega) HeD.out Hsim.out.vn Hsim.out.sn Hz.out (.tail (.tail .head)) hS);(refine frS ?_);apply FL7 (ns:=z);rfl;kernel_rfl;rfl;rfl;rfl;exact Tryz.underlying73;exact Tryz.underlying5;exact Tryz.underlying9;exact Hpos.out;(intro F;exact⟨_,by exact w8⟩);(refine frS ?_)
 iterate 2 (refine cR ?_)
 refine Ad7 ?_;intro w hS;have hS2:St W [byR (nd 11) _,byR (nd 14) _,ecP eb e,aD4 xb d,aC4 _ rs,aC4 _ rs,evR _ va _,evR _ vb _,Old V,sats Lr] w:=hS;clear hS;have hS3:=hS2.unpack [_,_,_,_,_,_,_,_,_];simp only[jK,jN]at hS3;clear hS2;have hS:=hS3.s (aC4 (.slice ra rs.length rc) rs::aC4 (.slice sa rs.length sc) rs::evR 76 va (J7 xs)::evR 77 vb (J7 xs)::Old V::Lr);clear hS3;go_wp2_with fail
 go_loopw [9] (fun v wr=>OnR W (aC4 (.slice ra rs.length rc) rs::aC4 (.slice sa rs.length sc) rs::evR 76 va (J7 xs)::evR 77 vb (J7 xs)::Old V::Lr) rs.length v wr) (fun v _=>rs.length-(intOf v).toNat)
 case atStart=>exact⟨0,rfl,Nat.zero_le _,hS⟩
 case round=>
  clear hS;obtain⟨i,rfl,hi,hS⟩:=hrel;by_cases hiz:i<rs.length
  case pos=>
   have hd1:decide (i<rs.length)=true:=decide_eq_true hiz;obtain⟨⟨g,rfl⟩,_,_⟩:=St.rowAddr hS (by omega);obtain⟨⟨g2,rfl⟩,hcap2,hcn2⟩:=St.rowAddr hS.drop (by omega);have hca:∀{K K':List HP},Take K (aC4 (.S g rs.length rc) rs) K'->i6 K g (i*6) rs[i].cells:=fun hu=>i6.elemM Rpl.len6 hu hiz
   have hcb:∀{K K':List HP},Take K (aC4 (.S g2 rs.length sc) rs) K'->i6 K g2 (i*6) rs[i].cells:=fun hu=>i6.elemM Rpl.len6 hu hiz
   generalize rs[i]=r at hca hcb;obtain⟨r0,r1,⟨r2,r3,r4,r5⟩⟩:=r;simp only[Rpl.cells,It.cells]at hca hcb;have her:Rpl.eqB ⟨r0,r1,⟨r2,r3,r4,r5⟩⟩ ⟨r0,r1,⟨r2,r3,r4,r5⟩⟩=true:=by unfold Rpl.eqB;simp
   go_wp2_with(first|go_big_skip);refine Aa7 (by kernel_rfl) (by kernel_rfl) hS ?_
   repeat(first|go_big_quiet_skip|refine zqN ?_ (vs:=[.I r0,.I r1,.I r2,.I r3,.I r4,.I r5]) (hc:=by first|exact hca (by exact i8)|exact hcb (by exact i8))|(apply QF7);rfl;rfl;rfl;rfl;kernel_rfl;exact GA7 her;simp only[Bool.not_true];refine frS ?_|refine qR ?_)
   clear hS;intro w hS;go_wp2_with fail;go_roundw
   case rel=>exact⟨i+1,rfl,hiz,hS⟩
   case measure=>simp[intOf];omega
  have hd1:decide (i<rs.length)=false:=decide_eq_false hiz;clear hi hiz;go_wp2_with(first|go_big_skip|go_at_call 14;refine(If7 (BN7 xs) hlen (T:=76) (evs:=J7 xs) (by exact i8) hS).mono ?_;clear hS;rintro e w ⟨n1,rfl,hn1,hS⟩;have Hn1:=jH hn1;clear hn1|go_at_call 13;refine(Nc7 (BN7 xs) hlen (T:=77) (evs:=J7 xs) (by exact i8) hS).mono ?_;clear hS;rintro e w ⟨n2,rfl,hn2,hS⟩;obtain rfl:=JY7 hn2 Hn1.out;clear hn2|go_at_call 11;refine(Jf7 W _ _ hS).mono ?_;clear hS;rintro e w ⟨rfl,hS⟩);go_ret;exact⟨rfl,hS.s _⟩
end Go.Proofs.YtienbkdjkjbelaaGreat
end
