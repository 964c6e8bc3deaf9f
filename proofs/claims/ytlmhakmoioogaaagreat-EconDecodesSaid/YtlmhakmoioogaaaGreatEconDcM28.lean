/-
  Both economies tell the same, whatever their totals are.
-/
import Derived.Test.YtlmhakmoioogaaaGreatEconDcM4
import Derived.Test.YtlmhakmoioogaaaGreatEconDcM23
import Derived.Test.YtlmhakmoioogaaaGreatEconDcM24
import Derived.Test.YtlmhakmoioogaaaGreatEconDcM26
import Derived.Test.YtlmhakmoioogaaaGreatEconDcM27
set_option maxHeartbeats 16000000
set_option maxRecDepth 100000
set_option linter.unusedSimpArgs false
set_option linter.unusedVariables false
section
namespace Go.Proofs.YtlmhakmoioogaaaGreat
open Go.RowKit Go.Sl
structure SimW(d e:Ec):Prop where
 v:d.vs.Perm e.vs
 s:d.ss.Perm e.ss
 t:d.ts.Perm e.ts
 a:d.ar.Perm e.ar
 va:Asc ltB d.vs
 sa:Asc ltI d.ss
 ta:Asc ltW d.ts
 aa:Asc ltW d.ar
theorem SimE.w{d e:Ec}(h:SimE d e):SimW d e:=⟨h.v,h.s,h.t,h.a,h.va,h.sa,h.ta,h.aa⟩
theorem SimW.vn{d e:Ec}(h:SimW d e):(d.vs.map (·.1)).Nodup:=Bg7 Ch7 h.va
theorem SimW.sn{d e:Ec}(h:SimW d e):(d.ss.map (·.1)).Nodup:=Bg7 EC7 h.sa
theorem SimW.same{d e:Ec}(h:SimW d e):SameE d e:=⟨h.v,h.s,h.t,h.a⟩
theorem Mb7{d e:Ec}(h:SimW d e):bq4 e (er4 d):=by refine HN7 h.vn h.sn h.same ⟨d.ts,d.ar.map (·.1),List.Perm.refl _,h.ta,List.Perm.refl _,(List.pairwise_map (f:=fun x:(Int×Int)×Unit=>x.1) (R:=fun x y=>ltW x y=true)).2 h.aa,?_⟩;have e1:ksE d=d.vs.map (·.1):=GV7 h.va;rw[e1,Ma7 h.sa];rfl
theorem OO7{d e:Ec}(h:SimW d e):ksE e=d.vs.map (·.1):=by unfold ksE;rw[<-GV7 h.va,Db7 (h.v.map _)]
theorem HP7{d e:Ec}(h:EncOk e)(s:SimW d e):EncOk d:=by
 have e1:ksE d=ksE e:=by unfold ksE;exact Db7 (s.v.map _)
 have e2:∀k,enK d k=enK e k:=fun k=>by
  have:atV d k=atV e k:=by unfold atV;rw[CM7 s.vn s.v k]
  unfold enK;rw[this]
 exact⟨s.vn,fun x hx=>h.vk x (s.v.mem_iff.1 hx),fun x hx=>h.ok x (s.v.mem_iff.1 hx),fun x hx=>h.sw x (s.s.mem_iff.1 hx),fun x hx=>h.sr x (s.s.mem_iff.1 hx),fun x hx=>h.tw x (s.t.mem_iff.1 hx),fun x hx=>h.aw x (s.a.mem_iff.1 hx),
  by rw[s.v.length_eq];exact h.lv,by rw[s.s.length_eq];exact h.ls,by rw[s.t.length_eq];exact h.lt,by rw[s.a.length_eq];exact h.la,by rw[e1,funext e2];exact h.lk⟩
theorem Rv7{d:Ec}{D:Ev}(hd:m8 D=d.vs)(h:EncOk d)(he:ep4 d):EnB D d.ss d.ts d.ar:=by
 have e1:D.length=d.vs.length:=by rw[<-hd,Dv7]
 have e2:(D.flatMap fKv).length=((ksE d).flatMap (enK d)).length:=by rw[OJ7 hd h.nd];exact(((Aw7 _).flatMap_right _).length_eq).symm
 refine⟨by rw[e1];exact h.lv,h.ls,h.lt,h.la,by rw[e2];exact h.lk,fun x hx=>?_,h.sw,h.sr,fun x hx=>(h.tw x hx).1,h.aw⟩;have hm:(x.1,x.2.2)∈d.vs:=by rw[<-hd];exact List.mem_map.2 ⟨x,hx,rfl⟩
 have hv:=h.ok _ hm;exact⟨h.vk _ hm,hv.ok,AI7 hv.w (by decide),hv.n0,hv.n1,(he _ hm).1,(he _ hm).2⟩
theorem HQ7{eb:Nat}{e:Ec}{d:List Int}(hd:bq4 e d)(hE:EncOk e){W w:World}{L R:List HP}(ht:Take L (ecP eb e) R)(hS:St W L w):
  Calls Tryz.prog 27 #[.P eb] w fun x w'=>∃v,x=.returned v/\St W (byR v d::L) w':=by
 refine(Ha7 hE W w R (hS.take ht)).mono ?_;rintro x w' ⟨v,d',rfl,hd',hS⟩;obtain rfl:=LZ7 hd hd';refine⟨v,rfl,?_⟩;exact hS.swap.back (Take.tail ht)
theorem cK4{d e:Ec}(h:ep4 e)(s:SimW d e):ep4 d:=fun x hx=>h x (s.v.mem_iff.1 hx)
abbrev tB27a:List Nat:=[0,0,3,7,15,15,63,127,255,511,1023,511,2559,6655,14847,32767,65535,131071,262143,524287,1048575,262143,3145727,7340031,16777215,33554431,67108863]
theorem Na7{eb xb:Nat}{d e:Ec}(hsim:SimW d e)(hE:EncOk e){s0 s1 s2 s3:Int}(hT:TotR (e.vs.map (·.2)) ⟨s0,s1,s2,s3⟩ true)(W w:World)(R:List HP)(hS:St W (ecP eb e::L6 xb d::R) w):
  Calls Tryz.prog 28 #[.P eb,.P xb] w fun x w'=>x=.returned (.bool true)/\St W (ecP eb e::L6 xb d::R) w':=by
 have he:=KJ7 hS;have hD:=HP7 hE hsim;have heD:=cK4 he hsim;have hvk:∀x∈e.vs,x.1.size<=maxLen:=fun x hx=>by have:=hE.vk x hx;unfold maxLen;omega
 have hlv:=hE.lv;have hlt:=hE.lt;have hlD:=hD.lv;have hltD:=hD.lt;have hks:=OO7 hsim;have hkl:(ksE e).length<=10000:=by rw[Ef7];omega
 have htvD:∀x∈d.vs,PsW x.2.ps 60000/\(∀o∈x.2.L,MayP o)/\x.2.L.length<=32:=fun x hx=>⟨(hD.ok x hx).w,(heD x hx).1,(heD x hx).2⟩
 have hTD:=JG7 (hsim.v.symm.map (·.2)) hT;have hz0:=Mb7 hsim;have Hvk:=jH hvk;have Hok:=jH (fun x hx=>(hE.ok x hx).w);have HN:=jH hE;have HtvD:=jH htvD;have Htt:=jH hT;have HttD:=jH hTD;have Hsim:=jH hsim;have HD:=jH hD;have HeD:=jH heD;clear hvk htvD hT hTD he heD hE hD hsim;have heq:((s0==s0)&&((s1==s1)&&((s2==s2)&&(s3==s3))))=true:=by simp
 obtain⟨z,hz⟩:∃z,er4 d=z:=⟨_,rfl⟩
 rw[hz]at hz0;have Hz0:=jH hz0;have Hz:=jH hz;have Hpos:=jH (JL7 hz0);have Hks:=jH hks;clear hz hz0 hks;obtain⟨ks,hvs⟩:∃ks,d.vs.map (·.1)=ks:=⟨_,rfl⟩
 have Hvs:=jH hvs;rw[hvs]at Hks;clear hvs;go_enter Tryz.func28,Tryz.ntmps28;go_wp2_with(first|go_at_call 25;refine(GW7 Hvk.out (by omega) W _ _ hS).mono ?_;clear hS;rintro x w ⟨va,rfl,hS⟩;rw[Hks.out]at hS hkl;obtain⟨sa,sc,rfl⟩:=hS.rowVal|go_at_call 73;refine(Oy7 (by omega) W _ _ (hS.s (L6 xb d::at4 (.slice sa ks.length sc) ks::ecP eb e::R))).mono ?_;clear hS;rintro x w ⟨vb,rfl,hS0⟩;rw[Hvs.out]at hS0;have hS:=hS0.s (at4 (.slice sa ks.length sc) ks::at4 vb ks::ecP eb e::L6 xb d::R);clear hS0;obtain⟨sb,sd,rfl⟩:=hS.drop.rowVal)
 go_loopw [7] (fun v wr=>OnR W (at4 (.slice sa ks.length sc) ks::at4 (.slice sb ks.length sd) ks::ecP eb e::L6 xb d::R) ks.length v wr) (fun v _=>ks.length-(intOf v).toNat)
 case atStart=>exact⟨0,rfl,Nat.zero_le _,hS⟩
 case round=>
  clear hS;obtain⟨i,rfl,hi,hS⟩:=hrel;by_cases hiz:i<ks.length
  case pos=>
   have hd1:decide (i<ks.length)=true:=decide_eq_true hiz;obtain⟨⟨g,rfl⟩,_,_⟩:=St.rowAddr hS (by omega);obtain⟨⟨g2,rfl⟩,hcap2,hcn2⟩:=St.rowAddr hS.drop (by omega);have hca:∀{K K':List HP},Take K (at4 (.S g ks.length sc) ks) K'->e8 K g i (eS ks[i]):=fun hu=>e8.rowM hu (by rw[List.getElem?_map,jG hiz];rfl)
   have hcb:∀{K K':List HP},Take K (at4 (.S g2 ks.length sd) ks) K'->e8 K g2 i (eS ks[i]):=fun hu=>e8.rowM hu (by rw[List.getElem?_map,jG hiz];rfl)
   generalize ks[i]=k at hca hcb;have hkk:(k.toList==k.toList)=true:=by simp
   go_wp2_with(fail);refine Aa7 (by kernel_rfl) (by kernel_rfl) hS ?_
   iterate 3 (refine qR ?_)
   (apply Am7;rfl;rfl;rfl;decide +kernel;exact hca (by exact g8);refine frS ?_)
   iterate 3 (refine qR ?_)
   (apply Am7;rfl;rfl;rfl;decide +kernel;exact hcb (by exact g8);refine frS ?_);refine qR ?_;clear hS;intro w hS;go_wp2_with fail;go_roundw
   case rel=>exact⟨i+1,rfl,hiz,hS⟩
   case measure=>simp[intOf];omega
  have hd1:decide (i<ks.length)=false:=decide_eq_false hiz;clear hi hiz;go_wp2_with(first|go_at_call 22;refine(LW7 Hok.out (by omega) Htt.out W _ _ (hS.s (ecP eb e::L6 xb d::R))).mono ?_;clear hS;rintro x w ⟨rfl,hS⟩|go_at_call 74;refine(LX7 HtvD.out (by omega) HttD.out W _ _ (hS.s (L6 xb d::ecP eb e::blk b8 _ _::R))).mono ?_;clear hS;rintro x w ⟨rfl,hS⟩|(fail_if_success (have:=gA));(refine zal hS ?_;clear hS;have gA:Nat:=0;intro b8 w hS)|(have:=gA);refine zal hS ?_;clear hS;intro b10 w hS|refine zsN hS ?_;clear hS;intro w hS);obtain⟨v1,v2,v3,v4,D,hd,hS0⟩:=aV4 (hS.s (L6 xb d::ecP eb e::blk b8 _ _::blk b10 _ _::R));clear hS;obtain⟨a1,c1,rfl⟩:=hS0.drop.rowVal;obtain⟨a2,c2,rfl⟩:=hS0.drop.drop.drop.rowVal;obtain⟨a3,c3,rfl⟩:=hS0.drop.drop.drop.drop.rowVal;obtain⟨a4,c4,rfl⟩:=hS0.drop.drop.drop.drop.drop.rowVal;have hS:=hS0.s (ecP eb e::blk b8 _ _::blk b10 _ _::xeB xb (.slice a1 D.length c1) (.slice a2 d.ss.length c2) (.slice a3 d.ts.length c3) (.slice a4 d.ar.length c4)::xrP (.slice a1 D.length c1) D::w5 D::xsP (.slice a2 d.ss.length c2) d.ss::xtP (.slice a3 d.ts.length c3) d.ts::xmP (.slice a4 d.ar.length c4) d.ar::R);clear hS0;have HB:=jH (Rv7 hd HD.out HeD.out);have HZ:=jH (show dy4 D d.ss d.ts d.ar=z by rw[ON7 hd Hsim.out.vn Hsim.out.sn];exact Hz.out);have Hd:=jH hd;clear hd;refine rf3 tB27a (fun i=>i==10||i==19||i==22) (fun i=>if i==15 then some (.bool true)else none) [⟨some 10,none,fun nd=>xtP (nd 10) d.ts⟩,⟨some 19,none,fun nd=>byR (nd 19) z⟩,⟨some 22,none,fun nd=>byR (nd 22) z⟩] [none,none,none,none,none,none,none,none,none] hS ?_;clear hS;intro nd
  iterate 2 (refine zcN ?_)
  (apply Ru7;rfl;kernel_rfl;rfl;rfl;rfl;rfl;kernel_rfl;exact eqI _ _ _ _ _ _ _ _;rw[heq];refine frS ?_)
  iterate 7 (refine cR ?_)
  (apply Az7;rfl;rfl;rfl;decide +kernel;(focus(simp only[fD,fI,fJ,Act.eval,fE,fF,fG,fH,fK];try rfl));intro _;rfl;intro F w hS;exact FI7 Hsim.out.t Hsim.out.ta (by omega) .head hS;refine frS ?_);refine cR ?_;refine zcn ?_;refine cR ?_;refine zc1 ?_;refine zcv ?_ (hs:=by(intro F w hS;(try clear hS0);exact DZ7 (by omega) hS .head (.tail (.tail (.tail (.tail (.tail (.tail (.tail .head)))))))))
  iterate 3 (refine cR ?_)
  (apply Az7;rfl;rfl;rfl;decide +kernel;(focus(simp only[fD,fI,fJ,Act.eval,fE,fF,fG,fH,fK];try rfl));intro _;rfl;intro F w hS;exact HQ7 Hz0.out HN.out (.tail .head) hS;refine frS ?_);apply Dc7 (ns:=z);rfl;kernel_rfl;rfl;rfl;rfl;exact Tryz.underlying63;exact Tryz.underlying5;exact Tryz.underlying9;exact Hpos.out;(intro F;exact⟨_,by exact A9⟩);(refine frS ?_);refine cR ?_;apply Az7;rfl;rfl;rfl;decide +kernel;(focus(simp only[fD,fI,fJ,Act.eval,fE,fF,fG,fH,fK];try rfl));(intro _;rfl);(intro F w hS;exact HO7 HB.out HZ.out (Same.of (.tail (.tail (.tail (.tail (.tail .head))))) (Same.of (.tail (.tail (.tail (.tail (.tail .head))))) (Same.of (.tail (.tail (.tail (.tail (.tail .head))))) (Same.of (.tail (.tail (.tail (.tail (.tail .head))))) (Same.of (.tail (.tail (.tail (.tail (.tail .head))))) (Same.of (.tail (.tail (.tail (.tail (.tail .head))))) Same.refl)))))) hS);(refine frS ?_);apply Dc7 (ns:=z);rfl;kernel_rfl;rfl;rfl;rfl;exact Tryz.underlying63;exact Tryz.underlying5;exact Tryz.underlying9;exact Hpos.out;(intro F;exact⟨_,by exact A9⟩);(refine frS ?_)
  iterate 3 (refine cR ?_)
  refine Ac7 ?_;intro w hS;have hS2:St W [xtP (nd 10) _,byR (nd 19) _,byR (nd 22) _,ecP eb e,blk b8 _ _,blk b10 _ _,xeB xb (.slice a1 D.length c1) (.slice a2 d.ss.length c2) (.slice a3 d.ts.length c3) (.slice a4 d.ar.length c4),xrP (.slice a1 D.length c1) D,w5 D,xsP (.slice a2 d.ss.length c2) d.ss,xtP (.slice a3 d.ts.length c3) d.ts,xmP (.slice a4 d.ar.length c4) d.ar,sats R] w:=hS;clear hS;have hS:=hS2.unpack [_,_,_,_,_,_,_,_,_,_,_,_];clear hS2;simp only[jK,jN]at hS;go_wp2_with fail;go_ret;exact⟨rfl,(N9 Hd.out (hS.s (dM4 xb (.slice a1 D.length c1) (.slice a2 d.ss.length c2) (.slice a3 d.ts.length c3) (.slice a4 d.ar.length c4) D d (ecP eb e::R)))).swap⟩
theorem KS7{eb xb:Nat}{d e:Ec}(hsim:SimW d e)(hE:EncOk e){s0 s1 s2 s3:Int}(hT:TotR (e.vs.map (·.2)) ⟨s0,s1,s2,s3⟩ false)(W w:World)(R:List HP)(hS:St W (ecP eb e::L6 xb d::R) w):
  Calls Tryz.prog 28 #[.P eb,.P xb] w fun x w'=>x=.returned (.bool true)/\St W (ecP eb e::L6 xb d::R) w':=by
 have he:=KJ7 hS;have hD:=HP7 hE hsim;have heD:=cK4 he hsim;have hvk:∀x∈e.vs,x.1.size<=maxLen:=fun x hx=>by have:=hE.vk x hx;unfold maxLen;omega
 have hlv:=hE.lv;have hlt:=hE.lt;have hlD:=hD.lv;have hltD:=hD.lt;have hks:=OO7 hsim;have hkl:(ksE e).length<=10000:=by rw[Ef7];omega
 have htvD:∀x∈d.vs,PsW x.2.ps 60000/\(∀o∈x.2.L,MayP o)/\x.2.L.length<=32:=fun x hx=>⟨(hD.ok x hx).w,(heD x hx).1,(heD x hx).2⟩
 have hTD:=JG7 (hsim.v.symm.map (·.2)) hT;have hz0:=Mb7 hsim;have Hvk:=jH hvk;have Hok:=jH (fun x hx=>(hE.ok x hx).w);have HN:=jH hE;have HtvD:=jH htvD;have Htt:=jH hT;have HttD:=jH hTD;have Hsim:=jH hsim;have HD:=jH hD;have HeD:=jH heD;clear hvk htvD hT hTD he heD hE hD hsim;have heq:((s0==s0)&&((s1==s1)&&((s2==s2)&&(s3==s3))))=true:=by simp
 obtain⟨z,hz⟩:∃z,er4 d=z:=⟨_,rfl⟩
 rw[hz]at hz0;have Hz0:=jH hz0;have Hz:=jH hz;have Hpos:=jH (JL7 hz0);have Hks:=jH hks;clear hz hz0 hks;obtain⟨ks,hvs⟩:∃ks,d.vs.map (·.1)=ks:=⟨_,rfl⟩
 have Hvs:=jH hvs;rw[hvs]at Hks;clear hvs;go_enter Tryz.func28,Tryz.ntmps28;go_wp2_with(first|go_at_call 25;refine(GW7 Hvk.out (by omega) W _ _ hS).mono ?_;clear hS;rintro x w ⟨va,rfl,hS⟩;rw[Hks.out]at hS hkl;obtain⟨sa,sc,rfl⟩:=hS.rowVal|go_at_call 73;refine(Oy7 (by omega) W _ _ (hS.s (L6 xb d::at4 (.slice sa ks.length sc) ks::ecP eb e::R))).mono ?_;clear hS;rintro x w ⟨vb,rfl,hS0⟩;rw[Hvs.out]at hS0;have hS:=hS0.s (at4 (.slice sa ks.length sc) ks::at4 vb ks::ecP eb e::L6 xb d::R);clear hS0;obtain⟨sb,sd,rfl⟩:=hS.drop.rowVal)
 go_loopw [7] (fun v wr=>OnR W (at4 (.slice sa ks.length sc) ks::at4 (.slice sb ks.length sd) ks::ecP eb e::L6 xb d::R) ks.length v wr) (fun v _=>ks.length-(intOf v).toNat)
 case atStart=>exact⟨0,rfl,Nat.zero_le _,hS⟩
 case round=>
  clear hS;obtain⟨i,rfl,hi,hS⟩:=hrel;by_cases hiz:i<ks.length
  case pos=>
   have hd1:decide (i<ks.length)=true:=decide_eq_true hiz;obtain⟨⟨g,rfl⟩,_,_⟩:=St.rowAddr hS (by omega);obtain⟨⟨g2,rfl⟩,hcap2,hcn2⟩:=St.rowAddr hS.drop (by omega);have hca:∀{K K':List HP},Take K (at4 (.S g ks.length sc) ks) K'->e8 K g i (eS ks[i]):=fun hu=>e8.rowM hu (by rw[List.getElem?_map,jG hiz];rfl)
   have hcb:∀{K K':List HP},Take K (at4 (.S g2 ks.length sd) ks) K'->e8 K g2 i (eS ks[i]):=fun hu=>e8.rowM hu (by rw[List.getElem?_map,jG hiz];rfl)
   generalize ks[i]=k at hca hcb;have hkk:(k.toList==k.toList)=true:=by simp
   go_wp2_with(fail);refine Aa7 (by kernel_rfl) (by kernel_rfl) hS ?_
   iterate 3 (refine qR ?_)
   (apply Am7;rfl;rfl;rfl;decide +kernel;exact hca (by exact g8);refine frS ?_)
   iterate 3 (refine qR ?_)
   (apply Am7;rfl;rfl;rfl;decide +kernel;exact hcb (by exact g8);refine frS ?_);refine qR ?_;clear hS;intro w hS;go_wp2_with fail;go_roundw
   case rel=>exact⟨i+1,rfl,hiz,hS⟩
   case measure=>simp[intOf];omega
  have hd1:decide (i<ks.length)=false:=decide_eq_false hiz;clear hi hiz;go_wp2_with(first|go_at_call 22;refine(LW7 Hok.out (by omega) Htt.out W _ _ (hS.s (ecP eb e::L6 xb d::R))).mono ?_;clear hS;rintro x w ⟨rfl,hS⟩|go_at_call 74;refine(LX7 HtvD.out (by omega) HttD.out W _ _ (hS.s (L6 xb d::ecP eb e::blk b8 _ _::R))).mono ?_;clear hS;rintro x w ⟨rfl,hS⟩|(fail_if_success (have:=gA));(refine zal hS ?_;clear hS;have gA:Nat:=0;intro b8 w hS)|(have:=gA);refine zal hS ?_;clear hS;intro b10 w hS|refine zsN hS ?_;clear hS;intro w hS);obtain⟨v1,v2,v3,v4,D,hd,hS0⟩:=aV4 (hS.s (L6 xb d::ecP eb e::blk b8 _ _::blk b10 _ _::R));clear hS;obtain⟨a1,c1,rfl⟩:=hS0.drop.rowVal;obtain⟨a2,c2,rfl⟩:=hS0.drop.drop.drop.rowVal;obtain⟨a3,c3,rfl⟩:=hS0.drop.drop.drop.drop.rowVal;obtain⟨a4,c4,rfl⟩:=hS0.drop.drop.drop.drop.drop.rowVal;have hS:=hS0.s (ecP eb e::blk b8 _ _::blk b10 _ _::xeB xb (.slice a1 D.length c1) (.slice a2 d.ss.length c2) (.slice a3 d.ts.length c3) (.slice a4 d.ar.length c4)::xrP (.slice a1 D.length c1) D::w5 D::xsP (.slice a2 d.ss.length c2) d.ss::xtP (.slice a3 d.ts.length c3) d.ts::xmP (.slice a4 d.ar.length c4) d.ar::R);clear hS0;have HB:=jH (Rv7 hd HD.out HeD.out);have HZ:=jH (show dy4 D d.ss d.ts d.ar=z by rw[ON7 hd Hsim.out.vn Hsim.out.sn];exact Hz.out);have Hd:=jH hd;clear hd;refine rf3 tB27a (fun i=>i==10||i==19||i==22) (fun i=>if i==15 then some (.bool true)else none) [⟨some 10,none,fun nd=>xtP (nd 10) d.ts⟩,⟨some 19,none,fun nd=>byR (nd 19) z⟩,⟨some 22,none,fun nd=>byR (nd 22) z⟩] [none,none,none,none,none,none,none,none,none] hS ?_;clear hS;intro nd
  iterate 2 (refine zcN ?_)
  (apply Ru7;rfl;kernel_rfl;rfl;rfl;rfl;rfl;kernel_rfl;exact eqI _ _ _ _ _ _ _ _;rw[heq];refine frS ?_)
  iterate 7 (refine cR ?_)
  (apply Az7;rfl;rfl;rfl;decide +kernel;(focus(simp only[fD,fI,fJ,Act.eval,fE,fF,fG,fH,fK];try rfl));intro _;rfl;intro F w hS;exact FI7 Hsim.out.t Hsim.out.ta (by omega) .head hS;refine frS ?_);refine cR ?_;refine zcn ?_;refine cR ?_;refine zc1 ?_;refine zcv ?_ (hs:=by(intro F w hS;(try clear hS0);exact DZ7 (by omega) hS .head (.tail (.tail (.tail (.tail (.tail (.tail (.tail .head)))))))))
  iterate 3 (refine cR ?_)
  (apply Az7;rfl;rfl;rfl;decide +kernel;(focus(simp only[fD,fI,fJ,Act.eval,fE,fF,fG,fH,fK];try rfl));intro _;rfl;intro F w hS;exact HQ7 Hz0.out HN.out (.tail .head) hS;refine frS ?_);apply Dc7 (ns:=z);rfl;kernel_rfl;rfl;rfl;rfl;exact Tryz.underlying63;exact Tryz.underlying5;exact Tryz.underlying9;exact Hpos.out;(intro F;exact⟨_,by exact A9⟩);(refine frS ?_);refine cR ?_;apply Az7;rfl;rfl;rfl;decide +kernel;(focus(simp only[fD,fI,fJ,Act.eval,fE,fF,fG,fH,fK];try rfl));(intro _;rfl);(intro F w hS;exact HO7 HB.out HZ.out (Same.of (.tail (.tail (.tail (.tail (.tail .head))))) (Same.of (.tail (.tail (.tail (.tail (.tail .head))))) (Same.of (.tail (.tail (.tail (.tail (.tail .head))))) (Same.of (.tail (.tail (.tail (.tail (.tail .head))))) (Same.of (.tail (.tail (.tail (.tail (.tail .head))))) (Same.of (.tail (.tail (.tail (.tail (.tail .head))))) Same.refl)))))) hS);(refine frS ?_);apply Dc7 (ns:=z);rfl;kernel_rfl;rfl;rfl;rfl;exact Tryz.underlying63;exact Tryz.underlying5;exact Tryz.underlying9;exact Hpos.out;(intro F;exact⟨_,by exact A9⟩);(refine frS ?_)
  iterate 3 (refine cR ?_)
  refine Ac7 ?_;intro w hS;have hS2:St W [xtP (nd 10) _,byR (nd 19) _,byR (nd 22) _,ecP eb e,blk b8 _ _,blk b10 _ _,xeB xb (.slice a1 D.length c1) (.slice a2 d.ss.length c2) (.slice a3 d.ts.length c3) (.slice a4 d.ar.length c4),xrP (.slice a1 D.length c1) D,w5 D,xsP (.slice a2 d.ss.length c2) d.ss,xtP (.slice a3 d.ts.length c3) d.ts,xmP (.slice a4 d.ar.length c4) d.ar,sats R] w:=hS;clear hS;have hS:=hS2.unpack [_,_,_,_,_,_,_,_,_,_,_,_];clear hS2;simp only[jK,jN]at hS;go_wp2_with fail;go_ret;exact⟨rfl,(N9 Hd.out (hS.s (dM4 xb (.slice a1 D.length c1) (.slice a2 d.ss.length c2) (.slice a3 d.ts.length c3) (.slice a4 d.ar.length c4) D d (ecP eb e::R)))).swap⟩
theorem Sr7{eb xb:Nat}{d e:Ec}(hsim:SimW d e)(hE:EncOk e)(W w:World)(R:List HP)(hS:St W (ecP eb e::L6 xb d::R) w):
  Calls Tryz.prog 28 #[.P eb,.P xb] w fun x w'=>x=.returned (.bool true)/\St W (ecP eb e::L6 xb d::R) w':=by
 obtain⟨⟨s0,s1,s2,s3⟩,b,hT⟩:=So7 (e.vs.map (·.2))
 cases b with
 | true=>exact Na7 hsim hE hT W w R hS
 | false=>exact KS7 hsim hE hT W w R hS
def es4(L:List Ord):Prop:=∀x∈L, ∀z∈L,O9 x z=false
def cX4(t:Tns):Bool:=A8 ⟨2,t.client,t.seq,t.ak,t.aw,t.tk,t.tw,t.item,t.cnt,0,false,0⟩
structure EnU(e:Ec)(n:Nat):Prop where
 t:EnT e n
 ap:∀x∈e.vs,es4 x.2.L
 wk:∀x∈e.vs,y5 x.1=true
 mt:∀x∈e.ts,cX4 x.2=true
def ByB(s:List Int):Prop:=∀c∈s,0<=c/\c<=255
theorem Iw7{s:List Int}(h:ByB s)(n:Nat):ByB (s.drop n):=fun c hc=>h c (List.mem_of_mem_drop hc)
theorem Ix7{s:List Int}(h:ByB s)(n:Nat):ByB (s.take n):=fun c hc=>h c (List.mem_of_mem_take hc)
theorem Ss7{s t:List Int}(h:ByB (s++t)):ByB s/\ByB t:=⟨fun c hc=>h c (List.mem_append_left _ hc),fun c hc=>h c (List.mem_append_right _ hc)⟩
def aE4:Nat->Bool->List Int->Option (Nat×List Int)
 | _,_,[]=>none
 | f,z,c::s=>if c<128 then(if z=false/\c=0 then none else some (c.toNat,s))else
  match f with
  | 0=>none
  | f+1=>
   match aE4 f false s with
   | none=>none
   | some (v,r)=>some ((c-128).toNat+128*v,r)
theorem QF7(f:Nat)(z:Bool):aE4 f z []=none:=by unfold aE4;rfl
theorem HR7{f:Nat}{z:Bool}{c:Int}{s:List Int}(h:c<128):aE4 f z (c::s)=if z=false/\c=0 then none else some (c.toNat,s):=by unfold aE4;rw[if_pos h]
theorem OP7{z:Bool}{c:Int}{s:List Int}(h:¬c<128):aE4 0 z (c::s)=none:=by unfold aE4;rw[if_neg h]
theorem QG7{f:Nat}{z:Bool}{c:Int}{s:List Int}(h:¬c<128):aE4 (f+1) z (c::s)=match aE4 f false s with
  | none=>none
  | some (v,r)=>some ((c-128).toNat+128*v,r):=by
 rw[aE4,if_neg h]
def bJ4(s:List Int):Option (Nat×List Int):=
 match aE4 8 true s with
 | none=>none
 | some (u,r)=>if u<=4611686018427387904 then some (u,r)else none
theorem Mc7:∀(f u:Nat) (z:Bool) (r:List Int),u<128^(f+1)->(z=true\/u≠0)->aE4 f z (aH4 f u++r)=some (u,r)
 | 0,u,z,r,hu,hz=>by
  show aE4 0 z ((u:Int)::r)=_
  have h1:(u:Int)<128:=by simp at hu;omega
  have h2:¬(z=false/\(u:Int)=0):=by
   rintro⟨h3,h4⟩
   rcases hz with h5|h5
   ·rw[h3]at h5;cases h5
   ·omega
  unfold aE4;rw[if_pos h1,if_neg h2];simp
 | f+1,u,z,r,hu,hz=>by
  rw[aH4];by_cases h:128<=u
  ·rw[if_pos h,jK];have hu3:u / 128<128^(f+1):=Nat.div_lt_of_lt_mul (by rw[Nat.pow_succ]at hu;omega);have ih:=Mc7 f (u / 128) false r hu3 (.inr (by omega));unfold aE4;rw[if_neg (by omega)];dsimp only;rw[ih];simp only[Option.some.injEq,Prod.mk.injEq,and_true];omega
  ·rw[if_neg h];have h1:(u:Int)<128:=by omega
   have h2:¬(z=false/\(u:Int)=0):=by
    rintro⟨h3,h4⟩
    rcases hz with h5|h5
    ·rw[h3]at h5;cases h5
    ·omega
   show aE4 (f+1) z ((u:Int)::r)=_
   unfold aE4;rw[if_pos h1,if_neg h2];simp
theorem QH7(n:Int)(r:List Int):bJ4 (j9 n++r)=some (bh4 n,r):=by have h:=Iu7 n;unfold bJ4 j9;rw[Mc7 8 (bh4 n) true r (Fr7 h) (.inl rfl)];exact if_pos h
theorem Md7:∀(s:List Int) (f:Nat) (z:Bool) (u:Nat) (r:List Int),ByB s->aE4 f z s=some (u,r)->s=aH4 f u++r/\u<128^(f+1)/\(z=false->u≠0)
 | [],f,z,u,r,_,h=>by
  unfold aE4 at h
  cases h
 | c::s,f,z,u,r,hb,h=>by
  have hc:=hb c (List.mem_cons_self ..);unfold aE4 at h;by_cases h1:c<128
  ·rw[if_pos h1]at h;by_cases h2:z=false/\c=0
   ·rw[if_pos h2]at h;cases h
   ·rw[if_neg h2]at h;simp only[Option.some.injEq,Prod.mk.injEq]at h;obtain⟨rfl,rfl⟩:=h;have h3:((c.toNat:Nat):Int)=c:=by omega
    have h4:c.toNat<128:=by omega
    refine⟨?_,?_,?_⟩
    ·rw[CS7 h4,h3];rfl
    ·have h5:0<128^f:=Nat.pow_pos (by decide);rw[Nat.pow_succ];omega
    ·intro hz h5;exact h2 ⟨hz,by omega⟩
  ·rw[if_neg h1]at h
   cases f with
   | zero=>cases h
   | succ f=>
    simp only at h
    cases hd:aE4 f false s with
    | none=>rw[hd]at h;cases h
    | some x=>
     obtain⟨v,r2⟩:=x;rw[hd]at h;simp only[Option.some.injEq,Prod.mk.injEq]at h;obtain⟨rfl,rfl⟩:=h;obtain⟨i1,i2,i3⟩:=Md7 s f false v r2 (fun x hx=>hb x (List.mem_cons_of_mem _ hx)) hd;have hv:=i3 rfl;have h6:(c-128).toNat<128:=by omega
     refine⟨?_,?_,?_⟩
     ·rw[aH4,if_pos (by omega)];have e1:((c-128).toNat+128*v) / 128=v:=by omega
      have e2:((((c-128).toNat+128*v)%128+128:Nat):Int)=c:=by omega
      rw[e1,e2,jK,<-i1]
     ·rw[Nat.pow_succ];omega
     ·omega
theorem QI7{s r:List Int}{u:Nat}(hb:ByB s)(h:bJ4 s=some (u,r)):s=j9 u++r/\u<=4611686018427387904:=by
 unfold bJ4 at h
 cases hd:aE4 8 true s with
 | none=>rw[hd]at h;cases h
 | some x=>
  obtain⟨v,r2⟩:=x;rw[hd]at h;simp only at h;by_cases hv:v<=4611686018427387904
  ·rw[if_pos hv]at h;simp only[Option.some.injEq,Prod.mk.injEq]at h;obtain⟨rfl,rfl⟩:=h;obtain⟨i1,i2,i3⟩:=Md7 s 8 true v r2 hb hd;refine⟨?_,hv⟩
   have e:bh4 (v:Int)=v:=by
    unfold bh4;split
    ·omega
    ·split
     ·simp
     ·omega
   unfold j9;rw[e];exact i1
  ·rw[if_neg hv]at h;cases h
theorem QJ7{n:Int}(h0:0<=n)(h1:n<=4611686018427387904):((bh4 n:Nat):Int)=n:=by
 unfold bh4
 repeat' split
 all_goals omega
abbrev RS:=Option (List Int)
def d8:RS->Int×RS
 | none=>(0,none)
 | some l=>
  match bJ4 l with
  | none=>(0,none)
  | some (u,r)=>((u:Int),some r)
def S8(n:Int):RS->List Int×RS
 | none=>([],none)
 | some l=>if 0<=n/\n<=l.length then(l.take n.toNat,some (l.drop n.toNat))else([],none)
def j5(s:RS):List Int×RS:=S8 (d8 s).1 (d8 s).2
def w6:Nat->RS->List Int×RS
 | 0,s=>([],s)
 | k+1,s=>((d8 s).1::(w6 k (d8 s).2).1,(w6 k (d8 s).2).2)
def BS(s:RS):Prop:=∀l,s=some l->ByB l
theorem CT7{l r:List Int}{n:Int}(hb:ByB l)(h:d8 (some l)=(n,some r)):l=j9 n++r/\0<=n/\n<=4611686018427387904/\ByB r:=by
 unfold d8 at h;simp only at h
 cases hd:bJ4 l with
 | none=>rw[hd]at h;cases h
 | some x=>
  obtain⟨u,r2⟩:=x;rw[hd]at h;simp only[Prod.mk.injEq,Option.some.injEq]at h;obtain⟨rfl,rfl⟩:=h;obtain⟨h1,h2⟩:=QI7 hb hd;refine⟨h1,by omega,by omega,?_⟩;rw[h1]at hb;exact(Ss7 hb).2
theorem Ax7:d8 none=(0,none):=rfl
theorem Fs7(n:Int):S8 n none=([],none):=rfl
theorem As7{n:Int}(h0:0<=n)(h1:n<=4611686018427387904)(r:List Int):d8 (some (j9 n++r))=(n,some r):=by unfold d8;simp only;rw[QH7];simp only[QJ7 h0 h1]
theorem JM7:∀(l:List Int) (b:ByteArray),(l.foldl (fun r n=>r.push (UInt8.ofNat n.toNat)) b).data.toList=b.data.toList++l.map fun n=>UInt8.ofNat n.toNat
 | [],b=>by simp
 | n::l,b=>by rw[List.foldl_cons,JM7 l];simp[ByteArray.push]
theorem Hb7(l:List Int):(x6 l).data.toList=l.map fun n=>UInt8.ofNat n.toNat:=by unfold x6;rw[JM7];rfl
theorem BT7(l:List Int):(x6 l).size=l.length:=by have h:=congrArg List.length (Hb7 l);rw[jM]at h;exact h
theorem BU7{l:List Int}(h:ByB l):y7 (x6 l)=l:=by
 unfold y7;rw[Hb7,List.map_map];refine(List.map_congr_left fun n hn=>?_).trans (List.map_id _);have:=h n hn;show(((UInt8.ofNat n.toNat).toNat:Nat):Int)=n
 simp;omega
theorem EM7(u:ByteArray):x6 (y7 u)=u:=by
 refine GI7 ?_;rw[Hb7];unfold y7;rw[List.map_map];refine(List.map_congr_left fun n hn=>?_).trans (List.map_id _);show UInt8.ofNat (((n.toNat:Nat):Int)).toNat=n
 simp
theorem Dd7(u:ByteArray):ByB (y7 u):=by intro c hc;unfold y7 at hc;obtain⟨b,_,rfl⟩:=List.mem_map.1 hc;have:=b.toNat_lt;omega
theorem FJ7{l r x:List Int}(hb:ByB l)(h:j5 (some l)=(x,some r)):l=y8 (x6 x)++r/\ByB x/\ByB r:=by
 unfold j5 at h
 cases hn:d8 (some l)with
 | mk n s=>
  rw[hn]at h;simp only at h
  cases s with
  | none=>rw[Fs7]at h;cases h
  | some l2=>
   obtain⟨h1,h2,h3,h4⟩:=CT7 hb hn;unfold S8 at h;simp only at h;by_cases hc:0<=n/\n<=l2.length
   ·rw[if_pos hc]at h;simp only[Prod.mk.injEq,Option.some.injEq]at h;obtain⟨rfl,rfl⟩:=h;refine⟨?_,Ix7 h4 _,Iw7 h4 _⟩;unfold y8;rw[BT7,BU7 (Ix7 h4 _),jT,jS,List.take_append_drop];have e:((min n.toNat l2.length:Nat):Int)=n:=by omega
    rw[e];exact h1
   ·rw[if_neg hc]at h;cases h
theorem Bx7(u:ByteArray)(h:u.size<=1000000)(r:List Int):j5 (some (y8 u++r))=(y7 u,some r):=by
 unfold j5 y8;rw[jS,As7 (by omega) (by omega)];unfold S8;simp only;rw[if_pos ⟨by omega,by rw[jA,AF7];omega⟩];have e:((u.size:Int)).toNat=(y7 u).length:=by rw[AF7];omega
 rw[e,List.take_left,List.drop_left]
end Go.Proofs.YtlmhakmoioogaaaGreat
end
section
namespace Go.Sl
open Go.RowKit
theorem HS7{w:World}{L:List HP}(hL:sats L (fun b=>w.heap[b]?)):∀(X:List HP) {g:R7},sats (X++[Old w]) g->sats (X++L) g
 | [],g,h=>by
  obtain⟨S2,h1,_⟩:=h;refine BZ7 (S:=fun b=>decide (w.heap.size<=b)) ?_
  have e:w7 (fun b=>decide (w.heap.size<=b)) g=fun b=>w.heap[b]? := by
   funext b
   unfold w7;by_cases hb:w.heap.size<=b
   ·simp only[decide_eq_true hb,cond_true];exact(Array.getElem?_eq_none hb).symm
   ·simp only[decide_eq_false hb,cond_false];have h2:cond (S2 b) (g b) none=w.heap[b]? := h1 b (by omega)
    cases hS:S2 b with
    | false=>
     rw[hS,Array.getElem?_eq_getElem (by omega)]at h2
     cases h2
    | true=>
     rw[hS]at h2;exact h2
  rw[e];exact hL
 | A::X,g,h=>by obtain⟨S,h1,h2⟩:=h;exact⟨S,h1,HS7 hL X h2⟩
theorem St.framed{W w w':World}{L:List HP}(h:St W L w)(X:List HP)(h2:St w (X++[Old w]) w'):St W (X++L) w':=
 ⟨h2.os.trans h.os,h2.tape.trans h.tape,h2.output.trans h.output,HS7 h.sat X h2.sat⟩
section
variable{P:Program}{ops:Array Oper}{Q:Exit->Act->World->Prop}{a:Act}{w:World}{W:World}{L R:List HP}{rest:List Oper}{o:Oper}
theorem FM7(t ty e:TypeId)(i:TypeInfo)(ht:P.underlying t=some (.slice e))(hi:P.info? e=some i)(b:Option Addr)(n cap:Nat)(hn:n<=cap)(p:Addr)(c:Nat):
  (Builtin.append_ #[t,t] ty #[.slice b n cap,.slice (some p) 0 c]).run P w=.ok (.slice b n cap) w:=by
 cases b with
 | none=>simp[Builtin.append_,run_underlying ht,sizeOf,typeInfo,hi,Builtin.lenOf,hn,Builtin.firstCells,loadCells,loadCellsFrom]
 | some q=>simp[Builtin.append_,run_underlying ht,sizeOf,typeInfo,hi,Builtin.lenOf,hn,Builtin.firstCells,loadCells,loadCellsFrom,storeCells]
theorem DQ7{s x:Operand}{t e:TypeId}{z:Value}{k k2 bytes:Nat}{v:Value}{n c:Nat}{p:Addr}{cs:List Value}(hS:St W L w)(ho:o.op=.call { callee:=.builtin .append,args:=#[s,x],argTypes:=#[t,t] })
  (hg:Region.wanted o (yielded ops a.tmps)=true) (hs:a.eval s=v) (hx:a.eval x=.slice (some p) 0 c) (ht:y6 P t=some e) (hi:C9 P e=some (some z,k2,bytes)) (hu:Take L (row v k e n cs) R)
  (h:wpList P ops Q rest (a.put o.dst v) w):wpList P ops Q (o::rest) a w:=by
 have ht':=BH7 ht;unfold C9 at hi;obtain⟨i,hi',hi2⟩:=Option.map_eq_some_iff.1 hi
 obtain⟨b,n',cap,hv,hn⟩:∃b n' cap,v=.slice b n' cap/\n'<=cap:=by
  rcases(hS.take hu).rowOpen with ⟨hv,_⟩|⟨g,cap,junk,hv,hn,_⟩
  ·exact⟨_,_,_,hv,Nat.le_refl _⟩
  ·exact⟨_,_,_,hv,hn⟩
 have h1:=FM7 (P:=P) (w:=w) t o.type e i ht' hi' b n' cap hn p c;refine Ak7 hg (v:=v) (w':=w) ?_ h;rw[<-hv]at h1;unfold execOp;simp only[ho,resolve,invoke,builtin,Sem.run_bind,Sem.run_pure,Result.andThen_ok,List.map_toArray,List.map_cons,List.map_nil,hs,hx,h1]
theorem KT7{t t2 e:TypeId}{x y:Operand}{a0:Option Addr}{n c:Nat}(ho:o.op=.binOp .eql t x y t2)(hg:Region.wanted o (yielded ops a.tmps)=true)(hx:a.eval x=.slice a0 n c)(hy:a.eval y=.slice none 0 0)(ht:P.underlying t=some (.slice e))
  (h:wpList P ops Q rest (a.put o.dst (.bool a0.isNone)) w):wpList P ops Q (o::rest) a w:=by
 refine Ak7 hg (v:=.bool a0.isNone) (w':=w) ?_ h;have h1:(binOp .eql t (.slice a0 n c) (.slice none 0 0)).run P w=.ok (.bool a0.isNone) w:=Lib.run_eql_slice_nil w t e a0 n c 0 0 ht;unfold execOp;simp[ho,hx,hy,eqGuard,h1]
end
end Go.Sl
namespace Go.Proofs.YtlmhakmoioogaaaGreat
open Go.RowKit Go.Sl
def Dat(D:HP)(g off:Nat)(l:List Int):Prop:=∀K K',Take K D K'->d7 K g off (u8s l)
theorem Dat.drop{D:HP}{g off:Nat}{l:List Int}(h:Dat D g off l)(n:Nat):Dat D g (off+n) (l.drop n):=fun K K' ht j v hj=>by unfold u8s at hj;rw[List.map_drop,List.getElem?_drop]at hj;rw[Nat.add_assoc];exact h K K' ht (n+j) v hj
theorem Dat.take{D:HP}{g off:Nat}{l:List Int}(h:Dat D g off l)(n:Nat):Dat D g off (l.take n):=fun K K' ht j v hj=>by
 unfold u8s at hj;rw[List.map_take,List.getElem?_take]at hj;split at hj
 ·exact h K K' ht j v hj
 ·cases hj
theorem Dat.old{V:World}{g off:Nat}{l:List Int}(h:∀(j:Nat) (v:Value),(u8s l)[j]? = some v->V.cell? ⟨g,off+j,none⟩=some v):Dat (Old V) g off l:=fun K K' ht j v hj W w hS=>(hS.take ht).oldCell .head (h j v hj)
theorem Dat.row{g c:Nat}{l:List Int}(h:0<l.length):Dat (byR (.S g l.length c) l) g 0 l:=fun K K' ht j v hj W w hS=>by rw[Nat.zero_add];exact e8.row h hj W w (hS.take ht)
def rdV(D:HP)(v:Value)(e:Bool):RS->Prop
 | none=>v=.slice none 0 0/\e=true
 | some l=>e=false/\∃a c,v=.slice a l.length c/\l.length<=c/\c<=9223372036854775807/\((l=[]/\a=none/\c=0)\/(l=[]/\∃p,a=some p)\/∃g off,a=some ⟨g,off,none⟩/\Dat D g off l)
def rdR(T:TypeId)(D:HP)(rb:Nat)(s:RS):HP:=fun f=>∃v e,rdV D v e s/\blk rb [v,.bool e] T f
section
variable{W w:World}{T:TypeId}{D:HP}{rb:Nat}{s:RS}{R:List HP}
theorem B9(h:St W (rdR T D rb s::R) w):∃v e,rdV D v e s/\St W (blk rb [v,.bool e] T::R) w:=by obtain⟨v,h⟩:=St.ex h;obtain⟨e,h⟩:=St.ex h;obtain⟨h1,h⟩:=St.and h;exact⟨v,e,h1,h⟩
theorem ad4{v:Value}{e:Bool}{l:List Int}(h:rdV D v e (some l)):∃a c,e=false/\v=.slice a l.length c/\RowKit.Hid (rdV D (.slice a l.length c) false (some l)):=by obtain⟨rfl,a,c,rfl,h⟩:=h;exact⟨a,c,rfl,rfl,jH ⟨rfl,a,c,rfl,h⟩⟩
theorem j7{v:Value}{e:Bool}(h1:rdV D v e s)(h:St W (blk rb [v,.bool e] T::R) w):St W (rdR T D rb s::R) w:=St.mkEx v (St.mkEx e (St.mkAnd h1 h))
end
theorem Af7{P:Program}{ops:Array Oper}{Q:Exit->Act->World->Prop}{a:Act}{w:World}{W:World}{L R:List HP}{rest:List Oper}{o:Oper}{src dst e:TypeId}{x:Operand}{v0:Value}{ns:List Int}(hS:St W L w)(ho:o.op=.convert src dst x)(hg:Region.wanted o (yielded ops a.tmps)=true)(hx:a.eval x=v0)
  (hs:P.underlying src=some (.slice e)) (he:P.underlying e=some (.int .u8)) (hd:P.underlying dst=some .string) (hu:Take L (row v0 1 e ns.length (ns.map (Value.int .u8))) R)
  (h:wpList P ops Q rest (a.put o.dst (.string (x6 ns))) w):wpList P ops Q (o::rest) a w:=by
 refine Ak7 hg (v:=.string (x6 ns)) (w':=w) ?_ h;rcases(hS.take hu).rowOpen with ⟨rfl,h0,_,_⟩|⟨g,cap,junk,rfl,_,_,_,_,hS'⟩
 ·have hn:ns=[]:=List.eq_nil_of_length_eq_zero h0;subst hn;unfold execOp;simp[ho,hx,run_convert_bytes_string w src dst e none 0 0 hs he hd,Conv.bytesToString,x6,Sem.run_pure]
 ·have h1:=run_loadCells_list (P:=P) w ⟨g,0,none⟩ (ns.map (Value.int .u8)) (fun j v hj=>by
   rw[Addr.add_lit,Nat.zero_add];exact hS'.cell .head (by rw[List.getElem?_append_left (List.getElem?_eq_some_iff.1 hj).1];exact hj))
  rw[jM]at h1;have h2:=run_bytesToString (P:=P) w ⟨g,0,none⟩ ns.length cap ns h1;unfold execOp;simp[ho,hx,run_convert_bytes_string w src dst e (jP g) ns.length cap hs he hd,h2,x6]
theorem Tz7{u v k:Nat}(hu:u<2^k):u ||| v*2^k=u+v*2^k:=by rw[Nat.or_comm,Nat.mul_comm v,Nat.add_comm];exact(Nat.two_pow_add_eq_or_of_lt hu v).symm
abbrev rdG:=rdR 211
theorem bH4(D:HP)(rb:Nat)(s:RS)(W w:World)(R:List HP)(hS:St W (rdG D rb s::R) w):
  Calls Tryz.prog 197 #[.P rb] w fun e w'=>e=.returned (.tuple #[])/\St W (rdG D rb none::R) w':=by
 obtain⟨v0,e0,hv,hS1⟩:=B9 hS;clear hS;have hS:=hS1;clear hS1;go_enter Tryz.func197,Tryz.ntmps197;go_wp2_with(first|refine zs1 hS ?_;clear hS;intro w hS);go_end0;exact⟨rfl,j7 ⟨rfl,rfl⟩ hS⟩
theorem JN7(D:HP)(rb:Nat)(s:RS)(W w:World)(R:List HP)(hS:St W (rdG D rb s::R) w):
  Calls Tryz.prog 157 #[.P rb] w fun e w'=>e=.returned (.bool s.isSome)/\St W (rdG D rb s::R) w':=by
 obtain⟨v0,e0,hv,hS1⟩:=B9 hS;clear hS;have hS:=hS1;clear hS1
 cases s with
 | none=>
  obtain⟨rfl,rfl⟩:=hv;go_enter Tryz.func157,Tryz.ntmps157;go_wp2_with(first|refine zl1 hS ?_);go_ret;exact⟨rfl,j7 ⟨rfl,rfl⟩ hS⟩
 | some l=>
  obtain⟨rfl,hv⟩:=hv;go_enter Tryz.func157,Tryz.ntmps157;go_wp2_with(first|refine zl1 hS ?_);go_ret;exact⟨rfl,j7 ⟨rfl,hv⟩ hS⟩
def ar4(s:RS):Bool:=match s with
 | some []=>true
 | _=>false
theorem St7(D:HP)(rb:Nat)(s:RS)(W w:World)(R:List HP)(hS:St W (rdG D rb s::R) w):
  Calls Tryz.prog 92 #[.P rb] w fun e w'=>e=.returned (.bool (ar4 s))/\St W (rdG D rb s::R) w':=by
 cases s with
 | none=>
  go_enter Tryz.func92,Tryz.ntmps92;go_wp2_with(first|go_at_call 157;refine(JN7 D rb none W _ _ hS).mono ?_;clear hS;rintro e w ⟨rfl,hS⟩);go_ret;exact⟨rfl,hS⟩
 | some l=>
  cases l with
  | nil=>
   go_enter Tryz.func92,Tryz.ntmps92;go_wp2_with(first|refine zl1 hS ?_|go_at_call 157;refine(JN7 D rb (some []) W _ _ hS).mono ?_;clear hS;rintro e w ⟨rfl,hS1⟩;obtain⟨v0,e0,hv,hS⟩:=B9 hS1;clear hS1;obtain⟨a0,c0,rfl,rfl,Hv⟩:=ad4 hv;clear hv);go_ret;exact⟨rfl,j7 Hv.out hS⟩
  | cons x t=>
   have h0:decide (((x::t).length:Int)=0)=false:=by simp;omega
   go_enter Tryz.func92,Tryz.ntmps92;go_wp2_with(first|refine zl1 hS ?_|go_at_call 157;refine(JN7 D rb (some (x::t)) W _ _ hS).mono ?_;clear hS;rintro e w ⟨rfl,hS1⟩;obtain⟨v0,e0,hv,hS⟩:=B9 hS1;clear hS1;obtain⟨a0,c0,rfl,rfl,Hv⟩:=ad4 hv;clear hv);go_ret;refine⟨?_,j7 Hv.out hS⟩;simp[ar4]
   try omega
def At(D:HP)(a:Option Addr)(c:Nat)(l:List Int):Prop:=(l=[]/\a=none/\c=0)\/(l=[]/\∃p,a=some p)\/∃g off,a=some ⟨g,off,none⟩/\Dat D g off l
theorem Ft7(D:HP)(a:Option Addr)(c:Nat)(l:List Int)(h:At D a c l)(hl:l.length<=100000000)(W w:World)(R R':List HP)(ht:Take R D R')(hS:St W R w):
  Calls Tryz.prog 138 #[.slice a l.length c] w fun e w'=>∃v,e=.returned v/\St W (byR v l::R) w':=by
 rcases h with ⟨rfl,rfl,rfl⟩|⟨rfl,p,rfl⟩|⟨g,off,rfl,hD⟩
 ·go_enter Tryz.func138,Tryz.ntmps138;go_wp2_with(first|(with_reducible apply KT7);rfl;rfl;rfl;rfl;exact Tryz.underlying63;simp only[Option.isNone_some,Option.isNone_none];refine frS ?_);go_ret;exact⟨_,rfl,hS.rowNil⟩
 ·go_enter Tryz.func138,Tryz.ntmps138;go_wp2_with(first|(with_reducible apply KT7);rfl;rfl;rfl;rfl;exact Tryz.underlying63;simp only[Option.isNone_some,Option.isNone_none];refine frS ?_|(with_reducible apply Ct7 (n:=0) hS);rfl;rfl;(focus(simp only[fD,fI,fJ,Act.eval,fE,fF,fG,fH,fK];try rfl));exact esS;exact rsS;rfl;rfl;rfl;rfl;rfl;decide;clear hS;intro bv w hS;refine frS ?_|(with_reducible apply DQ7 hS);rfl;rfl;rfl;rfl;exact esS;exact rsS;exact g8;refine frS ?_);go_ret;exact⟨_,rfl,hS⟩
 ·have hsrc:Src R (.slice (some ⟨g,off,none⟩) l.length c) l.length (u8s l):=Src.mk (hD _ _ ht);go_enter Tryz.func138,Tryz.ntmps138;go_wp2_with(first|(with_reducible apply KT7);rfl;rfl;rfl;rfl;exact Tryz.underlying63;simp only[Option.isNone_some,Option.isNone_none];refine frS ?_|(with_reducible apply Ct7 (n:=0) hS);rfl;rfl;(focus(simp only[fD,fI,fJ,Act.eval,fE,fF,fG,fH,fK];try rfl));exact esS;exact rsS;rfl;rfl;rfl;rfl;rfl;decide;clear hS;intro bv w hS;refine frS ?_|(with_reducible apply Aj7 hS);rfl;rfl;rfl;rfl;exact esS;exact rsS;rfl;decide;exact g8;exact hsrc.there;(focus(rw[AS7,Nat.mul_one]));exact Be7 _;(focus(unfold maxLen;omega));(focus(omega));clear hS;intro v w hS;(have hv:=hS.rowVal;obtain⟨va,vc,rfl⟩:=hv);refine frS ?_);go_ret;refine⟨_,rfl,?_⟩;have h0:St W (row (.slice va (0+l.length) vc) 1 5 (0+l.length) (u8s ([]++l))::_) w:=hS;have h2:=AR7 (by rw[jN,Nat.zero_add]) h0;rw[jN]at h2;exact h2
theorem OQ7(D:HP)(a:Option Addr)(c:Nat){n:Nat}(l:List Int)(h:At D a c l)(hl:l.length<=100000000)(hn:l.length=n)(W w:World)(R R':List HP)(ht:Take R D R')(hS:St W R w):
  Calls Tryz.prog 138 #[.slice a n c] w fun e w'=>∃v,e=.returned v/\St W (byR v l::R) w':=hn▸Ft7 D a c l h hl W w R R' ht hS
theorem BF7{W w:World}{v:Value}{l:List Int}{R:List HP}(h:St W (byR v l::R) w):∃a c,v=.slice a l.length c/\rdV (byR (.slice a l.length c) l) (.slice a l.length c) false (some l):=by
 rcases h.rowOpen with ⟨rfl,h0,_,_⟩|⟨g,cap,junk,rfl,hn,hm,_,_,_⟩
 ·have hl:l=[]:=List.eq_nil_of_length_eq_zero h0;subst hl;exact⟨none,0,rfl,rfl,none,0,rfl,Nat.le_refl _,by decide,.inl ⟨rfl,rfl,rfl⟩⟩
 ·refine⟨_,_,rfl,rfl,_,_,rfl,hn,by unfold maxLen at hm;omega,?_⟩;by_cases h0:0<l.length
  ·exact .inr (.inr ⟨g,0,rfl,Dat.row h0⟩)
  ·exact .inr (.inl ⟨List.eq_nil_of_length_eq_zero (by omega),_,rfl⟩)
theorem BG7{D:HP}{a:Option Addr}{c:Nat}{l:List Int}(h:rdV D (.slice a l.length c) false (some l)):At D a c l:=by
 obtain⟨_,a2,c2,e,_,_,h⟩:=h
 cases e
 exact h
theorem De7{D:HP}{a:Option Addr}{c:Nat}{l:List Int}(h:rdV D (.slice a l.length c) false (some l)):l.length<=c/\c<=9223372036854775807:=by
 obtain⟨_,a2,c2,e,h1,h2,_⟩:=h
 cases e
 exact⟨h1,h2⟩
theorem JO7(D:HP)(a:Option Addr)(c:Nat)(l:List Int)(h:At D a c l)(hl:l.length<=100000000)(W w:World)(R R':List HP)(ht:Take R D R')(hS:St W R w):
  Calls Tryz.prog 86 #[.slice a l.length c] w fun e w'=>∃v rb,e=.returned (.P rb)/\St W (rdG (byR v l) rb (some l)::byR v l::R) w':=by
 go_enter Tryz.func86,Tryz.ntmps86;go_wp2_with(first|go_at_call 138;refine(Ft7 D a c l h hl W _ _ _ ht hS).mono ?_;clear hS;rintro e w ⟨v,rfl,hS⟩;(have hv:=hS.rowVal;obtain⟨va,vc,rfl⟩:=hv)|refine zbx hS ?_;clear hS;intro b w hS);go_ret;obtain⟨a1,c1,e1,hv⟩:=BF7 hS.drop
 cases e1
 exact⟨_,_,rfl,j7 hv hS⟩
theorem eH4{n:Int}{l:List Int}(h:¬(0<=n/\n<=l.length)):S8 n (some l)=([],none):=if_neg h
theorem fU4{m:Nat}{l:List Int}(h:m<=l.length):S8 (m:Int) (some l)=(l.take m,some (l.drop m)):=by unfold S8;simp only;rw[if_pos ⟨by omega,by omega⟩];simp
theorem TA7(D:HP)(rb:Nat)(s:RS)(n:Int)(hn : -9223372036854775808<=n/\n<=9223372036854775807)(hl:∀l,s=some l->l.length<=100000000)(W w:World)(R R':List HP)(ht:Take R D R')(hS:St W (rdG D rb s::R) w):
  Calls Tryz.prog 195 #[.P rb,.I n] w fun e w'=>∃v,e=.returned v/\St W (byR v (S8 n s).1::rdG D rb (S8 n s).2::R) w':=by
 cases s with
 | none=>
  rw[Fs7];obtain⟨v0,e0,hv,hS1⟩:=B9 hS;clear hS hl;obtain⟨rfl,rfl⟩:=hv;have hS:=hS1;clear hS1;by_cases hlo:n<0
  ·go_enter Tryz.func195,Tryz.ntmps195;go_wp2_with(first|go_at_call 197;refine(bH4 D rb none W _ _ (j7 ⟨rfl,rfl⟩ hS)).mono ?_;clear hS;rintro e w ⟨rfl,hS⟩);go_ret;exact⟨_,rfl,hS.rowNil⟩
  ·by_cases hhi:0<n
   ·go_enter Tryz.func195,Tryz.ntmps195;go_wp2_with(first|refine zl1 hS ?_|go_at_call 197;refine(bH4 D rb none W _ _ (j7 ⟨rfl,rfl⟩ hS)).mono ?_;clear hS;rintro e w ⟨rfl,hS⟩);go_ret;exact⟨_,rfl,hS.rowNil⟩
   ·obtain rfl:n=0:=by omega
    clear hlo hhi hn;go_enter Tryz.func195,Tryz.ntmps195;go_wp2_with(first|refine zl1 hS ?_|go_at_call 138;refine(Ft7 D none 0 [] (.inl ⟨rfl,rfl,rfl⟩) (by simp) W _ _ _ ht.tail hS).mono ?_;clear hS;rintro e w ⟨v,rfl,hS⟩;(have hv:=hS.rowVal;obtain⟨va,vc,rfl⟩:=hv)|refine zs1 hS ?_;clear hS;intro w hS);go_ret;exact⟨_,rfl,St.swap (j7 ⟨rfl,rfl⟩ hS.swap)⟩
 | some l=>
  have hll:=hl l rfl;clear hl;obtain⟨v0,e0,hv,hS1⟩:=B9 hS;clear hS;have hS:=hS1;clear hS1;obtain⟨a0,c0,rfl,rfl,Hv⟩:=ad4 hv;clear hv;by_cases hlo:n<0
  ·rw[eH4 (by omega)];go_enter Tryz.func195,Tryz.ntmps195;go_wp2_with(first|go_at_call 197;refine(bH4 D rb (some l) W _ _ (j7 Hv.out hS)).mono ?_;clear hS;rintro e w ⟨rfl,hS⟩);go_ret;exact⟨_,rfl,hS.rowNil⟩
  ·obtain⟨m,rfl⟩:∃m:Nat,n=m:=⟨n.toNat,by omega⟩
   by_cases hhi:m<=l.length
   ·rw[fU4 hhi];have hsl:=BG7 Hv.out;obtain⟨hcl,hcm⟩:=De7 Hv.out;have hmc:m<=c0:=by omega
    have hd:decide ((l.length:Int)<(m:Int))=false:=by simp;omega
    rcases hsl with ⟨rfl,rfl,rfl⟩|⟨rfl,p,rfl⟩|⟨g,off,rfl,hD⟩
    ·obtain rfl:m=0:=by simpa using hhi
     go_enter Tryz.func195,Tryz.ntmps195;go_wp2_with(first|refine zl1 hS ?_|go_at_call 138;refine(Ft7 D none 0 [] (.inl ⟨rfl,rfl,rfl⟩) (by simp) W _ _ _ ht.tail hS).mono ?_;clear hS;rintro e w ⟨v,rfl,hS⟩;(have hv:=hS.rowVal;obtain⟨va,vc,rfl⟩:=hv)|refine zs1 hS ?_;clear hS;intro w hS);go_ret;exact⟨_,rfl,St.swap (j7 Hv.out hS.swap)⟩
    ·obtain rfl:m=0:=by simpa using hhi
     by_cases hc0:c0=0
     ·subst hc0;go_enter Tryz.func195,Tryz.ntmps195;go_wp2_with(first|refine zl1 hS ?_|go_at_call 138;refine(Ft7 D (some p) _ [] (.inr (.inl ⟨rfl,p,rfl⟩)) (by simp) W _ _ _ ht.tail hS).mono ?_;clear hS;rintro e w ⟨v,rfl,hS⟩;(have hv:=hS.rowVal;obtain⟨va,vc,rfl⟩:=hv)|refine zs1 hS ?_;clear hS;intro w hS);go_ret;exact⟨_,rfl,St.swap (j7 Hv.out hS.swap)⟩
     ·go_enter Tryz.func195,Tryz.ntmps195;go_wp2_with(first|refine zl1 hS ?_|go_at_call 138;refine(Ft7 D (some p) _ [] (.inr (.inl ⟨rfl,p,rfl⟩)) (by simp) W _ _ _ ht.tail hS).mono ?_;clear hS;rintro e w ⟨v,rfl,hS⟩;(have hv:=hS.rowVal;obtain⟨va,vc,rfl⟩:=hv)|refine zs1 hS ?_;clear hS;intro w hS);go_ret;refine⟨_,rfl,St.swap (j7 (v:=.slice (some _) 0 c0) ⟨rfl,_,c0,rfl,Nat.zero_le _,hcm,.inr (.inl ⟨rfl,_,rfl⟩)⟩ hS.swap)⟩
    ·have hD1:=hD.take m;have hlm:(l.take m).length=m:=by rw[jT];omega
     have hld:(l.drop m).length=l.length-m:=List.length_drop ..;by_cases hc0:c0=m
     ·go_enter Tryz.func195,Tryz.ntmps195;go_wp2_with(first|refine zl1 hS ?_|go_at_call 138;refine(OQ7 D (some ⟨g,off,none⟩) _ (l.take m) (.inr (.inr ⟨g,off,rfl,hD1⟩)) (by omega) hlm W _ _ _ ht.tail hS).mono ?_;clear hS;rintro e w ⟨v,rfl,hS⟩;(have hv:=hS.rowVal;obtain⟨va,vc,rfl⟩:=hv);rw[hlm]at hS|refine zs1 hS ?_;clear hS;intro w hS);go_ret;refine⟨_,rfl,St.swap (j7 ?_ hS.swap)⟩;refine⟨rfl,_,_,by rw[hld],by rw[hld];omega,by omega,.inr (.inl ⟨List.eq_nil_of_length_eq_zero (by rw[hld];omega),_,rfl⟩)⟩
     ·go_enter Tryz.func195,Tryz.ntmps195;go_wp2_with(first|refine zl1 hS ?_|go_at_call 138;refine(OQ7 D (some ⟨g,off,none⟩) _ (l.take m) (.inr (.inr ⟨g,off,rfl,hD1⟩)) (by omega) hlm W _ _ _ ht.tail hS).mono ?_;clear hS;rintro e w ⟨v,rfl,hS⟩;(have hv:=hS.rowVal;obtain⟨va,vc,rfl⟩:=hv);rw[hlm]at hS|refine zs1 hS ?_;clear hS;intro w hS);go_ret;refine⟨_,rfl,St.swap (j7 ?_ hS.swap)⟩;refine⟨rfl,_,_,by rw[hld],by rw[hld];omega,by omega,.inr (.inr ⟨_,_,rfl,hD.drop m⟩)⟩
   ·rw[eH4 (by omega)];have hd:decide ((l.length:Int)<(m:Int))=true:=by simp;omega
    go_enter Tryz.func195,Tryz.ntmps195;go_wp2_with(first|refine zl1 hS ?_|go_at_call 197;refine(bH4 D rb (some l) W _ _ (j7 Hv.out hS)).mono ?_;clear hS;rintro e w ⟨rfl,hS⟩);go_ret;exact⟨_,rfl,hS.rowNil⟩
end Go.Proofs.YtlmhakmoioogaaaGreat
end
