/-
  The document's planner.
-/
import Derived.Test.YtjcfifkjbaffnaaGreatPkQM5
import Derived.Test.YtjcfifkjbaffnaaGreatPkQM29
import Derived.Laws.MakeOwn
set_option maxHeartbeats 16000000
set_option maxRecDepth 100000
set_option linter.unusedSimpArgs false
set_option linter.unusedVariables false
section
namespace Go.Proofs.YtjcfifkjbaffnaaGreat
open Go.RowKit Go.Sl
theorem bG4(w:World):(Instr.build 64 #[(0,.I 2)]).run Tryz.prog w=.ok (.agg #[.I 2,.I 0,.I 0,.I 0,.string bN]) w:=by kernel_rfl
section
variable{D:De}{nm:List Bool}{out:List Cg}{to:List Int}{mvs:Int}{l:List Ro}{zs:List Zo}{V:World}{W w:World}{R R1 R2:List HP}
theorem BE7(hz:d6 Zo.cells 9 V D.zv zs)(hl:d6 Ro.cells 3 V D.lv l)(hll:l.length<=60){i:Nat}(hi:i+1<zs.length){x:Int}(hx:i9 l zs[i+1]=x)(ht:Take R (dsP D nm out to mvs) R1)(hm:Take R1 (Old V) R2)(hS:St W R w):
  Calls Tryz.prog 55 #[.pointer (some ⟨D.pb,0,none⟩),.I ((i:Int)+1)] w fun e w'=>e=.returned (.I x)/\St W R w':=Aq7 hz hl hll (i:=i+1) hi hx ht hm hS
theorem BF7(hz:d6 Zo.cells 9 V D.zv zs)(hn:nm.length=zs.length){i:Nat}(hi:i+1<zs.length){x:Bool}(hx:(decide (zs[i+1].pend=0)&&!(nm.getD (i+1) false))=x)(ht:Take R (dsP D nm out to mvs) R1)(hm:Take R1 (Old V) R2)(hS:St W R w):
  Calls Tryz.prog 52 #[.pointer (some ⟨D.pb,0,none⟩),.I ((i:Int)+1)] w fun e w'=>e=.returned (.bool x)/\St W R w':=Ar7 hz hn (i:=i+1) hi hx ht hm hS
end
def MeR(W:World)(R:List HP)(D:De)(l:List Ro)(zs:List Zo)(cold mvs:Int)(s0:Pn)(v4:Value)(w:World):Prop:=
 ∃(i:Nat) (s:Pn),v4=.I i/\i+1<=zs.length/\w8 l cold zs s0 i=s/\s.out.length<=300+i/\St W (dsS D zs s mvs::R) w
theorem FX7{D:De}{mvs:Int}{l:List Ro}{zs:List Zo}{s0:Pn}{V:World}(hz:d6 Zo.cells 9 V D.zv zs)(hzl16:zs.length<=16)(hz1:1<=zs.length)(hl:d6 Ro.cells 3 V D.lv l)(hll:l.length<=60)(hnd:(zs.map (·.id)).Nodup)(hol:s0.out.length<=300)(cold:Int)(W w:World)(R:List HP)(hS:St W (dsS D zs s0 mvs::Old V::R) w):
  Calls Tryz.prog 24 #[.pointer (some ⟨D.pb,0,none⟩),.I cold] w fun e w'=>e=.returned (.tuple #[])/\St W (dsS D zs (w8 l cold zs s0 (zs.length-1)) mvs::Old V::R) w':=by
 have hzl:zs.length<=60:=by omega
 have Hz:=jH hz;have Hl:=jH hl;have Hnd:=jH hnd;clear hl hnd;obtain⟨pb,ver,nxt,zv,hv,lv⟩:=D;simp only at hS hz Hz Hl ⊢;obtain⟨za,cap,rfl,h63,hact⟩:=hz;obtain⟨zb,zoff,rfl,_⟩:=hact 0 (by omega)
 have Hat:=jH (show ∀i (hi:i<zs.length), ∀j u,(zs[i].cells)[j]? = some u->V.cell? ⟨zb,zoff+i*9+j,none⟩=some u from fun i hi=>by
  obtain⟨b,o,e,h⟩:=hact i hi
  cases e
  exact h)
 clear hact;go_enter Tryz.func24,Tryz.ntmps24;go_wp2_with(first|go_big_skip)
 go_loopw [4] (fun v4 wr=>MeR W (Old V::R) ⟨pb,ver,nxt,.slice (some ⟨zb,zoff,none⟩) zs.length cap,hv,lv⟩ l zs cold mvs s0 v4 wr) (fun v4 _=>zs.length-(intOf v4).toNat)
 case atStart=>exact⟨0,s0,rfl,hz1,rfl,by omega,hS⟩
 case round=>
  clear hS;obtain⟨i,s,rfl,hi,hst,hob,hS⟩:=hrel;have hi16:i<=16:=by omega
  by_cases hil:i+1<zs.length
  ·have d1:decide ((i:Int)+1<(zs.length:Int))=true:=by simp;omega
   have d1':decide (i+1<zs.length)=true:=decide_eq_true hil;have hnx:=Hg7 l cold s0 hil;rw[hst]at hnx;have hi0:i<zs.length:=by omega
   have hallz:=Hat.out i hi0;have hally:=Hat.out (i+1) hil;have hra:=AA7 l zs[i];have hrb:=AA7 l zs[i+1];obtain⟨ha,hha⟩:∃x,i9 l zs[i]=x:=⟨_,rfl⟩
   obtain⟨hb,hhb⟩:∃x,i9 l zs[i+1]=x:=⟨_,rfl⟩
   obtain⟨fa,hfa⟩:∃x,s7 s zs[i]=x:=⟨_,rfl⟩
   obtain⟨fb,hfb⟩:∃x,s7 s zs[i+1]=x:=⟨_,rfl⟩
   have Hfa:=jH ((aK4 (s:=s) hi0).trans hfa);have Hfb:=jH ((aK4 (s:=s) hil).trans hfb);have Hha:=jH hha;have Hhb:=jH hhb;unfold aZ4 at hnx;rw[hha,hhb,hfa,hfb]at hnx;rw[hha]at hra;rw[hhb]at hrb;obtain⟨a1,a2⟩:=hra;obtain⟨b1,b2⟩:=hrb;have hadd:=Dz7 Hnd.out s.nm hi0;have hadd2:=Dz7 Hnd.out (zs[i].id::s.nm) hil;have Hadd:=jH hadd;obtain⟨z,hzi⟩:∃z,zs[i]=z:=⟨_,rfl⟩
   obtain⟨y,hyi⟩:∃y,zs[i+1]=y:=⟨_,rfl⟩
   rw[hzi,hyi]at hnx hadd2;rw[hzi]at hallz;rw[hyi]at hally;obtain⟨z0,z1,z2,z3,z4,z5,z6,z7,z8⟩:=z;obtain⟨y0,y1,y2,y3,y4,y5,y6,y7,y8⟩:=y;simp only[Zo.cells]at hallz hally;simp only at hnx hadd2;have e3:decide (z3=y3)=(z3==y3):=by rw[Bool.eq_iff_iff];simp
   rw[e3]at hnx;have hz3:V.cell? ⟨zb,zoff+i*9+3,none⟩=some (.I z3):=hallz 3 _ rfl;have hy3:V.cell? ⟨zb,zoff+(i+1)*9+3,none⟩=some (.I y3):=hally 3 _ rfl;have Hzi:=jH hzi;have Hadd2:=jH hadd2;clear hha hhb hfa hfb e3 hst hi hallz hally hzi hyi hadd hadd2
   cases fa with
   | false=>
    have Hno:=jH (show w8 l cold zs s0 (i+1)=s from hnx);clear hnx;go_wp2_with(first|go_big_skip|refine zl1 hS ?_ (v:=.slice (some ⟨zb,zoff,none⟩) zs.length cap) (hc:=by exact A6 (D:=⟨pb,ver,nxt,.slice (some ⟨zb,zoff,none⟩) zs.length cap,hv,lv⟩)));refine Aa7 (by kernel_rfl) (by kernel_rfl) hS ?_
    repeat(first|go_big_quiet_skip|(fail_if_success (have:=g1));apply Ac7;rfl;(intro w;apply Ab7;rfl;decide +kernel;(focus(simp only[fD,fI,fJ,Act.eval,fE,fF,fG,fH,fK];try rfl)));(intro w hS;exact Ar7 (D:=⟨pb,ver,nxt,.slice (some ⟨zb,zoff,none⟩) zs.length cap,hv,lv⟩) Hz.out (Ak7 zs s.nm) hi0 Hfa.out .head .head hS);(refine frS ?_);have g1:Nat:=0|(have:=g1);(fail_if_success (have:=g2));apply Ac7;rfl;(intro w;apply Ab7;rfl;decide +kernel;(focus(simp only[fD,fI,fJ,Act.eval,fE,fF,fG,fH,fK];try rfl)));(intro w hS;exact BF7 (D:=⟨pb,ver,nxt,.slice (some ⟨zb,zoff,none⟩) zs.length cap,hv,lv⟩) Hz.out (Ak7 zs s.nm) hil Hfb.out .head .head hS);(refine frS ?_);have g2:Nat:=0|refine zq1 ?_ (v:=.slice (some ⟨zb,zoff,none⟩) zs.length cap) (hc:=by exact A6 (D:=⟨pb,ver,nxt,.slice (some ⟨zb,zoff,none⟩) zs.length cap,hv,lv⟩))|(have:=g2);(fail_if_success (have:=g3));refine zq1 ?_ (v:=.I z3) (hc:=by exact a8.old (by exact b8) hz3);have g3:Nat:=0|(have:=g3);(fail_if_success (have:=g4));refine zq1 ?_ (v:=.I y3) (hc:=by exact a8.old (by exact b8) hy3);have g4:Nat:=0|(have:=g4);(fail_if_success (have:=g5));apply Ac7;rfl;(intro w;apply Ab7;rfl;decide +kernel;(focus(simp only[fD,fI,fJ,Act.eval,fE,fF,fG,fH,fK];try rfl)));(intro w hS;exact Aq7 (D:=⟨pb,ver,nxt,.slice (some ⟨zb,zoff,none⟩) zs.length cap,hv,lv⟩) Hz.out Hl.out hll hi0 Hha.out .head .head hS);(refine frS ?_);have g5:Nat:=0|(have:=g5);apply Ac7;rfl;(intro w;apply Ab7;rfl;decide +kernel;(focus(simp only[fD,fI,fJ,Act.eval,fE,fF,fG,fH,fK];try rfl)));(intro w hS;exact BE7 (D:=⟨pb,ver,nxt,.slice (some ⟨zb,zoff,none⟩) zs.length cap,hv,lv⟩) Hz.out Hl.out hll hil Hhb.out .head .head hS);(refine frS ?_)|refine zqn ?_|refine qR ?_)
    clear hS;intro w hS;go_wp2_with(first|go_big_skip);go_roundw
    case rel=>exact⟨i+1,s,rfl,hil,Hno.out,by omega,hS⟩
    case measure=>simp[intOf];omega
   | true=>
    cases fb with
    | false=>
     have Hno:=jH (show w8 l cold zs s0 (i+1)=s from hnx);clear hnx;go_wp2_with(first|go_big_skip|refine zl1 hS ?_ (v:=.slice (some ⟨zb,zoff,none⟩) zs.length cap) (hc:=by exact A6 (D:=⟨pb,ver,nxt,.slice (some ⟨zb,zoff,none⟩) zs.length cap,hv,lv⟩)));refine Aa7 (by kernel_rfl) (by kernel_rfl) hS ?_
     repeat(first|go_big_quiet_skip|(fail_if_success (have:=g1));apply Ac7;rfl;(intro w;apply Ab7;rfl;decide +kernel;(focus(simp only[fD,fI,fJ,Act.eval,fE,fF,fG,fH,fK];try rfl)));(intro w hS;exact Ar7 (D:=⟨pb,ver,nxt,.slice (some ⟨zb,zoff,none⟩) zs.length cap,hv,lv⟩) Hz.out (Ak7 zs s.nm) hi0 Hfa.out .head .head hS);(refine frS ?_);have g1:Nat:=0|(have:=g1);(fail_if_success (have:=g2));apply Ac7;rfl;(intro w;apply Ab7;rfl;decide +kernel;(focus(simp only[fD,fI,fJ,Act.eval,fE,fF,fG,fH,fK];try rfl)));(intro w hS;exact BF7 (D:=⟨pb,ver,nxt,.slice (some ⟨zb,zoff,none⟩) zs.length cap,hv,lv⟩) Hz.out (Ak7 zs s.nm) hil Hfb.out .head .head hS);(refine frS ?_);have g2:Nat:=0|refine zq1 ?_ (v:=.slice (some ⟨zb,zoff,none⟩) zs.length cap) (hc:=by exact A6 (D:=⟨pb,ver,nxt,.slice (some ⟨zb,zoff,none⟩) zs.length cap,hv,lv⟩))|(have:=g2);(fail_if_success (have:=g3));refine zq1 ?_ (v:=.I z3) (hc:=by exact a8.old (by exact b8) hz3);have g3:Nat:=0|(have:=g3);(fail_if_success (have:=g4));refine zq1 ?_ (v:=.I y3) (hc:=by exact a8.old (by exact b8) hy3);have g4:Nat:=0|(have:=g4);(fail_if_success (have:=g5));apply Ac7;rfl;(intro w;apply Ab7;rfl;decide +kernel;(focus(simp only[fD,fI,fJ,Act.eval,fE,fF,fG,fH,fK];try rfl)));(intro w hS;exact Aq7 (D:=⟨pb,ver,nxt,.slice (some ⟨zb,zoff,none⟩) zs.length cap,hv,lv⟩) Hz.out Hl.out hll hi0 Hha.out .head .head hS);(refine frS ?_);have g5:Nat:=0|(have:=g5);apply Ac7;rfl;(intro w;apply Ab7;rfl;decide +kernel;(focus(simp only[fD,fI,fJ,Act.eval,fE,fF,fG,fH,fK];try rfl)));(intro w hS;exact BE7 (D:=⟨pb,ver,nxt,.slice (some ⟨zb,zoff,none⟩) zs.length cap,hv,lv⟩) Hz.out Hl.out hll hil Hhb.out .head .head hS);(refine frS ?_)|refine zqn ?_|refine qR ?_)
     clear hS;intro w hS;go_wp2_with(first|go_big_skip);go_roundw
     case rel=>exact⟨i+1,s,rfl,hil,Hno.out,by omega,hS⟩
     case measure=>simp[intOf];omega
    | true=>
     cases h3:z3==y3 with
     | false=>
      rw[h3]at hnx;have Hno:=jH (show w8 l cold zs s0 (i+1)=s from hnx);clear hnx;go_wp2_with(first|go_big_skip|refine zl1 hS ?_ (v:=.slice (some ⟨zb,zoff,none⟩) zs.length cap) (hc:=by exact A6 (D:=⟨pb,ver,nxt,.slice (some ⟨zb,zoff,none⟩) zs.length cap,hv,lv⟩)));refine Aa7 (by kernel_rfl) (by kernel_rfl) hS ?_
      repeat(first|go_big_quiet_skip|(fail_if_success (have:=g1));apply Ac7;rfl;(intro w;apply Ab7;rfl;decide +kernel;(focus(simp only[fD,fI,fJ,Act.eval,fE,fF,fG,fH,fK];try rfl)));(intro w hS;exact Ar7 (D:=⟨pb,ver,nxt,.slice (some ⟨zb,zoff,none⟩) zs.length cap,hv,lv⟩) Hz.out (Ak7 zs s.nm) hi0 Hfa.out .head .head hS);(refine frS ?_);have g1:Nat:=0|(have:=g1);(fail_if_success (have:=g2));apply Ac7;rfl;(intro w;apply Ab7;rfl;decide +kernel;(focus(simp only[fD,fI,fJ,Act.eval,fE,fF,fG,fH,fK];try rfl)));(intro w hS;exact BF7 (D:=⟨pb,ver,nxt,.slice (some ⟨zb,zoff,none⟩) zs.length cap,hv,lv⟩) Hz.out (Ak7 zs s.nm) hil Hfb.out .head .head hS);(refine frS ?_);have g2:Nat:=0|refine zq1 ?_ (v:=.slice (some ⟨zb,zoff,none⟩) zs.length cap) (hc:=by exact A6 (D:=⟨pb,ver,nxt,.slice (some ⟨zb,zoff,none⟩) zs.length cap,hv,lv⟩))|(have:=g2);(fail_if_success (have:=g3));refine zq1 ?_ (v:=.I z3) (hc:=by exact a8.old (by exact b8) hz3);have g3:Nat:=0|(have:=g3);(fail_if_success (have:=g4));refine zq1 ?_ (v:=.I y3) (hc:=by exact a8.old (by exact b8) hy3);have g4:Nat:=0|(have:=g4);(fail_if_success (have:=g5));apply Ac7;rfl;(intro w;apply Ab7;rfl;decide +kernel;(focus(simp only[fD,fI,fJ,Act.eval,fE,fF,fG,fH,fK];try rfl)));(intro w hS;exact Aq7 (D:=⟨pb,ver,nxt,.slice (some ⟨zb,zoff,none⟩) zs.length cap,hv,lv⟩) Hz.out Hl.out hll hi0 Hha.out .head .head hS);(refine frS ?_);have g5:Nat:=0|(have:=g5);apply Ac7;rfl;(intro w;apply Ab7;rfl;decide +kernel;(focus(simp only[fD,fI,fJ,Act.eval,fE,fF,fG,fH,fK];try rfl)));(intro w hS;exact BE7 (D:=⟨pb,ver,nxt,.slice (some ⟨zb,zoff,none⟩) zs.length cap,hv,lv⟩) Hz.out Hl.out hll hil Hhb.out .head .head hS);(refine frS ?_)|refine zqn ?_|refine qR ?_)
      clear hS;intro w hS;go_wp2_with(first|go_big_skip);go_roundw
      case rel=>exact⟨i+1,s,rfl,hil,Hno.out,by omega,hS⟩
      case measure=>simp[intOf];omega
     | true=>
      rw[h3]at hnx;by_cases c4:ha+hb<cold
      case neg=>
       have e4:decide (ha+hb<cold)=false:=decide_eq_false c4;rw[e4]at hnx;have Hno:=jH (show w8 l cold zs s0 (i+1)=s from hnx);clear hnx c4;go_wp2_with(first|go_big_skip|refine zl1 hS ?_ (v:=.slice (some ⟨zb,zoff,none⟩) zs.length cap) (hc:=by exact A6 (D:=⟨pb,ver,nxt,.slice (some ⟨zb,zoff,none⟩) zs.length cap,hv,lv⟩)));refine Aa7 (by kernel_rfl) (by kernel_rfl) hS ?_
       repeat(first|go_big_quiet_skip|(fail_if_success (have:=g1));apply Ac7;rfl;(intro w;apply Ab7;rfl;decide +kernel;(focus(simp only[fD,fI,fJ,Act.eval,fE,fF,fG,fH,fK];try rfl)));(intro w hS;exact Ar7 (D:=⟨pb,ver,nxt,.slice (some ⟨zb,zoff,none⟩) zs.length cap,hv,lv⟩) Hz.out (Ak7 zs s.nm) hi0 Hfa.out .head .head hS);(refine frS ?_);have g1:Nat:=0|(have:=g1);(fail_if_success (have:=g2));apply Ac7;rfl;(intro w;apply Ab7;rfl;decide +kernel;(focus(simp only[fD,fI,fJ,Act.eval,fE,fF,fG,fH,fK];try rfl)));(intro w hS;exact BF7 (D:=⟨pb,ver,nxt,.slice (some ⟨zb,zoff,none⟩) zs.length cap,hv,lv⟩) Hz.out (Ak7 zs s.nm) hil Hfb.out .head .head hS);(refine frS ?_);have g2:Nat:=0|refine zq1 ?_ (v:=.slice (some ⟨zb,zoff,none⟩) zs.length cap) (hc:=by exact A6 (D:=⟨pb,ver,nxt,.slice (some ⟨zb,zoff,none⟩) zs.length cap,hv,lv⟩))|(have:=g2);(fail_if_success (have:=g3));refine zq1 ?_ (v:=.I z3) (hc:=by exact a8.old (by exact b8) hz3);have g3:Nat:=0|(have:=g3);(fail_if_success (have:=g4));refine zq1 ?_ (v:=.I y3) (hc:=by exact a8.old (by exact b8) hy3);have g4:Nat:=0|(have:=g4);(fail_if_success (have:=g5));apply Ac7;rfl;(intro w;apply Ab7;rfl;decide +kernel;(focus(simp only[fD,fI,fJ,Act.eval,fE,fF,fG,fH,fK];try rfl)));(intro w hS;exact Aq7 (D:=⟨pb,ver,nxt,.slice (some ⟨zb,zoff,none⟩) zs.length cap,hv,lv⟩) Hz.out Hl.out hll hi0 Hha.out .head .head hS);(refine frS ?_);have g5:Nat:=0|(have:=g5);apply Ac7;rfl;(intro w;apply Ab7;rfl;decide +kernel;(focus(simp only[fD,fI,fJ,Act.eval,fE,fF,fG,fH,fK];try rfl)));(intro w hS;exact BE7 (D:=⟨pb,ver,nxt,.slice (some ⟨zb,zoff,none⟩) zs.length cap,hv,lv⟩) Hz.out Hl.out hll hil Hhb.out .head .head hS);(refine frS ?_)|refine zqn ?_|refine qR ?_)
       clear hS;intro w hS;go_wp2_with(first|go_big_skip);go_roundw
       case rel=>exact⟨i+1,s,rfl,hil,Hno.out,by omega,hS⟩
       case measure=>simp[intOf];omega
      have e4:decide (ha+hb<cold)=true:=decide_eq_true c4;rw[e4]at hnx;have Hyes:=jH (show w8 l cold zs s0 (i+1)=⟨y0::z0::s.nm,s.mv,s.out++[⟨2,z0,0,0,⟨#[]⟩⟩]⟩from hnx);clear hnx c4;go_wp2_with(first|go_big_skip|refine zl1 hS ?_ (v:=.slice (some ⟨zb,zoff,none⟩) zs.length cap) (hc:=by exact A6 (D:=⟨pb,ver,nxt,.slice (some ⟨zb,zoff,none⟩) zs.length cap,hv,lv⟩)));refine Aa7 (by kernel_rfl) (by kernel_rfl) hS ?_
      repeat(first|go_big_quiet_skip|(fail_if_success (have:=g1));apply Ac7;rfl;(intro w;apply Ab7;rfl;decide +kernel;(focus(simp only[fD,fI,fJ,Act.eval,fE,fF,fG,fH,fK];try rfl)));(intro w hS;exact Ar7 (D:=⟨pb,ver,nxt,.slice (some ⟨zb,zoff,none⟩) zs.length cap,hv,lv⟩) Hz.out (Ak7 zs s.nm) hi0 Hfa.out .head .head hS);(refine frS ?_);have g1:Nat:=0|(have:=g1);(fail_if_success (have:=g2));apply Ac7;rfl;(intro w;apply Ab7;rfl;decide +kernel;(focus(simp only[fD,fI,fJ,Act.eval,fE,fF,fG,fH,fK];try rfl)));(intro w hS;exact BF7 (D:=⟨pb,ver,nxt,.slice (some ⟨zb,zoff,none⟩) zs.length cap,hv,lv⟩) Hz.out (Ak7 zs s.nm) hil Hfb.out .head .head hS);(refine frS ?_);have g2:Nat:=0|refine zq1 ?_ (v:=.slice (some ⟨zb,zoff,none⟩) zs.length cap) (hc:=by exact A6 (D:=⟨pb,ver,nxt,.slice (some ⟨zb,zoff,none⟩) zs.length cap,hv,lv⟩))|(have:=g2);(fail_if_success (have:=g3));refine zq1 ?_ (v:=.I z3) (hc:=by exact a8.old (by exact b8) hz3);have g3:Nat:=0|(have:=g3);(fail_if_success (have:=g4));refine zq1 ?_ (v:=.I y3) (hc:=by exact a8.old (by exact b8) hy3);have g4:Nat:=0|(have:=g4);(fail_if_success (have:=g5));apply Ac7;rfl;(intro w;apply Ab7;rfl;decide +kernel;(focus(simp only[fD,fI,fJ,Act.eval,fE,fF,fG,fH,fK];try rfl)));(intro w hS;exact Aq7 (D:=⟨pb,ver,nxt,.slice (some ⟨zb,zoff,none⟩) zs.length cap,hv,lv⟩) Hz.out Hl.out hll hi0 Hha.out .head .head hS);(refine frS ?_);have g5:Nat:=0|(have:=g5);apply Ac7;rfl;(intro w;apply Ab7;rfl;decide +kernel;(focus(simp only[fD,fI,fJ,Act.eval,fE,fF,fG,fH,fK];try rfl)));(intro w hS;exact BE7 (D:=⟨pb,ver,nxt,.slice (some ⟨zb,zoff,none⟩) zs.length cap,hv,lv⟩) Hz.out Hl.out hll hil Hhb.out .head .head hS);(refine frS ?_)|refine zqn ?_|refine qR ?_)
      clear hS;intro w hS;go_wp2_with(first|go_big_skip|(with_reducible apply Bp7);rfl;rfl;(focus(simp only[fD,fI,fJ,Act.eval,fE,fF,fG,fH,fK];try rfl));intro w;exact bG4 w;refine frS ?_|(go_at_call 53);refine(Dy7 (D:=⟨pb,ver,nxt,.slice (some ⟨zb,zoff,none⟩) zs.length cap,hv,lv⟩) Hz.out (Ak7 zs s.nm) hi0 2 0 0 0 bN (by omega) W _ _ hS).mono ?_;clear hS;rintro e w ⟨rfl,hS⟩;rw[Hadd.out,Hzi.out]at hS;simp only at hS;obtain⟨nv,ov,tv,hS9⟩:=i6 hS;clear hS;(have hS8:=hS9.s (row nv 1 4 (nmD zs (z0::s.nm)).length ((nmD zs (z0::s.nm)).map kB)::dsB _ nv ov tv mvs::row ov 5 64 _ _::row tv 1 3 _ _::Old V::R));clear hS9;(rcases hS8.rowOpen with ⟨_,h9,_⟩|⟨ng,nc,junk,rfl,tj1,tj2,tj3,tj4,hS⟩);(focus(rw[Ak7]at h9;omega));clear hS8;unfold dsB at hS;simp only at hS;(have hset:=IP7 (junk:=junk) (show i+1<(nmD zs (z0::s.nm)).length by rw[Ak7];exact hil));(have hlen:i+1<((nmD zs (z0::s.nm)).map kB++junk).length:=by rw[jA,jM,Ak7];omega);rw[Hadd2.out]at hset;(have Hset:=jH hset);(have Hlen:=jH hlen);clear hset hlen;(have hnl:i+1<(nmD zs (z0::s.nm)).length:=by rw[Ak7];exact hil);generalize hcs:(nmD zs (z0::s.nm)).map kB++junk=cs at *;(have Hcs:=jH hcs);clear hcs|refine zl1 hS ?_|refine zs1 hS ?_ (hl:=by exact Hlen.out) (he:=by exact Hset.out);clear hS;intro w hS);go_roundw
      case rel=>
       have h9:=hS.rowShut (k:=1) (n:=(nmD zs (z0::s.nm)).length) (cap:=nc) (cs:=(nmD zs (y0::z0::s.nm)).map kB) (junk:=junk) tj1 tj2 (by have h8:=congrArg List.length Hset.out;rw[List.length_set]at h8;rw[<-h8];exact tj3) (by rw[jM,Ak7,Ak7,Nat.mul_one]);have h10:=h9.s (blk pb _ 69::row (.S ng _ nc) 1 4 _ _::row ov 5 64 _ _::row tv 1 3 _ _::Old V::R);refine⟨i+1,_,rfl,hil,Hyes.out,by rw[jA,List.length_singleton];omega,?_⟩;have e9:(nmD zs (y0::z0::s.nm)).length=(nmD zs (z0::s.nm)).length:=by rw[Ak7,Ak7]
       refine g8 (D:=⟨pb,ver,nxt,.slice (some ⟨zb,zoff,none⟩) zs.length cap,hv,lv⟩) (nm:=nmD zs (y0::z0::s.nm)) (nv:=.S ng (nmD zs (z0::s.nm)).length nc) (ov:=ov) (tv:=tv) ?_;rw[e9];exact h10
      case measure=>simp[intOf];omega
  ·have d1:decide ((i:Int)+1<(zs.length:Int))=false:=by simp;omega
   have d1':decide (i+1<zs.length)=false:=decide_eq_false hil;have hie:zs.length-1=i:=by omega
   have Hie:=jH hie;have Hst:=jH hst;clear hie hst hi;go_wp2_with(first|go_big_skip|refine zl1 hS ?_ (v:=.slice (some ⟨zb,zoff,none⟩) zs.length cap) (hc:=by exact A6 (D:=⟨pb,ver,nxt,.slice (some ⟨zb,zoff,none⟩) zs.length cap,hv,lv⟩)));go_end0;refine⟨rfl,?_⟩;rw[Hie.out,Hst.out];exact hS
end Go.Proofs.YtjcfifkjbaffnaaGreat
end
section
namespace Go.Sl
open Go.RowKit Go.Proofs Go.Proofs.YtjcfifkjbaffnaaGreat
theorem bH4(z:Value)(n:Nat):madeCells #[z] (n*1)=(List.replicate n z).toArray:=by
 apply Array.ext
 ·simp[madeCells]
 ·intro i h1 h2;simp[madeCells,Nat.mod_one]
section
variable{P:Program}{W w:World}{L:List HP}{a:Act}{o:Oper}{x y:Operand}{t e:TypeId}{z:Value}{n bytes:Nat}
theorem Iw7(hS:St W L w)(ho:o.op=.makeSlice t x y)(hx:a.eval x=.I n)(hy:a.eval y=.I n)(ht:j5 P t=some e)(hi:k8 P e=some (some z,1,bytes))(hzc:z.cells=#[z])(hn:n<=1000)(hb:bytes<=1000):
  ∃v w',(execOp a.eval o).run P w=.ok (.value v) w'/\St W (row v 1 e n (List.replicate n z)::L) w':=by
 unfold k8 at hi;obtain⟨i,hi,h0⟩:=Option.map_eq_some_iff.1 hi;simp only[Prod.mk.injEq]at h0;obtain⟨hz,h1,h2⟩:=h0;rw[<-h2]at hb
 have hr:=run_make (P:=P) w t e i z (AF7 ht) hi hz .i64 .i64 (n:Int) (n:Int) (by omega) (Int.le_refl _) (by
  have:i.bytes*n<=1000*1000:=Nat.mul_le_mul hb hn;have h2:(i.bytes:Int)*(n:Int)=((i.bytes*n:Nat):Int):=by simp
  rw[h2];omega) (by omega)
 rw[Int.toNat_natCast,h1,hzc,bH4]at hr;have h9:St W (blk w.heap.size (List.replicate n z++[]) e::L) (w.alloc (.cells (List.replicate n z).toArray e)):=by rw[List.append_nil];exact hS.alloc _
 refine⟨_,_,?_,St.rowShut (n:=n) (cap:=n) h9 (Nat.le_refl _) (by unfold maxLen;omega) (by simp) (by simp)⟩;unfold execOp;simp only[ho,hx,hy,Sem.run_bind,hr,Result.andThen_ok,Sem.run_pure]
end
section
variable{P:Program}{W:World}{ops:Array Oper}{t:List Nat}{toks:List Tok}{fresh:Nat->Bool}{pin:Nat->Option Value}{Qf:Act->Prop}{nd:Nat->Value}{i:Nat}{l:List Oper}{a:Act}{o:Oper}
theorem Ki7{x y:Operand}{ty e:TypeId}{z:Value}{n bytes:Nat}(hf:fresh i=true)(ho:o.op=.makeSlice ty x y)(hg:Region.wanted o (yielded ops a.tmps)=true)(hx:a.eval x=.I n)(hy:a.eval y=.I n)(ht:j5 P ty=some e)(hi:k8 P e=some (some z,1,bytes))(hzc:z.cells=#[z])(hn:n<=1000)(hb:bytes<=1000)
  (hk:∀v,kpL toks t i (upd nd i v)=kpL toks t i nd) (hc:cnL toks t i nd=[]) (hm:∀v,mdL toks i (upd nd i v)=[row v 1 e n (List.replicate n z)]) (h:d9 P W ops t toks fresh pin Qf nd (i+1) l (a.put o.dst (nd i))):d9 P W ops t toks fresh pin Qf nd i (o::l) a:=
 CN7 hf hg hk (fun F w hS=>by rw[hc]at hS;obtain⟨v,w',h1,h2⟩:=Iw7 (P:=P) hS ho hx hy ht hi hzc hn hb;refine⟨v,w',h1,?_⟩;rw[hm];exact h2) h
end
end Go.Sl
namespace Go.Proofs.YtjcfifkjbaffnaaGreat
open Go.RowKit Go.Sl
theorem br4(x y:Int)(a b c d:Option Addr)(n n2 n3 n4 c1 c2 c3 c4:Nat)(w:World):(Instr.build 69 #[(0,.agg #[.I x,.I y,.slice a n c1]),(1,.slice b n2 c2),(2,.slice c n3 c3),(3,.slice d n4 c4)]).run Tryz.prog w=.ok (.agg #[.I x,.I y,.slice a n c1,.slice b n2 c2,.slice c n3 c3,.slice d n4 c4,.slice none 0 0,.slice none 0 0,.I 0]) w:=by kernel_rfl
theorem JB7(zs:List Zo):(nmD zs []).map kB=List.replicate zs.length (.bool false):=by
 induction zs with
 | nil=>rfl
 | cons z zs ih=>
  show kB (decide (z.id∈[]))::(nmD zs []).map kB=_
  rw[ih];rfl
theorem Ix7{zs:List Zo}(h:C8 zs ⟨#[]⟩ true=true):1<=zs.length:=by
 cases zs with
 | nil=>simp[C8]at h
 | cons z zs=>simp
theorem Kj7{zs:List Zo}{i:Nat}(h:i<zs.length):(toD (zs.take (i+1)) pn0).map kI=(toD (zs.take i) pn0).map kI++[kI (atZ pn0 zs[i])]:=by unfold toD;rw[List.take_succ_eq_append_getElem h,List.map_append,List.map_append];rfl
theorem bI4(z:Zo):atZ pn0 z=if z.pend=3 then z.to else z.own:=rfl
def MzR(W:World)(R:List HP)(zs:List Zo)(pb:Nat)(ver nxt:Int)(zv hv lv nv:Value)(v12:Value)(w:World):Prop:=
 ∃(i:Nat) (tv:Value),v12=.I i/\i<=zs.length/\St W (blk pb [.I ver,.I nxt,zv,hv,lv,nv,.slice none 0 0,tv,.I (i7 (zs.take i) 3)] 69::row tv 1 3 i ((toD (zs.take i) pn0).map kI)::R) w
def MlR(W:World)(R:List HP)(D:De)(l:List Ro)(zs:List Zo)(hs:List Int)(s0:Pn)(w:World):Prop:=
 ∃(m:Nat) (s:Pn),i7 zs 3<=m/\m<=20/\s.out.length+i7 zs 3<=s0.out.length+m/\(∀t,MovI l zs hs (2-m) s t->MovI l zs hs (2-i7 zs 3) s0 t)/\St W (dsS D zs s m::R) w
def mzM(pb:Nat)(w:World):Nat:=match w.cell? ⟨pb,8,none⟩with
 | some (.int _ n)=>(100-n).toNat
 | _=>0
theorem Iy7{D:De}{zs:List Zo}{m:Int}{W w:World}{R:List HP}{nv tv:Value}(h:St W (dsB D nv (.slice none 0 0) tv m::row nv 1 4 zs.length (List.replicate zs.length (.bool false))::row (.slice none 0 0) 5 64 0 []::row tv 1 3 zs.length ((toD zs pn0).map kI)::R) w):St W (dsS D zs pn0 m::R) w:=by refine g8 (D:=D) (nm:=nmD zs pn0.nm) (out:=[]) (to:=toD zs pn0) (mvs:=m) (nv:=nv) (ov:=.slice none 0 0) (tv:=tv) ?_;rw[Ak7,JB7,Ao7];exact h
theorem Iz7{zs:List Zo}{hs:List Int}{l:List Ro}{v hv lv:Value}{V:World}{ver nxt hot cold:Int}(hz:d6 Zo.cells 9 V v zs)(hzl:zs.length<=60)(hh:d6 hC 1 V hv hs)(hhl:hs.length<=1000)(hl:d6 Ro.cells 3 V lv l)(hll:l.length<=60)(W w:World)(R:List HP)(hS:St W (Old V::R) w):
  Calls Tryz.prog 9 #[.agg #[.I ver,.I nxt,v],hv,lv,.I hot,.I cold] w fun e w'=>∃u out,e=.returned u/\L8 ⟨ver,nxt,zs⟩ hs l hot cold out/\St W (row u 5 64 out.length (out.flatMap Cg.cells)::Old V::R) w':=by
 have Hz:=jH hz;have Hh:=jH hh;have Hl:=jH hl;obtain⟨za,zc,rfl,h63,hact⟩:=hz;obtain⟨ha,hc,rfl,_,_⟩:=hh;obtain⟨la,lc,rfl,_,_⟩:=hl;have Hat:=jH hact;clear hact;go_enter Tryz.func9,Tryz.ntmps9;go_wp2_with(first|go_big_skip|refine zbx hS ?_;clear hS;intro b5 w hS|refine zlN hS ?_|(go_at_call 20;refine(Iq7 Hz.out hzl W _ _ (hS.s (Old V::blk b5 _ _::R))).mono ?_;clear hS;rintro e w ⟨q,hq,rfl,hS⟩;(have Hq:=jH hq;clear hq);cases q)|(go_at_call 21;refine(FU7 Hh.out hhl W _ _ hS).mono ?_;clear hS;rintro e w ⟨q2,hq2,rfl,hS⟩;(have Hq2:=jH hq2;clear hq2);cases q2))
 ·go_ret;exact⟨_,[],rfl,.inl ⟨fun h=>absurd (Hq.out.2 h.1) Bool.false_ne_true,rfl⟩,(hS.s (Old V::R)).rowNil⟩
 ·go_ret;exact⟨_,[],rfl,.inl ⟨fun h=>absurd (Hq2.out.2 h.2) Bool.false_ne_true,rfl⟩,(hS.s (Old V::R)).rowNil⟩
 have hM:=Hq.out.1 (by simp);have hHo:=Hq2.out.1 (by simp);have Hmh:=jH (And.intro hM hHo);have hz1:=Ix7 hM.2.2.2.2.2.2;have hl16:zs.length<=16:=hM.2.2.2.2.1;have Hnd:=jH (CQ7 hM);have Hid1:=jH (show ∀z∈zs,1<=z.id from fun z hz=>by obtain⟨j,hj,rfl⟩:=List.getElem_of_mem hz;exact(hM.2.2.2.2.2.1 j hj).1.1);have h1:1<=hs.length:=hHo.1;have h6:hs.length<=60:=by have:=hHo.2.1;omega
 have Hp:=jH hHo.2.2.2;clear hM hHo Hq Hq2;have hS1:=hS.s (blk b5 [.I ver,.I nxt,.slice za zs.length zc] 24::Old V::R);clear hS
 refine rf2 [0,0,0,0,8,24,56,127,255,511] (fun i=>i==6||i==8) [⟨some 6,none,fun nd=>row (nd 6) 1 4 zs.length (List.replicate zs.length (.bool false))⟩,⟨some 8,none,fun nd=>f7 (nd 8) [.I ver,.I nxt,.slice za zs.length zc,.slice ha hs.length hc,.slice la l.length lc,nd 6,.slice none 0 0,.slice none 0 0,.I 0] 69⟩]
  [none,none] hS1 ?_
 intro nd
 repeat(first|apply Ki7 (z:=.bool false) (e:=4);rfl;rfl;rfl;rfl;rfl;exact Ty.e67;exact Ty.r4;rfl;(focus(omega));(focus(decide));intro _;rfl;rfl;intro _;rfl;refine frS ?_|apply Dt7 (v:=.agg #[.I ver,.I nxt,.slice za zs.length zc,.slice ha hs.length hc,.slice la l.length lc,nd 6,.slice none 0 0,.slice none 0 0,.I 0]);rfl;kernel_rfl;rfl;rfl;(focus(simp only[fD,fI,fJ,Act.eval,fE,fF,fG,fH,fK];try rfl));intro F w hS;obtain⟨xb,xc,ex⟩:=(hS.take (by exact I7)).rowVal;rw[ex];exact br4 _ _ _ _ _ _ _ _ _ _ _ _ _ _ w;refine frS ?_|apply IC7;rfl;rfl;rfl;rfl;rfl;intro _;rfl;rfl;intro _;rfl;refine frS ?_|refine zc1 ?_|refine zcN ?_|refine zcn ?_|refine cR ?_)
 refine AC7 ?_;clear hS1;intro w hS0;have hS1:St W [row (nd 6) 1 _ zs.length _,f7 (nd 8) _ _,blk b5 _ _,Old V,sats R] w:=hS0;generalize nd 6=nv at *;generalize nd 8=pv at *;have hS2:=hS1.unpack [_,_,_,_];clear hS0 hS1;simp only[jK,jN]at hS2;obtain⟨nb,nc,rfl⟩:=hS2.rowVal;obtain⟨pb,rfl,hS3⟩:=hS2.swap.ptr;clear hS2;have hS4:=(hS3.s (blk pb _ 69::row (.slice nb zs.length nc) 1 4 zs.length _::blk b5 _ _::Old V::R)).rowNil (k:=1) (T:=3);clear hS3;have hS:=hS4.swap;clear hS4;go_wp2_with(first|go_big_skip)
 go_loopw [12] (fun v12 wr=>MzR W (row (.slice nb zs.length nc) 1 4 zs.length (List.replicate zs.length (.bool false))::blk b5 [.I ver,.I nxt,.slice za zs.length zc] 24::Old V::R) zs pb ver nxt (.slice za zs.length zc) (.slice ha hs.length hc) (.slice la l.length lc) (.slice nb zs.length nc) v12 wr) (fun v12 _=>zs.length-(intOf v12).toNat)
 case atStart=>exact⟨0,_,rfl,Nat.zero_le _,hS⟩
 case round=>
  clear hS;obtain⟨i,tv,rfl,hi,hS⟩:=hrel;obtain⟨ta,tc,rfl⟩:=(hS.drop).rowVal;have hi16:i<=16:=by omega
  by_cases hil:i<zs.length
  ·have d1:decide (i<zs.length)=true:=decide_eq_true hil;obtain⟨zb,zoff,rfl,hall⟩:=Hat.out i hil;have hnx:=Dv7 hil 3;have htx:=Kj7 hil;rw[bI4]at htx;have hle:i7 (zs.take i) 3<=16:=Nat.le_trans (Bb7 _ _) (by rw[jT];omega);generalize i7 (zs.take i) 3=c at hnx hle hS;generalize zs[i]=z at hall hnx htx;obtain⟨z0,z1,z2,z3,z4,z5,z6,z7,z8⟩:=z;simp only[Zo.cells]at hall;simp only at hnx htx;have hy3:V.cell? ⟨zb,zoff+i*9+3,none⟩=some (.I z3):=hall 3 _ rfl;have hy5:V.cell? ⟨zb,zoff+i*9+5,none⟩=some (.I z5):=hall 5 _ rfl;have hy6:V.cell? ⟨zb,zoff+i*9+6,none⟩=some (.I z6):=hall 6 _ rfl;clear hall hi;by_cases h5:z5=3
   ·have e5:(z5==3)=true:=by simpa using h5
    rw[if_pos h5]at hnx htx;have Hnx:=jH hnx;have Htx:=jH htx;clear hnx htx h5;go_wp2_with(first|go_big_skip|(fail_if_success (have:=f3));refine zl1 hS ?_ (v:=.I z3) (hc:=by exact a8.old (by exact b8) hy3);have f3:Nat:=0|(have:=f3);(fail_if_success (have:=f5));refine zl1 hS ?_ (v:=.I z5) (hc:=by exact a8.old (by exact b8) hy5);have f5:Nat:=0|(have:=f5);refine zl1 hS ?_ (v:=.I z6) (hc:=by exact a8.old (by exact b8) hy6)|refine zl1 hS ?_|refine zbs hS ?_;clear hS;intro bS w hS|(refine zap hS ?_ (h63:=by unfold maxLen;omega) (hb:=by omega));clear hS;intro v w hS;obtain⟨va,vc,rfl⟩:=hS.rowVal|refine zs1 hS ?_;clear hS;intro w hS);have hS1:=hS.s (blk pb _ 69::row (.slice va (i+1) vc) 1 3 (i+1) _::row (.slice nb zs.length nc) 1 4 zs.length _::blk b5 _ _::Old V::R);clear hS;go_roundw
    case rel=>exact⟨i+1,_,rfl,hil,by rw[Hnx.out,Htx.out];exact hS1⟩
    case measure=>simp[intOf];omega
   ·have e5:(z5==3)=false:=by simpa using h5
    rw[if_neg h5]at hnx htx;rw[Nat.add_zero]at hnx;have Hnx:=jH hnx;have Htx:=jH htx;clear hnx htx h5;go_wp2_with(first|go_big_skip|(fail_if_success (have:=f3));refine zl1 hS ?_ (v:=.I z3) (hc:=by exact a8.old (by exact b8) hy3);have f3:Nat:=0|(have:=f3);(fail_if_success (have:=f5));refine zl1 hS ?_ (v:=.I z5) (hc:=by exact a8.old (by exact b8) hy5);have f5:Nat:=0|refine zl1 hS ?_|refine zbs hS ?_;clear hS;intro bS w hS|(refine zap hS ?_ (h63:=by unfold maxLen;omega) (hb:=by omega));clear hS;intro v w hS;obtain⟨va,vc,rfl⟩:=hS.rowVal|refine zs1 hS ?_;clear hS;intro w hS);have hS1:=hS.s (blk pb _ 69::row (.slice va (i+1) vc) 1 3 (i+1) _::row (.slice nb zs.length nc) 1 4 zs.length _::blk b5 _ _::Old V::R);clear hS;go_roundw
    case rel=>exact⟨i+1,_,rfl,hil,by rw[Hnx.out,Htx.out];exact hS1⟩
    case measure=>simp[intOf];omega
  ·have d1:decide (i<zs.length)=false:=decide_eq_false hil;obtain rfl:i=zs.length:=by omega
   have hS1:=hS.s (blk pb _ 69::row (.slice nb zs.length nc) 1 4 zs.length (List.replicate zs.length (.bool false))::row (.slice ta zs.length tc) 1 3 zs.length ((toD (zs.take zs.length) pn0).map kI)::blk b5 _ _::Old V::R);rw[List.take_length]at hS1;clear hS hi hil;have hS2:=(hS1.rowNil (k:=5) (T:=64))
   have hS3:=hS2.s (blk pb [.I ver,.I nxt,.slice za zs.length zc,.slice ha hs.length hc,.slice la l.length lc,.slice nb zs.length nc,.slice none 0 0,.slice ta zs.length tc,.I (i7 zs 3)] 69::row (.slice nb zs.length nc) 1 4 zs.length (List.replicate zs.length (.bool false))::row (.slice none 0 0) 5 64 0 []::row (.slice ta zs.length tc) 1 3 zs.length ((toD zs pn0).map kI)::Old V::blk b5 [.I ver,.I nxt,.slice za zs.length zc] 24::R);clear hS1 hS2;have hS:=Iy7 (D:=⟨pb,ver,nxt,.slice za zs.length zc,.slice ha hs.length hc,.slice la l.length lc⟩) (nv:=.slice nb zs.length nc) (tv:=.slice ta zs.length tc) (m:=(i7 zs 3:Int)) hS3;clear hS3;have hpn:i7 zs 3<=16:=Nat.le_trans (Bb7 _ _) hl16;go_wp2_with(first|go_big_skip|refine zl1 hS ?_ (v:=.slice za zs.length zc) (hc:=by exact a8.there (a8.there (a8.here rfl)))|(go_at_call 22);refine(FW7 (D:=⟨pb,ver,nxt,.slice za zs.length zc,.slice ha hs.length hc,.slice la l.length lc⟩) Hz.out hl16 Hl.out hll Hid1.out Hnd.out hot W _ _ hS).mono ?_;clear hS;rintro e w ⟨rfl,Z,hZp,hZa,hS⟩);have hlZ:Z.length=zs.length:=hZp.length_eq;have hso:=Dx7 l hot Z (pn0,16-zs.length-i7 zs 1);rw[hlZ]at hso;obtain⟨s0,hs0⟩:∃s0,(p9 l hot Z (pn0,16-zs.length-i7 zs 1)).1=s0:=⟨_,rfl⟩
   rw[hs0]at hso hS;have hso2:s0.out.length<=16:=Nat.le_trans hso (by show 0+zs.length<=16;omega);have Hs0:=jH hs0;have HZp:=jH hZp;have HZa:=jH hZa;clear hs0 hZp hZa hso hlZ
   go_loopw [77] (fun v12 wr=>MlR W (Old V::blk b5 [.I ver,.I nxt,.slice za zs.length zc] 24::R) ⟨pb,ver,nxt,.slice za zs.length zc,.slice ha hs.length hc,.slice la l.length lc⟩ l zs hs s0 wr) (fun v12 wr=>mzM pb wr)
   case atStart=>exact⟨i7 zs 3,s0,Nat.le_refl _,by omega,by omega,fun t h=>h,hS⟩
   case round=>
    clear hS;obtain⟨m,s,hm1,hm20,hso,hmv,hS⟩:=hrel;have hcell:=bb4 (D:=⟨pb,ver,nxt,.slice za zs.length zc,.slice ha hs.length hc,.slice la l.length lc⟩) W _ hS;have Hcell:=jH hcell;have Hmv:=jH hmv;clear hcell hmv;go_wp2_with(first|go_big_skip|(go_at_call 23);refine(Iv7 (D:=⟨pb,ver,nxt,.slice za zs.length zc,.slice ha hs.length hc,.slice la l.length lc⟩) Hz.out hl16 hz1 Hh.out h1 h6 Hp.out Hl.out hll Hnd.out (by omega) (by omega) (by omega) W _ _ hS).mono ?_;clear hS;rintro e w (⟨rfl,hno,hS⟩|⟨rfl,hm2,a,b,hma,hlb,k,hk,hbz,hS⟩)|(go_at_call 24);refine(FX7 (D:=⟨pb,ver,nxt,.slice za zs.length zc,.slice ha hs.length hc,.slice la l.length lc⟩) Hz.out hl16 hz1 Hl.out hll Hnd.out (by omega) cold W _ _ hS).mono ?_;clear hS;rintro e w ⟨rfl,hS⟩;obtain⟨nv,ov,tv,hS9⟩:=i6 hS;clear hS;(have hS:=hS9);clear hS9;unfold dsB at hS;simp only at hS|refine zl1 hS ?_)
    ·go_ret
     have hdone:MovI l zs hs (2-m) s s:=by
      by_cases h2:2<=m
      ·rw[show 2-m=0 by omega];exact MovI.done s
      ·rcases hno with h3|⟨a,b,g1,g2,g3⟩
       ·omega
       ·obtain⟨q,hq⟩:∃q,2-m=q+1:=⟨2-m-1,by omega⟩
        rw[hq];exact MovI.none g1 g2 g3
     exact⟨ov,_,rfl,.inr ⟨Hmh.out,Z,s,HZp.out,HZa.out,by rw[Hs0.out];exact Hmv.out s hdone,rfl⟩,hS.s (row ov 5 64 _ _::Old V::R)⟩
    ·have hmv2:∀t,MovI l zs hs (2-(m+1)) (J6 s zs[k] b) t->MovI l zs hs (2-i7 zs 3) s0 t:=fun t ht=>Hmv.out t (by
      obtain⟨q,hq⟩:∃q,2-m=q+1:=⟨2-m-1,by omega⟩
      rw[show 2-(m+1)=q by omega]at ht;rw[hq];exact MovI.some hma hlb hbz hk ht)
     have hcell2:=bb4 (D:=⟨pb,ver,nxt,.slice za zs.length zc,.slice ha hs.length hc,.slice la l.length lc⟩) W _ hS;have Hcell2:=jH hcell2;have Hmv2:=jH hmv2;have hlen:(J6 s zs[k] b).out.length=s.out.length+1:=by simp[J6]
     clear hcell2 hmv2;go_roundw
     case rel=>exact⟨m+1,_,by omega,by omega,by rw[hlen];omega,Hmv2.out,hS⟩
     case measure=>
      unfold mzM;rw[Hcell.out,Hcell2.out];simp only;omega
end Go.Proofs.YtjcfifkjbaffnaaGreat
end
