/-
  All that economies have, and what is under way.
-/
import Derived.Test.YtienbkdjkjbelaaGreatJuTM5
import Derived.Test.YtienbkdjkjbelaaGreatJuTM45
set_option maxHeartbeats 16000000
set_option maxRecDepth 100000
set_option linter.unusedSimpArgs false
set_option linter.unusedVariables false
section
namespace Go.Proofs.YtienbkdjkjbelaaGreat
open Go.RowKit Go.Sl
theorem QO7{l:List It}{v:Value}{f0 f1 f2 f3:Int}{b:Bool}(hf:al4 l=⟨f0,f1,f2,f3⟩)(hb:(B5 l it0).isSome=b){W w:World}{R:List HP}(hS:St W (L5 v l::R) w):
  Calls Tryz.prog 32 #[v] w fun e w'=>e=.returned (.tuple #[.agg #[.I f0,.I f1,.I f2,.I f3],.bool b])/\St W (L5 v l::R) w':=by
 refine(Ln7 l v W w R hS).mono ?_;rintro e w' ⟨rfl,h⟩;exact⟨by rw[hf,hb];rfl,h⟩
theorem QP7{l:List It}{v:Value}{f0 f1 f2 f3:Int}{b:Bool}(hf:al4 l=⟨f0,f1,f2,f3⟩)(hb:(B5 l it0).isSome=b){W w:World}{R:List HP}(hS:St W (L5 v l::R) w):
  Calls Tryz.prog 36 #[v] w fun e w'=>e=.returned (.tuple #[.agg #[.I f0,.I f1,.I f2,.I f3],.bool b])/\St W (L5 v l::R) w':=by
 refine(ep4 l v W w R hS).mono ?_;rintro e w' ⟨rfl,h⟩;exact⟨by rw[hf,hb];rfl,h⟩
def gk4(W:World)(L:List HP)(x0:List Opn)(yss:List (List Opn))(v6 v17:Value)(w:World):Prop:=
 ∃k:Nat,v17=.I k/\k<=yss.length/\(aL4 x0 (yss.take k)).length<=151*k/\St W (L5 v6 (aL4 x0 (yss.take k))::L) w
def gl4(W:World)(L:List HP)(e0:Ec)(T:List ((Int×Int)×Tns))(acc:List It)(v6 v38:Value)(w:World):Prop:=
 ∃m:Nat,v38=.I m/\m<=T.length/\St W (L5 v6 (acc++ap4 e0 (T.take m))::L) w
theorem Nu7(e0:Ec){T:List ((Int×Int)×Tns)}{m:Nat}(h:m<T.length)(hb:(j6 e0.ar T[m].1).isSome=true):ap4 e0 (T.take (m+1))=ap4 e0 (T.take m):=by
 rw[Ng7 e0 h,if_neg,List.append_nil];rw[Option.isNone_iff_eq_none];intro e;rw[e]at hb
 cases hb
theorem PH7(e0:Ec){T:List ((Int×Int)×Tns)}{m:Nat}(h:m<T.length)(hb:(j6 e0.ar T[m].1).isSome=false):ap4 e0 (T.take (m+1))=ap4 e0 (T.take m)++[p8 T[m].2.item T[m].2.cnt]:=by
 rw[Ng7 e0 h,if_pos]
 cases hg:j6 e0.ar T[m].1 with
 | none=>rfl
 | some u=>rw[hg]at hb;cases hb
theorem Ja7{b0:Nat}{x0:List Opn}{ps:List (Nat×List Opn)}(hx0:x0.length<=150)(hps:∀p∈ps,p.2.length<=150)(hn:ps.length<=5){ua:Option Addr}{uc:Nat}{L:List HP}(hat:∀i (h:i<ps.length), ∃b off,ua=some ⟨b,off,none⟩/\i6 L b (off+i) (.pointer (some ⟨ps[i].1,0,none⟩)))
  {f0 f1 f2 f3:Int} {fb:Bool} (hf:al4 (aL4 x0 (ps.map (·.2)))=⟨f0,f1,f2,f3⟩) (hfb:(B5 (aL4 x0 (ps.map (·.2))) it0).isSome=fb) (W w:World) (hS:St W (ecP b0 (l6 x0 ec0)::k8 ecX ps::L) w):
  Calls Tryz.prog 17 #[.P b0,.slice ua ps.length uc] w fun e w'=>e=.returned (.tuple #[.agg #[.I f0,.I f1,.I f2,.I f3],.bool fb])/\St W (ecP b0 (l6 x0 ec0)::k8 ecX ps::L) w':=by
 have Hat:=jH hat
 have Hps:=jH hps;have Hf:=jH hf;have Hfb:=jH hfb;have hpl:(ps.map (·.2)).length=ps.length:=jM ..;have Hpl:=jH hpl;clear hat hps hf hfb hpl;go_enter Tryz.func17,Tryz.ntmps17;go_wp2_with(first|go_big_skip|refine zal hS ?_;clear hS;intro b4 w hS);have hS0:=hS.rowNil (k:=4) (T:=34);clear hS;have hS:=hS0;clear hS0
 go_loopw [6,17] (fun v1 v2 wr=>gk4 W (blk b4 [.I 0,.I 0,.I 0,.I 0] 34::ecP b0 (l6 x0 ec0)::k8 ecX ps::L) x0 (ps.map (·.2)) v1 v2 wr) (fun _ v2 _=>ps.length-(intOf v2).toNat)
 case atStart=>exact⟨0,rfl,Nat.zero_le _,Nat.le_refl _,hS⟩
 case round=>
  clear hS;obtain⟨k,rfl,hk,hal,hS⟩:=hrel;by_cases hkl:k<ps.length
  ·have hd1:decide (k<ps.length)=true:=decide_eq_true hkl;obtain⟨ub,uoff,rfl,hA⟩:=Hat.out k hkl;have hys:=Hps.out ps[k] (jW hkl);have hnx:=Nt7 x0 (yss:=ps.map (·.2)) (k:=k) (by rw[Hpl.out];exact hkl);rw[List.getElem_map]at hnx;obtain⟨ps',hpp,hS0⟩:=bC4 (jW hkl) (hS.s (k8 ecX ps::L5 _ _::blk b4 _ _::ecP b0 (l6 x0 ec0)::L));clear hS;generalize aL4 x0 ((ps.map (·.2)).take k)=acc at hS0 hnx hal;generalize ps[k]=p at hA hys hnx hpp hS0;obtain⟨pb,ys⟩:=p;simp only at hA hys hnx;have hS1:St W (ecP pb (l6 ys ec0)::k8 ecX ps'::_) _:=hS0;clear hS0;obtain⟨va,vc,rfl⟩:=St.rowVal hS1.drop.drop;obtain⟨⟨s0,s1,s2,s3⟩,hs⟩:∃z,dF4 (l6 ys ec0)=z:=⟨_,rfl⟩
   rw[hs]at hnx;have Hs:=jH hs;have Hpp:=jH hpp;have Hnx:=jH hnx;have hS:=hS1;have htl:=PG7 ys;have hto:=eK4 ys;have Hto:=jH hto;clear hS1 hs hpp hnx hk hto;go_wp2_with(first|go_big_skip|refine zl1 hS ?_ (hc:=by(repeat(first|exact hA|apply i6.there)))|go_at_call 28;refine(QM7 hys Hs.out (hS.s (ecP pb (l6 ys ec0)::L5 (.slice va acc.length vc) acc::blk b4 _ _::ecP b0 (l6 x0 ec0)::k8 ecX ps'::L))).mono ?_;clear hS;rintro ex w ⟨rfl,hS⟩|refine zal hS ?_;clear hS;intro bA w hS|refine zsN hS ?_;clear hS;intro w hS|refine zlN hS ?_|refine zbs hS ?_;clear hS;intro bS w hS|(fail_if_success (have:=gP));(refine zap hS ?_ (h63:=by unfold maxLen;omega) (hb:=by omega);clear hS;have gP:Nat:=0;intro v9 w hS;obtain⟨na,nc,rfl⟩:=hS.rowVal)|go_at_call 29;(have hS0:=hS.s (row (.slice na (acc.length+1) nc) 4 34 (acc.length+1) (acc.flatMap It.cells++_)::ecP pb (l6 ys ec0)::blk b4 _ _::ecP b0 (l6 x0 ec0)::k8 ecX ps'::L));clear hS;(have hS1:=aG4 (enc:=It.cells) (y:=(⟨s0,s1,s2,s3⟩:It)) hS0 rfl);clear hS0;refine(Rz7 hys hS1.swap).mono ?_;clear hS1;rintro ex w ⟨vt,rfl,hS⟩;obtain⟨ta,tc,rfl⟩:=hS.rowVal);generalize hTT:(D6 ys ec0).ts=T at hS Hnx htl Hto;clear hTT;obtain⟨acc2,hacc2⟩:∃l:List It,l=acc++[(⟨s0,s1,s2,s3⟩:It)]:=⟨_,rfl⟩
   have hal2:acc2.length<=151*k+1:=by rw[hacc2,jA,List.length_singleton];omega
   have hnx2:acc++((⟨s0,s1,s2,s3⟩:It)::ap4 (l6 x0 ec0) T)=acc2++ap4 (l6 x0 ec0) T:=by rw[hacc2,jS];rfl
   rw[<-hacc2]at hS;have Hnx2:=jH hnx2;clear hacc2 hnx2;have hS1:St W (L5 _ acc2::xtP (.slice ta T.length tc) T::ecP pb (l6 ys ec0)::blk b4 _ _::ecP b0 (l6 x0 ec0)::k8 ecX ps'::L) _:=hS.s _;clear hS;have hS:=hS1;clear hS1;go_wp2_with(first|go_big_skip)
   go_loopw [6,38] (fun v1 v2 wr=>gl4 W (xtP (.slice ta T.length tc) T::ecP pb (l6 ys ec0)::blk b4 [.I 0,.I 0,.I 0,.I 0] 34::ecP b0 (l6 x0 ec0)::k8 ecX ps'::L) (l6 x0 ec0) T acc2 v1 v2 wr) (fun _ v2 _=>T.length-(intOf v2).toNat)
   case atStart=>exact⟨0,rfl,Nat.zero_le _,by simp only[List.take_zero];show St W (L5 _ (acc2++[])::_) _;rw[List.append_nil];exact hS⟩
   case round=>
    clear hS;obtain⟨m,rfl,hm,hS⟩:=hrel;by_cases hml:m<T.length
    ·have hd2:decide (m<T.length)=true:=decide_eq_true hml;obtain⟨⟨g,rfl⟩,_,_⟩:=St.rowAddr hS.drop (by omega);have hct:∀{K K':List HP},Take K (xtP (.S g T.length tc) T) K'->d8 K g (m*8) (tnC T[m]):=fun hu=>d8.elemM AT7 hu hml
     obtain⟨htk,hte⟩:=Hto.out _ (jW hml);have hyes:=Nu7 (l6 x0 ec0) hml;have hno:=PH7 (l6 x0 ec0) hml;have hol:(ap4 (l6 x0 ec0) (T.take m)).length<=m:=Nat.le_trans (ES7 _ _) (by rw[jT];omega);generalize ap4 (l6 x0 ec0) (T.take m)=od at hS hyes hno hol;generalize T[m]=t at hct htk hte hyes hno;obtain⟨⟨k0,k1⟩,⟨t0,t1,t2,t3,t4,t5,t6,t7⟩⟩:=t;simp only[tnC,Tns.cells]at hct;simp only[Prod.mk.injEq]at hte;obtain⟨rfl,rfl⟩:=hte;dsimp only at hyes hno;have hi0:=htk.i0;have hi1:=htk.i1;have hc0:=htk.c0;have hc1:=htk.c1;simp only at hi0 hi1 hc0 hc1;obtain⟨⟨y0,y1,y2,y3⟩,ho⟩:∃z,p8 t6 t7=z:=⟨_,rfl⟩
     rw[ho]at hno;have Ho:=jH ho;obtain⟨b,hb⟩:∃b,(j6 (l6 x0 ec0).ar (k0,k1)).isSome=b:=⟨_,rfl⟩
     have Hb:=jH hb;have hl8:(acc2++od).length<=1000:=by rw[jA];omega
     obtain⟨acc3,hacc3⟩:∃l,l=acc2++od:=⟨_,rfl⟩
     rw[<-hacc3]at hS hl8;obtain⟨na2,nc2,rfl⟩:=hS.rowVal
     cases b with
     | true=>
      have hyes2:=jH (hyes hb);have Hacc3:=jH hacc3;clear hyes hno hb ho htk hm hol hacc3;go_wp2_with(first|go_big_skip|refine zlN hS ?_ (vs:=[.I k0,.I k1,.string t2,.string t3,.string t4,.string t5,.I t6,.I t7]) (hc:=by exact hct (by exact i7))|refine zal hS ?_;clear hS;intro bA w hS|refine zsN hS ?_;clear hS;intro w hS|go_at_call 30;refine(Nr7 Hb.out (hS.s (ecP b0 (l6 x0 ec0)::L5 (.slice na2 acc3.length nc2) acc3::blk bA _ _::xtP _ T::ecP pb (l6 ys ec0)::blk b4 _ _::k8 ecX ps'::L))).mono ?_;clear hS;rintro ex w ⟨rfl,hS⟩|refine zl1 hS ?_);go_roundw
      case rel=>
       refine⟨m+1,rfl,hml,?_⟩;rw[hyes2.out,<-Hacc3.out];exact hS.s _
      case measure=>simp[intOf];omega
     | false=>
      have hno2:=jH (hno hb);have Hacc3:=jH hacc3;clear hyes hno hb ho htk hm hol hacc3;go_wp2_with(first|go_big_skip|refine zlN hS ?_ (vs:=[.I k0,.I k1,.string t2,.string t3,.string t4,.string t5,.I t6,.I t7]) (hc:=by exact hct (by exact i7))|refine zal hS ?_;clear hS;intro bA w hS|refine zsN hS ?_;clear hS;intro w hS|go_at_call 30;refine(Nr7 Hb.out (hS.s (ecP b0 (l6 x0 ec0)::L5 (.slice na2 acc3.length nc2) acc3::blk bA _ _::xtP _ T::ecP pb (l6 ys ec0)::blk b4 _ _::k8 ecX ps'::L))).mono ?_;clear hS;rintro ex w ⟨rfl,hS⟩|go_at_call 31;refine(Ml7 Ho.out hi0 hi1 hc0 hc1 W _ _ hS).mono ?_;clear hS;rintro ex w ⟨rfl,hS⟩|refine zl1 hS ?_|refine zlN hS ?_|refine zbs hS ?_;clear hS;intro bS w hS|refine zap hS ?_ (h63:=by unfold maxLen;omega) (hb:=by omega);clear hS;intro v9 w hS);go_roundw
      case rel=>
       refine⟨m+1,rfl,hml,?_⟩;rw[hno2.out,<-jS,<-Hacc3.out];have h0:=hS.s (row v9 4 34 (acc3.length+1) (acc3.flatMap It.cells++_)::xtP (.S g T.length tc) T::ecP pb (l6 ys ec0)::blk b4 _ _::ecP b0 (l6 x0 ec0)::k8 ecX ps'::L);exact aG4 (enc:=It.cells) (y:=(⟨y0,y1,y2,y3⟩:It)) h0 rfl
      case measure=>simp[intOf];omega
    ·have hd2:decide (m<T.length)=false:=decide_eq_false hml;have hm2:m=T.length:=by omega
     rw[hm2,List.take_length]at hS;clear hm hml hm2;have hol:(ap4 (l6 x0 ec0) T).length<=T.length:=ES7 _ _;go_wp2_with(first|go_big_skip);go_roundw
     case rel=>
      refine⟨k+1,rfl,by rw[Hpl.out];exact hkl,?_,?_⟩
      ·rw[Hnx.out,Hnx2.out,jA];omega
      ·rw[Hnx.out,Hnx2.out];have h1:St W (ecX (pb,ys)::k8 ecX ps'::L5 _ (acc2++ap4 (l6 x0 ec0) T)::blk b4 _ _::ecP b0 (l6 x0 ec0)::L) _:=hS.s (ecP pb (l6 ys ec0)::k8 ecX ps'::L5 _ (acc2++ap4 (l6 x0 ec0) T)::blk b4 _ _::ecP b0 (l6 x0 ec0)::L);exact(bD4 Hpp.out h1).s _
     case measure=>simp[intOf];omega
  ·have hd1:decide (k<ps.length)=false:=decide_eq_false hkl;have hk2:k=(ps.map (·.2)).length:=by have h9:=Hpl.out;omega
   rw[hk2,List.take_length]at hS;generalize aL4 x0 (ps.map (·.2))=acc at hS Hf Hfb;clear hal hk hk2 hkl;go_wp2_with(first|go_big_skip|go_at_call 32;refine(QO7 Hf.out Hfb.out (hS.s (L5 _ acc::blk b4 _ _::ecP b0 (l6 x0 ec0)::k8 ecX ps::L))).mono ?_;clear hS;rintro ex w ⟨rfl,hS⟩|refine zsN hS ?_;clear hS;intro w hS);apply Ac7;rfl;rfl;rfl;rfl;exact hS;decide +kernel;(exact r6);kernel_rfl;exact⟨rfl,hS.s _⟩
theorem Ih7{b0:Nat}{x0:List Opn}{ps:List (Nat×List Opn)}(hx0:x0.length<=150)(hps:∀p∈ps,p.2.length<=150)(hn:ps.length<=5){ua:Option Addr}{uc:Nat}{L:List HP}(hat:∀i (h:i<ps.length), ∃b off,ua=some ⟨b,off,none⟩/\i6 L b (off+i) (.pointer (some ⟨ps[i].1,0,none⟩)))
  {f0 f1 f2 f3:Int} {fb:Bool} (hf:al4 (aL4 x0 (ps.map (·.2)))=⟨f0,f1,f2,f3⟩) (hfb:(B5 (aL4 x0 (ps.map (·.2))) it0).isSome=fb) (W w:World) (hS:St W (s8 b0 (D6 x0 ec0)::k8 w7 ps::L) w):
  Calls Tryz.prog 18 #[.P b0,.slice ua ps.length uc] w fun e w'=>e=.returned (.tuple #[.agg #[.I f0,.I f1,.I f2,.I f3],.bool fb])/\St W (s8 b0 (D6 x0 ec0)::k8 w7 ps::L) w':=by
 have Hat:=jH hat
 have Hps:=jH hps;have Hf:=jH hf;have Hfb:=jH hfb;have hpl:(ps.map (·.2)).length=ps.length:=jM ..;have Hpl:=jH hpl;clear hat hps hf hfb hpl;go_enter Tryz.func18,Tryz.ntmps18;go_wp2_with(first|go_big_skip|refine zal hS ?_;clear hS;intro b4 w hS);have hS0:=hS.rowNil (k:=4) (T:=34);clear hS;have hS:=hS0;clear hS0
 go_loopw [6,7] (fun v1 v2 wr=>gk4 W (blk b4 [.I 0,.I 0,.I 0,.I 0] 34::s8 b0 (D6 x0 ec0)::k8 w7 ps::L) x0 (ps.map (·.2)) v1 v2 wr) (fun _ v2 _=>ps.length-(intOf v2).toNat)
 case atStart=>exact⟨0,rfl,Nat.zero_le _,Nat.le_refl _,hS⟩
 case round=>
  clear hS;obtain⟨k,rfl,hk,hal,hS⟩:=hrel;by_cases hkl:k<ps.length
  ·have hd1:decide (k<ps.length)=true:=decide_eq_true hkl;obtain⟨ub,uoff,rfl,hA⟩:=Hat.out k hkl;have hys:=Hps.out ps[k] (jW hkl);have hnx:=Nt7 x0 (yss:=ps.map (·.2)) (k:=k) (by rw[Hpl.out];exact hkl);rw[List.getElem_map]at hnx;obtain⟨ps',hpp,hS0⟩:=bC4 (jW hkl) (hS.s (k8 w7 ps::L5 _ _::blk b4 _ _::s8 b0 (D6 x0 ec0)::L));clear hS;generalize aL4 x0 ((ps.map (·.2)).take k)=acc at hS0 hnx hal;generalize ps[k]=p at hA hys hnx hpp hS0;obtain⟨pb,ys⟩:=p;simp only at hA hys hnx;have hS1:St W (s8 pb (D6 ys ec0)::k8 w7 ps'::_) _:=hS0;clear hS0;obtain⟨va,vc,rfl⟩:=St.rowVal hS1.drop.drop;obtain⟨⟨s0,s1,s2,s3⟩,hs⟩:∃z,dF4 (l6 ys ec0)=z:=⟨_,rfl⟩
   rw[hs]at hnx;have Hs:=jH hs;have Hpp:=jH hpp;have Hnx:=jH hnx;have hS:=hS1;have htl:=PG7 ys;have hto:=eK4 ys;have Hto:=jH hto;clear hS1 hs hpp hnx hk hto;go_wp2_with(first|go_big_skip|refine zl1 hS ?_ (hc:=by(repeat(first|exact hA|apply i6.there)))|go_at_call 33;refine(QN7 hys Hs.out (hS.s (s8 pb (D6 ys ec0)::L5 (.slice va acc.length vc) acc::blk b4 _ _::s8 b0 (D6 x0 ec0)::k8 w7 ps'::L))).mono ?_;clear hS;rintro ex w ⟨rfl,hS⟩|refine zal hS ?_;clear hS;intro bA w hS|refine zsN hS ?_;clear hS;intro w hS|refine zlN hS ?_|refine zbs hS ?_;clear hS;intro bS w hS|(fail_if_success (have:=gP));(refine zap hS ?_ (h63:=by unfold maxLen;omega) (hb:=by omega);clear hS;have gP:Nat:=0;intro v9 w hS;obtain⟨na,nc,rfl⟩:=hS.rowVal));have hS0:=hS.s (row (.slice na (acc.length+1) nc) 4 34 (acc.length+1) (acc.flatMap It.cells++_)::s8 pb (D6 ys ec0)::blk b4 _ _::s8 b0 (D6 x0 ec0)::k8 w7 ps'::L);have hS1:=aG4 (enc:=It.cells) (y:=(⟨s0,s1,s2,s3⟩:It)) hS0 rfl;clear hS hS0;obtain⟨d,hd0⟩:∃d,D6 ys ec0=d:=⟨_,rfl⟩
   have hnx:=Hnx.out;have hto:=Hto.out;rw[hd0]at hS1 hnx htl hto;have Hd0:=jH hd0;clear Hnx Hto hd0;obtain⟨acc2,hacc2⟩:∃l:List It,l=acc++[(⟨s0,s1,s2,s3⟩:It)]:=⟨_,rfl⟩
   have hal2:acc2.length<=151*k+1:=by rw[hacc2,jA,List.length_singleton];omega
   have hnx2:acc++((⟨s0,s1,s2,s3⟩:It)::ap4 (l6 x0 ec0) d.ts)=acc2++ap4 (l6 x0 ec0) d.ts:=by rw[hacc2,jS];rfl
   rw[<-hacc2]at hS1;have Hnx:=jH hnx;have Hto:=jH hto;have Hnx2:=jH hnx2;clear hacc2 hnx2 hnx hto;obtain⟨v1,v2,v3,v4,D,hd,hS2⟩:=cc4 hS1.swap;have Hd:=jH hd;clear hd hS1;obtain⟨ta,tc,rfl⟩:=hS2.drop.drop.drop.drop.rowVal;have hS:St W (L5 _ acc2::xtP (.slice ta d.ts.length tc) d.ts::xeB pb v1 v2 (.slice ta d.ts.length tc) v4::xrP v1 D::A7 D::xsP v2 d.ss::xmP v4 d.ar::blk b4 _ _::s8 b0 (D6 x0 ec0)::k8 w7 ps'::L) _:=hS2.s _;clear hS2;go_wp2_with(first|go_big_skip)
   go_loopw [6,10] (fun z1 z2 wr=>gl4 W (xtP (.slice ta d.ts.length tc) d.ts::xeB pb v1 v2 (.slice ta d.ts.length tc) v4::xrP v1 D::A7 D::xsP v2 d.ss::xmP v4 d.ar::blk b4 [.I 0,.I 0,.I 0,.I 0] 34::s8 b0 (D6 x0 ec0)::k8 w7 ps'::L) (l6 x0 ec0) d.ts acc2 z1 z2 wr) (fun _ z2 _=>d.ts.length-(intOf z2).toNat)
   case atStart=>exact⟨0,rfl,Nat.zero_le _,by simp only[List.take_zero];show St W (L5 _ (acc2++[])::_) _;rw[List.append_nil];exact hS⟩
   case round=>
    clear hS;obtain⟨m,rfl,hm,hS⟩:=hrel;by_cases hml:m<d.ts.length
    ·have hd2:decide (m<d.ts.length)=true:=decide_eq_true hml;obtain⟨⟨g,rfl⟩,_,_⟩:=St.rowAddr hS.drop (by omega);have hct:∀{K K':List HP},Take K (xtP (.S g d.ts.length tc) d.ts) K'->d8 K g (m*8) (tnC d.ts[m]):=fun hu=>d8.elemM AT7 hu hml
     obtain⟨htk,hte⟩:=Hto.out _ (jW hml);have hyes:=Nu7 (l6 x0 ec0) hml;have hno:=PH7 (l6 x0 ec0) hml;have hol:(ap4 (l6 x0 ec0) (d.ts.take m)).length<=m:=Nat.le_trans (ES7 _ _) (by rw[jT];omega);generalize ap4 (l6 x0 ec0) (d.ts.take m)=od at hS hyes hno hol;generalize d.ts[m]=t at hct htk hte hyes hno;obtain⟨⟨k0,k1⟩,⟨t0,t1,t2,t3,t4,t5,t6,t7⟩⟩:=t;simp only[tnC,Tns.cells]at hct;simp only[Prod.mk.injEq]at hte;obtain⟨rfl,rfl⟩:=hte;dsimp only at hyes hno;have hi0:=htk.i0;have hi1:=htk.i1;have hc0:=htk.c0;have hc1:=htk.c1;simp only at hi0 hi1 hc0 hc1;obtain⟨⟨y0,y1,y2,y3⟩,ho⟩:∃z,p8 t6 t7=z:=⟨_,rfl⟩
     rw[ho]at hno;have Ho:=jH ho;obtain⟨b,hb⟩:∃b,(j6 (l6 x0 ec0).ar (k0,k1)).isSome=b:=⟨_,rfl⟩
     have Hb:=jH hb;have hl8:(acc2++od).length<=1000:=by rw[jA];omega
     obtain⟨acc3,hacc3⟩:∃l,l=acc2++od:=⟨_,rfl⟩
     rw[<-hacc3]at hS hl8;obtain⟨na2,nc2,rfl⟩:=hS.rowVal
     cases b with
     | true=>
      have hyes2:=jH (hyes hb);have Hacc3:=jH hacc3;clear hyes hno hb ho htk hm hol hacc3;go_wp2_with(first|go_big_skip|refine zl1 hS ?_ (hc:=by(repeat(first|exact hA|apply i6.there)))|refine zlN hS ?_ (vs:=[.I k0,.I k1,.string t2,.string t3,.string t4,.string t5,.I t6,.I t7]) (hc:=by exact hct (by exact i7))|refine zal hS ?_;clear hS;intro bA w hS|refine zsN hS ?_;clear hS;intro w hS|go_at_call 34;refine(Ns7 Hb.out (hS.s (s8 b0 (D6 x0 ec0)::L5 (.slice na2 acc3.length nc2) acc3::blk bA _ _::xtP (.S g d.ts.length tc) d.ts::xeB pb v1 v2 (.S g d.ts.length tc) v4::xrP v1 D::A7 D::xsP v2 d.ss::xmP v4 d.ar::blk b4 _ _::k8 w7 ps'::L))).mono ?_;clear hS;rintro ex w ⟨rfl,hS⟩|refine zl1 hS ?_);go_roundw
      case rel=>
       refine⟨m+1,rfl,hml,?_⟩;rw[hyes2.out,<-Hacc3.out];exact hS.s _
      case measure=>simp[intOf];omega
     | false=>
      have hno2:=jH (hno hb);have Hacc3:=jH hacc3;clear hyes hno hb ho htk hm hol hacc3;go_wp2_with(first|go_big_skip|refine zl1 hS ?_ (hc:=by(repeat(first|exact hA|apply i6.there)))|refine zlN hS ?_ (vs:=[.I k0,.I k1,.string t2,.string t3,.string t4,.string t5,.I t6,.I t7]) (hc:=by exact hct (by exact i7))|refine zal hS ?_;clear hS;intro bA w hS|refine zsN hS ?_;clear hS;intro w hS|go_at_call 34;refine(Ns7 Hb.out (hS.s (s8 b0 (D6 x0 ec0)::L5 (.slice na2 acc3.length nc2) acc3::blk bA _ _::xtP (.S g d.ts.length tc) d.ts::xeB pb v1 v2 (.S g d.ts.length tc) v4::xrP v1 D::A7 D::xsP v2 d.ss::xmP v4 d.ar::blk b4 _ _::k8 w7 ps'::L))).mono ?_;clear hS;rintro ex w ⟨rfl,hS⟩|go_at_call 35;refine(Cz7 Ho.out hi0 hi1 (by omega) hc1 W _ _ hS).mono ?_;clear hS;rintro ex w ⟨rfl,hS⟩|refine zl1 hS ?_|refine zlN hS ?_|refine zbs hS ?_;clear hS;intro bS w hS|refine zap hS ?_ (h63:=by unfold maxLen;omega) (hb:=by omega);clear hS;intro v9 w hS);go_roundw
      case rel=>
       refine⟨m+1,rfl,hml,?_⟩;rw[hno2.out,<-jS,<-Hacc3.out];have h0:=hS.s (row v9 4 34 (acc3.length+1) (acc3.flatMap It.cells++_)::xtP (.S g d.ts.length tc) d.ts::xeB pb v1 v2 (.S g d.ts.length tc) v4::xrP v1 D::A7 D::xsP v2 d.ss::xmP v4 d.ar::blk b4 _ _::s8 b0 (D6 x0 ec0)::k8 w7 ps'::L);exact aG4 (enc:=It.cells) (y:=(⟨y0,y1,y2,y3⟩:It)) h0 rfl
      case measure=>simp[intOf];omega
    ·have hd2:decide (m<d.ts.length)=false:=decide_eq_false hml;have hm2:m=d.ts.length:=by omega
     rw[hm2,List.take_length]at hS;clear hm hml hm2;have hol:(ap4 (l6 x0 ec0) d.ts).length<=d.ts.length:=ES7 _ _;go_wp2_with(first|go_big_skip|refine zl1 hS ?_ (hc:=by(repeat(first|exact hA|apply i6.there)))|refine zl1 hS ?_);go_roundw
     case rel=>
      refine⟨k+1,rfl,by rw[Hpl.out];exact hkl,?_,?_⟩
      ·rw[Hnx.out,Hnx2.out,jA];omega
      ·rw[Hnx.out,Hnx2.out];have h0:=bk4 Hd.out (hS.s (cz4 pb v1 v2 (.slice ta d.ts.length tc) v4 D d (k8 w7 ps'::L5 _ (acc2++ap4 (l6 x0 ec0) d.ts)::blk b4 _ _::s8 b0 (D6 x0 ec0)::L)))
       have e9:s8 pb d=w7 (pb,ys):=by
        show s8 pb d=s8 pb (D6 ys ec0)
        rw[Hd0.out]
       rw[e9]at h0;exact(bD4 Hpp.out h0).s _
     case measure=>simp[intOf];omega
  ·have hd1:decide (k<ps.length)=false:=decide_eq_false hkl;have hk2:k=(ps.map (·.2)).length:=by have h9:=Hpl.out;omega
   rw[hk2,List.take_length]at hS;generalize aL4 x0 (ps.map (·.2))=acc at hS Hf Hfb;clear hal hk hk2 hkl;go_wp2_with(first|go_big_skip|go_at_call 36;refine(QP7 Hf.out Hfb.out (hS.s (L5 _ acc::blk b4 _ _::s8 b0 (D6 x0 ec0)::k8 w7 ps::L))).mono ?_;clear hS;rintro ex w ⟨rfl,hS⟩|refine zsN hS ?_;clear hS;intro w hS);apply Ac7;rfl;rfl;rfl;rfl;exact hS;decide +kernel;(exact r6);kernel_rfl;exact⟨rfl,hS.s _⟩
structure Zj where
 id:Int
 sf:ByteArray
 st:ByteArray
 own:Int
 ep:Int
 pend:Int
 to:Int
 key:ByteArray
 new:Int
def Zj.cells(z:Zj):List Value:=[.I z.id,.string z.sf,.string z.st,.I z.own,.I z.ep,.I z.pend,.I z.to,.string z.key,.I z.new]
theorem Zj.len(z:Zj):z.cells.length=9:=rfl
theorem Jb7{ver nxt:Int}{zs:List Zj}{v:Value}{V:World}(hv:C8 Zj.cells 9 V v zs)(W w:World)(Lr:List HP)(hS:St W (Old V::Lr) w):
  Calls Tryz.prog 16 #[.agg #[.I ver,.I nxt,v]] w fun e w'=>∃h:Bool,(h=false->zs.length<=60)/\e=.returned (.bool h)/\St W (Old V::Lr) w':=by
 obtain⟨a,cap,rfl,h63,hact⟩:=hv;have Hat:=jH hact;clear hact;go_enter Tryz.func16,Tryz.ntmps16;by_cases h60:60<zs.length
 ·have d0:((60:Nat):Int)<(zs.length:Int):=by omega
  go_wp2_with(first|go_big_skip|refine zbx hS ?_;clear hS;intro b1 w hS|refine zl1 hS ?_);go_ret;exact⟨_,fun h=>(by cases h),rfl,hS.drop⟩
 have d0:decide ((60:Int)<(zs.length:Int))=false:=by simp;omega
 go_wp2_with(first|go_big_skip|refine zbx hS ?_;clear hS;intro b1 w hS|refine zl1 hS ?_)
 go_loopw [3] (fun v wr=>fH4 W (blk b1 [.I ver,.I nxt,.slice a zs.length cap] 58::Old V::Lr) zs.length v wr) (fun v _=>zs.length-(intOf v).toNat)
 case atStart=>exact⟨0,rfl,by omega,hS⟩
 case round=>
  clear hS;obtain⟨i,rfl,hi,hS⟩:=hrel;by_cases hil:i<zs.length
  case neg=>
   have d1:decide (i<zs.length)=false:=decide_eq_false hil;go_wp2_with(first|go_big_skip|refine zl1 hS ?_);go_ret;exact⟨_,fun _=>by omega,rfl,hS.drop⟩
  have hd1:decide (i<zs.length)=true:=decide_eq_true hil;clear hi;obtain⟨pb,poff,rfl,hall⟩:=Hat.out i hil;generalize zs[i]=x at hall;obtain⟨z0,z1,z2,z3,z4,z5,z6,z7,z8⟩:=x;simp only[Zj.cells]at hall;by_cases h1:60<z1.size
  ·have d1:(60:Int)<(z1.size:Int):=by omega
   go_wp2_with(first|go_big_skip|refine zlN hS ?_ (vs:=[.I z0,.string z1,.string z2,.I z3,.I z4,.I z5,.I z6,.string z7,.I z8]) (hc:=by exact d8.old (by exact aR4) hall)|refine zl1 hS ?_|refine zal hS ?_;clear hS;intro bA w hS|refine zsN hS ?_;clear hS;intro w hS);go_ret;exact⟨_,fun h=>(by cases h),rfl,hS.s _⟩
  have d1:decide ((60:Int)<(z1.size:Int))=false:=by simp;omega
  by_cases h2:60<z2.size
  ·have d2:(60:Int)<(z2.size:Int):=by omega
   go_wp2_with(first|go_big_skip|refine zlN hS ?_ (vs:=[.I z0,.string z1,.string z2,.I z3,.I z4,.I z5,.I z6,.string z7,.I z8]) (hc:=by exact d8.old (by exact aR4) hall)|refine zl1 hS ?_|refine zal hS ?_;clear hS;intro bA w hS|refine zsN hS ?_;clear hS;intro w hS);go_ret;exact⟨_,fun h=>(by cases h),rfl,hS.s _⟩
  have d2:decide ((60:Int)<(z2.size:Int))=false:=by simp;omega
  by_cases h3:60<z7.size
  ·have d3:(60:Int)<(z7.size:Int):=by omega
   go_wp2_with(first|go_big_skip|refine zlN hS ?_ (vs:=[.I z0,.string z1,.string z2,.I z3,.I z4,.I z5,.I z6,.string z7,.I z8]) (hc:=by exact d8.old (by exact aR4) hall)|refine zl1 hS ?_|refine zal hS ?_;clear hS;intro bA w hS|refine zsN hS ?_;clear hS;intro w hS);go_ret;exact⟨_,fun h=>(by cases h),rfl,hS.s _⟩
  have d3:decide ((60:Int)<(z7.size:Int))=false:=by simp;omega
  go_wp2_with(first|go_big_skip|refine zlN hS ?_ (vs:=[.I z0,.string z1,.string z2,.I z3,.I z4,.I z5,.I z6,.string z7,.I z8]) (hc:=by exact d8.old (by exact aR4) hall)|refine zl1 hS ?_|refine zal hS ?_;clear hS;intro bA w hS|refine zsN hS ?_;clear hS;intro w hS);go_roundw
  case rel=>exact⟨i+1,rfl,hil,hS.s _⟩
  case measure=>simp[intOf];try omega
def ptC(p:Nat×List Opn):List Value:=[.pointer (some ⟨p.1,0,none⟩)]
theorem Nv7(p:Nat×List Opn):(ptC p).length=1:=rfl
def Jc1(W:World)(L:List HP)(ps:List (Value×List Opn))(v5 v6 v7:Value)(w:World):Prop:=
 ∃(k:Nat) (es ds:List (Nat×List Opn)),v7=.I k/\k<=ps.length/\es.map (·.2)=(ps.take k).map (·.2)/\ds.map (·.2)=(ps.take k).map (·.2)/\(∀p∈es,p.2.length<=150) /\
  St W (row v5 1 66 es.length (es.flatMap ptC)::row v6 1 49 ds.length (ds.flatMap ptC)::k8 ecX es::k8 w7 ds::L) w
def Jc2(W:World)(L:List HP)(eb xb:Nat)(l:List Opn)(v10:Value)(w:World):Prop:=
 ∃m:Nat,v10=.I m/\m<=l.length/\St W (ecP eb (l6 (l.take m) ec0)::s8 xb (D6 (l.take m) ec0)::L) w
theorem KY7{yss:List (List Opn)}{u:Value}{V:World}(hu:at4 Opn.cells 12 V u yss)(W w:World)(Lr:List HP)(hS:St W (Old V::Lr) w):
  Calls Tryz.prog 15 #[u] w fun e w'=>(e=.returned (.tuple #[.slice none 0 0,.slice none 0 0,.bool false])/\St W (Old V::Lr) w') \/
   ∃va vb es ds,e=.returned (.tuple #[va,vb,.bool true])/\es.map (·.2)=yss/\ds.map (·.2)=yss/\(∀p∈es,p.2.length<=150)/\yss.length<=5 /\
    St W (row va 1 66 es.length (es.flatMap ptC)::row vb 1 49 ds.length (ds.flatMap ptC)::k8 ecX es::k8 w7 ds::Old V::Lr) w':=by
 obtain⟨ps,rfl,⟨ua,ucap,rfl,hu63,huc⟩,hpu⟩:=hu;have Huc:=jH huc;have Hpu:=jH hpu;have Hpl:=jH (show(ps.map (·.2)).length=ps.length from jM ..);clear huc hpu;by_cases h5:5<ps.length
 ·have hd1:decide ((5:Int)<(ps.length:Int))=true:=by simp;omega
  go_enter Tryz.func15,Tryz.ntmps15;go_wp2_with(first|go_big_skip);go_ret3;exact .inl ⟨rfl,hS⟩
 have hd1:decide ((5:Int)<(ps.length:Int))=false:=by simp;omega
 go_enter Tryz.func15,Tryz.ntmps15;go_wp2_with(first|go_big_skip);have hS0:=((ef4 ecX (ef4 w7 hS)).rowNil (k:=1) (T:=49)).rowNil (k:=1) (T:=66);clear hS;have hS:=hS0;clear hS0
 go_loopw [5,6,7] (fun z1 z2 z3 wr=>Jc1 W (Old V::Lr) ps z1 z2 z3 wr) (fun _ _ z3 _=>ps.length-(intOf z3).toNat)
 case atStart=>exact⟨0,[],[],rfl,Nat.zero_le _,rfl,rfl,fun _ h=>(by cases h),hS⟩
 case round=>
  clear hS;obtain⟨k,es,ds,rfl,hk,hes,hds,h150s,hS⟩:=hrel;by_cases hkl:k<ps.length
  ·have hd2:decide (k<ps.length)=true:=decide_eq_true hkl;obtain⟨ub,uoff,rfl,hcell⟩:=Huc.out k hkl;have hc0:=hcell 0 _ rfl;have hsl:=Hpu.out ps[k] (jW hkl);have hnx:(ps.take (k+1)).map (·.2)=(ps.take k).map (·.2)++[ps[k].2]:=by rw[List.take_succ_eq_append_getElem hkl,List.map_append];rfl
   have hel:es.length=k:=by have:=congrArg List.length hes;rw[jM,jM,jT]at this;omega
   have hdl:ds.length=k:=by have:=congrArg List.length hds;rw[jM,jM,jT]at this;omega
   rw[<-hes]at hnx;have hed:es.map (·.2)=ds.map (·.2):=by rw[hes,hds]
   generalize ps[k]=p at hc0 hsl hnx;obtain⟨pv,l⟩:=p;simp only at hc0 hsl hnx;have Hsl:=jH hsl;obtain⟨la,lcap,rfl,hl63,hlc⟩:=hsl
   have hc1:V.cell? ⟨ub,uoff+k,none⟩=some (.slice la l.length lcap):=by
    have e:uoff+k*1+0=uoff+k:=by omega
    rw[e]at hc0;exact hc0
   have he1:es.length<=k:=by omega
   have hd8:ds.length<=k:=by omega
   have Hlc:=jH hlc;have Hnx:=jH hnx;have Hed:=jH hed;have H150:=jH h150s;obtain⟨ma,mc,rfl⟩:=hS.rowVal;obtain⟨na,nc,rfl⟩:=hS.drop.rowVal;clear hcell hc0 hlc hnx hes hds hk h150s hel hdl hed;go_wp2_with(first|go_big_skip|refine zl1 hS ?_ (hc:=by exact i6.old (by exact aR4) hc1)|(go_at_call 7;refine(Pd7 (Hsl.out.old hS (by exact aR4)) hS).mono ?_;clear hS;rintro e w ⟨hv9,h150,rfl,hS⟩;cases hv9)|go_at_call 26;refine(Ft7 W _ _ hS).mono ?_;clear hS;rintro e w ⟨eb,rfl,hS⟩|refine zbx hS ?_;clear hS;intro xb w hS)
   rotate_left
   ·go_ret3;exact .inl ⟨rfl,hS.s _⟩
   have hlen:l.length<=150:=by first|exact h150 rfl|exact h150 trivial
   clear h150;have hS0:=gH4 (hS.s (xeB xb (.slice none 0 0) (.slice none 0 0) (.slice none 0 0) (.slice none 0 0)::ecP eb ec0::row (.slice ma es.length mc) 1 66 es.length (es.flatMap ptC)::row (.slice na ds.length nc) 1 49 ds.length (ds.flatMap ptC)::k8 ecX es::k8 w7 ds::Old V::Lr));clear hS;have hS:=hS0.swap;clear hS0
   go_loopw [10] (fun z1 wr=>Jc2 W (row (.slice ma es.length mc) 1 66 es.length (es.flatMap ptC)::row (.slice na ds.length nc) 1 49 ds.length (ds.flatMap ptC)::k8 ecX es::k8 w7 ds::Old V::Lr) eb xb l z1 wr) (fun z1 _=>l.length-(intOf z1).toNat)
   case atStart=>exact⟨0,rfl,Nat.zero_le _,hS⟩
   case round=>
    clear hS;obtain⟨m,rfl,hm,hS⟩:=hrel;by_cases hml:m<l.length
    ·have hd3:decide (m<l.length)=true:=decide_eq_true hml;obtain⟨lb,loff,rfl,hall⟩:=Hlc.out m hml;have hj:=CZ7 l m hm;have hok:=hj.ok.ok;have hdk:=fun k=>hj.dok (by omega) k
     have hr1:=Ep7 hml ec0;have hr2:=MW7 hml ec0;clear hj;generalize l6 (l.take m) ec0=e1 at hS hok hr1;generalize D6 (l.take m) ec0=d1 at hS hdk hr2;generalize l[m]=x at hall hr1 hr2;obtain⟨kd,cl,sq,ak,aw,tk,tw,it,ct,pr,bu,id⟩:=x;simp only[Opn.cells]at hall;obtain⟨⟨⟨r0,r1,⟨r2,r3,r4,r5⟩⟩,rb,e2⟩,h1⟩:∃z,B6 e1 ⟨kd,cl,sq,ak,aw,tk,tw,it,ct,pr,bu,id⟩=z:=⟨_,rfl⟩
     obtain⟨⟨⟨q0,q1,⟨q2,q3,q4,q5⟩⟩,qb,d2⟩,h2⟩:∃z,M7 d1 ⟨kd,cl,sq,ak,aw,tk,tw,it,ct,pr,bu,id⟩=z:=⟨_,rfl⟩
     rw[h1]at hr1;rw[h2]at hr2;have H1:=jH h1;have H2:=jH h2;have Hr1:=jH hr1;have Hr2:=jH hr2;have Hok:=jH hok;have Hdk:=jH (hdk ak);have hm9:m<=150:=by omega
     clear h1 h2 hr1 hr2 hok hdk hm;go_wp2_with(first|go_big_skip|refine zl1 hS ?_ (hc:=by exact i6.old (by exact aR4) hc1)|refine zlN hS ?_ (vs:=[.I kd,.I cl,.I sq,.string ak,.string aw,.string tk,.string tw,.I it,.I ct,.I pr,.bool bu,.I id]) (hc:=by exact d8.old (by exact aR4) hall)|go_at_call 27;(have hS9:=hS.s (ecP eb e1::s8 xb d1::row (.slice ma es.length mc) 1 66 es.length (es.flatMap ptC)::row (.slice na ds.length nc) 1 49 ds.length (ds.flatMap ptC)::k8 ecX es::k8 w7 ds::Old V::Lr));clear hS;refine Calls.mono (DO7 Hok.out (by omega) H1.out W _ _ hS9) ?_;clear hS9;rintro ex w ⟨_,rfl,hS⟩|go_at_call 25;refine(MX7 (by omega) Hdk.out H2.out W _ _ (hS.s (s8 xb d1::ecP eb e2::row (.slice ma es.length mc) 1 66 es.length (es.flatMap ptC)::row (.slice na ds.length nc) 1 49 ds.length (ds.flatMap ptC)::k8 ecX es::k8 w7 ds::Old V::Lr))).mono ?_;clear hS;rintro ex w ⟨rfl,hS⟩);go_roundw
     case rel=>
      refine⟨m+1,rfl,hml,?_⟩;rw[Hr1.out,Hr2.out];exact hS.s _
     case measure=>simp[intOf];omega
    ·have hd3:decide (m<l.length)=false:=decide_eq_false hml;have hm2:m=l.length:=by omega
     rw[hm2,List.take_length]at hS;rw[hm2]at hd3 ⊢;clear hm hml hm2;go_wp2_with(first|go_big_skip|refine zl1 hS ?_ (hc:=by exact i6.old (by exact aR4) hc1)|(fail_if_success (have:=gA));(refine zbs hS ?_;clear hS;have gA:Nat:=0;intro bA w hS)|(have:=gA);refine zbs hS ?_;clear hS;intro bB w hS|(fail_if_success (have:=gP));(refine zap hS ?_ (h63:=by unfold maxLen;omega) (hb:=by omega);clear hS;have gP:Nat:=0;intro va w hS)|(have:=gP);refine zap hS ?_ (h63:=by unfold maxLen;omega) (hb:=by omega);clear hS;intro vb w hS);go_roundw
     case rel=>
      refine⟨k+1,es++[(eb,l)],ds++[(xb,l)],rfl,hkl,by rw[Hnx.out,List.map_append];rfl,by rw[Hnx.out,Hed.out,List.map_append];rfl,fun p hp=>?_,?_⟩
      ·rcases List.mem_append.1 hp with hp|hp
       ·exact H150.out p hp
       ·rw[List.mem_singleton]at hp;subst hp;exact hlen
      ·have h0:=hS.s (row va 1 66 (es.length+1) (es.flatMap ptC++_)::row vb 1 49 (ds.length+1) (ds.flatMap ptC++_)::ecP eb (l6 l ec0)::k8 ecX es::s8 xb (D6 l ec0)::k8 w7 ds::Old V::Lr);have h1:=aG4 (enc:=ptC) (y:=(eb,l)) h0 rfl;have h2:=aG4 (enc:=ptC) (y:=(xb,l)) h1.swap rfl;have h3:St W (ecX (eb,l)::k8 ecX es::s8 xb (D6 l ec0)::k8 w7 ds::row va 1 _ _ _::row vb 1 _ _ _::Old V::Lr) _:=h2.s (ecP eb (l6 l ec0)::k8 ecX es::s8 xb (D6 l ec0)::k8 w7 ds::row va 1 _ _ _::row vb 1 _ _ _::Old V::Lr);have h4:=dv4 h3;have h5:St W (w7 (xb,l)::k8 w7 ds::row va 1 _ _ _::row vb 1 _ _ _::k8 ecX (es++[(eb,l)])::Old V::Lr) _:=h4.s (s8 xb (D6 l ec0)::k8 w7 ds::row va 1 _ _ _::row vb 1 _ _ _::k8 ecX (es++[(eb,l)])::Old V::Lr);exact(dv4 h5).s _
     case measure=>simp[intOf];omega
  ·have hd2:decide (k<ps.length)=false:=decide_eq_false hkl;have hk2:k=ps.length:=by omega
   rw[hk2,List.take_length]at hes hds;have Hes:=jH hes;have Hds:=jH hds;have H150:=jH h150s;clear hes hds h150s hk hk2 hkl;go_wp2_with(first|go_big_skip);go_ret3;exact .inr ⟨_,_,es,ds,rfl,Hes.out,Hds.out,H150.out,by rw[Hpl.out];omega,hS⟩
end Go.Proofs.YtienbkdjkjbelaaGreat
end
