/-
  The document's Decode.
-/
import Derived.Test.YtlmhakmoioogaaaGreatEconDcM4
import Derived.Test.YtlmhakmoioogaaaGreatEconDcM30
set_option maxHeartbeats 16000000
set_option maxRecDepth 100000
set_option linter.unusedSimpArgs false
set_option linter.unusedVariables false
section
namespace Go.Proofs.YtlmhakmoioogaaaGreat
open Go.RowKit Go.Sl
theorem SC7{s:RS}(h:RdOk s):szR s 0 100000000:=by
 cases s with
 | none=>exact Nat.zero_le _
 | some b=>
  have:=h.l b rfl;show 0+b.length<=100000000
  omega
theorem QY7{l:List Ord}(h:ap4 l)(v:Value)(W w:World)(R:List HP)(hS:St W (i9 v l::R) w):
  Calls Tryz.prog 199 #[v] w fun e w'=>e=.returned (.tuple #[.pointer none,.I 1])/\St W R w':=by
 refine(JU7 l v W w R hS).mono ?_;rintro e w' (⟨h1,h2,h3⟩|⟨h1,h2,_⟩)
 ·exact⟨h2,h3.drop⟩
 ·exact absurd h (Cn7 h1 h2)
theorem EP7{l:List Ord}(h:¬ap4 l)(v:Value)(W w:World)(R:List HP)(hS:St W (i9 v l::R) w):
  Calls Tryz.prog 199 #[v] w fun e w'=>∃xb vx,e=.returned (.tuple #[.P xb,.I 0])/\(l.length<=32/\bX4 l l.length)/\St W (blk xb [vx,.I (I8 l l.length)] 244::i9 vx l::R) w':=by
 refine(JU7 l v W w R hS).mono ?_;rintro e w' (⟨h1,_⟩|⟨h1,h2,xb,vx,h3,h4⟩)
 ·exact absurd h1 h
 ·exact⟨xb,vx,h3,⟨h1,h2⟩,h4.swap.take (.tail (.tail .head)) |>.drop.swap⟩
theorem Rz7{s:RS}(h:ar4 s=false):s≠some []:=by
 rintro rfl
 cases h
theorem Fu7{s:RS}(h:ar4 s=true):s=some []:=by
 cases s with
 | none=>cases h
 | some l=>
  cases l with
  | nil=>rfl
  | cons x t=>cases h
theorem Ml7(D:HP)(a:Option Addr)(c:Nat)(b:List Int)(hat:At D a c b)(hcap:b.length<=c/\c<=9223372036854775807)(hb:ByB b)(hN:b.length<=9000)(W w:World)(R R':List HP)(ht:Take R D R')(hS:St W R w):
  Calls Tryz.prog 159 #[.slice a b.length c] w fun e w'=>(¬VDk b/\e=.returned (.tuple #[.pointer none,.I 3])/\St W R w') \/
   (VDk b/\∃xb xB v,e=.returned (.tuple #[.P xb,.I 0])/\St W (blk xb [v,.P xB,.I (dN b).1] 246::hdR v (dP b).1::xkP xB (dO b).1 (dN b).1::R) w'):=by
 have hok:RdOk (some b):=⟨fun l hl=>by cases hl;exact hb,fun l hl=>by cases hl;omega⟩
 have hsz:szR (d8 (some b)).2 0 b.length:=by
  cases hs:(d8 (some b)).2 with
  | none=>exact Nat.zero_le _
  | some r=>
   have:=Dy7 hok.b hs rfl;show 0+r.length<=b.length
   omega
 have Hv:RowKit.Hid (rdV D (.slice a b.length c) false (some b)):=jH ⟨rfl,a,c,rfl,hcap.1,hcap.2,hat⟩;have Hok:=jH hok;have Hsz:=jH hsz;clear hok hsz;go_enter Tryz.func159,Tryz.ntmps159;go_wp2_with(first|go_big_skip|(with_reducible apply Df7 hS);rfl;rfl;rfl;rfl;clear hS;intro rb w hS;refine frS ?_|go_at_call 114;refine(gw4 W _ _ hS).mono ?_;clear hS;rintro e w ⟨xb,xB,rfl,hS0⟩;obtain⟨xv,hS⟩:=cU4 hS0;clear hS0;obtain⟨xa,xc,rfl⟩:=hS.drop.rowVal|go_at_call 198;refine(QX7 D rb (some b) _ _ rfl Hok.out b.length (by omega) Hsz.out (dP b) rfl W _ _ _ (.tail (.tail (.tail ht))) (j7 Hv.out (hS.s (blk rb _ _::blk xb _ _::hdR _ (hdL [])::xkP xB [] 1::R)))).mono ?_;clear hS;rintro e w ⟨pv,rfl,hpl,hpo,hS⟩;(have hv:=hS.drop.rowVal;obtain⟨pa,pc,rfl⟩:=hv);have Hpo:=jH hpo;clear hpo|refine zs1 hS ?_;clear hS;intro w hS|(fail_if_success (have:=mN2));go_at_call 97;refine(cL4 D rb (dP b).2 Hpo.out W _ _ _ (by(focus((repeat(first|exact ht|apply Take.tail));done))) (hS.s (rdX D rb (dP b).2::blk xb _ _::hdR _ (dP b).1::R))).mono ?_;clear hS;have mN2:Nat:=0;rintro e w ⟨rfl,hS⟩);have hr:=At7 (dP b).2;have hT0:ce4 (d8 (dP b).2).1.toNat [] (d8 (dP b).2).2=dO b:=rfl;have hok2:=Hpo.out.num;generalize d8 (dP b).2=q at hS hr hT0 hok2 ⊢;obtain⟨n2,s2⟩:=q;simp only at hS hr hT0 hok2;obtain⟨m,rfl⟩:∃m:Nat,n2=m:=⟨n2.toNat,by omega⟩
 have hm:m<=4611686018427387904:=by omega
 have HT0:=jH hT0;have Hok2:=jH hok2;clear hr hT0 hok2;have hS1:=(hS.rowNil (k:=6) (T:=166)).swap;clear hS;have hS:=hS1;clear hS1
 go_loopw [7,8] (fun v7 v8 wr=>OdR W D rb (blk xb [.slice pa (dP b).1.length pc,.P xB,.I 1] 246::hdR (.slice pa (dP b).1.length pc) (dP b).1::R) m 100000000 (dO b) v7 v8 wr) (fun _ v8 _=>m-(intOf v8).toNat)
 case atStart=>exact⟨[],s2,rfl,Nat.zero_le _,Hok2.out,SC7 Hok2.out,HT0.out,hS⟩
 case round=>
  clear hS Hok2 HT0;obtain⟨l,s,rfl,hlm,hok2,hsz2,hT2,hS⟩:=hrel;unfold i9 at hS;obtain⟨va,vc,rfl⟩:=hS.drop.rowVal;have hS1:St W (rdX D rb s::i9 (.slice va l.length vc) l::_) _:=hS;clear hS;have hS:=hS1;clear hS1;have Hok2:=jH hok2;have Hsz2:=jH hsz2;have HT2:=jH hT2;clear hok2 hsz2 hT2
  have hlN:l.length<=100000001:=by
   have h1:=Hsz2.out
   cases s with
   | none=>exact h1
   | some b2=>have h2:l.length+b2.length<=100000000:=h1;omega
  cases s with
  | none=>
   have hT3:=HT2.out;rw[EO7]at hT3
   have hno:¬VDk b:=by
    rintro⟨h1,_⟩;unfold dN at h1;rw[<-hT3]at h1
    cases h1
   obtain⟨v1,e1,⟨rfl,rfl⟩,hS1⟩:=B9 hS;clear hS hT3;have hS:=hS1;clear hS1;have E9:=jH Ax7;have Hno:=jH hno;clear hno;by_cases hin:l.length=m
   ·have hd1:decide (l.length<m)=false:=by simp;omega
    clear hin;go_wp2_with(first|go_big_skip|go_at_call 97;refine(Ae7 E9.out AL7 W _ _ _ (by(focus((repeat(first|exact ht|apply Take.tail));done))) (j7 ⟨rfl,rfl⟩ hS)).mono ?_;clear hS;rintro e w ⟨rfl,hS⟩|go_at_call 100;refine(AT7 D rb _ W _ _ (hS.s (rdX D rb none::R))).mono ?_;clear hS;rintro e w ⟨rfl,hS⟩|refine zs1 hS ?_;clear hS;intro w hS);go_ret2;exact .inl ⟨Hno.out,rfl,hS.drop⟩
   ·have hlt:l.length<m:=by omega
    go_wp2_with(first|go_big_skip|refine zl1 hS ?_|go_at_call 97;refine(Ae7 E9.out AL7 W _ _ _ (by(focus((repeat(first|exact ht|apply Take.tail));done))) (j7 ⟨rfl,rfl⟩ hS)).mono ?_;clear hS;rintro e w ⟨rfl,hS⟩|go_at_call 100;refine(AT7 D rb _ W _ _ (hS.s (rdX D rb none::R))).mono ?_;clear hS;rintro e w ⟨rfl,hS⟩|refine zs1 hS ?_;clear hS;intro w hS);go_ret2;exact .inl ⟨Hno.out,rfl,hS.drop⟩
  | some b2=>
   by_cases hin:l.length=m
   ·have hT3:=HT2.out;rw[hin,Nat.sub_self,ce4]at hT3;obtain⟨v1,e1,hv,hS1⟩:=B9 hS;clear hS;have hS:=hS1;clear hS1;obtain⟨a1,c1,rfl,rfl,Hv2⟩:=ad4 hv;clear hv;have hd1:decide (l.length<m)=false:=by simp;omega
    obtain⟨⟨n,s9⟩,q9⟩:∃y,d8 (some b2)=y:=⟨_,rfl⟩
    have hdn:dN b=(n,s9):=by unfold dN;rw[<-hT3];exact q9
    have hdo:(dO b).1=l:=by rw[<-hT3]
    have E9:=jH q9;have Hdn:=jH hdn;have Hdo:=jH hdo;obtain⟨la,hla⟩:∃la,I8 l l.length=la:=⟨_,rfl⟩
    have Hla:=jH hla;clear hT3 q9 hdn hdo hin hla
    cases he:ar4 s9 with
    | false=>
     have hno:¬VDk b:=by rintro⟨h1,_⟩;rw[Hdn.out]at h1;exact Rz7 he h1
     have Hno:=jH hno;have He:=jH he;clear hno he;go_wp2_with(first|go_big_skip|refine zl1 hS ?_|go_at_call 97;refine(Ae7 E9.out Hok2.out W _ _ _ (by(focus((repeat(first|exact ht|apply Take.tail));done))) (j7 Hv2.out hS)).mono ?_;clear hS;rintro e w ⟨rfl,hS⟩|go_at_call 100;refine(AT7 D rb _ W _ _ (hS.s (rdX D rb s9::R))).mono ?_;clear hS;rw[He.out];rintro e w ⟨rfl,hS⟩|refine zs1 hS ?_;clear hS;intro w hS);go_ret2;exact .inl ⟨Hno.out,rfl,hS.drop⟩
    | true=>
     obtain rfl:=Fu7 he;clear he;by_cases hR:ap4 l
     ·have HR:=jH hR;have hno:¬VDk b:=by rintro⟨_,h1⟩;rw[Hdo.out]at h1;exact Cn7 h1.few h1.ok hR
      have Hno:=jH hno;clear hno hR;go_wp2_with(first|go_big_skip|refine zl1 hS ?_|go_at_call 97;refine(Ae7 E9.out Hok2.out W _ _ _ (by(focus((repeat(first|exact ht|apply Take.tail));done))) (j7 Hv2.out hS)).mono ?_;clear hS;rintro e w ⟨rfl,hS⟩|go_at_call 100;refine(AT7 D rb _ W _ _ (hS.s (rdX D rb (some [])::i9 _ l::blk xb _ _::hdR _ _::R))).mono ?_;clear hS;rintro e w ⟨rfl,hS⟩|refine zs1 hS ?_;clear hS;intro w hS|go_at_call 199;refine(QY7 HR.out _ W _ _ (hS.s (i9 _ l::blk xb _ _::hdR _ _::R))).mono ?_;clear hS;rintro e w ⟨rfl,hS⟩);refine Aa7 (by kernel_rfl) (by kernel_rfl) hS ?_
      repeat(first|go_big_quiet_skip|refine zq1 ?_|refine zqn ?_|refine qR ?_)
      clear hS;intro w hS;go_wp2_with(first|go_big_skip);go_ret2;exact .inl ⟨Hno.out,rfl,hS.drop.drop⟩
     ·have HR:=jH hR;clear hR;by_cases c1:n<=la
      ·have hd5:decide (n<=la)=true:=by simpa using c1
       go_wp2_with(first|go_big_skip|refine zl1 hS ?_|go_at_call 97;refine(Ae7 E9.out Hok2.out W _ _ _ (by(focus((repeat(first|exact ht|apply Take.tail));done))) (j7 Hv2.out hS)).mono ?_;clear hS;rintro e w ⟨rfl,hS⟩|go_at_call 100;refine(AT7 D rb _ W _ _ (hS.s (rdX D rb (some [])::i9 _ l::blk xb _ _::hdR _ _::R))).mono ?_;clear hS;rintro e w ⟨rfl,hS⟩|refine zs1 hS ?_;clear hS;intro w hS|go_at_call 199;refine(EP7 HR.out _ W _ _ (hS.s (i9 _ l::blk xb _ _::hdR _ _::R))).mono ?_;clear hS;rintro e w ⟨xk,vx,rfl,hok9,hS⟩;rw[Hla.out]at hS;have Hok9:=jH hok9;clear hok9);refine Aa7 (by kernel_rfl) (by kernel_rfl) hS ?_
       repeat(first|go_big_quiet_skip|refine zq1 ?_|refine zqn ?_|refine qR ?_)
       clear hS;intro w hS;go_wp2_with(first|go_big_skip);go_ret2;refine .inl ⟨?_,rfl,hS.drop.drop.drop.drop⟩;rintro⟨_,h1⟩;rw[Hdn.out,Hdo.out]at h1;have h2:=h1.last;rw[Hla.out]at h2;simp only at h2;omega
      ·have hd5:decide (n<=la)=false:=by simpa using c1
       by_cases c2:n<1
       ·have hd6:decide (n<1)=true:=by simpa using c2
        go_wp2_with(first|go_big_skip|refine zl1 hS ?_|go_at_call 97;refine(Ae7 E9.out Hok2.out W _ _ _ (by(focus((repeat(first|exact ht|apply Take.tail));done))) (j7 Hv2.out hS)).mono ?_;clear hS;rintro e w ⟨rfl,hS⟩|go_at_call 100;refine(AT7 D rb _ W _ _ (hS.s (rdX D rb (some [])::i9 _ l::blk xb _ _::hdR _ _::R))).mono ?_;clear hS;rintro e w ⟨rfl,hS⟩|refine zs1 hS ?_;clear hS;intro w hS|go_at_call 199;refine(EP7 HR.out _ W _ _ (hS.s (i9 _ l::blk xb _ _::hdR _ _::R))).mono ?_;clear hS;rintro e w ⟨xk,vx,rfl,hok9,hS⟩;rw[Hla.out]at hS;have Hok9:=jH hok9;clear hok9);refine Aa7 (by kernel_rfl) (by kernel_rfl) hS ?_
        repeat(first|go_big_quiet_skip|refine zq1 ?_|refine zqn ?_|refine qR ?_)
        clear hS;intro w hS;go_wp2_with(first|go_big_skip);go_ret2;refine .inl ⟨?_,rfl,hS.drop.drop.drop.drop⟩;rintro⟨_,h1⟩;rw[Hdn.out,Hdo.out]at h1;have h2:=h1.n0;simp only at h2;omega
       ·have hd6:decide (n<1)=false:=by simpa using c2
        by_cases c3:1099511627777<n
        ·have hd7:decide (1099511627777<n)=true:=by simpa using c3
         go_wp2_with(first|go_big_skip|refine zl1 hS ?_|go_at_call 97;refine(Ae7 E9.out Hok2.out W _ _ _ (by(focus((repeat(first|exact ht|apply Take.tail));done))) (j7 Hv2.out hS)).mono ?_;clear hS;rintro e w ⟨rfl,hS⟩|go_at_call 100;refine(AT7 D rb _ W _ _ (hS.s (rdX D rb (some [])::i9 _ l::blk xb _ _::hdR _ _::R))).mono ?_;clear hS;rintro e w ⟨rfl,hS⟩|refine zs1 hS ?_;clear hS;intro w hS|go_at_call 199;refine(EP7 HR.out _ W _ _ (hS.s (i9 _ l::blk xb _ _::hdR _ _::R))).mono ?_;clear hS;rintro e w ⟨xk,vx,rfl,hok9,hS⟩;rw[Hla.out]at hS;have Hok9:=jH hok9;clear hok9);refine Aa7 (by kernel_rfl) (by kernel_rfl) hS ?_
         repeat(first|go_big_quiet_skip|refine zq1 ?_|refine zqn ?_|refine qR ?_)
         clear hS;intro w hS;go_wp2_with(first|go_big_skip);go_ret2;refine .inl ⟨?_,rfl,hS.drop.drop.drop.drop⟩;rintro⟨_,h1⟩;rw[Hdn.out,Hdo.out]at h1;have h2:=h1.n1;simp only at h2;omega
        ·have hd7:decide (1099511627777<n)=false:=by simpa using c3
         go_wp2_with(first|go_big_skip|refine zl1 hS ?_|go_at_call 97;refine(Ae7 E9.out Hok2.out W _ _ _ (by(focus((repeat(first|exact ht|apply Take.tail));done))) (j7 Hv2.out hS)).mono ?_;clear hS;rintro e w ⟨rfl,hS⟩|go_at_call 100;refine(AT7 D rb _ W _ _ (hS.s (rdX D rb (some [])::i9 _ l::blk xb _ _::hdR _ _::R))).mono ?_;clear hS;rintro e w ⟨rfl,hS⟩|refine zs1 hS ?_;clear hS;intro w hS|go_at_call 199;refine(EP7 HR.out _ W _ _ (hS.s (i9 _ l::blk xb _ _::hdR _ _::R))).mono ?_;clear hS;rintro e w ⟨xk,vx,rfl,hok9,hS⟩;rw[Hla.out]at hS;have Hok9:=jH hok9;clear hok9);refine Aa7 (by kernel_rfl) (by kernel_rfl) hS ?_
         repeat(first|go_big_quiet_skip|refine zq1 ?_|refine zqn ?_|refine qR ?_)
         clear hS;intro w hS;go_wp2_with(first|go_big_skip|refine zs1 hS ?_;clear hS;intro w hS);refine rt 11 hS ?_
         repeat(first|go_big_quiet_skip|refine zq1 ?_|refine zqn ?_|refine qR ?_)
         clear hS;intro w hS;simp only[jD,List.drop_zero];go_wp2_with(first|go_big_skip|refine zs1 hS ?_;clear hS;intro w hS);go_ret2;refine .inr ⟨⟨by rw[Hdn.out],?_⟩,xb,xk,.slice pa (dP b).1.length pc,?_,?_⟩
         ·rw[Hdo.out,Hdn.out];exact⟨Hok9.out.1,Hok9.out.2,by rw[Hla.out];simp only;omega,by simp only;omega,by simp only;omega⟩
         ·rfl
         ·rw[Hdo.out,Hdn.out];exact(cx4 (n:=n) (by omega) hS).s _
   ·have hlt:l.length<m:=by omega
    obtain⟨v1,e1,hv,hS1⟩:=B9 hS;clear hS;have hS:=hS1;clear hS1;obtain⟨a1,c1,rfl,rfl,Hv2⟩:=ad4 hv;clear hv;have hT3:=HT2.out;have e3:m-l.length=(m-(l.length+1))+1:=by omega
    rw[e3,ce4]at hT3;have k1:=Hok2.out.num;have hq1:rdO (some b2)=⟨(d8 (some b2)).1,x6 (j5 (d8 (some b2)).2).1,decide ((B8 (S9 (some b2))).x0=1),(B8 (S9 (some b2))).x1,(B8 (S9 (some b2))).x2,(B8 (S9 (some b2))).x3⟩:=rfl;obtain⟨⟨oi,s1⟩,q1⟩:∃y,d8 (some b2)=y:=⟨_,rfl⟩
    obtain⟨⟨x,s2⟩,q2⟩:∃y,j5 s1=y:=⟨_,rfl⟩
    obtain⟨⟨y0,s3⟩,q3⟩:∃y,d8 s2=y:=⟨_,rfl⟩
    obtain⟨⟨y1,s4⟩,q4⟩:∃y,d8 s3=y:=⟨_,rfl⟩
    obtain⟨⟨y2,s5⟩,q5⟩:∃y,d8 s4=y:=⟨_,rfl⟩
    obtain⟨⟨y3,s6⟩,q6⟩:∃y,d8 s5=y:=⟨_,rfl⟩
    obtain⟨u,hu⟩:∃u,x6 x=u:=⟨_,rfl⟩
    have o1:S9 (some b2)=s2:=by unfold S9;rw[q1];simp only;rw[q2]
    have o2:B8 s2=⟨y0,y1,y2,y3⟩:=by unfold B8;simp only[q3,q4,q5,q6]
    have o3:bE4 (some b2)=s6:=by unfold bE4 K8;simp only[o1,q3,q4,q5,q6]
    have o4:rdO (some b2)=⟨oi,u,decide (y0=1),y1,y2,y3⟩:=by rw[hq1,o1,o2,q1];simp only;rw[q2];simp only;rw[hu]
    rw[o4,o1,o2,o3]at hT3;simp only at hT3;have k2:RdOk s1:=by rw[q1]at k1;exact k1
    have k3:RdOk s2:=by have:=k2.bytes;rw[q2]at this;exact this
    have k4:RdOk s3:=by have:=k3.num;rw[q3]at this;exact this
    have k5:RdOk s4:=by have:=k4.num;rw[q4]at this;exact this
    have k6:RdOk s5:=by have:=k5.num;rw[q5]at this;exact this
    have k7:RdOk s6:=by have:=k6.num;rw[q6]at this;exact this
    have hok7:RdOk (if y0<=1/\l.length<32 then s6 else none):=k7.cond _;have hsz7:szR (if y0<=1/\l.length<32 then s6 else none) (l.length+1) 100000000:=by have h7:=Ry7 Hok2.out Hsz2.out (y0<=1/\l.length<32);rw[o3]at h7;exact h7
    obtain⟨s7,h7⟩:∃s7,(if y0<=1/\l.length<32 then s6 else none)=s7:=⟨_,rfl⟩
    rw[h7]at hT3 hok7 hsz7;have E1:=jH q1;have E2:=jH q2;have E3:=jH q3;have E4:=jH q4;have E5:=jH q5;have E6:=jH q6;have Hu:=jH hu;have K1:=jH k2;have K2:=jH k3;have K3:=jH k4;have K4:=jH k5;have K5:=jH k6;have HT3:=jH hT3;have H7:=jH h7;have Hok7:=jH hok7;have Hsz7:=jH hsz7;clear q1 q2 q3 q4 q5 q6 hu k1 k2 k3 k4 k5 k6 k7 hT3 h7 hok7 hsz7 o1 o2 o3 o4 hq1 e3 hin;by_cases hc1:y0<=1
    ·by_cases hc2:l.length<32
     ·have h8:=H7.out;rw[if_pos ⟨hc1,hc2⟩]at h8;subst h8;have hd2:decide (1<y0)=false:=by simp;omega
      have hd3:decide (32<=l.length)=false:=by simp;omega
      go_wp2_with(first|go_big_skip|refine zl1 hS ?_|(fail_if_success (have:=m3));go_at_call 97;refine(Ae7 E1.out Hok2.out W _ _ _ (by(focus((repeat(first|exact ht|apply Take.tail));done))) (j7 Hv2.out hS)).mono ?_;clear hS;have m3:Nat:=0;rintro e w ⟨rfl,hS⟩|go_at_call 158;refine(Ar7 E2.out K1.out W _ _ _ (by(focus((repeat(first|exact ht|apply Take.tail));done))) hS).mono ?_;clear hS;rintro e w ⟨v,rfl,hS⟩|(with_reducible apply Af7 (ns:=x) hS);rfl;rfl;rfl;exact Tryz.underlying63;exact Tryz.underlying5;exact Tryz.underlying9;exact g8;rw[Hu.out];refine frS ?_|(with_reducible apply Ao7 hS);rfl;rfl;exact zsS;clear hS;intro bO w hS;refine frS ?_|refine zsN hS ?_;clear hS;intro w hS|refine zs1 hS ?_;clear hS;intro w hS|(have:=m3);(fail_if_success (have:=m4));go_at_call 97;refine(Ae7 E3.out K2.out W _ _ _ (by(focus((repeat(first|exact ht|apply Take.tail));done))) (hS.s (rdX D rb _::blk bO _ _::i9 _ l::blk xb _ _::hdR _ _::R))).mono ?_;clear hS;have m4:Nat:=0;rintro e w ⟨rfl,hS⟩|(have:=m4);(fail_if_success (have:=m5));go_at_call 97;refine(Ae7 E4.out K3.out W _ _ _ (by(focus((repeat(first|exact ht|apply Take.tail));done))) (hS.s (rdX D rb _::blk bO _ _::i9 _ l::blk xb _ _::hdR _ _::R))).mono ?_;clear hS;have m5:Nat:=0;rintro e w ⟨rfl,hS⟩|(have:=m5);(fail_if_success (have:=m6));go_at_call 97;refine(Ae7 E5.out K4.out W _ _ _ (by(focus((repeat(first|exact ht|apply Take.tail));done))) (hS.s (rdX D rb _::blk bO _ _::i9 _ l::blk xb _ _::hdR _ _::R))).mono ?_;clear hS;have m6:Nat:=0;rintro e w ⟨rfl,hS⟩|(have:=m6);(fail_if_success (have:=m7));go_at_call 97;refine(Ae7 E6.out K5.out W _ _ _ (by(focus((repeat(first|exact ht|apply Take.tail));done))) (hS.s (rdX D rb _::blk bO _ _::i9 _ l::blk xb _ _::hdR _ _::R))).mono ?_;clear hS;have m7:Nat:=0;rintro e w ⟨rfl,hS⟩|go_at_call 99;refine(D7 D rb _ W _ _ (hS.s (rdX D rb s6::blk bO _ _::i9 _ l::blk xb _ _::hdR _ _::R))).mono ?_;clear hS;rintro e w ⟨rfl,hS⟩|refine zlN hS ?_|refine zbs hS ?_;clear hS;intro bS w hS|(with_reducible apply Aj7 hS);rfl;rfl;rfl;rfl;exact esS;exact rsS;rfl;decide;exact g8;exact Src.mk d7.whole;(focus(try rfl));rfl;(focus(unfold maxLen;omega));(focus(omega));clear hS;intro v w hS;refine frS ?_)
      have hS3:=hS.s (row v 6 166 (l.length+1) _::rdX D rb s6::blk xb _ _::hdR _ _::R);go_roundw
      case rel=>exact⟨l++[⟨oi,u,decide (y0=1),y1,y2,y3⟩],s6,by rw[jA];rfl,by rw[jA];exact hlt,Hok7.out,by rw[jA];exact Hsz7.out,by rw[jA];exact HT3.out,(FY7 hS3).swap⟩
      case measure=>simp[intOf];omega
     ·have h8:=H7.out;rw[if_neg (fun h=>hc2 h.2)]at h8;subst h8;have hd2:decide (1<y0)=false:=by simp;omega
      have hd3:decide (32<=l.length)=true:=by simp;omega
      go_wp2_with(first|go_big_skip|refine zl1 hS ?_|(fail_if_success (have:=m3));go_at_call 97;refine(Ae7 E1.out Hok2.out W _ _ _ (by(focus((repeat(first|exact ht|apply Take.tail));done))) (j7 Hv2.out hS)).mono ?_;clear hS;have m3:Nat:=0;rintro e w ⟨rfl,hS⟩|go_at_call 158;refine(Ar7 E2.out K1.out W _ _ _ (by(focus((repeat(first|exact ht|apply Take.tail));done))) hS).mono ?_;clear hS;rintro e w ⟨v,rfl,hS⟩|(with_reducible apply Af7 (ns:=x) hS);rfl;rfl;rfl;exact Tryz.underlying63;exact Tryz.underlying5;exact Tryz.underlying9;exact g8;rw[Hu.out];refine frS ?_|(with_reducible apply Ao7 hS);rfl;rfl;exact zsS;clear hS;intro bO w hS;refine frS ?_|refine zsN hS ?_;clear hS;intro w hS|refine zs1 hS ?_;clear hS;intro w hS|(have:=m3);(fail_if_success (have:=m4));go_at_call 97;refine(Ae7 E3.out K2.out W _ _ _ (by(focus((repeat(first|exact ht|apply Take.tail));done))) (hS.s (rdX D rb _::blk bO _ _::i9 _ l::blk xb _ _::hdR _ _::R))).mono ?_;clear hS;have m4:Nat:=0;rintro e w ⟨rfl,hS⟩|(have:=m4);(fail_if_success (have:=m5));go_at_call 97;refine(Ae7 E4.out K3.out W _ _ _ (by(focus((repeat(first|exact ht|apply Take.tail));done))) (hS.s (rdX D rb _::blk bO _ _::i9 _ l::blk xb _ _::hdR _ _::R))).mono ?_;clear hS;have m5:Nat:=0;rintro e w ⟨rfl,hS⟩|(have:=m5);(fail_if_success (have:=m6));go_at_call 97;refine(Ae7 E5.out K4.out W _ _ _ (by(focus((repeat(first|exact ht|apply Take.tail));done))) (hS.s (rdX D rb _::blk bO _ _::i9 _ l::blk xb _ _::hdR _ _::R))).mono ?_;clear hS;have m6:Nat:=0;rintro e w ⟨rfl,hS⟩|(have:=m6);(fail_if_success (have:=m7));go_at_call 97;refine(Ae7 E6.out K5.out W _ _ _ (by(focus((repeat(first|exact ht|apply Take.tail));done))) (hS.s (rdX D rb _::blk bO _ _::i9 _ l::blk xb _ _::hdR _ _::R))).mono ?_;clear hS;have m7:Nat:=0;rintro e w ⟨rfl,hS⟩|go_at_call 99;refine(D7 D rb _ W _ _ (hS.s (rdX D rb s6::blk bO _ _::i9 _ l::blk xb _ _::hdR _ _::R))).mono ?_;clear hS;rintro e w ⟨rfl,hS⟩|refine zlN hS ?_|refine zbs hS ?_;clear hS;intro bS w hS|(with_reducible apply Aj7 hS);rfl;rfl;rfl;rfl;exact esS;exact rsS;rfl;decide;exact g8;exact Src.mk d7.whole;(focus(try rfl));rfl;(focus(unfold maxLen;omega));(focus(omega));clear hS;intro v w hS;refine frS ?_)
      have hS3:=hS.s (row v 6 166 (l.length+1) _::rdX D rb none::blk xb _ _::hdR _ _::R);go_roundw
      case rel=>exact⟨l++[⟨oi,u,decide (y0=1),y1,y2,y3⟩],none,by rw[jA];rfl,by rw[jA];exact hlt,Hok7.out,by rw[jA];exact Hsz7.out,by rw[jA];exact HT3.out,(FY7 hS3).swap⟩
      case measure=>simp[intOf];omega
    ·have h8:=H7.out;rw[if_neg (fun h=>hc1 h.1)]at h8;subst h8;have hd2:decide (1<y0)=true:=by simp;omega
     go_wp2_with(first|go_big_skip|refine zl1 hS ?_|(fail_if_success (have:=m3));go_at_call 97;refine(Ae7 E1.out Hok2.out W _ _ _ (by(focus((repeat(first|exact ht|apply Take.tail));done))) (j7 Hv2.out hS)).mono ?_;clear hS;have m3:Nat:=0;rintro e w ⟨rfl,hS⟩|go_at_call 158;refine(Ar7 E2.out K1.out W _ _ _ (by(focus((repeat(first|exact ht|apply Take.tail));done))) hS).mono ?_;clear hS;rintro e w ⟨v,rfl,hS⟩|(with_reducible apply Af7 (ns:=x) hS);rfl;rfl;rfl;exact Tryz.underlying63;exact Tryz.underlying5;exact Tryz.underlying9;exact g8;rw[Hu.out];refine frS ?_|(with_reducible apply Ao7 hS);rfl;rfl;exact zsS;clear hS;intro bO w hS;refine frS ?_|refine zsN hS ?_;clear hS;intro w hS|refine zs1 hS ?_;clear hS;intro w hS|(have:=m3);(fail_if_success (have:=m4));go_at_call 97;refine(Ae7 E3.out K2.out W _ _ _ (by(focus((repeat(first|exact ht|apply Take.tail));done))) (hS.s (rdX D rb _::blk bO _ _::i9 _ l::blk xb _ _::hdR _ _::R))).mono ?_;clear hS;have m4:Nat:=0;rintro e w ⟨rfl,hS⟩|(have:=m4);(fail_if_success (have:=m5));go_at_call 97;refine(Ae7 E4.out K3.out W _ _ _ (by(focus((repeat(first|exact ht|apply Take.tail));done))) (hS.s (rdX D rb _::blk bO _ _::i9 _ l::blk xb _ _::hdR _ _::R))).mono ?_;clear hS;have m5:Nat:=0;rintro e w ⟨rfl,hS⟩|(have:=m5);(fail_if_success (have:=m6));go_at_call 97;refine(Ae7 E5.out K4.out W _ _ _ (by(focus((repeat(first|exact ht|apply Take.tail));done))) (hS.s (rdX D rb _::blk bO _ _::i9 _ l::blk xb _ _::hdR _ _::R))).mono ?_;clear hS;have m6:Nat:=0;rintro e w ⟨rfl,hS⟩|(have:=m6);(fail_if_success (have:=m7));go_at_call 97;refine(Ae7 E6.out K5.out W _ _ _ (by(focus((repeat(first|exact ht|apply Take.tail));done))) (hS.s (rdX D rb _::blk bO _ _::i9 _ l::blk xb _ _::hdR _ _::R))).mono ?_;clear hS;have m7:Nat:=0;rintro e w ⟨rfl,hS⟩|go_at_call 99;refine(D7 D rb _ W _ _ (hS.s (rdX D rb s6::blk bO _ _::i9 _ l::blk xb _ _::hdR _ _::R))).mono ?_;clear hS;rintro e w ⟨rfl,hS⟩|refine zlN hS ?_|refine zbs hS ?_;clear hS;intro bS w hS|(with_reducible apply Aj7 hS);rfl;rfl;rfl;rfl;exact esS;exact rsS;rfl;decide;exact g8;exact Src.mk d7.whole;(focus(try rfl));rfl;(focus(unfold maxLen;omega));(focus(omega));clear hS;intro v w hS;refine frS ?_)
     have hS3:=hS.s (row v 6 166 (l.length+1) _::rdX D rb none::blk xb _ _::hdR _ _::R);go_roundw
     case rel=>exact⟨l++[⟨oi,u,decide (y0=1),y1,y2,y3⟩],none,by rw[jA];rfl,by rw[jA];exact hlt,Hok7.out,by rw[jA];exact Hsz7.out,by rw[jA];exact HT3.out,(FY7 hS3).swap⟩
     case measure=>simp[intOf];omega
end Go.Proofs.YtlmhakmoioogaaaGreat
end
section
namespace Go.Sl
open Go.RowKit
section
variable{P:Program}{ops:Array Oper}{Q:Exit->Act->World->Prop}{a:Act}{w:World}{W:World}{L R:List HP}{rest:List Oper}{o:Oper}
theorem FK7{src dst e:TypeId}{x:Operand}{p:Option Addr}{c:Nat}(ho:o.op=.convert src dst x)(hg:Region.wanted o (yielded ops a.tmps)=true)(hx:a.eval x=.slice p 0 c)
  (hp:p=none->c=0) (hs:P.underlying src=some (.slice e)) (he:P.underlying e=some (.int .u8)) (hd:P.underlying dst=some .string)
  (h:wpList P ops Q rest (a.put o.dst (.string (x6 []))) w):wpList P ops Q (o::rest) a w:=by
 refine Ak7 hg (v:=.string (x6 [])) (w':=w) ?_ h
 cases p with
 | none=>
  obtain rfl:=hp rfl;unfold execOp;simp[ho,hx,run_convert_bytes_string w src dst e none 0 0 hs he hd,Conv.bytesToString,x6,Sem.run_pure]
 | some p=>
  have h1:(loadCells p 0).run P w=.ok (([]:List Int).map (Value.int .u8)).toArray w:=by simp[loadCells,loadCellsFrom]
  have h2:=run_bytesToString (P:=P) w p 0 c [] h1;unfold execOp;simp[ho,hx,run_convert_bytes_string w src dst e (some p) 0 c hs he hd,h2,x6]
theorem JV7{src dst e:TypeId}{x:Operand}{b off n c:Nat}{ns:List Int}(hS:St W L w)(ho:o.op=.convert src dst x)(hg:Region.wanted o (yielded ops a.tmps)=true)(hx:a.eval x=.slice (some ⟨b,off,none⟩) n c)
  (hs:P.underlying src=some (.slice e)) (he:P.underlying e=some (.int .u8)) (hd:P.underlying dst=some .string) (hc:d7 L b off (ns.map (Value.int .u8))) (hn:n=ns.length)
  (h:wpList P ops Q rest (a.put o.dst (.string (x6 ns))) w):wpList P ops Q (o::rest) a w:=by
 refine Ak7 hg (v:=.string (x6 ns)) (w':=w) ?_ h;have h1:=run_loadCells_list (P:=P) w ⟨b,off,none⟩ (ns.map (Value.int .u8)) (fun j v hj=>by rw[Addr.add_lit];exact hc j v hj W w hS);rw[jM,<-hn]at h1;have h2:=run_bytesToString (P:=P) w ⟨b,off,none⟩ n c ns h1;unfold execOp;simp[ho,hx,run_convert_bytes_string w src dst e (some ⟨b,off,none⟩) n c hs he hd,h2,x6]
end
end Go.Sl
namespace Go.Proofs.YtlmhakmoioogaaaGreat
open Go.RowKit Go.Sl
section
variable{D:HP}{rb bI bS bB bO c:Nat}{s:RS}{W w:World}{R R':List HP}
theorem KW7(h:RdOk s)(ht:Take R D R')(hS:St W (rdG D rb s::blk bI [.I 0,.I 0,.I 0,.I 0] 29::blk bS [.P bI,.pointer (some ⟨bI,1,none⟩),.pointer (some ⟨bI,2,none⟩),.pointer (some ⟨bI,3,none⟩)] 262::R) w):
  Calls Tryz.prog 196 #[.P rb,.S bS 4 c] w fun e w'=>e=.returned (.tuple #[])/\St W (rdG D rb (K8 s)::blk bI [.I (B8 s).x0,.I (B8 s).x1,.I (B8 s).x2,.I (B8 s).x3] 29::R) w':=by
 refine(Mh7 D rb s h [(bI,0),(bI,1),(bI,2),(bI,3)] (by simp) bS c (fun xs=>blk bI [.I (xs.getD 0 0),.I (xs.getD 1 0),.I (xs.getD 2 0),.I (xs.getD 3 0)] 29::blk bS [.P bI,.pointer (some ⟨bI,1,none⟩),.pointer (some ⟨bI,2,none⟩),.pointer (some ⟨bI,3,none⟩)] 262::R) ⟨?_,fun xs=>⟨_,.tail (.tail ht)⟩⟩ ?_ W w hS).mono ?_
 ·intro xs x hx
  match xs,hx with
  | [],_=>exact⟨_,_,by simp,by simp,.head⟩
  | [_],_=>exact⟨_,_,by simp,by simp,.head⟩
  | [_,_],_=>exact⟨_,_,by simp,by simp,.head⟩
  | [_,_,_],_=>exact⟨_,_,by simp,by simp,.head⟩
  | _::_::_::_::_,hx=>simp at hx;omega
 ·intro xs i hi
  match i,hi with
  | 0,_=>exact .there (.here rfl)
  | 1,_=>exact .there (.here rfl)
  | 2,_=>exact .there (.here rfl)
  | 3,_=>exact .there (.here rfl)
  | i+4,hi=>simp at hi;omega
 ·rintro e w' ⟨rfl,hS⟩;have hS2:St W (rdG D rb (K8 s)::blk bI [.I (B8 s).x0,.I (B8 s).x1,.I (B8 s).x2,.I (B8 s).x3] 29::blk bS _ _::R) w':=hS;exact⟨rfl,hS2.s _⟩
theorem gD4(h:RdOk s)(ht:Take R D R')(hS:St W (rdG D rb s::blk bO [.I 0,.string ⟨#[]⟩,.bool false,.I 0,.I 0,.I 0] 166::blk bS [.P bO] 262::R) w):
  Calls Tryz.prog 196 #[.P rb,.S bS 1 c] w fun e w'=>e=.returned (.tuple #[])/\St W (rdG D rb (d8 s).2::blk bO [.I (d8 s).1,.string ⟨#[]⟩,.bool false,.I 0,.I 0,.I 0] 166::R) w':=by
 refine(Mh7 D rb s h [(bO,0)] (by simp) bS c (fun xs=>blk bO [.I (xs.getD 0 0),.string ⟨#[]⟩,.bool false,.I 0,.I 0,.I 0] 166::blk bS [.P bO] 262::R) ⟨?_,fun xs=>⟨_,.tail (.tail ht)⟩⟩ ?_ W w hS).mono ?_
 ·intro xs x hx
  match xs,hx with
  | [],_=>exact⟨_,_,by simp,by simp,.head⟩
  | _::_,hx=>simp at hx
 ·intro xs i hi
  match i,hi with
  | 0,_=>exact .there (.here rfl)
  | i+1,hi=>simp at hi
 ·rintro e w' ⟨rfl,hS⟩;have hS2:St W (rdG D rb (d8 s).2::blk bO [.I (d8 s).1,.string ⟨#[]⟩,.bool false,.I 0,.I 0,.I 0] 166::blk bS _ _::R) w':=hS;exact⟨rfl,hS2.s _⟩
theorem TD7{oi:Int}{ou:ByteArray}(h:RdOk s)(ht:Take R D R')(hS:St W (rdG D rb s::blk bB [.I 0] 3::blk bO [.I oi,.string ou,.bool false,.I 0,.I 0,.I 0] 166::blk bS [.P bB,.pointer (some ⟨bO,3,none⟩),.pointer (some ⟨bO,4,none⟩),.pointer (some ⟨bO,5,none⟩)] 262::R) w):
  Calls Tryz.prog 196 #[.P rb,.S bS 4 c] w fun e w'=>e=.returned (.tuple #[])/\St W (rdG D rb (K8 s)::blk bB [.I (B8 s).x0] 3::blk bO [.I oi,.string ou,.bool false,.I (B8 s).x1,.I (B8 s).x2,.I (B8 s).x3] 166::R) w':=by
 refine(Mh7 D rb s h [(bB,0),(bO,3),(bO,4),(bO,5)] (by simp) bS c (fun xs=>blk bB [.I (xs.getD 0 0)] 3::blk bO [.I oi,.string ou,.bool false,.I (xs.getD 1 0),.I (xs.getD 2 0),.I (xs.getD 3 0)] 166::blk bS [.P bB,.pointer (some ⟨bO,3,none⟩),.pointer (some ⟨bO,4,none⟩),.pointer (some ⟨bO,5,none⟩)] 262::R) ⟨?_,fun xs=>⟨_,.tail (.tail (.tail ht))⟩⟩ ?_ W w hS).mono ?_
 ·intro xs x hx
  match xs,hx with
  | [],_=>exact⟨_,_,by simp,by simp,.head⟩
  | [_],_=>exact⟨_,_,by simp,by simp,.tail .head⟩
  | [_,_],_=>exact⟨_,_,by simp,by simp,.tail .head⟩
  | [_,_,_],_=>exact⟨_,_,by simp,by simp,.tail .head⟩
  | _::_::_::_::_,hx=>simp at hx;omega
 ·intro xs i hi
  match i,hi with
  | 0,_=>exact .there (.there (.here rfl))
  | 1,_=>exact .there (.there (.here rfl))
  | 2,_=>exact .there (.there (.here rfl))
  | 3,_=>exact .there (.there (.here rfl))
  | i+4,hi=>simp at hi;omega
 ·rintro e w' ⟨rfl,hS⟩;have hS2:St W (rdG D rb (K8 s)::blk bB [.I (B8 s).x0] 3::blk bO [.I oi,.string ou,.bool false,.I (B8 s).x1,.I (B8 s).x2,.I (B8 s).x3] 166::blk bS _ _::R) w':=hS;exact⟨rfl,hS2.s _⟩
end
theorem Pc7{x y:List Int}(hx:ByB x)(hy:ByB y):((x6 x).toList==(x6 y).toList)=decide (x=y):=by
 by_cases h:x=y
 ·subst h;rw[CZ7.2 rfl];simp
 ·rw[show decide (x=y)=false by simpa using h];rw[<-Bool.not_eq_true,CZ7];intro e;exact h (by rw[<-BU7 hx,<-BU7 hy,e])
theorem Fv7(D:HP)(a:Option Addr)(c:Nat)(b xs:List Int)(v:Value)(hat:At D a c b){r:Bool}(hr:((x6 xs).toList==(x6 b).toList)=r)(W w:World)(R R' R2:List HP)(ht:Take R D R')(hx:Take R (byR v xs) R2)(hS:St W R w):
  Calls Tryz.prog 93 #[v,.slice a b.length c] w fun e w'=>e=.returned (.bool r)/\St W R w':=by
 subst hr
 rcases hat with ⟨rfl,rfl,rfl⟩|⟨rfl,p,rfl⟩|⟨g,off,rfl,hD⟩
 ·go_enter Tryz.func93,Tryz.ntmps93;go_wp2_with(first|(with_reducible apply FK7);rfl;rfl;rfl;(first|(intro _;rfl)|(intro h;cases h));exact Tryz.underlying63;exact Tryz.underlying5;exact Tryz.underlying9;refine frS ?_|(with_reducible apply Af7 (ns:=xs) hS);rfl;rfl;rfl;exact Tryz.underlying63;exact Tryz.underlying5;exact Tryz.underlying9;exact hx;refine frS ?_);go_ret;exact⟨rfl,hS⟩
 ·go_enter Tryz.func93,Tryz.ntmps93;go_wp2_with(first|(with_reducible apply FK7);rfl;rfl;rfl;(first|(intro _;rfl)|(intro h;cases h));exact Tryz.underlying63;exact Tryz.underlying5;exact Tryz.underlying9;refine frS ?_|(with_reducible apply Af7 (ns:=xs) hS);rfl;rfl;rfl;exact Tryz.underlying63;exact Tryz.underlying5;exact Tryz.underlying9;exact hx;refine frS ?_);go_ret;exact⟨rfl,hS⟩
 ·go_enter Tryz.func93,Tryz.ntmps93;go_wp2_with(first|(with_reducible apply JV7 (ns:=b) hS);rfl;rfl;rfl;exact Tryz.underlying63;exact Tryz.underlying5;exact Tryz.underlying9;exact hD _ _ ht;exact rfl;refine frS ?_|(with_reducible apply Af7 (ns:=xs) hS);rfl;rfl;rfl;exact Tryz.underlying63;exact Tryz.underlying5;exact Tryz.underlying9;exact hx;refine frS ?_);go_ret;exact⟨rfl,hS⟩
end Go.Proofs.YtlmhakmoioogaaaGreat
end
