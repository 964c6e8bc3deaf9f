/-
  The document's Decode of an economy.
-/
import Derived.Test.YtlmhakmoioogaaaGreatEconDcM1
import Derived.Test.YtlmhakmoioogaaaGreatEconDcM4
import Derived.Test.YtlmhakmoioogaaaGreatEconDcM19
import Derived.Test.YtlmhakmoioogaaaGreatEconDcM28
import Derived.Test.YtlmhakmoioogaaaGreatEconDcM36
import Derived.Test.YtlmhakmoioogaaaGreatEconDcM37
import Derived.WalkKit
import Derived.ProofKit
import Derived.OpenShut
import Derived.ChangeSame
import Derived.ReadAgain
set_option maxHeartbeats 16000000
set_option maxRecDepth 100000
set_option linter.unusedSimpArgs false
set_option linter.unusedVariables false
section
namespace Go.Proofs.YtlmhakmoioogaaaGreat
open Go.RowKit Go.Sl
theorem DV7{xb rb:Nat}{D:HP}(W w:World)(R R':List HP)(ht:Take R D R')(hS:St W (rdX D rb none::R) w):
  Calls Tryz.prog 95 #[.P xb,.P rb] w fun x w'=>x=.returned (.tuple #[])/\St W (rdX D rb none::R) w':=by
 go_enter Tryz.func95,Tryz.ntmps95;go_wp2_with(first|go_big_skip|go_at_call 97;refine(Ae7 (jH Ax7).out AL7 W _ _ _ ht hS).mono ?_;clear hS;rintro x w ⟨rfl,hS⟩)
 go_loopw [5] (fun v wr=>v=.I 0/\St W (rdX D rb none::R) wr) (fun _ _=>0)
 case atStart=>exact⟨rfl,hS⟩
 case round=>
  clear hS;obtain⟨rfl,hS⟩:=hrel;go_wp2_with(first|go_big_skip);go_end0;exact⟨rfl,hS⟩
theorem DW7{xb rb:Nat}{D:HP}(W w:World)(R R':List HP)(ht:Take R D R')(hS:St W (rdX D rb none::R) w):
  Calls Tryz.prog 96 #[.P xb,.P rb] w fun x w'=>x=.returned (.tuple #[])/\St W (rdX D rb none::R) w':=by
 go_enter Tryz.func96,Tryz.ntmps96;go_wp2_with(first|go_big_skip|go_at_call 97;refine(Ae7 (jH Ax7).out AL7 W _ _ _ ht hS).mono ?_;clear hS;rintro x w ⟨rfl,hS⟩)
 go_loopw [5] (fun v wr=>v=.I 0/\St W (rdX D rb none::R) wr) (fun _ _=>0)
 case atStart=>exact⟨rfl,hS⟩
 case round=>
  clear hS;obtain⟨rfl,hS⟩:=hrel;go_wp2_with(first|go_big_skip);go_end0;exact⟨rfl,hS⟩
theorem Mv7(v:Value)(l:List ((Int×Int)×Unit))(x:(Int×Int)×Unit):xmP v (l++[x])=row v 2 140 (l.length+1) (l.flatMap mkC++mkC x):=by unfold xmP;rw[jA,List.flatMap_append];simp
def NoX(b:List Int):Prop:=∀X r,aT4 b X r->¬bk4 X
theorem gE4{b:List Int}(h:∀b1 l r,d8 (some b)=((l.length:Int),some b1)->D5 H9 b1 l r->¬Asc ltB l):NoX b:=by rintro X r ⟨b1,b2,_,_,_,_,_,h1,h2,_⟩ ha;exact h _ _ _ h1 h2 ha.1
theorem gF4{b b1 b2:List Int}{lv:List (ByteArray×Vs)}(k1:d8 (some b)=((lv.length:Int),some b1))(k2:D5 H9 b1 lv b2)(h:∀b1 l r,d8 (some b2)=((l.length:Int),some b1)->D5 O7 b1 l r->¬Asc ltI l):NoX b:=by rintro X r ⟨c1,c2,c3,c4,_,_,_,h1,h2,h3,h4,_⟩ ha;rw[k1]at h1;simp only[Prod.mk.injEq,Option.some.injEq]at h1;obtain⟨e1,rfl⟩:=h1;obtain⟨e2,rfl⟩:=AY7 BE7 k2 h2 (by omega);exact h _ _ _ h3 h4 ha.2.1
theorem gG4{b b1 b2 b3 b4:List Int}{lv:List (ByteArray×Vs)}{ls:List (Int×(Int×Rpl))}(k1:d8 (some b)=((lv.length:Int),some b1))(k2:D5 H9 b1 lv b2)(k3:d8 (some b2)=((ls.length:Int),some b3))(k4:D5 O7 b3 ls b4)(h:∀b1 l r,d8 (some b4)=((l.length:Int),some b1)->D5 T5 b1 l r->¬Asc ltW l):NoX b:=by rintro X r ⟨c1,c2,c3,c4,c5,c6,_,h1,h2,h3,h4,h5,h6,_⟩ ha;rw[k1]at h1;simp only[Prod.mk.injEq,Option.some.injEq]at h1;obtain⟨e1,rfl⟩:=h1;obtain⟨_,rfl⟩:=AY7 BE7 k2 h2 (by omega);rw[k3]at h3;simp only[Prod.mk.injEq,Option.some.injEq]at h3;obtain⟨e3,rfl⟩:=h3;obtain⟨_,rfl⟩:=AY7 Cr7 k4 h4 (by omega);exact h _ _ _ h5 h6 ha.2.2.1
theorem fZ4{b b1 b2 b3 b4 b5 b6:List Int}{lv:List (ByteArray×Vs)}{ls:List (Int×(Int×Rpl))}{lt:List ((Int×Int)×Tns)}(k1:d8 (some b)=((lv.length:Int),some b1))(k2:D5 H9 b1 lv b2)(k3:d8 (some b2)=((ls.length:Int),some b3))(k4:D5 O7 b3 ls b4)(k5:d8 (some b4)=((lt.length:Int),some b5))(k6:D5 T5 b5 lt b6)(h:∀b1 l r,d8 (some b6)=((l.length:Int),some b1)->D5 aF4 b1 l r->¬Asc ltW l):NoX b:=by rintro X r ⟨c1,c2,c3,c4,c5,c6,c7,h1,h2,h3,h4,h5,h6,h7,h8⟩ ha;rw[k1]at h1;simp only[Prod.mk.injEq,Option.some.injEq]at h1;obtain⟨e1,rfl⟩:=h1;obtain⟨_,rfl⟩:=AY7 BE7 k2 h2 (by omega);rw[k3]at h3;simp only[Prod.mk.injEq,Option.some.injEq]at h3;obtain⟨e3,rfl⟩:=h3;obtain⟨_,rfl⟩:=AY7 Cr7 k4 h4 (by omega);rw[k5]at h5;simp only[Prod.mk.injEq,Option.some.injEq]at h5;obtain⟨e5,rfl⟩:=h5;obtain⟨_,rfl⟩:=AY7 DE7 k6 h6 (by omega);exact h _ _ _ h7 h8 ha.2.2.2
def RaX(W:World)(D:HP)(xb rb:Nat)(b1:List Int)(n:Nat)(d:Ec)(R:List HP)(v:Value)(w:World):Prop:=
 ∃l m,v=.I (l.length:Nat)/\l.length<=n/\D5 aF4 b1 l m/\Asc ltW l/\RdN (some m) 9000/\St W (rdX D rb (some m)::L6 xb ⟨d.vs,d.ss,d.ts,l⟩::D::R) w
abbrev tB37a:List Nat:=[0,0,2,6,14,0,32,126,255,511,1023]
theorem Ka7(D:HP)(a:Option Addr)(c:Nat)(b:List Int)(hat:At D a c b)(hcap:b.length<=c/\c<=9223372036854775807)(hb:ByB b)(hN:b.length<=9000)(W w:World)(R:List HP)(hS:St W (D::R) w):
  Calls Tryz.prog 35 #[.slice a b.length c] w fun x w'=>((∀X,J5 b X->¬bk4 X)/\x=.returned (.tuple #[.pointer none,.I 3])/\St W (D::R) w') \/
   (∃X,J5 b X/\bk4 X/\∃xb,x=.returned (.tuple #[.P xb,.I 0])/\St W (L6 xb X::D::R) w'):=by
 have Hv0:RowKit.Hid (rdV D (.slice a b.length c) false (some b)):=jH ⟨rfl,a,c,rfl,hcap.1,hcap.2,hat⟩;have Hb0:=jH (show RdN (some b) 9000 from fun l hl=>by cases hl;exact⟨hb,hN⟩);clear hat hcap hb hN;go_enter Tryz.func35,Tryz.ntmps35;go_wp2_with(first|go_big_skip|(fail_if_success (have:=x1));(refine zbx hS ?_;clear hS;have x1:Nat:=0;intro rb w hS)|(have:=x1);(fail_if_success (have:=x2));(refine zbx hS ?_;clear hS;have x2:Nat:=0;intro xb w hS)|go_at_call 94;have hS1:=gz4 (hS.s (xeB xb (.slice none 0 0) (.slice none 0 0) (.slice none 0 0) (.slice none 0 0)::blk rb _ _::D::R));clear hS;refine(TF7 (s:=some b) (d:=ec0) rfl Hb0.out W _ _ _ .head (j7 Hv0.out (hS1.s (blk rb _ _::L6 xb ec0::D::R)))).mono ?_;clear hS1;rintro x w ⟨rfl,hst⟩;have Hst:=jH hst;clear hst)
 rcases Hst.out with ⟨c1,lv,c2,q1,q2,q3,q4,hS⟩|⟨q1,hS⟩
 case inr=>
  have Hno:=jH (gE4 q1);clear Hst q1;go_wp2_with(first|go_big_skip|go_at_call 95;refine(DV7 W _ _ _ .head hS).mono ?_;clear hS;rintro x w ⟨rfl,hS⟩|go_at_call 96;refine(DW7 W _ _ _ .head hS).mono ?_;clear hS;rintro x w ⟨rfl,hS⟩|go_at_call 97;refine(Ae7 (jH Ax7).out AL7 W _ _ _ .head hS).mono ?_;clear hS;rintro x w ⟨rfl,hS⟩)
  go_loopw [7] (fun v wr=>v=.I 0/\St W (rdX D rb none::D::R) wr) (fun _ _=>0)
  case atStart=>exact⟨rfl,hS⟩
  case round=>
   clear hS;obtain⟨rfl,hS⟩:=hrel;go_wp2_with(first|go_big_skip|go_at_call 100;refine(AT7 D rb none W _ _ hS).mono ?_;clear hS;rintro ex w ⟨rfl,hS⟩);go_ret2;exact .inl ⟨fun X h=>Hno.out X [] h,rfl,hS.drop⟩
 clear Hst;have Q1:=jH q1;have Q2:=jH q2;have Qa:=jH q3;have Hc2:=jH q4;clear q1 q2 q3 q4;go_wp2_with(first|go_big_skip|go_at_call 95;refine(Ne7 (s:=some c2) (d:=⟨lv,[],[],[]⟩) rfl Hc2.out W _ _ _ .head hS).mono ?_;clear hS;rintro x w ⟨rfl,hst⟩;have Hst:=jH hst;clear hst)
 rcases Hst.out with ⟨c3,ls,c4,q1,q2,q3,q4,hS⟩|⟨q1,hS⟩
 case inr=>
  have Hno:=jH (gF4 Q1.out Q2.out q1);clear Hst q1;go_wp2_with(first|go_big_skip|go_at_call 95;refine(DV7 W _ _ _ .head hS).mono ?_;clear hS;rintro x w ⟨rfl,hS⟩|go_at_call 96;refine(DW7 W _ _ _ .head hS).mono ?_;clear hS;rintro x w ⟨rfl,hS⟩|go_at_call 97;refine(Ae7 (jH Ax7).out AL7 W _ _ _ .head hS).mono ?_;clear hS;rintro x w ⟨rfl,hS⟩)
  go_loopw [7] (fun v wr=>v=.I 0/\St W (rdX D rb none::D::R) wr) (fun _ _=>0)
  case atStart=>exact⟨rfl,hS⟩
  case round=>
   clear hS;obtain⟨rfl,hS⟩:=hrel;go_wp2_with(first|go_big_skip|go_at_call 100;refine(AT7 D rb none W _ _ hS).mono ?_;clear hS;rintro ex w ⟨rfl,hS⟩);go_ret2;exact .inl ⟨fun X h=>Hno.out X [] h,rfl,hS.drop⟩
 clear Hst;have Q3:=jH q1;have Q4:=jH q2;have Qb:=jH q3;have Hc4:=jH q4;clear q1 q2 q3 q4;go_wp2_with(first|go_big_skip|go_at_call 96;refine(La7 (s:=some c4) (d:=⟨lv,ls,[],[]⟩) rfl Hc4.out W _ _ hS).mono ?_;clear hS;rintro x w ⟨rfl,hst⟩;have Hst:=jH hst;clear hst)
 rcases Hst.out with ⟨c5,lt,c6,q1,q2,q3,q4,hS⟩|⟨q1,hS⟩
 case inr=>
  have Hno:=jH (gG4 Q1.out Q2.out Q3.out Q4.out q1);clear Hst q1;go_wp2_with(first|go_big_skip|go_at_call 95;refine(DV7 W _ _ _ .head hS).mono ?_;clear hS;rintro x w ⟨rfl,hS⟩|go_at_call 96;refine(DW7 W _ _ _ .head hS).mono ?_;clear hS;rintro x w ⟨rfl,hS⟩|go_at_call 97;refine(Ae7 (jH Ax7).out AL7 W _ _ _ .head hS).mono ?_;clear hS;rintro x w ⟨rfl,hS⟩)
  go_loopw [7] (fun v wr=>v=.I 0/\St W (rdX D rb none::D::R) wr) (fun _ _=>0)
  case atStart=>exact⟨rfl,hS⟩
  case round=>
   clear hS;obtain⟨rfl,hS⟩:=hrel;go_wp2_with(first|go_big_skip|go_at_call 100;refine(AT7 D rb none W _ _ hS).mono ?_;clear hS;rintro ex w ⟨rfl,hS⟩);go_ret2;exact .inl ⟨fun X h=>Hno.out X [] h,rfl,hS.drop⟩
 clear Hst;have Q5:=jH q1;have Q6:=jH q2;have Qc:=jH q3;have Hc6:=jH q4;clear q1 q2 q3 q4;obtain⟨⟨n,s1⟩,h1⟩:∃y,d8 (some c6)=y:=⟨_,rfl⟩
 have hr:=At7 (some c6);have hn1:RdN s1 9000:=by have:=Hc6.out.num;rw[h1]at this;exact this
 have h0:s1=none->n=0:=fun h2=>by have h3:=Bv7 (s:=some c6) (by rw[h1];exact h2);rw[h1]at h3;exact h3
 rw[h1]at hr;simp only at hr;obtain⟨n,rfl⟩:∃k:Nat,n=k:=⟨n.toNat,by omega⟩
 have H1:=jH h1;have Hn1:=jH hn1
 cases s1 with
 | none=>
  have hn0:n=0:=by have:=h0 rfl;omega
  subst hn0;have Hno:=jH (fZ4 Q1.out Q2.out Q3.out Q4.out Q5.out Q6.out (IC7 (lt:=ltW) (S:=aF4) h1));clear h1 hn1 hr h0;have hS9:=hS.s (rdX D rb (some c6)::D::R);clear hS;have hS:=hS9;clear hS9;go_wp2_with(first|go_big_skip|go_at_call 97;refine(Ae7 H1.out (Hc6.out.ok (by decide)) W _ _ _ (by exact g8) hS).mono ?_;clear hS;rintro x w ⟨rfl,hS⟩);go_wp2_with(first|go_big_skip|go_at_call 95;refine(DV7 W _ _ _ .head hS).mono ?_;clear hS;rintro x w ⟨rfl,hS⟩|go_at_call 96;refine(DW7 W _ _ _ .head hS).mono ?_;clear hS;rintro x w ⟨rfl,hS⟩|go_at_call 97;refine(Ae7 (jH Ax7).out AL7 W _ _ _ .head hS).mono ?_;clear hS;rintro x w ⟨rfl,hS⟩)
  go_loopw [7] (fun v wr=>v=.I 0/\St W (rdX D rb none::D::R) wr) (fun _ _=>0)
  case atStart=>exact⟨rfl,hS⟩
  case round=>
   clear hS;obtain⟨rfl,hS⟩:=hrel;go_wp2_with(first|go_big_skip|go_at_call 100;refine(AT7 D rb none W _ _ hS).mono ?_;clear hS;rintro ex w ⟨rfl,hS⟩);go_ret2;exact .inl ⟨fun X h=>Hno.out X [] h,rfl,hS.drop⟩
 | some b7=>
  clear h1 hn1 h0;go_wp2_with(first|go_big_skip|go_at_call 97;refine(Ae7 H1.out (Hc6.out.ok (by decide)) W _ _ _ (by exact g8) hS).mono ?_;clear hS;rintro x w ⟨rfl,hS⟩)
  go_loopw [7] (fun v wr=>RaX W D xb rb b7 n ⟨lv,ls,lt,[]⟩ R v wr) (fun v _=>n-(intOf v).toNat)
  case atStart=>exact⟨[],b7,rfl,Nat.zero_le _,rfl,List.Pairwise.nil,Hn1.out,hS⟩
  case round=>
   clear hS;obtain⟨l,m,rfl,hln,hm,ha,hrn,hS⟩:=hrel;by_cases hend:l.length=n
   ·have d1:decide (l.length<n)=false:=by simp;omega
    have Hp:=jH (show aT4 b ⟨lv,ls,lt,l⟩ m from⟨c1,c2,c3,c4,c5,c6,b7,Q1.out,Q2.out,Q3.out,Q4.out,Q5.out,Q6.out,hend▸H1.out,hm⟩);have Hasc:=jH (show bk4 ⟨lv,ls,lt,l⟩from⟨Qa.out,Qb.out,Qc.out,ha⟩);clear hm ha hrn hend
    cases he:ar4 (some m)with
    | false=>
     have Hno:=jH (show ∀X,J5 b X->¬bk4 X from fun X hX _=>by
      obtain⟨_,e2⟩:=Cj7 Hp.out hX;subst e2
      cases he)
     have Hend:=jH he;clear he;go_wp2_with(first|go_big_skip|go_at_call 100;refine(AT7 D rb _ W _ _ hS).mono ?_;clear hS;rw[Hend.out];rintro ex w ⟨rfl,hS⟩);go_ret2;exact .inl ⟨Hno.out,rfl,hS.drop.drop⟩
    | true=>
     have e2:m=[]:=Option.some.inj (Fu7 he);have Hyes:=jH (show J5 b ⟨lv,ls,lt,l⟩by unfold J5;rw[<-e2];exact Hp.out);have Hend:=jH he;clear he e2 Hp;go_wp2_with(first|go_big_skip|go_at_call 100;refine(AT7 D rb _ W _ _ hS).mono ?_;clear hS;rw[Hend.out];rintro ex w ⟨rfl,hS⟩);go_ret2;exact .inr ⟨⟨lv,ls,lt,l⟩,Hyes.out,Hasc.out,xb,rfl,hS.drop⟩
   ·have d1:decide (l.length<n)=true:=by simp;omega
    have hlt:l.length<n:=by omega
    obtain⟨v1,v2,v3,v4,C,hC,hS1⟩:=aV4 (hS.s (L6 xb ⟨lv,ls,lt,l⟩::rdX D rb (some m)::D::R));clear hS;have hS2:=hS1.s (xmP v4 l::rdX D rb (some m)::xeB xb v1 v2 v3 v4::D::xrP v1 C::w5 C::xsP v2 ls::xtP v3 lt::R);obtain⟨va,vc,rfl⟩:=hS2.rowVal;have hS3:=hS2.s (rdX D rb (some m)::xeB xb v1 v2 v3 (.slice va l.length vc)::xmP (.slice va l.length vc) l::D::xrP v1 C::w5 C::xsP v2 ls::xtP v3 lt::R);clear hS1 hS2;have hCb:l.length<=9000:=by obtain⟨e1,_⟩:=Cd7 EU7 (Hn1.out b7 rfl).1 hm;have e2:=AD7 Pp7 l;have e3:=congrArg List.length e1;have e4:=(Hn1.out b7 rfl).2;rw[jA]at e3;omega
    obtain⟨rv,re,hv,hS⟩:=B9 hS3;obtain⟨ra0,rc0,rfl,rfl,Hv⟩:=ad4 hv;clear hv hS3;obtain⟨⟨c,s1⟩,k1⟩:∃y,d8 (some m)=y:=⟨_,rfl⟩
    obtain⟨⟨q,s2⟩,k2⟩:∃y,d8 s1=y:=⟨_,rfl⟩
    have hs1:RdN s1 9000:=by have:=hrn.num;rw[k1]at this;exact this
    have hs2:RdN s2 9000:=by have:=hs1.num;rw[k2]at this;exact this
    have hst:∀(y:(Int×Int)×Unit) (r:List Int),aF4 m y r↔(s2=some r/\y.1=(c,q)/\whB y.1.1 y.1.2=true):=fun y r=>by unfold aF4;rw[k1];simp only;rw[k2]
    have hnb:=fun h3=>fZ4 Q1.out Q2.out Q3.out Q4.out Q5.out Q6.out (Gf7 (lt:=ltW) Hg7 H1.out hlt hm h3)
    have Hm:=jH (hrn.ok (by decide));have Hm1:=jH (hs1.ok (by decide));have Hs2:=jH hs2;have N1:=jH k1;have N2:=jH k2;have HC:=jH hC;have HM:=jH hm;have Ha:=jH ha;clear hm ha hrn hs1 hs2 k1 hln hend hC
    rcases JY7 c q with hw|hw
    ·have w1:decide (c<1)=false:=by have:=(Cq7 hw).1.1;simp only at this;simp;omega
     have w2:decide (1048576<c)=false:=by have:=(Cq7 hw).1.2;simp only at this;simp;omega
     have w3:decide (q<1)=false:=by have:=(Cq7 hw).2.1;simp only at this;simp;omega
     have w4:decide (1099511627776<q)=false:=by have:=(Cq7 hw).2.2;simp only at this;simp;omega
     obtain⟨r,e9⟩:∃r,s2=some r:=by
      cases s2 with
      | some r=>exact⟨r,rfl⟩
      | none=>
       have h3:=Bv7 (s:=s1) (by rw[k2]);rw[k2]at h3;have h4:=Ps7 hw;simp only at h3;omega
     have Hyes:=jH ((hst ((c,q),()) r).2 ⟨e9,rfl,hw⟩);have E9:=jH e9;by_cases hz:l.length=0
     ·have hl0:l=[]:=List.eq_nil_of_length_eq_zero hz;have hasc:Asc ltW (l++[((c,q),())]):=by rw[hl0];exact List.pairwise_singleton _ _
      have Hasc:=jH hasc;have d2:decide (0<l.length)=false:=decide_eq_false (by omega);clear hnb hst k2 hl0 hasc e9 hz hw;go_wp2_with(first|go_big_skip|(fail_if_success (have:=a4));(go_at_call 97;refine(Ae7 N1.out Hm.out W _ _ _ (by exact g8) (j7 Hv.out hS)).mono ?_;clear hS;have a4:Nat:=0;rintro ex w ⟨rfl,hS⟩)|(have:=a4);go_at_call 97;refine(Ae7 N2.out Hm1.out W _ _ _ (by exact g8) hS).mono ?_;clear hS;rintro ex w ⟨rfl,hS⟩|refine zal hS ?_;clear hS;intro bM w hS|refine zsN hS ?_;clear hS;intro w hS|refine zl1 hS ?_);refine Aa7 (by kernel_rfl) (by kernel_rfl) hS ?_
      repeat(first|go_big_quiet_skip|refine zq1 ?_|refine zqN ?_|(first|(apply Am7;rfl;rfl;rfl;decide +kernel;exact hlast (by exact g8);refine frS ?_)|(apply Am7;rfl;rfl;rfl;decide +kernel;exact hlast2 (by exact g8);refine frS ?_))|apply Ag7;rfl;intro w;apply Ad7;rfl;decide +kernel;(focus(simp only[fD,fI,fJ,Act.eval,fE,fF,fG,fH,fK];try rfl));intro w hS;exact Bl7 Hlt.out W w _ hS;refine frS ?_|refine zqn ?_|refine qR ?_)
      clear hS;intro w hS;go_wp2_with(first|go_big_skip);have hS8:=hS.s (blk bM [.I c,.I q] 140::xeB xb v1 v2 v3 (.slice va l.length vc)::xmP (.slice va l.length vc) l::rdX D rb s2::D::xrP v1 C::w5 C::xsP v2 ls::xtP v3 lt::R);clear hS;have hS:=hS8;clear hS8;refine rf2 tB37a (fun i=>i==6||i==7) [⟨some 6,none,fun nd=>R5 (nd 6) 1 1 [.I c,.I q] 140⟩,⟨some 7,none,fun nd=>row (nd 7) 2 140 (l.length+1) (l.flatMap mkC++[.I c,.I q])⟩,⟨some 10,none,fun nd=>xeB xb v1 v2 v3 (nd 7)⟩] [none,some 10,some 7] hS ?_;intro nd
      iterate 2 (refine cR ?_)
      (refine zcn ?_);refine cR ?_;refine zc1 ?_;refine zcN ?_;apply aI4;rfl;rfl;rfl;(focus(simp only[fD,fI,fJ,Act.eval,fE,fF,fG,fH,fK];try rfl));(exact esS);(exact rsS);rfl;rfl;rfl;rfl;(intro _;rfl);rfl;(intro _;rfl);(refine frS ?_);apply AJ7;rfl;rfl;rfl;(focus((conv=>lhs;whnf);try rfl));(focus((conv=>lhs;whnf);try rfl));(exact esS);(exact rsS);rfl;decide;rfl;(intro F w hS;exact Bp7 hS (by exact A9));(focus(try rfl));rfl;(focus(unfold maxLen;omega));(focus omega);(intro _;rfl);(intro _;rfl);(refine frS ?_);refine zcn ?_;refine cR ?_;(apply Fz7;rfl;rfl;rfl;rfl;(focus((conv=>lhs;whnf);try rfl));kernel_rfl;rfl;intro F w hS;exact hS.rowOne (by exact A9);(focus(simp));rfl;rfl;try(refine frS ?_));refine Ac7 ?_;clear hS;intro w hS;have hS2:St W [R5 (nd 6) _ _ _ _,row (nd 7) 2 _ _ _,xeB xb v1 v2 v3 (nd 7),blk bM _ _,sats _] w:=hS;clear hS;have hS:=hS2.unpack [_,_,_,_];clear hS2;simp only[jK,jN]at hS;generalize nd 7=v9 at *;have e9:=E9.out;clear E9;subst e9;go_wp2_with(first|go_big_skip);go_roundw
      case rel=>
       have h0:St W (row v9 2 140 (l.length+1) (l.flatMap mkC++mkC ((c,q),()))::_) w:=hS.drop;rw[<-Mv7]at h0;have h3:=N9 (d:=⟨lv,ls,lt,l++[((c,q),())]⟩) (D:=C) HC.out (h0.s (xeB xb v1 v2 v3 v9::xrP v1 C::w5 C::xsP v2 ls::xtP v3 lt::xmP v9 (l++[((c,q),())])::rdX D rb (some r)::D::R));exact⟨l++[((c,q),())],r,by rw[jA];rfl,by rw[jA];exact hlt,Bd7 HM.out Hyes.out,Hasc.out,Hs2.out,h3.swap⟩
      case measure=>simp[intOf];omega
     ·have hpos:0<l.length:=by omega
      obtain⟨⟨g,rfl⟩,_,_⟩:=St.rowAddr hS.drop.drop hpos;obtain⟨⟨⟨yc,yq⟩,yu⟩,hyk⟩:∃y,l[l.length-1]'(by omega)=y:=⟨_,rfl⟩
      have hlast:∀{K K':List HP},Take K (xmP (.S g l.length vc) l) K'->e8 K g ((l.length-1)*2) (.I yc):=fun hu=>d7.elemM (enc:=mkC) Is7 hu (by omega) 0 _ (by rw[hyk];rfl)
      have hlast2:∀{K K':List HP},Take K (xmP (.S g l.length vc) l) K'->e8 K g ((l.length-1)*2+1) (.I yq):=fun hu=>d7.elemM (enc:=mkC) Is7 hu (by omega) 1 _ (by rw[hyk];rfl)
      cases hb:ltW (yc,yq) (c,q)with
      | true=>
       have hasc:Asc ltW (l++[((c,q),())]):=Gd7 AP7 Ha.out (by rw[Ge7 hpos];simp only[Option.all_some];rw[hyk];exact hb);have Hasc:=jH hasc;have Hlt:=jH hb;clear hnb hst k2 hasc e9 hz hw hyk hb;go_wp2_with(first|go_big_skip|(fail_if_success (have:=a4));(go_at_call 97;refine(Ae7 N1.out Hm.out W _ _ _ (by exact g8) (j7 Hv.out hS)).mono ?_;clear hS;have a4:Nat:=0;rintro ex w ⟨rfl,hS⟩)|(have:=a4);go_at_call 97;refine(Ae7 N2.out Hm1.out W _ _ _ (by exact g8) hS).mono ?_;clear hS;rintro ex w ⟨rfl,hS⟩|refine zal hS ?_;clear hS;intro bM w hS|refine zsN hS ?_;clear hS;intro w hS|refine zl1 hS ?_);refine Aa7 (by kernel_rfl) (by kernel_rfl) hS ?_
       repeat(first|go_big_quiet_skip|refine zq1 ?_|refine zqN ?_|(first|(apply Am7;rfl;rfl;rfl;decide +kernel;exact hlast (by exact g8);refine frS ?_)|(apply Am7;rfl;rfl;rfl;decide +kernel;exact hlast2 (by exact g8);refine frS ?_))|apply Ag7;rfl;intro w;apply Ad7;rfl;decide +kernel;(focus(simp only[fD,fI,fJ,Act.eval,fE,fF,fG,fH,fK];try rfl));intro w hS;exact Bl7 Hlt.out W w _ hS;refine frS ?_|refine zqn ?_|refine qR ?_)
       clear hS;intro w hS;go_wp2_with(first|go_big_skip);have hS8:=hS.s (blk bM [.I c,.I q] 140::xeB xb v1 v2 v3 (.S g l.length vc)::xmP (.S g l.length vc) l::rdX D rb s2::D::xrP v1 C::w5 C::xsP v2 ls::xtP v3 lt::R);clear hS;have hS:=hS8;clear hS8;refine rf2 tB37a (fun i=>i==6||i==7) [⟨some 6,none,fun nd=>R5 (nd 6) 1 1 [.I c,.I q] 140⟩,⟨some 7,none,fun nd=>row (nd 7) 2 140 (l.length+1) (l.flatMap mkC++[.I c,.I q])⟩,⟨some 10,none,fun nd=>xeB xb v1 v2 v3 (nd 7)⟩] [none,some 10,some 7] hS ?_;intro nd
       iterate 2 (refine cR ?_)
       (refine zcn ?_);refine cR ?_;refine zc1 ?_;refine zcN ?_;apply aI4;rfl;rfl;rfl;(focus(simp only[fD,fI,fJ,Act.eval,fE,fF,fG,fH,fK];try rfl));(exact esS);(exact rsS);rfl;rfl;rfl;rfl;(intro _;rfl);rfl;(intro _;rfl);(refine frS ?_);apply AJ7;rfl;rfl;rfl;(focus((conv=>lhs;whnf);try rfl));(focus((conv=>lhs;whnf);try rfl));(exact esS);(exact rsS);rfl;decide;rfl;(intro F w hS;exact Bp7 hS (by exact A9));(focus(try rfl));rfl;(focus(unfold maxLen;omega));(focus omega);(intro _;rfl);(intro _;rfl);(refine frS ?_);refine zcn ?_;refine cR ?_;(apply Fz7;rfl;rfl;rfl;rfl;(focus((conv=>lhs;whnf);try rfl));kernel_rfl;rfl;intro F w hS;exact hS.rowOne (by exact A9);(focus(simp));rfl;rfl;try(refine frS ?_));refine Ac7 ?_;clear hS;intro w hS;have hS2:St W [R5 (nd 6) _ _ _ _,row (nd 7) 2 _ _ _,xeB xb v1 v2 v3 (nd 7),blk bM _ _,sats _] w:=hS;clear hS;have hS:=hS2.unpack [_,_,_,_];clear hS2;simp only[jK,jN]at hS;generalize nd 7=v9 at *;have e9:=E9.out;clear E9;subst e9;go_wp2_with(first|go_big_skip);go_roundw
       case rel=>
        have h0:St W (row v9 2 140 (l.length+1) (l.flatMap mkC++mkC ((c,q),()))::_) w:=hS.drop;rw[<-Mv7]at h0;have h3:=N9 (d:=⟨lv,ls,lt,l++[((c,q),())]⟩) (D:=C) HC.out (h0.s (xeB xb v1 v2 v3 v9::xrP v1 C::w5 C::xsP v2 ls::xtP v3 lt::xmP v9 (l++[((c,q),())])::rdX D rb (some r)::D::R));exact⟨l++[((c,q),())],r,by rw[jA];rfl,by rw[jA];exact hlt,Bd7 HM.out Hyes.out,Hasc.out,Hs2.out,h3.swap⟩
       case measure=>simp[intOf];omega
      | false=>
       have Hno:=jH (hnb fun y r hy=>⟨hpos,fun h0=>by obtain⟨_,e2,_⟩:=(hst y r).1 hy;rw[hyk,e2];exact hb⟩);have Hlt:=jH hb;clear hnb hst k2 e9 hz hw hyk hb;go_wp2_with(first|go_big_skip|(fail_if_success (have:=a4));(go_at_call 97;refine(Ae7 N1.out Hm.out W _ _ _ (by exact g8) (j7 Hv.out hS)).mono ?_;clear hS;have a4:Nat:=0;rintro ex w ⟨rfl,hS⟩)|(have:=a4);go_at_call 97;refine(Ae7 N2.out Hm1.out W _ _ _ (by exact g8) hS).mono ?_;clear hS;rintro ex w ⟨rfl,hS⟩|refine zal hS ?_;clear hS;intro bM w hS|refine zsN hS ?_;clear hS;intro w hS|refine zl1 hS ?_);refine Aa7 (by kernel_rfl) (by kernel_rfl) hS ?_
       repeat(first|go_big_quiet_skip|refine zq1 ?_|refine zqN ?_|(first|(apply Am7;rfl;rfl;rfl;decide +kernel;exact hlast (by exact g8);refine frS ?_)|(apply Am7;rfl;rfl;rfl;decide +kernel;exact hlast2 (by exact g8);refine frS ?_))|apply Ag7;rfl;intro w;apply Ad7;rfl;decide +kernel;(focus(simp only[fD,fI,fJ,Act.eval,fE,fF,fG,fH,fK];try rfl));intro w hS;exact Bl7 Hlt.out W w _ hS;refine frS ?_|refine zqn ?_|refine qR ?_)
       clear hS;intro w hS;go_wp2_with(first|go_big_skip|go_at_call 99;refine(D7 D rb s2 W _ _ (hS.s (rdX D rb s2::D::R))).mono ?_;clear hS;rintro x w ⟨rfl,hS⟩|go_at_call 100;refine(AT7 D rb none W _ _ hS).mono ?_;clear hS;rintro ex w ⟨rfl,hS⟩);go_ret2;exact .inl ⟨fun X h=>Hno.out X [] h,rfl,hS.drop⟩
    ·have Hno:=jH (hnb fun y r hy=>by
      obtain⟨_,e2,e4⟩:=(hst y r).1 hy;rw[e2]at e4;obtain⟨⟨q1,q2⟩,q3,q4⟩:=Cq7 e4;simp only at q1 q2 q3 q4;omega)
     clear hnb hst k2
     rcases hw with hw|⟨hw1,hw2⟩|⟨⟨hw1,hw2⟩,hw3⟩|⟨⟨hw1,hw2⟩,hw3,hw4⟩
     ·have w1:decide (c<1)=true:=by simpa using hw
      go_wp2_with(first|go_big_skip|(fail_if_success (have:=a4));(go_at_call 97;refine(Ae7 N1.out Hm.out W _ _ _ (by exact g8) (j7 Hv.out hS)).mono ?_;clear hS;have a4:Nat:=0;rintro ex w ⟨rfl,hS⟩)|(have:=a4);go_at_call 97;refine(Ae7 N2.out Hm1.out W _ _ _ (by exact g8) hS).mono ?_;clear hS;rintro ex w ⟨rfl,hS⟩|refine zal hS ?_;clear hS;intro bM w hS|refine zsN hS ?_;clear hS;intro w hS|refine zl1 hS ?_);refine Aa7 (by kernel_rfl) (by kernel_rfl) hS ?_
      repeat(first|go_big_quiet_skip|refine zq1 ?_|refine zqN ?_|(first|(apply Am7;rfl;rfl;rfl;decide +kernel;exact hlast (by exact g8);refine frS ?_)|(apply Am7;rfl;rfl;rfl;decide +kernel;exact hlast2 (by exact g8);refine frS ?_))|apply Ag7;rfl;intro w;apply Ad7;rfl;decide +kernel;(focus(simp only[fD,fI,fJ,Act.eval,fE,fF,fG,fH,fK];try rfl));intro w hS;exact Bl7 Hlt.out W w _ hS;refine frS ?_|refine zqn ?_|refine qR ?_)
      clear hS;intro w hS;go_wp2_with(first|go_big_skip|go_at_call 99;refine(D7 D rb s2 W _ _ (hS.s (rdX D rb s2::D::R))).mono ?_;clear hS;rintro x w ⟨rfl,hS⟩|go_at_call 100;refine(AT7 D rb none W _ _ hS).mono ?_;clear hS;rintro ex w ⟨rfl,hS⟩);go_ret2;exact .inl ⟨fun X h=>Hno.out X [] h,rfl,hS.drop⟩
     ·have w1:decide (c<1)=false:=by simp;omega
      have w2:decide (1048576<c)=true:=by simpa using hw2
      go_wp2_with(first|go_big_skip|(fail_if_success (have:=a4));(go_at_call 97;refine(Ae7 N1.out Hm.out W _ _ _ (by exact g8) (j7 Hv.out hS)).mono ?_;clear hS;have a4:Nat:=0;rintro ex w ⟨rfl,hS⟩)|(have:=a4);go_at_call 97;refine(Ae7 N2.out Hm1.out W _ _ _ (by exact g8) hS).mono ?_;clear hS;rintro ex w ⟨rfl,hS⟩|refine zal hS ?_;clear hS;intro bM w hS|refine zsN hS ?_;clear hS;intro w hS|refine zl1 hS ?_);refine Aa7 (by kernel_rfl) (by kernel_rfl) hS ?_
      repeat(first|go_big_quiet_skip|refine zq1 ?_|refine zqN ?_|(first|(apply Am7;rfl;rfl;rfl;decide +kernel;exact hlast (by exact g8);refine frS ?_)|(apply Am7;rfl;rfl;rfl;decide +kernel;exact hlast2 (by exact g8);refine frS ?_))|apply Ag7;rfl;intro w;apply Ad7;rfl;decide +kernel;(focus(simp only[fD,fI,fJ,Act.eval,fE,fF,fG,fH,fK];try rfl));intro w hS;exact Bl7 Hlt.out W w _ hS;refine frS ?_|refine zqn ?_|refine qR ?_)
      clear hS;intro w hS;go_wp2_with(first|go_big_skip|go_at_call 99;refine(D7 D rb s2 W _ _ (hS.s (rdX D rb s2::D::R))).mono ?_;clear hS;rintro x w ⟨rfl,hS⟩|go_at_call 100;refine(AT7 D rb none W _ _ hS).mono ?_;clear hS;rintro ex w ⟨rfl,hS⟩);go_ret2;exact .inl ⟨fun X h=>Hno.out X [] h,rfl,hS.drop⟩
     ·have w1:decide (c<1)=false:=by simp;omega
      have w2:decide (1048576<c)=false:=by simp;omega
      have w3:decide (q<1)=true:=by simpa using hw3
      go_wp2_with(first|go_big_skip|(fail_if_success (have:=a4));(go_at_call 97;refine(Ae7 N1.out Hm.out W _ _ _ (by exact g8) (j7 Hv.out hS)).mono ?_;clear hS;have a4:Nat:=0;rintro ex w ⟨rfl,hS⟩)|(have:=a4);go_at_call 97;refine(Ae7 N2.out Hm1.out W _ _ _ (by exact g8) hS).mono ?_;clear hS;rintro ex w ⟨rfl,hS⟩|refine zal hS ?_;clear hS;intro bM w hS|refine zsN hS ?_;clear hS;intro w hS|refine zl1 hS ?_);refine Aa7 (by kernel_rfl) (by kernel_rfl) hS ?_
      repeat(first|go_big_quiet_skip|refine zq1 ?_|refine zqN ?_|(first|(apply Am7;rfl;rfl;rfl;decide +kernel;exact hlast (by exact g8);refine frS ?_)|(apply Am7;rfl;rfl;rfl;decide +kernel;exact hlast2 (by exact g8);refine frS ?_))|apply Ag7;rfl;intro w;apply Ad7;rfl;decide +kernel;(focus(simp only[fD,fI,fJ,Act.eval,fE,fF,fG,fH,fK];try rfl));intro w hS;exact Bl7 Hlt.out W w _ hS;refine frS ?_|refine zqn ?_|refine qR ?_)
      clear hS;intro w hS;go_wp2_with(first|go_big_skip|go_at_call 99;refine(D7 D rb s2 W _ _ (hS.s (rdX D rb s2::D::R))).mono ?_;clear hS;rintro x w ⟨rfl,hS⟩|go_at_call 100;refine(AT7 D rb none W _ _ hS).mono ?_;clear hS;rintro ex w ⟨rfl,hS⟩);go_ret2;exact .inl ⟨fun X h=>Hno.out X [] h,rfl,hS.drop⟩
     ·have w1:decide (c<1)=false:=by simp;omega
      have w2:decide (1048576<c)=false:=by simp;omega
      have w3:decide (q<1)=false:=by simp;omega
      have w4:decide (1099511627776<q)=true:=by simpa using hw4
      go_wp2_with(first|go_big_skip|(fail_if_success (have:=a4));(go_at_call 97;refine(Ae7 N1.out Hm.out W _ _ _ (by exact g8) (j7 Hv.out hS)).mono ?_;clear hS;have a4:Nat:=0;rintro ex w ⟨rfl,hS⟩)|(have:=a4);go_at_call 97;refine(Ae7 N2.out Hm1.out W _ _ _ (by exact g8) hS).mono ?_;clear hS;rintro ex w ⟨rfl,hS⟩|refine zal hS ?_;clear hS;intro bM w hS|refine zsN hS ?_;clear hS;intro w hS|refine zl1 hS ?_);refine Aa7 (by kernel_rfl) (by kernel_rfl) hS ?_
      repeat(first|go_big_quiet_skip|refine zq1 ?_|refine zqN ?_|(first|(apply Am7;rfl;rfl;rfl;decide +kernel;exact hlast (by exact g8);refine frS ?_)|(apply Am7;rfl;rfl;rfl;decide +kernel;exact hlast2 (by exact g8);refine frS ?_))|apply Ag7;rfl;intro w;apply Ad7;rfl;decide +kernel;(focus(simp only[fD,fI,fJ,Act.eval,fE,fF,fG,fH,fK];try rfl));intro w hS;exact Bl7 Hlt.out W w _ hS;refine frS ?_|refine zqn ?_|refine qR ?_)
      clear hS;intro w hS;go_wp2_with(first|go_big_skip|go_at_call 99;refine(D7 D rb s2 W _ _ (hS.s (rdX D rb s2::D::R))).mono ?_;clear hS;rintro x w ⟨rfl,hS⟩|go_at_call 100;refine(AT7 D rb none W _ _ hS).mono ?_;clear hS;rintro ex w ⟨rfl,hS⟩);go_ret2;exact .inl ⟨fun X h=>Hno.out X [] h,rfl,hS.drop⟩
section
variable{D0:HP}{a:Option Addr}{c:Nat}{b:List Int}{W w:World}{R R':List HP}
theorem Rf7{X:Ec}(hp:J5 b X)(ha:bk4 X)(hat:At D0 a c b)(hb:ByB b)(hN:b.length<=5000000)(hgd:dJ4 (some b))(henc:EncOk (ofX X))(ht:Take R D0 R')(hS:St W R w):
  Calls Tryz.prog 34 #[.slice a b.length c] w fun x w'=>∃eb,x=.returned (.tuple #[.P eb,.I 0])/\St W (ecP eb (ofX X)::R) w':=by
 refine(JZ7 D0 a c b hat hb hN hgd (fun Y hY=>(Cj7 hp hY).1▸henc) W w R R' ht hS).mono ?_;rintro x w' (⟨h1,_⟩|⟨Y,h1,_,h3⟩)
 ·exact absurd ha (h1 X hp)
 ·obtain⟨rfl,_⟩:=Cj7 hp h1;exact h3
theorem SV7(hno:∀X,J5 b X->¬bk4 X)(hat:At D0 a c b)(hb:ByB b)(hN:b.length<=9000)(ht:Take R D0 R')(hS:St W R w):
  Calls Tryz.prog 34 #[.slice a b.length c] w fun x w'=>x=.returned (.tuple #[.pointer none,.I 3])/\St W R w':=by
 refine(JZ7 D0 a c b hat hb (by omega) (Hj7 fun l hl=>by cases hl;exact⟨hb,hN⟩) (fun Y hY=>(Hi7 hb hN hY).1) W w R R' ht hS).mono ?_;rintro x w' (⟨_,h2,h3⟩|⟨Y,h1,h2,_⟩)
 ·exact⟨h2,h3⟩
 ·exact absurd h2 (hno Y h1)
theorem TG7{X:Ec}(hp:J5 b X)(ha:bk4 X)(hat:At D0 a c b)(hcap:b.length<=c/\c<=9223372036854775807)(hb:ByB b)(hN:b.length<=9000)(hS:St W (D0::R) w):
  Calls Tryz.prog 35 #[.slice a b.length c] w fun x w'=>∃xb,x=.returned (.tuple #[.P xb,.I 0])/\St W (L6 xb X::D0::R) w':=by
 refine(Ka7 D0 a c b hat hcap hb hN W w R hS).mono ?_;rintro x w' (⟨h1,_⟩|⟨Y,h1,_,h3⟩)
 ·exact absurd ha (h1 X hp)
 ·obtain⟨rfl,_⟩:=Cj7 hp h1;exact h3
theorem TH7(hno:∀X,J5 b X->¬bk4 X)(hat:At D0 a c b)(hcap:b.length<=c/\c<=9223372036854775807)(hb:ByB b)(hN:b.length<=9000)(hS:St W (D0::R) w):
  Calls Tryz.prog 35 #[.slice a b.length c] w fun x w'=>x=.returned (.tuple #[.pointer none,.I 3])/\St W (D0::R) w':=by
 refine(Ka7 D0 a c b hat hcap hb hN W w R hS).mono ?_;rintro x w' (⟨_,h2,h3⟩|⟨Y,h1,h2,_⟩)
 ·exact⟨h2,h3⟩
 ·exact absurd h2 (hno Y h1)
end
theorem SW7{X:Ec}(h:bk4 X):SimW X (ofX X):=⟨(EW7 h).v,(EW7 h).s,(EW7 h).t,(EW7 h).a,h.1,h.2.1,h.2.2.1,h.2.2.2⟩
theorem decodesE_spec(zs:List Int)(v:Value)(V:World)(hv:eu4 V v zs)(W w:World)(Lr:List HP)(hS:St W (Old V::Lr) w):
  Calls Tryz.prog 12 #[v] w fun e w'=>e=.returned (.bool true)/\St W (Old V::Lr) w':=by
 obtain⟨hb,a,c,rfl,hlc,hcm,hat⟩:=hv;have Hb:=jH hb;clear hb;by_cases hN:zs.length<=2000
 ·have hd:decide (2000<zs.length)=false:=by simp;omega
  by_cases hG:∃X,J5 zs X/\bk4 X
  ·obtain⟨X,hp,ha⟩:=hG;have Hok:=jH (Hi7 Hb.out (by omega) hp).1;have Hgd:=jH (Hj7 (s:=some zs) fun l hl=>by cases hl;exact⟨Hb.out,by omega⟩);have Hp:=jH hp;have Ha:=jH ha;have Hsim:=jH (SW7 ha);clear hp ha;go_enter Tryz.func12,Tryz.ntmps12;go_wp2_with(first|go_big_skip|(with_reducible apply Ct7 (n:=0) hS);rfl;rfl;(focus(simp only[fD,fI,fJ,Act.eval,fE,fF,fG,fH,fK];try rfl));exact esS;exact rsS;rfl;rfl;rfl;rfl;rfl;decide;clear hS;intro bv w hS;refine frS ?_|(with_reducible apply HX7 (D:=Old V) (zs:=zs) hS);rfl;rfl;rfl;rfl;exact esS;exact rsS;rfl;exact g8;exact hat;exact g8;(focus(unfold maxLen;omega));(focus omega);clear hS;intro v w hS;(have hv:=BF7 hS;obtain⟨da,dc,rfl,hvd⟩:=hv);have hat2:=BG7 hvd;have Hat2:=jH hat2;clear hvd hat2;refine frS ?_|go_at_call 34;refine(Rf7 Hp.out Ha.out Hat2.out Hb.out (by omega) Hgd.out Hok.out .head hS).mono ?_;clear hS;rintro e w ⟨eb,rfl,hS⟩|go_at_call 35;refine(TG7 Hp.out Ha.out hat ⟨hlc,hcm⟩ Hb.out (by omega) (hS.s (Old V::ecP eb (ofX X)::Lr))).mono ?_;clear hS;rintro e w ⟨xb,rfl,hS⟩|go_at_call 28;refine(Sr7 Hsim.out Hok.out W _ _ (hS.s (ecP eb (ofX X)::L6 xb X::Old V::Lr))).mono ?_;clear hS;rintro e w ⟨rfl,hS⟩|go_at_call 14;refine(GM7 W _ _ hS).mono ?_;clear hS;rintro e w ⟨rfl,hS⟩);go_ret;exact⟨rfl,hS.drop.drop⟩
  ·have hno:∀X,J5 zs X->¬bk4 X:=fun X h1 h2=>hG ⟨X,h1,h2⟩
   have Hno:=jH hno;clear hno hG;go_enter Tryz.func12,Tryz.ntmps12;go_wp2_with(first|go_big_skip|(with_reducible apply Ct7 (n:=0) hS);rfl;rfl;(focus(simp only[fD,fI,fJ,Act.eval,fE,fF,fG,fH,fK];try rfl));exact esS;exact rsS;rfl;rfl;rfl;rfl;rfl;decide;clear hS;intro bv w hS;refine frS ?_|(with_reducible apply HX7 (D:=Old V) (zs:=zs) hS);rfl;rfl;rfl;rfl;exact esS;exact rsS;rfl;exact g8;exact hat;exact g8;(focus(unfold maxLen;omega));(focus omega);clear hS;intro v w hS;(have hv:=BF7 hS;obtain⟨da,dc,rfl,hvd⟩:=hv);have hat2:=BG7 hvd;have Hat2:=jH hat2;clear hvd hat2;refine frS ?_|go_at_call 34;refine(SV7 Hno.out Hat2.out Hb.out (by omega) .head hS).mono ?_;clear hS;rintro e w ⟨rfl,hS⟩|go_at_call 35;refine(TH7 Hno.out hat ⟨hlc,hcm⟩ Hb.out (by omega) (hS.s (Old V::Lr))).mono ?_;clear hS;rintro e w ⟨rfl,hS⟩|go_at_call 14;refine(GM7 W _ _ hS).mono ?_;clear hS;rintro e w ⟨rfl,hS⟩);go_ret;exact⟨rfl,hS⟩
 ·have hd:decide (2000<zs.length)=true:=by simp;omega
  go_enter Tryz.func12,Tryz.ntmps12;go_wp2_with(first|go_big_skip);go_ret;exact⟨rfl,hS⟩
end Go.Proofs.YtlmhakmoioogaaaGreat
end
section
namespace Go.Sl
open Go.ChangeShapes Go.WideShapes Go.ChangeAt Go.RowKit
section
variable{H:Type}{enc:TypeId×Value->H}{P:Program}
theorem Fa7{w w':World}{base:Nat}{spare:Nat->Bool}{held:Bool}:∀{ts:List TypeId} {vs:List Value} {ds:List (DataW H)} {ps:List MemPlace},
  DataW.TrodAll enc P w base spare held ts vs ds ps->(∀p∈ps,w.sameAt w' p)->DataW.TrodAll enc P w' base spare held ts vs ds ps
 | [],[],[],_,h,_=>h
 | _::_,_::_,_::_,_,⟨p,q,⟨n,hn⟩,h2,e⟩,hs=>
  ⟨p,q,⟨n,DataW.trod_carry n _ _ _ hn fun x hx=>hs x (by rw[e];exact List.mem_append_left _ hx)⟩,Fa7 h2 (fun x hx=>hs x (by rw[e];exact List.mem_append_right _ hx)),e⟩
theorem law_post{f:Func}{s:ChangeSpec}{apart fresh handsOn again:Bool}{W W':World}{args:Array Value}{ds gs:List (DataW H)}{before:List MemPlace}{tb:TypeId}
  (hl:laidOutB P=true) (hm:mapsRowed P=true) (hz:((List.range P.types.size).all fun t=>match P.underlying t with|some (.slice e)=>decide (0<P.cellsOf e)|_=>true)=true)
  (hT:f.params.toList.all (·<P.types.size)=true) (hr:f.resultTypes=#[tb]) (hb:P.underlying tb=some .bool) (hv:s.vars=[])
  (hW:DataW.Whole enc P f.params.toList s.vars apart W args.toList ds gs before)
  (hres:(s.fn H (ds++gs)).results=[.lit (.bool true)]) (hargs:(s.fn H (ds++gs)).args=ds) (hvars:(s.fn H (ds++gs)).vars=[])
  (hB:Below W.heap.size W W'):s.post enc P f apart fresh handsOn again W args (.bool true) W':=by
 have hW0:=hW;obtain⟨p,q,hA,hV,rfl,hfz,hnd⟩:=hW;rw[hv]at hV;obtain⟨rfl,rfl⟩:=trodVars_none hV;have hlt:∀x∈p++[],x.block<W.heap.size:=fun x hx=>hW0.lt x hx
 have hA':∀sp:Nat->Bool,(∀x∈p++[],sp x.block=true)->DataW.TrodAll enc P W' 0 sp true f.params.toList args.toList (s.fn H (ds++[])).args p:=fun sp hs=>by rw[hargs];refine Fa7 (DataW.TrodAll.respare (kids_rows hl hm) (fun t e=>slices_full_of P hz t e) (fun t ht=>by simpa using List.all_eq_true.1 hT t ht) hA fun x hx=>hs x (by simpa using hx)) fun x hx=>hB.same (hlt x (by simpa using hx))
 have hR:∀(b:Nat) (sp:Nat->Bool) (hd:Bool),DataW.TrodAll enc P W' b sp hd f.resultTypes.toList ((Value.bool true).resultList f.resultTypes.size) (s.fn H (ds++[])).results []:=fun b sp hd=>by rw[hres,hr];exact trodAll_cons_mk (shut_bool hb _) trodAll_mk0
 have hU:∀sp:Nat->Bool,DataW.TrodVars enc P W' sp s.vars (s.fn H (ds++[])).vars []:=fun sp=>by rw[hv,hvars];rfl
 have hold:∀x∈p++[],(fun b=>decide (b<W.heap.size)) x.block=true:=fun x hx=>by simpa using hlt x hx
 refine⟨ds,[],p++[],[],p,[],hW0,hR _ _ _,hA' _ hold,hU _,World.keptBut_mono (fun x hx=>⟨hx,?_⟩) (hB.frame (·∈p++[])),fun _=>?_⟩
 ·exact Or.inr (by simpa using hx)
 ·refine⟨ok_one hr rfl (okWide_bool_mk hb _),_,_,([]++p)++[],⟨[]++p,[],trodAll_append (hA' _ (fun _ _=>rfl)) (hR _ _ _),hU _,rfl,?_,?_⟩,?_⟩
  ·intro b off hx;rw[hB.frozen (hlt _ (by simpa using hx))];exact hfz b off (by simpa using hx)
  ·intro ha;simpa using hnd ha
  ·intro x hx _;simpa using hx
end
end Go.Sl
end
