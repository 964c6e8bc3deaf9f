/-
  PlanCold.
-/
import Derived.Test.YtjcfifkjbaffnaaPcQM5
import Derived.Test.YtjcfifkjbaffnaaPcQM22
set_option maxHeartbeats 16000000
set_option maxRecDepth 100000
set_option linter.unusedSimpArgs false
set_option linter.unusedVariables false
section
namespace Go.Proofs.Ytjcfifkjbaffnaa
open Go.RowKit Go.Sl
def CoR(W:World)(R:List HP)(u:Value)(out:List Cg)(v12 v13:Value)(w:World):Prop:=
 ∃i q:Nat,v12=.I q/\v13=.I i/\i<=out.length/\as4 (out.take i)=q/\St W (row u 5 42 out.length (out.flatMap Cg.cells)::R) w
theorem Ea7{l:List Cg}{i:Nat}(h:i<l.length):as4 (l.take (i+1))=as4 (l.take i)+if l[i].kind=2 then 1 else 0:=by
 unfold as4;rw[List.take_succ_eq_append_getElem h,List.filter_append,jA]
 congr 1
 by_cases hp:l[i].kind=2
 ·rw[if_pos hp,List.filter_cons_of_pos (by simpa using hp)];rfl
 ·rw[if_neg hp,List.filter_cons_of_neg (by simpa using hp)];rfl
theorem Eb7(l:List Cg):as4 l<=l.length:=List.length_filter_le ..
theorem coldL_at(x y cold:Int)(other:Bool)(W w:World)(R:List HP)(hS:St W R w):
  Calls Try.prog 6 #[.I x,.I y,.I cold,.bool other] w fun e w'=>e=.returned (.bool true)/\St W R w':=by
 by_cases a0:x<0
 case pos=>
  have d0:decide (x<0)=true:=decide_eq_true a0;clear a0;go_enter Try.func6,Try.ntmps6;go_wp2_with(first|go_big_skip|go_at_call 7;refine(Az7 W _ _ hS).mono ?_;clear hS;rintro e w ⟨rfl,hS⟩);go_ret;exact⟨rfl,hS⟩
 have d0:decide (x<0)=false:=decide_eq_false a0;have Hx0:=jH (show 0<=x by omega);by_cases a1:(1000:Int)<x
 case pos=>
  have d1:decide ((1000:Int)<x)=true:=decide_eq_true a1;clear a1;go_enter Try.func6,Try.ntmps6;go_wp2_with(first|go_big_skip|go_at_call 7;refine(Az7 W _ _ hS).mono ?_;clear hS;rintro e w ⟨rfl,hS⟩);go_ret;exact⟨rfl,hS⟩
 have d1:decide ((1000:Int)<x)=false:=decide_eq_false a1;have Hx1:=jH (show x<=1000 by omega);by_cases a2:y<0
 case pos=>
  have d2:decide (y<0)=true:=decide_eq_true a2;clear a2;go_enter Try.func6,Try.ntmps6;go_wp2_with(first|go_big_skip|go_at_call 7;refine(Az7 W _ _ hS).mono ?_;clear hS;rintro e w ⟨rfl,hS⟩);go_ret;exact⟨rfl,hS⟩
 have d2:decide (y<0)=false:=decide_eq_false a2;have Hy0:=jH (show 0<=y by omega);by_cases a3:(1000:Int)<y
 case pos=>
  have d3:decide ((1000:Int)<y)=true:=decide_eq_true a3;clear a3;go_enter Try.func6,Try.ntmps6;go_wp2_with(first|go_big_skip|go_at_call 7;refine(Az7 W _ _ hS).mono ?_;clear hS;rintro e w ⟨rfl,hS⟩);go_ret;exact⟨rfl,hS⟩
 have d3:decide ((1000:Int)<y)=false:=decide_eq_false a3;have Hy1:=jH (show y<=1000 by omega);by_cases a4:cold<0
 case pos=>
  have d4:decide (cold<0)=true:=decide_eq_true a4;clear a4;go_enter Try.func6,Try.ntmps6;go_wp2_with(first|go_big_skip|go_at_call 7;refine(Az7 W _ _ hS).mono ?_;clear hS;rintro e w ⟨rfl,hS⟩);go_ret;exact⟨rfl,hS⟩
 have d4:decide (cold<0)=false:=decide_eq_false a4;have Hc0:=jH (show 0<=cold by omega);by_cases a5:(3000:Int)<cold
 case pos=>
  have d5:decide ((3000:Int)<cold)=true:=decide_eq_true a5;clear a5;go_enter Try.func6,Try.ntmps6;go_wp2_with(first|go_big_skip|go_at_call 7;refine(Az7 W _ _ hS).mono ?_;clear hS;rintro e w ⟨rfl,hS⟩);go_ret;exact⟨rfl,hS⟩
 have d5:decide ((3000:Int)<cold)=false:=decide_eq_false a5;have Hc1:=jH (show cold<=3000 by omega);have b1 : -9000<=x:=by omega
 have b2:x<=9000:=by omega
 have b3 : -9000<=y:=by omega
 have b4:y<=9000:=by omega
 clear a0 a1 a2 a3 a4 a5
 cases other with
 | true=>
  go_enter Try.func6,Try.ntmps6;go_wp2_with(first|(with_reducible apply Bn7);rfl;rfl;(focus(simp only[fD,fI,fJ,Act.eval,fE,fF,fG,fH,fK];try rfl));(intro w;first|exact aW4 _ w|exact aX4 _ w|exact aY4 w|exact aZ4 _ _ _ w|exact ba4 _ _ _ _ _ w|exact bb4 _ _ _ _ _ w|exact bc4 _ _ w|exact bd4 _ _ _ w|exact be4 _ w|exact bf4 _ _ w|exact bg4 _ _ _ w|exact bh4 _ _ _ w);refine frS ?_|go_big_skip|refine zbs hS ?_;clear hS;intro bS w hS|(fail_if_success (have:=mA9));(refine zal hS ?_;clear hS;have mA9:Nat:=0;intro b9 w hS)|refine zsN hS ?_;clear hS;intro w hS|refine zlN hS ?_|refine zl1 hS ?_|(fail_if_success (have:=mNR));(have hS2:St W (blk bS [.I 8] 3::blk b9 _ _::blk _ [.I 1,.string bN,.string bM,.I 8,.I 1,.I 0,.I 0,.string bN,.I 0,.I 2,.string bM,.string bN,.I 8,.I 1,.I 0,.I 0,.string bN,.I 0] 32::R) w:=hS);clear hS;(have hS:=hS2);clear hS2;have mNR:Nat:=0;refine zs1 hS ?_;clear hS;intro w hS|(go_at_call 8;refine(Bo7 (zs:=(twZ 9 1)) (hs:=[8,9]) (l:=[⟨1,x,bN⟩,⟨2,y,bN⟩]) (Al7 Zo.len (by first|decide|simp) (by(focus((repeat(first|exact .head|apply Take.tail));done))) rfl hS) (Al7 Cz7 (by first|decide|simp) (by(focus((repeat(first|exact .head|apply Take.tail));done))) rfl hS) (Al7 Ro.len (by first|decide|simp) (by(focus((repeat(first|exact .head|apply Take.tail));done))) rfl hS) ((EL7 9 1 (by unfold rgI;omega) (by unfold rgI;omega))) (by first|decide|simp) (by unfold rgI;omega) (by unfold rgI;omega) (by first|decide|simp) (by first|decide|simp) hS).mono ?_;clear hS;rintro e w ⟨u,out,rfl,hmk,hS⟩);(have hmk9:=BS7 Hx0.out Hx1.out Hy0.out Hy1.out (.inr ⟨rfl,rfl⟩) hmk);clear hmk;have Hmk:=jH hmk9;clear hmk9;(have hv9:=hS.rowVal;obtain⟨ua,uc,rfl⟩:=hv9);have mMK:Nat:=0);have hS1:St W (row (.slice ua out.length uc) 5 42 out.length (out.flatMap Cg.cells)::R) w:=hS.s _;clear hS
  go_loopw [12,13] (fun v12 v13 wr=>CoR W R (.slice ua out.length uc) out v12 v13 wr) (fun _ v13 _=>out.length-(intOf v13).toNat)
  case atStart=>exact⟨0,0,rfl,rfl,Nat.zero_le _,rfl,hS1⟩
  case round=>
   clear hS1;obtain⟨i,q,rfl,rfl,hi,hq,hS⟩:=hrel;by_cases hil:i<out.length
   ·have d9:decide (i<out.length)=true:=decide_eq_true hil;have hnx:=Ea7 hil;have hle:=Eb7 (out.take i);rw[jT]at hle;rw[hq]at hnx hle;obtain⟨⟨g,rfl⟩,uc9,un9⟩:=St.rowAddr hS (by omega);have hcx:∀{K K':List HP},Take K (row (.S g out.length uc) 5 42 out.length (out.flatMap Cg.cells)) K'->a7 K g (i*5) (Cg.cells out[i]):=fun{K K'} hu=>a7.elemM (enc:=Cg.cells) Cg.len hu hil
    generalize out[i]=c at hnx hcx;obtain⟨c0,c1,c2,c3,c4⟩:=c;simp only[Cg.cells]at hcx hnx;by_cases hk:c0=2
    ·have d8:(c0==2)=true:=by simpa using hk
     rw[if_pos hk]at hnx;have Hnx:=jH hnx;clear hnx hk hi hq;go_wp2_with(first|go_big_skip|refine zl1 hS ?_ (v:=.I c0) (hc:=by exact fun W w hS=>hcx (by exact c9) 0 _ rfl W w hS));go_roundw
     case rel=>exact⟨i+1,q+1,rfl,rfl,hil,Hnx.out,hS⟩
     case measure=>simp[intOf];omega
    ·have d8:(c0==2)=false:=by simpa using hk
     rw[if_neg hk]at hnx;have Hnx:=jH hnx;clear hnx hk hi hq;go_wp2_with(first|go_big_skip|refine zl1 hS ?_ (v:=.I c0) (hc:=by exact fun W w hS=>hcx (by exact c9) 0 _ rfl W w hS));go_roundw
     case rel=>exact⟨i+1,q,rfl,rfl,hil,Hnx.out,hS⟩
     case measure=>simp[intOf];omega
   ·have d9:decide (i<out.length)=false:=decide_eq_false hil;have hie:i=out.length:=by omega
    rw[hie,List.take_length]at hq;obtain rfl:q=0:=by rw[<-hq,Hmk.out];exact(if_neg (by omega))
    clear hie hi hq;go_wp2_with(first|go_big_skip|go_at_call 7;refine(Az7 W _ _ hS).mono ?_;clear hS;rintro e w ⟨rfl,hS⟩);go_ret;exact⟨rfl,hS.drop⟩
 | false=>
  by_cases hlt:x+y<cold
  ·have d7:decide (x+y<cold)=true:=decide_eq_true hlt;have Hlt:=jH hlt;clear hlt;go_enter Try.func6,Try.ntmps6;go_wp2_with(first|(with_reducible apply Bn7);rfl;rfl;(focus(simp only[fD,fI,fJ,Act.eval,fE,fF,fG,fH,fK];try rfl));(intro w;first|exact aW4 _ w|exact aX4 _ w|exact aY4 w|exact aZ4 _ _ _ w|exact ba4 _ _ _ _ _ w|exact bb4 _ _ _ _ _ w|exact bc4 _ _ w|exact bd4 _ _ _ w|exact be4 _ w|exact bf4 _ _ w|exact bg4 _ _ _ w|exact bh4 _ _ _ w);refine frS ?_|go_big_skip|refine zbs hS ?_;clear hS;intro bS w hS|(fail_if_success (have:=mA9));(refine zal hS ?_;clear hS;have mA9:Nat:=0;intro b9 w hS)|refine zsN hS ?_;clear hS;intro w hS|refine zlN hS ?_|refine zl1 hS ?_|(go_at_call 8;refine(Bo7 (zs:=(twZ 8 1)) (hs:=[8]) (l:=[⟨1,x,bN⟩,⟨2,y,bN⟩]) (Al7 Zo.len (by first|decide|simp) (by(focus((repeat(first|exact .head|apply Take.tail));done))) rfl hS) (Al7 Cz7 (by first|decide|simp) (by(focus((repeat(first|exact .head|apply Take.tail));done))) rfl hS) (Al7 Ro.len (by first|decide|simp) (by(focus((repeat(first|exact .head|apply Take.tail));done))) rfl hS) ((EL7 8 1 (by unfold rgI;omega) (by unfold rgI;omega))) (by first|decide|simp) (by unfold rgI;omega) (by unfold rgI;omega) (by first|decide|simp) (by first|decide|simp) hS).mono ?_;clear hS;rintro e w ⟨u,out,rfl,hmk,hS⟩);(have hmk9:=BS7 Hx0.out Hx1.out Hy0.out Hy1.out (.inl ⟨rfl,rfl⟩) hmk);clear hmk;have Hmk:=jH hmk9;clear hmk9;(have hv9:=hS.rowVal;obtain⟨ua,uc,rfl⟩:=hv9);have mMK:Nat:=0);have hS1:St W (row (.slice ua out.length uc) 5 42 out.length (out.flatMap Cg.cells)::R) w:=hS.s _;clear hS
   go_loopw [12,13] (fun v12 v13 wr=>CoR W R (.slice ua out.length uc) out v12 v13 wr) (fun _ v13 _=>out.length-(intOf v13).toNat)
   case atStart=>exact⟨0,0,rfl,rfl,Nat.zero_le _,rfl,hS1⟩
   case round=>
    clear hS1;obtain⟨i,q,rfl,rfl,hi,hq,hS⟩:=hrel;by_cases hil:i<out.length
    ·have d9:decide (i<out.length)=true:=decide_eq_true hil;have hnx:=Ea7 hil;have hle:=Eb7 (out.take i);rw[jT]at hle;rw[hq]at hnx hle;obtain⟨⟨g,rfl⟩,uc9,un9⟩:=St.rowAddr hS (by omega);have hcx:∀{K K':List HP},Take K (row (.S g out.length uc) 5 42 out.length (out.flatMap Cg.cells)) K'->a7 K g (i*5) (Cg.cells out[i]):=fun{K K'} hu=>a7.elemM (enc:=Cg.cells) Cg.len hu hil
     generalize out[i]=c at hnx hcx;obtain⟨c0,c1,c2,c3,c4⟩:=c;simp only[Cg.cells]at hcx hnx;by_cases hk:c0=2
     ·have d8:(c0==2)=true:=by simpa using hk
      rw[if_pos hk]at hnx;have Hnx:=jH hnx;clear hnx hk hi hq;go_wp2_with(first|go_big_skip|refine zl1 hS ?_ (v:=.I c0) (hc:=by exact fun W w hS=>hcx (by exact c9) 0 _ rfl W w hS));go_roundw
      case rel=>exact⟨i+1,q+1,rfl,rfl,hil,Hnx.out,hS⟩
      case measure=>simp[intOf];omega
     ·have d8:(c0==2)=false:=by simpa using hk
      rw[if_neg hk]at hnx;have Hnx:=jH hnx;clear hnx hk hi hq;go_wp2_with(first|go_big_skip|refine zl1 hS ?_ (v:=.I c0) (hc:=by exact fun W w hS=>hcx (by exact c9) 0 _ rfl W w hS));go_roundw
      case rel=>exact⟨i+1,q,rfl,rfl,hil,Hnx.out,hS⟩
      case measure=>simp[intOf];omega
    ·have d9:decide (i<out.length)=false:=decide_eq_false hil;have hie:i=out.length:=by omega
     rw[hie,List.take_length]at hq;obtain rfl:q=1:=by rw[<-hq,Hmk.out];exact(if_pos ⟨trivial,Hlt.out⟩)
     clear hie hi hq;go_wp2_with(first|go_big_skip|go_at_call 7;refine(Az7 W _ _ hS).mono ?_;clear hS;rintro e w ⟨rfl,hS⟩);go_ret;exact⟨rfl,hS.drop⟩
  ·have d7:decide (x+y<cold)=false:=decide_eq_false hlt;have Hlt:=jH hlt;clear hlt;go_enter Try.func6,Try.ntmps6;go_wp2_with(first|(with_reducible apply Bn7);rfl;rfl;(focus(simp only[fD,fI,fJ,Act.eval,fE,fF,fG,fH,fK];try rfl));(intro w;first|exact aW4 _ w|exact aX4 _ w|exact aY4 w|exact aZ4 _ _ _ w|exact ba4 _ _ _ _ _ w|exact bb4 _ _ _ _ _ w|exact bc4 _ _ w|exact bd4 _ _ _ w|exact be4 _ w|exact bf4 _ _ w|exact bg4 _ _ _ w|exact bh4 _ _ _ w);refine frS ?_|go_big_skip|refine zbs hS ?_;clear hS;intro bS w hS|(fail_if_success (have:=mA9));(refine zal hS ?_;clear hS;have mA9:Nat:=0;intro b9 w hS)|refine zsN hS ?_;clear hS;intro w hS|refine zlN hS ?_|refine zl1 hS ?_|(go_at_call 8;refine(Bo7 (zs:=(twZ 8 1)) (hs:=[8]) (l:=[⟨1,x,bN⟩,⟨2,y,bN⟩]) (Al7 Zo.len (by first|decide|simp) (by(focus((repeat(first|exact .head|apply Take.tail));done))) rfl hS) (Al7 Cz7 (by first|decide|simp) (by(focus((repeat(first|exact .head|apply Take.tail));done))) rfl hS) (Al7 Ro.len (by first|decide|simp) (by(focus((repeat(first|exact .head|apply Take.tail));done))) rfl hS) ((EL7 8 1 (by unfold rgI;omega) (by unfold rgI;omega))) (by first|decide|simp) (by unfold rgI;omega) (by unfold rgI;omega) (by first|decide|simp) (by first|decide|simp) hS).mono ?_;clear hS;rintro e w ⟨u,out,rfl,hmk,hS⟩);(have hmk9:=BS7 Hx0.out Hx1.out Hy0.out Hy1.out (.inl ⟨rfl,rfl⟩) hmk);clear hmk;have Hmk:=jH hmk9;clear hmk9;(have hv9:=hS.rowVal;obtain⟨ua,uc,rfl⟩:=hv9);have mMK:Nat:=0);have hS1:St W (row (.slice ua out.length uc) 5 42 out.length (out.flatMap Cg.cells)::R) w:=hS.s _;clear hS
   go_loopw [12,13] (fun v12 v13 wr=>CoR W R (.slice ua out.length uc) out v12 v13 wr) (fun _ v13 _=>out.length-(intOf v13).toNat)
   case atStart=>exact⟨0,0,rfl,rfl,Nat.zero_le _,rfl,hS1⟩
   case round=>
    clear hS1;obtain⟨i,q,rfl,rfl,hi,hq,hS⟩:=hrel;by_cases hil:i<out.length
    ·have d9:decide (i<out.length)=true:=decide_eq_true hil;have hnx:=Ea7 hil;have hle:=Eb7 (out.take i);rw[jT]at hle;rw[hq]at hnx hle;obtain⟨⟨g,rfl⟩,uc9,un9⟩:=St.rowAddr hS (by omega);have hcx:∀{K K':List HP},Take K (row (.S g out.length uc) 5 42 out.length (out.flatMap Cg.cells)) K'->a7 K g (i*5) (Cg.cells out[i]):=fun{K K'} hu=>a7.elemM (enc:=Cg.cells) Cg.len hu hil
     generalize out[i]=c at hnx hcx;obtain⟨c0,c1,c2,c3,c4⟩:=c;simp only[Cg.cells]at hcx hnx;by_cases hk:c0=2
     ·have d8:(c0==2)=true:=by simpa using hk
      rw[if_pos hk]at hnx;have Hnx:=jH hnx;clear hnx hk hi hq;go_wp2_with(first|go_big_skip|refine zl1 hS ?_ (v:=.I c0) (hc:=by exact fun W w hS=>hcx (by exact c9) 0 _ rfl W w hS));go_roundw
      case rel=>exact⟨i+1,q+1,rfl,rfl,hil,Hnx.out,hS⟩
      case measure=>simp[intOf];omega
     ·have d8:(c0==2)=false:=by simpa using hk
      rw[if_neg hk]at hnx;have Hnx:=jH hnx;clear hnx hk hi hq;go_wp2_with(first|go_big_skip|refine zl1 hS ?_ (v:=.I c0) (hc:=by exact fun W w hS=>hcx (by exact c9) 0 _ rfl W w hS));go_roundw
      case rel=>exact⟨i+1,q,rfl,rfl,hil,Hnx.out,hS⟩
      case measure=>simp[intOf];omega
    ·have d9:decide (i<out.length)=false:=decide_eq_false hil;have hie:i=out.length:=by omega
     rw[hie,List.take_length]at hq;obtain rfl:q=0:=by rw[<-hq,Hmk.out];exact(if_neg fun h=>Int.not_lt.2 Hlt.out h.2)
     clear hie hi hq;go_wp2_with(first|go_big_skip|go_at_call 7;refine(Az7 W _ _ hS).mono ?_;clear hS;rintro e w ⟨rfl,hS⟩);go_ret;exact⟨rfl,hS.drop⟩
end Go.Proofs.Ytjcfifkjbaffnaa
end
