/-
  Peek.
-/
import Derived.Test.YtienbkdjkjbelaaGreatJuTM5
import Derived.Test.YtienbkdjkjbelaaGreatJuTM24
set_option maxHeartbeats 16000000
set_option maxRecDepth 100000
set_option linter.unusedSimpArgs false
set_option linter.unusedVariables false
section
namespace Go.Proofs.YtienbkdjkjbelaaGreat
open Go.RowKit Go.Sl
section
variable{eb m1 m2 m3 m4:Nat}{E:Ev}(kd cl sq:Int)(ak aw tk tw:ByteArray)(it ct pr:Int)(bu:Bool)(id:Int)(ss:List (Int×(Int×Rpl)))(ts:List ((Int×Int)×Tns))(ar:List ((Int×Int)×Unit))(W w:World)(R:List HP)
abbrev ecR(eb m1 m2 m3 m4:Nat)(E:Ev)(ss:List (Int×(Int×Rpl)))(ts:List ((Int×Int)×Tns))(ar:List ((Int×Int)×Unit))(R:List HP):List HP:=evP eb m1 m2 m3 m4 E::d9 eI eSs m2 ss::d9 eW eTn m3 ts::d9 eW eU m4 ar::R
theorem Qg7(hm:w6 ⟨kd,cl,sq,ak,aw,tk,tw,it,ct,pr,bu,id⟩=false)(hS:St W (ecR eb m1 m2 m3 m4 E ss ts ar R) w):
  Calls Tryz.prog 64 #[.P eb,oV kd cl sq ak aw tk tw it ct pr bu id] w fun e w'=>e=.returned (.tuple #[rV 1 0 0 0 0 0,.bool true])/\St W (ecR eb m1 m2 m3 m4 E ss ts ar R) w':=by
 go_enter Tryz.func64,Tryz.ntmps64;go_wp2_with(first|refine zbx hS ?_;clear hS;intro bO w hS|(fail_if_success (have:=gA));(refine zal hS ?_;clear hS;have gA:Nat:=0;intro bR w hS)|refine zlN hS ?_|refine zsN hS ?_;clear hS;intro w hS|go_at_call 108;refine(Ch7 hm W _ _ hS).mono ?_;clear hS;rintro e w ⟨rfl,hS⟩);apply Ac7;rfl;rfl;rfl;rfl;exact hS;decide +kernel;(exact r6);kernel_rfl;exact⟨rfl,hS.drop.drop⟩
abbrev tB24a:List Nat:=[0,1,3,7,0,16,63,127,255,255,0,1535,4095]
abbrev tB24c:List Nat:=[0,0,2,6,14,0,62,1,255]
theorem Ol7(hm:w6 ⟨6,cl,sq,ak,aw,tk,tw,it,ct,pr,bu,id⟩=true)(hS:St W (ecR eb m1 m2 m3 m4 E ss ts ar R) w):
  Calls Tryz.prog 64 #[.P eb,oV 6 cl sq ak aw tk tw it ct pr bu id] w fun e w'=>e=.returned (.tuple #[rV 0 0 0 0 0 0,.bool (j6 ar (cl,sq)).isSome])/\St W (ecR eb m1 m2 m3 m4 E ss ts ar R) w':=by
 have hS0:=G8 hS;clear hS;have hS:=hS0;clear hS0;have har:ad4 false (.bool false) ((j6 ar (cl,sq)).map eU)=.bool (j6 ar (cl,sq)).isSome:=by cases j6 ar (cl,sq) <;> rfl
 cases hg:j6 ss cl with
 | none=>
  have hss:ad4 true (eSs (0,rp0)) ((j6 ss cl).map eSs)=.tuple #[eSs (0,rp0),.bool false]:=by rw[hg];rfl
  go_enter Tryz.func64,Tryz.ntmps64;go_wp2_with(first|refine zbx hS ?_;clear hS;intro bO w hS|(fail_if_success (have:=gA));(refine zal hS ?_;clear hS;have gA:Nat:=0;intro bR w hS)|(have:=gA);refine zal hS ?_;clear hS;intro bW w hS|refine zl1 hS ?_|refine zlN hS ?_|refine zsN hS ?_;clear hS;intro w hS|go_at_call 108;refine(Ch7 hm W _ _ hS).mono ?_;clear hS;rintro e w ⟨rfl,hS⟩);have hS1:=hS.s (ebB eb m1 m2 m3 m4::d9 eI eSs m2 ss::blk bO _ _::blk bW _ _::blk bR _ _::d9 eW eTn m3 ts::d9 eW eU m4 ar::d9 eS eN m1 (j9 E)::l9 E::R);clear hS
  refine rf3 tB24a (fun i=>i==10) (fun _=>none)
   [⟨some 10,some 11,fun nd=>i8 (nd 10) [.I 0,.I 0,.I 0,.I 0,.I 0,.I 0,.I 0] 121⟩,⟨some 11,none,fun nd=>i8 (nd 10) [.I 0,.I 0,.I 0,.I 0,.I 0,.I 0,.I 0] 121⟩] [none,none,none] hS1 ?_
  clear hS1;intro nd
  repeat(first|refine zc1 ?_|refine zcn ?_|apply Az7 (ek:=eI) (ev:=eSs) (k:=cl);rfl;kernel_rfl;rfl;rfl;rfl;rfl;intro F;exact⟨_,by exact A6⟩;exact mS;exact kEi;exact zS;exact hss;refine frS ?_|refine zca ?_|refine zct ?_|refine cR ?_)
  refine Ad7 ?_;intro w hS;have hS2:St W [i8 _ _ _,ebB eb m1 m2 m3 m4,d9 eI eSs m2 ss,blk bO _ _,sats (blk bW _ _::blk bR _ _::d9 eW eTn m3 ts::d9 eW eU m4 ar::d9 eS eN m1 (j9 E)::l9 E::R)] w:=hS;clear hS;have hS:=hS2.unpack [_,_,_,_];clear hS2;simp only[jK,jN]at hS;generalize nd 10=v10 at *;have h1:=hS.ptr;clear hS;obtain⟨b7,rfl,hS⟩:=h1;go_wp2_with(first|refine zl1 hS ?_);have hS1:=hS.s (blk bR _ _::ebB eb m1 m2 m3 m4::d9 eW eU m4 ar::blk bW _ _::d9 eI eSs m2 ss::d9 eW eTn m3 ts::d9 eS eN m1 (j9 E)::l9 E::R);clear hS;refine rf3 tB24c (fun _=>false) (fun _=>none) [⟨some 7,none,fun _=>blk bR [.I 0,.I 0,.I 0,.I 0,.I 0,.I 0] 36⟩] [some 7,none,none,none] hS1 ?_;clear hS1;intro nd
  repeat(first|refine zc1 ?_|refine zcN ?_|refine zcn ?_|apply Az7 (ek:=eW) (ev:=eU) (k:=(cl,sq));rfl;kernel_rfl;rfl;rfl;rfl;rfl;intro F;exact⟨_,by exact A6⟩;exact mAr;exact kW;exact zA;exact har;refine frS ?_|refine zcs ?_|refine cR ?_)
  refine Ad7 ?_;intro w hS;have hS2:St W [blk bR _ _,ebB eb m1 m2 m3 m4,d9 eW eU m4 ar,blk bW _ _,sats (d9 eI eSs m2 ss::d9 eW eTn m3 ts::d9 eS eN m1 (j9 E)::l9 E::R)] w:=hS;clear hS;have hS:=hS2.unpack [_,_,_,_];clear hS2;simp only[jK,jN]at hS;go_wp2_with fail;apply Ac7;rfl;rfl;rfl;rfl;exact hS;decide +kernel;(exact r6);kernel_rfl;exact⟨rfl,E7 (hS.s (ebB eb m1 m2 m3 m4::d9 eS eN m1 (j9 E)::l9 E::d9 eI eSs m2 ss::d9 eW eTn m3 ts::d9 eW eU m4 ar::R))⟩
 | some x=>
  obtain⟨q,e0,e1,⟨y0,y1,y2,y3⟩⟩:=x;have hss:ad4 true (eSs (0,rp0)) ((j6 ss cl).map eSs)=.tuple #[eSs (q,⟨e0,e1,⟨y0,y1,y2,y3⟩⟩),.bool true]:=by rw[hg];rfl
  go_enter Tryz.func64,Tryz.ntmps64;go_wp2_with(first|refine zbx hS ?_;clear hS;intro bO w hS|(fail_if_success (have:=gA));(refine zal hS ?_;clear hS;have gA:Nat:=0;intro bR w hS)|(have:=gA);refine zal hS ?_;clear hS;intro bW w hS|refine zl1 hS ?_|refine zlN hS ?_|refine zsN hS ?_;clear hS;intro w hS|go_at_call 108;refine(Ch7 hm W _ _ hS).mono ?_;clear hS;rintro e w ⟨rfl,hS⟩);have hS1:=hS.s (ebB eb m1 m2 m3 m4::d9 eI eSs m2 ss::blk bO _ _::blk bW _ _::blk bR _ _::d9 eW eTn m3 ts::d9 eW eU m4 ar::d9 eS eN m1 (j9 E)::l9 E::R);clear hS
  refine rf3 tB24a (fun i=>i==10) (fun _=>none)
   [⟨some 10,some 11,fun nd=>i8 (nd 10) [.I 0,.I 0,.I 0,.I 0,.I 0,.I 0,.I 0] 121⟩,⟨some 11,none,fun nd=>i8 (nd 10) [.I q,.I e0,.I e1,.I y0,.I y1,.I y2,.I y3] 121⟩] [none,none,none] hS1 ?_
  clear hS1;intro nd
  repeat(first|refine zc1 ?_|refine zcn ?_|apply Az7 (ek:=eI) (ev:=eSs) (k:=cl);rfl;kernel_rfl;rfl;rfl;rfl;rfl;intro F;exact⟨_,by exact A6⟩;exact mS;exact kEi;exact zS;exact hss;refine frS ?_|refine zca ?_|refine zct ?_|refine cR ?_)
  refine Ad7 ?_;intro w hS;have hS2:St W [i8 _ _ _,ebB eb m1 m2 m3 m4,d9 eI eSs m2 ss,blk bO _ _,sats (blk bW _ _::blk bR _ _::d9 eW eTn m3 ts::d9 eW eU m4 ar::d9 eS eN m1 (j9 E)::l9 E::R)] w:=hS;clear hS;have hS:=hS2.unpack [_,_,_,_];clear hS2;simp only[jK,jN]at hS;generalize nd 10=v10 at *;have h1:=hS.ptr;clear hS;obtain⟨b7,rfl,hS⟩:=h1;go_wp2_with(first|refine zl1 hS ?_);have hS1:=hS.s (blk bR _ _::ebB eb m1 m2 m3 m4::d9 eW eU m4 ar::blk bW _ _::d9 eI eSs m2 ss::d9 eW eTn m3 ts::d9 eS eN m1 (j9 E)::l9 E::R);clear hS;refine rf3 tB24c (fun _=>false) (fun _=>none) [⟨some 7,none,fun _=>blk bR [.I 0,.I 0,.I 0,.I 0,.I 0,.I 0] 36⟩] [some 7,none,none,none] hS1 ?_;clear hS1;intro nd
  repeat(first|refine zc1 ?_|refine zcN ?_|refine zcn ?_|apply Az7 (ek:=eW) (ev:=eU) (k:=(cl,sq));rfl;kernel_rfl;rfl;rfl;rfl;rfl;intro F;exact⟨_,by exact A6⟩;exact mAr;exact kW;exact zA;exact har;refine frS ?_|refine zcs ?_|refine cR ?_)
  refine Ad7 ?_;intro w hS;have hS2:St W [blk bR _ _,ebB eb m1 m2 m3 m4,d9 eW eU m4 ar,blk bW _ _,sats (d9 eI eSs m2 ss::d9 eW eTn m3 ts::d9 eS eN m1 (j9 E)::l9 E::R)] w:=hS;clear hS;have hS:=hS2.unpack [_,_,_,_];clear hS2;simp only[jK,jN]at hS;go_wp2_with fail;apply Ac7;rfl;rfl;rfl;rfl;exact hS;decide +kernel;(exact r6);kernel_rfl;exact⟨rfl,E7 (hS.s (ebB eb m1 m2 m3 m4::d9 eS eN m1 (j9 E)::l9 E::d9 eI eSs m2 ss::d9 eW eTn m3 ts::d9 eW eU m4 ar::R))⟩
abbrev tB24b:List Nat:=[0,1,3,7,0,31,63,127,127,0,767,2047]
theorem KC7{k:Bool}(hk:(j6 ts (cl,sq)).isNone=k)(hm:w6 ⟨7,cl,sq,ak,aw,tk,tw,it,ct,pr,bu,id⟩=true)(hS:St W (ecR eb m1 m2 m3 m4 E ss ts ar R) w):
  Calls Tryz.prog 64 #[.P eb,oV 7 cl sq ak aw tk tw it ct pr bu id] w fun e w'=>e=.returned (.tuple #[rV 0 0 0 0 0 0,.bool k])/\St W (ecR eb m1 m2 m3 m4 E ss ts ar R) w':=by
 have hS0:=G8 hS;clear hS;have hS:=hS0;clear hS0
 cases hg:j6 ss cl with
 | none=>
  have hss:ad4 true (eSs (0,rp0)) ((j6 ss cl).map eSs)=.tuple #[eSs (0,rp0),.bool false]:=by rw[hg];rfl
  clear hg;go_enter Tryz.func64,Tryz.ntmps64;go_wp2_with(first|refine zbx hS ?_;clear hS;intro bO w hS|(fail_if_success (have:=gA));(refine zal hS ?_;clear hS;have gA:Nat:=0;intro bR w hS)|(have:=gA);refine zal hS ?_;clear hS;intro bW w hS|refine zl1 hS ?_|refine zlN hS ?_|refine zsN hS ?_;clear hS;intro w hS|go_at_call 108;refine(Ch7 hm W _ _ hS).mono ?_;clear hS;rintro e w ⟨rfl,hS⟩);have hS1:=hS.s (ebB eb m1 m2 m3 m4::d9 eI eSs m2 ss::blk bO _ _::blk bW _ _::blk bR _ _::d9 eW eTn m3 ts::d9 eW eU m4 ar::d9 eS eN m1 (j9 E)::l9 E::R);clear hS
  refine rf3 tB24a (fun i=>i==10) (fun _=>none)
   [⟨some 10,some 11,fun nd=>i8 (nd 10) [.I 0,.I 0,.I 0,.I 0,.I 0,.I 0,.I 0] 121⟩,⟨some 11,none,fun nd=>i8 (nd 10) [.I 0,.I 0,.I 0,.I 0,.I 0,.I 0,.I 0] 121⟩] [none,none,none] hS1 ?_
  clear hS1;intro nd
  repeat(first|refine zc1 ?_|refine zcn ?_|apply Az7 (ek:=eI) (ev:=eSs) (k:=cl);rfl;kernel_rfl;rfl;rfl;rfl;rfl;intro F;exact⟨_,by exact A6⟩;exact mS;exact kEi;exact zS;exact hss;refine frS ?_|refine zca ?_|refine zct ?_|refine cR ?_)
  refine Ad7 ?_;intro w hS;have hS2:St W [i8 _ _ _,ebB eb m1 m2 m3 m4,d9 eI eSs m2 ss,blk bO _ _,sats (blk bW _ _::blk bR _ _::d9 eW eTn m3 ts::d9 eW eU m4 ar::d9 eS eN m1 (j9 E)::l9 E::R)] w:=hS;clear hS;have hS:=hS2.unpack [_,_,_,_];clear hS2;simp only[jK,jN]at hS;generalize nd 10=v10 at *;have h1:=hS.ptr;clear hS;obtain⟨b7,rfl,hS⟩:=h1
  cases hgt:j6 ts (cl,sq)with
  | none=>
   rw[hgt]at hk;obtain rfl:true=k:=hk;have htt:ad4 true (eTn ⟨0,0,⟨#[]⟩,⟨#[]⟩,⟨#[]⟩,⟨#[]⟩,0,0⟩) ((j6 ts (cl,sq)).map eTn)=.tuple #[eTn ⟨0,0,⟨#[]⟩,⟨#[]⟩,⟨#[]⟩,⟨#[]⟩,0,0⟩,.bool false]:=by rw[hgt];rfl
   clear hgt;go_wp2_with(first|refine zl1 hS ?_);have hS1:=hS.s (ebB eb m1 m2 m3 m4::d9 eW eTn m3 ts::blk bW _ _::blk bR _ _::d9 eW eU m4 ar::d9 eI eSs m2 ss::d9 eS eN m1 (j9 E)::l9 E::R);clear hS
   refine rf3 tB24b (fun i=>i==9) (fun _=>none)
    [⟨some 9,some 10,fun nd=>i8 (nd 9) [.I 0,.I 0,.string ⟨#[]⟩,.string ⟨#[]⟩,.string ⟨#[]⟩,.string ⟨#[]⟩,.I 0,.I 0] 97⟩,⟨some 10,none,fun nd=>i8 (nd 9) [.I 0,.I 0,.string ⟨#[]⟩,.string ⟨#[]⟩,.string ⟨#[]⟩,.string ⟨#[]⟩,.I 0,.I 0] 97⟩] [none,none,none] hS1 ?_
   clear hS1;intro nd
   repeat(first|refine zc1 ?_|refine zcN ?_|refine zcn ?_|apply Az7 (ek:=eW) (ev:=eTn) (k:=(cl,sq));rfl;kernel_rfl;rfl;rfl;rfl;rfl;intro F;exact⟨_,by exact A6⟩;exact mT;exact kW;exact zT;exact htt;refine frS ?_|refine zca ?_|refine zct ?_|refine cR ?_)
   refine Ad7 ?_;intro w hS;have hS2:St W [i8 _ _ _,ebB eb m1 m2 m3 m4,d9 eW eTn m3 ts,blk bW _ _,sats (blk bR _ _::d9 eW eU m4 ar::d9 eI eSs m2 ss::d9 eS eN m1 (j9 E)::l9 E::R)] w:=hS;clear hS;have hS:=hS2.unpack [_,_,_,_];clear hS2;simp only[jK,jN]at hS;generalize nd 9=v9 at *;have h1:=hS.ptr;clear hS;obtain⟨b9,rfl,hS⟩:=h1;go_wp2_with(first|refine zsN hS ?_;clear hS;intro w hS);apply Ac7;rfl;rfl;rfl;rfl;exact hS;decide +kernel;(exact r6);kernel_rfl;exact⟨rfl,E7 (hS.s (ebB eb m1 m2 m3 m4::d9 eS eN m1 (j9 E)::l9 E::d9 eI eSs m2 ss::d9 eW eTn m3 ts::d9 eW eU m4 ar::R))⟩
  | some z=>
   rw[hgt]at hk;obtain rfl:false=k:=hk;obtain⟨z0,z1,z2,z3,z4,z5,z6,z7⟩:=z;have htt:ad4 true (eTn ⟨0,0,⟨#[]⟩,⟨#[]⟩,⟨#[]⟩,⟨#[]⟩,0,0⟩) ((j6 ts (cl,sq)).map eTn)=.tuple #[eTn ⟨z0,z1,z2,z3,z4,z5,z6,z7⟩,.bool true]:=by rw[hgt];rfl
   clear hgt;go_wp2_with(first|refine zl1 hS ?_);have hS1:=hS.s (ebB eb m1 m2 m3 m4::d9 eW eTn m3 ts::blk bW _ _::blk bR _ _::d9 eW eU m4 ar::d9 eI eSs m2 ss::d9 eS eN m1 (j9 E)::l9 E::R);clear hS
   refine rf3 tB24b (fun i=>i==9) (fun _=>none)
    [⟨some 9,some 10,fun nd=>i8 (nd 9) [.I 0,.I 0,.string ⟨#[]⟩,.string ⟨#[]⟩,.string ⟨#[]⟩,.string ⟨#[]⟩,.I 0,.I 0] 97⟩,⟨some 10,none,fun nd=>i8 (nd 9) [.I z0,.I z1,.string z2,.string z3,.string z4,.string z5,.I z6,.I z7] 97⟩] [none,none,none] hS1 ?_
   clear hS1;intro nd
   repeat(first|refine zc1 ?_|refine zcN ?_|refine zcn ?_|apply Az7 (ek:=eW) (ev:=eTn) (k:=(cl,sq));rfl;kernel_rfl;rfl;rfl;rfl;rfl;intro F;exact⟨_,by exact A6⟩;exact mT;exact kW;exact zT;exact htt;refine frS ?_|refine zca ?_|refine zct ?_|refine cR ?_)
   refine Ad7 ?_;intro w hS;have hS2:St W [i8 _ _ _,ebB eb m1 m2 m3 m4,d9 eW eTn m3 ts,blk bW _ _,sats (blk bR _ _::d9 eW eU m4 ar::d9 eI eSs m2 ss::d9 eS eN m1 (j9 E)::l9 E::R)] w:=hS;clear hS;have hS:=hS2.unpack [_,_,_,_];clear hS2;simp only[jK,jN]at hS;generalize nd 9=v9 at *;have h1:=hS.ptr;clear hS;obtain⟨b9,rfl,hS⟩:=h1;go_wp2_with(first|refine zsN hS ?_;clear hS;intro w hS);apply Ac7;rfl;rfl;rfl;rfl;exact hS;decide +kernel;(exact r6);kernel_rfl;exact⟨rfl,E7 (hS.s (ebB eb m1 m2 m3 m4::d9 eS eN m1 (j9 E)::l9 E::d9 eI eSs m2 ss::d9 eW eTn m3 ts::d9 eW eU m4 ar::R))⟩
 | some x=>
  obtain⟨q,e0,e1,⟨y0,y1,y2,y3⟩⟩:=x;have hss:ad4 true (eSs (0,rp0)) ((j6 ss cl).map eSs)=.tuple #[eSs (q,⟨e0,e1,⟨y0,y1,y2,y3⟩⟩),.bool true]:=by rw[hg];rfl
  clear hg;go_enter Tryz.func64,Tryz.ntmps64;go_wp2_with(first|refine zbx hS ?_;clear hS;intro bO w hS|(fail_if_success (have:=gA));(refine zal hS ?_;clear hS;have gA:Nat:=0;intro bR w hS)|(have:=gA);refine zal hS ?_;clear hS;intro bW w hS|refine zl1 hS ?_|refine zlN hS ?_|refine zsN hS ?_;clear hS;intro w hS|go_at_call 108;refine(Ch7 hm W _ _ hS).mono ?_;clear hS;rintro e w ⟨rfl,hS⟩);have hS1:=hS.s (ebB eb m1 m2 m3 m4::d9 eI eSs m2 ss::blk bO _ _::blk bW _ _::blk bR _ _::d9 eW eTn m3 ts::d9 eW eU m4 ar::d9 eS eN m1 (j9 E)::l9 E::R);clear hS
  refine rf3 tB24a (fun i=>i==10) (fun _=>none)
   [⟨some 10,some 11,fun nd=>i8 (nd 10) [.I 0,.I 0,.I 0,.I 0,.I 0,.I 0,.I 0] 121⟩,⟨some 11,none,fun nd=>i8 (nd 10) [.I q,.I e0,.I e1,.I y0,.I y1,.I y2,.I y3] 121⟩] [none,none,none] hS1 ?_
  clear hS1;intro nd
  repeat(first|refine zc1 ?_|refine zcn ?_|apply Az7 (ek:=eI) (ev:=eSs) (k:=cl);rfl;kernel_rfl;rfl;rfl;rfl;rfl;intro F;exact⟨_,by exact A6⟩;exact mS;exact kEi;exact zS;exact hss;refine frS ?_|refine zca ?_|refine zct ?_|refine cR ?_)
  refine Ad7 ?_;intro w hS;have hS2:St W [i8 _ _ _,ebB eb m1 m2 m3 m4,d9 eI eSs m2 ss,blk bO _ _,sats (blk bW _ _::blk bR _ _::d9 eW eTn m3 ts::d9 eW eU m4 ar::d9 eS eN m1 (j9 E)::l9 E::R)] w:=hS;clear hS;have hS:=hS2.unpack [_,_,_,_];clear hS2;simp only[jK,jN]at hS;generalize nd 10=v10 at *;have h1:=hS.ptr;clear hS;obtain⟨b7,rfl,hS⟩:=h1
  cases hgt:j6 ts (cl,sq)with
  | none=>
   rw[hgt]at hk;obtain rfl:true=k:=hk;have htt:ad4 true (eTn ⟨0,0,⟨#[]⟩,⟨#[]⟩,⟨#[]⟩,⟨#[]⟩,0,0⟩) ((j6 ts (cl,sq)).map eTn)=.tuple #[eTn ⟨0,0,⟨#[]⟩,⟨#[]⟩,⟨#[]⟩,⟨#[]⟩,0,0⟩,.bool false]:=by rw[hgt];rfl
   clear hgt;go_wp2_with(first|refine zl1 hS ?_);have hS1:=hS.s (ebB eb m1 m2 m3 m4::d9 eW eTn m3 ts::blk bW _ _::blk bR _ _::d9 eW eU m4 ar::d9 eI eSs m2 ss::d9 eS eN m1 (j9 E)::l9 E::R);clear hS
   refine rf3 tB24b (fun i=>i==9) (fun _=>none)
    [⟨some 9,some 10,fun nd=>i8 (nd 9) [.I 0,.I 0,.string ⟨#[]⟩,.string ⟨#[]⟩,.string ⟨#[]⟩,.string ⟨#[]⟩,.I 0,.I 0] 97⟩,⟨some 10,none,fun nd=>i8 (nd 9) [.I 0,.I 0,.string ⟨#[]⟩,.string ⟨#[]⟩,.string ⟨#[]⟩,.string ⟨#[]⟩,.I 0,.I 0] 97⟩] [none,none,none] hS1 ?_
   clear hS1;intro nd
   repeat(first|refine zc1 ?_|refine zcN ?_|refine zcn ?_|apply Az7 (ek:=eW) (ev:=eTn) (k:=(cl,sq));rfl;kernel_rfl;rfl;rfl;rfl;rfl;intro F;exact⟨_,by exact A6⟩;exact mT;exact kW;exact zT;exact htt;refine frS ?_|refine zca ?_|refine zct ?_|refine cR ?_)
   refine Ad7 ?_;intro w hS;have hS2:St W [i8 _ _ _,ebB eb m1 m2 m3 m4,d9 eW eTn m3 ts,blk bW _ _,sats (blk bR _ _::d9 eW eU m4 ar::d9 eI eSs m2 ss::d9 eS eN m1 (j9 E)::l9 E::R)] w:=hS;clear hS;have hS:=hS2.unpack [_,_,_,_];clear hS2;simp only[jK,jN]at hS;generalize nd 9=v9 at *;have h1:=hS.ptr;clear hS;obtain⟨b9,rfl,hS⟩:=h1;go_wp2_with(first|refine zsN hS ?_;clear hS;intro w hS);apply Ac7;rfl;rfl;rfl;rfl;exact hS;decide +kernel;(exact r6);kernel_rfl;exact⟨rfl,E7 (hS.s (ebB eb m1 m2 m3 m4::d9 eS eN m1 (j9 E)::l9 E::d9 eI eSs m2 ss::d9 eW eTn m3 ts::d9 eW eU m4 ar::R))⟩
  | some z=>
   rw[hgt]at hk;obtain rfl:false=k:=hk;obtain⟨z0,z1,z2,z3,z4,z5,z6,z7⟩:=z;have htt:ad4 true (eTn ⟨0,0,⟨#[]⟩,⟨#[]⟩,⟨#[]⟩,⟨#[]⟩,0,0⟩) ((j6 ts (cl,sq)).map eTn)=.tuple #[eTn ⟨z0,z1,z2,z3,z4,z5,z6,z7⟩,.bool true]:=by rw[hgt];rfl
   clear hgt;go_wp2_with(first|refine zl1 hS ?_);have hS1:=hS.s (ebB eb m1 m2 m3 m4::d9 eW eTn m3 ts::blk bW _ _::blk bR _ _::d9 eW eU m4 ar::d9 eI eSs m2 ss::d9 eS eN m1 (j9 E)::l9 E::R);clear hS
   refine rf3 tB24b (fun i=>i==9) (fun _=>none)
    [⟨some 9,some 10,fun nd=>i8 (nd 9) [.I 0,.I 0,.string ⟨#[]⟩,.string ⟨#[]⟩,.string ⟨#[]⟩,.string ⟨#[]⟩,.I 0,.I 0] 97⟩,⟨some 10,none,fun nd=>i8 (nd 9) [.I z0,.I z1,.string z2,.string z3,.string z4,.string z5,.I z6,.I z7] 97⟩] [none,none,none] hS1 ?_
   clear hS1;intro nd
   repeat(first|refine zc1 ?_|refine zcN ?_|refine zcn ?_|apply Az7 (ek:=eW) (ev:=eTn) (k:=(cl,sq));rfl;kernel_rfl;rfl;rfl;rfl;rfl;intro F;exact⟨_,by exact A6⟩;exact mT;exact kW;exact zT;exact htt;refine frS ?_|refine zca ?_|refine zct ?_|refine cR ?_)
   refine Ad7 ?_;intro w hS;have hS2:St W [i8 _ _ _,ebB eb m1 m2 m3 m4,d9 eW eTn m3 ts,blk bW _ _,sats (blk bR _ _::d9 eW eU m4 ar::d9 eI eSs m2 ss::d9 eS eN m1 (j9 E)::l9 E::R)] w:=hS;clear hS;have hS:=hS2.unpack [_,_,_,_];clear hS2;simp only[jK,jN]at hS;generalize nd 9=v9 at *;have h1:=hS.ptr;clear hS;obtain⟨b9,rfl,hS⟩:=h1;go_wp2_with(first|refine zsN hS ?_;clear hS;intro w hS);apply Ac7;rfl;rfl;rfl;rfl;exact hS;decide +kernel;(exact r6);kernel_rfl;exact⟨rfl,E7 (hS.s (ebB eb m1 m2 m3 m4::d9 eS eN m1 (j9 E)::l9 E::d9 eI eSs m2 ss::d9 eW eTn m3 ts::d9 eW eU m4 ar::R))⟩
theorem Mp7{r:Rpl}{k:Bool}(hm:w6 ⟨kd,cl,sq,ak,aw,tk,tw,it,ct,pr,bu,id⟩=true)(h6:(kd==6)=false)(h7:(kd==7)=false)
  (h:(match j6 ss cl with|none=>(rp0,false)|some (q,r)=>if sq<q then(⟨13,0,it0⟩,true)else if sq=q then(r,true)else(rp0,false))=(r,k)) (hS:St W (ecR eb m1 m2 m3 m4 E ss ts ar R) w):
  Calls Tryz.prog 64 #[.P eb,oV kd cl sq ak aw tk tw it ct pr bu id] w fun e w'=>e=.returned (.tuple #[rV r.err r.id r.has.x0 r.has.x1 r.has.x2 r.has.x3,.bool k])/\St W (ecR eb m1 m2 m3 m4 E ss ts ar R) w':=by
 have hS0:=G8 hS;clear hS;have hS:=hS0;clear hS0
 cases hg:j6 ss cl with
 | none=>
  have hss:ad4 true (eSs (0,rp0)) ((j6 ss cl).map eSs)=.tuple #[eSs (0,rp0),.bool false]:=by rw[hg];rfl
  rw[hg]at h
  cases h
  clear hg;go_enter Tryz.func64,Tryz.ntmps64;go_wp2_with(first|refine zbx hS ?_;clear hS;intro bO w hS|(fail_if_success (have:=gA));(refine zal hS ?_;clear hS;have gA:Nat:=0;intro bR w hS)|(have:=gA);refine zal hS ?_;clear hS;intro bW w hS|refine zl1 hS ?_|refine zlN hS ?_|refine zsN hS ?_;clear hS;intro w hS|go_at_call 108;refine(Ch7 hm W _ _ hS).mono ?_;clear hS;rintro e w ⟨rfl,hS⟩);have hS1:=hS.s (ebB eb m1 m2 m3 m4::d9 eI eSs m2 ss::blk bO _ _::blk bW _ _::blk bR _ _::d9 eW eTn m3 ts::d9 eW eU m4 ar::d9 eS eN m1 (j9 E)::l9 E::R);clear hS
  refine rf3 tB24a (fun i=>i==10) (fun _=>none)
   [⟨some 10,some 11,fun nd=>i8 (nd 10) [.I 0,.I 0,.I 0,.I 0,.I 0,.I 0,.I 0] 121⟩,⟨some 11,none,fun nd=>i8 (nd 10) [.I 0,.I 0,.I 0,.I 0,.I 0,.I 0,.I 0] 121⟩] [none,none,none] hS1 ?_
  clear hS1;intro nd
  repeat(first|refine zc1 ?_|refine zcn ?_|apply Az7 (ek:=eI) (ev:=eSs) (k:=cl);rfl;kernel_rfl;rfl;rfl;rfl;rfl;intro F;exact⟨_,by exact A6⟩;exact mS;exact kEi;exact zS;exact hss;refine frS ?_|refine zca ?_|refine zct ?_|refine cR ?_)
  refine Ad7 ?_;intro w hS;have hS2:St W [i8 _ _ _,ebB eb m1 m2 m3 m4,d9 eI eSs m2 ss,blk bO _ _,sats (blk bW _ _::blk bR _ _::d9 eW eTn m3 ts::d9 eW eU m4 ar::d9 eS eN m1 (j9 E)::l9 E::R)] w:=hS;clear hS;have hS:=hS2.unpack [_,_,_,_];clear hS2;simp only[jK,jN]at hS;generalize nd 10=v10 at *;have h1:=hS.ptr;clear hS;obtain⟨b7,rfl,hS⟩:=h1;go_wp2_with(first|go_big_skip|refine zl1 hS ?_|refine zsN hS ?_;clear hS;intro w hS);apply Ac7;rfl;rfl;rfl;rfl;exact hS;decide +kernel;(exact r6);kernel_rfl;exact⟨rfl,E7 (hS.s (ebB eb m1 m2 m3 m4::d9 eS eN m1 (j9 E)::l9 E::d9 eI eSs m2 ss::d9 eW eTn m3 ts::d9 eW eU m4 ar::R))⟩
 | some x=>
  obtain⟨q,e0,e1,⟨y0,y1,y2,y3⟩⟩:=x;have hss:ad4 true (eSs (0,rp0)) ((j6 ss cl).map eSs)=.tuple #[eSs (q,⟨e0,e1,⟨y0,y1,y2,y3⟩⟩),.bool true]:=by rw[hg];rfl
  rw[hg]at h;clear hg;simp only at h;by_cases hl:sq<q
  ·rw[if_pos hl]at h
   cases h
   go_enter Tryz.func64,Tryz.ntmps64;go_wp2_with(first|refine zbx hS ?_;clear hS;intro bO w hS|(fail_if_success (have:=gA));(refine zal hS ?_;clear hS;have gA:Nat:=0;intro bR w hS)|(have:=gA);refine zal hS ?_;clear hS;intro bW w hS|refine zl1 hS ?_|refine zlN hS ?_|refine zsN hS ?_;clear hS;intro w hS|go_at_call 108;refine(Ch7 hm W _ _ hS).mono ?_;clear hS;rintro e w ⟨rfl,hS⟩);have hS1:=hS.s (ebB eb m1 m2 m3 m4::d9 eI eSs m2 ss::blk bO _ _::blk bW _ _::blk bR _ _::d9 eW eTn m3 ts::d9 eW eU m4 ar::d9 eS eN m1 (j9 E)::l9 E::R);clear hS
   refine rf3 tB24a (fun i=>i==10) (fun _=>none)
    [⟨some 10,some 11,fun nd=>i8 (nd 10) [.I 0,.I 0,.I 0,.I 0,.I 0,.I 0,.I 0] 121⟩,⟨some 11,none,fun nd=>i8 (nd 10) [.I q,.I e0,.I e1,.I y0,.I y1,.I y2,.I y3] 121⟩] [none,none,none] hS1 ?_
   clear hS1;intro nd
   repeat(first|refine zc1 ?_|refine zcn ?_|apply Az7 (ek:=eI) (ev:=eSs) (k:=cl);rfl;kernel_rfl;rfl;rfl;rfl;rfl;intro F;exact⟨_,by exact A6⟩;exact mS;exact kEi;exact zS;exact hss;refine frS ?_|refine zca ?_|refine zct ?_|refine cR ?_)
   refine Ad7 ?_;intro w hS;have hS2:St W [i8 _ _ _,ebB eb m1 m2 m3 m4,d9 eI eSs m2 ss,blk bO _ _,sats (blk bW _ _::blk bR _ _::d9 eW eTn m3 ts::d9 eW eU m4 ar::d9 eS eN m1 (j9 E)::l9 E::R)] w:=hS;clear hS;have hS:=hS2.unpack [_,_,_,_];clear hS2;simp only[jK,jN]at hS;generalize nd 10=v10 at *;have h1:=hS.ptr;clear hS;obtain⟨b7,rfl,hS⟩:=h1;go_wp2_with(first|refine zl1 hS ?_|refine zsN hS ?_;clear hS;intro w hS);apply Ac7;rfl;rfl;rfl;rfl;exact hS;decide +kernel;(exact r6);kernel_rfl;exact⟨rfl,E7 (hS.s (ebB eb m1 m2 m3 m4::d9 eS eN m1 (j9 E)::l9 E::d9 eI eSs m2 ss::d9 eW eTn m3 ts::d9 eW eU m4 ar::R))⟩
  ·have d1:decide (sq<q)=false:=by simpa using hl
   rw[if_neg hl]at h;by_cases he:sq=q
   ·rw[if_pos he]at h
    cases h
    subst he;go_enter Tryz.func64,Tryz.ntmps64;go_wp2_with(first|refine zbx hS ?_;clear hS;intro bO w hS|(fail_if_success (have:=gA));(refine zal hS ?_;clear hS;have gA:Nat:=0;intro bR w hS)|(have:=gA);refine zal hS ?_;clear hS;intro bW w hS|refine zl1 hS ?_|refine zlN hS ?_|refine zsN hS ?_;clear hS;intro w hS|go_at_call 108;refine(Ch7 hm W _ _ hS).mono ?_;clear hS;rintro e w ⟨rfl,hS⟩);have hS1:=hS.s (ebB eb m1 m2 m3 m4::d9 eI eSs m2 ss::blk bO _ _::blk bW _ _::blk bR _ _::d9 eW eTn m3 ts::d9 eW eU m4 ar::d9 eS eN m1 (j9 E)::l9 E::R);clear hS
    refine rf3 tB24a (fun i=>i==10) (fun _=>none)
     [⟨some 10,some 11,fun nd=>i8 (nd 10) [.I 0,.I 0,.I 0,.I 0,.I 0,.I 0,.I 0] 121⟩,⟨some 11,none,fun nd=>i8 (nd 10) [.I sq,.I e0,.I e1,.I y0,.I y1,.I y2,.I y3] 121⟩] [none,none,none] hS1 ?_
    clear hS1;intro nd
    repeat(first|refine zc1 ?_|refine zcn ?_|apply Az7 (ek:=eI) (ev:=eSs) (k:=cl);rfl;kernel_rfl;rfl;rfl;rfl;rfl;intro F;exact⟨_,by exact A6⟩;exact mS;exact kEi;exact zS;exact hss;refine frS ?_|refine zca ?_|refine zct ?_|refine cR ?_)
    refine Ad7 ?_;intro w hS;have hS2:St W [i8 _ _ _,ebB eb m1 m2 m3 m4,d9 eI eSs m2 ss,blk bO _ _,sats (blk bW _ _::blk bR _ _::d9 eW eTn m3 ts::d9 eW eU m4 ar::d9 eS eN m1 (j9 E)::l9 E::R)] w:=hS;clear hS;have hS:=hS2.unpack [_,_,_,_];clear hS2;simp only[jK,jN]at hS;generalize nd 10=v10 at *;have h1:=hS.ptr;clear hS;obtain⟨b7,rfl,hS⟩:=h1;go_wp2_with(first|refine zl1 hS ?_|refine zlN hS ?_ (vs:=[.I e0,.I e1,.I y0,.I y1,.I y2,.I y3]) (hc:=d8.here rfl)|refine zsN hS ?_;clear hS;intro w hS);apply Ac7;rfl;rfl;rfl;rfl;exact hS;decide +kernel;(exact r6);kernel_rfl;exact⟨rfl,E7 (hS.s (ebB eb m1 m2 m3 m4::d9 eS eN m1 (j9 E)::l9 E::d9 eI eSs m2 ss::d9 eW eTn m3 ts::d9 eW eU m4 ar::R))⟩
   ·have d2:(sq==q)=false:=by simpa using he
    rw[if_neg he]at h
    cases h
    clear hl he;go_enter Tryz.func64,Tryz.ntmps64;go_wp2_with(first|refine zbx hS ?_;clear hS;intro bO w hS|(fail_if_success (have:=gA));(refine zal hS ?_;clear hS;have gA:Nat:=0;intro bR w hS)|(have:=gA);refine zal hS ?_;clear hS;intro bW w hS|refine zl1 hS ?_|refine zlN hS ?_|refine zsN hS ?_;clear hS;intro w hS|go_at_call 108;refine(Ch7 hm W _ _ hS).mono ?_;clear hS;rintro e w ⟨rfl,hS⟩);have hS1:=hS.s (ebB eb m1 m2 m3 m4::d9 eI eSs m2 ss::blk bO _ _::blk bW _ _::blk bR _ _::d9 eW eTn m3 ts::d9 eW eU m4 ar::d9 eS eN m1 (j9 E)::l9 E::R);clear hS
    refine rf3 tB24a (fun i=>i==10) (fun _=>none)
     [⟨some 10,some 11,fun nd=>i8 (nd 10) [.I 0,.I 0,.I 0,.I 0,.I 0,.I 0,.I 0] 121⟩,⟨some 11,none,fun nd=>i8 (nd 10) [.I q,.I e0,.I e1,.I y0,.I y1,.I y2,.I y3] 121⟩] [none,none,none] hS1 ?_
    clear hS1;intro nd
    repeat(first|refine zc1 ?_|refine zcn ?_|apply Az7 (ek:=eI) (ev:=eSs) (k:=cl);rfl;kernel_rfl;rfl;rfl;rfl;rfl;intro F;exact⟨_,by exact A6⟩;exact mS;exact kEi;exact zS;exact hss;refine frS ?_|refine zca ?_|refine zct ?_|refine cR ?_)
    refine Ad7 ?_;intro w hS;have hS2:St W [i8 _ _ _,ebB eb m1 m2 m3 m4,d9 eI eSs m2 ss,blk bO _ _,sats (blk bW _ _::blk bR _ _::d9 eW eTn m3 ts::d9 eW eU m4 ar::d9 eS eN m1 (j9 E)::l9 E::R)] w:=hS;clear hS;have hS:=hS2.unpack [_,_,_,_];clear hS2;simp only[jK,jN]at hS;generalize nd 10=v10 at *;have h1:=hS.ptr;clear hS;obtain⟨b7,rfl,hS⟩:=h1;go_wp2_with(first|refine zl1 hS ?_|refine zsN hS ?_;clear hS;intro w hS);apply Ac7;rfl;rfl;rfl;rfl;exact hS;decide +kernel;(exact r6);kernel_rfl;exact⟨rfl,E7 (hS.s (ebB eb m1 m2 m3 m4::d9 eS eN m1 (j9 E)::l9 E::d9 eI eSs m2 ss::d9 eW eTn m3 ts::d9 eW eU m4 ar::R))⟩
end
theorem AW7{eb m1 m2 m3 m4:Nat}{E:Ev}{vs:List (ByteArray×Vs)}{kd cl sq:Int}{ak aw tk tw:ByteArray}{it ct pr:Int}{bu:Bool}{id:Int}{ss:List (Int×(Int×Rpl))}{ts:List ((Int×Int)×Tns)}{ar:List ((Int×Int)×Unit)}{r:Rpl}{k:Bool}
  (h:G7 ⟨vs,ss,ts,ar⟩ ⟨kd,cl,sq,ak,aw,tk,tw,it,ct,pr,bu,id⟩=(r,k)) (W w:World) (R:List HP) (hS:St W (ecR eb m1 m2 m3 m4 E ss ts ar R) w):
  Calls Tryz.prog 64 #[.P eb,oV kd cl sq ak aw tk tw it ct pr bu id] w fun e w'=>e=.returned (.tuple #[rV r.err r.id r.has.x0 r.has.x1 r.has.x2 r.has.x3,.bool k])/\St W (ecR eb m1 m2 m3 m4 E ss ts ar R) w':=by
 unfold G7 at h
 cases hm:w6 ⟨kd,cl,sq,ak,aw,tk,tw,it,ct,pr,bu,id⟩with
 | false=>
  rw[if_pos hm]at h
  cases h
  exact Qg7 kd cl sq ak aw tk tw it ct pr bu id ss ts ar W w R hm hS
 | true=>
  rw[if_neg (by rw[hm];exact Bool.noConfusion)]at h;dsimp only at h;by_cases h6:kd=6
  ·rw[if_pos h6]at h
   cases h
   subst h6;exact Ol7 cl sq ak aw tk tw it ct pr bu id ss ts ar W w R hm hS
  ·rw[if_neg h6]at h;by_cases h7:kd=7
   ·rw[if_pos h7]at h
    cases h
    subst h7;exact KC7 cl sq ak aw tk tw it ct pr bu id ss ts ar W w R rfl hm hS
   ·rw[if_neg h7]at h;exact Mp7 kd cl sq ak aw tk tw it ct pr bu id ss ts ar W w R hm (by simpa using h6) (by simpa using h7) h hS
end Go.Proofs.YtienbkdjkjbelaaGreat
end
