/-
  The document's May.
-/
import Derived.Test.YtlmhakmoioogaaaGreatEconDcM4
import Derived.Test.YtlmhakmoioogaaaGreatEconDcM14
import Derived.Test.YtlmhakmoioogaaaGreatEconDcM15
import Derived.Test.YtlmhakmoioogaaaGreatEconDcM19
import Derived.Test.YtlmhakmoioogaaaGreatEconDcM21
import Derived.Test.YtlmhakmoioogaaaGreatProg
import Derived.Shelf.SlIter.Nil
import Derived.Shelf.SlIterI.Nil
import Derived.Shelf.SortM.Plain
import Derived.Shelf.SortM.SortNone
import Derived.Ground.GgzProg
import Derived.Ground.SlgmProg
set_option maxHeartbeats 16000000
set_option maxRecDepth 100000
set_option linter.unusedSimpArgs false
set_option linter.unusedVariables false
section
namespace Go.Proofs.YtlmhakmoioogaaaGreat
open Go.RowKit Go.Sl
theorem BC7{k:ByteArray}{r:Bool}(h:y5 k=r)(W w:World)(R:List HP)(hS:St W R w):
  Calls Tryz.prog 115 #[.string k] w fun e w'=>e=.returned (.bool r)/\St W R w':=by
 go_enter Tryz.func115,Tryz.ntmps115;by_cases h1:1<=k.size
 case neg=>
  have e:=jH (show r=false by rw[<-h];unfold y5;simp;omega);have d1:decide ((1:Int)<=(k.size:Int))=false:=by simp;omega
  clear h;go_wp2_with(fail);go_ret;rw[e.out];exact⟨rfl,hS⟩
 have d1:(1:Int)<=(k.size:Int):=by omega
 by_cases h2:k.size<=16
 case neg=>
  have e:=jH (show r=false by rw[<-h];unfold y5;simp;omega);have d2:decide ((k.size:Int)<=16)=false:=by simp;omega
  clear h;go_wp2_with(fail);go_ret;rw[e.out];exact⟨rfl,hS⟩
 have d2:(k.size:Int)<=16:=by omega
 have e:=jH (show r=true by rw[<-h];unfold y5;simp;omega);clear h;go_wp2_with(fail);go_ret;rw[e.out];exact⟨rfl,hS⟩
theorem Bc7{k u:ByteArray}{r:Bool}(h:ax4 k u=r)(W w:World)(R:List HP)(hS:St W R w):
  Calls Tryz.prog 179 #[.agg #[.string k,.string u]] w fun e w'=>e=.returned (.bool r)/\St W R w':=by
 unfold ax4 at h
 cases hk:y5 k with
 | false=>
  rw[hk]at h;have h2:false=r:=h;subst h2;have Hk:=jH hk;clear hk h;go_enter Tryz.func179,Tryz.ntmps179;go_wp2_with(first|go_big_skip|refine zbx hS ?_;clear hS;intro b w hS|refine zl1 hS ?_|go_at_call 115;with_reducible refine(BC7 (Hk.out) W _ _ hS).mono ?_;clear hS;rintro e w ⟨rfl,hS⟩);go_ret;exact⟨rfl,hS.drop⟩
 | true=>
  rw[hk]at h;have hu:y5 u=r:=h;have Hk:=jH hk;have Hu:=jH hu;clear hk h hu;go_enter Tryz.func179,Tryz.ntmps179;go_wp2_with(first|refine zbx hS ?_;clear hS;intro b w hS|refine zl1 hS ?_|go_at_call 115;with_reducible refine(BC7 (Hk.out) W _ _ hS).mono ?_;clear hS;rintro e w ⟨rfl,hS⟩|go_at_call 115;with_reducible refine(BC7 (Hu.out) W _ _ hS).mono ?_;clear hS;rintro e w ⟨rfl,hS⟩);go_ret;exact⟨rfl,hS.drop⟩
theorem Da7{a0 a1 a2 a7 a8 a9 a11 b0 b1 b2 b7 b8 b9 b11:Int}{a3 a4 a5 a6 b3 b4 b5 b6:ByteArray}{a10 b10 r:Bool}(h:Opn.eqB ⟨a0,a1,a2,a3,a4,a5,a6,a7,a8,a9,a10,a11⟩ ⟨b0,b1,b2,b3,b4,b5,b6,b7,b8,b9,b10,b11⟩=r)(w:World):
  (Op.equalIn 10000 35 (oV a0 a1 a2 a3 a4 a5 a6 a7 a8 a9 a10 a11) (oV b0 b1 b2 b3 b4 b5 b6 b7 b8 b9 b10 b11)).run Tryz.prog w=.ok r w:=h▸fJ4 ⟨a0,a1,a2,a3,a4,a5,a6,a7,a8,a9,a10,a11⟩ ⟨b0,b1,b2,b3,b4,b5,b6,b7,b8,b9,b10,b11⟩ w
abbrev tB21a:List Nat:=[0,1,0,4,3,19,63,127]
theorem It7{kd cl sq:Int}{ak aw tk tw:ByteArray}{it ct pr:Int}{bu:Bool}{id:Int}{r:Bool}(hm:A8 ⟨kd,cl,sq,ak,aw,tk,tw,it,ct,pr,bu,id⟩=r)(W w:World)(R:List HP)(hS:St W R w):
  Calls Tryz.prog 113 #[oV kd cl sq ak aw tk tw it ct pr bu id] w fun e w'=>e=.returned (.bool r)/\St W R w':=by
 have Hm:=jH hm;clear hm;go_enter Tryz.func113,Tryz.ntmps113;by_cases h1:1<=cl
 case neg=>
  have d1:decide (cl<1)=true:=by simp;omega
  have e:=jH (show r=false by rw[<-Hm.out];refine EH7 ?_;unfold G6;simp;omega);go_wp2_with(first|go_big_skip|refine zbx hS ?_;clear hS;intro bO w hS|refine zl1 hS ?_);go_ret;rw[e.out];exact⟨rfl,hS.drop⟩
 have d1:decide (cl<1)=false:=by simp;omega
 by_cases h2:cl<=1048576
 case neg=>
  have d2:decide (1048576<cl)=true:=by simp;omega
  have e:=jH (show r=false by rw[<-Hm.out];refine EH7 ?_;unfold G6;simp;omega);go_wp2_with(first|go_big_skip|refine zbx hS ?_;clear hS;intro bO w hS|refine zl1 hS ?_);go_ret;rw[e.out];exact⟨rfl,hS.drop⟩
 have d2:decide (1048576<cl)=false:=by simp;omega
 by_cases h3:1<=sq
 case neg=>
  have d3:decide (sq<1)=true:=by simp;omega
  have e:=jH (show r=false by rw[<-Hm.out];refine EH7 ?_;unfold G6;simp;omega);go_wp2_with(first|go_big_skip|refine zbx hS ?_;clear hS;intro bO w hS|refine zl1 hS ?_);go_ret;rw[e.out];exact⟨rfl,hS.drop⟩
 have d3:decide (sq<1)=false:=by simp;omega
 by_cases h4:sq<=1099511627776
 case neg=>
  have d4:decide (1099511627776<sq)=true:=by simp;omega
  have e:=jH (show r=false by rw[<-Hm.out];refine EH7 ?_;unfold G6;simp;omega);go_wp2_with(first|go_big_skip|refine zbx hS ?_;clear hS;intro bO w hS|refine zl1 hS ?_);go_ret;rw[e.out];exact⟨rfl,hS.drop⟩
 have d4:decide (1099511627776<sq)=false:=by simp;omega
 cases hpa:ax4 ak aw with
 | false=>
  have Hpa:=jH hpa;have e:=jH (show r=false by rw[<-Hm.out];refine EH7 ?_;unfold G6;simp[hpa]);go_wp2_with(first|refine zbx hS ?_;clear hS;intro bO w hS|refine zl1 hS ?_|refine zlN hS ?_ (vs:=[.string ak,.string aw]) (hc:=by focus((repeat(first|exact d7.here rfl|apply d7.there));done))|go_at_call 179;with_reducible refine(Bc7 Hpa.out W _ _ hS).mono ?_;clear hS;rintro e w ⟨rfl,hS⟩);go_ret;rw[e.out];exact⟨rfl,hS.drop⟩
 | true=>
 have Hpa:=jH hpa;have hh:G6 ⟨kd,cl,sq,ak,aw,tk,tw,it,ct,pr,bu,id⟩=true:=by unfold G6;simp[hpa];omega
 have Hh:=jH hh;clear hpa hh h1 h2 h3 h4;by_cases k1:kd=1
 ·subst k1;go_wp2_with(first|refine zbx hS ?_;clear hS;intro bO w hS|refine zl1 hS ?_|refine zlN hS ?_ (vs:=[.string ak,.string aw]) (hc:=by focus((repeat(first|exact d7.here rfl|apply d7.there));done))|go_at_call 179;with_reducible refine(Bc7 Hpa.out W _ _ hS).mono ?_;clear hS;rintro e w ⟨rfl,hS⟩|refine zal hS ?_;clear hS;intro bX w hS|refine zsN hS ?_;clear hS;intro w hS);have hS1:=hS.s (blk bX _ _::blk bO _ _::R);clear hS;refine rf2 tB21a (fun _=>false) [⟨some 5,some 7,fun _=>blk bX [.I 1,.I cl,.I sq,.string ak,.string aw,.string ⟨#[]⟩,.string ⟨#[]⟩,.I it,.I 0,.I 0,.bool false,.I 0] 35⟩,⟨some 7,none,fun _=>blk bX [.I 1,.I cl,.I sq,.string ak,.string aw,.string ⟨#[]⟩,.string ⟨#[]⟩,.I it,.I ct,.I 0,.bool false,.I 0] 35⟩] [some 5,none] hS1 ?_;clear hS1;intro nd;refine cR ?_;refine zc1 ?_;refine cR ?_;refine zc1 ?_;refine cR ?_;refine zcs ?_;refine cR ?_;refine zcs ?_;refine Ac7 ?_;intro w hS;have hS2:St W [blk bX _ _,blk bO _ _,sats R] w:=hS;clear hS;have hS:=hS2.unpack [_,_];clear hS2;simp only[jK,jN]at hS;by_cases c1:0<=it
  case neg=>
   have d1:decide (0<=it)=false:=by simpa using c1
   have e:=jH (show r=false by rw[<-Hm.out];exact FG7 Hh.out (.inl rfl) (by unfold K7;simp;omega));go_wp2_with(first|go_big_skip|refine zl1 hS ?_);go_ret;rw[e.out];exact⟨rfl,hS.drop.drop⟩
  by_cases c2:it<=3
  case neg=>
   have d2:decide (it<=3)=false:=by simpa using c2
   have e:=jH (show r=false by rw[<-Hm.out];exact FG7 Hh.out (.inl rfl) (by unfold K7;simp;omega));go_wp2_with(first|go_big_skip|refine zl1 hS ?_);go_ret;rw[e.out];exact⟨rfl,hS.drop.drop⟩
  by_cases c3:1<=ct
  case neg=>
   have d3:decide (1<=ct)=false:=by simpa using c3
   have e:=jH (show r=false by rw[<-Hm.out];exact FG7 Hh.out (.inl rfl) (by unfold K7;simp;omega));go_wp2_with(first|go_big_skip|refine zl1 hS ?_);go_ret;rw[e.out];exact⟨rfl,hS.drop.drop⟩
  by_cases c4:ct<=1048576
  case neg=>
   have d4:decide (ct<=1048576)=false:=by simpa using c4
   have e:=jH (show r=false by rw[<-Hm.out];exact FG7 Hh.out (.inl rfl) (by unfold K7;simp;omega));go_wp2_with(first|go_big_skip|refine zl1 hS ?_);go_ret;rw[e.out];exact⟨rfl,hS.drop.drop⟩
  have He:=jH (show Opn.eqB ⟨1,cl,sq,ak,aw,⟨#[]⟩,⟨#[]⟩,it,ct,0,false,0⟩ ⟨1,cl,sq,ak,aw,tk,tw,it,ct,pr,bu,id⟩=r by rw[<-Hm.out];exact(eS4 Hh.out (.inl rfl) (by unfold K7;simp;omega)).symm);go_wp2_with(first|refine zl1 hS ?_|refine zlN hS ?_|(with_reducible apply Dh7);rfl;rfl;rfl;rfl;kernel_rfl;exact Da7 He.out;refine frS ?_);go_ret;exact⟨rfl,hS.drop.drop⟩
 by_cases k6:kd=6
 ·subst k6;go_wp2_with(first|refine zbx hS ?_;clear hS;intro bO w hS|refine zl1 hS ?_|refine zlN hS ?_ (vs:=[.string ak,.string aw]) (hc:=by focus((repeat(first|exact d7.here rfl|apply d7.there));done))|go_at_call 179;with_reducible refine(Bc7 Hpa.out W _ _ hS).mono ?_;clear hS;rintro e w ⟨rfl,hS⟩|refine zal hS ?_;clear hS;intro bX w hS|refine zsN hS ?_;clear hS;intro w hS);have hS1:=hS.s (blk bX _ _::blk bO _ _::R);clear hS;refine rf2 tB21a (fun _=>false) [⟨some 5,some 7,fun _=>blk bX [.I 6,.I cl,.I sq,.string ak,.string aw,.string ⟨#[]⟩,.string ⟨#[]⟩,.I it,.I 0,.I 0,.bool false,.I 0] 35⟩,⟨some 7,none,fun _=>blk bX [.I 6,.I cl,.I sq,.string ak,.string aw,.string ⟨#[]⟩,.string ⟨#[]⟩,.I it,.I ct,.I 0,.bool false,.I 0] 35⟩] [some 5,none] hS1 ?_;clear hS1;intro nd;refine cR ?_;refine zc1 ?_;refine cR ?_;refine zc1 ?_;refine cR ?_;refine zcs ?_;refine cR ?_;refine zcs ?_;refine Ac7 ?_;intro w hS;have hS2:St W [blk bX _ _,blk bO _ _,sats R] w:=hS;clear hS;have hS:=hS2.unpack [_,_];clear hS2;simp only[jK,jN]at hS;by_cases c1:0<=it
  case neg=>
   have d1:decide (0<=it)=false:=by simpa using c1
   have e:=jH (show r=false by rw[<-Hm.out];exact FG7 Hh.out (.inr rfl) (by unfold K7;simp;omega));go_wp2_with(first|go_big_skip|refine zl1 hS ?_);go_ret;rw[e.out];exact⟨rfl,hS.drop.drop⟩
  by_cases c2:it<=3
  case neg=>
   have d2:decide (it<=3)=false:=by simpa using c2
   have e:=jH (show r=false by rw[<-Hm.out];exact FG7 Hh.out (.inr rfl) (by unfold K7;simp;omega));go_wp2_with(first|go_big_skip|refine zl1 hS ?_);go_ret;rw[e.out];exact⟨rfl,hS.drop.drop⟩
  by_cases c3:1<=ct
  case neg=>
   have d3:decide (1<=ct)=false:=by simpa using c3
   have e:=jH (show r=false by rw[<-Hm.out];exact FG7 Hh.out (.inr rfl) (by unfold K7;simp;omega));go_wp2_with(first|go_big_skip|refine zl1 hS ?_);go_ret;rw[e.out];exact⟨rfl,hS.drop.drop⟩
  by_cases c4:ct<=1048576
  case neg=>
   have d4:decide (ct<=1048576)=false:=by simpa using c4
   have e:=jH (show r=false by rw[<-Hm.out];exact FG7 Hh.out (.inr rfl) (by unfold K7;simp;omega));go_wp2_with(first|go_big_skip|refine zl1 hS ?_);go_ret;rw[e.out];exact⟨rfl,hS.drop.drop⟩
  have He:=jH (show Opn.eqB ⟨6,cl,sq,ak,aw,⟨#[]⟩,⟨#[]⟩,it,ct,0,false,0⟩ ⟨6,cl,sq,ak,aw,tk,tw,it,ct,pr,bu,id⟩=r by rw[<-Hm.out];exact(eS4 Hh.out (.inr rfl) (by unfold K7;simp;omega)).symm);go_wp2_with(first|refine zl1 hS ?_|refine zlN hS ?_|(with_reducible apply Dh7);rfl;rfl;rfl;rfl;kernel_rfl;exact Da7 He.out;refine frS ?_);go_ret;exact⟨rfl,hS.drop.drop⟩
 by_cases k2:kd=2
 ·subst k2;go_wp2_with(first|refine zbx hS ?_;clear hS;intro bO w hS|refine zl1 hS ?_|refine zlN hS ?_ (vs:=[.string ak,.string aw]) (hc:=by focus((repeat(first|exact d7.here rfl|apply d7.there));done))|go_at_call 179;with_reducible refine(Bc7 Hpa.out W _ _ hS).mono ?_;clear hS;rintro e w ⟨rfl,hS⟩|refine zal hS ?_;clear hS;intro bX w hS|refine zsN hS ?_;clear hS;intro w hS);have hS1:=hS.s (blk bX _ _::blk bO _ _::R);clear hS;refine rf2 [0,1,0,4,0,16,3,67,207,463,1023,2047] (fun _=>false) [⟨some 7,some 9,fun _=>blk bX [.I 2,.I cl,.I sq,.string ak,.string aw,.string ⟨#[]⟩,.string ⟨#[]⟩,.I it,.I 0,.I 0,.bool false,.I 0] 35⟩,⟨some 9,some 11,fun _=>blk bX [.I 2,.I cl,.I sq,.string ak,.string aw,.string ⟨#[]⟩,.string ⟨#[]⟩,.I it,.I ct,.I 0,.bool false,.I 0] 35⟩,⟨some 11,none,fun _=>blk bX [.I 2,.I cl,.I sq,.string ak,.string aw,.string tk,.string tw,.I it,.I ct,.I 0,.bool false,.I 0] 35⟩] [some 7,none] hS1 ?_;clear hS1;intro nd;refine cR ?_;refine zc1 ?_;refine cR ?_;refine zc1 ?_;refine cR ?_;refine zcN ?_ (vs:=[.string tk,.string tw]) (hc:=by(intro F;focus((repeat(first|exact d7.here rfl));done)));refine cR ?_;refine zcs ?_;refine cR ?_;refine zcs ?_;refine cR ?_;refine zcs ?_;refine Ac7 ?_;intro w hS;have hS2:St W [blk bX _ _,blk bO _ _,sats R] w:=hS;clear hS;have hS:=hS2.unpack [_,_];clear hS2;simp only[jK,jN]at hS
  cases hpt:ax4 tk tw with
  | false=>
   have Hpt:=jH hpt;by_cases c1:0<=it
   case neg=>
    have d1:decide (0<=it)=false:=by simpa using c1
    have e:=jH (show r=false by rw[<-Hm.out];exact EG7 Hh.out rfl (.inr hpt));go_wp2_with(first|go_big_skip|refine zl1 hS ?_);go_ret;rw[e.out];exact⟨rfl,hS.drop.drop⟩
   by_cases c2:it<=3
   case neg=>
    have d2:decide (it<=3)=false:=by simpa using c2
    have e:=jH (show r=false by rw[<-Hm.out];exact EG7 Hh.out rfl (.inr hpt));go_wp2_with(first|go_big_skip|refine zl1 hS ?_);go_ret;rw[e.out];exact⟨rfl,hS.drop.drop⟩
   by_cases c3:1<=ct
   case neg=>
    have d3:decide (1<=ct)=false:=by simpa using c3
    have e:=jH (show r=false by rw[<-Hm.out];exact EG7 Hh.out rfl (.inr hpt));go_wp2_with(first|go_big_skip|refine zl1 hS ?_);go_ret;rw[e.out];exact⟨rfl,hS.drop.drop⟩
   by_cases c4:ct<=1048576
   case neg=>
    have d4:decide (ct<=1048576)=false:=by simpa using c4
    have e:=jH (show r=false by rw[<-Hm.out];exact EG7 Hh.out rfl (.inr hpt));go_wp2_with(first|go_big_skip|refine zl1 hS ?_);go_ret;rw[e.out];exact⟨rfl,hS.drop.drop⟩
   have e:=jH (show r=false by rw[<-Hm.out];exact EG7 Hh.out rfl (.inr hpt));go_wp2_with(first|go_big_skip|refine zl1 hS ?_|refine zlN hS ?_ (vs:=[.string tk,.string tw]) (hc:=by focus((repeat(first|exact d7.here rfl|apply d7.there));done))|go_at_call 179;with_reducible refine(Bc7 Hpt.out W _ _ hS).mono ?_;clear hS;rintro e w ⟨rfl,hS⟩);go_ret;rw[e.out];exact⟨rfl,hS.drop.drop⟩
  | true=>
   have Hpt:=jH hpt;by_cases c1:0<=it
   case neg=>
    have d1:decide (0<=it)=false:=by simpa using c1
    have e:=jH (show r=false by rw[<-Hm.out];exact EG7 Hh.out rfl (.inl (by unfold K7;simp;omega)));go_wp2_with(first|go_big_skip|refine zl1 hS ?_);go_ret;rw[e.out];exact⟨rfl,hS.drop.drop⟩
   by_cases c2:it<=3
   case neg=>
    have d2:decide (it<=3)=false:=by simpa using c2
    have e:=jH (show r=false by rw[<-Hm.out];exact EG7 Hh.out rfl (.inl (by unfold K7;simp;omega)));go_wp2_with(first|go_big_skip|refine zl1 hS ?_);go_ret;rw[e.out];exact⟨rfl,hS.drop.drop⟩
   by_cases c3:1<=ct
   case neg=>
    have d3:decide (1<=ct)=false:=by simpa using c3
    have e:=jH (show r=false by rw[<-Hm.out];exact EG7 Hh.out rfl (.inl (by unfold K7;simp;omega)));go_wp2_with(first|go_big_skip|refine zl1 hS ?_);go_ret;rw[e.out];exact⟨rfl,hS.drop.drop⟩
   by_cases c4:ct<=1048576
   case neg=>
    have d4:decide (ct<=1048576)=false:=by simpa using c4
    have e:=jH (show r=false by rw[<-Hm.out];exact EG7 Hh.out rfl (.inl (by unfold K7;simp;omega)));go_wp2_with(first|go_big_skip|refine zl1 hS ?_);go_ret;rw[e.out];exact⟨rfl,hS.drop.drop⟩
   have He:=jH (show Opn.eqB ⟨2,cl,sq,ak,aw,tk,tw,it,ct,0,false,0⟩ ⟨2,cl,sq,ak,aw,tk,tw,it,ct,pr,bu,id⟩=r by rw[<-Hm.out];exact(fK4 Hh.out rfl (by unfold K7;simp;omega) hpt).symm);go_wp2_with(first|refine zl1 hS ?_|refine zlN hS ?_|refine zlN hS ?_ (vs:=[.string tk,.string tw]) (hc:=by focus((repeat(first|exact d7.here rfl|apply d7.there));done))|go_at_call 179;with_reducible refine(Bc7 Hpt.out W _ _ hS).mono ?_;clear hS;rintro e w ⟨rfl,hS⟩|(with_reducible apply Dh7);rfl;rfl;rfl;rfl;kernel_rfl;exact Da7 He.out;refine frS ?_);go_ret;exact⟨rfl,hS.drop.drop⟩
 by_cases k3:kd=3
 ·subst k3;go_wp2_with(first|refine zbx hS ?_;clear hS;intro bO w hS|refine zl1 hS ?_|refine zlN hS ?_ (vs:=[.string ak,.string aw]) (hc:=by focus((repeat(first|exact d7.here rfl|apply d7.there));done))|go_at_call 179;with_reducible refine(Bc7 Hpa.out W _ _ hS).mono ?_;clear hS;rintro e w ⟨rfl,hS⟩|refine zal hS ?_;clear hS;intro bX w hS|refine zsN hS ?_;clear hS;intro w hS);have hS1:=hS.s (blk bX _ _::blk bO _ _::R);clear hS;refine rf2 [0,1,0,4,0,16,0,64,3,259,783,1807,3903,7999,16383,32767] (fun _=>false) [⟨some 9,some 11,fun _=>blk bX [.I 3,.I cl,.I sq,.string ak,.string aw,.string ⟨#[]⟩,.string ⟨#[]⟩,.I it,.I 0,.I 0,.bool false,.I 0] 35⟩,⟨some 11,some 13,fun _=>blk bX [.I 3,.I cl,.I sq,.string ak,.string aw,.string ⟨#[]⟩,.string ⟨#[]⟩,.I it,.I ct,.I 0,.bool false,.I 0] 35⟩,⟨some 13,some 15,fun _=>blk bX [.I 3,.I cl,.I sq,.string ak,.string aw,.string ⟨#[]⟩,.string ⟨#[]⟩,.I it,.I ct,.I pr,.bool false,.I 0] 35⟩,⟨some 15,none,fun _=>blk bX [.I 3,.I cl,.I sq,.string ak,.string aw,.string ⟨#[]⟩,.string ⟨#[]⟩,.I it,.I ct,.I pr,.bool bu,.I 0] 35⟩] [some 9,none] hS1 ?_;clear hS1;intro nd;refine cR ?_;refine zc1 ?_;refine cR ?_;refine zc1 ?_;refine cR ?_;refine zc1 ?_;refine cR ?_;refine zc1 ?_;refine cR ?_;refine zcs ?_;refine cR ?_;refine zcs ?_;refine cR ?_;refine zcs ?_;refine cR ?_;refine zcs ?_;refine Ac7 ?_;intro w hS;have hS2:St W [blk bX _ _,blk bO _ _,sats R] w:=hS;clear hS;have hS:=hS2.unpack [_,_];clear hS2;simp only[jK,jN]at hS;by_cases c1:1<=it
  case neg=>
   have d1:decide (1<=it)=false:=by simpa using c1
   have e:=jH (show r=false by rw[<-Hm.out];exact HL7 Hh.out rfl (.inl c1));go_wp2_with(first|go_big_skip|refine zl1 hS ?_);go_ret;rw[e.out];exact⟨rfl,hS.drop.drop⟩
  by_cases c2:it<=3
  case neg=>
   have d2:decide (it<=3)=false:=by simpa using c2
   have e:=jH (show r=false by rw[<-Hm.out];exact HL7 Hh.out rfl (.inr (.inl (by unfold K7;simp;omega))));go_wp2_with(first|go_big_skip|refine zl1 hS ?_);go_ret;rw[e.out];exact⟨rfl,hS.drop.drop⟩
  by_cases c3:1<=ct
  case neg=>
   have d3:decide (1<=ct)=false:=by simpa using c3
   have e:=jH (show r=false by rw[<-Hm.out];exact HL7 Hh.out rfl (.inr (.inl (by unfold K7;simp;omega))));go_wp2_with(first|go_big_skip|refine zl1 hS ?_);go_ret;rw[e.out];exact⟨rfl,hS.drop.drop⟩
  by_cases c4:ct<=1048576
  case neg=>
   have d4:decide (ct<=1048576)=false:=by simpa using c4
   have e:=jH (show r=false by rw[<-Hm.out];exact HL7 Hh.out rfl (.inr (.inl (by unfold K7;simp;omega))));go_wp2_with(first|go_big_skip|refine zl1 hS ?_);go_ret;rw[e.out];exact⟨rfl,hS.drop.drop⟩
  by_cases c5:1<=pr
  case neg=>
   have d5:decide (1<=pr)=false:=by simpa using c5
   have e:=jH (show r=false by rw[<-Hm.out];exact HL7 Hh.out rfl (.inr (.inr (.inl c5))));go_wp2_with(first|go_big_skip|refine zl1 hS ?_);go_ret;rw[e.out];exact⟨rfl,hS.drop.drop⟩
  by_cases c6:pr<=1024
  case neg=>
   have d6:decide (pr<=1024)=false:=by simpa using c6
   have e:=jH (show r=false by rw[<-Hm.out];exact HL7 Hh.out rfl (.inr (.inr (.inr c6))));go_wp2_with(first|go_big_skip|refine zl1 hS ?_);go_ret;rw[e.out];exact⟨rfl,hS.drop.drop⟩
  have He:=jH (show Opn.eqB ⟨3,cl,sq,ak,aw,⟨#[]⟩,⟨#[]⟩,it,ct,pr,bu,0⟩ ⟨3,cl,sq,ak,aw,tk,tw,it,ct,pr,bu,id⟩=r by rw[<-Hm.out];exact(fL4 Hh.out rfl c1 (by unfold K7;simp;omega) c5 c6).symm);go_wp2_with(first|refine zl1 hS ?_|refine zlN hS ?_|(with_reducible apply Dh7);rfl;rfl;rfl;rfl;kernel_rfl;exact Da7 He.out;refine frS ?_);go_ret;exact⟨rfl,hS.drop.drop⟩
 by_cases k4:kd=4
 ·subst k4;by_cases c1:1<=id
  case neg=>
   have dj:decide (1<=id)=false:=by simpa using c1
   have e:=jH (show r=false by rw[<-Hm.out];exact Rq7 Hh.out rfl (.inl c1));go_wp2_with(first|go_big_skip|refine zbx hS ?_;clear hS;intro bO w hS|refine zl1 hS ?_|refine zlN hS ?_ (vs:=[.string ak,.string aw]) (hc:=by focus((repeat(first|exact d7.here rfl|apply d7.there));done))|go_at_call 179;with_reducible refine(Bc7 Hpa.out W _ _ hS).mono ?_;clear hS;rintro e w ⟨rfl,hS⟩|refine zal hS ?_;clear hS;intro bX w hS|refine zsN hS ?_;clear hS;intro w hS|refine zs1 hS ?_;clear hS;intro w hS);go_ret;rw[e.out];exact⟨rfl,hS.drop.drop⟩
  by_cases c2:id<=1099511627776
  case neg=>
   have dk:decide (id<=1099511627776)=false:=by simpa using c2
   have e:=jH (show r=false by rw[<-Hm.out];exact Rq7 Hh.out rfl (.inr c2));go_wp2_with(first|go_big_skip|refine zbx hS ?_;clear hS;intro bO w hS|refine zl1 hS ?_|refine zlN hS ?_ (vs:=[.string ak,.string aw]) (hc:=by focus((repeat(first|exact d7.here rfl|apply d7.there));done))|go_at_call 179;with_reducible refine(Bc7 Hpa.out W _ _ hS).mono ?_;clear hS;rintro e w ⟨rfl,hS⟩|refine zal hS ?_;clear hS;intro bX w hS|refine zsN hS ?_;clear hS;intro w hS|refine zs1 hS ?_;clear hS;intro w hS);go_ret;rw[e.out];exact⟨rfl,hS.drop.drop⟩
  have He:=jH (show Opn.eqB ⟨4,cl,sq,ak,aw,⟨#[]⟩,⟨#[]⟩,0,0,0,false,id⟩ ⟨4,cl,sq,ak,aw,tk,tw,it,ct,pr,bu,id⟩=r by rw[<-Hm.out];exact(fM4 Hh.out rfl c1 c2).symm);go_wp2_with(first|refine zbx hS ?_;clear hS;intro bO w hS|refine zl1 hS ?_|refine zlN hS ?_|refine zlN hS ?_ (vs:=[.string ak,.string aw]) (hc:=by focus((repeat(first|exact d7.here rfl|apply d7.there));done))|go_at_call 179;with_reducible refine(Bc7 Hpa.out W _ _ hS).mono ?_;clear hS;rintro e w ⟨rfl,hS⟩|refine zal hS ?_;clear hS;intro bX w hS|refine zsN hS ?_;clear hS;intro w hS|refine zs1 hS ?_;clear hS;intro w hS|(with_reducible apply Dh7);rfl;rfl;rfl;rfl;kernel_rfl;exact Da7 He.out;refine frS ?_);go_ret;exact⟨rfl,hS.drop.drop⟩
 by_cases k5:kd=5
 ·subst k5;have He:=jH (show Opn.eqB ⟨5,cl,sq,ak,aw,⟨#[]⟩,⟨#[]⟩,0,0,0,false,0⟩ ⟨5,cl,sq,ak,aw,tk,tw,it,ct,pr,bu,id⟩=r by rw[<-Hm.out];exact(eT4 Hh.out (.inl rfl)).symm);go_wp2_with(first|refine zbx hS ?_;clear hS;intro bO w hS|refine zl1 hS ?_|refine zlN hS ?_|refine zlN hS ?_ (vs:=[.string ak,.string aw]) (hc:=by focus((repeat(first|exact d7.here rfl|apply d7.there));done))|go_at_call 179;with_reducible refine(Bc7 Hpa.out W _ _ hS).mono ?_;clear hS;rintro e w ⟨rfl,hS⟩|refine zal hS ?_;clear hS;intro bX w hS|refine zsN hS ?_;clear hS;intro w hS|(with_reducible apply Dh7);rfl;rfl;rfl;rfl;kernel_rfl;exact Da7 He.out;refine frS ?_);go_ret;exact⟨rfl,hS.drop.drop⟩
 by_cases k7:kd=7
 ·subst k7;have He:=jH (show Opn.eqB ⟨7,cl,sq,ak,aw,⟨#[]⟩,⟨#[]⟩,0,0,0,false,0⟩ ⟨7,cl,sq,ak,aw,tk,tw,it,ct,pr,bu,id⟩=r by rw[<-Hm.out];exact(eT4 Hh.out (.inr rfl)).symm);go_wp2_with(first|refine zbx hS ?_;clear hS;intro bO w hS|refine zl1 hS ?_|refine zlN hS ?_|refine zlN hS ?_ (vs:=[.string ak,.string aw]) (hc:=by focus((repeat(first|exact d7.here rfl|apply d7.there));done))|go_at_call 179;with_reducible refine(Bc7 Hpa.out W _ _ hS).mono ?_;clear hS;rintro e w ⟨rfl,hS⟩|refine zal hS ?_;clear hS;intro bX w hS|refine zsN hS ?_;clear hS;intro w hS|(with_reducible apply Dh7);rfl;rfl;rfl;rfl;kernel_rfl;exact Da7 He.out;refine frS ?_);go_ret;exact⟨rfl,hS.drop.drop⟩
 have f1:(kd==1)=false:=by simpa using k1
 have f2:(kd==2)=false:=by simpa using k2
 have f3:(kd==3)=false:=by simpa using k3
 have f4:(kd==4)=false:=by simpa using k4
 have f5:(kd==5)=false:=by simpa using k5
 have f6:(kd==6)=false:=by simpa using k6
 have f7:(kd==7)=false:=by simpa using k7
 have e:=jH (show r=false by rw[<-Hm.out];refine Tt7 ?_;unfold L8;simp[k1,k2,k3,k4,k5,k6,k7]);clear k1 k2 k3 k4 k5 k6 k7;go_wp2_with(first|go_big_skip|refine zbx hS ?_;clear hS;intro bO w hS|refine zl1 hS ?_|refine zlN hS ?_ (vs:=[.string ak,.string aw]) (hc:=by focus((repeat(first|exact d7.here rfl|apply d7.there));done))|go_at_call 179;with_reducible refine(Bc7 Hpa.out W _ _ hS).mono ?_;clear hS;rintro e w ⟨rfl,hS⟩|refine zal hS ?_;clear hS;intro bX w hS|refine zsN hS ?_;clear hS;intro w hS);go_ret;rw[e.out];exact⟨rfl,hS.drop.drop⟩
def psD:List (Int×(Int×Rpl))->Int->Int->Rpl×Bool
 | [],_,_=>(rp0,false)
 | x::l,c,q=>if x.1=c then(if q<x.2.1 then(⟨13,0,it0⟩,true)else if q=x.2.1 then(x.2.2,true)else psD l c q)else psD l c q
def eU4(d:Ec)(o:Opn):Rpl×Bool:=
 if A8 o=false then(⟨1,0,it0⟩,true)
 else if o.kind=6 then(rp0,(p9 d.ar (o.client,o.seq)).isSome)
 else if o.kind=7 then(rp0,decide (fdI d.ts (o.client,o.seq)<0))
 else psD d.ss o.client o.seq
abbrev xeL(xb:Nat)(v1 v2 v3 v4:Value)(d:Ec)(R:List HP):List HP:=xeB xb v1 v2 v3 v4::xsP v2 d.ss::xtP v3 d.ts::xmP v4 d.ar::R
section
variable{d:Ec}{xb:Nat}{v1 v2 v3 v4:Value}{kd cl sq:Int}{ak aw tk tw:ByteArray}{it ct pr:Int}{bu:Bool}{id:Int}{W w:World}{R:List HP}
def PkR(W:World)(L:List HP)(ss:List (Int×(Int×Rpl)))(c q:Int)(r:Rpl×Bool)(v:Value)(w:World):Prop:=
 ∃i:Nat,v=.I i/\i<=ss.length/\psD (ss.drop i) c q=r/\St W L w
end
def clV(l:List (ByteArray×Vs)):List (ByteArray×Vs):=l.filter fun x=>!G9 x.2
def fN4{ν:Type}(l:List ((Int×Int)×ν))(k:Int×Int)(v:ν):List ((Int×Int)×ν):=l.take (plI ltW l k)++(k,v)::l.drop (plI ltW l k)
def rmI{α:Type}(l:List α)(i:Int):List α:=l.take i.toNat++l.drop (i.toNat+1)
def vsD(d:Ec)(o:Opn):List (ByteArray×Vs):=clV (if o.kind=7 then d.vs else plS ltB d.vs o.ak (doV (atV d o.ak) o).2)
def ssD(d:Ec)(o:Opn)(r:Rpl):List (Int×(Int×Rpl)):=if o.kind=6\/o.kind=7 then d.ss else plS ltI d.ss o.client (o.seq,r)
def tsD(d:Ec)(o:Opn)(r:Rpl):List ((Int×Int)×Tns):=
 if o.kind=2/\r.err=0 then fN4 d.ts (o.client,o.seq) (dd4 o)else if o.kind=7 then rmI d.ts (fdI d.ts (o.client,o.seq))else d.ts
def arD(d:Ec)(o:Opn):List ((Int×Int)×Unit):=if o.kind=6 then fN4 d.ar (o.client,o.seq) ()else d.ar
def gx4(d:Ec)(o:Opn):Rpl×Bool×Ec:=
 if(eU4 d o).2=true then((eU4 d o).1,false,d)
 else((doV (atV d o.ak) o).1,true,⟨vsD d o,ssD d o (doV (atV d o.ak) o).1,tsD d o (doV (atV d o.ak) o).1,arD d o⟩)
section
variable{κ ν:Type}[DecidableEq κ]
end
structure SimE(d e:Ec):Prop where
 v:d.vs.Perm e.vs
 s:d.ss.Perm e.ss
 t:d.ts.Perm e.ts
 a:d.ar.Perm e.ar
 va:Asc ltB d.vs
 sa:Asc ltI d.ss
 ta:Asc ltW d.ts
 aa:Asc ltW d.ar
 ne:∀x∈d.vs,G9 x.2=false
 tk:TsK d.ts
 old:∀x∈d.ts, ∃q r,p9 d.ss x.1.1=some (q,r)/\x.1.2<=q
section
variable{d e:Ec}
theorem SimE.vn(h:SimE d e):(d.vs.map (·.1)).Nodup:=Bg7 Ch7 h.va
theorem SimE.sn(h:SimE d e):(d.ss.map (·.1)).Nodup:=Bg7 EC7 h.sa
theorem SimE.tn(h:SimE d e):(d.ts.map (·.1)).Nodup:=Bg7 AP7 h.ta
theorem SimE.an(h:SimE d e):(d.ar.map (·.1)).Nodup:=Bg7 AP7 h.aa
theorem SimE.at(h:SimE d e)(k:ByteArray):atV d k=atV e k:=by unfold atV;rw[CM7 h.vn h.v]
end
section
variable{d:Ec}{xb:Nat}{v1 v2 v3 v4:Value}{D A B:Ev}{V V':Vs}{i:Nat}{kd cl sq:Int}{ak aw tk tw:ByteArray}{it ct pr:Int}{bu:Bool}{id:Int}{W w:World}{R:List HP}{r0 r1 r2 r3 r4 r5:Int}{b:Bool}
abbrev dM4(xb:Nat)(v1 v2 v3 v4:Value)(D:Ev)(d:Ec)(R:List HP):List HP:=xeB xb v1 v2 v3 v4::xrP v1 D::w5 D::xsP v2 d.ss::xtP v3 d.ts::xmP v4 d.ar::R
end
theorem Dv7(D:Ev):(m8 D).length=D.length:=jM _
def L6(xb:Nat)(d:Ec):HP:=fun f=>∃(v1 v2 v3 v4:Value) (D:Ev),m8 D=d.vs/\sats (dM4 xb v1 v2 v3 v4 D d []) f
section
variable{W w:World}{R:List HP}{xb:Nat}{d:Ec}{v1 v2 v3 v4:Value}{D:Ev}{k:ByteArray}{V:Vs}
theorem aV4(h:St W (L6 xb d::R) w):∃v1 v2 v3 v4 D,m8 D=d.vs/\St W (dM4 xb v1 v2 v3 v4 D d R) w:=by obtain⟨v1,h⟩:=St.ex h;obtain⟨v2,h⟩:=St.ex h;obtain⟨v3,h⟩:=St.ex h;obtain⟨v4,h⟩:=St.ex h;obtain⟨D,h⟩:=St.ex h;obtain⟨hp,h⟩:=St.and h;exact⟨v1,v2,v3,v4,D,hp,h.openS⟩
theorem N9(hp:m8 D=d.vs)(h:St W (dM4 xb v1 v2 v3 v4 D d R) w):St W (L6 xb d::R) w:=
 St.mkEx v1 (St.mkEx v2 (St.mkEx v3 (St.mkEx v4 (St.mkEx D (St.mkAnd hp (St.shutS [_,_,_,_,_,_] h))))))
end
structure DOk(d:Ec)(k:ByteArray)(i:Nat):Prop where
 va:Asc ltB d.vs
 sn:(d.ss.map (·.1)).Nodup
 tk:TsK d.ts
 lv:d.vs.length<=900000
 ls:d.ss.length<=1000000
 lt:d.ts.length<=1000000
 la:d.ar.length<=1000000
 ok:VOk (atV d k).ps (atV d k).n i
 may:∀x∈(atV d k).L,MayP x
 l32:(atV d k).L.length<=32
section
variable{W w:World}{R:List HP}{xb eb:Nat}{d e:Ec}{i:Nat}
theorem LT7:∀{E:Ev} {R:List HP},St W (j8 E::R) w->∀x∈E,(∀o∈x.2.2.L,MayP o)/\x.2.2.L.length<=32
 | [],_,_,_,hx=>by cases hx
 | y::E,R,h,x,hx=>by
  have h1:=bn4 (E:=E) h
  rcases List.mem_cons.1 hx with rfl|hx
  ·obtain⟨mb,bb,h2⟩:=ay4 h1;exact⟨fun o ho=>(By7 h2.drop.drop o ho).1,BP7 h2.drop.drop⟩
  ·exact LT7 h1.drop x hx
theorem KJ7(h:St W (ecP eb e::R) w):∀x∈e.vs,(∀o∈x.2.L,MayP o)/\x.2.L.length<=32:=by obtain⟨m1,m2,m3,m4,E,hp,h⟩:=cv4 h;have h1:St W (j8 E::R) w:=h.s _;intro x hx;obtain⟨y,hy,rfl⟩:=List.mem_map.1 (hp.mem_iff.2 hx);exact LT7 h1 y hy
end
structure GOk(d e:Ec)(n:Nat):Prop where
 sim:SimE d e
 ok:EOk e n
 lv:d.vs.length<=n
 ls:d.ss.length<=n
 lt:d.ts.length<=n
 la:d.ar.length<=n
section
variable{κ ν:Type}[DecidableEq κ]
end
end Go.Proofs.YtlmhakmoioogaaaGreat
end
section
namespace Go.Proofs.YtlmhakmoioogaaaGreat
open Go.Shelf
def Tryz.keysV_ren:Go.Shelf.Ren:=⟨fun|7=>63|10=>131|n=>n,fun|23=>79|26=>9|3=>100|28=>115|0=>0|27=>114|33=>178|4=>4|n=>n,fun|n=>n⟩
theorem Tryz.keysV:Go.Proofs.SlLaysZ.n7 Tryz.prog Tryz.keysV_ren:={
 mixed:=by kernel_rfl
 f7:=⟨Tryz.f63.name,by decide,Tryz.func63.trans (congrArg some (by kernel_rfl))⟩
 f10:=⟨Tryz.f131.name,by decide,Tryz.func131.trans (congrArg some (by kernel_rfl))⟩
 t0:=Tryz.underlying0
 a0:=Tryz.isAgg0
 z0:=Tryz.sizeOf0
 v0:=Tryz.zeroValue0
 t4:=Tryz.underlying4
 a4:=Tryz.isAgg4
 z4:=Tryz.sizeOf4
 v4:=Tryz.zeroValue4
 t23:=Tryz.underlying79
 a23:=Tryz.isAgg79
 z23:=Tryz.sizeOf79
 v23:=Tryz.zeroValue79
 t26:=Tryz.underlying9
 a26:=Tryz.isAgg9
 z26:=Tryz.sizeOf9
 v26:=Tryz.zeroValue9
 t27:=Tryz.underlying114
 a27:=Tryz.isAgg114
 z27:=Tryz.sizeOf114
 v27:=Tryz.zeroValue114
 t28:=Tryz.underlying115
 a28:=Tryz.isAgg115
 z28:=Tryz.sizeOf115
 v28:=Tryz.zeroValue115
 t33:=Tryz.underlying178
 a33:=Tryz.isAgg178
 z33:=Tryz.sizeOf178
 v33:=Tryz.zeroValue178 }
end Go.Proofs.YtlmhakmoioogaaaGreat
end
section
namespace Go.Proofs.YtlmhakmoioogaaaGreat
open Go.RowKit Go.Sl
def eE4(l:List Opn)(d:Ec):Ec:=l.foldl (fun d o=>(gx4 d o).2.2) d
def gQ4(I:Ec->Nat->Prop):Prop:=∀(e:Ec) (n:Nat) (o:Opn),I e n->(∀x∈e.vs,(∀o∈x.2.L,MayP o)/\x.2.L.length<=32)->(∀x∈(bg4 e o).2.2.vs,(∀o∈x.2.L,MayP o)/\x.2.L.length<=32)->EOk (bg4 e o).2.2 (n+1)->I (bg4 e o).2.2 (n+1)
def GoR(I:Ec->Nat->Prop)(W:World)(Lr:List HP)(eb xb:Nat)(xs:List Opn)(d e:Ec)(n:Nat)(v:Value)(w:World):Prop:=
 ∃i:Nat,v=.I i/\i<=xs.length/\GOk (eE4 (xs.take i) d) (cC4 (xs.take i) e) (n+i)/\I (cC4 (xs.take i) e) (n+i)/\St W (ecP eb (cC4 (xs.take i) e)::L6 xb (eE4 (xs.take i) d)::Lr) w
section
variable{W w:World}{L R:List HP}{eb xb:Nat}{d e:Ec}{i:Nat}{k u:ByteArray}{x0 x1 x2 x3 cl sq:Int}{b:Bool}
end
end Go.Proofs.YtlmhakmoioogaaaGreat
end
section
namespace Go.Proofs.YtlmhakmoioogaaaGreat
open Go.RowKit Go.Maps Go.Sort Go.Shelf Go.Sl
theorem MW7(mb:Option Nat)(W w:World)(L:List HP)(hS:St W L w):
  Calls Tryz.prog 63 #[.map mb] w fun e w'=>∃g,e=.returned (.func (.func 131) #[] #[.P g])/\St W (blk g [.map mb] 79::L) w':=by
 have cK:CallsIn Fence.wide 5 Tryz.prog 63 #[.map mb] w fun e w'=>e=.returned (.func (.func 131) #[] #[.pointer (some ⟨w.heap.size,0,none⟩)])/\w'=w.alloc (.cells #[.map mb] 79):=AnyZ.keys_in Tryz.keysV Fence.wide 5 trivial rfl mb w
 refine((callsIn_wide (n:=5)).1 cK).mono ?_;rintro e w' ⟨rfl,rfl⟩;exact⟨_,rfl,hS.alloc _⟩
section
variable{ν:Type}{ev:ν->Value}{W w:World}{L:List HP}{b g:Nat}
theorem JE7{l:List (ByteArray×ν)}(hwf:∀x∈l,x.1.size<=maxLen)(hl:l.length<=1000000000)(hS:St W (blk g [.map (some b)] 79::c8 eS ev b l::L) w):
  Calls Tryz.prog 62 #[.func (.func 131) #[] #[.P g]] w fun e w'=>∃v,e=.returned v/\St W (row v 1 9 l.length ((aR4 (l.map (·.1))).map eS)::c8 eS ev b l::L) w':=by
 obtain⟨D,hD1,hD2,hD3⟩:=ec4 hS.drop hwf (by unfold maxLen;omega)
 have hseq:SeqGives Fence.wide 2 Tryz.prog 131 #[.P g] encStr (fun ss=>ss.Perm (strKeys D)) (Maps.size D) w:=
  AnyZ.keys_gives (ρ:=Tryz.keysV_ren) { Tryz.keysV with } Fence.wide _ trivial rfl (by omega) g b l.length D _ (Array.getElem?_eq_some_iff.1 (hS.get (b:=g) .head)).1 (hS.cell (b:=g) (off:=0) .head rfl) hD1
 have cS:=AnyZ.sorted_in Tryz.sortedS Fence.wide 5 trivial trivial trivial trivial rfl (by omega) (eb4 _) (enters_of Tryz.func130 (by kernel_rfl) rfl) 131 #[.P g] trivial (enters_of Tryz.func131 (by kernel_rfl) rfl) _ _ (by rw[hD2];unfold maxLen;omega) (by rw[hD2];omega) _ hseq;change CallsIn _ _ Tryz.prog 62 _ _ _ at cS;refine((callsIn_wide (n:=5)).1 cS).mono ?_;rintro e w' ⟨v,ss,rfl,hP,hrow,hnil,hb⟩;refine⟨v,rfl,?_⟩;have hp:=hP.trans hD3;have e:=LI7 (l:=l.map (·.1)) (ss:=ss) (by rw[List.map_map];exact hp);rw[e,show ss.length=l.length by rw[hp.length_eq,jM]]at hrow;exact(hS.drop).called hb hrow
end
theorem Db7{l l':List ByteArray}(h:l.Perm l'):aR4 l=aR4 l':=
 List.Perm.eq_of_pairwise (fun a b _ _ h1 h2=>Ez7 h1 h2) (AN7 l) (AN7 l') (((Aw7 l).trans h).trans (Aw7 l').symm)
theorem Rr7{x y:ByteArray}(h:ltB x y=true):leB x y=true:=EE7 h
theorem GV7{ν:Type}{l:List (ByteArray×ν)}(h:Asc ltB l):aR4 (l.map (·.1))=l.map (·.1):=by refine List.Perm.eq_of_pairwise (fun a b _ _ h1 h2=>Ez7 h1 h2) (AN7 _) ?_ (Aw7 _);exact List.pairwise_map.2 (List.Pairwise.imp (fun h=>Rr7 h) h)
def ksE(e:Ec):List ByteArray:=aR4 (e.vs.map (·.1))
theorem Ef7(e:Ec):(ksE e).length=e.vs.length:=by unfold ksE;rw[(Aw7 _).length_eq,jM]
abbrev at4(v:Value)(l:List ByteArray):HP:=row v 1 9 l.length (l.map eS)
theorem GW7{eb:Nat}{e:Ec}(hk:∀x∈e.vs,x.1.size<=maxLen)(hl:e.vs.length<=1000000)(W w:World)(R:List HP)(hS:St W (ecP eb e::R) w):
  Calls Tryz.prog 25 #[.P eb] w fun x w'=>∃v,x=.returned v/\St W (at4 v (ksE e)::ecP eb e::R) w':=by
 obtain⟨m1,m2,m3,m4,E,hp,hn,hS0⟩:=aO4 hS;have hS1:=D9 hS0;clear hS hS0;have hpk:((i8 E).map (·.1)).Perm (e.vs.map (·.1)):=by rw[Bb7,<-Cg7];exact hp.map _
 have hks:aR4 ((i8 E).map (·.1))=ksE e:=Db7 hpk;have hlk:(i8 E).length=(ksE e).length:=by rw[Ef7];have:=hpk.length_eq;rw[jM,jM]at this;exact this
 have hwf:∀x∈i8 E,x.1.size<=maxLen:=fun x hx=>by have h1:=hpk.mem_iff.1 (List.mem_map.2 ⟨x,hx,rfl⟩);obtain⟨y,hy,hxy⟩:=List.mem_map.1 h1;rw[<-hxy];exact hk y hy
 have hl2:(i8 E).length<=1000000000:=by rw[hlk,Ef7];omega
 have Hp:=jH hp;have Hks:=jH hks;have Hlk:=jH hlk;have Hwf:=jH hwf;have Hl2:=jH hl2;clear hp hn hpk hks hlk hwf hl2 hl;have hS:=hS1;clear hS1;go_enter Tryz.func25,Tryz.ntmps25;go_wp2_with(first|go_big_skip|refine zl1 hS ?_|go_at_call 63;refine(MW7 (some m1) W _ _ hS).mono ?_;clear hS;rintro x w ⟨g,rfl,hS⟩|go_at_call 62;refine(JE7 (g:=g) (b:=m1) (ev:=eN) (l:=i8 E) Hwf.out Hl2.out (hS.s (blk g _ _::c8 eS eN m1 (i8 E)::ebB eb m1 m2 m3 m4::j8 E::c8 eI eSs m2 e.ss::c8 eW eTn m3 e.ts::c8 eW eU m4 e.ar::R))).mono ?_;clear hS;rintro x w ⟨v,rfl,hS⟩);go_ret;rw[Hks.out,Hlk.out]at hS;have h1:=hS.s (ebB eb m1 m2 m3 m4::c8 eS eN m1 (i8 E)::j8 E::c8 eI eSs m2 e.ss::c8 eW eTn m3 e.ts::c8 eW eU m4 e.ar::at4 v (ksE e)::R);exact⟨v,rfl,(R6 Hp.out h1).swap⟩
end Go.Proofs.YtlmhakmoioogaaaGreat
end
section
namespace Go.Proofs.YtlmhakmoioogaaaGreat
open Go.RowKit Go.Sl
def K8R(W:World)(L:List HP)(D:Ev)(v3 v4:Value)(w:World):Prop:=
 ∃k:Nat,v4=.I k/\k<=D.length/\St W (at4 v3 ((D.take k).map (·.1))::L) w
theorem Oy7{xb:Nat}{d:Ec}(hl:d.vs.length<=1000000)(W w:World)(R:List HP)(hS:St W (L6 xb d::R) w):
  Calls Tryz.prog 73 #[.P xb] w fun e w'=>∃v,e=.returned v/\St W (at4 v (d.vs.map (·.1))::L6 xb d::R) w':=by
 obtain⟨v1,v2,v3,v4,D,hd,hS0⟩:=aV4 hS;clear hS;have hS:=hS0.s (xeB xb v1 v2 v3 v4::xrP v1 D::w5 D::xsP v2 d.ss::xtP v3 d.ts::xmP v4 d.ar::R);clear hS0;have hD:D.length<=1000000:=by rw[<-Dv7,hd];exact hl
 have Hd:=jH hd;clear hd hl;obtain⟨a,cap,rfl⟩:=hS.drop.rowVal;go_enter Tryz.func73,Tryz.ntmps73;go_wp2_with(fail);have hS1:=hS.rowNil (k:=1) (T:=9);clear hS;have hS:=hS1;clear hS1
 go_loopw [3,4] (fun v3' v4' wr=>K8R W (xeB xb (.slice a D.length cap) v2 v3 v4::xrP (.slice a D.length cap) D::w5 D::xsP v2 d.ss::xtP v3 d.ts::xmP v4 d.ar::R) D v3' v4' wr) (fun _ v4' _=>D.length-(intOf v4').toNat)
 case atStart=>exact⟨0,rfl,Nat.zero_le _,hS⟩
 case round=>
  clear hS;obtain⟨k,rfl,hkl,hS⟩:=hrel;by_cases hkn:k=D.length
  ·rw[hkn,List.take_length]at hS;have hd1:decide (k<D.length)=false:=by simp;omega
   clear hkl hkn;go_wp2_with(first|refine zl1 hS ?_);go_ret;refine⟨_,rfl,?_⟩;rw[<-Hd.out,Cg7];exact(N9 Hd.out (hS.s (dM4 xb (.slice a D.length cap) v2 v3 v4 D d (at4 _ (D.map (·.1))::R)))).swap
  ·have hk1:k<D.length:=by omega
   have hd1:decide (k<D.length)=true:=by simp;omega
   obtain⟨⟨g,rfl⟩,_,_⟩:=St.rowAddr hS.drop.drop (by omega);have hname:∀{K K':List HP},Take K (xrP (.S g D.length cap) D) K'->e8 K g (k*2) (.string D[k].1):=fun hu=>d7.elemM (enc:=rwC) GU7 hu hk1 0 _ rfl
   have hstep:=BR7 (fun x:ByteArray×(Nat×Vs)=>x.1) D hk1;have hbl:((D.take k).map (·.1)).length<=1000000:=by rw[jM,jT];omega
   have Hstep:=jH hstep;clear hstep hkn hkl;generalize (D.take k).map (·.1)=acc at hS Hstep hbl;generalize D[k]=x at hname Hstep;obtain⟨xk,xv⟩:=x;go_wp2_with(first|refine zl1 hS ?_ (hc:=by exact hname (by exact g8))|refine zl1 hS ?_|refine zbs hS ?_;clear hS;intro bS w hS|refine zap hS ?_ (h63:=by unfold maxLen;omega) (hb:=by omega);clear hS;intro v w hS);go_roundw
   case rel=>
    refine⟨k+1,rfl,hk1,?_⟩;rw[Hstep.out];have h0:St W (row v 1 9 (acc.length+1) (acc.map eS++[xk].map eS)::_) w:=hS;rw[<-List.map_append]at h0;unfold at4;rw[jA,List.length_singleton];exact h0.s _
   case measure=>simp[intOf];omega
theorem fO4(o0 o1:Int)(o2 o3 o4 o5:ByteArray)(o6 o7:Int)(w:World):(Op.equalIn 10000 40 (.agg #[.I o0,.I o1,.string o2,.string o3,.string o4,.string o5,.I o6,.I o7]) (.agg #[.I o0,.I o1,.string o2,.string o3,.string o4,.string o5,.I o6,.I o7])).run Tryz.prog w=.ok true w:=by
 have u3:=Tryz.underlying3;have a3:=Tryz.isAgg3;have z3:=Tryz.sizeOf3;have u5:=Tryz.underlying26;have a5:=Tryz.isAgg26;have z5:=Tryz.sizeOf26;have hp:=fun k u k2 u2 w=>cQ4 k u k2 u2 9997 w
 have hs:Tryz.prog.stoodInHeld 40=false:=by kernel_rfl
 rw[Op.equalIn];simp only[Sem.run_bind,run_underlying Tryz.underlying40,Result.andThen_ok,run_program,hs,Bool.false_eq_true,if_false];rw[<-Array.forIn_toList];simp only[List.forIn_cons,List.forIn_nil]
 go_simp
def TzR(W:World)(Lr:List HP)(n:Nat)(v:Value)(w:World):Prop:=∃i:Nat,v=.I i/\i<=n/\St W Lr w
theorem Hq7(L:List ((Int×Int)×Tns))(a1 a2:Option Addr)(c1 c2:Nat)(hlen:L.length<=1000000)(W w:World)(Lr:List HP)(hS:St W (xtP (.slice a1 L.length c1) L::xtP (.slice a2 L.length c2) L::Lr) w):
  Calls Tryz.prog 75 #[.slice a1 L.length c1,.slice a2 L.length c2] w fun e w'=>e=.returned (.bool true)/\St W (xtP (.slice a1 L.length c1) L::xtP (.slice a2 L.length c2) L::Lr) w':=by
 go_enter Tryz.func75,Tryz.ntmps75;go_wp2_with fail
 go_loopw [5] (fun v wr=>TzR W (xtP (.slice a1 L.length c1) L::xtP (.slice a2 L.length c2) L::Lr) L.length v wr) (fun v _=>L.length-(intOf v).toNat)
 case atStart=>exact⟨0,rfl,by omega,hS⟩
 case round=>
  clear hS;obtain⟨i,rfl,hi,hS⟩:=hrel;by_cases hn:i=L.length
  ·subst hn;go_wp2_with fail;go_ret;exact⟨rfl,hS⟩
  ·have hil:i<L.length:=by omega
   clear hn hi;obtain⟨⟨g1,rfl⟩,hc1,hn1⟩:=St.rowAddr hS (by omega);obtain⟨⟨g2,rfl⟩,hc2,hn2⟩:=St.rowAddr hS.drop (by omega);have q1:∀{X:List HP},d7 (xtP (.S g1 L.length c1) L::X) g1 (i*8) (tnC L[i]):=fun{X}=>d7.rowE Fp7 hil
   have q2:∀{X:List HP},d7 (xtP (.S g2 L.length c2) L::X) g2 (i*8) (tnC L[i]):=fun{X}=>d7.rowE Fp7 hil
   generalize L[i]=x at q1 q2;obtain⟨⟨y1,y2⟩,⟨t0,t1,t2,t3,t4,t5,t6,t7⟩⟩:=x;simp only[tnC,Tns.cells]at q1 q2;go_wp2_with fail;refine Aa7 (by kernel_rfl) (by kernel_rfl) hS ?_
   iterate 3 (refine qR ?_)
   (apply Fx7;rfl;rfl;rfl;decide +kernel;exact q1;kernel_rfl;refine frS ?_)
   iterate 3 (refine qR ?_)
   (apply Fx7;rfl;rfl;rfl;decide +kernel;exact d7.there q2;kernel_rfl;refine frS ?_)
   ((with_reducible apply Tj7);rfl;rfl;rfl;rfl;kernel_rfl;exact fO4 _ _ _ _ _ _ _ _;simp only[Bool.not_true];refine frS ?_)
   clear hS q1 q2;intro w hS;go_wp2_with fail;go_roundw
   case rel=>exact⟨i+1,rfl,hil,hS⟩
   case measure=>simp[intOf];omega
theorem DZ7{L:List ((Int×Int)×Tns)}{v1 v2:Value}(hlen:L.length<=1000000){W w:World}{Lr R R2:List HP}(hS:St W Lr w)(h1:Take Lr (xtP v1 L) R)(h2:Take R (xtP v2 L) R2):
  Calls Tryz.prog 75 #[v1,v2] w fun e w'=>e=.returned (.bool true)/\St W Lr w':=by
 obtain⟨a1,c1,rfl⟩:=(hS.take h1).rowVal;obtain⟨a2,c2,rfl⟩:=((hS.take h1).drop.take h2).rowVal;have h3:St W (xtP (.slice a2 L.length c2) L::xtP (.slice a1 L.length c1) L::R2) w:=⟨hS.os,hS.tape,hS.output,DG7 (AU7 (fun _ x=>x) (fun _ x=>h2.sats x) (h1.sats hS.sat))⟩
 refine(Hq7 L a1 a2 c1 c2 hlen W w R2 h3.swap).mono ?_;rintro e w' ⟨rfl,h⟩;refine⟨rfl,St.back ⟨h.os,h.tape,h.output,AU7 (fun _ x=>x) (fun _ x=>h2.back x) h.sat⟩ h1⟩
theorem Qw7{vb N:Nat}{V:Vs}(hw:PsW V.ps N)(hN:N<=1000000)(hmay:∀x∈V.L,MayP x)(hl32:V.L.length<=32){s0 s1 s2 s3:Int}(ht:y9 (G7 V) it0=some ⟨s0,s1,s2,s3⟩){W w:World}{R:List HP}(hS:St W (dvP vb V::R) w):
  Calls Tryz.prog 139 #[.P vb] w fun e w'=>e=.returned (.tuple #[.agg #[.I s0,.I s1,.I s2,.I s3],.bool true])/\St W (dvP vb V::R) w':=by
 obtain⟨xB,hS0⟩:=dx4 hS;refine(em4 vb xB V.ps V.L V.n hw hN hmay hl32 W w R hS0).mono ?_;rintro e w' ⟨rfl,hS⟩;refine⟨?_,cy4 hS⟩;have h1:y9 (G7 ⟨V.ps,V.L,V.n⟩) it0=some ⟨s0,s1,s2,s3⟩:=ht;rw[h1,I6,h1];rfl
end Go.Proofs.YtlmhakmoioogaaaGreat
end
