/-
  The document's May: the walk. For every request.
-/
import Derived.Test.YtlmhakmoioogaaaGreatEconPlaysM5
import Derived.Test.YtlmhakmoioogaaaGreatEconPlaysM44
set_option maxHeartbeats 16000000
set_option maxRecDepth 100000
set_option linter.unusedSimpArgs false
set_option linter.unusedVariables false
section
namespace Go.Proofs.YtlmhakmoioogaaaGreat
open Go.RowKit Go.Sl
theorem FT7{k:ByteArray}{r:Bool}(h:whoB k=r)(W w:World)(R:List HP)(hS:St W R w):
  Calls Tryz.prog 115 #[.string k] w fun e w'=>e=.returned (.bool r)∧St W R w':=by
 go_enter Tryz.func115,Tryz.ntmps115
 by_cases h1:1≤k.size
 case neg=>
  have e:=Lib.hid (show r=false by rw[←h];unfold whoB;simp;omega)
  have d1:decide ((1:Int)≤(k.size:Int))=false:=by simp;omega
  clear h
  go_wp2_with(fail)
  go_ret
  rw[e.out]
  exact⟨rfl,hS⟩
 have d1:(1:Int)≤(k.size:Int):=by omega
 by_cases h2:k.size≤16
 case neg=>
  have e:=Lib.hid (show r=false by rw[←h];unfold whoB;simp;omega)
  have d2:decide ((k.size:Int)≤16)=false:=by simp;omega
  clear h
  go_wp2_with(fail)
  go_ret
  rw[e.out]
  exact⟨rfl,hS⟩
 have d2:(k.size:Int)≤16:=by omega
 have e:=Lib.hid (show r=true by rw[←h];unfold whoB;simp;omega)
 clear h
 go_wp2_with(fail)
 go_ret
 rw[e.out]
 exact⟨rfl,hS⟩
theorem AO7{k u:ByteArray}{r:Bool}(h:plcB k u=r)(W w:World)(R:List HP)(hS:St W R w):
  Calls Tryz.prog 179 #[.agg #[.string k,.string u]] w fun e w'=>e=.returned (.bool r)∧St W R w':=by
 unfold plcB at h
 cases hk:whoB k with
 | false=>
  rw[hk]at h
  have h2:false=r:=h
  subst h2
  have Hk:=Lib.hid hk
  clear hk h
  go_enter Tryz.func179,Tryz.ntmps179
  go_wp2_with(first|go_big_skip|(refine zbx hS ?_;clear hS;intro b w hS)|(refine zl1 hS ?_)|(go_at_call 115;with_reducible refine(FT7 (Hk.out) W _ _ hS).mono ?_;clear hS;rintro e w ⟨rfl,hS⟩))
  go_ret
  exact⟨rfl,hS.drop⟩
 | true=>
  rw[hk]at h
  have hu:whoB u=r:=h
  have Hk:=Lib.hid hk
  have Hu:=Lib.hid hu
  clear hk h hu
  go_enter Tryz.func179,Tryz.ntmps179
  go_wp2_with(first|(refine zbx hS ?_;clear hS;intro b w hS)|(refine zl1 hS ?_)|(go_at_call 115;with_reducible refine(FT7 (Hk.out) W _ _ hS).mono ?_;clear hS;rintro e w ⟨rfl,hS⟩)|(go_at_call 115;with_reducible refine(FT7 (Hu.out) W _ _ hS).mono ?_;clear hS;rintro e w ⟨rfl,hS⟩))
  go_ret
  exact⟨rfl,hS.drop⟩
theorem Cz7{a0 a1 a2 a7 a8 a9 a11 b0 b1 b2 b7 b8 b9 b11:Int}{a3 a4 a5 a6 b3 b4 b5 b6:ByteArray}{a10 b10 r:Bool}(h:Opn.eqB ⟨a0,a1,a2,a3,a4,a5,a6,a7,a8,a9,a10,a11⟩ ⟨b0,b1,b2,b3,b4,b5,b6,b7,b8,b9,b10,b11⟩=r)(w:World):
  (Op.equalIn 10000 35 (oV a0 a1 a2 a3 a4 a5 a6 a7 a8 a9 a10 a11) (oV b0 b1 b2 b3 b4 b5 b6 b7 b8 b9 b10 b11)).run Tryz.prog w=.ok r w:=h▸eqOpn ⟨a0,a1,a2,a3,a4,a5,a6,a7,a8,a9,a10,a11⟩ ⟨b0,b1,b2,b3,b4,b5,b6,b7,b8,b9,b10,b11⟩ w
theorem Hc7{kd cl sq:Int}{ak aw tk tw:ByteArray}{it ct pr:Int}{bu:Bool}{id:Int}{r:Bool}(hm:mayO ⟨kd,cl,sq,ak,aw,tk,tw,it,ct,pr,bu,id⟩=r)(W w:World)(R:List HP)(hS:St W R w):
  Calls Tryz.prog 113 #[oV kd cl sq ak aw tk tw it ct pr bu id] w fun e w'=>e=.returned (.bool r)∧St W R w':=by
 have Hm:=Lib.hid hm
 clear hm
 go_enter Tryz.func113,Tryz.ntmps113
 by_cases h1:1≤cl
 case neg=>
  have d1:decide (cl<1)=true:=by simp;omega
  have e:=Lib.hid (show r=false by rw[←Hm.out];refine DX7 ?_;unfold headB;simp;omega)
  go_wp2_with(first|go_big_skip|(refine zbx hS ?_;clear hS;intro bO w hS)|(refine zl1 hS ?_))
  go_ret
  rw[e.out]
  exact⟨rfl,hS.drop⟩
 have d1:decide (cl<1)=false:=by simp;omega
 by_cases h2:cl≤1048576
 case neg=>
  have d2:decide (1048576<cl)=true:=by simp;omega
  have e:=Lib.hid (show r=false by rw[←Hm.out];refine DX7 ?_;unfold headB;simp;omega)
  go_wp2_with(first|go_big_skip|(refine zbx hS ?_;clear hS;intro bO w hS)|(refine zl1 hS ?_))
  go_ret
  rw[e.out]
  exact⟨rfl,hS.drop⟩
 have d2:decide (1048576<cl)=false:=by simp;omega
 by_cases h3:1≤sq
 case neg=>
  have d3:decide (sq<1)=true:=by simp;omega
  have e:=Lib.hid (show r=false by rw[←Hm.out];refine DX7 ?_;unfold headB;simp;omega)
  go_wp2_with(first|go_big_skip|(refine zbx hS ?_;clear hS;intro bO w hS)|(refine zl1 hS ?_))
  go_ret
  rw[e.out]
  exact⟨rfl,hS.drop⟩
 have d3:decide (sq<1)=false:=by simp;omega
 by_cases h4:sq≤1099511627776
 case neg=>
  have d4:decide (1099511627776<sq)=true:=by simp;omega
  have e:=Lib.hid (show r=false by rw[←Hm.out];refine DX7 ?_;unfold headB;simp;omega)
  go_wp2_with(first|go_big_skip|(refine zbx hS ?_;clear hS;intro bO w hS)|(refine zl1 hS ?_))
  go_ret
  rw[e.out]
  exact⟨rfl,hS.drop⟩
 have d4:decide (1099511627776<sq)=false:=by simp;omega
 cases hpa:plcB ak aw with
 | false=>
  have Hpa:=Lib.hid hpa
  have e:=Lib.hid (show r=false by rw[←Hm.out];refine DX7 ?_;unfold headB;simp[hpa])
  go_wp2_with(first|(refine zbx hS ?_;clear hS;intro bO w hS)|(refine zl1 hS ?_)|(refine zlN hS ?_ (vs:=[.string ak,.string aw]) (hc:=by focus((repeat(first|exact Cells.here rfl|apply Cells.there));done)))|(go_at_call 179;with_reducible refine(AO7 Hpa.out W _ _ hS).mono ?_;clear hS;rintro e w ⟨rfl,hS⟩))
  go_ret
  rw[e.out]
  exact⟨rfl,hS.drop⟩
 | true=>
 have Hpa:=Lib.hid hpa
 have hh:headB ⟨kd,cl,sq,ak,aw,tk,tw,it,ct,pr,bu,id⟩=true:=by unfold headB;simp[hpa];omega
 have Hh:=Lib.hid hh
 clear hpa hh h1 h2 h3 h4
 by_cases k1:kd=1
 ·subst k1
  go_wp2_with(first|(refine zbx hS ?_;clear hS;intro bO w hS)|(refine zl1 hS ?_)|(refine zlN hS ?_ (vs:=[.string ak,.string aw]) (hc:=by focus((repeat(first|exact Cells.here rfl|apply Cells.there));done)))|(go_at_call 179;with_reducible refine(AO7 Hpa.out W _ _ hS).mono ?_;clear hS;rintro e w ⟨rfl,hS⟩)|(refine zal hS ?_;clear hS;intro bX w hS)|(refine zsN hS ?_;clear hS;intro w hS))
  have hS1:=hS.s (blk bX _ _::blk bO _ _::R)
  clear hS
  refine rf2 [0,1,0,4,3,19,63,127] (fun _=>false) [⟨some 5,some 7,fun _=>blk bX [.int .i64 1,.int .i64 cl,.int .i64 sq,.string ak,.string aw,.string ⟨#[]⟩,.string ⟨#[]⟩,.int .i64 it,.int .i64 0,.int .i64 0,.bool false,.int .i64 0] 35⟩,⟨some 7,none,fun _=>blk bX [.int .i64 1,.int .i64 cl,.int .i64 sq,.string ak,.string aw,.string ⟨#[]⟩,.string ⟨#[]⟩,.int .i64 it,.int .i64 ct,.int .i64 0,.bool false,.int .i64 0] 35⟩] [some 5,none] hS1 ?_
  clear hS1
  intro nd
  (refine cR ?_)
  (refine zc1 ?_)
  (refine cR ?_)
  (refine zc1 ?_)
  (refine cR ?_)
  (refine zcs ?_)
  (refine cR ?_)
  (refine zcs ?_)
  refine Ad7 ?_
  intro w hS
  have hS2:St W [blk bX _ _,blk bO _ _,sats R] w:=hS
  clear hS
  have hS:=hS2.unpack [_,_]
  clear hS2
  simp only[List.cons_append,List.nil_append]at hS
  by_cases c1:0≤it
  case neg=>
   have d1:decide (0≤it)=false:=by simpa using c1
   have e:=Lib.hid (show r=false by rw[←Hm.out];exact EE7 Hh.out (.inl rfl) (by unfold cntB;simp;omega))
   go_wp2_with(first|go_big_skip|(refine zl1 hS ?_))
   go_ret
   rw[e.out]
   exact⟨rfl,hS.drop.drop⟩
  by_cases c2:it≤3
  case neg=>
   have d2:decide (it≤3)=false:=by simpa using c2
   have e:=Lib.hid (show r=false by rw[←Hm.out];exact EE7 Hh.out (.inl rfl) (by unfold cntB;simp;omega))
   go_wp2_with(first|go_big_skip|(refine zl1 hS ?_))
   go_ret
   rw[e.out]
   exact⟨rfl,hS.drop.drop⟩
  by_cases c3:1≤ct
  case neg=>
   have d3:decide (1≤ct)=false:=by simpa using c3
   have e:=Lib.hid (show r=false by rw[←Hm.out];exact EE7 Hh.out (.inl rfl) (by unfold cntB;simp;omega))
   go_wp2_with(first|go_big_skip|(refine zl1 hS ?_))
   go_ret
   rw[e.out]
   exact⟨rfl,hS.drop.drop⟩
  by_cases c4:ct≤1048576
  case neg=>
   have d4:decide (ct≤1048576)=false:=by simpa using c4
   have e:=Lib.hid (show r=false by rw[←Hm.out];exact EE7 Hh.out (.inl rfl) (by unfold cntB;simp;omega))
   go_wp2_with(first|go_big_skip|(refine zl1 hS ?_))
   go_ret
   rw[e.out]
   exact⟨rfl,hS.drop.drop⟩
  have He:=Lib.hid (show Opn.eqB ⟨1,cl,sq,ak,aw,⟨#[]⟩,⟨#[]⟩,it,ct,0,false,0⟩ ⟨1,cl,sq,ak,aw,tk,tw,it,ct,pr,bu,id⟩=r by rw[←Hm.out];exact(may_1 Hh.out (.inl rfl) (by unfold cntB;simp;omega)).symm)
  go_wp2_with(first|(refine zl1 hS ?_)|(refine zlN hS ?_)|((with_reducible apply BT7);(with_reducible rfl);rfl;rfl;rfl;kernel_rfl;exact Cz7 He.out;(refine frS ?_)))
  go_ret
  exact⟨rfl,hS.drop.drop⟩
 by_cases k6:kd=6
 ·subst k6
  go_wp2_with(first|(refine zbx hS ?_;clear hS;intro bO w hS)|(refine zl1 hS ?_)|(refine zlN hS ?_ (vs:=[.string ak,.string aw]) (hc:=by focus((repeat(first|exact Cells.here rfl|apply Cells.there));done)))|(go_at_call 179;with_reducible refine(AO7 Hpa.out W _ _ hS).mono ?_;clear hS;rintro e w ⟨rfl,hS⟩)|(refine zal hS ?_;clear hS;intro bX w hS)|(refine zsN hS ?_;clear hS;intro w hS))
  have hS1:=hS.s (blk bX _ _::blk bO _ _::R)
  clear hS
  refine rf2 [0,1,0,4,3,19,63,127] (fun _=>false) [⟨some 5,some 7,fun _=>blk bX [.int .i64 6,.int .i64 cl,.int .i64 sq,.string ak,.string aw,.string ⟨#[]⟩,.string ⟨#[]⟩,.int .i64 it,.int .i64 0,.int .i64 0,.bool false,.int .i64 0] 35⟩,⟨some 7,none,fun _=>blk bX [.int .i64 6,.int .i64 cl,.int .i64 sq,.string ak,.string aw,.string ⟨#[]⟩,.string ⟨#[]⟩,.int .i64 it,.int .i64 ct,.int .i64 0,.bool false,.int .i64 0] 35⟩] [some 5,none] hS1 ?_
  clear hS1
  intro nd
  (refine cR ?_)
  (refine zc1 ?_)
  (refine cR ?_)
  (refine zc1 ?_)
  (refine cR ?_)
  (refine zcs ?_)
  (refine cR ?_)
  (refine zcs ?_)
  refine Ad7 ?_
  intro w hS
  have hS2:St W [blk bX _ _,blk bO _ _,sats R] w:=hS
  clear hS
  have hS:=hS2.unpack [_,_]
  clear hS2
  simp only[List.cons_append,List.nil_append]at hS
  by_cases c1:0≤it
  case neg=>
   have d1:decide (0≤it)=false:=by simpa using c1
   have e:=Lib.hid (show r=false by rw[←Hm.out];exact EE7 Hh.out (.inr rfl) (by unfold cntB;simp;omega))
   go_wp2_with(first|go_big_skip|(refine zl1 hS ?_))
   go_ret
   rw[e.out]
   exact⟨rfl,hS.drop.drop⟩
  by_cases c2:it≤3
  case neg=>
   have d2:decide (it≤3)=false:=by simpa using c2
   have e:=Lib.hid (show r=false by rw[←Hm.out];exact EE7 Hh.out (.inr rfl) (by unfold cntB;simp;omega))
   go_wp2_with(first|go_big_skip|(refine zl1 hS ?_))
   go_ret
   rw[e.out]
   exact⟨rfl,hS.drop.drop⟩
  by_cases c3:1≤ct
  case neg=>
   have d3:decide (1≤ct)=false:=by simpa using c3
   have e:=Lib.hid (show r=false by rw[←Hm.out];exact EE7 Hh.out (.inr rfl) (by unfold cntB;simp;omega))
   go_wp2_with(first|go_big_skip|(refine zl1 hS ?_))
   go_ret
   rw[e.out]
   exact⟨rfl,hS.drop.drop⟩
  by_cases c4:ct≤1048576
  case neg=>
   have d4:decide (ct≤1048576)=false:=by simpa using c4
   have e:=Lib.hid (show r=false by rw[←Hm.out];exact EE7 Hh.out (.inr rfl) (by unfold cntB;simp;omega))
   go_wp2_with(first|go_big_skip|(refine zl1 hS ?_))
   go_ret
   rw[e.out]
   exact⟨rfl,hS.drop.drop⟩
  have He:=Lib.hid (show Opn.eqB ⟨6,cl,sq,ak,aw,⟨#[]⟩,⟨#[]⟩,it,ct,0,false,0⟩ ⟨6,cl,sq,ak,aw,tk,tw,it,ct,pr,bu,id⟩=r by rw[←Hm.out];exact(may_1 Hh.out (.inr rfl) (by unfold cntB;simp;omega)).symm)
  go_wp2_with(first|(refine zl1 hS ?_)|(refine zlN hS ?_)|((with_reducible apply BT7);(with_reducible rfl);rfl;rfl;rfl;kernel_rfl;exact Cz7 He.out;(refine frS ?_)))
  go_ret
  exact⟨rfl,hS.drop.drop⟩
 by_cases k2:kd=2
 ·subst k2
  go_wp2_with(first|(refine zbx hS ?_;clear hS;intro bO w hS)|(refine zl1 hS ?_)|(refine zlN hS ?_ (vs:=[.string ak,.string aw]) (hc:=by focus((repeat(first|exact Cells.here rfl|apply Cells.there));done)))|(go_at_call 179;with_reducible refine(AO7 Hpa.out W _ _ hS).mono ?_;clear hS;rintro e w ⟨rfl,hS⟩)|(refine zal hS ?_;clear hS;intro bX w hS)|(refine zsN hS ?_;clear hS;intro w hS))
  have hS1:=hS.s (blk bX _ _::blk bO _ _::R)
  clear hS
  refine rf2 [0,1,0,4,0,16,3,67,207,463,1023,2047] (fun _=>false) [⟨some 7,some 9,fun _=>blk bX [.int .i64 2,.int .i64 cl,.int .i64 sq,.string ak,.string aw,.string ⟨#[]⟩,.string ⟨#[]⟩,.int .i64 it,.int .i64 0,.int .i64 0,.bool false,.int .i64 0] 35⟩,⟨some 9,some 11,fun _=>blk bX [.int .i64 2,.int .i64 cl,.int .i64 sq,.string ak,.string aw,.string ⟨#[]⟩,.string ⟨#[]⟩,.int .i64 it,.int .i64 ct,.int .i64 0,.bool false,.int .i64 0] 35⟩,⟨some 11,none,fun _=>blk bX [.int .i64 2,.int .i64 cl,.int .i64 sq,.string ak,.string aw,.string tk,.string tw,.int .i64 it,.int .i64 ct,.int .i64 0,.bool false,.int .i64 0] 35⟩] [some 7,none] hS1 ?_
  clear hS1
  intro nd
  (refine cR ?_)
  (refine zc1 ?_)
  (refine cR ?_)
  (refine zc1 ?_)
  (refine cR ?_)
  (refine zcN ?_ (vs:=[.string tk,.string tw]) (hc:=by(intro F;focus((repeat(first|exact Cells.here rfl));done))))
  (refine cR ?_)
  (refine zcs ?_)
  (refine cR ?_)
  (refine zcs ?_)
  (refine cR ?_)
  (refine zcs ?_)
  refine Ad7 ?_
  intro w hS
  have hS2:St W [blk bX _ _,blk bO _ _,sats R] w:=hS
  clear hS
  have hS:=hS2.unpack [_,_]
  clear hS2
  simp only[List.cons_append,List.nil_append]at hS
  cases hpt:plcB tk tw with
  | false=>
   have Hpt:=Lib.hid hpt
   by_cases c1:0≤it
   case neg=>
    have d1:decide (0≤it)=false:=by simpa using c1
    have e:=Lib.hid (show r=false by rw[←Hm.out];exact DW7 Hh.out rfl (.inr hpt))
    go_wp2_with(first|go_big_skip|(refine zl1 hS ?_))
    go_ret
    rw[e.out]
    exact⟨rfl,hS.drop.drop⟩
   by_cases c2:it≤3
   case neg=>
    have d2:decide (it≤3)=false:=by simpa using c2
    have e:=Lib.hid (show r=false by rw[←Hm.out];exact DW7 Hh.out rfl (.inr hpt))
    go_wp2_with(first|go_big_skip|(refine zl1 hS ?_))
    go_ret
    rw[e.out]
    exact⟨rfl,hS.drop.drop⟩
   by_cases c3:1≤ct
   case neg=>
    have d3:decide (1≤ct)=false:=by simpa using c3
    have e:=Lib.hid (show r=false by rw[←Hm.out];exact DW7 Hh.out rfl (.inr hpt))
    go_wp2_with(first|go_big_skip|(refine zl1 hS ?_))
    go_ret
    rw[e.out]
    exact⟨rfl,hS.drop.drop⟩
   by_cases c4:ct≤1048576
   case neg=>
    have d4:decide (ct≤1048576)=false:=by simpa using c4
    have e:=Lib.hid (show r=false by rw[←Hm.out];exact DW7 Hh.out rfl (.inr hpt))
    go_wp2_with(first|go_big_skip|(refine zl1 hS ?_))
    go_ret
    rw[e.out]
    exact⟨rfl,hS.drop.drop⟩
   have e:=Lib.hid (show r=false by rw[←Hm.out];exact DW7 Hh.out rfl (.inr hpt))
   go_wp2_with(first|go_big_skip|(refine zl1 hS ?_)|(refine zlN hS ?_ (vs:=[.string tk,.string tw]) (hc:=by focus((repeat(first|exact Cells.here rfl|apply Cells.there));done)))|(go_at_call 179;with_reducible refine(AO7 Hpt.out W _ _ hS).mono ?_;clear hS;rintro e w ⟨rfl,hS⟩))
   go_ret
   rw[e.out]
   exact⟨rfl,hS.drop.drop⟩
  | true=>
   have Hpt:=Lib.hid hpt
   by_cases c1:0≤it
   case neg=>
    have d1:decide (0≤it)=false:=by simpa using c1
    have e:=Lib.hid (show r=false by rw[←Hm.out];exact DW7 Hh.out rfl (.inl (by unfold cntB;simp;omega)))
    go_wp2_with(first|go_big_skip|(refine zl1 hS ?_))
    go_ret
    rw[e.out]
    exact⟨rfl,hS.drop.drop⟩
   by_cases c2:it≤3
   case neg=>
    have d2:decide (it≤3)=false:=by simpa using c2
    have e:=Lib.hid (show r=false by rw[←Hm.out];exact DW7 Hh.out rfl (.inl (by unfold cntB;simp;omega)))
    go_wp2_with(first|go_big_skip|(refine zl1 hS ?_))
    go_ret
    rw[e.out]
    exact⟨rfl,hS.drop.drop⟩
   by_cases c3:1≤ct
   case neg=>
    have d3:decide (1≤ct)=false:=by simpa using c3
    have e:=Lib.hid (show r=false by rw[←Hm.out];exact DW7 Hh.out rfl (.inl (by unfold cntB;simp;omega)))
    go_wp2_with(first|go_big_skip|(refine zl1 hS ?_))
    go_ret
    rw[e.out]
    exact⟨rfl,hS.drop.drop⟩
   by_cases c4:ct≤1048576
   case neg=>
    have d4:decide (ct≤1048576)=false:=by simpa using c4
    have e:=Lib.hid (show r=false by rw[←Hm.out];exact DW7 Hh.out rfl (.inl (by unfold cntB;simp;omega)))
    go_wp2_with(first|go_big_skip|(refine zl1 hS ?_))
    go_ret
    rw[e.out]
    exact⟨rfl,hS.drop.drop⟩
   have He:=Lib.hid (show Opn.eqB ⟨2,cl,sq,ak,aw,tk,tw,it,ct,0,false,0⟩ ⟨2,cl,sq,ak,aw,tk,tw,it,ct,pr,bu,id⟩=r by rw[←Hm.out];exact(may_2 Hh.out rfl (by unfold cntB;simp;omega) hpt).symm)
   go_wp2_with(first|(refine zl1 hS ?_)|(refine zlN hS ?_)|(refine zlN hS ?_ (vs:=[.string tk,.string tw]) (hc:=by focus((repeat(first|exact Cells.here rfl|apply Cells.there));done)))|(go_at_call 179;with_reducible refine(AO7 Hpt.out W _ _ hS).mono ?_;clear hS;rintro e w ⟨rfl,hS⟩)|((with_reducible apply BT7);(with_reducible rfl);rfl;rfl;rfl;kernel_rfl;exact Cz7 He.out;(refine frS ?_)))
   go_ret
   exact⟨rfl,hS.drop.drop⟩
 by_cases k3:kd=3
 ·subst k3
  go_wp2_with(first|(refine zbx hS ?_;clear hS;intro bO w hS)|(refine zl1 hS ?_)|(refine zlN hS ?_ (vs:=[.string ak,.string aw]) (hc:=by focus((repeat(first|exact Cells.here rfl|apply Cells.there));done)))|(go_at_call 179;with_reducible refine(AO7 Hpa.out W _ _ hS).mono ?_;clear hS;rintro e w ⟨rfl,hS⟩)|(refine zal hS ?_;clear hS;intro bX w hS)|(refine zsN hS ?_;clear hS;intro w hS))
  have hS1:=hS.s (blk bX _ _::blk bO _ _::R)
  clear hS
  refine rf2 [0,1,0,4,0,16,0,64,3,259,783,1807,3903,7999,16383,32767] (fun _=>false) [⟨some 9,some 11,fun _=>blk bX [.int .i64 3,.int .i64 cl,.int .i64 sq,.string ak,.string aw,.string ⟨#[]⟩,.string ⟨#[]⟩,.int .i64 it,.int .i64 0,.int .i64 0,.bool false,.int .i64 0] 35⟩,⟨some 11,some 13,fun _=>blk bX [.int .i64 3,.int .i64 cl,.int .i64 sq,.string ak,.string aw,.string ⟨#[]⟩,.string ⟨#[]⟩,.int .i64 it,.int .i64 ct,.int .i64 0,.bool false,.int .i64 0] 35⟩,⟨some 13,some 15,fun _=>blk bX [.int .i64 3,.int .i64 cl,.int .i64 sq,.string ak,.string aw,.string ⟨#[]⟩,.string ⟨#[]⟩,.int .i64 it,.int .i64 ct,.int .i64 pr,.bool false,.int .i64 0] 35⟩,⟨some 15,none,fun _=>blk bX [.int .i64 3,.int .i64 cl,.int .i64 sq,.string ak,.string aw,.string ⟨#[]⟩,.string ⟨#[]⟩,.int .i64 it,.int .i64 ct,.int .i64 pr,.bool bu,.int .i64 0] 35⟩] [some 9,none] hS1 ?_
  clear hS1
  intro nd
  (refine cR ?_)
  (refine zc1 ?_)
  (refine cR ?_)
  (refine zc1 ?_)
  (refine cR ?_)
  (refine zc1 ?_)
  (refine cR ?_)
  (refine zc1 ?_)
  (refine cR ?_)
  (refine zcs ?_)
  (refine cR ?_)
  (refine zcs ?_)
  (refine cR ?_)
  (refine zcs ?_)
  (refine cR ?_)
  (refine zcs ?_)
  refine Ad7 ?_
  intro w hS
  have hS2:St W [blk bX _ _,blk bO _ _,sats R] w:=hS
  clear hS
  have hS:=hS2.unpack [_,_]
  clear hS2
  simp only[List.cons_append,List.nil_append]at hS
  by_cases c1:1≤it
  case neg=>
   have d1:decide (1≤it)=false:=by simpa using c1
   have e:=Lib.hid (show r=false by rw[←Hm.out];exact Gu7 Hh.out rfl (.inl c1))
   go_wp2_with(first|go_big_skip|(refine zl1 hS ?_))
   go_ret
   rw[e.out]
   exact⟨rfl,hS.drop.drop⟩
  by_cases c2:it≤3
  case neg=>
   have d2:decide (it≤3)=false:=by simpa using c2
   have e:=Lib.hid (show r=false by rw[←Hm.out];exact Gu7 Hh.out rfl (.inr (.inl (by unfold cntB;simp;omega))))
   go_wp2_with(first|go_big_skip|(refine zl1 hS ?_))
   go_ret
   rw[e.out]
   exact⟨rfl,hS.drop.drop⟩
  by_cases c3:1≤ct
  case neg=>
   have d3:decide (1≤ct)=false:=by simpa using c3
   have e:=Lib.hid (show r=false by rw[←Hm.out];exact Gu7 Hh.out rfl (.inr (.inl (by unfold cntB;simp;omega))))
   go_wp2_with(first|go_big_skip|(refine zl1 hS ?_))
   go_ret
   rw[e.out]
   exact⟨rfl,hS.drop.drop⟩
  by_cases c4:ct≤1048576
  case neg=>
   have d4:decide (ct≤1048576)=false:=by simpa using c4
   have e:=Lib.hid (show r=false by rw[←Hm.out];exact Gu7 Hh.out rfl (.inr (.inl (by unfold cntB;simp;omega))))
   go_wp2_with(first|go_big_skip|(refine zl1 hS ?_))
   go_ret
   rw[e.out]
   exact⟨rfl,hS.drop.drop⟩
  by_cases c5:1≤pr
  case neg=>
   have d5:decide (1≤pr)=false:=by simpa using c5
   have e:=Lib.hid (show r=false by rw[←Hm.out];exact Gu7 Hh.out rfl (.inr (.inr (.inl c5))))
   go_wp2_with(first|go_big_skip|(refine zl1 hS ?_))
   go_ret
   rw[e.out]
   exact⟨rfl,hS.drop.drop⟩
  by_cases c6:pr≤1024
  case neg=>
   have d6:decide (pr≤1024)=false:=by simpa using c6
   have e:=Lib.hid (show r=false by rw[←Hm.out];exact Gu7 Hh.out rfl (.inr (.inr (.inr c6))))
   go_wp2_with(first|go_big_skip|(refine zl1 hS ?_))
   go_ret
   rw[e.out]
   exact⟨rfl,hS.drop.drop⟩
  have He:=Lib.hid (show Opn.eqB ⟨3,cl,sq,ak,aw,⟨#[]⟩,⟨#[]⟩,it,ct,pr,bu,0⟩ ⟨3,cl,sq,ak,aw,tk,tw,it,ct,pr,bu,id⟩=r by rw[←Hm.out];exact(may_3 Hh.out rfl c1 (by unfold cntB;simp;omega) c5 c6).symm)
  go_wp2_with(first|(refine zl1 hS ?_)|(refine zlN hS ?_)|((with_reducible apply BT7);(with_reducible rfl);rfl;rfl;rfl;kernel_rfl;exact Cz7 He.out;(refine frS ?_)))
  go_ret
  exact⟨rfl,hS.drop.drop⟩
 by_cases k4:kd=4
 ·subst k4
  by_cases c1:1≤id
  case neg=>
   have dj:decide (1≤id)=false:=by simpa using c1
   have e:=Lib.hid (show r=false by rw[←Hm.out];exact Pp7 Hh.out rfl (.inl c1))
   go_wp2_with(first|go_big_skip|(refine zbx hS ?_;clear hS;intro bO w hS)|(refine zl1 hS ?_)|(refine zlN hS ?_ (vs:=[.string ak,.string aw]) (hc:=by focus((repeat(first|exact Cells.here rfl|apply Cells.there));done)))|(go_at_call 179;with_reducible refine(AO7 Hpa.out W _ _ hS).mono ?_;clear hS;rintro e w ⟨rfl,hS⟩)|(refine zal hS ?_;clear hS;intro bX w hS)|(refine zsN hS ?_;clear hS;intro w hS)|(refine zs1 hS ?_;clear hS;intro w hS))
   go_ret
   rw[e.out]
   exact⟨rfl,hS.drop.drop⟩
  by_cases c2:id≤1099511627776
  case neg=>
   have dk:decide (id≤1099511627776)=false:=by simpa using c2
   have e:=Lib.hid (show r=false by rw[←Hm.out];exact Pp7 Hh.out rfl (.inr c2))
   go_wp2_with(first|go_big_skip|(refine zbx hS ?_;clear hS;intro bO w hS)|(refine zl1 hS ?_)|(refine zlN hS ?_ (vs:=[.string ak,.string aw]) (hc:=by focus((repeat(first|exact Cells.here rfl|apply Cells.there));done)))|(go_at_call 179;with_reducible refine(AO7 Hpa.out W _ _ hS).mono ?_;clear hS;rintro e w ⟨rfl,hS⟩)|(refine zal hS ?_;clear hS;intro bX w hS)|(refine zsN hS ?_;clear hS;intro w hS)|(refine zs1 hS ?_;clear hS;intro w hS))
   go_ret
   rw[e.out]
   exact⟨rfl,hS.drop.drop⟩
  have He:=Lib.hid (show Opn.eqB ⟨4,cl,sq,ak,aw,⟨#[]⟩,⟨#[]⟩,0,0,0,false,id⟩ ⟨4,cl,sq,ak,aw,tk,tw,it,ct,pr,bu,id⟩=r by rw[←Hm.out];exact(may_4 Hh.out rfl c1 c2).symm)
  go_wp2_with(first|(refine zbx hS ?_;clear hS;intro bO w hS)|(refine zl1 hS ?_)|(refine zlN hS ?_)|(refine zlN hS ?_ (vs:=[.string ak,.string aw]) (hc:=by focus((repeat(first|exact Cells.here rfl|apply Cells.there));done)))|(go_at_call 179;with_reducible refine(AO7 Hpa.out W _ _ hS).mono ?_;clear hS;rintro e w ⟨rfl,hS⟩)|(refine zal hS ?_;clear hS;intro bX w hS)|(refine zsN hS ?_;clear hS;intro w hS)|(refine zs1 hS ?_;clear hS;intro w hS)|((with_reducible apply BT7);(with_reducible rfl);rfl;rfl;rfl;kernel_rfl;exact Cz7 He.out;(refine frS ?_)))
  go_ret
  exact⟨rfl,hS.drop.drop⟩
 by_cases k5:kd=5
 ·subst k5
  have He:=Lib.hid (show Opn.eqB ⟨5,cl,sq,ak,aw,⟨#[]⟩,⟨#[]⟩,0,0,0,false,0⟩ ⟨5,cl,sq,ak,aw,tk,tw,it,ct,pr,bu,id⟩=r by rw[←Hm.out];exact(may_5 Hh.out (.inl rfl)).symm)
  go_wp2_with(first|(refine zbx hS ?_;clear hS;intro bO w hS)|(refine zl1 hS ?_)|(refine zlN hS ?_)|(refine zlN hS ?_ (vs:=[.string ak,.string aw]) (hc:=by focus((repeat(first|exact Cells.here rfl|apply Cells.there));done)))|(go_at_call 179;with_reducible refine(AO7 Hpa.out W _ _ hS).mono ?_;clear hS;rintro e w ⟨rfl,hS⟩)|(refine zal hS ?_;clear hS;intro bX w hS)|(refine zsN hS ?_;clear hS;intro w hS)|((with_reducible apply BT7);(with_reducible rfl);rfl;rfl;rfl;kernel_rfl;exact Cz7 He.out;(refine frS ?_)))
  go_ret
  exact⟨rfl,hS.drop.drop⟩
 by_cases k7:kd=7
 ·subst k7
  have He:=Lib.hid (show Opn.eqB ⟨7,cl,sq,ak,aw,⟨#[]⟩,⟨#[]⟩,0,0,0,false,0⟩ ⟨7,cl,sq,ak,aw,tk,tw,it,ct,pr,bu,id⟩=r by rw[←Hm.out];exact(may_5 Hh.out (.inr rfl)).symm)
  go_wp2_with(first|(refine zbx hS ?_;clear hS;intro bO w hS)|(refine zl1 hS ?_)|(refine zlN hS ?_)|(refine zlN hS ?_ (vs:=[.string ak,.string aw]) (hc:=by focus((repeat(first|exact Cells.here rfl|apply Cells.there));done)))|(go_at_call 179;with_reducible refine(AO7 Hpa.out W _ _ hS).mono ?_;clear hS;rintro e w ⟨rfl,hS⟩)|(refine zal hS ?_;clear hS;intro bX w hS)|(refine zsN hS ?_;clear hS;intro w hS)|((with_reducible apply BT7);(with_reducible rfl);rfl;rfl;rfl;kernel_rfl;exact Cz7 He.out;(refine frS ?_)))
  go_ret
  exact⟨rfl,hS.drop.drop⟩
 have f1:(kd==1)=false:=by simpa using k1
 have f2:(kd==2)=false:=by simpa using k2
 have f3:(kd==3)=false:=by simpa using k3
 have f4:(kd==4)=false:=by simpa using k4
 have f5:(kd==5)=false:=by simpa using k5
 have f6:(kd==6)=false:=by simpa using k6
 have f7:(kd==7)=false:=by simpa using k7
 have e:=Lib.hid (show r=false by rw[←Hm.out];refine QZ7 ?_;unfold kindB;simp[k1,k2,k3,k4,k5,k6,k7])
 clear k1 k2 k3 k4 k5 k6 k7
 go_wp2_with(first|go_big_skip|(refine zbx hS ?_;clear hS;intro bO w hS)|(refine zl1 hS ?_)|(refine zlN hS ?_ (vs:=[.string ak,.string aw]) (hc:=by focus((repeat(first|exact Cells.here rfl|apply Cells.there));done)))|(go_at_call 179;with_reducible refine(AO7 Hpa.out W _ _ hS).mono ?_;clear hS;rintro e w ⟨rfl,hS⟩)|(refine zal hS ?_;clear hS;intro bX w hS)|(refine zsN hS ?_;clear hS;intro w hS))
 go_ret
 rw[e.out]
 exact⟨rfl,hS.drop.drop⟩
end Go.Proofs.YtlmhakmoioogaaaGreat
end
