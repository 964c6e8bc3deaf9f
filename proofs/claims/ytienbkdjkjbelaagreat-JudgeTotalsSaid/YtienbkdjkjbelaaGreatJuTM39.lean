/-
  The document's May.
-/
import Derived.Test.YtienbkdjkjbelaaGreatJuTM5
import Derived.Test.YtienbkdjkjbelaaGreatJuTM35
set_option maxHeartbeats 16000000
set_option maxRecDepth 100000
set_option linter.unusedSimpArgs false
set_option linter.unusedVariables false
section
namespace Go.Proofs.YtienbkdjkjbelaaGreat
open Go.RowKit Go.Sl
theorem eF4(o q:Opn)(w:World):(Op.equalIn 10000 31 (.agg o.cells.toArray) (.agg q.cells.toArray)).run Tryz.prog w=.ok (o.eqB q) w:=by
 have u9:=Tryz.underlying9;have a9:=Tryz.isAgg9;have z9:=Tryz.sizeOf9;have u3:=Tryz.underlying3;have a3:=Tryz.isAgg3;have z3:=Tryz.sizeOf3;have u4:=Tryz.underlying4;have a4:=Tryz.isAgg4;have z4:=Tryz.sizeOf4;have u5:=Tryz.underlying29;have a5:=Tryz.isAgg29;have z5:=Tryz.sizeOf29;have hp:=fun k u k2 u2 w=>dr4 k u k2 u2 9997 w
 have hs:Tryz.prog.stoodInHeld 31=false:=by kernel_rfl
 obtain⟨o0,o1,o2,o3,o4,o5,o6,o7,o8,o9,o10,o11⟩:=o;obtain⟨q0,q1,q2,q3,q4,q5,q6,q7,q8,q9,q10,q11⟩:=q;unfold Opn.eqB Opn.cells;dsimp only;rw[Op.equalIn];simp only[Sem.run_bind,run_underlying Tryz.underlying31,Result.andThen_ok,run_program,hs,Bool.false_eq_true,if_false];rw[<-Array.forIn_toList];simp only[List.forIn_cons,List.forIn_nil]
 go_simp
 by_cases h:o0=q0
 case neg=>simp[h]
 rw[if_pos h,decide_eq_true h,Bool.true_and];clear h;by_cases h:o1=q1
 case neg=>simp[h]
 rw[if_pos h,decide_eq_true h,Bool.true_and];clear h;by_cases h:o2=q2
 case neg=>simp[h]
 rw[if_pos h,decide_eq_true h,Bool.true_and];clear h;by_cases h:o3.toList=q3.toList
 case neg=>simp[h]
 by_cases h2:o4.toList=q4.toList
 case neg=>simp[h2]
 rw[if_neg (fun f=>f h h2),decide_eq_true h,decide_eq_true h2,Bool.true_and,Bool.true_and];clear h h2;by_cases h:o5.toList=q5.toList
 case neg=>simp[h]
 by_cases h2:o6.toList=q6.toList
 case neg=>simp[h2]
 rw[if_neg (fun f=>f h h2),decide_eq_true h,decide_eq_true h2,Bool.true_and,Bool.true_and];clear h h2;by_cases h:o7=q7
 case neg=>simp[h]
 rw[if_pos h,decide_eq_true h,Bool.true_and];clear h;by_cases h:o8=q8
 case neg=>simp[h]
 rw[if_pos h,decide_eq_true h,Bool.true_and];clear h;by_cases h:o9=q9
 case neg=>simp[h]
 rw[if_pos h,decide_eq_true h,Bool.true_and];clear h;by_cases h:o10=q10
 case neg=>simp[h]
 rw[if_pos h,decide_eq_true h,Bool.true_and];clear h;by_cases h:o11=q11 <;> simp[h]
theorem Bi7(u:ByteArray):decide ((⟨#[]⟩:ByteArray).toList=u.toList)=noB u:=by
 rw[<-EK7 u];by_cases h:u.toList=(⟨#[]⟩:ByteArray).toList
 ·rw[h]
 ·rw[decide_eq_false h,decide_eq_false (fun e=>h e.symm)]
section
variable{o:Opn}
abbrev xO(o:Opn)(tk tw:ByteArray)(it ct pr:Int)(bu:Bool)(id:Int):Opn:=⟨o.kind,o.client,o.seq,o.ak,o.aw,tk,tw,it,ct,pr,bu,id⟩
theorem DK7{tk tw:ByteArray}{it ct pr:Int}{bu:Bool}{id:Int}:(xO o tk tw it ct pr bu id).eqB o=(decide (tk.toList=o.tk.toList)&&(decide (tw.toList=o.tw.toList)&&(decide (it=o.item)&&(decide (ct=o.cnt)&&(decide (pr=o.price)&&(decide (bu=o.buy)&&decide (id=o.id))))))):=by unfold Opn.eqB;simp
theorem eG4(h:G5 o=true)(hk:o.kind=1\/o.kind=6)(hc:H5 o=true):w6 o=(xO o ⟨#[]⟩ ⟨#[]⟩ o.item o.cnt 0 false 0).eqB o:=by
 have hkb:J6 o=s7 o:=by
  unfold J6
  rcases hk with e|e <;> rw[e] <;> simp
 unfold w6;rw[h,hkb,DK7,Bi7,Bi7];unfold s7 dq4;rw[hc]
 cases o.buy <;> simp[eq_comm]
theorem Ey7(h:G5 o=true)(hk:o.kind=1\/o.kind=6)(hc:H5 o=false):w6 o=false:=by
 have hkb:J6 o=s7 o:=by
  unfold J6
  rcases hk with e|e <;> rw[e] <;> simp
 unfold w6;rw[h,hkb];unfold s7;rw[hc];rfl
theorem fT4(h:G5 o=true)(hk:o.kind=2)(hc:H5 o=true)(hp:az4 o.tk o.tw=true):w6 o=(xO o o.tk o.tw o.item o.cnt 0 false 0).eqB o:=by
 have hkb:J6 o=M6 o:=by unfold J6;rw[hk];simp
 unfold w6;rw[h,hkb,DK7];unfold M6;rw[hc,hp]
 cases o.buy <;> simp[eq_comm]
theorem DL7(h:G5 o=true)(hk:o.kind=2)(hc:H5 o=false\/az4 o.tk o.tw=false):w6 o=false:=by
 have hkb:J6 o=M6 o:=by unfold J6;rw[hk];simp
 unfold w6;rw[h,hkb];unfold M6
 rcases hc with e|e <;> rw[e] <;> simp
theorem fU4(h:G5 o=true)(hk:o.kind=3)(h1:1<=o.item)(hc:H5 o=true)(hp:1<=o.price)(hp2:o.price<=1024):w6 o=(xO o ⟨#[]⟩ ⟨#[]⟩ o.item o.cnt o.price o.buy 0).eqB o:=by
 have hkb:J6 o=H9 o:=by unfold J6;rw[hk];simp
 unfold w6;rw[h,hkb,DK7,Bi7,Bi7];unfold H9;rw[hc,decide_eq_true h1,decide_eq_true hp,decide_eq_true hp2];simp[eq_comm]
theorem Ge7(h:G5 o=true)(hk:o.kind=3)(hc:¬1<=o.item\/H5 o=false\/¬1<=o.price\/¬o.price<=1024):w6 o=false:=by
 have hkb:J6 o=H9 o:=by unfold J6;rw[hk];simp
 unfold w6;rw[h,hkb];unfold H9
 rcases hc with e|e|e|e
 ·rw[decide_eq_false e];simp
 ·rw[e];simp
 ·rw[decide_eq_false e];simp
 ·rw[decide_eq_false e];simp
theorem fV4(h:G5 o=true)(hk:o.kind=4)(h1:1<=o.id)(h2:o.id<=1099511627776):w6 o=(xO o ⟨#[]⟩ ⟨#[]⟩ 0 0 0 false o.id).eqB o:=by
 have hkb:J6 o=G6 o:=by unfold J6;rw[hk];simp
 unfold w6;rw[h,hkb,DK7,Bi7,Bi7];unfold G6;rw[decide_eq_true h1,decide_eq_true h2]
 cases o.buy <;> simp[eq_comm]
theorem Pw7(h:G5 o=true)(hk:o.kind=4)(hc:¬1<=o.id\/¬o.id<=1099511627776):w6 o=false:=by
 have hkb:J6 o=G6 o:=by unfold J6;rw[hk];simp
 unfold w6;rw[h,hkb];unfold G6
 rcases hc with e|e <;> rw[decide_eq_false e] <;> simp
theorem eH4(h:G5 o=true)(hk:o.kind=5\/o.kind=7):w6 o=(xO o ⟨#[]⟩ ⟨#[]⟩ 0 0 0 false 0).eqB o:=by
 have hkb:J6 o=bZ4 o:=by
  unfold J6
  rcases hk with e|e <;> rw[e] <;> simp
 unfold w6;rw[h,hkb,DK7,Bi7,Bi7];unfold bZ4
 cases o.buy <;> simp[eq_comm]
theorem Ro7(hk:J6 o=false):w6 o=false:=by unfold w6;rw[hk];simp
theorem DM7(h:G5 o=false):w6 o=false:=by unfold w6;rw[h];rfl
end
theorem FD7{k:ByteArray}{r:Bool}(h:C6 k=r)(W w:World)(R:List HP)(hS:St W R w):
  Calls Tryz.prog 99 #[.string k] w fun e w'=>e=.returned (.bool r)/\St W R w':=by
 go_enter Tryz.func99,Tryz.ntmps99;by_cases h1:1<=k.size
 case neg=>
  have e:=jH (show r=false by rw[<-h];unfold C6;simp;omega);have d1:decide ((1:Int)<=(k.size:Int))=false:=by simp;omega
  clear h;go_wp2_with(fail);go_ret;rw[e.out];exact⟨rfl,hS⟩
 have d1:(1:Int)<=(k.size:Int):=by omega
 by_cases h2:k.size<=16
 case neg=>
  have e:=jH (show r=false by rw[<-h];unfold C6;simp;omega);have d2:decide ((k.size:Int)<=16)=false:=by simp;omega
  clear h;go_wp2_with(fail);go_ret;rw[e.out];exact⟨rfl,hS⟩
 have d2:(k.size:Int)<=16:=by omega
 have e:=jH (show r=true by rw[<-h];unfold C6;simp;omega);clear h;go_wp2_with(fail);go_ret;rw[e.out];exact⟨rfl,hS⟩
theorem AI7{k u:ByteArray}{r:Bool}(h:az4 k u=r)(W w:World)(R:List HP)(hS:St W R w):
  Calls Tryz.prog 131 #[.agg #[.string k,.string u]] w fun e w'=>e=.returned (.bool r)/\St W R w':=by
 unfold az4 at h
 cases hk:C6 k with
 | false=>
  rw[hk]at h;have h2:false=r:=h;subst h2;have Hk:=jH hk;clear hk h;go_enter Tryz.func131,Tryz.ntmps131;go_wp2_with(first|go_big_skip|refine zbx hS ?_;clear hS;intro b w hS|refine zl1 hS ?_|go_at_call 99;with_reducible refine(FD7 (Hk.out) W _ _ hS).mono ?_;clear hS;rintro e w ⟨rfl,hS⟩);go_ret;exact⟨rfl,hS.drop⟩
 | true=>
  rw[hk]at h;have hu:C6 u=r:=h;have Hk:=jH hk;have Hu:=jH hu;clear hk h hu;go_enter Tryz.func131,Tryz.ntmps131;go_wp2_with(first|refine zbx hS ?_;clear hS;intro b w hS|refine zl1 hS ?_|go_at_call 99;with_reducible refine(FD7 (Hk.out) W _ _ hS).mono ?_;clear hS;rintro e w ⟨rfl,hS⟩|go_at_call 99;with_reducible refine(FD7 (Hu.out) W _ _ hS).mono ?_;clear hS;rintro e w ⟨rfl,hS⟩);go_ret;exact⟨rfl,hS.drop⟩
theorem Ck7{a0 a1 a2 a7 a8 a9 a11 b0 b1 b2 b7 b8 b9 b11:Int}{a3 a4 a5 a6 b3 b4 b5 b6:ByteArray}{a10 b10 r:Bool}(h:Opn.eqB ⟨a0,a1,a2,a3,a4,a5,a6,a7,a8,a9,a10,a11⟩ ⟨b0,b1,b2,b3,b4,b5,b6,b7,b8,b9,b10,b11⟩=r)(w:World):
  (Op.equalIn 10000 31 (oV a0 a1 a2 a3 a4 a5 a6 a7 a8 a9 a10 a11) (oV b0 b1 b2 b3 b4 b5 b6 b7 b8 b9 b10 b11)).run Tryz.prog w=.ok r w:=h▸eF4 ⟨a0,a1,a2,a3,a4,a5,a6,a7,a8,a9,a10,a11⟩ ⟨b0,b1,b2,b3,b4,b5,b6,b7,b8,b9,b10,b11⟩ w
abbrev tB38a:List Nat:=[0,1,0,4,3,19,63,127]
theorem GH7{kd cl sq:Int}{ak aw tk tw:ByteArray}{it ct pr:Int}{bu:Bool}{id:Int}{r:Bool}(hm:w6 ⟨kd,cl,sq,ak,aw,tk,tw,it,ct,pr,bu,id⟩=r)(W w:World)(R:List HP)(hS:St W R w):
  Calls Tryz.prog 96 #[oV kd cl sq ak aw tk tw it ct pr bu id] w fun e w'=>e=.returned (.bool r)/\St W R w':=by
 have Hm:=jH hm;clear hm;go_enter Tryz.func96,Tryz.ntmps96;by_cases h1:1<=cl
 case neg=>
  have d1:decide (cl<1)=true:=by simp;omega
  have e:=jH (show r=false by rw[<-Hm.out];refine DM7 ?_;unfold G5;simp;omega);go_wp2_with(first|go_big_skip|refine zbx hS ?_;clear hS;intro bO w hS|refine zl1 hS ?_);go_ret;rw[e.out];exact⟨rfl,hS.drop⟩
 have d1:decide (cl<1)=false:=by simp;omega
 by_cases h2:cl<=1048576
 case neg=>
  have d2:decide (1048576<cl)=true:=by simp;omega
  have e:=jH (show r=false by rw[<-Hm.out];refine DM7 ?_;unfold G5;simp;omega);go_wp2_with(first|go_big_skip|refine zbx hS ?_;clear hS;intro bO w hS|refine zl1 hS ?_);go_ret;rw[e.out];exact⟨rfl,hS.drop⟩
 have d2:decide (1048576<cl)=false:=by simp;omega
 by_cases h3:1<=sq
 case neg=>
  have d3:decide (sq<1)=true:=by simp;omega
  have e:=jH (show r=false by rw[<-Hm.out];refine DM7 ?_;unfold G5;simp;omega);go_wp2_with(first|go_big_skip|refine zbx hS ?_;clear hS;intro bO w hS|refine zl1 hS ?_);go_ret;rw[e.out];exact⟨rfl,hS.drop⟩
 have d3:decide (sq<1)=false:=by simp;omega
 by_cases h4:sq<=1099511627776
 case neg=>
  have d4:decide (1099511627776<sq)=true:=by simp;omega
  have e:=jH (show r=false by rw[<-Hm.out];refine DM7 ?_;unfold G5;simp;omega);go_wp2_with(first|go_big_skip|refine zbx hS ?_;clear hS;intro bO w hS|refine zl1 hS ?_);go_ret;rw[e.out];exact⟨rfl,hS.drop⟩
 have d4:decide (1099511627776<sq)=false:=by simp;omega
 cases hpa:az4 ak aw with
 | false=>
  have Hpa:=jH hpa;have e:=jH (show r=false by rw[<-Hm.out];refine DM7 ?_;unfold G5;simp[hpa]);go_wp2_with(first|refine zbx hS ?_;clear hS;intro bO w hS|refine zl1 hS ?_|refine zlN hS ?_ (vs:=[.string ak,.string aw]) (hc:=by focus((repeat(first|exact d8.here rfl|apply d8.there));done))|go_at_call 131;with_reducible refine(AI7 Hpa.out W _ _ hS).mono ?_;clear hS;rintro e w ⟨rfl,hS⟩);go_ret;rw[e.out];exact⟨rfl,hS.drop⟩
 | true=>
 have Hpa:=jH hpa;have hh:G5 ⟨kd,cl,sq,ak,aw,tk,tw,it,ct,pr,bu,id⟩=true:=by unfold G5;simp[hpa];omega
 have Hh:=jH hh;clear hpa hh h1 h2 h3 h4;by_cases k1:kd=1
 ·subst k1;go_wp2_with(first|refine zbx hS ?_;clear hS;intro bO w hS|refine zl1 hS ?_|refine zlN hS ?_ (vs:=[.string ak,.string aw]) (hc:=by focus((repeat(first|exact d8.here rfl|apply d8.there));done))|go_at_call 131;with_reducible refine(AI7 Hpa.out W _ _ hS).mono ?_;clear hS;rintro e w ⟨rfl,hS⟩|refine zal hS ?_;clear hS;intro bX w hS|refine zsN hS ?_;clear hS;intro w hS);have hS1:=hS.s (blk bX _ _::blk bO _ _::R);clear hS;refine rf2 tB38a (fun _=>false) [⟨some 5,some 7,fun _=>blk bX [.I 1,.I cl,.I sq,.string ak,.string aw,.string ⟨#[]⟩,.string ⟨#[]⟩,.I it,.I 0,.I 0,.bool false,.I 0] 31⟩,⟨some 7,none,fun _=>blk bX [.I 1,.I cl,.I sq,.string ak,.string aw,.string ⟨#[]⟩,.string ⟨#[]⟩,.I it,.I ct,.I 0,.bool false,.I 0] 31⟩] [some 5,none] hS1 ?_;clear hS1;intro nd;refine cR ?_;refine zc1 ?_;refine cR ?_;refine zc1 ?_;refine cR ?_;refine zcs ?_;refine cR ?_;refine zcs ?_;refine Ad7 ?_;intro w hS;have hS2:St W [blk bX _ _,blk bO _ _,sats R] w:=hS;clear hS;have hS:=hS2.unpack [_,_];clear hS2;simp only[jK,jN]at hS;by_cases c1:0<=it
  case neg=>
   have d1:decide (0<=it)=false:=by simpa using c1
   have e:=jH (show r=false by rw[<-Hm.out];exact Ey7 Hh.out (.inl rfl) (by unfold H5;simp;omega));go_wp2_with(first|go_big_skip|refine zl1 hS ?_);go_ret;rw[e.out];exact⟨rfl,hS.drop.drop⟩
  by_cases c2:it<=3
  case neg=>
   have d2:decide (it<=3)=false:=by simpa using c2
   have e:=jH (show r=false by rw[<-Hm.out];exact Ey7 Hh.out (.inl rfl) (by unfold H5;simp;omega));go_wp2_with(first|go_big_skip|refine zl1 hS ?_);go_ret;rw[e.out];exact⟨rfl,hS.drop.drop⟩
  by_cases c3:1<=ct
  case neg=>
   have d3:decide (1<=ct)=false:=by simpa using c3
   have e:=jH (show r=false by rw[<-Hm.out];exact Ey7 Hh.out (.inl rfl) (by unfold H5;simp;omega));go_wp2_with(first|go_big_skip|refine zl1 hS ?_);go_ret;rw[e.out];exact⟨rfl,hS.drop.drop⟩
  by_cases c4:ct<=1048576
  case neg=>
   have d4:decide (ct<=1048576)=false:=by simpa using c4
   have e:=jH (show r=false by rw[<-Hm.out];exact Ey7 Hh.out (.inl rfl) (by unfold H5;simp;omega));go_wp2_with(first|go_big_skip|refine zl1 hS ?_);go_ret;rw[e.out];exact⟨rfl,hS.drop.drop⟩
  have He:=jH (show Opn.eqB ⟨1,cl,sq,ak,aw,⟨#[]⟩,⟨#[]⟩,it,ct,0,false,0⟩ ⟨1,cl,sq,ak,aw,tk,tw,it,ct,pr,bu,id⟩=r by rw[<-Hm.out];exact(eG4 Hh.out (.inl rfl) (by unfold H5;simp;omega)).symm);go_wp2_with(first|refine zl1 hS ?_|refine zlN hS ?_|(with_reducible apply Cm7);rfl;rfl;rfl;rfl;kernel_rfl;exact Ck7 He.out;refine frS ?_);go_ret;exact⟨rfl,hS.drop.drop⟩
 by_cases k6:kd=6
 ·subst k6;go_wp2_with(first|refine zbx hS ?_;clear hS;intro bO w hS|refine zl1 hS ?_|refine zlN hS ?_ (vs:=[.string ak,.string aw]) (hc:=by focus((repeat(first|exact d8.here rfl|apply d8.there));done))|go_at_call 131;with_reducible refine(AI7 Hpa.out W _ _ hS).mono ?_;clear hS;rintro e w ⟨rfl,hS⟩|refine zal hS ?_;clear hS;intro bX w hS|refine zsN hS ?_;clear hS;intro w hS);have hS1:=hS.s (blk bX _ _::blk bO _ _::R);clear hS;refine rf2 tB38a (fun _=>false) [⟨some 5,some 7,fun _=>blk bX [.I 6,.I cl,.I sq,.string ak,.string aw,.string ⟨#[]⟩,.string ⟨#[]⟩,.I it,.I 0,.I 0,.bool false,.I 0] 31⟩,⟨some 7,none,fun _=>blk bX [.I 6,.I cl,.I sq,.string ak,.string aw,.string ⟨#[]⟩,.string ⟨#[]⟩,.I it,.I ct,.I 0,.bool false,.I 0] 31⟩] [some 5,none] hS1 ?_;clear hS1;intro nd;refine cR ?_;refine zc1 ?_;refine cR ?_;refine zc1 ?_;refine cR ?_;refine zcs ?_;refine cR ?_;refine zcs ?_;refine Ad7 ?_;intro w hS;have hS2:St W [blk bX _ _,blk bO _ _,sats R] w:=hS;clear hS;have hS:=hS2.unpack [_,_];clear hS2;simp only[jK,jN]at hS;by_cases c1:0<=it
  case neg=>
   have d1:decide (0<=it)=false:=by simpa using c1
   have e:=jH (show r=false by rw[<-Hm.out];exact Ey7 Hh.out (.inr rfl) (by unfold H5;simp;omega));go_wp2_with(first|go_big_skip|refine zl1 hS ?_);go_ret;rw[e.out];exact⟨rfl,hS.drop.drop⟩
  by_cases c2:it<=3
  case neg=>
   have d2:decide (it<=3)=false:=by simpa using c2
   have e:=jH (show r=false by rw[<-Hm.out];exact Ey7 Hh.out (.inr rfl) (by unfold H5;simp;omega));go_wp2_with(first|go_big_skip|refine zl1 hS ?_);go_ret;rw[e.out];exact⟨rfl,hS.drop.drop⟩
  by_cases c3:1<=ct
  case neg=>
   have d3:decide (1<=ct)=false:=by simpa using c3
   have e:=jH (show r=false by rw[<-Hm.out];exact Ey7 Hh.out (.inr rfl) (by unfold H5;simp;omega));go_wp2_with(first|go_big_skip|refine zl1 hS ?_);go_ret;rw[e.out];exact⟨rfl,hS.drop.drop⟩
  by_cases c4:ct<=1048576
  case neg=>
   have d4:decide (ct<=1048576)=false:=by simpa using c4
   have e:=jH (show r=false by rw[<-Hm.out];exact Ey7 Hh.out (.inr rfl) (by unfold H5;simp;omega));go_wp2_with(first|go_big_skip|refine zl1 hS ?_);go_ret;rw[e.out];exact⟨rfl,hS.drop.drop⟩
  have He:=jH (show Opn.eqB ⟨6,cl,sq,ak,aw,⟨#[]⟩,⟨#[]⟩,it,ct,0,false,0⟩ ⟨6,cl,sq,ak,aw,tk,tw,it,ct,pr,bu,id⟩=r by rw[<-Hm.out];exact(eG4 Hh.out (.inr rfl) (by unfold H5;simp;omega)).symm);go_wp2_with(first|refine zl1 hS ?_|refine zlN hS ?_|(with_reducible apply Cm7);rfl;rfl;rfl;rfl;kernel_rfl;exact Ck7 He.out;refine frS ?_);go_ret;exact⟨rfl,hS.drop.drop⟩
 by_cases k2:kd=2
 ·subst k2;go_wp2_with(first|refine zbx hS ?_;clear hS;intro bO w hS|refine zl1 hS ?_|refine zlN hS ?_ (vs:=[.string ak,.string aw]) (hc:=by focus((repeat(first|exact d8.here rfl|apply d8.there));done))|go_at_call 131;with_reducible refine(AI7 Hpa.out W _ _ hS).mono ?_;clear hS;rintro e w ⟨rfl,hS⟩|refine zal hS ?_;clear hS;intro bX w hS|refine zsN hS ?_;clear hS;intro w hS);have hS1:=hS.s (blk bX _ _::blk bO _ _::R);clear hS;refine rf2 [0,1,0,4,0,16,3,67,207,463,1023,2047] (fun _=>false) [⟨some 7,some 9,fun _=>blk bX [.I 2,.I cl,.I sq,.string ak,.string aw,.string ⟨#[]⟩,.string ⟨#[]⟩,.I it,.I 0,.I 0,.bool false,.I 0] 31⟩,⟨some 9,some 11,fun _=>blk bX [.I 2,.I cl,.I sq,.string ak,.string aw,.string ⟨#[]⟩,.string ⟨#[]⟩,.I it,.I ct,.I 0,.bool false,.I 0] 31⟩,⟨some 11,none,fun _=>blk bX [.I 2,.I cl,.I sq,.string ak,.string aw,.string tk,.string tw,.I it,.I ct,.I 0,.bool false,.I 0] 31⟩] [some 7,none] hS1 ?_;clear hS1;intro nd;refine cR ?_;refine zc1 ?_;refine cR ?_;refine zc1 ?_;refine cR ?_;refine zcN ?_ (vs:=[.string tk,.string tw]) (hc:=by(intro F;focus((repeat(first|exact d8.here rfl));done)));refine cR ?_;refine zcs ?_;refine cR ?_;refine zcs ?_;refine cR ?_;refine zcs ?_;refine Ad7 ?_;intro w hS;have hS2:St W [blk bX _ _,blk bO _ _,sats R] w:=hS;clear hS;have hS:=hS2.unpack [_,_];clear hS2;simp only[jK,jN]at hS
  cases hpt:az4 tk tw with
  | false=>
   have Hpt:=jH hpt;by_cases c1:0<=it
   case neg=>
    have d1:decide (0<=it)=false:=by simpa using c1
    have e:=jH (show r=false by rw[<-Hm.out];exact DL7 Hh.out rfl (.inr hpt));go_wp2_with(first|go_big_skip|refine zl1 hS ?_);go_ret;rw[e.out];exact⟨rfl,hS.drop.drop⟩
   by_cases c2:it<=3
   case neg=>
    have d2:decide (it<=3)=false:=by simpa using c2
    have e:=jH (show r=false by rw[<-Hm.out];exact DL7 Hh.out rfl (.inr hpt));go_wp2_with(first|go_big_skip|refine zl1 hS ?_);go_ret;rw[e.out];exact⟨rfl,hS.drop.drop⟩
   by_cases c3:1<=ct
   case neg=>
    have d3:decide (1<=ct)=false:=by simpa using c3
    have e:=jH (show r=false by rw[<-Hm.out];exact DL7 Hh.out rfl (.inr hpt));go_wp2_with(first|go_big_skip|refine zl1 hS ?_);go_ret;rw[e.out];exact⟨rfl,hS.drop.drop⟩
   by_cases c4:ct<=1048576
   case neg=>
    have d4:decide (ct<=1048576)=false:=by simpa using c4
    have e:=jH (show r=false by rw[<-Hm.out];exact DL7 Hh.out rfl (.inr hpt));go_wp2_with(first|go_big_skip|refine zl1 hS ?_);go_ret;rw[e.out];exact⟨rfl,hS.drop.drop⟩
   have e:=jH (show r=false by rw[<-Hm.out];exact DL7 Hh.out rfl (.inr hpt));go_wp2_with(first|go_big_skip|refine zl1 hS ?_|refine zlN hS ?_ (vs:=[.string tk,.string tw]) (hc:=by focus((repeat(first|exact d8.here rfl|apply d8.there));done))|go_at_call 131;with_reducible refine(AI7 Hpt.out W _ _ hS).mono ?_;clear hS;rintro e w ⟨rfl,hS⟩);go_ret;rw[e.out];exact⟨rfl,hS.drop.drop⟩
  | true=>
   have Hpt:=jH hpt;by_cases c1:0<=it
   case neg=>
    have d1:decide (0<=it)=false:=by simpa using c1
    have e:=jH (show r=false by rw[<-Hm.out];exact DL7 Hh.out rfl (.inl (by unfold H5;simp;omega)));go_wp2_with(first|go_big_skip|refine zl1 hS ?_);go_ret;rw[e.out];exact⟨rfl,hS.drop.drop⟩
   by_cases c2:it<=3
   case neg=>
    have d2:decide (it<=3)=false:=by simpa using c2
    have e:=jH (show r=false by rw[<-Hm.out];exact DL7 Hh.out rfl (.inl (by unfold H5;simp;omega)));go_wp2_with(first|go_big_skip|refine zl1 hS ?_);go_ret;rw[e.out];exact⟨rfl,hS.drop.drop⟩
   by_cases c3:1<=ct
   case neg=>
    have d3:decide (1<=ct)=false:=by simpa using c3
    have e:=jH (show r=false by rw[<-Hm.out];exact DL7 Hh.out rfl (.inl (by unfold H5;simp;omega)));go_wp2_with(first|go_big_skip|refine zl1 hS ?_);go_ret;rw[e.out];exact⟨rfl,hS.drop.drop⟩
   by_cases c4:ct<=1048576
   case neg=>
    have d4:decide (ct<=1048576)=false:=by simpa using c4
    have e:=jH (show r=false by rw[<-Hm.out];exact DL7 Hh.out rfl (.inl (by unfold H5;simp;omega)));go_wp2_with(first|go_big_skip|refine zl1 hS ?_);go_ret;rw[e.out];exact⟨rfl,hS.drop.drop⟩
   have He:=jH (show Opn.eqB ⟨2,cl,sq,ak,aw,tk,tw,it,ct,0,false,0⟩ ⟨2,cl,sq,ak,aw,tk,tw,it,ct,pr,bu,id⟩=r by rw[<-Hm.out];exact(fT4 Hh.out rfl (by unfold H5;simp;omega) hpt).symm);go_wp2_with(first|refine zl1 hS ?_|refine zlN hS ?_|refine zlN hS ?_ (vs:=[.string tk,.string tw]) (hc:=by focus((repeat(first|exact d8.here rfl|apply d8.there));done))|go_at_call 131;with_reducible refine(AI7 Hpt.out W _ _ hS).mono ?_;clear hS;rintro e w ⟨rfl,hS⟩|(with_reducible apply Cm7);rfl;rfl;rfl;rfl;kernel_rfl;exact Ck7 He.out;refine frS ?_);go_ret;exact⟨rfl,hS.drop.drop⟩
 by_cases k3:kd=3
 ·subst k3;go_wp2_with(first|refine zbx hS ?_;clear hS;intro bO w hS|refine zl1 hS ?_|refine zlN hS ?_ (vs:=[.string ak,.string aw]) (hc:=by focus((repeat(first|exact d8.here rfl|apply d8.there));done))|go_at_call 131;with_reducible refine(AI7 Hpa.out W _ _ hS).mono ?_;clear hS;rintro e w ⟨rfl,hS⟩|refine zal hS ?_;clear hS;intro bX w hS|refine zsN hS ?_;clear hS;intro w hS);have hS1:=hS.s (blk bX _ _::blk bO _ _::R);clear hS;refine rf2 [0,1,0,4,0,16,0,64,3,259,783,1807,3903,7999,16383,32767] (fun _=>false) [⟨some 9,some 11,fun _=>blk bX [.I 3,.I cl,.I sq,.string ak,.string aw,.string ⟨#[]⟩,.string ⟨#[]⟩,.I it,.I 0,.I 0,.bool false,.I 0] 31⟩,⟨some 11,some 13,fun _=>blk bX [.I 3,.I cl,.I sq,.string ak,.string aw,.string ⟨#[]⟩,.string ⟨#[]⟩,.I it,.I ct,.I 0,.bool false,.I 0] 31⟩,⟨some 13,some 15,fun _=>blk bX [.I 3,.I cl,.I sq,.string ak,.string aw,.string ⟨#[]⟩,.string ⟨#[]⟩,.I it,.I ct,.I pr,.bool false,.I 0] 31⟩,⟨some 15,none,fun _=>blk bX [.I 3,.I cl,.I sq,.string ak,.string aw,.string ⟨#[]⟩,.string ⟨#[]⟩,.I it,.I ct,.I pr,.bool bu,.I 0] 31⟩] [some 9,none] hS1 ?_;clear hS1;intro nd;refine cR ?_;refine zc1 ?_;refine cR ?_;refine zc1 ?_;refine cR ?_;refine zc1 ?_;refine cR ?_;refine zc1 ?_;refine cR ?_;refine zcs ?_;refine cR ?_;refine zcs ?_;refine cR ?_;refine zcs ?_;refine cR ?_;refine zcs ?_;refine Ad7 ?_;intro w hS;have hS2:St W [blk bX _ _,blk bO _ _,sats R] w:=hS;clear hS;have hS:=hS2.unpack [_,_];clear hS2;simp only[jK,jN]at hS;by_cases c1:1<=it
  case neg=>
   have d1:decide (1<=it)=false:=by simpa using c1
   have e:=jH (show r=false by rw[<-Hm.out];exact Ge7 Hh.out rfl (.inl c1));go_wp2_with(first|go_big_skip|refine zl1 hS ?_);go_ret;rw[e.out];exact⟨rfl,hS.drop.drop⟩
  by_cases c2:it<=3
  case neg=>
   have d2:decide (it<=3)=false:=by simpa using c2
   have e:=jH (show r=false by rw[<-Hm.out];exact Ge7 Hh.out rfl (.inr (.inl (by unfold H5;simp;omega))));go_wp2_with(first|go_big_skip|refine zl1 hS ?_);go_ret;rw[e.out];exact⟨rfl,hS.drop.drop⟩
  by_cases c3:1<=ct
  case neg=>
   have d3:decide (1<=ct)=false:=by simpa using c3
   have e:=jH (show r=false by rw[<-Hm.out];exact Ge7 Hh.out rfl (.inr (.inl (by unfold H5;simp;omega))));go_wp2_with(first|go_big_skip|refine zl1 hS ?_);go_ret;rw[e.out];exact⟨rfl,hS.drop.drop⟩
  by_cases c4:ct<=1048576
  case neg=>
   have d4:decide (ct<=1048576)=false:=by simpa using c4
   have e:=jH (show r=false by rw[<-Hm.out];exact Ge7 Hh.out rfl (.inr (.inl (by unfold H5;simp;omega))));go_wp2_with(first|go_big_skip|refine zl1 hS ?_);go_ret;rw[e.out];exact⟨rfl,hS.drop.drop⟩
  by_cases c5:1<=pr
  case neg=>
   have d5:decide (1<=pr)=false:=by simpa using c5
   have e:=jH (show r=false by rw[<-Hm.out];exact Ge7 Hh.out rfl (.inr (.inr (.inl c5))));go_wp2_with(first|go_big_skip|refine zl1 hS ?_);go_ret;rw[e.out];exact⟨rfl,hS.drop.drop⟩
  by_cases c6:pr<=1024
  case neg=>
   have d6:decide (pr<=1024)=false:=by simpa using c6
   have e:=jH (show r=false by rw[<-Hm.out];exact Ge7 Hh.out rfl (.inr (.inr (.inr c6))));go_wp2_with(first|go_big_skip|refine zl1 hS ?_);go_ret;rw[e.out];exact⟨rfl,hS.drop.drop⟩
  have He:=jH (show Opn.eqB ⟨3,cl,sq,ak,aw,⟨#[]⟩,⟨#[]⟩,it,ct,pr,bu,0⟩ ⟨3,cl,sq,ak,aw,tk,tw,it,ct,pr,bu,id⟩=r by rw[<-Hm.out];exact(fU4 Hh.out rfl c1 (by unfold H5;simp;omega) c5 c6).symm);go_wp2_with(first|refine zl1 hS ?_|refine zlN hS ?_|(with_reducible apply Cm7);rfl;rfl;rfl;rfl;kernel_rfl;exact Ck7 He.out;refine frS ?_);go_ret;exact⟨rfl,hS.drop.drop⟩
 by_cases k4:kd=4
 ·subst k4;by_cases c1:1<=id
  case neg=>
   have dj:decide (1<=id)=false:=by simpa using c1
   have e:=jH (show r=false by rw[<-Hm.out];exact Pw7 Hh.out rfl (.inl c1));go_wp2_with(first|go_big_skip|refine zbx hS ?_;clear hS;intro bO w hS|refine zl1 hS ?_|refine zlN hS ?_ (vs:=[.string ak,.string aw]) (hc:=by focus((repeat(first|exact d8.here rfl|apply d8.there));done))|go_at_call 131;with_reducible refine(AI7 Hpa.out W _ _ hS).mono ?_;clear hS;rintro e w ⟨rfl,hS⟩|refine zal hS ?_;clear hS;intro bX w hS|refine zsN hS ?_;clear hS;intro w hS|refine zs1 hS ?_;clear hS;intro w hS);go_ret;rw[e.out];exact⟨rfl,hS.drop.drop⟩
  by_cases c2:id<=1099511627776
  case neg=>
   have dk:decide (id<=1099511627776)=false:=by simpa using c2
   have e:=jH (show r=false by rw[<-Hm.out];exact Pw7 Hh.out rfl (.inr c2));go_wp2_with(first|go_big_skip|refine zbx hS ?_;clear hS;intro bO w hS|refine zl1 hS ?_|refine zlN hS ?_ (vs:=[.string ak,.string aw]) (hc:=by focus((repeat(first|exact d8.here rfl|apply d8.there));done))|go_at_call 131;with_reducible refine(AI7 Hpa.out W _ _ hS).mono ?_;clear hS;rintro e w ⟨rfl,hS⟩|refine zal hS ?_;clear hS;intro bX w hS|refine zsN hS ?_;clear hS;intro w hS|refine zs1 hS ?_;clear hS;intro w hS);go_ret;rw[e.out];exact⟨rfl,hS.drop.drop⟩
  have He:=jH (show Opn.eqB ⟨4,cl,sq,ak,aw,⟨#[]⟩,⟨#[]⟩,0,0,0,false,id⟩ ⟨4,cl,sq,ak,aw,tk,tw,it,ct,pr,bu,id⟩=r by rw[<-Hm.out];exact(fV4 Hh.out rfl c1 c2).symm);go_wp2_with(first|refine zbx hS ?_;clear hS;intro bO w hS|refine zl1 hS ?_|refine zlN hS ?_|refine zlN hS ?_ (vs:=[.string ak,.string aw]) (hc:=by focus((repeat(first|exact d8.here rfl|apply d8.there));done))|go_at_call 131;with_reducible refine(AI7 Hpa.out W _ _ hS).mono ?_;clear hS;rintro e w ⟨rfl,hS⟩|refine zal hS ?_;clear hS;intro bX w hS|refine zsN hS ?_;clear hS;intro w hS|refine zs1 hS ?_;clear hS;intro w hS|(with_reducible apply Cm7);rfl;rfl;rfl;rfl;kernel_rfl;exact Ck7 He.out;refine frS ?_);go_ret;exact⟨rfl,hS.drop.drop⟩
 by_cases k5:kd=5
 ·subst k5;have He:=jH (show Opn.eqB ⟨5,cl,sq,ak,aw,⟨#[]⟩,⟨#[]⟩,0,0,0,false,0⟩ ⟨5,cl,sq,ak,aw,tk,tw,it,ct,pr,bu,id⟩=r by rw[<-Hm.out];exact(eH4 Hh.out (.inl rfl)).symm);go_wp2_with(first|refine zbx hS ?_;clear hS;intro bO w hS|refine zl1 hS ?_|refine zlN hS ?_|refine zlN hS ?_ (vs:=[.string ak,.string aw]) (hc:=by focus((repeat(first|exact d8.here rfl|apply d8.there));done))|go_at_call 131;with_reducible refine(AI7 Hpa.out W _ _ hS).mono ?_;clear hS;rintro e w ⟨rfl,hS⟩|refine zal hS ?_;clear hS;intro bX w hS|refine zsN hS ?_;clear hS;intro w hS|(with_reducible apply Cm7);rfl;rfl;rfl;rfl;kernel_rfl;exact Ck7 He.out;refine frS ?_);go_ret;exact⟨rfl,hS.drop.drop⟩
 by_cases k7:kd=7
 ·subst k7;have He:=jH (show Opn.eqB ⟨7,cl,sq,ak,aw,⟨#[]⟩,⟨#[]⟩,0,0,0,false,0⟩ ⟨7,cl,sq,ak,aw,tk,tw,it,ct,pr,bu,id⟩=r by rw[<-Hm.out];exact(eH4 Hh.out (.inr rfl)).symm);go_wp2_with(first|refine zbx hS ?_;clear hS;intro bO w hS|refine zl1 hS ?_|refine zlN hS ?_|refine zlN hS ?_ (vs:=[.string ak,.string aw]) (hc:=by focus((repeat(first|exact d8.here rfl|apply d8.there));done))|go_at_call 131;with_reducible refine(AI7 Hpa.out W _ _ hS).mono ?_;clear hS;rintro e w ⟨rfl,hS⟩|refine zal hS ?_;clear hS;intro bX w hS|refine zsN hS ?_;clear hS;intro w hS|(with_reducible apply Cm7);rfl;rfl;rfl;rfl;kernel_rfl;exact Ck7 He.out;refine frS ?_);go_ret;exact⟨rfl,hS.drop.drop⟩
 have f1:(kd==1)=false:=by simpa using k1
 have f2:(kd==2)=false:=by simpa using k2
 have f3:(kd==3)=false:=by simpa using k3
 have f4:(kd==4)=false:=by simpa using k4
 have f5:(kd==5)=false:=by simpa using k5
 have f6:(kd==6)=false:=by simpa using k6
 have f7:(kd==7)=false:=by simpa using k7
 have e:=jH (show r=false by rw[<-Hm.out];refine Ro7 ?_;unfold J6;simp[k1,k2,k3,k4,k5,k6,k7]);clear k1 k2 k3 k4 k5 k6 k7;go_wp2_with(first|go_big_skip|refine zbx hS ?_;clear hS;intro bO w hS|refine zl1 hS ?_|refine zlN hS ?_ (vs:=[.string ak,.string aw]) (hc:=by focus((repeat(first|exact d8.here rfl|apply d8.there));done))|go_at_call 131;with_reducible refine(AI7 Hpa.out W _ _ hS).mono ?_;clear hS;rintro e w ⟨rfl,hS⟩|refine zal hS ?_;clear hS;intro bX w hS|refine zsN hS ?_;clear hS;intro w hS);go_ret;rw[e.out];exact⟨rfl,hS.drop.drop⟩
end Go.Proofs.YtienbkdjkjbelaaGreat
end
