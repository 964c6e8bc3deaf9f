/-
  Spans that have each key just once.
-/
import Derived.Test.YtjcfifkjbaffnaaGreatPkQM5
import Derived.Test.YtjcfifkjbaffnaaGreatPkQM11
set_option maxHeartbeats 16000000
set_option maxRecDepth 100000
set_option linter.unusedSimpArgs false
set_option linter.unusedVariables false
section
namespace Go.Proofs.YtjcfifkjbaffnaaGreat
open Go.RowKit Go.Sl
def spC(z:Zo):List Value:=[.string z.sf,.string z.st]
theorem GU7(z:Zo):(spC z).length=2:=rfl
theorem aU4(k u k2 u2:ByteArray)(d:Nat)(w:World):(Op.equalIn (d+2) 53 (.agg #[.string k,.string u]) (.agg #[.string k2,.string u2])).run Tryz.prog w=.ok (k.toList==k2.toList&&u.toList==u2.toList) w:=by
 have u9:=Tryz.underlying9;have a9:=Tryz.isAgg9;have z9:=Tryz.sizeOf9;have hs:Tryz.prog.stoodInHeld 53=false:=by kernel_rfl
 rw[Op.equalIn];simp only[Sem.run_bind,run_underlying Tryz.underlying53,Result.andThen_ok,run_program,hs,Bool.false_eq_true,if_false];rw[<-Array.forIn_toList];simp only[List.forIn_cons,List.forIn_nil]
 go_simp
 by_cases h1:k.toList=k2.toList <;> by_cases h2:u.toList=u2.toList <;> simp[h1,h2]
theorem ba4{f t:ByteArray}{r:Bool}(h:(p8 f&&p8 t)=r)(w:World):(Op.equalIn 10000 53 (.agg #[.string f,.string t]) (.agg #[.string ⟨#[]⟩,.string ⟨#[]⟩])).run Tryz.prog w=.ok r w:=by refine(aU4 f t ⟨#[]⟩ ⟨#[]⟩ 9998 w).trans ?_;rw[show(⟨#[]⟩:ByteArray).toList=[]from by rw[Lib.toList_data],Ax7,Ax7,h]
theorem FK7(z:Zo)(l:List Zo)(f t:ByteArray):M7 (z::l) f t=(L9 f t z.sf z.st&&M7 l f z.st):=by
 have e:decide (t=z.sf)=(t.toList==z.sf.toList):=by
  rw[Lib.toList_data,Lib.toList_data,Bool.eq_iff_iff];simp only[decide_eq_true_eq,beq_iff_eq];constructor
  ·intro h;rw[h]
  ·intro h;exact AU7 h
 rw[M7,L9,e];simp only[Bool.and_assoc]
def bW4(W:World)(R:List HP)(b:Nat)(zs:List Zo)(r:Bool)(v:Value)(w:World):Prop:=
 ∃(i:Nat) (f t:ByteArray),v=.I i/\i<=zs.length/\((i=0/\f=⟨#[]⟩/\t=⟨#[]⟩)\/(0<i/\M7 (zs.drop i) f t=r))/\St W (blk b [.string f,.string t] 53::R) w
theorem IJ7{zs:List Zo}{r:Bool}(hr:C8 zs ⟨#[]⟩ true=r)(h63:zs.length<=100)(v:Value)(W w:World)(R:List HP)(hS:St W (row v 2 53 zs.length (zs.flatMap spC)::R) w):
  Calls Tryz.prog 61 #[v] w fun e w'=>e=.returned (.bool r)/\St W (row v 2 53 zs.length (zs.flatMap spC)::R) w':=by
 obtain⟨va,vc,rfl⟩:=hS.rowVal;have Hr:=jH hr;clear hr;go_enter Tryz.func61,Tryz.ntmps61;go_wp2_with(first|go_big_skip|refine zal hS ?_;clear hS;intro b3 w hS)
 go_loopw [10] (fun v wr=>bW4 W (row (.slice va zs.length vc) 2 53 zs.length (zs.flatMap spC)::R) b3 zs r v wr) (fun v _=>zs.length-(intOf v).toNat)
 case atStart=>exact⟨0,⟨#[]⟩,⟨#[]⟩,rfl,Nat.zero_le _,.inl ⟨rfl,rfl,rfl⟩,hS⟩
 case round=>
  clear hS;obtain⟨i,f,t,rfl,hi,hF,hS⟩:=hrel;by_cases hil:i<zs.length
  case neg=>
   have d1:decide (i<zs.length)=false:=decide_eq_false hil;have hie:i=zs.length:=by omega
   by_cases h0:zs.length=0
   ·have d2:decide (0<zs.length)=false:=decide_eq_false (by omega);have hz:zs=[]:=List.eq_nil_of_length_eq_zero h0;have e1:=Hr.out;rw[hz]at e1;have E1:=jH (show r=false from e1.symm);clear hF e1 hz h0 hie hi;go_wp2_with(first|go_big_skip);go_ret;exact⟨by rw[E1.out];first|done|rfl,hS.drop⟩
   ·have d2:decide (0<zs.length)=true:=decide_eq_true (by omega)
    have hq:(spB f t&&(p8 f&&p8 t))=r:=by
     rcases hF with ⟨e,_⟩|⟨_,e⟩
     ·omega
     ·rw[hie,List.drop_length]at e;exact e
    clear hF h0 hie hi
    cases hsp:spB f t with
    | false=>
     rw[hsp]at hq;have E1:=jH (show false=r from hq);have Hsp:=jH hsp;clear hsp hq;go_wp2_with(first|go_big_skip|refine zlN hS ?_|go_at_call 78;refine(E8 Hsp.out W _ _ hS).mono ?_;clear hS;rintro e w ⟨rfl,hS⟩);go_ret;exact⟨by rw[<-E1.out];first|done|rfl,hS.drop⟩
    | true=>
     rw[hsp]at hq;have Hq:=jH (show(p8 f&&p8 t)=r from hq);have Hsp:=jH hsp;clear hsp hq;go_wp2_with(first|go_big_skip|refine zlN hS ?_|go_at_call 78;refine(E8 Hsp.out W _ _ hS).mono ?_;clear hS;rintro e w ⟨rfl,hS⟩|(with_reducible apply IH7);rfl;rfl;rfl;rfl;kernel_rfl;exact ba4 Hq.out;refine frS ?_);go_ret;exact⟨rfl,hS.drop⟩
  have d1:decide (i<zs.length)=true:=decide_eq_true hil;obtain⟨⟨g,rfl⟩,_,_⟩:=St.rowAddr hS.drop (by omega);have hcell:∀{K K':List HP},Take K (row (.S g zs.length vc) 2 53 zs.length (zs.flatMap spC)) K'->a7 K g (i*2) (spC zs[i]):=fun hu=>a7.elemM (enc:=spC) GU7 hu hil
  by_cases h0:i=0
  ·have hb:((i:Int)==0)=true:=by simpa using h0
   have hnx:M7 (zs.drop (i+1)) zs[i].sf zs[i].st=r:=by
    subst h0;rw[<-Hr.out];have:zs=zs[0]::zs.drop 1:=by have:=List.drop_eq_getElem_cons hil;rwa [List.drop_zero]at this
    conv=>rhs;rw[this]
    rw[FJ7]
   generalize zs[i]=z at hcell hnx;obtain⟨z0,sf,st,z3,z4,z5,z6,z7,z8⟩:=z;simp only[spC]at hcell hnx;have Hnx:=jH hnx;clear hnx hF hi h0;go_wp2_with(first|go_big_skip|refine zlN hS ?_ (vs:=[.string sf,.string st]) (hc:=by exact hcell (by exact d7))|(fail_if_success (have:=mA1));(refine zal hS ?_;clear hS;have mA1:Nat:=0;intro bA w hS)|refine zlN hS ?_|refine zsN hS ?_;clear hS;intro w hS);go_roundw
   case rel=>exact⟨i+1,sf,st,rfl,hil,.inr ⟨Nat.succ_pos _,Hnx.out⟩,hS.s _⟩
   case measure=>simp[intOf];omega
  ·have hb:((i:Int)==0)=false:=by simp;omega
   have hnx:(L9 f t zs[i].sf zs[i].st&&M7 (zs.drop (i+1)) f zs[i].st)=r:=by
    rcases hF with ⟨e,_⟩|⟨_,e⟩
    ·omega
    ·rw[List.drop_eq_getElem_cons hil,FK7]at e;exact e
   generalize zs[i]=z at hcell hnx;obtain⟨z0,sf,st,z3,z4,z5,z6,z7,z8⟩:=z;simp only[spC]at hcell hnx;clear hF hi h0
   cases hj:L9 f t sf st with
   | false=>
    rw[hj]at hnx;have E1:=jH (show false=r from hnx);have Hj:=jH hj;clear hj hnx;go_wp2_with(first|go_big_skip|refine zlN hS ?_ (vs:=[.string sf,.string st]) (hc:=by exact hcell (by exact d7))|(fail_if_success (have:=mA1));(refine zal hS ?_;clear hS;have mA1:Nat:=0;intro bA w hS)|(have:=mA1);refine zal hS ?_;clear hS;intro bB w hS|refine zlN hS ?_ (vs:=[.string f,.string t]) (hc:=by first|exact a7.here rfl|exact a7.there (a7.here rfl)|exact a7.there (a7.there (a7.here rfl)))|refine zlN hS ?_|refine zsN hS ?_;clear hS;intro w hS|go_at_call 77;refine(Jo7 Hj.out W _ _ hS).mono ?_;clear hS;rintro e w ⟨rfl,hS⟩);go_ret;exact⟨by rw[<-E1.out];first|done|rfl,hS.s _⟩
   | true=>
    rw[hj]at hnx;have Hnx:=jH (show M7 (zs.drop (i+1)) f st=r from hnx);have Hj:=jH hj;clear hj hnx;go_wp2_with(first|go_big_skip|refine zlN hS ?_ (vs:=[.string sf,.string st]) (hc:=by exact hcell (by exact d7))|(fail_if_success (have:=mA1));(refine zal hS ?_;clear hS;have mA1:Nat:=0;intro bA w hS)|(have:=mA1);refine zal hS ?_;clear hS;intro bB w hS|refine zlN hS ?_|refine zsN hS ?_;clear hS;intro w hS|go_at_call 77;refine(If7 Hj.out W _ _ hS).mono ?_;clear hS;rintro e w ⟨rfl,hS⟩);go_roundw
    case rel=>exact⟨i+1,f,st,rfl,hil,.inr ⟨Nat.succ_pos _,Hnx.out⟩,hS.s _⟩
    case measure=>simp[intOf];omega
end Go.Proofs.YtjcfifkjbaffnaaGreat
end
