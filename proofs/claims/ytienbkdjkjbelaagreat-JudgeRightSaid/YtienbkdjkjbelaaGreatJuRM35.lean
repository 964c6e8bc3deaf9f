/-
  The document's economy as a resource.
-/
import Derived.Test.YtienbkdjkjbelaaGreatJuRM5
import Derived.Test.YtienbkdjkjbelaaGreatJuRM29
import Derived.Test.YtienbkdjkjbelaaGreatJuRM34
set_option maxHeartbeats 16000000
set_option maxRecDepth 100000
set_option linter.unusedSimpArgs false
set_option linter.unusedVariables false
section
namespace Go.Proofs.YtienbkdjkjbelaaGreat
open Go.RowKit Go.Sl
abbrev ltB(x y:ByteArray):Bool:=Op.bytesLess x.toList y.toList
theorem Bn7:Ordr ltB:=⟨fun a=>by
  cases h:ltB a a with
  | false=>rfl
  | true=>exact absurd rfl (Di7 h),fun a b c h1 h2=>Dh7 h1 h2,fun a b h1 h2=>by
  refine Fm7 ?_ h2;show ¬ltB a b=true
  rw[h1];exact Bool.noConfusion⟩
def rwC(x:ByteArray×(Nat×Vs)):List Value:=[.string x.1,.pointer (some ⟨x.2.1,0,none⟩)]
theorem BK7(x:ByteArray×(Nat×Vs)):(rwC x).length=2:=rfl
def seC(x:Int×(Int×Rpl)):List Value:=[.I x.1,.I x.2.1,.I x.2.2.err,.I x.2.2.id,.I x.2.2.has.x0,.I x.2.2.has.x1,.I x.2.2.has.x2,.I x.2.2.has.x3]
theorem AI7(x:Int×(Int×Rpl)):(seC x).length=8:=rfl
def mkC(x:(Int×Int)×Unit):List Value:=[.I x.1.1,.I x.1.2]
theorem BX7(x:(Int×Int)×Unit):(mkC x).length=2:=rfl
def dvP(vb:Nat)(V:Vs):HP:=fun f=>∃xB:Nat,sats [xvP vb (.P xB) V.n V.ps,xkP xB V.L V.n] f
def C6(D:Ev):HP:=sats (D.map fun x=>dvP x.2.1 x.2.2)
abbrev xrP(v:Value)(D:Ev):HP:=row v 2 137 D.length (D.flatMap rwC)
abbrev xsP(v:Value)(l:List (Int×(Int×Rpl))):HP:=row v 8 141 l.length (l.flatMap seC)
abbrev xtP(v:Value)(l:List ((Int×Int)×Tns)):HP:=row v 8 97 l.length (l.flatMap tnC)
abbrev xmP(v:Value)(l:List ((Int×Int)×Unit)):HP:=row v 2 144 l.length (l.flatMap mkC)
abbrev xeB(xb:Nat)(v1 v2 v3 v4:Value):HP:=blk xb [v1,v2,v3,v4] 86
def XpR(W:World)(L:List HP)(D:Ev)(k:ByteArray)(v:Value)(w:World):Prop:=
 ∃i:Nat,v=.I i/\i<=D.length/\plI ltB D k=i+plI ltB (D.drop i) k/\plB ltB D k=plB ltB (D.drop i) k/\St W L w
theorem Jh7(D:Ev)(k:ByteArray)(xb:Nat)(v1 v2 v3 v4:Value)(W w:World)(R:List HP)(hS:St W (xeB xb v1 v2 v3 v4::xrP v1 D::R) w):
  Calls Tryz.prog 97 #[.P xb,.string k] w fun e w'=>e=.returned (.tuple #[.I (plI ltB D k),.bool (plB ltB D k)])/\St W (xeB xb v1 v2 v3 v4::xrP v1 D::R) w':=by
 obtain⟨a,cap,rfl⟩:=hS.drop.rowVal
 have h63:D.length<=9223372036854775807:=by
  rcases St.rowCase hS.drop with ⟨_,h0,_⟩|⟨_,_,h1,h2⟩
  ·omega
  ·omega
 go_enter Tryz.func97,Tryz.ntmps97;go_wp2_with fail
 go_loopw [6] (fun v wr=>XpR W (xeB xb (.slice a D.length cap) v2 v3 v4::xrP (.slice a D.length cap) D::R) D k v wr) (fun v _=>D.length-(intOf v).toNat)
 case atStart=>exact⟨0,rfl,Nat.zero_le _,by simp,rfl,hS⟩
 case round=>
  clear hS;obtain⟨i,rfl,hil,e1,e2,hS⟩:=hrel;by_cases hin:i=D.length
  ·subst hin;rw[List.drop_length]at e1 e2;have E1:=jH (show plI ltB D k=D.length from e1);have E2:=jH (show plB ltB D k=false from e2);clear e1 e2;go_wp2_with(first|go_big_skip|refine zl1 hS ?_);go_ret2;rw[E1.out,E2.out];exact⟨rfl,hS⟩
  ·have hi1:i<D.length:=by omega
   obtain⟨⟨g,rfl⟩,_,_⟩:=St.rowAddr hS.drop (by omega);have hname:∀{K K':List HP},Take K (xrP (.S g D.length cap) D) K'->i6 K g (i*2) (.string D[i].1):=fun hu=>d8.elemM (enc:=rwC) BK7 hu hi1 0 _ rfl
   have hdr:D.drop i=D[i]::D.drop (i+1):=List.drop_eq_getElem_cons hi1;rw[hdr]at e1 e2;generalize D[i]=x at hname e1 e2;obtain⟨xw,xi⟩:=x;simp only at hname;rw[plI]at e1;rw[plB]at e2;simp only at e1 e2;clear hdr
   cases hb:Op.bytesLess xw.toList k.toList with
   | true=>
    rw[if_pos hb]at e1 e2;have E1:=jH e1;have E2:=jH e2;clear e1 e2;go_wp2_with(first|go_big_skip|refine zl1 hS ?_|refine zl1 hS ?_ (hc:=by exact hname (by exact i7)));go_roundw
    case rel=>exact⟨i+1,rfl,hi1,by rw[E1.out];omega,E2.out,hS⟩
    case measure=>simp[intOf];omega
   | false=>
    rw[if_neg (by rw[show ltB xw k=false from hb];simp)]at e1 e2
    have e3:plB ltB D k=(xw.toList==k.toList):=by
     rw[e2]
     cases h:(xw.toList==k.toList)with
     | true=>simpa using EH7.1 h
     | false=>simp only[decide_eq_false_iff_not];intro e;rw[EH7.2 e]at h;cases h
    have E1:=jH (show plI ltB D k=i from e1);have E2:=jH e3;clear e1 e2 e3;go_wp2_with(first|go_big_skip|refine zl1 hS ?_|refine zl1 hS ?_ (hc:=by exact hname (by exact i7)));refine Aa7 (by kernel_rfl) (by kernel_rfl) hS ?_
    iterate 2 (refine qR ?_)
    (refine zqn ?_);refine qR ?_;refine zq1 ?_
    iterate 3 (refine qR ?_)
    (apply An7;rfl;rfl;rfl;decide +kernel;exact hname (by exact i7);refine frS ?_)
    iterate 4 (refine qR ?_)
    clear hS;intro w hS;go_wp2_with fail;go_ret2;rw[E1.out,E2.out];exact⟨rfl,hS⟩
theorem FN7{D:Ev}{k:ByteArray}{p:Nat}{b:Bool}(h1:plI ltB D k=p)(h2:plB ltB D k=b)(xb:Nat)(v1 v2 v3 v4:Value)(W w:World)(R:List HP)(hS:St W (xeB xb v1 v2 v3 v4::xrP v1 D::R) w):
  Calls Tryz.prog 97 #[.P xb,.string k] w fun e w'=>e=.returned (.tuple #[.I p,.bool b])/\St W (xeB xb v1 v2 v3 v4::xrP v1 D::R) w':=
 (Jh7 D k xb v1 v2 v3 v4 W w R hS).mono fun e w' ⟨he,hS⟩=>⟨by rw[he,h1,h2],hS⟩
theorem Dl7{κ ν:Type}[DecidableEq κ](x:κ×ν)(l:List (κ×ν))(k:κ):j5 (x::l) k=if x.1=k then some x.2 else j5 l k:=by unfold j5;rw[List.find?_cons];by_cases hk:x.1=k <;> simp[hk]
theorem ee4(a b c d:Int)(w:World):(Op.equalIn 10000 144 (.agg #[.I a,.I b]) (.agg #[.I c,.I d])).run Tryz.prog w=.ok (decide ((a,b)=(c,d))) w:=by
 have u3:=Tryz.underlying3;have a3:=Tryz.isAgg3;have z3:=Tryz.sizeOf3;have hs:Tryz.prog.stoodInHeld 144=false:=by kernel_rfl
 rw[Op.equalIn];simp only[Sem.run_bind,run_underlying Tryz.underlying144,Result.andThen_ok,run_program,hs,Bool.false_eq_true,if_false];rw[<-Array.forIn_toList];simp only[List.forIn_cons,List.forIn_nil]
 go_simp
 by_cases h1:a=c <;> by_cases h2:b=d <;> simp[h1,h2]
theorem GV7{a b c d:Int}{r:Bool}(h:decide ((a,b)=(c,d))=r)(w:World):(Op.equalIn 10000 144 (.agg #[.I a,.I b]) (.agg #[.I c,.I d])).run Tryz.prog w=.ok r w:=by rw[<-h];exact ee4 a b c d w
def ArR(W:World)(L:List HP)(l:List ((Int×Int)×Unit))(k:Int×Int)(v:Value)(w:World):Prop:=
 ∃i:Nat,v=.I i/\i<=l.length/\(j5 l k).isSome=(j5 (l.drop i) k).isSome/\St W L w
theorem FO7(l:List ((Int×Int)×Unit))(cl sq:Int){b:Bool}(hb:(j5 l (cl,sq)).isSome=b)(xb:Nat)(v1 v2 v3 v4:Value)(W w:World)(R:List HP)(hS:St W (xeB xb v1 v2 v3 v4::xmP v4 l::R) w):
  Calls Tryz.prog 34 #[.P xb,.I cl,.I sq] w fun e w'=>e=.returned (.bool b)/\St W (xeB xb v1 v2 v3 v4::xmP v4 l::R) w':=by
 obtain⟨a,cap,rfl⟩:=hS.drop.rowVal
 have h63:l.length<=9223372036854775807:=by
  rcases St.rowCase hS.drop with ⟨_,h0,_⟩|⟨_,_,h1,h2⟩
  ·omega
  ·omega
 have Hb:=jH hb;clear hb;go_enter Tryz.func34,Tryz.ntmps34;go_wp2_with fail
 go_loopw [7] (fun v wr=>ArR W (xeB xb v1 v2 v3 (.slice a l.length cap)::xmP (.slice a l.length cap) l::R) l (cl,sq) v wr) (fun v _=>l.length-(intOf v).toNat)
 case atStart=>exact⟨0,rfl,Nat.zero_le _,rfl,hS⟩
 case round=>
  clear hS;obtain⟨i,rfl,hil,e1,hS⟩:=hrel;by_cases hin:i=l.length
  ·subst hin;rw[List.drop_length]at e1;have E1:=jH (show false=b by rw[<-Hb.out,e1];rfl);clear e1;go_wp2_with(first|go_big_skip|refine zl1 hS ?_);go_ret;rw[E1.out];exact⟨rfl,hS⟩
  ·have hi1:i<l.length:=by omega
   obtain⟨⟨g,rfl⟩,_,_⟩:=St.rowAddr hS.drop (by omega);have hcells:∀{K K':List HP},Take K (xmP (.S g l.length cap) l) K'->d8 K g (i*2) (mkC l[i]):=fun hu=>d8.elemM (enc:=mkC) BX7 hu hi1
   have hdr:l.drop i=l[i]::l.drop (i+1):=List.drop_eq_getElem_cons hi1;rw[hdr,Dl7]at e1;generalize l[i]=x at hcells e1;obtain⟨⟨xc,xq⟩,xu⟩:=x;simp only[mkC]at hcells;simp only at e1;clear hdr;by_cases hx:(xc,xq)=(cl,sq)
   ·rw[if_pos hx]at e1;have D1:=jH (show decide ((xc,xq)=(cl,sq))=true from decide_eq_true hx);have E1:=jH (show true=b by rw[<-Hb.out,e1];rfl);clear e1 hx;go_wp2_with(first|go_big_skip|refine zl1 hS ?_|refine zlN hS ?_ (hc:=by exact hcells (by exact i7))|(with_reducible apply Ca7);rfl;rfl;rfl;rfl;kernel_rfl;exact GV7 D1.out;refine frS ?_);go_ret;rw[E1.out];exact⟨rfl,hS⟩
   ·rw[if_neg hx]at e1;have D1:=jH (show decide ((xc,xq)=(cl,sq))=false from decide_eq_false hx);have E1:=jH e1;clear e1 hx;go_wp2_with(first|go_big_skip|refine zl1 hS ?_|refine zlN hS ?_ (hc:=by exact hcells (by exact i7))|(with_reducible apply Ca7);rfl;rfl;rfl;rfl;kernel_rfl;exact GV7 D1.out;refine frS ?_);go_roundw
    case rel=>exact⟨i+1,rfl,hi1,E1.out,hS⟩
    case measure=>simp[intOf];omega
def fdI{κ ν:Type}[DecidableEq κ]:List (κ×ν)->κ->Int
 | [],_ => -1
 | x::l,k=>if x.1=k then 0 else if fdI l k<0 then -1 else fdI l k+1
theorem GW7{κ ν:Type}[DecidableEq κ](k:κ):∀l:List (κ×ν), -1<=fdI l k/\fdI l k<l.length
 | []=>by simp[fdI]
 | x::l=>by
  have h:=GW7 k l;rw[fdI,jC];split
  ·omega
  ·split <;> omega
def TsK(ts:List ((Int×Int)×Tns)):Prop:=∀x∈ts,x.1=(x.2.client,x.2.seq)
def UnR(W:World)(L:List HP)(l:List ((Int×Int)×Tns))(k:Int×Int)(v:Value)(w:World):Prop:=
 ∃i:Nat,v=.I i/\i<=l.length/\fdI l k=(if fdI (l.drop i) k<0 then -1 else i+fdI (l.drop i) k)/\St W L w
theorem EK7(l:List ((Int×Int)×Tns))(hk:TsK l)(cl sq:Int){r:Int}(hr:fdI l (cl,sq)=r)(xb:Nat)(v1 v2 v3 v4:Value)(W w:World)(R:List HP)(hS:St W (xeB xb v1 v2 v3 v4::xtP v3 l::R) w):
  Calls Tryz.prog 60 #[.P xb,.I cl,.I sq] w fun e w'=>e=.returned (.I r)/\St W (xeB xb v1 v2 v3 v4::xtP v3 l::R) w':=by
 obtain⟨a,cap,rfl⟩:=hS.drop.rowVal
 have h63:l.length<=9223372036854775807:=by
  rcases St.rowCase hS.drop with ⟨_,h0,_⟩|⟨_,_,h1,h2⟩
  ·omega
  ·omega
 have Hr:=jH hr;have Hk:=jH hk;clear hr hk;go_enter Tryz.func60,Tryz.ntmps60;go_wp2_with fail
 go_loopw [7] (fun v wr=>UnR W (xeB xb v1 v2 (.slice a l.length cap) v4::xtP (.slice a l.length cap) l::R) l (cl,sq) v wr) (fun v _=>l.length-(intOf v).toNat)
 case atStart=>exact⟨0,rfl,Nat.zero_le _,by
  have:=GW7 (cl,sq) l;show fdI l (cl,sq)=if fdI l (cl,sq)<0 then -1 else(0:Nat)+fdI l (cl,sq)
  split <;> omega,hS⟩
 case round=>
  clear hS;obtain⟨i,rfl,hil,e1,hS⟩:=hrel;by_cases hin:i=l.length
  ·subst hin;rw[List.drop_length]at e1;have E1:=jH (show r = -1 by rw[<-Hr.out,e1];rfl);clear e1;go_wp2_with(first|go_big_skip|refine zl1 hS ?_);go_ret;rw[E1.out];exact⟨rfl,hS⟩
  ·have hi1:i<l.length:=by omega
   obtain⟨⟨g,rfl⟩,_,_⟩:=St.rowAddr hS.drop (by omega);have hcl:∀{K K':List HP},Take K (xtP (.S g l.length cap) l) K'->i6 K g (i*8) (.I l[i].2.client):=fun hu=>d8.elemM (enc:=tnC) AX7 hu hi1 0 _ rfl
   have hsq:∀{K K':List HP},Take K (xtP (.S g l.length cap) l) K'->i6 K g (i*8+1) (.I l[i].2.seq):=fun hu=>d8.elemM (enc:=tnC) AX7 hu hi1 1 _ rfl
   have hdr:l.drop i=l[i]::l.drop (i+1):=List.drop_eq_getElem_cons hi1;have hkk:=Hk.out _ (jW hi1);have e2:fdI (l.drop i) (cl,sq)=if(l[i].2.client,l[i].2.seq)=(cl,sq)then 0 else if fdI (l.drop (i+1)) (cl,sq)<0 then -1 else fdI (l.drop (i+1)) (cl,sq)+1:=by rw[hdr,fdI,hkk]
   generalize fdI (l.drop i) (cl,sq)=F at e1 e2;generalize l[i]=x at hcl hsq e2;obtain⟨xk,⟨xc,xq,x2,x3,x4,x5,x6,x7⟩⟩:=x;simp only at e2 hcl hsq;clear hdr hkk;have hge:=GW7 (cl,sq) (l.drop (i+1));by_cases hx:xc=cl
   ·have dx:(xc==cl)=true:=by simpa using hx
    by_cases hy:xq=sq
    ·have dy:(xq==sq)=true:=by simpa using hy
     rw[if_pos (by rw[hx,hy])]at e2;have E1:=jH (show r=i by rw[<-Hr.out,e1,e2];simp);clear e1 e2 hx hy hge;go_wp2_with(first|go_big_skip|refine zl1 hS ?_|refine zl1 hS ?_ (hc:=by exact hcl (by exact i7))|refine zl1 hS ?_ (hc:=by exact hsq (by exact i7)));go_ret;rw[E1.out];exact⟨rfl,hS⟩
    ·have dy:(xq==sq)=false:=by simpa using hy
     rw[if_neg (by intro e;injection e with _ e;exact hy e)]at e2;have E1:=jH (show fdI l (cl,sq)=if fdI (l.drop (i+1)) (cl,sq)<0 then -1 else((i+1:Nat):Int)+fdI (l.drop (i+1)) (cl,sq)by rw[e1];split at e2 <;> (repeat' split) <;> omega);clear e1 e2 hx hy hge;go_wp2_with(first|go_big_skip|refine zl1 hS ?_|refine zl1 hS ?_ (hc:=by exact hcl (by exact i7))|refine zl1 hS ?_ (hc:=by exact hsq (by exact i7)));go_roundw
     case rel=>exact⟨i+1,rfl,hi1,E1.out,hS⟩
     case measure=>simp[intOf];omega
   ·have dx:(xc==cl)=false:=by simpa using hx
    rw[if_neg (by intro e;injection e with e _;exact hx e)]at e2;have E1:=jH (show fdI l (cl,sq)=if fdI (l.drop (i+1)) (cl,sq)<0 then -1 else((i+1:Nat):Int)+fdI (l.drop (i+1)) (cl,sq)by rw[e1];split at e2 <;> (repeat' split) <;> omega);clear e1 e2 hx hge;go_wp2_with(first|go_big_skip|refine zl1 hS ?_|refine zl1 hS ?_ (hc:=by exact hcl (by exact i7))|refine zl1 hS ?_ (hc:=by exact hsq (by exact i7)));go_roundw
    case rel=>exact⟨i+1,rfl,hi1,E1.out,hS⟩
    case measure=>simp[intOf];omega
theorem Dm7{a b c d:Int}{r:Bool}(h:ltW (c,d) (a,b)=r)(W w:World)(R:List HP)(hS:St W R w):
  Calls Tryz.prog 102 #[.I a,.I b,.I c,.I d] w fun e w'=>e=.returned (.bool r)/\St W R w':=by
 unfold ltW at h;simp only at h;go_enter Tryz.func102,Tryz.ntmps102;by_cases h1:c<a
 ·have e:=jH (show r=true by rw[<-h];simp[h1]);have d1:decide (c<a)=true:=by simpa using h1
  clear h h1;go_wp2_with(fail);go_ret;rw[e.out];exact⟨rfl,hS⟩
 have d1:decide (c<a)=false:=by simpa using h1
 by_cases h2:a=c
 ·have d2:(a==c)=true:=by simpa using h2
  by_cases h3:d<b
  ·have e:=jH (show r=true by rw[<-h];simp[h2,h3]);have d3:decide (d<b)=true:=by simpa using h3
   clear h h1 h2 h3;go_wp2_with(fail);go_ret;rw[e.out];exact⟨rfl,hS⟩
  ·have e:=jH (show r=false by rw[<-h];simp[h2];omega);have d3:decide (d<b)=false:=by simpa using h3
   clear h h1 h2 h3;go_wp2_with(fail);go_ret;rw[e.out];exact⟨rfl,hS⟩
 ·have d2:(a==c)=false:=by simpa using h2
  have e:=jH (show r=false by rw[<-h];simp[h1];omega);clear h h1 h2;go_wp2_with(fail);go_ret;rw[e.out];exact⟨rfl,hS⟩
def CmR{ν:Type}(W:World)(L:List HP)(l:List ((Int×Int)×ν))(k:Int×Int)(v:Value)(w:World):Prop:=
 ∃i:Nat,v=.I i/\i<=l.length/\plI ltW l k=i+plI ltW (l.drop i) k/\St W L w
theorem EL7:∀l:List ((Int×Int)×Unit),(l.flatMap mkC).all (·.oneCell')=true
 | []=>rfl
 | x::l=>by rw[List.flatMap_cons,List.all_append,EL7 l];rfl
theorem AU7{α:Type}(H:List α)(p q:Nat)(x:α)(hp:p<=H.length):(H.take p++x::H.drop q).length=0+p+1+(H.length-q):=by rw[jA,jT,jC,List.length_drop,Nat.min_eq_left hp];omega
theorem AJ7{α:Type}(enc:α->List Value)(H:List α)(p q:Nat)(x:α):(H.take p++x::H.drop q).flatMap enc=[]++(H.take p).flatMap enc++enc x++(H.drop q).flatMap enc:=by rw[List.flatMap_append,List.flatMap_cons,jN,jS]
theorem eP4(l:List ((Int×Int)×Unit))(hl:l.length<=1000000)(cl sq:Int)(xb:Nat)(v1 v2 v3 v4:Value)(W w:World)(R:List HP)(hS:St W (xeB xb v1 v2 v3 v4::xmP v4 l::R) w):
  Calls Tryz.prog 59 #[.P xb,.I cl,.I sq] w fun e w'=>e=.returned (.tuple #[])/\∃v,St W (xeB xb v1 v2 v3 v::xmP v (l.take (plI ltW l (cl,sq))++((cl,sq),())::l.drop (plI ltW l (cl,sq)))::R) w':=by
 obtain⟨a,cap,rfl⟩:=hS.drop.rowVal;have h63:l.length<=9223372036854775807:=by omega
 go_enter Tryz.func59,Tryz.ntmps59;go_wp2_with fail
 go_loopw [6] (fun v wr=>CmR W (xeB xb v1 v2 v3 (.slice a l.length cap)::xmP (.slice a l.length cap) l::R) l (cl,sq) v wr) (fun v _=>l.length-(intOf v).toNat)
 case atStart=>exact⟨0,rfl,Nat.zero_le _,by simp,hS⟩
 case round=>
  clear hS;obtain⟨i,rfl,hil,e1,hS⟩:=hrel;by_cases hin:i=l.length
  ·have hdr:l.drop i=[]:=by rw[hin];exact List.drop_length
   rw[hdr]at e1;have E1:=jH (show plI ltW l (cl,sq)=i from e1);have di:decide (i<l.length)=false:=by simp;omega
   have hi0:l=[]->i=0:=fun h=>by rw[h]at hil;simpa using hil
   clear e1 hdr hin;go_wp2_with fail;refine Aa7 (by kernel_rfl) (by kernel_rfl) hS ?_
   repeat(first|go_big_quiet_skip|refine zq1 ?_|refine zqn ?_|refine qR ?_)
   clear hS;intro w hS
   rcases St.rowCase hS.drop with ⟨rfl,h0,rfl,hc0⟩|⟨g,rfl,hcap,hcn⟩
   ·have hH:l=[]:=List.eq_nil_of_length_eq_zero h0;obtain rfl:=hi0 hH;clear hi0 E1;subst hH;go_wp2_with(first|refine zl1 hS ?_|(with_reducible apply Bj7 (n:=0) hS);rfl;rfl;(focus(simp only[fD,fI,fJ,Act.eval,fE,fF,fG,fH,fK];try rfl));exact esS;exact rsS;rfl;rfl;rfl;rfl;rfl;decide;clear hS;intro bv w hS;refine frS ?_|refine zbs hS ?_;clear hS;intro bS w hS|(with_reducible apply Ae7 hS);rfl;rfl;rfl;rfl;exact esS;exact rsS;rfl;decide;exact i7;exact .inl ⟨rfl,rfl,rfl⟩;(focus(rfl));exact rfl;(focus(unfold maxLen;omega));(focus(omega));clear hS;intro v w hS;(have hv:=hS.rowVal;obtain⟨va,vc,rfl⟩:=hv);refine frS ?_|(with_reducible apply Ae7 hS);rfl;rfl;rfl;rfl;exact esS;exact rsS;rfl;decide;exact i7;exact Src.mk d8.whole;(focus(rfl));exact rfl;(focus(unfold maxLen;omega));(focus(omega));clear hS;intro v w hS;(have hv:=hS.rowVal;obtain⟨va,vc,rfl⟩:=hv);refine frS ?_|refine zs1 hS ?_;clear hS;intro w hS);go_end0;have hS1:St W (xmP (.slice va 1 vc) [((cl,sq),())]::_) w:=hS;have hS2:=hS1.s (xeB xb v1 v2 v3 _::xmP (.slice va 1 vc) [((cl,sq),())]::R);exact⟨rfl,.slice va 1 vc,hS2⟩
   ·clear hi0;have Hpp:=jH (show plI ltW l (cl,sq)=i from E1.out);go_wp2_with(first|refine zl1 hS ?_|(with_reducible apply Bj7 (n:=0) hS);rfl;rfl;(focus(simp only[fD,fI,fJ,Act.eval,fE,fF,fG,fH,fK];try rfl));exact esS;exact rsS;rfl;rfl;rfl;rfl;rfl;decide;clear hS;intro bv w hS;refine frS ?_|refine zbs hS ?_;clear hS;intro bS w hS|(with_reducible apply Ae7 hS);rfl;rfl;rfl;rfl;exact esS;exact rsS;rfl;decide;exact i7;exact Src.partM (by exact ax4) (x8 l (i));(focus(rw[Ab7 BX7,jT,Nat.min_eq_left (by omega)]));exact EL7 _;(focus(unfold maxLen;omega));(focus(omega));clear hS;intro v w hS;(have hv:=hS.rowVal;obtain⟨va,vc,rfl⟩:=hv);refine frS ?_|(with_reducible apply Ae7 hS);rfl;rfl;rfl;rfl;exact esS;exact rsS;rfl;decide;exact i7;exact Src.mk d8.whole;(focus(rfl));exact rfl;(focus(unfold maxLen;omega));(focus(omega));clear hS;intro v w hS;(have hv:=hS.rowVal;obtain⟨va,vc,rfl⟩:=hv);refine frS ?_|(with_reducible apply Ae7 hS);rfl;rfl;rfl;rfl;exact esS;exact rsS;rfl;decide;exact i7;exact Src.behindM (by exact ax4) (fun h=>⟨by omega,by rw[List.drop_eq_nil_of_le (by omega)];rfl⟩) (fun j u h=>B7 BX7 l (i) j u (by omega) h);(focus(rw[Ab7 BX7,List.length_drop]));exact EL7 _;(focus(unfold maxLen;omega));(focus(omega));clear hS;intro v w hS;(have hv:=hS.rowVal;obtain⟨va,vc,rfl⟩:=hv);refine frS ?_|refine zs1 hS ?_;clear hS;intro w hS)
    all_goals go_end0
    all_goals refine⟨rfl,.slice va (0+i+1+(l.length-i)) vc,?_⟩
    all_goals rw[Hpp.out]
    all_goals unfold xmP
    all_goals rw[AU7 l (i) (i) _ (by omega),AJ7]
    all_goals have hS1:St W (row (.slice va (0+i+1+(l.length-i)) vc) 2 144 (0+i+1+(l.length-i)) ([]++(l.take (i)).flatMap mkC++mkC ((cl,sq),())++(l.drop (i)).flatMap mkC)::_) w:=hS
    all_goals exact hS1.s _
  ·have hi1:i<l.length:=by omega
   obtain⟨⟨g,rfl⟩,_,_⟩:=St.rowAddr hS.drop (by omega);have hca:∀{K K':List HP},Take K (xmP (.S g l.length cap) l) K'->i6 K g (i*2) (.I l[i].1.1):=fun hu=>d8.elemM (enc:=mkC) BX7 hu hi1 0 _ rfl
   have hcb:∀{K K':List HP},Take K (xmP (.S g l.length cap) l) K'->i6 K g (i*2+1) (.I l[i].1.2):=fun hu=>d8.elemM (enc:=mkC) BX7 hu hi1 1 _ rfl
   have hdr:l.drop i=l[i]::l.drop (i+1):=List.drop_eq_getElem_cons hi1;rw[hdr,plI]at e1;generalize l[i]=x at hca hcb e1;obtain⟨⟨xa,xc⟩,xu⟩:=x;simp only at hca hcb e1;clear hdr;have di:decide (i<l.length)=true:=by simpa using hi1
   cases hlt:ltW (xa,xc) (cl,sq)with
   | true=>
    rw[hlt,if_pos rfl]at e1;have Hlt:=jH hlt;have E1:=jH e1;clear hlt e1;go_wp2_with fail;refine Aa7 (by kernel_rfl) (by kernel_rfl) hS ?_
    repeat(first|refine zq1 ?_|apply An7;rfl;rfl;rfl;decide +kernel;exact hca (by exact i7);refine frS ?_|apply An7;rfl;rfl;rfl;decide +kernel;exact hcb (by exact i7);refine frS ?_|refine zqn ?_|apply As7;rfl;intro w;apply Aj7;rfl;decide +kernel;(focus(simp only[fD,fI,fJ,Act.eval,fE,fF,fG,fH,fK];try rfl));intro w hS;exact Dm7 Hlt.out W w _ hS;refine frS ?_|refine qR ?_)
    clear hS;intro w hS;go_wp2_with(fail);go_roundw
    case rel=>exact⟨i+1,rfl,hi1,by rw[E1.out];omega,hS⟩
    case measure=>simp[intOf];omega
   | false=>
    rw[hlt,if_neg (by simp)]at e1;have Hlt:=jH hlt;have E1:=jH (show plI ltW l (cl,sq)=i from e1);clear hlt e1;go_wp2_with fail;refine Aa7 (by kernel_rfl) (by kernel_rfl) hS ?_
    repeat(first|refine zq1 ?_|apply An7;rfl;rfl;rfl;decide +kernel;exact hca (by exact i7);refine frS ?_|apply An7;rfl;rfl;rfl;decide +kernel;exact hcb (by exact i7);refine frS ?_|refine zqn ?_|apply As7;rfl;intro w;apply Aj7;rfl;decide +kernel;(focus(simp only[fD,fI,fJ,Act.eval,fE,fF,fG,fH,fK];try rfl));intro w hS;exact Dm7 Hlt.out W w _ hS;refine frS ?_|refine qR ?_)
    clear hS;intro w hS;have Hpp:=jH (show plI ltW l (cl,sq)=i from E1.out);go_wp2_with(first|refine zl1 hS ?_|(with_reducible apply Bj7 (n:=0) hS);rfl;rfl;(focus(simp only[fD,fI,fJ,Act.eval,fE,fF,fG,fH,fK];try rfl));exact esS;exact rsS;rfl;rfl;rfl;rfl;rfl;decide;clear hS;intro bv w hS;refine frS ?_|refine zbs hS ?_;clear hS;intro bS w hS|(with_reducible apply Ae7 hS);rfl;rfl;rfl;rfl;exact esS;exact rsS;rfl;decide;exact i7;exact Src.partM (by exact ax4) (x8 l (i));(focus(rw[Ab7 BX7,jT,Nat.min_eq_left (by omega)]));exact EL7 _;(focus(unfold maxLen;omega));(focus(omega));clear hS;intro v w hS;(have hv:=hS.rowVal;obtain⟨va,vc,rfl⟩:=hv);refine frS ?_|(with_reducible apply Ae7 hS);rfl;rfl;rfl;rfl;exact esS;exact rsS;rfl;decide;exact i7;exact Src.mk d8.whole;(focus(rfl));exact rfl;(focus(unfold maxLen;omega));(focus(omega));clear hS;intro v w hS;(have hv:=hS.rowVal;obtain⟨va,vc,rfl⟩:=hv);refine frS ?_|(with_reducible apply Ae7 hS);rfl;rfl;rfl;rfl;exact esS;exact rsS;rfl;decide;exact i7;exact Src.partM (by exact ax4) (fun j u h=>B7 BX7 l (i) j u (by omega) h);(focus(rw[Ab7 BX7,List.length_drop]));exact EL7 _;(focus(unfold maxLen;omega));(focus(omega));clear hS;intro v w hS;(have hv:=hS.rowVal;obtain⟨va,vc,rfl⟩:=hv);refine frS ?_|refine zs1 hS ?_;clear hS;intro w hS)
    all_goals go_end0
    all_goals refine⟨rfl,.slice va (0+i+1+(l.length-i)) vc,?_⟩
    all_goals rw[Hpp.out]
    all_goals unfold xmP
    all_goals rw[AU7 l (i) (i) _ (by omega),AJ7]
    all_goals have hS1:St W (row (.slice va (0+i+1+(l.length-i)) vc) 2 144 (0+i+1+(l.length-i)) ([]++(l.take (i)).flatMap mkC++mkC ((cl,sq),())++(l.drop (i)).flatMap mkC)::_) w:=hS
    all_goals exact hS1.s _
end Go.Proofs.YtienbkdjkjbelaaGreat
end
