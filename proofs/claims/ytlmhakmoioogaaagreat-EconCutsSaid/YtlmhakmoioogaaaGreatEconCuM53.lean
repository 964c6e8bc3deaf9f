/-
  The document's Join.
-/
import Derived.Test.YtlmhakmoioogaaaGreatEconCuM5
import Derived.Test.YtlmhakmoioogaaaGreatEconCuM51
import Derived.Test.YtlmhakmoioogaaaGreatEconCuM52
set_option maxHeartbeats 16000000
set_option maxRecDepth 100000
set_option linter.unusedSimpArgs false
set_option linter.unusedVariables false
section
namespace Go.Proofs.YtlmhakmoioogaaaGreat
open Go.RowKit Go.Sl
def ci4{ν:Type}(l:List (ByteArray×ν))(x:ByteArray×ν):List (ByteArray×ν):=l.take (plI ltB l x.1)++x::l.drop (plI ltB l x.1)
def ae4{ν:Type}(D S:List (ByteArray×ν)):List (ByteArray×ν):=S.foldl ci4 D
def aw4(D S:List ((Int×Int)×Tns)):List ((Int×Int)×Tns):=S.foldl (fun l x=>cy4 l x.1 x.2) D
def af4(l:List ((Int×Int)×Unit))(x:(Int×Int)×Unit):List ((Int×Int)×Unit):=if(i9 l x.1).isSome=true then l else cy4 l x.1 ()
def N8(D S:List ((Int×Int)×Unit)):List ((Int×Int)×Unit):=S.foldl af4 D
def O9(l:List (Int×(Int×Rpl)))(x:Int×(Int×Rpl)):List (Int×(Int×Rpl)):=if sqL l x.1<x.2.1 then plS ltI l x.1 x.2 else l
def ag4(D S:List (Int×(Int×Rpl))):List (Int×(Int×Rpl)):=S.foldl O9 D
def dc4(d o:Ec):Ec:=⟨ae4 d.vs o.vs,ag4 d.ss o.ss,aw4 d.ts o.ts,N8 d.ar o.ar⟩
def ax4(d o:Ec):Bool:=(o.vs.any fun x=>plB ltB d.vs x.1)||(o.ts.any fun x=>decide (0<=fdI d.ts x.1))
theorem Ew7{α β:Type}(f:β->α->β)(b:β)(l:List α){i:Nat}(h:i<l.length):(l.take (i+1)).foldl f b=f ((l.take i).foldl f b) l[i]:=by rw[List.take_succ_eq_append_getElem h,List.foldl_append];rfl
theorem Jv7{ν:Type}(l:List (ByteArray×ν))(x:ByteArray×ν):(ci4 l x).Perm (x::l):=by unfold ci4;refine List.perm_middle.trans ?_;rw[List.take_append_drop]
theorem Qv7{ν:Type}(l:List (ByteArray×ν))(x:ByteArray×ν):(ci4 l x).length=l.length+1:=(Jv7 l x).length_eq
theorem EX7{ν:Type}:∀(S D:List (ByteArray×ν)),(ae4 D S).length=D.length+S.length
 | [],D=>rfl
 | x::S,D=>by
  have h:=EX7 S (ci4 D x);show(ae4 (ci4 D x) S).length=_
  rw[h,Qv7,jC];omega
theorem CQ7{ν:Type}:∀(S D:List (ByteArray×ν)),(ae4 D S).Perm (S++D)
 | [],D=>List.Perm.refl _
 | x::S,D=>by
  show(ae4 (ci4 D x) S).Perm _
  refine(CQ7 S (ci4 D x)).trans ?_;refine(List.Perm.append_left S (Jv7 D x)).trans ?_;exact List.perm_middle
theorem Kx7{ν:Type}(l:List ((Int×Int)×ν))(k:Int×Int)(v:ν):(cy4 l k v).Perm ((k,v)::l):=by unfold cy4;refine List.perm_middle.trans ?_;rw[List.take_append_drop]
theorem Ce7:∀(S D:List ((Int×Int)×Tns)),(aw4 D S).Perm (S++D)
 | [],D=>List.Perm.refl _
 | x::S,D=>by
  show(aw4 (cy4 D x.1 x.2) S).Perm _
  refine(Ce7 S _).trans ?_;refine(List.Perm.append_left S (Kx7 D x.1 x.2)).trans ?_;exact List.perm_middle
theorem Jw7{S D:List ((Int×Int)×Tns)}(hs:TsK S)(hd:TsK D):TsK (aw4 D S):=fun x hx=>by
 rcases List.mem_append.1 ((Ce7 S D).mem_iff.1 hx)with h|h
 ·exact hs x h
 ·exact hd x h
theorem MJ7(l:List ((Int×Int)×Unit))(x:(Int×Int)×Unit):(af4 l x).length<=l.length+1:=by
 unfold af4;split
 ·omega
 ·rw[(Kx7 l x.1 ()).length_eq,jC];exact Nat.le_refl _
theorem Hi7:∀(S D:List ((Int×Int)×Unit)),(N8 D S).length<=D.length+S.length
 | [],D=>Nat.le_refl _
 | x::S,D=>by
  have h:=Hi7 S (af4 D x);have h2:=MJ7 D x;show(N8 (af4 D x) S).length<=_
  rw[jC];omega
theorem MK7(l:List (Int×(Int×Rpl)))(x:Int×(Int×Rpl)):(O9 l x).length<=l.length+1:=by
 unfold O9;split
 ·exact Kp7 _ _ _
 ·omega
theorem Hj7:∀(S D:List (Int×(Int×Rpl))),(ag4 D S).length<=D.length+S.length
 | [],D=>Nat.le_refl _
 | x::S,D=>by
  have h:=Hj7 S (O9 D x);have h2:=MK7 D x;show(ag4 (O9 D x) S).length<=_
  rw[jC];omega
theorem OM7(D:Ev)(x:ByteArray×(Nat×Vs)):k8 (ci4 D x)=ci4 (k8 D) (x.1,x.2.2):=by unfold ci4;rw[GB7];unfold k8;rw[List.map_append,List.map_cons,List.map_take,List.map_drop]
theorem Fh7:∀(S D:Ev),k8 (ae4 D S)=ae4 (k8 D) (k8 S)
 | [],D=>rfl
 | x::S,D=>by
  show k8 (ae4 (ci4 D x) S)=ae4 (ci4 (k8 D) (x.1,x.2.2)) (k8 S)
  rw[Fh7 S,OM7]
def JaR{α:Type}(W:World)(F:List HP)(S:List α)(p:α->Prop)(v:Value)(w:World):Prop:=
 ∃i:Nat,v=.I i/\i<=S.length/\(∀x∈S.take i,p x)/\St W F w
def JvR(W:World)(F:List HP)(xb:Nat)(v2 v3 v4:Value)(D S:Ev)(v:Value)(w:World):Prop:=
 ∃(i:Nat) (v1:Value),v=.I i/\i<=S.length/\St W (xeB xb v1 v2 v3 v4::xrP v1 (ae4 D (S.take i))::F) w
def JtR(W:World)(F:List HP)(xb:Nat)(v1 v2 v4:Value)(D S:List ((Int×Int)×Tns))(v:Value)(w:World):Prop:=
 ∃(i:Nat) (v3:Value),v=.I i/\i<=S.length/\St W (xeB xb v1 v2 v3 v4::xtP v3 (aw4 D (S.take i))::F) w
def JmR(W:World)(F:List HP)(xb:Nat)(v1 v2 v3:Value)(D S:List ((Int×Int)×Unit))(v:Value)(w:World):Prop:=
 ∃(i:Nat) (v4:Value),v=.I i/\i<=S.length/\St W (xeB xb v1 v2 v3 v4::xmP v4 (N8 D (S.take i))::F) w
def hH4(W:World)(F:List HP)(xb:Nat)(v1 v3 v4:Value)(D S:List (Int×(Int×Rpl)))(v:Value)(w:World):Prop:=
 ∃(i:Nat) (v2:Value),v=.I i/\i<=S.length/\St W (xeB xb v1 v2 v3 v4::xsP v2 (ag4 D (S.take i))::F) w
theorem LH7{α:Type}{S:List α}{p:α->Prop}{i:Nat}(hi:i<S.length)(h:∀x∈S.take i,p x)(h2:p S[i]):∀x∈S.take (i+1),p x:=by
 rw[List.take_succ_eq_append_getElem hi];intro x hx
 rcases List.mem_append.1 hx with h3|h3
 ·exact h x h3
 ·rw[List.mem_singleton.1 h3];exact h2
theorem ff4:(Tryz.prog.info? 50).map (·.size)=some 4:=by kernel_rfl
theorem ef4:∃j,Tryz.prog.info? 50=some j/\j.size≠0:=by
 have h:=ff4
 cases hj:Tryz.prog.info? 50 with
 | none=>rw[hj]at h;cases h
 | some j=>
  rw[hj]at h;have h2:j.size=4:=by simpa using h
  exact⟨j,rfl,by omega⟩
abbrev tB52a:List Nat:=[0,0,2,6,14,0,62,127,0,256,768,1792,0,7936,16128,32512,65535,131071]
theorem ON7{xb ob:Nat}{d o:Ec}(hk:TsK d.ts)(hko:TsK o.ts)(l1:d.vs.length<=300000)(l2:d.ss.length<=300000)(l3:d.ts.length<=300000)(l4:d.ar.length<=300000)(k1:o.vs.length<=300000)(k2:o.ss.length<=300000)(k3:o.ts.length<=300000)(k4:o.ar.length<=300000)(W w:World)(R:List HP)(hS:St W (xU6 xb d::xU6 ob o::R) w):
  Calls Tryz.prog 30 #[.P xb,.P ob] w fun x w'=> (ax4 d o=true/\x=.returned (.I 8)/\St W (xU6 xb d::xU6 ob o::R) w')\/(ax4 d o=false/\x=.returned (.I 0)/\St W (xU6 xb (dc4 d o)::R) w'):=by
 obtain⟨v1,v2,v3,v4,D,hd,hS0⟩:=aG4 hS;obtain⟨u1,u2,u3,u4,S,ho,hS1⟩:=aG4 (hS0.s (xU6 ob o::xeB xb _ _ _ _::xrP _ D::xsP _ d.ss::xtP _ d.ts::xmP _ d.ar::l6 D::R));clear hS hS0;obtain⟨b1,e1,rfl⟩:=hS1.drop.rowVal;obtain⟨b2,e2,rfl⟩:=hS1.drop.drop.drop.rowVal;obtain⟨b3,e3,rfl⟩:=hS1.drop.drop.drop.drop.rowVal;obtain⟨b4,e4,rfl⟩:=hS1.drop.drop.drop.drop.drop.rowVal;have hS:=hS1.s (xeB xb _ _ _ _::xrP _ D::xsP _ d.ss::xtP _ d.ts::xmP _ d.ar::xeB ob _ _ _ _::xrP _ S::xsP _ o.ss::xtP _ o.ts::xmP _ o.ar::l6 D::l6 S::R);clear hS1;have hD:D.length<=300000:=by rw[<-BH7,hd];exact l1
 have hSl:S.length<=300000:=by rw[<-BH7,ho];exact k1
 have hne:ob≠xb:=fun e=>(St.ne hS (show Mem (xeB ob (.slice b1 S.length e1) (.slice b2 o.ss.length e2) (.slice b3 o.ts.length e3) (.slice b4 o.ar.length e4)) _ from by exact dd4)) e.symm
 have Hd:=jH hd;have Ho:=jH ho;have Hk:=jH hk;have Hko:=jH hko;clear hd ho hk hko l1 k1;go_enter Tryz.func30,Tryz.ntmps30;go_wp2_with(first|go_big_skip|refine zl1 hS ?_|(with_reducible apply LF7 (b:=ob) (c:=xb) (l:=[.slice b1 S.length e1,.slice b2 o.ss.length e2,.slice b3 o.ts.length e3,.slice b4 o.ar.length e4]) (l':=[v1,v2,v3,v4]) (T:=50) (T':=50) hS);exact dd4;exact dd4;exact hne;rfl;rfl;rfl;rfl;exact Tryz.underlying45;exact ef4;refine frS ?_)
 go_loopw [5] (fun v wr=>JaR W (xeB xb v1 v2 v3 v4::xrP v1 D::xsP v2 d.ss::xtP v3 d.ts::xmP v4 d.ar::xeB ob (.slice b1 S.length e1) (.slice b2 o.ss.length e2) (.slice b3 o.ts.length e3) (.slice b4 o.ar.length e4)::xrP (.slice b1 S.length e1) S::xsP (.slice b2 o.ss.length e2) o.ss::xtP (.slice b3 o.ts.length e3) o.ts::xmP (.slice b4 o.ar.length e4) o.ar::l6 D::l6 S::R) S (fun x=>plB ltB D x.1=false) v wr) (fun v _=>S.length-(intOf v).toNat)
 case atStart=>exact⟨0,rfl,Nat.zero_le _,fun x hx=>(by cases hx),hS⟩
 case round=>
  clear hS;obtain⟨i,rfl,hi,hno,hS⟩:=hrel;by_cases hin:i<S.length
  case pos=>
   have hd1:decide (i<S.length)=true:=decide_eq_true hin;obtain⟨⟨g,rfl⟩,_,_⟩:=St.rowAddr hS.drop.drop.drop.drop.drop.drop (by omega);have hck:∀{K K':List HP},Take K (xrP (.S g S.length e1) S) K'->i8 K g (i*2) (.string S[i].1):=fun hu=>i5.elemM (enc:=rwC) AE7 hu hin 0 _ rfl
   have hmem:S[i]∈S:=jW hin;have hstp:=LH7 (p:=fun x:ByteArray×(Nat×Vs)=>plB ltB D x.1=false) hin hno;generalize S[i]=x at hck hmem hstp;obtain⟨xk,vb,V⟩:=x;simp only at hck hstp;obtain⟨p,hp⟩:∃p,plI ltB D xk=p:=⟨_,rfl⟩
   have Hp:=jH hp;have Hstp:=jH hstp;have Hmem:=jH hmem;clear hp hno hstp hmem hi
   cases hb:plB ltB D xk with
   | true=>
    have Hb:=jH hb;clear hb;go_wp2_with(first|go_big_skip|refine zl1 hS ?_ (hc:=by exact hck (by exact i6))|refine zl1 hS ?_|go_at_call 80;refine(Co7 Hp.out Hb.out xb v1 v2 v3 v4 W _ _ (hS.s (xeB xb _ _ _ _::xrP _ D::xsP _ d.ss::xtP _ d.ts::xmP _ d.ar::xeB ob _ _ _ _::xrP _ S::xsP _ o.ss::xtP _ o.ts::xmP _ o.ar::l6 D::l6 S::R))).mono ?_;clear hS;rintro ex w ⟨rfl,hS⟩);go_ret;have hc:ax4 d o=true:=by unfold ax4;rw[Bool.or_eq_true];left;rw[List.any_eq_true];refine⟨(xk,V),by rw[<-Ho.out];exact List.mem_map.2 ⟨_,Hmem.out,rfl⟩,?_⟩;rw[<-Hd.out,Et7];exact Hb.out
    have h1:St W (bU4 xb v1 v2 v3 v4 D d (xeB ob (.S g S.length e1) (.slice b2 o.ss.length e2) (.slice b3 o.ts.length e3) (.slice b4 o.ar.length e4)::xrP (.S g S.length e1) S::xsP (.slice b2 o.ss.length e2) o.ss::xtP (.slice b3 o.ts.length e3) o.ts::xmP (.slice b4 o.ar.length e4) o.ar::l6 S::R)) _:=hS.s (xeB xb _ _ _ _::xrP _ D::l6 D::xsP _ d.ss::xtP _ d.ts::xmP _ d.ar::xeB ob _ _ _ _::xrP _ S::xsP _ o.ss::xtP _ o.ts::xmP _ o.ar::l6 S::R);have h2:=J5 Hd.out h1;have h3:St W (bU4 ob (.S g S.length e1) (.slice b2 o.ss.length e2) (.slice b3 o.ts.length e3) (.slice b4 o.ar.length e4) S o (xU6 xb d::R)) _:=h2.s (xeB ob _ _ _ _::xrP _ S::l6 S::xsP _ o.ss::xtP _ o.ts::xmP _ o.ar::xU6 xb d::R);exact .inl ⟨hc,rfl,(J5 Ho.out h3).swap⟩
   | false=>
    have Hb:=jH hb;clear hb;go_wp2_with(first|go_big_skip|refine zl1 hS ?_ (hc:=by exact hck (by exact i6))|refine zl1 hS ?_|go_at_call 80;refine(Co7 Hp.out Hb.out xb v1 v2 v3 v4 W _ _ (hS.s (xeB xb _ _ _ _::xrP _ D::xsP _ d.ss::xtP _ d.ts::xmP _ d.ar::xeB ob _ _ _ _::xrP _ S::xsP _ o.ss::xtP _ o.ts::xmP _ o.ar::l6 D::l6 S::R))).mono ?_;clear hS;rintro ex w ⟨rfl,hS⟩);go_roundw
    case rel=>exact⟨i+1,rfl,hin,Hstp.out Hb.out,hS⟩
    case measure=>simp[intOf];omega
  have hd1:decide (i<S.length)=false:=decide_eq_false hin;have hie:i=S.length:=by omega
  rw[hie,List.take_length]at hno;have Hno:=jH hno;clear hin hi hie hno;go_wp2_with(first|go_big_skip|refine zl1 hS ?_)
  go_loopw [8] (fun v wr=>JaR W (xeB xb v1 v2 v3 v4::xrP v1 D::xsP v2 d.ss::xtP v3 d.ts::xmP v4 d.ar::xeB ob (.slice b1 S.length e1) (.slice b2 o.ss.length e2) (.slice b3 o.ts.length e3) (.slice b4 o.ar.length e4)::xrP (.slice b1 S.length e1) S::xsP (.slice b2 o.ss.length e2) o.ss::xtP (.slice b3 o.ts.length e3) o.ts::xmP (.slice b4 o.ar.length e4) o.ar::l6 D::l6 S::R) o.ts (fun x=>fdI d.ts x.1<0) v wr) (fun v _=>o.ts.length-(intOf v).toNat)
  case atStart=>exact⟨0,rfl,Nat.zero_le _,fun x hx=>(by cases hx),hS⟩
  case round=>
   clear hS;obtain⟨i,rfl,hi,hno,hS⟩:=hrel;by_cases hin:i<o.ts.length
   case pos=>
    have hd2:decide (i<o.ts.length)=true:=decide_eq_true hin;obtain⟨⟨g,rfl⟩,_,_⟩:=St.rowAddr hS.drop.drop.drop.drop.drop.drop.drop.drop (by omega);have hca:∀{K K':List HP},Take K (xtP (.S g o.ts.length e3) o.ts) K'->i8 K g (i*8) (.I o.ts[i].2.client):=fun hu=>i5.elemM (enc:=tnC) AH7 hu hin 0 _ rfl
    have hcb:∀{K K':List HP},Take K (xtP (.S g o.ts.length e3) o.ts) K'->i8 K g (i*8+1) (.I o.ts[i].2.seq):=fun hu=>i5.elemM (enc:=tnC) AH7 hu hin 1 _ rfl
    have hmem:o.ts[i]∈o.ts:=jW hin;have hkx:=Hko.out _ hmem;have hstp:=LH7 (p:=fun x:(Int×Int)×Tns=>fdI d.ts x.1<0) hin hno;generalize o.ts[i]=x at hca hcb hmem hstp hkx;obtain⟨xk,⟨t0,t1,t2,t3,t4,t5,t6,t7⟩⟩:=x;simp only at hkx hca hcb;subst hkx;obtain⟨r,hr⟩:∃r,fdI d.ts (t0,t1)=r:=⟨_,rfl⟩
    have Hr:=jH hr;have Hstp:=jH hstp;have Hmem:=jH hmem;clear hno hstp hmem hi;by_cases hr0:0<=r
    ·have hq:decide (0<=r)=true:=decide_eq_true hr0;go_wp2_with(first|go_big_skip|refine zl1 hS ?_);refine rt 17 hS ?_
     repeat(first|go_big_quiet_skip|apply Aj7;rfl;rfl;rfl;decide +kernel;exact hca (by exact i6);refine frS ?_|apply Aj7;rfl;rfl;rfl;decide +kernel;exact hcb (by exact i6);refine frS ?_|refine zqN ?_|refine zq1 ?_|refine zqn ?_|refine qR ?_)
     clear hS;intro w hS;simp only[jD,List.drop_zero];go_wp2_with fail;refine(CM7 d.ts Hk.out t0 t1 Hr.out xb v1 v2 v3 v4 W _ _ (hS.s (xeB xb _ _ _ _::xtP _ d.ts::xrP _ D::xsP _ d.ss::xmP _ d.ar::xeB ob _ _ _ _::xrP _ S::xsP _ o.ss::xtP _ o.ts::xmP _ o.ar::l6 D::l6 S::R))).mono ?_;clear hS;rintro ex w ⟨rfl,hS⟩;go_wp2_with(first|go_big_skip);go_ret;have hc:ax4 d o=true:=by unfold ax4;rw[Bool.or_eq_true];right;rw[List.any_eq_true];exact⟨_,Hmem.out,by rw[decide_eq_true_eq];show 0<=fdI d.ts (t0,t1);rw[Hr.out];exact hr0⟩
     have h1:St W (bU4 xb v1 v2 v3 v4 D d (xeB ob (.slice b1 S.length e1) (.slice b2 o.ss.length e2) (.S g o.ts.length e3) (.slice b4 o.ar.length e4)::xrP (.slice b1 S.length e1) S::xsP (.slice b2 o.ss.length e2) o.ss::xtP (.S g o.ts.length e3) o.ts::xmP (.slice b4 o.ar.length e4) o.ar::l6 S::R)) _:=hS.s (xeB xb _ _ _ _::xrP _ D::l6 D::xsP _ d.ss::xtP _ d.ts::xmP _ d.ar::xeB ob _ _ _ _::xrP _ S::xsP _ o.ss::xtP _ o.ts::xmP _ o.ar::l6 S::R);have h2:=J5 Hd.out h1;have h3:St W (bU4 ob (.slice b1 S.length e1) (.slice b2 o.ss.length e2) (.S g o.ts.length e3) (.slice b4 o.ar.length e4) S o (xU6 xb d::R)) _:=h2.s (xeB ob _ _ _ _::xrP _ S::l6 S::xsP _ o.ss::xtP _ o.ts::xmP _ o.ar::xU6 xb d::R);exact .inl ⟨hc,rfl,(J5 Ho.out h3).swap⟩
    ·have hq:decide (0<=r)=false:=decide_eq_false hr0;go_wp2_with(first|go_big_skip|refine zl1 hS ?_);refine rt 17 hS ?_
     repeat(first|go_big_quiet_skip|apply Aj7;rfl;rfl;rfl;decide +kernel;exact hca (by exact i6);refine frS ?_|apply Aj7;rfl;rfl;rfl;decide +kernel;exact hcb (by exact i6);refine frS ?_|refine zqN ?_|refine zq1 ?_|refine zqn ?_|refine qR ?_)
     clear hS;intro w hS;simp only[jD,List.drop_zero];go_wp2_with fail;refine(CM7 d.ts Hk.out t0 t1 Hr.out xb v1 v2 v3 v4 W _ _ (hS.s (xeB xb _ _ _ _::xtP _ d.ts::xrP _ D::xsP _ d.ss::xmP _ d.ar::xeB ob _ _ _ _::xrP _ S::xsP _ o.ss::xtP _ o.ts::xmP _ o.ar::l6 D::l6 S::R))).mono ?_;clear hS;rintro ex w ⟨rfl,hS⟩;go_wp2_with(first|go_big_skip);go_roundw
     case rel=>exact⟨i+1,rfl,hin,Hstp.out (by show fdI d.ts (t0,t1)<0;rw[Hr.out];omega),hS.s _⟩
     case measure=>simp[intOf];omega
   have hd2:decide (i<o.ts.length)=false:=decide_eq_false hin;have hie:i=o.ts.length:=by omega
   rw[hie,List.take_length]at hno
   have hc:ax4 d o=false:=by
    unfold ax4;rw[Bool.or_eq_false_iff];refine⟨List.any_eq_false.2 fun x hx=>?_,List.any_eq_false.2 fun x hx=>?_⟩
    ·rw[<-Ho.out]at hx;obtain⟨y,hy,rfl⟩:=List.mem_map.1 hx;have h:=Hno.out y hy;rw[<-Hd.out,Et7,h];simp
    ·have h:=hno x hx;simp only[decide_eq_true_eq];omega
   have Hc:=jH hc;clear hin hi hie hno hc Hno;go_wp2_with(first|go_big_skip|refine zl1 hS ?_)
   go_loopw [9] (fun v wr=>JvR W (xsP v2 d.ss::xtP v3 d.ts::xmP v4 d.ar::xeB ob (.slice b1 S.length e1) (.slice b2 o.ss.length e2) (.slice b3 o.ts.length e3) (.slice b4 o.ar.length e4)::xrP (.slice b1 S.length e1) S::xsP (.slice b2 o.ss.length e2) o.ss::xtP (.slice b3 o.ts.length e3) o.ts::xmP (.slice b4 o.ar.length e4) o.ar::l6 D::l6 S::R) xb v2 v3 v4 D S v wr) (fun v _=>S.length-(intOf v).toNat)
   case atStart=>exact⟨0,v1,rfl,Nat.zero_le _,hS.s (xeB xb _ _ _ _::xrP _ D::xsP _ d.ss::xtP _ d.ts::xmP _ d.ar::xeB ob _ _ _ _::xrP _ S::xsP _ o.ss::xtP _ o.ts::xmP _ o.ar::l6 D::l6 S::R)⟩
   case round=>
    clear hS;obtain⟨i,v1,rfl,hi,hS⟩:=hrel;by_cases hin:i<S.length
    case pos=>
     have hd3:decide (i<S.length)=true:=decide_eq_true hin;obtain⟨⟨g,rfl⟩,_,_⟩:=St.rowAddr hS.drop.drop.drop.drop.drop.drop (by omega);have hcx:∀{K K':List HP},Take K (xrP (.S g S.length e1) S) K'->i5 K g (i*2) (rwC S[i]):=fun hu=>i5.elemM (enc:=rwC) AE7 hu hin
     have hck:∀{K K':List HP},Take K (xrP (.S g S.length e1) S) K'->i8 K g (i*2) (.string S[i].1):=fun hu=>i5.elemM (enc:=rwC) AE7 hu hin 0 _ rfl
     have hst:ae4 D (S.take (i+1))=ci4 (ae4 D (S.take i)) S[i]:=Ew7 ci4 D S hin;have hDl:=EX7 (S.take i) D;rw[jT]at hDl;generalize ae4 D (S.take i)=DI at hS hst hDl;generalize S[i]=x at hcx hck hst;obtain⟨xk,vb,V⟩:=x;simp only[rwC]at hcx hck;obtain⟨f1,f2,rfl⟩:=hS.drop.rowVal;obtain⟨p,hp⟩:∃p,plI ltB DI xk=p:=⟨_,rfl⟩
     obtain⟨b,hb⟩:∃b,plB ltB DI xk=b:=⟨_,rfl⟩
     have hpl:p<=DI.length:=by rw[<-hp];exact Hc7 _ _ _
     have hDl6:DI.length<=600000:=by omega
     have hst2:ae4 D (S.take (i+1))=DI.take p++(xk,(vb,V))::DI.drop p:=by rw[hst,<-hp];rfl
     have Hst:=jH hst2;have Hp:=jH hp;have Hb:=jH hb;clear hp hb hst hst2 hDl hi;go_wp2_with(first|go_big_skip|refine zl1 hS ?_ (hc:=by exact hck (by exact i6))|refine zl1 hS ?_|go_at_call 80;refine(Co7 Hp.out Hb.out xb _ v2 v3 v4 W _ _ (hS.s (xeB xb (.slice f1 DI.length f2) v2 v3 v4::xrP (.slice f1 DI.length f2) DI::xeB ob _ _ _ _::xrP _ S::xsP v2 d.ss::xtP v3 d.ts::xmP v4 d.ar::xsP (.slice b2 o.ss.length e2) o.ss::xtP (.slice b3 o.ts.length e3) o.ts::xmP (.slice b4 o.ar.length e4) o.ar::l6 D::l6 S::R))).mono ?_;clear hS;rintro ex w ⟨rfl,hS⟩)
     rcases St.rowCase hS.drop with ⟨rfl,h0,rfl,hc0⟩|⟨g2,rfl,hcap2,hcn2⟩
     ·have hH:DI=[]:=List.eq_nil_of_length_eq_zero h0;subst hH;obtain rfl:p=0:=Nat.le_zero.1 hpl;refine rf2 tB52a (fun i=>i==0||i==7||i==15||i==16) [⟨some 0,some 7,fun nd=>row (nd 0) 2 137 0 []⟩,⟨some 7,some 16,fun nd=>row (nd 7) 2 137 (0+0) ([]++([]:List Value))⟩,⟨some 15,none,fun nd=>G6 (nd 15) 1 1 [.string xk,.P vb] 137⟩,⟨some 16,none,fun nd=>row (nd 16) 2 137 (0+0+1) ([]++([]:List Value)++[.string xk,.P vb])⟩] [none,none,none,none] hS ?_;clear hS;intro nd;apply Bl7;rfl;rfl;rfl;(focus(simp only[fD,fI,fJ,Act.eval,fE,fF,fG,fH,fK];try rfl));(exact esS);(exact rsS);rfl;rfl;rfl;rfl;rfl;decide;(intro _;rfl);rfl;(intro _;rfl);(refine frS ?_);refine cR ?_;refine zcn ?_;refine cR ?_;refine zc1 ?_
      iterate 2 (refine cR ?_)
      (apply Af7;rfl;rfl;rfl;(focus((conv=>lhs;whnf);try rfl));(focus((conv=>lhs;whnf);try rfl));exact esS;exact rsS;rfl;decide;rfl;intro F w hS;exact .inl ⟨rfl,rfl,rfl⟩;(focus(rfl));(focus(exact rfl));(focus(unfold maxLen;omega));(focus(omega));intro _;rfl;intro _;rfl;refine frS ?_);refine cR ?_;refine zcn ?_;refine cR ?_;refine zc1 ?_
      iterate 2 (refine cR ?_)
      (refine zcN ?_ (hc:=by(intro F;exact hcx (by exact r6))));apply M9;rfl;rfl;rfl;(focus(simp only[fD,fI,fJ,Act.eval,fE,fF,fG,fH,fK];try rfl));(exact esS);(exact rsS);rfl;rfl;rfl;rfl;(intro _;rfl);rfl;(intro _;rfl);(refine frS ?_);apply Af7;rfl;rfl;rfl;(focus((conv=>lhs;whnf);try rfl));(focus((conv=>lhs;whnf);try rfl));(exact esS);(exact rsS);rfl;decide;rfl;(intro F w hS;exact AD7 hS (by exact r6));(focus(try rfl));rfl;(focus(unfold maxLen;omega));(focus(omega));(intro _;rfl);(intro _;rfl);(refine frS ?_);refine cR ?_;refine Ad7 ?_;intro w hS;have hS2:St W [G6 (nd 15) _ _ _ _,row (nd 16) 2 _ _ _,xeB xb _ _ _ _,xrP _ _,xeB ob _ _ _ _,xrP _ S,sats (xsP v2 d.ss::xtP v3 d.ts::xmP v4 d.ar::xsP (.slice b2 o.ss.length e2) o.ss::xtP (.slice b3 o.ts.length e3) o.ts::xmP (.slice b4 o.ar.length e4) o.ar::l6 D::l6 S::R)] w:=hS;clear hS;have hS:=hS2.drop.unpack [_,_,_,_,_];clear hS2;simp only[jK,jN]at hS;generalize nd 16=v16 at *;obtain⟨ya,yc,rfl⟩:=hS.rowVal;go_wp2_with(first|go_big_skip|refine zl1 hS ?_|(with_reducible apply Ae7 hS);rfl;rfl;rfl;rfl;exact esS;exact rsS;rfl;decide;exact i6;exact .inl ⟨rfl,rfl,rfl⟩;(focus(rfl));exact rfl;(focus(unfold maxLen;omega));(focus(omega));clear hS;intro v w hS;(have hv:=hS.rowVal;obtain⟨va,vc,rfl⟩:=hv);refine frS ?_|refine zs1 hS ?_;clear hS;intro w hS);go_roundw
      case rel=>
       refine⟨i+1,.slice va 1 vc,rfl,hin,?_⟩;rw[Hst.out];have hS1:St W (xrP (.slice va 1 vc) [(xk,(vb,V))]::_) _:=hS;exact hS1.s (xeB xb (.slice va 1 vc) v2 v3 v4::xrP (.slice va 1 vc) [(xk,(vb,V))]::xsP _ d.ss::xtP _ d.ts::xmP _ d.ar::xeB ob _ _ _ _::xrP _ S::xsP _ o.ss::xtP _ o.ts::xmP _ o.ar::l6 D::l6 S::R)
      case measure=>simp[intOf];omega
     ·skip
      refine rf2 tB52a (fun i=>i==0||i==7||i==15||i==16) [⟨some 0,some 7,fun nd=>row (nd 0) 2 137 0 []⟩,⟨some 7,some 16,fun nd=>row (nd 7) 2 137 (0+p) ([]++(DI.take p).flatMap rwC)⟩,⟨some 15,none,fun nd=>G6 (nd 15) 1 1 [.string xk,.P vb] 137⟩,⟨some 16,none,fun nd=>row (nd 16) 2 137 (0+p+1) ([]++(DI.take p).flatMap rwC++[.string xk,.P vb])⟩] [none,none,none,none] hS ?_;clear hS;intro nd;apply Bl7;rfl;rfl;rfl;(focus(simp only[fD,fI,fJ,Act.eval,fE,fF,fG,fH,fK];try rfl));(exact esS);(exact rsS);rfl;rfl;rfl;rfl;rfl;decide;(intro _;rfl);rfl;(intro _;rfl);(refine frS ?_);refine cR ?_;refine zcn ?_;refine cR ?_;refine zc1 ?_
      iterate 2 (refine cR ?_)
      (apply Af7;rfl;rfl;rfl;(focus((conv=>lhs;whnf);try rfl));(focus((conv=>lhs;whnf);try rfl));exact esS;exact rsS;rfl;decide;rfl;intro F w hS;exact(Src.partM (by exact r6) (B5 DI (p))).at hS;(focus(rw[Ab7 AE7,jT,Nat.min_eq_left (by omega)]));(focus(exact ET7 _));(focus(unfold maxLen;omega));(focus(omega));intro _;rfl;intro _;rfl;refine frS ?_);refine cR ?_;refine zcn ?_;refine cR ?_;refine zc1 ?_
      iterate 2 (refine cR ?_)
      (refine zcN ?_ (hc:=by(intro F;exact hcx (by exact r6))));apply M9;rfl;rfl;rfl;(focus(simp only[fD,fI,fJ,Act.eval,fE,fF,fG,fH,fK];try rfl));(exact esS);(exact rsS);rfl;rfl;rfl;rfl;(intro _;rfl);rfl;(intro _;rfl);(refine frS ?_);apply Af7;rfl;rfl;rfl;(focus((conv=>lhs;whnf);try rfl));(focus((conv=>lhs;whnf);try rfl));(exact esS);(exact rsS);rfl;decide;rfl;(intro F w hS;exact AD7 hS (by exact r6));(focus(try rfl));rfl;(focus(unfold maxLen;omega));(focus(omega));(intro _;rfl);(intro _;rfl);(refine frS ?_);refine cR ?_;refine Ad7 ?_;intro w hS;have hS2:St W [G6 (nd 15) _ _ _ _,row (nd 16) 2 _ _ _,xeB xb _ _ _ _,xrP _ _,xeB ob _ _ _ _,xrP _ S,sats (xsP v2 d.ss::xtP v3 d.ts::xmP v4 d.ar::xsP (.slice b2 o.ss.length e2) o.ss::xtP (.slice b3 o.ts.length e3) o.ts::xmP (.slice b4 o.ar.length e4) o.ar::l6 D::l6 S::R)] w:=hS;clear hS;have hS:=hS2.drop.unpack [_,_,_,_,_];clear hS2;simp only[jK,jN]at hS;generalize nd 16=v16 at *;obtain⟨ya,yc,rfl⟩:=hS.rowVal;go_wp2_with(first|go_big_skip|refine zl1 hS ?_|(with_reducible apply Ae7 hS);rfl;rfl;rfl;rfl;exact esS;exact rsS;rfl;decide;exact i6;exact Src.behindM (by exact bd4) (fun h=>⟨by omega,by rw[List.drop_eq_nil_of_le (by omega)];rfl⟩) (fun j u h=>B7 AE7 DI (p) j u (by omega) h);(focus(rw[Ab7 AE7,List.length_drop]));exact ET7 _;(focus(unfold maxLen;omega));(focus(omega));clear hS;intro v w hS;(have hv:=hS.rowVal;obtain⟨va,vc,rfl⟩:=hv);refine frS ?_|(with_reducible apply Ae7 hS);rfl;rfl;rfl;rfl;exact esS;exact rsS;rfl;decide;exact i6;exact Src.partM (by exact bd4) (fun j u h=>B7 AE7 DI (p) j u (by omega) h);(focus(rw[Ab7 AE7,List.length_drop]));exact ET7 _;(focus(unfold maxLen;omega));(focus(omega));clear hS;intro v w hS;(have hv:=hS.rowVal;obtain⟨va,vc,rfl⟩:=hv);refine frS ?_|refine zs1 hS ?_;clear hS;intro w hS)
      all_goals
       go_roundw
       case rel=>
        refine⟨i+1,.slice va (0+p+1+(DI.length-p)) vc,rfl,hin,?_⟩;rw[Hst.out];unfold xrP;rw[Bj7 DI p p _ hpl,AW7];have hS1:St W (row (.slice va (0+p+1+(DI.length-p)) vc) 2 137 (0+p+1+(DI.length-p)) ([]++(DI.take p).flatMap rwC++rwC (xk,(vb,V))++(DI.drop p).flatMap rwC)::_) _:=hS;exact hS1.s _
       case measure=>simp[intOf];omega
    have hd3:decide (i<S.length)=false:=decide_eq_false hin;have hie:i=S.length:=by omega
    rw[hie,List.take_length]at hS;clear hin hi hie;have hDS:=EX7 S D;generalize hDJ:ae4 D S=DJ at hS hDS;have HDJ:=jH hDJ;clear hDJ;go_wp2_with(first|go_big_skip|refine zl1 hS ?_)
    go_loopw [13] (fun v wr=>JtR W (xrP v1 DJ::xsP v2 d.ss::xmP v4 d.ar::xeB ob (.slice b1 S.length e1) (.slice b2 o.ss.length e2) (.slice b3 o.ts.length e3) (.slice b4 o.ar.length e4)::xrP (.slice b1 S.length e1) S::xsP (.slice b2 o.ss.length e2) o.ss::xtP (.slice b3 o.ts.length e3) o.ts::xmP (.slice b4 o.ar.length e4) o.ar::l6 D::l6 S::R) xb v1 v2 v4 d.ts o.ts v wr) (fun v _=>o.ts.length-(intOf v).toNat)
    case atStart=>exact⟨0,v3,rfl,Nat.zero_le _,hS.s (xeB xb _ _ _ _::xtP _ d.ts::xrP _ DJ::xsP _ d.ss::xmP _ d.ar::xeB ob _ _ _ _::xrP _ S::xsP _ o.ss::xtP _ o.ts::xmP _ o.ar::l6 D::l6 S::R)⟩
    case round=>
     clear hS;obtain⟨i,v3,rfl,hi,hS⟩:=hrel;by_cases hin:i<o.ts.length
     case pos=>
      have hd4:decide (i<o.ts.length)=true:=decide_eq_true hin;obtain⟨⟨g,rfl⟩,_,_⟩:=St.rowAddr hS.drop.drop.drop.drop.drop.drop.drop.drop (by omega);have hcx:∀{K K':List HP},Take K (xtP (.S g o.ts.length e3) o.ts) K'->i5 K g (i*8) (tnC o.ts[i]):=fun hu=>i5.elemM (enc:=tnC) AH7 hu hin
      have hst:aw4 d.ts (o.ts.take (i+1))=cy4 (aw4 d.ts (o.ts.take i)) o.ts[i].1 o.ts[i].2:=Ew7 (fun l (x:(Int×Int)×Tns)=>cy4 l x.1 x.2) d.ts o.ts hin;have hl:=(Ce7 (o.ts.take i) d.ts).length_eq;have htk:=Jw7 (S:=o.ts.take i) (D:=d.ts) (fun x hx=>Hko.out x (List.mem_of_mem_take hx)) Hk.out;have hkx:=Hko.out _ (jW hin);rw[jA,jT]at hl;generalize aw4 d.ts (o.ts.take i)=TI at hS hst hl htk;generalize o.ts[i]=x at hcx hst hkx;obtain⟨xk,⟨t0,t1,t2,t3,t4,t5,t6,t7⟩⟩:=x;simp only at hkx;subst hkx;simp only[tnC,Tns.cells]at hcx;have hl6:TI.length<=1000000:=by omega
      have Hst:=jH hst;have Htk:=jH htk;clear hst htk hl hi;go_wp2_with(first|go_big_skip|refine zlN hS ?_ (hc:=by exact hcx (by exact i6))|refine zl1 hS ?_|go_at_call 81;refine(fr4 TI Htk.out hl6 ⟨t0,t1,t2,t3,t4,t5,t6,t7⟩ xb v1 v2 v3 v4 W _ _ (hS.s (xeB xb _ _ _ _::xtP v3 TI::xrP _ DJ::xsP _ d.ss::xmP _ d.ar::xeB ob _ _ _ _::xrP _ S::xsP _ o.ss::xtP _ o.ts::xmP _ o.ar::l6 D::l6 S::R))).mono ?_;clear hS;rintro ex w ⟨rfl,v9,hS⟩);go_roundw
      case rel=>
       refine⟨i+1,v9,rfl,hin,?_⟩;rw[Hst.out];exact hS
      case measure=>simp[intOf];omega
     have hd4:decide (i<o.ts.length)=false:=decide_eq_false hin;have hie:i=o.ts.length:=by omega
     rw[hie,List.take_length]at hS;clear hin hi hie;go_wp2_with(first|go_big_skip|refine zl1 hS ?_)
     go_loopw [14] (fun v wr=>JmR W (xtP v3 (aw4 d.ts o.ts)::xrP v1 DJ::xsP v2 d.ss::xeB ob (.slice b1 S.length e1) (.slice b2 o.ss.length e2) (.slice b3 o.ts.length e3) (.slice b4 o.ar.length e4)::xrP (.slice b1 S.length e1) S::xsP (.slice b2 o.ss.length e2) o.ss::xtP (.slice b3 o.ts.length e3) o.ts::xmP (.slice b4 o.ar.length e4) o.ar::l6 D::l6 S::R) xb v1 v2 v3 d.ar o.ar v wr) (fun v _=>o.ar.length-(intOf v).toNat)
     case atStart=>exact⟨0,v4,rfl,Nat.zero_le _,hS.s (xeB xb _ _ _ _::xmP _ d.ar::xtP v3 (aw4 d.ts o.ts)::xrP _ DJ::xsP _ d.ss::xeB ob _ _ _ _::xrP _ S::xsP _ o.ss::xtP _ o.ts::xmP _ o.ar::l6 D::l6 S::R)⟩
     case round=>
      clear hS;obtain⟨i,v4,rfl,hi,hS⟩:=hrel;by_cases hin:i<o.ar.length
      case pos=>
       have hd5:decide (i<o.ar.length)=true:=decide_eq_true hin;obtain⟨⟨g,rfl⟩,_,_⟩:=St.rowAddr hS.drop.drop.drop.drop.drop.drop.drop.drop.drop (by omega);have hca:∀{K K':List HP},Take K (xmP (.S g o.ar.length e4) o.ar) K'->i8 K g (i*2) (.I o.ar[i].1.1):=fun hu=>i5.elemM (enc:=mkC) Bu7 hu hin 0 _ rfl
       have hcb:∀{K K':List HP},Take K (xmP (.S g o.ar.length e4) o.ar) K'->i8 K g (i*2+1) (.I o.ar[i].1.2):=fun hu=>i5.elemM (enc:=mkC) Bu7 hu hin 1 _ rfl
       have hst:N8 d.ar (o.ar.take (i+1))=af4 (N8 d.ar (o.ar.take i)) o.ar[i]:=Ew7 af4 d.ar o.ar hin;have hl:=Hi7 (o.ar.take i) d.ar;rw[jT]at hl;generalize N8 d.ar (o.ar.take i)=AI at hS hst hl;generalize o.ar[i]=x at hca hcb hst;obtain⟨⟨c,q⟩,un⟩:=x;simp only at hca hcb;have hl6:AI.length<=1000000:=by omega
       cases hb:(i9 AI (c,q)).isSome with
       | true=>
        have hst2:N8 d.ar (o.ar.take (i+1))=AI:=by rw[hst,af4,if_pos hb]
        have Hst:=jH hst2;have Hb:=jH hb;clear hst hst2 hb hl hi;go_wp2_with(first|go_big_skip|refine zl1 hS ?_);refine rt 17 hS ?_
        repeat(first|go_big_quiet_skip|apply Aj7;rfl;rfl;rfl;decide +kernel;exact hca (by exact i6);refine frS ?_|apply Aj7;rfl;rfl;rfl;decide +kernel;exact hcb (by exact i6);refine frS ?_|refine zqN ?_|refine zq1 ?_|refine zqn ?_|refine qR ?_)
        clear hS;intro w hS;simp only[jD,List.drop_zero];go_wp2_with fail;refine(BS7 AI c q Hb.out xb v1 v2 v3 v4 W _ _ hS).mono ?_;clear hS;rintro ex w ⟨rfl,hS⟩;go_wp2_with(first|go_big_skip);go_roundw
        case rel=>
         refine⟨i+1,v4,rfl,hin,?_⟩;rw[Hst.out];exact hS
        case measure=>simp[intOf];omega
       | false=>
        have hst2:N8 d.ar (o.ar.take (i+1))=AI.take (plI ltW AI (c,q))++((c,q),())::AI.drop (plI ltW AI (c,q)):=by rw[hst,af4,if_neg (by rw[hb];simp)];rfl
        have Hst:=jH hst2;have Hb:=jH hb;clear hst hst2 hb hl hi;go_wp2_with(first|go_big_skip|refine zl1 hS ?_);refine rt 17 hS ?_
        repeat(first|go_big_quiet_skip|apply Aj7;rfl;rfl;rfl;decide +kernel;exact hca (by exact i6);refine frS ?_|apply Aj7;rfl;rfl;rfl;decide +kernel;exact hcb (by exact i6);refine frS ?_|refine zqN ?_|refine zq1 ?_|refine zqn ?_|refine qR ?_)
        clear hS;intro w hS;simp only[jD,List.drop_zero];go_wp2_with fail;refine(BS7 AI c q Hb.out xb v1 v2 v3 v4 W _ _ hS).mono ?_;clear hS;rintro ex w ⟨rfl,hS⟩;go_wp2_with(first|go_big_skip);refine rt 17 hS ?_
        repeat(first|go_big_quiet_skip|apply Aj7;rfl;rfl;rfl;decide +kernel;exact hca (by exact i6);refine frS ?_|apply Aj7;rfl;rfl;rfl;decide +kernel;exact hcb (by exact i6);refine frS ?_|refine zqN ?_|refine zq1 ?_|refine zqn ?_|refine qR ?_)
        clear hS;intro w hS;simp only[jD,List.drop_zero];go_wp2_with fail;refine(fq4 AI hl6 c q xb v1 v2 v3 v4 W _ _ hS).mono ?_;clear hS;rintro ex w ⟨rfl,v9,hS⟩;go_wp2_with(first|go_big_skip);go_roundw
        case rel=>
         refine⟨i+1,v9,rfl,hin,?_⟩;rw[Hst.out];exact hS
        case measure=>simp[intOf];omega
      have hd5:decide (i<o.ar.length)=false:=decide_eq_false hin;have hie:i=o.ar.length:=by omega
      rw[hie,List.take_length]at hS;clear hin hi hie;go_wp2_with(first|go_big_skip|refine zl1 hS ?_)
      go_loopw [15] (fun v wr=>hH4 W (xmP v4 (N8 d.ar o.ar)::xtP v3 (aw4 d.ts o.ts)::xrP v1 DJ::xeB ob (.slice b1 S.length e1) (.slice b2 o.ss.length e2) (.slice b3 o.ts.length e3) (.slice b4 o.ar.length e4)::xrP (.slice b1 S.length e1) S::xsP (.slice b2 o.ss.length e2) o.ss::xtP (.slice b3 o.ts.length e3) o.ts::xmP (.slice b4 o.ar.length e4) o.ar::l6 D::l6 S::R) xb v1 v3 v4 d.ss o.ss v wr) (fun v _=>o.ss.length-(intOf v).toNat)
      case atStart=>exact⟨0,v2,rfl,Nat.zero_le _,hS.s (xeB xb _ _ _ _::xsP _ d.ss::xmP v4 (N8 d.ar o.ar)::xtP v3 (aw4 d.ts o.ts)::xrP _ DJ::xeB ob _ _ _ _::xrP _ S::xsP _ o.ss::xtP _ o.ts::xmP _ o.ar::l6 D::l6 S::R)⟩
      case round=>
       clear hS;obtain⟨i,v2,rfl,hi,hS⟩:=hrel;by_cases hin:i<o.ss.length
       case pos=>
        have hd6:decide (i<o.ss.length)=true:=decide_eq_true hin;obtain⟨⟨g,rfl⟩,_,_⟩:=St.rowAddr hS.drop.drop.drop.drop.drop.drop.drop (by omega);have hca:∀{K K':List HP},Take K (xsP (.S g o.ss.length e2) o.ss) K'->i8 K g (i*8) (.I o.ss[i].1):=fun hu=>i5.elemM (enc:=seC) AC7 hu hin 0 _ rfl
        have hcb:∀{K K':List HP},Take K (xsP (.S g o.ss.length e2) o.ss) K'->i8 K g (i*8+1) (.I o.ss[i].2.1):=fun hu=>i5.elemM (enc:=seC) AC7 hu hin 1 _ rfl
        have hcr:∀{K K':List HP},Take K (xsP (.S g o.ss.length e2) o.ss) K'->i5 K g (i*8+2) [.I o.ss[i].2.2.err,.I o.ss[i].2.2.id,.I o.ss[i].2.2.has.x0,.I o.ss[i].2.2.has.x1,.I o.ss[i].2.2.has.x2,.I o.ss[i].2.2.has.x3]:=fun hu j v hj=>by have h1:=i5.elemM (enc:=seC) AC7 hu hin (2+j) v (by rw[Nat.add_comm];exact hj);rwa [<-Nat.add_assoc]at h1
        have hst:ag4 d.ss (o.ss.take (i+1))=O9 (ag4 d.ss (o.ss.take i)) o.ss[i]:=Ew7 O9 d.ss o.ss hin;have hl:=Hj7 (o.ss.take i) d.ss;rw[jT]at hl;generalize ag4 d.ss (o.ss.take i)=RI at hS hst hl;generalize o.ss[i]=x at hca hcb hcr hst;obtain⟨c,q,⟨r0,r1,⟨r2,r3,r4,r5⟩⟩⟩:=x;simp only at hca hcb hcr;have hl6:RI.length<=1000000:=by omega
        obtain⟨s,hs⟩:∃s,sqL RI c=s:=⟨_,rfl⟩
        have Hs:=jH hs;by_cases hb:s<q
        ·have hq:decide (s<q)=true:=decide_eq_true hb;have hst2:ag4 d.ss (o.ss.take (i+1))=plS ltI RI c (q,⟨r0,r1,⟨r2,r3,r4,r5⟩⟩):=by rw[hst,O9,if_pos (by show sqL RI c<q;rw[hs];exact hb)]
         have Hst:=jH hst2;clear hst hst2 hb hl hi hs;go_wp2_with(first|go_big_skip|refine zl1 hS ?_);refine Aa7 (by kernel_rfl) (by kernel_rfl) hS ?_
         repeat(first|go_big_quiet_skip|refine zq1 ?_|apply Aj7;rfl;rfl;rfl;decide +kernel;exact hca (by exact i6);refine frS ?_|apply Aj7;rfl;rfl;rfl;decide +kernel;exact hcb (by exact i6);refine frS ?_|refine zqn ?_|apply Ar7;rfl;intro w;apply Ag7;rfl;decide +kernel;(focus(simp only[fD,fI,fJ,Act.eval,fE,fF,fG,fH,fK];try rfl));intro w hS;exact Jt7 RI c Hs.out xb v1 v2 v3 v4 W w _ hS;refine frS ?_|refine qR ?_)
         clear hS;intro w hS;go_wp2_with(first|go_big_skip);refine rt 25 hS ?_
         repeat(first|go_big_quiet_skip|apply Aj7;rfl;rfl;rfl;decide +kernel;exact hca (by exact i6);refine frS ?_|apply Aj7;rfl;rfl;rfl;decide +kernel;exact hcb (by exact i6);refine frS ?_|apply KB7;rfl;rfl;rfl;decide +kernel;exact hcr (by exact i6);kernel_rfl;refine frS ?_|refine zqN ?_|refine zq1 ?_|refine zqn ?_|refine qR ?_)
         clear hS;intro w hS;simp only[jD,List.drop_zero];go_wp2_with fail;refine(dl4 RI hl6 c q ⟨r0,r1,⟨r2,r3,r4,r5⟩⟩ xb v1 v2 v3 v4 W _ _ hS).mono ?_;clear hS;rintro ex w ⟨rfl,v9,hS⟩;go_wp2_with(first|go_big_skip);go_roundw
         case rel=>
          refine⟨i+1,v9,rfl,hin,?_⟩;rw[Hst.out];exact hS
         case measure=>simp[intOf];omega
        ·have hq:decide (s<q)=false:=decide_eq_false hb;have hst2:ag4 d.ss (o.ss.take (i+1))=RI:=by rw[hst,O9,if_neg (by show ¬sqL RI c<q;rw[hs];exact hb)]
         have Hst:=jH hst2;clear hst hst2 hb hl hi hs;go_wp2_with(first|go_big_skip|refine zl1 hS ?_);refine Aa7 (by kernel_rfl) (by kernel_rfl) hS ?_
         repeat(first|go_big_quiet_skip|refine zq1 ?_|apply Aj7;rfl;rfl;rfl;decide +kernel;exact hca (by exact i6);refine frS ?_|apply Aj7;rfl;rfl;rfl;decide +kernel;exact hcb (by exact i6);refine frS ?_|refine zqn ?_|apply Ar7;rfl;intro w;apply Ag7;rfl;decide +kernel;(focus(simp only[fD,fI,fJ,Act.eval,fE,fF,fG,fH,fK];try rfl));intro w hS;exact Jt7 RI c Hs.out xb v1 v2 v3 v4 W w _ hS;refine frS ?_|refine qR ?_)
         clear hS;intro w hS;go_wp2_with(first|go_big_skip);go_roundw
         case rel=>
          refine⟨i+1,v2,rfl,hin,?_⟩;rw[Hst.out];exact hS
         case measure=>simp[intOf];omega
       have hd6:decide (i<o.ss.length)=false:=decide_eq_false hin;have hie:i=o.ss.length:=by omega
       rw[hie,List.take_length]at hS;clear hin hi hie;go_wp2_with(first|go_big_skip|refine zl1 hS ?_);go_ret;have h1:=dY4 (CQ7 S D).symm (fe4 (hS.s (l6 S::l6 D::xeB xb _ _ _ _::xsP v2 (ag4 d.ss o.ss)::xmP v4 (N8 d.ar o.ar)::xtP v3 (aw4 d.ts o.ts)::xrP _ DJ::R)));rw[HDJ.out]at h1;have h2:St W (bU4 xb v1 v2 v3 v4 DJ (dc4 d o) R) _:=h1.s (xeB xb _ _ _ _::xrP _ DJ::l6 DJ::xsP v2 (ag4 d.ss o.ss)::xtP v3 (aw4 d.ts o.ts)::xmP v4 (N8 d.ar o.ar)::R);have hv:k8 DJ=(dc4 d o).vs:=by rw[<-HDJ.out,Fh7,Hd.out,Ho.out];rfl
       exact .inr ⟨Hc.out,rfl,J5 hv h2⟩
end Go.Proofs.YtlmhakmoioogaaaGreat
end
