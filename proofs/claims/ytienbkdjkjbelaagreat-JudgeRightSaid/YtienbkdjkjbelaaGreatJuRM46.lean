/-
  Answers that were heard.
-/
import Derived.Test.YtienbkdjkjbelaaGreatJuRM5
import Derived.Test.YtienbkdjkjbelaaGreatJuRM29
import Derived.Test.YtienbkdjkjbelaaGreatJuRM39
import Derived.Test.YtienbkdjkjbelaaGreatJuRM45
set_option maxHeartbeats 16000000
set_option maxRecDepth 100000
set_option linter.unusedSimpArgs false
set_option linter.unusedVariables false
section
namespace Go.Proofs.YtienbkdjkjbelaaGreat
open Go.RowKit Go.Sl
def Ans.cells(a:Ans):List Value:=a.op.cells++a.rep.cells
theorem Ans.len(a:Ans):a.cells.length=18:=rfl
abbrev eO(o:Opn):Value:=.agg o.cells.toArray
abbrev eRp(r:Rpl):Value:=.agg r.cells.toArray
theorem dl4(e:Bool)(k u:ByteArray)(d:Nat)(w:World):(Instr.checkKey e (d+2) 29 (.agg #[.string k,.string u])).run Tryz.prog w=.ok () w:=by
 have u9:=Tryz.underlying9;have a9:=Tryz.isAgg9;have z9:=Tryz.sizeOf9;have h1:∀(d:Nat) (x:ByteArray),(Instr.checkKey e (d+1) 9 (.string x)).run Tryz.prog w=.ok () w:=fun d x=>by rw[Instr.checkKey];simp[run_underlying u9]
 rw[Instr.checkKey];simp only[Sem.run_bind,run_underlying Tryz.underlying29,Result.andThen_ok];rw[<-Array.forIn_toList];simp only[List.forIn_cons,List.forIn_nil]
 go_simp
theorem ej4(e:Bool)(o:Opn)(w:World):(Instr.checkKey e 10000 31 (eO o)).run Tryz.prog w=.ok () w:=by
 have u9:=Tryz.underlying9;have a9:=Tryz.isAgg9;have z9:=Tryz.sizeOf9;have u3:=Tryz.underlying3;have a3:=Tryz.isAgg3;have z3:=Tryz.sizeOf3;have u4:=Tryz.underlying4;have a4:=Tryz.isAgg4;have z4:=Tryz.sizeOf4;have u5:=Tryz.underlying29;have a5:=Tryz.isAgg29;have z5:=Tryz.sizeOf29;have h1:∀(d:Nat) (x:Int),(Instr.checkKey e (d+1) 3 (.I x)).run Tryz.prog w=.ok () w:=fun d x=>by rw[Instr.checkKey];simp[run_underlying u3]
 have h2:∀(d:Nat) (x:Bool),(Instr.checkKey e (d+1) 4 (.bool x)).run Tryz.prog w=.ok () w:=fun d x=>by rw[Instr.checkKey];simp[run_underlying u4]
 have hp:=fun k u=>dl4 e k u 9997 w
 have h:∀d:Nat,d=9998->(Instr.checkKey e (d+2) 31 (eO o)).run Tryz.prog w=.ok () w:=fun d hd=>by
  obtain⟨o0,o1,o2,o3,o4,o5,o6,o7,o8,o9,o10,o11⟩:=o;unfold eO Opn.cells;dsimp only;subst hd;rw[Instr.checkKey];simp only[Sem.run_bind,run_underlying Tryz.underlying31,Result.andThen_ok];rw[<-Array.forIn_toList];simp only[List.forIn_cons,List.forIn_nil]
  go_simp
 exact h 9998 rfl
theorem kO:KeyOk Tryz.prog 31 eO:=KeyOk.deep Tryz.underlying31 (fun _ _=>rfl) ej4 (fun a b w=>by rw[<-NU7];exact dH4 a b w) (fun k=>by
  have hb:∀b:ByteArray,(b==b)=true:=fun b=>by first|exact beq_self_eq_true b|(rcases b with ⟨d⟩;exact beq_self_eq_true d)|(rcases b with ⟨d⟩;show(d==d)=true;simp)
  simp[Instr.sameBits,Opn.cells,hb])
theorem mO:F6 Tryz.prog 78=some (31,36):=by kernel_rfl
theorem zO:C7 Tryz.prog 36=some (eRp rp0):=by kernel_rfl
theorem Lk7{α:Type}{xss:List (List α)}{k:Nat}(h:k<xss.length):(xss.take (k+1)).flatten=(xss.take k).flatten++xss[k]:=by rw[List.take_succ_eq_append_getElem h,List.flatten_append];simp
theorem ID7{α:Type}{xss:List (List α)}{k:Nat}(h:k<xss.length):xss.flatten=(xss.take k).flatten++(xss[k]++(xss.drop (k+1)).flatten):=by
 conv=>lhs;rw[<-List.take_append_drop k xss]
 rw[List.flatten_append,List.drop_eq_getElem_cons h,List.flatten_cons]
theorem Jn7{ok:Ans->Bool}{xss:List (List Ans)}{k m:Nat}(hk:k<xss.length)(hm:m<xss[k].length)(h1:∀a∈(xss.take k).flatten,ok a=true)(h2:∀a∈xss[k].take m,ok a=true)(h3:ok xss[k][m]=false):D9 ok xss.flatten 0=(((xss.take k).flatten.length+m:Nat):Int):=by
 have e:xss.flatten=((xss.take k).flatten++xss[k].take m)++(xss[k][m]::(xss[k].drop (m+1)++(xss.drop (k+1)).flatten)):=by
  rw[ID7 hk,jS]
  congr 1
  rw[<-jK,<-jS,<-List.drop_eq_getElem_cons hm,List.take_append_drop]
 rw[e,Cx7 _ _ _ _ fun a ha=>by
  rcases List.mem_append.1 ha with h|h
  ·exact h1 a h
  ·exact h2 a h,D9,if_neg (by rw[h3];exact Bool.false_ne_true),jA,jT,Nat.min_eq_left (by omega)]
 simp
theorem NW7{ok:Ans->Bool}{l:List Ans}{m:Nat}(hm:m<l.length)(h:∀a∈l.take m,ok a=true)(h1:ok l[m]=true):∀a∈l.take (m+1),ok a=true:=fun a ha=>by
 rw[List.take_succ_eq_append_getElem hm]at ha
 rcases List.mem_append.1 ha with h2|h2
 ·exact h a h2
 ·rw[List.mem_singleton]at h2;subst h2;exact h1
def OkJ(ok:Ans->Bool)(xss:List (List Ans))(k:Nat)(c:Nat):Prop:=c=(xss.take k).flatten.length/\∀a∈(xss.take k).flatten,ok a=true
theorem NX7{ok:Ans->Bool}{xss:List (List Ans)}{k c:Nat}{l:List Ans}(h:OkJ ok xss k c)(hl:xss[k]? = some l)(h1:∀a∈l.take l.length,ok a=true):OkJ ok xss (k+1) (c+l.length):=by
 obtain⟨hk,rfl⟩:=List.getElem?_eq_some_iff.1 hl;obtain⟨h2,h3⟩:=h;refine⟨by rw[Lk7 hk,jA];omega,fun a ha=>?_⟩;rw[Lk7 hk]at ha
 rcases List.mem_append.1 ha with h4|h4
 ·exact h3 a h4
 ·exact h1 a (by rw[List.take_length];exact h4)
theorem Ll7{ok:Ans->Bool}{xss:List (List Ans)}{k c m:Nat}{l:List Ans}(h:OkJ ok xss k c)(hl:xss[k]? = some l)(hm:m<l.length)(h2:∀a∈l.take m,ok a=true)(h3:ok l[m]=false):D9 ok xss.flatten 0=((c+m:Nat):Int):=by obtain⟨hk,rfl⟩:=List.getElem?_eq_some_iff.1 hl;rw[h.1];exact Jn7 hk hm h.2 h2 h3
theorem ek4{a b:Int}(h:a=b):Ending.returned (.I a)=Ending.returned (.I b):=by rw[h]
theorem ML7{ok:Ans->Bool}{xss:List (List Ans)}{c:Nat}(h:OkJ ok xss xss.length c):D9 ok xss.flatten 0 = -1:=by have h2:=h.2;rw[List.take_length]at h2;exact Fo7 h2 0
theorem NY7{ok:Ans->Bool}{xss:List (List Ans)}{k c:Nat}{l:List Ans}(h:OkJ ok xss k c)(hl:xss[k]? = some l):c+l.length<=xss.flatten.length:=by obtain⟨hk,rfl⟩:=List.getElem?_eq_some_iff.1 hl;rw[h.1,ID7 hk,jA,jA];omega
def WmR(W:World)(L:List HP)(mb:Nat)(xs:List Opn)(v:Value)(w:World):Prop:=
 ∃i:Nat,v=.I i/\i<=xs.length/\St W (d9 eO eRp mb (by4 xs i)::L) w
def WoR(W:World)(L:List HP)(ok:Ans->Bool)(xss:List (List Ans))(v1 v2:Value)(w:World):Prop:=
 ∃k c:Nat,v1=.I c/\v2=.I k/\k<=xss.length/\OkJ ok xss k c/\St W L w
def WiR(W:World)(L:List HP)(ok:Ans->Bool)(l:List Ans)(c:Nat)(v1 v2:Value)(w:World):Prop:=
 ∃m:Nat,v1=.I ((c+m:Nat):Int)/\v2=.I m/\m<=l.length/\(∀a∈l.take m,ok a=true)/\St W L w
theorem HP7{evs:List Evn}{xs:List Opn}(hx:evs.map (·.op)=xs)(hlen:xs.length<=150)(v u:Value)(V:World)(hv:C9 Evn.cells 14 V v evs){xss:List (List Ans)}(hu:bu4 Ans.cells 18 V u xss)(htot:xss.flatten.length<=1000000)(W w:World)(Lr:List HP)(hS:St W (Old V::Lr) w):
  Calls Tryz.prog 9 #[v,u] w fun e w'=>e=.returned (.I (D9 (okA xs (l9 xs ec0)) xss.flatten 0))/\St W (Old V::Lr) w':=by
 have Hv:=jH hv;obtain⟨a,cap,rfl,hact⟩:=hv.evn;have hl0:evs.length=xs.length:=by rw[<-hx,jM]
 have Ha:=jH hact;have Hx:=jH hx;rw[hl0]at Hv ⊢;have Hl:=jH hl0;obtain⟨ps,rfl,⟨ua,ucap,rfl,hu63,huc⟩,hpu⟩:=hu;have Huc:=jH huc;have Hpu:=jH hpu;have hpl:(ps.map (·.2)).length=ps.length:=jM ..;have Hpl:=jH hpl;clear hact hv hx hl0 huc hpu hpl;go_enter Tryz.func9,Tryz.ntmps9;go_wp2_with(first|go_big_skip|go_at_call 21;refine(HM7 Hx.out hlen _ V Hv.out W _ _ hS).mono ?_;clear hS;rintro e w ⟨vr,eb,rfl,hS⟩;obtain⟨na,nc,rfl⟩:=hS.rowVal;simp only[AE7]at hS ⊢|(with_reducible apply Cm7 (t:=78) eO eRp hS);rfl;rfl;clear hS;intro mb w hS;refine frS ?_)
 go_loopw [27] (fun v1 wr=>WmR W (ba4 (.slice na xs.length nc) (l9 xs ec0)::Old V::Lr) mb xs v1 wr) (fun v1 _=>xs.length-(intOf v1).toNat)
 case atStart=>exact⟨0,rfl,Nat.zero_le _,hS.s (d9 eO eRp mb []::ba4 _ (l9 xs ec0)::Old V::Lr)⟩
 case round=>
  clear hS;obtain⟨i,rfl,hi,hS⟩:=hrel;by_cases hil:i<xs.length
  ·have hd1:decide (i<xs.length)=true:=decide_eq_true hil;obtain⟨pb,poff,rfl,hall⟩:=Ha.out i (by rw[Hl.out];exact hil);obtain⟨_,hop⟩:=EP7 Hx.out (i:=i) (by rw[Hl.out];exact hil);have hnx:=MD7 hil;have hrp:=Ds7 xs hil ec0;have hrl:i<(l9 xs ec0).length:=by rw[AE7];exact hil
   have hre:(l9 xs ec0)[i]=(p8 (A8 (xs.take i) ec0) xs[i]).1:=by rw[jG hrl]at hrp;exact Option.some.inj hrp
   obtain⟨⟨g,rfl⟩,_,_⟩:(∃g,na=some ⟨g,0,none⟩)/\nc<=9223372036854775807/\xs.length<=nc:=by have h8:St W (row (.slice na xs.length nc) 6 36 (l9 xs ec0).length ((l9 xs ec0).flatMap Rpl.cells)::_) _:=hS.drop;rw[AE7]at h8;exact St.rowAddr h8 (by omega)
   have hrep0:∀{K K':List HP},Take K (ba4 (.S g xs.length nc) (l9 xs ec0)) K'->d8 K g (i*6) (l9 xs ec0)[i].cells:=fun hu=>by have e9:xs.length=(l9 xs ec0).length:=(AE7 _ _).symm;rw[e9]at hu;exact d8.elemM Rpl.len6 hu hrl
   have hrep:∀{K K':List HP},Take K (ba4 (.S g xs.length nc) (l9 xs ec0)) K'->d8 K g (i*6) (p8 (A8 (xs.take i) ec0) xs[i]).1.cells:=fun hu=>by rw[<-hre];exact hrep0 hu
   clear hre hrp hrl hrep0;generalize by4 xs i=M at hS hnx;generalize (p8 (A8 (xs.take i) ec0) xs[i]).1=r at hnx hrep;rw[<-hop]at hnx;clear hop;generalize evs[i]'(by rw[Hl.out];exact hil)=x at hall hnx;obtain⟨zn,ix,kd,cl,sq,ak,aw,tk,tw,it,ct,pr,bu,id⟩:=x;obtain⟨r0,r1,⟨r2,r3,r4,r5⟩⟩:=r;simp only[Evn.cells,Opn.cells]at hall;simp only[Rpl.cells,It.cells]at hrep;unfold cQ4 at hnx;have Hnx:=jH hnx;clear hnx hi
   cases hg:j5 M (⟨kd,cl,sq,ak,aw,tk,tw,it,ct,pr,bu,id⟩:Opn)with
   | some q=>
    obtain⟨q0,q1,⟨q2,q3,q4,q5⟩⟩:=q;have Hg:=jH hg;clear hg;go_wp2_with(first|go_big_skip|refine zlN hS ?_ (vs:=[.I zn,.I ix,.I kd,.I cl,.I sq,.string ak,.string aw,.string tk,.string tw,.I it,.I ct,.I pr,.bool bu,.I id]) (hc:=by exact d8.old (by exact bC4) hall)|(fail_if_success (have:=gA));(refine zal hS ?_;clear hS;have gA:Nat:=0;intro bA w hS)|(have:=gA);refine zal hS ?_;clear hS;intro bB w hS|(with_reducible apply Dw7 (ek:=eO) (ev:=eRp) (k:=(⟨kd,cl,sq,ak,aw,tk,tw,it,ct,pr,bu,id⟩:Opn)) hS);rfl;rfl;rfl;rfl;exact i7;exact mO;exact kO;exact zO;exact Hg.out;simp only[Act.put,fA,fB,fC,Nat.reduceAdd,eRp,Rpl.cells,It.cells,rp0,it0]|refine zsN hS ?_;clear hS;intro w hS|refine zlN hS ?_ (vs:=[.I kd,.I cl,.I sq,.string ak,.string aw,.string tk,.string tw,.I it,.I ct,.I pr,.bool bu,.I id]) (hc:=by first|exact d8.here rfl|exact d8.there (d8.here rfl)|exact d8.there (d8.there (d8.here rfl)))|refine zlN hS ?_|refine zl1 hS ?_);go_roundw
    case rel=>
     refine⟨i+1,rfl,hil,?_⟩;rw[Hnx.out,if_pos (by rw[Hg.out];rfl)];exact hS.s _
    case measure=>simp[intOf];omega
   | none=>
    have Hg:=jH hg;clear hg;go_wp2_with(first|go_big_skip|refine zlN hS ?_ (vs:=[.I zn,.I ix,.I kd,.I cl,.I sq,.string ak,.string aw,.string tk,.string tw,.I it,.I ct,.I pr,.bool bu,.I id]) (hc:=by exact d8.old (by exact bC4) hall)|(fail_if_success (have:=gA));(refine zal hS ?_;clear hS;have gA:Nat:=0;intro bA w hS)|(have:=gA);refine zal hS ?_;clear hS;intro bB w hS|(with_reducible apply Fd7 (ek:=eO) (ev:=eRp) (k:=(⟨kd,cl,sq,ak,aw,tk,tw,it,ct,pr,bu,id⟩:Opn)) hS);rfl;rfl;rfl;rfl;exact i7;exact mO;exact kO;exact zO;exact Hg.out;simp only[Act.put,fA,fB,fC,Nat.reduceAdd,eRp,Rpl.cells,It.cells,rp0,it0]|refine zsN hS ?_;clear hS;intro w hS|refine zlN hS ?_ (vs:=[.I kd,.I cl,.I sq,.string ak,.string aw,.string tk,.string tw,.I it,.I ct,.I pr,.bool bu,.I id]) (hc:=by first|exact d8.here rfl|exact d8.there (d8.here rfl)|exact d8.there (d8.there (d8.here rfl)))|refine zlN hS ?_|refine zl1 hS ?_);have hS1:=hS.s (d9 eO eRp mb M::blk bA [.I zn,.I ix,.I kd,.I cl,.I sq,.string ak,.string aw,.string tk,.string tw,.I it,.I ct,.I pr,.bool bu,.I id] 76::ba4 (.S g xs.length nc) (l9 xs ec0)::Old V::Lr);clear hS;refine rt 7 hS1 ?_
    repeat(first|go_big_quiet_skip|refine zqN ?_ (vs:=[.I kd,.I cl,.I sq,.string ak,.string aw,.string tk,.string tw,.I it,.I ct,.I pr,.bool bu,.I id]) (hc:=by exact d8.there (d8.here rfl))|refine zqN ?_ (vs:=[.I r0,.I r1,.I r2,.I r3,.I r4,.I r5]) (hc:=by exact hrep (by exact i7))|refine zqn ?_|refine qR ?_)
    clear hS1;intro w hS;simp only[jD,List.drop_zero];go_wp2_with(first|((with_reducible apply Bq7 (ek:=eO) (ev:=eRp) (k:=(⟨kd,cl,sq,ak,aw,tk,tw,it,ct,pr,bu,id⟩:Opn)) (u:=(⟨r0,r1,⟨r2,r3,r4,r5⟩⟩:Rpl)) hS);rfl;rfl;rfl;rfl;exact i7;(focus(rfl));exact mO;exact kO;clear hS;intro w hS;try(refine frS ?_)));go_roundw
    case rel=>
     refine⟨i+1,rfl,hil,?_⟩;rw[Hnx.out,if_neg (by rw[Hg.out];exact Bool.false_ne_true)];exact hS.s _
    case measure=>simp[intOf];omega
  ·have hd1:decide (i<xs.length)=false:=decide_eq_false hil;have hi2:i=xs.length:=by omega
   have hok:∀y:Ans,okA xs (l9 xs ec0) y=(match j5 (by4 xs xs.length) y.op with|some r=>r.eqB y.rep|none=>false):=fun y=>by rw[Lf7];rfl
   rw[hi2]at hS;obtain⟨ok,hokE⟩:∃ok,okA xs (l9 xs ec0)=ok:=⟨_,rfl⟩
   rw[hokE]at hok;have HokE:=jH hokE;generalize by4 xs xs.length=M at hS hok;have Hok:=jH hok;clear hi hi2 hil hok hokE;go_wp2_with(first|go_big_skip)
   go_loopw [12,51] (fun v1 v2 wr=>WoR W (d9 eO eRp mb M::Old V::Lr) ok (ps.map (·.2)) v1 v2 wr) (fun _ v2 _=>ps.length-(intOf v2).toNat)
   case atStart=>exact⟨0,0,rfl,rfl,Nat.zero_le _,⟨rfl,fun a ha=>(by cases ha)⟩,hS.s _⟩
   case round=>
    clear hS;obtain⟨k,c,rfl,rfl,hk,hto,hS⟩:=hrel;by_cases hkl:k<ps.length
    ·have hd2:decide (k<ps.length)=true:=decide_eq_true hkl;obtain⟨ub,uoff,rfl,hcell⟩:=Huc.out k hkl;have hc0:=hcell 0 _ rfl;obtain⟨la,lcap,hlv,hl63,hlc⟩:=Hpu.out ps[k] (jW hkl);have hpk:(ps.map (·.2))[k]? = some ps[k].2:=by rw[List.getElem?_map,jG hkl];rfl
     generalize ps[k].2=l at hlv hlc hpk hl63;have hle:=NY7 hto hpk;have hnext:=NX7 hto hpk;have hstop:=fun m=>Ll7 (m:=m) hto hpk
     rw[hlv]at hc0
     have hc1:V.cell? ⟨ub,uoff+k,none⟩=some (.slice la l.length lcap):=by
      have e:uoff+k*1+0=uoff+k:=by omega
      rw[e]at hc0;exact hc0
     have Hlc:=jH hlc;have Hnext:=jH hnext;have Hstop:=jH hstop;clear hpk hlv hcell hc0 hlc hnext hstop hto hk;have hbig:c+l.length<=1000000:=by omega
     clear hle;go_wp2_with(first|go_big_skip|refine zl1 hS ?_ (hc:=by exact i6.old (by exact bC4) hc1))
     go_loopw [12,57] (fun v1 v2 wr=>WiR W (d9 eO eRp mb M::Old V::Lr) ok l c v1 v2 wr) (fun _ v2 _=>l.length-(intOf v2).toNat)
     case atStart=>exact⟨0,rfl,rfl,Nat.zero_le _,fun a ha=>(by cases ha),hS⟩
     case round=>
      clear hS;obtain⟨m,rfl,rfl,hm,hal,hS⟩:=hrel;by_cases hml:m<l.length
      ·have hd3:decide (m<l.length)=true:=decide_eq_true hml;obtain⟨lb,loff,rfl,hall⟩:=Hlc.out m hml;have hsn:=NW7 hml hal;have hst:=Hstop.out m hml hal;have hoky:=Hok.out l[m];generalize l[m]=y at hall hsn hst hoky;obtain⟨⟨kd,cl,sq,ak,aw,tk,tw,it,ct,pr,bu,id⟩,⟨q0,q1,⟨q2,q3,q4,q5⟩⟩⟩:=y;simp only[Ans.cells,Opn.cells,Rpl.cells,It.cells,jK,jN]at hall;dsimp only at hoky;have Hsn:=jH hsn;have Hst:=jH hst;clear hsn hst hm hal
       cases hg:j5 M (⟨kd,cl,sq,ak,aw,tk,tw,it,ct,pr,bu,id⟩:Opn)with
       | none=>
        rw[hg]at hoky;have Hy:=jH hoky;have Hg:=jH hg;clear hoky hg;go_wp2_with(first|go_big_skip|refine zlN hS ?_ (vs:=[.I kd,.I cl,.I sq,.string ak,.string aw,.string tk,.string tw,.I it,.I ct,.I pr,.bool bu,.I id,.I q0,.I q1,.I q2,.I q3,.I q4,.I q5]) (hc:=by exact d8.old (by exact bC4) hall)|(fail_if_success (have:=gA));(refine zal hS ?_;clear hS;have gA:Nat:=0;intro bA w hS)|(have:=gA);refine zal hS ?_;clear hS;intro bB w hS|(with_reducible apply Fd7 (ek:=eO) (ev:=eRp) (k:=(⟨kd,cl,sq,ak,aw,tk,tw,it,ct,pr,bu,id⟩:Opn)) hS);rfl;rfl;rfl;rfl;exact i7;exact mO;exact kO;exact zO;exact Hg.out;simp only[Act.put,fA,fB,fC,Nat.reduceAdd,eRp,Rpl.cells,It.cells,rp0,it0]|refine zsN hS ?_;clear hS;intro w hS|refine zlN hS ?_ (vs:=[.I kd,.I cl,.I sq,.string ak,.string aw,.string tk,.string tw,.I it,.I ct,.I pr,.bool bu,.I id]) (hc:=by first|exact d8.here rfl|exact d8.there (d8.here rfl)|exact d8.there (d8.there (d8.here rfl)))|refine zlN hS ?_|refine zl1 hS ?_);go_ret;exact⟨ek4 (by rw[HokE.out];exact(Hst.out Hy.out).symm),hS.s _⟩
       | some r=>
        rw[hg]at hoky;obtain⟨r0,r1,⟨r2,r3,r4,r5⟩⟩:=r;have Hg:=jH hg;clear hg
        cases he:Rpl.eqB (⟨r0,r1,⟨r2,r3,r4,r5⟩⟩:Rpl) (⟨q0,q1,⟨q2,q3,q4,q5⟩⟩:Rpl)with
        | false=>
         have Hy:=jH (hoky.trans he);clear hoky;have He:=jH he;clear he;go_wp2_with(first|go_big_skip|refine zlN hS ?_ (vs:=[.I kd,.I cl,.I sq,.string ak,.string aw,.string tk,.string tw,.I it,.I ct,.I pr,.bool bu,.I id,.I q0,.I q1,.I q2,.I q3,.I q4,.I q5]) (hc:=by exact d8.old (by exact bC4) hall)|(fail_if_success (have:=gA));(refine zal hS ?_;clear hS;have gA:Nat:=0;intro bA w hS)|(have:=gA);refine zal hS ?_;clear hS;intro bB w hS|(with_reducible apply Dw7 (ek:=eO) (ev:=eRp) (k:=(⟨kd,cl,sq,ak,aw,tk,tw,it,ct,pr,bu,id⟩:Opn)) hS);rfl;rfl;rfl;rfl;exact i7;exact mO;exact kO;exact zO;exact Hg.out;simp only[Act.put,fA,fB,fC,Nat.reduceAdd,eRp,Rpl.cells,It.cells,rp0,it0]|refine zsN hS ?_;clear hS;intro w hS|(with_reducible apply DP7);rfl;rfl;rfl;rfl;kernel_rfl;exact It7 He.out;simp only[Bool.not_true,Bool.not_false];refine frS ?_|refine zlN hS ?_ (vs:=[.I kd,.I cl,.I sq,.string ak,.string aw,.string tk,.string tw,.I it,.I ct,.I pr,.bool bu,.I id]) (hc:=by first|exact d8.here rfl|exact d8.there (d8.here rfl)|exact d8.there (d8.there (d8.here rfl)))|refine zlN hS ?_|refine zlN hS ?_ (vs:=[.I q0,.I q1,.I q2,.I q3,.I q4,.I q5]) (hc:=by first|exact d8.here rfl|exact d8.there (d8.here rfl)|exact d8.there (d8.there (d8.here rfl)))|refine zl1 hS ?_);go_ret;exact⟨ek4 (by rw[HokE.out];exact(Hst.out Hy.out).symm),hS.s _⟩
        | true=>
         have Hy:=jH (hoky.trans he);clear hoky;have He:=jH he;clear he;go_wp2_with(first|go_big_skip|refine zlN hS ?_ (vs:=[.I kd,.I cl,.I sq,.string ak,.string aw,.string tk,.string tw,.I it,.I ct,.I pr,.bool bu,.I id,.I q0,.I q1,.I q2,.I q3,.I q4,.I q5]) (hc:=by exact d8.old (by exact bC4) hall)|(fail_if_success (have:=gA));(refine zal hS ?_;clear hS;have gA:Nat:=0;intro bA w hS)|(have:=gA);refine zal hS ?_;clear hS;intro bB w hS|(with_reducible apply Dw7 (ek:=eO) (ev:=eRp) (k:=(⟨kd,cl,sq,ak,aw,tk,tw,it,ct,pr,bu,id⟩:Opn)) hS);rfl;rfl;rfl;rfl;exact i7;exact mO;exact kO;exact zO;exact Hg.out;simp only[Act.put,fA,fB,fC,Nat.reduceAdd,eRp,Rpl.cells,It.cells,rp0,it0]|refine zsN hS ?_;clear hS;intro w hS|(with_reducible apply DP7);rfl;rfl;rfl;rfl;kernel_rfl;exact It7 He.out;simp only[Bool.not_true,Bool.not_false];refine frS ?_|refine zlN hS ?_ (vs:=[.I kd,.I cl,.I sq,.string ak,.string aw,.string tk,.string tw,.I it,.I ct,.I pr,.bool bu,.I id]) (hc:=by first|exact d8.here rfl|exact d8.there (d8.here rfl)|exact d8.there (d8.there (d8.here rfl)))|refine zlN hS ?_|refine zlN hS ?_ (vs:=[.I q0,.I q1,.I q2,.I q3,.I q4,.I q5]) (hc:=by first|exact d8.here rfl|exact d8.there (d8.here rfl)|exact d8.there (d8.there (d8.here rfl)))|refine zl1 hS ?_);go_roundw
         case rel=>exact⟨m+1,by go_num,rfl,hml,Hsn.out Hy.out,hS.s _⟩
         case measure=>simp[intOf];omega
      ·have hd3:decide (m<l.length)=false:=decide_eq_false hml;have hm2:m=l.length:=by omega
       rw[hm2]at hal;have Hal:=jH hal;rw[hm2];clear hm hml hm2 hal;go_wp2_with(first|go_big_skip);go_roundw
       case rel=>exact⟨k+1,c+l.length,rfl,rfl,by rw[Hpl.out];exact hkl,Hnext.out Hal.out,hS⟩
       case measure=>simp[intOf];omega
    ·have hd2:decide (k<ps.length)=false:=decide_eq_false hkl;have hk2:k=(ps.map (·.2)).length:=by have h9:=Hpl.out;omega
     rw[hk2]at hto;have He:=jH (ML7 hto);clear hto hk hk2 hkl;go_wp2_with(first|go_big_skip);go_ret;exact⟨ek4 (by rw[HokE.out];exact He.out.symm),hS.drop⟩
def fX4(xs:List Opn)(o:Opn)(j:Nat):Prop:=∀i (h:i<xs.length),i<j->xs[i]≠o
def W3R(W:World)(L:List HP)(xs:List Opn)(o:Opn)(v1 v2:Value)(w:World):Prop:=
 ∃j:Nat,v1=.bool false/\v2=.I j/\j<=xs.length/\fX4 xs o j/\St W L w
section
variable{W w:World}{L R:List HP}{T:TypeId}{v u:Value}{evs:List Evn}{xs:List Opn}
theorem IE7(ht:Take L (evR T v evs) R)(hS:St W L w):C9 Evn.cells 14 w v evs:=St.sliceV Evn.len (hS.take ht)
theorem NZ7(hlen:xs.length<=150)(hv:C9 Opn.cells 12 w v xs)(hS:St W L w):
  Calls Tryz.prog 8 #[v] w fun e w'=>∃va vb,e=.returned (.tuple #[va,vb])/\St W (evR 76 va (E5 xs)::evR 77 vb (E5 xs)::L) w':=by
 refine(Hg7 xs hlen v w hv w w [] (St.start w)).mono ?_;rintro e w' ⟨va,vb,rfl,h⟩;exact⟨va,vb,rfl,St.rebase (A:=[_,_]) hS h⟩
theorem Lm7(hx:evs.map (·.op)=xs)(hlen:xs.length<=150)(ht:Take L (evR T v evs) R)(hS:St W L w):
  Calls Tryz.prog 12 #[v] w fun e w'=>∃vr xb,e=.returned (.tuple #[vr,.P xb])/\St W (ba4 vr (l9 xs ec0)::aG4 xb (bk4 xs ec0)::L) w':=by
 refine(Hh7 hx hlen v w (IE7 ht hS) w w [] (St.start w)).mono ?_;rintro e w' ⟨va,vb,rfl,h⟩;exact⟨va,vb,rfl,St.rebase (A:=[_,_]) hS h⟩
theorem EQ7(hx:evs.map (·.op)=xs)(hlen:xs.length<=150)(ht:Take L (evR T v evs) R)(hS:St W L w):
  Calls Tryz.prog 14 #[v] w fun e w'=>∃n:Int,e=.returned (.I n)/\TwI xs n/\St W L w':=by
 refine(HN7 hx hlen v w (IE7 ht hS) w w [] (St.start w)).mono ?_;rintro e w' ⟨n,rfl,hn,h⟩;exact⟨n,rfl,hn,St.rebase (A:=[]) hS h⟩
theorem Ln7(hx:evs.map (·.op)=xs)(hlen:xs.length<=150)(ht:Take L (evR T v evs) R)(hS:St W L w):
  Calls Tryz.prog 13 #[v] w fun e w'=>∃n:Int,e=.returned (.I n)/\TwI xs n/\St W L w':=by
 refine(HO7 hx hlen v w (IE7 ht hS) w w [] (St.start w)).mono ?_;rintro e w' ⟨n,rfl,hn,h⟩;exact⟨n,rfl,hn,St.rebase (A:=[]) hS h⟩
theorem Cl7(hx:evs.map (·.op)=xs)(hlen:xs.length<=150)(ht:Take L (evR T v evs) R){xss:List (List Ans)}(hu:bu4 Ans.cells 18 w u xss)(htot:xss.flatten.length<=1000000){n:Int}(hn:D9 (okA xs (l9 xs ec0)) xss.flatten 0=n)(hS:St W L w):
  Calls Tryz.prog 9 #[v,u] w fun e w'=>e=.returned (.I n)/\St W L w':=by
 refine(HP7 hx hlen v u w (IE7 ht hS) hu htot w w [] (St.start w)).mono ?_;rintro e w' ⟨rfl,h⟩;exact⟨by rw[hn],St.rebase (A:=[]) hS h⟩
theorem St.sliceB{α:Type}{enc:α->List Value}{k b n:Nat}{xs:List α}{l:List Value}(henc:∀x,(enc x).length=k)(ht:Take L (blk b l T) R)(hl:l=xs.flatMap enc)(hn:n=xs.length)(h63:n<=9223372036854775807)(hS:St W L w):C9 enc k w (.S b n n) xs:=by
 subst hn hl;refine⟨some ⟨b,0,none⟩,xs.length,rfl,h63,fun i hi=>⟨b,0,rfl,fun j u hj=>?_⟩⟩;have hjk:j<k:=by have:=(List.getElem?_eq_some_iff.1 hj).1;rwa [henc]at this
 rw[Nat.zero_add];have h2:=AY7 henc xs [] i hi j hjk;rw[List.append_nil]at h2;exact(hS.take ht).cell .head (by rw[h2];exact hj)
end
abbrev knA:Ans:=⟨knO,rp0⟩
abbrev knB:Ans:=⟨knO,⟨6,0,it0⟩⟩
theorem Lo7:l9 [knO] ec0=[rp0]:=by rw[l9,l9,MW7]
theorem Nf7:okA [knO] (l9 [knO] ec0) knA=true:=by rw[Lo7];unfold okA;rw[bO4,if_pos rfl];rfl
theorem OC7:okA [knO] (l9 [knO] ec0) knB=false:=by rw[Lo7];unfold okA;rw[bO4,if_pos rfl];rfl
theorem fi4:D9 (okA [knO] (l9 [knO] ec0)) ([[knA]]:List (List Ans)).flatten 0 = -1:=by
 show D9 _ [knA] 0 = -1
 rw[D9,if_pos Nf7];rfl
theorem fj4:D9 (okA [knO] (l9 [knO] ec0)) ([[knA],[knB]]:List (List Ans)).flatten 0=1:=by
 show D9 _ [knA,knB] 0=1
 rw[D9,if_pos Nf7,D9,if_neg (by rw[OC7];exact Bool.false_ne_true)];rfl
theorem fk4:TwI [knO] (-1):=.inl ⟨rfl,fun i h=>by
 have:i=0:=by simpa using h
 subst this;show(p8 (A8 ([knO].take 0) ec0) knO).2.1=true
 rw[List.take_zero];show(p8 ec0 knO).2.1=true
 rw[MW7]⟩
theorem Jo7(W w:World)(R:List HP)(hS:St W R w):
  Calls Tryz.prog 24 #[] w fun e w'=>e=.returned (oV 1 1 1 kA kX kN kN 0 5 0 false 0)/\St W R w':=by
 go_enter Tryz.func24,Tryz.ntmps24;go_wp2_with(first|go_big_skip|refine zal hS ?_;clear hS;intro b w hS|refine zsN hS ?_;clear hS;intro w hS);apply Am7;rfl;rfl;rfl;exact hS;decide +kernel;(exact m8);kernel_rfl;exact⟨rfl,hS.drop⟩
theorem CH7(W w:World)(R:List HP)(hS:St W R w):
  Calls Tryz.prog 11 #[] w fun e w'=>e=.returned (.bool true)/\St W R w':=by
 go_enter Tryz.func11,Tryz.ntmps11;go_wp2_with(first|go_big_skip|go_at_call 24;refine(Jo7 W _ _ hS).mono ?_;clear hS;rintro e w ⟨rfl,hS⟩|go_at_call 8;refine(NZ7 (xs:=[knO]) (by decide) (St.sliceB Opn.len (xs:=[knO]) .head (by rfl) (by rfl) (by decide) hS) hS).mono ?_;clear hS;rintro e w ⟨va,vb,rfl,hS⟩|(fail_if_success (have:=gW));go_at_call 9;refine(Cl7 (AL7 [knO]) (by decide) (T:=76) (evs:=E5 [knO]) (by exact i7) (xss:=[[knA]]) ⟨[(.S b2 1 1,[knA])],rfl,St.sliceB (fun _=>rfl) .head (by rfl) (by rfl) (by decide) hS,fun p hp=>by(obtain rfl:=List.mem_singleton.1 hp;exact St.sliceB (b:=b2) Ans.len (xs:=[knA]) (by exact i7) (by rfl) (by rfl) (by decide) hS)⟩ (by decide) fi4 hS).mono ?_;clear hS;have gW:Nat:=0;rintro e w ⟨rfl,hS⟩|(have:=gW);go_at_call 9;refine(Cl7 (AL7 [knO]) (by decide) (T:=76) (evs:=E5 [knO]) (by exact i7) (xss:=[[knA],[knB]]) ⟨[(.S b2 1 1,[knA]),(.S b3 1 1,[knB])],rfl,St.sliceB (fun _=>rfl) .head (by rfl) (by rfl) (by decide) hS,fun p hp=>by(rcases List.mem_cons.1 hp with rfl|hp;exact St.sliceB (b:=b2) Ans.len (xs:=[knA]) (by exact i7) (by rfl) (by rfl) (by decide) hS;obtain rfl:=List.mem_singleton.1 hp;exact St.sliceB (b:=b3) Ans.len (xs:=[knB]) (by exact i7) (by rfl) (by rfl) (by decide) hS)⟩ (by decide) fj4 hS).mono ?_;clear hS;rintro e w ⟨rfl,hS⟩|go_at_call 14;refine(EQ7 (AL7 [knO]) (by decide) (T:=76) (evs:=E5 [knO]) (by exact i7) hS).mono ?_;clear hS;rintro e w ⟨n9,rfl,hn9,hS⟩;obtain rfl:=FU7 hn9 fk4;clear hn9|(fail_if_success (have:=g1));(refine zbs hS ?_;clear hS;have g1:Nat:=0;intro b1 w hS)|(have:=g1);(fail_if_success (have:=g2));(refine zbs hS ?_;clear hS;have g2:Nat:=0;intro b2 w hS)|(have:=g2);(fail_if_success (have:=g3));(refine zbs hS ?_;clear hS;have g3:Nat:=0;intro b3 w hS)|(have:=g3);(fail_if_success (have:=g4));(refine zbs hS ?_;clear hS;have g4:Nat:=0;intro b4 w hS)|(have:=g4);refine zbs hS ?_;clear hS;intro b5 w hS);go_ret
 exact⟨rfl,hS.s _⟩
def gw4{α:Type}(f:α->HP)(l:List α):HP:=sats (l.map f)
section
variable{α:Type}{f:α->HP}{l l':List α}{x:α}{W w:World}{L:List HP}
end
def gx4(T:TypeId)(p:Value×List Ans):HP:=row p.1 18 T p.2.length (p.2.flatMap Ans.cells)
end Go.Proofs.YtienbkdjkjbelaaGreat
end
