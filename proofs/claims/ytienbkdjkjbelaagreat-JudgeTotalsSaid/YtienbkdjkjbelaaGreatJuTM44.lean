/-
  What one economy says to all events, the program's and the document's.
-/
import Derived.Test.YtienbkdjkjbelaaGreatJuTM5
import Derived.Test.YtienbkdjkjbelaaGreatJuTM19
import Derived.Test.YtienbkdjkjbelaaGreatJuTM28
import Derived.Test.YtienbkdjkjbelaaGreatJuTM39
import Derived.Test.YtienbkdjkjbelaaGreatJuTM43
import Derived.Test.YtienbkdjkjbelaaGreatRows
import Derived.Lib.SmallJoins
import Derived.ChangeArms
import Derived.ProofKit
import Derived.Laws.IdiomArrays
import Derived.SizedLaws
set_option maxHeartbeats 16000000
set_option maxRecDepth 100000
set_option linter.unusedSimpArgs false
set_option linter.unusedVariables false
section
namespace Go.Proofs.YtienbkdjkjbelaaGreat
open Go.RowKit Go.Sl
theorem Rpl.len6(r:Rpl):r.cells.length=6:=rfl
def cQ4(v:Value)(l:List Rpl):HP:=row v 6 36 l.length (l.flatMap Rpl.cells)
theorem IW7{evs:List Evn}{xs:List Opn}(hx:evs.map (·.op)=xs){i:Nat}(h:i<evs.length):∃h2:i<xs.length,evs[i].op=xs[i]:=by subst hx;exact⟨by rw[jM];exact h,by simp⟩
theorem C8.evn{V:World}{v:Value}{evs:List Evn}(h:C8 Evn.cells 14 V v evs):∃a cap,v=.slice a evs.length cap/\∀i (h:i<evs.length), ∃b off,a=some ⟨b,off,none⟩/\∀(j:Nat) (v:Value),evs[i].cells[j]? = some v->V.cell? ⟨b,off+i*14+j,none⟩=some v:=by obtain⟨a,cap,hv,h63,hc⟩:=h;exact⟨a,cap,hv,hc⟩
def gP4(W:World)(L:List HP)(eb:Nat)(xs:List Opn)(v1 v2:Value)(w:World):Prop:=
 ∃i:Nat,v2=.I i/\i<=xs.length/\St W (cQ4 v1 (B7 (xs.take i) ec0)::ecP eb (l6 (xs.take i) ec0)::L) w
theorem IX7{evs:List Evn}{xs:List Opn}(hx:evs.map (·.op)=xs)(hlen:xs.length<=150)(v:Value)(V:World)(hv:C8 Evn.cells 14 V v evs)(W w:World)(Lr:List HP)(hS:St W (Old V::Lr) w):
  Calls Tryz.prog 21 #[v] w fun e w'=>∃vr eb,e=.returned (.tuple #[vr,.P eb])/\St W (cQ4 vr (B7 xs ec0)::ecP eb (l6 xs ec0)::Old V::Lr) w':=by
 obtain⟨a,cap,rfl,hact⟩:=hv.evn;have hl0:evs.length=xs.length:=by rw[<-hx,jM]
 have Ha:=jH hact;have Hx:=jH hx;rw[hl0];have Hl:=jH hl0;clear hact hv hx hl0;go_enter Tryz.func21,Tryz.ntmps21;go_wp2_with(first|go_big_skip|go_at_call 26;refine(Ft7 W _ _ hS).mono ?_;clear hS;rintro e w ⟨eb,rfl,hS⟩);have hS0:=hS.rowNil (k:=6) (T:=36);clear hS;have hS:=hS0;clear hS0
 go_loopw [2,14] (fun v1 v2 wr=>gP4 W (Old V::Lr) eb xs v1 v2 wr) (fun _ v2 _=>xs.length-(intOf v2).toNat)
 case atStart=>exact⟨0,rfl,Nat.zero_le _,hS⟩
 case round=>
  clear hS;obtain⟨i,rfl,hi,hS⟩:=hrel;by_cases hil:i<xs.length
  ·have hd1:decide (i<xs.length)=true:=decide_eq_true hil;obtain⟨pb,poff,rfl,hall⟩:=Ha.out i (by rw[Hl.out];exact hil);obtain⟨_,hop⟩:=IW7 Hx.out (i:=i) (by rw[Hl.out];exact hil);have hok:EOk (l6 (xs.take i) ec0) i:=(CZ7 xs i hi).ok.ok;have hstep:=JY7 hil ec0;have hrun:=Ep7 hil ec0;have hal:(B7 (xs.take i) ec0).length=i:=by rw[Bj7,jT];omega
   generalize B7 (xs.take i) ec0=acc at hS hstep hal;generalize l6 (xs.take i) ec0=e1 at hS hok hstep hrun;rw[<-hop]at hstep hrun;clear hop;generalize evs[i]'(by rw[Hl.out];exact hil)=x at hall hstep hrun;obtain⟨zn,ix,kd,cl,sq,ak,aw,tk,tw,it,ct,pr,bu,id⟩:=x;simp only[Evn.cells,Opn.cells]at hall;obtain⟨⟨⟨r0,r1,⟨r2,r3,r4,r5⟩⟩,rb,e2⟩,h1⟩:∃z,B6 e1 ⟨kd,cl,sq,ak,aw,tk,tw,it,ct,pr,bu,id⟩=z:=⟨_,rfl⟩
   rw[h1]at hstep hrun;have H1:=jH h1;have Hstep:=jH hstep;have Hrun:=jH hrun;have Hok:=jH hok;have hal1:acc.length<=i:=by omega
   have hi9:i<=150:=by omega
   clear hstep hrun hal hi h1 hok;obtain⟨na,nc,rfl⟩:=hS.rowVal;go_wp2_with(first|go_big_skip|refine zlN hS ?_ (vs:=[.I zn,.I ix,.I kd,.I cl,.I sq,.string ak,.string aw,.string tk,.string tw,.I it,.I ct,.I pr,.bool bu,.I id]) (hc:=by exact d8.old (by exact aR4) hall)|(fail_if_success (have:=gA));(refine zal hS ?_;clear hS;have gA:Nat:=0;intro bA w hS)|(have:=gA);refine zal hS ?_;clear hS;intro bB w hS|refine zsN hS ?_;clear hS;intro w hS|go_at_call 27;(have hS9:=hS.s (ecP eb e1::blk bA [.I zn,.I ix,.I kd,.I cl,.I sq,.string ak,.string aw,.string tk,.string tw,.I it,.I ct,.I pr,.bool bu,.I id] 76::cQ4 (.slice na acc.length nc) acc::Old V::Lr));clear hS;refine Calls.mono (DO7 Hok.out (by omega) H1.out W _ _ hS9) ?_;clear hS9;rintro ex w ⟨_,rfl,hS⟩|refine zlN hS ?_ (vs:=[.I kd,.I cl,.I sq,.string ak,.string aw,.string tk,.string tw,.I it,.I ct,.I pr,.bool bu,.I id]) (hc:=by exact d8.here rfl)|refine zlN hS ?_|refine zl1 hS ?_|refine zbs hS ?_;clear hS;intro bS w hS|refine zap hS ?_ (h63:=by unfold maxLen;omega) (hb:=by omega);clear hS;intro va w hS);go_roundw
   case rel=>
    refine⟨i+1,rfl,hil,?_⟩;rw[Hstep.out,Hrun.out];have h0:=hS.s (row va 6 36 (acc.length+1) (acc.flatMap Rpl.cells++_)::ecP eb e2::Old V::Lr);have h1:=aG4 (y:=(⟨r0,r1,⟨r2,r3,r4,r5⟩⟩:Rpl)) h0 rfl;exact h1
   case measure=>simp[intOf];omega
  ·have hd1:decide (i<xs.length)=false:=decide_eq_false hil;have hi2:i=xs.length:=by omega
   rw[hi2,List.take_length]at hS;clear hi hil hi2;go_wp2_with(first|go_big_skip);go_ret2;exact⟨_,_,rfl,hS⟩
def hh4(W:World)(L:List HP)(xb:Nat)(xs:List Opn)(v1 v2:Value)(w:World):Prop:=
 ∃i:Nat,v2=.I i/\i<=xs.length/\St W (cQ4 v1 (B7 (xs.take i) ec0)::s8 xb (D6 (xs.take i) ec0)::L) w
def Ans.cells(a:Ans):List Value:=a.op.cells++a.rep.cells
theorem Ans.len(a:Ans):a.cells.length=18:=rfl
abbrev eO(o:Opn):Value:=.agg o.cells.toArray
abbrev eRp(r:Rpl):Value:=.agg r.cells.toArray
theorem ee4(e:Bool)(k u:ByteArray)(d:Nat)(w:World):(Instr.checkKey e (d+2) 29 (.agg #[.string k,.string u])).run Tryz.prog w=.ok () w:=by
 have u9:=Tryz.underlying9;have a9:=Tryz.isAgg9;have z9:=Tryz.sizeOf9;have h1:∀(d:Nat) (x:ByteArray),(Instr.checkKey e (d+1) 9 (.string x)).run Tryz.prog w=.ok () w:=fun d x=>by rw[Instr.checkKey];simp[run_underlying u9]
 rw[Instr.checkKey];simp only[Sem.run_bind,run_underlying Tryz.underlying29,Result.andThen_ok];rw[<-Array.forIn_toList];simp only[List.forIn_cons,List.forIn_nil]
 go_simp
theorem fg4(e:Bool)(o:Opn)(w:World):(Instr.checkKey e 10000 31 (eO o)).run Tryz.prog w=.ok () w:=by
 have u9:=Tryz.underlying9;have a9:=Tryz.isAgg9;have z9:=Tryz.sizeOf9;have u3:=Tryz.underlying3;have a3:=Tryz.isAgg3;have z3:=Tryz.sizeOf3;have u4:=Tryz.underlying4;have a4:=Tryz.isAgg4;have z4:=Tryz.sizeOf4;have u5:=Tryz.underlying29;have a5:=Tryz.isAgg29;have z5:=Tryz.sizeOf29;have h1:∀(d:Nat) (x:Int),(Instr.checkKey e (d+1) 3 (.I x)).run Tryz.prog w=.ok () w:=fun d x=>by rw[Instr.checkKey];simp[run_underlying u3]
 have h2:∀(d:Nat) (x:Bool),(Instr.checkKey e (d+1) 4 (.bool x)).run Tryz.prog w=.ok () w:=fun d x=>by rw[Instr.checkKey];simp[run_underlying u4]
 have hp:=fun k u=>ee4 e k u 9997 w
 have h:∀d:Nat,d=9998->(Instr.checkKey e (d+2) 31 (eO o)).run Tryz.prog w=.ok () w:=fun d hd=>by
  obtain⟨o0,o1,o2,o3,o4,o5,o6,o7,o8,o9,o10,o11⟩:=o;unfold eO Opn.cells;dsimp only;subst hd;rw[Instr.checkKey];simp only[Sem.run_bind,run_underlying Tryz.underlying31,Result.andThen_ok];rw[<-Array.forIn_toList];simp only[List.forIn_cons,List.forIn_nil]
  go_simp
 exact h 9998 rfl
theorem kO:KeyOk Tryz.prog 31 eO:=KeyOk.deep Tryz.underlying31 (fun _ _=>rfl) fg4 (fun a b w=>by rw[<-QD7];exact eF4 a b w) (fun k=>by
  have hb:∀b:ByteArray,(b==b)=true:=fun b=>by first|exact beq_self_eq_true b|(rcases b with ⟨d⟩;exact beq_self_eq_true d)|(rcases b with ⟨d⟩;show(d==d)=true;simp)
  simp[Instr.sameBits,Opn.cells,hb])
theorem mO:E8 Tryz.prog 78=some (31,36):=by kernel_rfl
theorem zO:E9 Tryz.prog 36=some (eRp rp0):=by kernel_rfl
theorem Nm7{α:Type}{xss:List (List α)}{k:Nat}(h:k<xss.length):(xss.take (k+1)).flatten=(xss.take k).flatten++xss[k]:=by rw[List.take_succ_eq_append_getElem h,List.flatten_append];simp
theorem Kc7{α:Type}{xss:List (List α)}{k:Nat}(h:k<xss.length):xss.flatten=(xss.take k).flatten++(xss[k]++(xss.drop (k+1)).flatten):=by
 conv=>lhs;rw[<-List.take_append_drop k xss]
 rw[List.flatten_append,List.drop_eq_getElem_cons h,List.flatten_cons]
theorem KW7{ok:Ans->Bool}{xss:List (List Ans)}{k m:Nat}(hk:k<xss.length)(hm:m<xss[k].length)(h1:∀a∈(xss.take k).flatten,ok a=true)(h2:∀a∈xss[k].take m,ok a=true)(h3:ok xss[k][m]=false):L6 ok xss.flatten 0=(((xss.take k).flatten.length+m:Nat):Int):=by
 have e:xss.flatten=((xss.take k).flatten++xss[k].take m)++(xss[k][m]::(xss[k].drop (m+1)++(xss.drop (k+1)).flatten)):=by
  rw[Kc7 hk,jS]
  congr 1
  rw[<-jK,<-jS,<-List.drop_eq_getElem_cons hm,List.take_append_drop]
 rw[e,Eq7 _ _ _ _ fun a ha=>by
  rcases List.mem_append.1 ha with h|h
  ·exact h1 a h
  ·exact h2 a h,L6,if_neg (by rw[h3];exact Bool.false_ne_true),jA,jT,Nat.min_eq_left (by omega)]
 simp
theorem QF7{ok:Ans->Bool}{l:List Ans}{m:Nat}(hm:m<l.length)(h:∀a∈l.take m,ok a=true)(h1:ok l[m]=true):∀a∈l.take (m+1),ok a=true:=fun a ha=>by
 rw[List.take_succ_eq_append_getElem hm]at ha
 rcases List.mem_append.1 ha with h2|h2
 ·exact h a h2
 ·rw[List.mem_singleton]at h2;subst h2;exact h1
def OkJ(ok:Ans->Bool)(xss:List (List Ans))(k:Nat)(c:Nat):Prop:=c=(xss.take k).flatten.length/\∀a∈(xss.take k).flatten,ok a=true
theorem QG7{ok:Ans->Bool}{xss:List (List Ans)}{k c:Nat}{l:List Ans}(h:OkJ ok xss k c)(hl:xss[k]? = some l)(h1:∀a∈l.take l.length,ok a=true):OkJ ok xss (k+1) (c+l.length):=by
 obtain⟨hk,rfl⟩:=List.getElem?_eq_some_iff.1 hl;obtain⟨h2,h3⟩:=h;refine⟨by rw[Nm7 hk,jA];omega,fun a ha=>?_⟩;rw[Nm7 hk]at ha
 rcases List.mem_append.1 ha with h4|h4
 ·exact h3 a h4
 ·exact h1 a (by rw[List.take_length];exact h4)
theorem Nn7{ok:Ans->Bool}{xss:List (List Ans)}{k c m:Nat}{l:List Ans}(h:OkJ ok xss k c)(hl:xss[k]? = some l)(hm:m<l.length)(h2:∀a∈l.take m,ok a=true)(h3:ok l[m]=false):L6 ok xss.flatten 0=((c+m:Nat):Int):=by obtain⟨hk,rfl⟩:=List.getElem?_eq_some_iff.1 hl;rw[h.1];exact KW7 hk hm h.2 h2 h3
theorem fh4{a b:Int}(h:a=b):Ending.returned (.I a)=Ending.returned (.I b):=by rw[h]
theorem Pb7{ok:Ans->Bool}{xss:List (List Ans)}{c:Nat}(h:OkJ ok xss xss.length c):L6 ok xss.flatten 0 = -1:=by have h2:=h.2;rw[List.take_length]at h2;exact KU7 h2 0
theorem QH7{ok:Ans->Bool}{xss:List (List Ans)}{k c:Nat}{l:List Ans}(h:OkJ ok xss k c)(hl:xss[k]? = some l):c+l.length<=xss.flatten.length:=by obtain⟨hk,rfl⟩:=List.getElem?_eq_some_iff.1 hl;rw[h.1,Kc7 hk,jA,jA];omega
def WmR(W:World)(L:List HP)(mb:Nat)(xs:List Opn)(v:Value)(w:World):Prop:=
 ∃i:Nat,v=.I i/\i<=xs.length/\St W (d9 eO eRp mb (cf4 xs i)::L) w
def WoR(W:World)(L:List HP)(ok:Ans->Bool)(xss:List (List Ans))(v1 v2:Value)(w:World):Prop:=
 ∃k c:Nat,v1=.I c/\v2=.I k/\k<=xss.length/\OkJ ok xss k c/\St W L w
def WiR(W:World)(L:List HP)(ok:Ans->Bool)(l:List Ans)(c:Nat)(v1 v2:Value)(w:World):Prop:=
 ∃m:Nat,v1=.I ((c+m:Nat):Int)/\v2=.I m/\m<=l.length/\(∀a∈l.take m,ok a=true)/\St W L w
theorem IY7{evs:List Evn}{xs:List Opn}(hx:evs.map (·.op)=xs)(hlen:xs.length<=150)(v u:Value)(V:World)(hv:C8 Evn.cells 14 V v evs){xss:List (List Ans)}(hu:at4 Ans.cells 18 V u xss)(htot:xss.flatten.length<=1000000)(W w:World)(Lr:List HP)(hS:St W (Old V::Lr) w):
  Calls Tryz.prog 9 #[v,u] w fun e w'=>e=.returned (.I (L6 (okA xs (B7 xs ec0)) xss.flatten 0))/\St W (Old V::Lr) w':=by
 have Hv:=jH hv;obtain⟨a,cap,rfl,hact⟩:=hv.evn;have hl0:evs.length=xs.length:=by rw[<-hx,jM]
 have Ha:=jH hact;have Hx:=jH hx;rw[hl0]at Hv ⊢;have Hl:=jH hl0;obtain⟨ps,rfl,⟨ua,ucap,rfl,hu63,huc⟩,hpu⟩:=hu;have Huc:=jH huc;have Hpu:=jH hpu;have hpl:(ps.map (·.2)).length=ps.length:=jM ..;have Hpl:=jH hpl;clear hact hv hx hl0 huc hpu hpl;go_enter Tryz.func9,Tryz.ntmps9;go_wp2_with(first|go_big_skip|go_at_call 21;refine(IX7 Hx.out hlen _ V Hv.out W _ _ hS).mono ?_;clear hS;rintro e w ⟨vr,eb,rfl,hS⟩;obtain⟨na,nc,rfl⟩:=hS.rowVal;simp only[Bj7]at hS ⊢|(with_reducible apply CC7 (t:=78) eO eRp hS);rfl;rfl;clear hS;intro mb w hS;refine frS ?_)
 go_loopw [27] (fun v1 wr=>WmR W (cQ4 (.slice na xs.length nc) (B7 xs ec0)::Old V::Lr) mb xs v1 wr) (fun v1 _=>xs.length-(intOf v1).toNat)
 case atStart=>exact⟨0,rfl,Nat.zero_le _,hS.s (d9 eO eRp mb []::cQ4 _ (B7 xs ec0)::Old V::Lr)⟩
 case round=>
  clear hS;obtain⟨i,rfl,hi,hS⟩:=hrel;by_cases hil:i<xs.length
  ·have hd1:decide (i<xs.length)=true:=decide_eq_true hil;obtain⟨pb,poff,rfl,hall⟩:=Ha.out i (by rw[Hl.out];exact hil);obtain⟨_,hop⟩:=IW7 Hx.out (i:=i) (by rw[Hl.out];exact hil);have hnx:=OT7 hil;have hrp:=JZ7 xs hil ec0;have hrl:i<(B7 xs ec0).length:=by rw[Bj7];exact hil
   have hre:(B7 xs ec0)[i]=(B6 (l6 (xs.take i) ec0) xs[i]).1:=by rw[jG hrl]at hrp;exact Option.some.inj hrp
   obtain⟨⟨g,rfl⟩,_,_⟩:(∃g,na=some ⟨g,0,none⟩)/\nc<=9223372036854775807/\xs.length<=nc:=by have h8:St W (row (.slice na xs.length nc) 6 36 (B7 xs ec0).length ((B7 xs ec0).flatMap Rpl.cells)::_) _:=hS.drop;rw[Bj7]at h8;exact St.rowAddr h8 (by omega)
   have hrep0:∀{K K':List HP},Take K (cQ4 (.S g xs.length nc) (B7 xs ec0)) K'->d8 K g (i*6) (B7 xs ec0)[i].cells:=fun hu=>by have e9:xs.length=(B7 xs ec0).length:=(Bj7 _ _).symm;rw[e9]at hu;exact d8.elemM Rpl.len6 hu hrl
   have hrep:∀{K K':List HP},Take K (cQ4 (.S g xs.length nc) (B7 xs ec0)) K'->d8 K g (i*6) (B6 (l6 (xs.take i) ec0) xs[i]).1.cells:=fun hu=>by rw[<-hre];exact hrep0 hu
   clear hre hrp hrl hrep0;generalize cf4 xs i=M at hS hnx;generalize (B6 (l6 (xs.take i) ec0) xs[i]).1=r at hnx hrep;rw[<-hop]at hnx;clear hop;generalize evs[i]'(by rw[Hl.out];exact hil)=x at hall hnx;obtain⟨zn,ix,kd,cl,sq,ak,aw,tk,tw,it,ct,pr,bu,id⟩:=x;obtain⟨r0,r1,⟨r2,r3,r4,r5⟩⟩:=r;simp only[Evn.cells,Opn.cells]at hall;simp only[Rpl.cells,It.cells]at hrep;unfold dE4 at hnx;have Hnx:=jH hnx;clear hnx hi
   cases hg:j6 M (⟨kd,cl,sq,ak,aw,tk,tw,it,ct,pr,bu,id⟩:Opn)with
   | some q=>
    obtain⟨q0,q1,⟨q2,q3,q4,q5⟩⟩:=q;have Hg:=jH hg;clear hg;go_wp2_with(first|go_big_skip|refine zlN hS ?_ (vs:=[.I zn,.I ix,.I kd,.I cl,.I sq,.string ak,.string aw,.string tk,.string tw,.I it,.I ct,.I pr,.bool bu,.I id]) (hc:=by exact d8.old (by exact aR4) hall)|(fail_if_success (have:=gA));(refine zal hS ?_;clear hS;have gA:Nat:=0;intro bA w hS)|(have:=gA);refine zal hS ?_;clear hS;intro bB w hS|(with_reducible apply DW7 (ek:=eO) (ev:=eRp) (k:=(⟨kd,cl,sq,ak,aw,tk,tw,it,ct,pr,bu,id⟩:Opn)) hS);rfl;rfl;rfl;rfl;exact i7;exact mO;exact kO;exact zO;exact Hg.out;simp only[Act.put,fA,fB,fC,Nat.reduceAdd,eRp,Rpl.cells,It.cells,rp0,it0]|refine zsN hS ?_;clear hS;intro w hS|refine zlN hS ?_ (vs:=[.I kd,.I cl,.I sq,.string ak,.string aw,.string tk,.string tw,.I it,.I ct,.I pr,.bool bu,.I id]) (hc:=by first|exact d8.here rfl|exact d8.there (d8.here rfl)|exact d8.there (d8.there (d8.here rfl)))|refine zlN hS ?_|refine zl1 hS ?_);go_roundw
    case rel=>
     refine⟨i+1,rfl,hil,?_⟩;rw[Hnx.out,if_pos (by rw[Hg.out];rfl)];exact hS.s _
    case measure=>simp[intOf];omega
   | none=>
    have Hg:=jH hg;clear hg;go_wp2_with(first|go_big_skip|refine zlN hS ?_ (vs:=[.I zn,.I ix,.I kd,.I cl,.I sq,.string ak,.string aw,.string tk,.string tw,.I it,.I ct,.I pr,.bool bu,.I id]) (hc:=by exact d8.old (by exact aR4) hall)|(fail_if_success (have:=gA));(refine zal hS ?_;clear hS;have gA:Nat:=0;intro bA w hS)|(have:=gA);refine zal hS ?_;clear hS;intro bB w hS|(with_reducible apply FV7 (ek:=eO) (ev:=eRp) (k:=(⟨kd,cl,sq,ak,aw,tk,tw,it,ct,pr,bu,id⟩:Opn)) hS);rfl;rfl;rfl;rfl;exact i7;exact mO;exact kO;exact zO;exact Hg.out;simp only[Act.put,fA,fB,fC,Nat.reduceAdd,eRp,Rpl.cells,It.cells,rp0,it0]|refine zsN hS ?_;clear hS;intro w hS|refine zlN hS ?_ (vs:=[.I kd,.I cl,.I sq,.string ak,.string aw,.string tk,.string tw,.I it,.I ct,.I pr,.bool bu,.I id]) (hc:=by first|exact d8.here rfl|exact d8.there (d8.here rfl)|exact d8.there (d8.there (d8.here rfl)))|refine zlN hS ?_|refine zl1 hS ?_);have hS1:=hS.s (d9 eO eRp mb M::blk bA [.I zn,.I ix,.I kd,.I cl,.I sq,.string ak,.string aw,.string tk,.string tw,.I it,.I ct,.I pr,.bool bu,.I id] 76::cQ4 (.S g xs.length nc) (B7 xs ec0)::Old V::Lr);clear hS;refine rt 7 hS1 ?_
    repeat(first|go_big_quiet_skip|refine zqN ?_ (vs:=[.I kd,.I cl,.I sq,.string ak,.string aw,.string tk,.string tw,.I it,.I ct,.I pr,.bool bu,.I id]) (hc:=by exact d8.there (d8.here rfl))|refine zqN ?_ (vs:=[.I r0,.I r1,.I r2,.I r3,.I r4,.I r5]) (hc:=by exact hrep (by exact i7))|refine zqn ?_|refine qR ?_)
    clear hS1;intro w hS;simp only[jD,List.drop_zero];go_wp2_with(first|((with_reducible apply BA7 (ek:=eO) (ev:=eRp) (k:=(⟨kd,cl,sq,ak,aw,tk,tw,it,ct,pr,bu,id⟩:Opn)) (u:=(⟨r0,r1,⟨r2,r3,r4,r5⟩⟩:Rpl)) hS);rfl;rfl;rfl;rfl;exact i7;(focus(rfl));exact mO;exact kO;clear hS;intro w hS;try(refine frS ?_)));go_roundw
    case rel=>
     refine⟨i+1,rfl,hil,?_⟩;rw[Hnx.out,if_neg (by rw[Hg.out];exact Bool.false_ne_true)];exact hS.s _
    case measure=>simp[intOf];omega
  ·have hd1:decide (i<xs.length)=false:=decide_eq_false hil;have hi2:i=xs.length:=by omega
   have hok:∀y:Ans,okA xs (B7 xs ec0) y=(match j6 (cf4 xs xs.length) y.op with|some r=>r.eqB y.rep|none=>false):=fun y=>by rw[Ne7];rfl
   rw[hi2]at hS;obtain⟨ok,hokE⟩:∃ok,okA xs (B7 xs ec0)=ok:=⟨_,rfl⟩
   rw[hokE]at hok;have HokE:=jH hokE;generalize cf4 xs xs.length=M at hS hok;have Hok:=jH hok;clear hi hi2 hil hok hokE;go_wp2_with(first|go_big_skip)
   go_loopw [12,51] (fun v1 v2 wr=>WoR W (d9 eO eRp mb M::Old V::Lr) ok (ps.map (·.2)) v1 v2 wr) (fun _ v2 _=>ps.length-(intOf v2).toNat)
   case atStart=>exact⟨0,0,rfl,rfl,Nat.zero_le _,⟨rfl,fun a ha=>(by cases ha)⟩,hS.s _⟩
   case round=>
    clear hS;obtain⟨k,c,rfl,rfl,hk,hto,hS⟩:=hrel;by_cases hkl:k<ps.length
    ·have hd2:decide (k<ps.length)=true:=decide_eq_true hkl;obtain⟨ub,uoff,rfl,hcell⟩:=Huc.out k hkl;have hc0:=hcell 0 _ rfl;obtain⟨la,lcap,hlv,hl63,hlc⟩:=Hpu.out ps[k] (jW hkl);have hpk:(ps.map (·.2))[k]? = some ps[k].2:=by rw[List.getElem?_map,jG hkl];rfl
     generalize ps[k].2=l at hlv hlc hpk hl63;have hle:=QH7 hto hpk;have hnext:=QG7 hto hpk;have hstop:=fun m=>Nn7 (m:=m) hto hpk
     rw[hlv]at hc0
     have hc1:V.cell? ⟨ub,uoff+k,none⟩=some (.slice la l.length lcap):=by
      have e:uoff+k*1+0=uoff+k:=by omega
      rw[e]at hc0;exact hc0
     have Hlc:=jH hlc;have Hnext:=jH hnext;have Hstop:=jH hstop;clear hpk hlv hcell hc0 hlc hnext hstop hto hk;have hbig:c+l.length<=1000000:=by omega
     clear hle;go_wp2_with(first|go_big_skip|refine zl1 hS ?_ (hc:=by exact i6.old (by exact aR4) hc1))
     go_loopw [12,57] (fun v1 v2 wr=>WiR W (d9 eO eRp mb M::Old V::Lr) ok l c v1 v2 wr) (fun _ v2 _=>l.length-(intOf v2).toNat)
     case atStart=>exact⟨0,rfl,rfl,Nat.zero_le _,fun a ha=>(by cases ha),hS⟩
     case round=>
      clear hS;obtain⟨m,rfl,rfl,hm,hal,hS⟩:=hrel;by_cases hml:m<l.length
      ·have hd3:decide (m<l.length)=true:=decide_eq_true hml;obtain⟨lb,loff,rfl,hall⟩:=Hlc.out m hml;have hsn:=QF7 hml hal;have hst:=Hstop.out m hml hal;have hoky:=Hok.out l[m];generalize l[m]=y at hall hsn hst hoky;obtain⟨⟨kd,cl,sq,ak,aw,tk,tw,it,ct,pr,bu,id⟩,⟨q0,q1,⟨q2,q3,q4,q5⟩⟩⟩:=y;simp only[Ans.cells,Opn.cells,Rpl.cells,It.cells,jK,jN]at hall;dsimp only at hoky;have Hsn:=jH hsn;have Hst:=jH hst;clear hsn hst hm hal
       cases hg:j6 M (⟨kd,cl,sq,ak,aw,tk,tw,it,ct,pr,bu,id⟩:Opn)with
       | none=>
        rw[hg]at hoky;have Hy:=jH hoky;have Hg:=jH hg;clear hoky hg;go_wp2_with(first|go_big_skip|refine zlN hS ?_ (vs:=[.I kd,.I cl,.I sq,.string ak,.string aw,.string tk,.string tw,.I it,.I ct,.I pr,.bool bu,.I id,.I q0,.I q1,.I q2,.I q3,.I q4,.I q5]) (hc:=by exact d8.old (by exact aR4) hall)|(fail_if_success (have:=gA));(refine zal hS ?_;clear hS;have gA:Nat:=0;intro bA w hS)|(have:=gA);refine zal hS ?_;clear hS;intro bB w hS|(with_reducible apply FV7 (ek:=eO) (ev:=eRp) (k:=(⟨kd,cl,sq,ak,aw,tk,tw,it,ct,pr,bu,id⟩:Opn)) hS);rfl;rfl;rfl;rfl;exact i7;exact mO;exact kO;exact zO;exact Hg.out;simp only[Act.put,fA,fB,fC,Nat.reduceAdd,eRp,Rpl.cells,It.cells,rp0,it0]|refine zsN hS ?_;clear hS;intro w hS|refine zlN hS ?_ (vs:=[.I kd,.I cl,.I sq,.string ak,.string aw,.string tk,.string tw,.I it,.I ct,.I pr,.bool bu,.I id]) (hc:=by first|exact d8.here rfl|exact d8.there (d8.here rfl)|exact d8.there (d8.there (d8.here rfl)))|refine zlN hS ?_|refine zl1 hS ?_);go_ret;exact⟨fh4 (by rw[HokE.out];exact(Hst.out Hy.out).symm),hS.s _⟩
       | some r=>
        rw[hg]at hoky;obtain⟨r0,r1,⟨r2,r3,r4,r5⟩⟩:=r;have Hg:=jH hg;clear hg
        cases he:Rpl.eqB (⟨r0,r1,⟨r2,r3,r4,r5⟩⟩:Rpl) (⟨q0,q1,⟨q2,q3,q4,q5⟩⟩:Rpl)with
        | false=>
         have Hy:=jH (hoky.trans he);clear hoky;have He:=jH he;clear he;go_wp2_with(first|go_big_skip|refine zlN hS ?_ (vs:=[.I kd,.I cl,.I sq,.string ak,.string aw,.string tk,.string tw,.I it,.I ct,.I pr,.bool bu,.I id,.I q0,.I q1,.I q2,.I q3,.I q4,.I q5]) (hc:=by exact d8.old (by exact aR4) hall)|(fail_if_success (have:=gA));(refine zal hS ?_;clear hS;have gA:Nat:=0;intro bA w hS)|(have:=gA);refine zal hS ?_;clear hS;intro bB w hS|(with_reducible apply DW7 (ek:=eO) (ev:=eRp) (k:=(⟨kd,cl,sq,ak,aw,tk,tw,it,ct,pr,bu,id⟩:Opn)) hS);rfl;rfl;rfl;rfl;exact i7;exact mO;exact kO;exact zO;exact Hg.out;simp only[Act.put,fA,fB,fC,Nat.reduceAdd,eRp,Rpl.cells,It.cells,rp0,it0]|refine zsN hS ?_;clear hS;intro w hS|(with_reducible apply Et7);rfl;rfl;rfl;rfl;kernel_rfl;exact JL7 He.out;simp only[Bool.not_true,Bool.not_false];refine frS ?_|refine zlN hS ?_ (vs:=[.I kd,.I cl,.I sq,.string ak,.string aw,.string tk,.string tw,.I it,.I ct,.I pr,.bool bu,.I id]) (hc:=by first|exact d8.here rfl|exact d8.there (d8.here rfl)|exact d8.there (d8.there (d8.here rfl)))|refine zlN hS ?_|refine zlN hS ?_ (vs:=[.I q0,.I q1,.I q2,.I q3,.I q4,.I q5]) (hc:=by first|exact d8.here rfl|exact d8.there (d8.here rfl)|exact d8.there (d8.there (d8.here rfl)))|refine zl1 hS ?_);go_ret;exact⟨fh4 (by rw[HokE.out];exact(Hst.out Hy.out).symm),hS.s _⟩
        | true=>
         have Hy:=jH (hoky.trans he);clear hoky;have He:=jH he;clear he;go_wp2_with(first|go_big_skip|refine zlN hS ?_ (vs:=[.I kd,.I cl,.I sq,.string ak,.string aw,.string tk,.string tw,.I it,.I ct,.I pr,.bool bu,.I id,.I q0,.I q1,.I q2,.I q3,.I q4,.I q5]) (hc:=by exact d8.old (by exact aR4) hall)|(fail_if_success (have:=gA));(refine zal hS ?_;clear hS;have gA:Nat:=0;intro bA w hS)|(have:=gA);refine zal hS ?_;clear hS;intro bB w hS|(with_reducible apply DW7 (ek:=eO) (ev:=eRp) (k:=(⟨kd,cl,sq,ak,aw,tk,tw,it,ct,pr,bu,id⟩:Opn)) hS);rfl;rfl;rfl;rfl;exact i7;exact mO;exact kO;exact zO;exact Hg.out;simp only[Act.put,fA,fB,fC,Nat.reduceAdd,eRp,Rpl.cells,It.cells,rp0,it0]|refine zsN hS ?_;clear hS;intro w hS|(with_reducible apply Et7);rfl;rfl;rfl;rfl;kernel_rfl;exact JL7 He.out;simp only[Bool.not_true,Bool.not_false];refine frS ?_|refine zlN hS ?_ (vs:=[.I kd,.I cl,.I sq,.string ak,.string aw,.string tk,.string tw,.I it,.I ct,.I pr,.bool bu,.I id]) (hc:=by first|exact d8.here rfl|exact d8.there (d8.here rfl)|exact d8.there (d8.there (d8.here rfl)))|refine zlN hS ?_|refine zlN hS ?_ (vs:=[.I q0,.I q1,.I q2,.I q3,.I q4,.I q5]) (hc:=by first|exact d8.here rfl|exact d8.there (d8.here rfl)|exact d8.there (d8.there (d8.here rfl)))|refine zl1 hS ?_);go_roundw
         case rel=>exact⟨m+1,by go_num,rfl,hml,Hsn.out Hy.out,hS.s _⟩
         case measure=>simp[intOf];omega
      ·have hd3:decide (m<l.length)=false:=decide_eq_false hml;have hm2:m=l.length:=by omega
       rw[hm2]at hal;have Hal:=jH hal;rw[hm2];clear hm hml hm2 hal;go_wp2_with(first|go_big_skip);go_roundw
       case rel=>exact⟨k+1,c+l.length,rfl,rfl,by rw[Hpl.out];exact hkl,Hnext.out Hal.out,hS⟩
       case measure=>simp[intOf];omega
    ·have hd2:decide (k<ps.length)=false:=decide_eq_false hkl;have hk2:k=(ps.map (·.2)).length:=by have h9:=Hpl.out;omega
     rw[hk2]at hto;have He:=jH (Pb7 hto);clear hto hk hk2 hkl;go_wp2_with(first|go_big_skip);go_ret;exact⟨fh4 (by rw[HokE.out];exact He.out.symm),hS.drop⟩
end Go.Proofs.YtienbkdjkjbelaaGreat
end
section
namespace Go.Proofs.YtienbkdjkjbelaaGreat
open Go.Joins Go.ChangeShapes Go.WideShapes Go.RowKit Go.Deep Go.Sl
section
variable{H:Type}{enc:TypeId×Value->H}{P:Program}{w:World}{base:Nat}{spare:Nat->Bool}{held:Bool}
end
section
variable{H:Type}{enc:TypeId×Value->H}{w:World}{base:Nat}{spare:Nat->Bool}{held:Bool}
end
section
variable{H:Type}{enc:TypeId×Value->H}{P:Program}{w:World}{base:Nat}{spare:Nat->Bool}{held:Bool}
theorem FI7{e:TypeId}:∀{ds:List (DataW H)} {i:Nat} (h:i<ds.length) {n:Nat},n∈ds[i].weights P e->n∈DataW.weightsAll P e ds
 | d::ds,0,_,n,hn=>by rw[DataW.weightsAll];exact List.mem_append_left _ hn
 | d::ds,i+1,h,n,hn=>by rw[DataW.weightsAll];exact List.mem_append_right _ (FI7 (i:=i) (Nat.lt_of_succ_lt_succ h) hn)
theorem Da7{α:Type}{t e:TypeId}{k fuel:Nat}{cs:List Value}{y:DataW H×List MemPlace}(en:α->List Value)(x0:α)(Q:α->DataW H->Prop)(hk:∀x,(en x).length=k)(h0:0<k)(ht:P.underlying t=some (.slice e))(hC:P.cellsOf e=k)
  (hE:∀(n:Nat) (cs:List Value) (y:DataW H×List MemPlace),cs.length=k->DataW.trod enc P w base spare held n e cs=some y->∃x,cs=en x/\Q x y.1)
  (hf:DataW.trod enc P w base spare held fuel t cs=some y):∃v xs,cs=[v]/\C8 en k w v xs/\((∀n∈y.1.weights P t,n<=reachBytes)->xs.length*P.bytesOf e<=reachBytes)/\∀x∈xs, ∃d,Q x d/\((∀n∈y.1.weights P t,n<=reachBytes)->∀n∈d.weights P e,n<=reachBytes):=by
 rcases open_slice ht hf with ⟨rfl,hx⟩|⟨a,len,cap,m,n,D,Pl,rfl,hb,hl,hm,hmm,hx,hi⟩
 ·exact⟨_,[],rfl,⟨none,0,rfl,by simp,fun i hi=>absurd hi (Nat.not_lt_zero _)⟩,fun _=>by simp,fun x hx=>(by cases hx)⟩
 ·have hlm:len<=m:=by rw[hmm];split <;> omega
  have hex:∀i, ∃x:α,i<len->Q x (D i)/\∀j u,(en x)[j]? = some u->w.cell? ((a.add (i*k)).add j)=some u:=fun i=>by
   by_cases hil:i<len
   ·obtain⟨cs',hc,ht'⟩:=hi i (by omega);rw[hC]at hc;obtain⟨_,hcl,hat⟩:=World.cells?_some hc;obtain⟨x,rfl,hq⟩:=hE n cs' _ hcl ht';refine⟨x,fun _=>⟨hq,fun j u hj=>?_⟩⟩;have hjk:j<k:=by have:=(List.getElem?_eq_some_iff.1 hj).1;rwa [hk]at this
    rw[hat j hjk];exact hj
   ·exact⟨x0,fun h=>absurd h hil⟩
  obtain⟨f,hf'⟩:=Classical.axiomOfChoice hex;have hll:((List.range len).map f).length=len:=by simp
  have hy:y.1=.slice ((List.range len).map D) ((List.range (m-len)).map fun j=>D (len+j)):=by rw[hx]
  have hwt:y.1.weights P t=(((List.range len).map D).length+((List.range (m-len)).map fun j=>D (len+j)).length)*P.bytesOf e::(DataW.weightsAll P e ((List.range len).map D)++DataW.weightsAll P e ((List.range (m-len)).map fun j=>D (len+j))):=by rw[hy];simp[DataW.weights,ht]
  refine⟨_,(List.range len).map f,rfl,⟨some a,cap,by rw[hll],by rw[hll];unfold maxLen at hm;omega,fun i hi2=>?_⟩,fun hB=>?_,fun x hx=>?_⟩
  ·rw[hll]at hi2;have hspot:a.spot=none:=by have hc:=(hf' 0 (by omega)).2;have h1:(en (f 0))[0]? = some ((en (f 0))[0]'(by rw[hk];exact h0)):=jG _;have:=World.cell?_spot (hc 0 _ h1);simpa[Addr.add]using this
   obtain⟨b,off,spot⟩:=a;simp only at hspot;subst hspot;refine⟨b,off,rfl,fun j u hj=>?_⟩;have e1:((List.range len).map f)[i]=f i:=by simp
   rw[e1]at hj;have:=(hf' i hi2).2 j u hj;rwa [Addr.add_lit,Addr.add_lit]at this
  ·rw[hwt]at hB;have:=hB _ (List.mem_cons_self ..);rw[hll];refine Nat.le_trans (Nat.mul_le_mul_right _ ?_) this;simp
  ·obtain⟨i,hi,rfl⟩:=List.mem_map.1 hx;have hil:=List.mem_range.1 hi;refine⟨D i,(hf' i hil).1,fun hB n hn=>?_⟩;rw[hwt]at hB;refine hB n (List.mem_cons_of_mem _ (List.mem_append_left _ (FI7 (i:=i) (by simpa using hil) ?_)));simpa using hn
end
section
variable{H:Type}{enc:TypeId×Value->H}{w:World}{base:Nat}{spare:Nat->Bool}{held:Bool}
theorem Pc7:Tryz.prog.bytesOf 22=24:=by kernel_rfl
abbrev gg4:Opn:=⟨0,0,0,⟨#[]⟩,⟨#[]⟩,⟨#[]⟩,⟨#[]⟩,0,0,0,false,0⟩
theorem open_opnss{r:Reach}{b0:Nat}{v:Value}{d:DataW H}{p:List MemPlace}
  (hv:Value.okWide Tryz.prog w r b0 55 v) (h:DataW.Trod enc Tryz.prog w base spare held 55 v d p) (hB:∀n∈d.weights Tryz.prog 55,n<=reachBytes):∃l:List (List Opn),at4 Opn.cells 12 w v l/\l.length*24<=140737488351232:=by
 obtain⟨a0,len,cap,rfl⟩:=okWide_slice Tryz.underlying55 hv;obtain⟨fuel,hf⟩:=h
 obtain⟨v,xs,h1,h2,h4,h3⟩:=Da7 (fun p:Value×List Opn=>[p.1]) (.slice none 0 0,[]) (fun p d=>C8 Opn.cells 12 w p.1 p.2) (fun _=>rfl) (by decide) Tryz.underlying55 (by kernel_rfl)
  (fun n cs y _ h=>by obtain⟨v,xs,g1,g2,g3,_⟩:=Da7 Opn.cells gg4 (fun _ _=>True) Opn.len (by decide) Tryz.underlying22 (by kernel_rfl) (fun n cs y _ h=>by obtain⟨a,e⟩:=Hx7 h;exact⟨a,e,trivial⟩) h;exact⟨(v,xs),g1,g2⟩) hf
 simp[Value.cells]at h1;subst h1;refine⟨xs.map (·.2),⟨xs,rfl,h2,fun p hp=>?_⟩,?_⟩
 ·obtain⟨d,g1,_⟩:=h3 p hp;exact g1
 ·have:=h4 hB;rw[Pc7]at this;rw[jM];exact this
end
end Go.Proofs.YtienbkdjkjbelaaGreat
end
section
namespace Go.Proofs.YtienbkdjkjbelaaGreat
open Go.RowKit Go.Sl
def fi4(xs:List Opn)(i:Nat):Prop:=∀j (h:j<xs.length),j<i->cF4 xs j h=true
theorem QI7{xs:List Opn}{i:Nat}(h:fi4 xs i)(hi:i<xs.length)(h1:cF4 xs i hi=true):fi4 xs (i+1):=fun j hj hl=>by
 by_cases e:j=i
 ·subst e;exact h1
 ·exact h j hj (by omega)
def TwR(W:World)(L:List HP)(F:Nat->HP)(xs:List Opn)(v:Value)(w:World):Prop:=
 ∃i:Nat,v=.I i/\i<=xs.length/\fi4 xs i/\St W (F i::L) w
theorem IZ7{evs:List Evn}{xs:List Opn}(hx:evs.map (·.op)=xs)(hlen:xs.length<=150)(v:Value)(V:World)(hv:C8 Evn.cells 14 V v evs)(W w:World)(Lr:List HP)(hS:St W (Old V::Lr) w):
  Calls Tryz.prog 14 #[v] w fun e w'=>∃n:Int,e=.returned (.I n)/\TwI xs n/\St W (Old V::Lr) w':=by
 obtain⟨a,cap,rfl,hact⟩:=hv.evn;have hl0:evs.length=xs.length:=by rw[<-hx,jM]
 have Ha:=jH hact;have Hx:=jH hx;rw[hl0];have Hl:=jH hl0;clear hact hv hx hl0;go_enter Tryz.func14,Tryz.ntmps14;go_wp2_with(first|go_big_skip|go_at_call 26;refine(Ft7 W _ _ hS).mono ?_;clear hS;rintro e w ⟨eb,rfl,hS⟩)
 go_loopw [11] (fun v1 wr=>TwR W (Old V::Lr) (fun i=>ecP eb (l6 (xs.take i) ec0)) xs v1 wr) (fun v1 _=>xs.length-(intOf v1).toNat)
 case atStart=>exact⟨0,rfl,Nat.zero_le _,fun _ _ h=>absurd h (Nat.not_lt_zero _),hS⟩
 case round=>
  clear hS;obtain⟨i,rfl,hi,hD,hS⟩:=hrel;by_cases hil:i<xs.length
  ·have hd1:decide (i<xs.length)=true:=decide_eq_true hil;obtain⟨pb,poff,rfl,hall⟩:=Ha.out i (by rw[Hl.out];exact hil);obtain⟨_,hop⟩:=IW7 Hx.out (i:=i) (by rw[Hl.out];exact hil);have hok:EOk (l6 (xs.take i) ec0) i:=(CZ7 xs i hi).ok.ok;have hrun:=Ep7 hil ec0;have hdn:cF4 xs i hil=(B6 (l6 (xs.take i) ec0) xs[i]).2.1:=rfl;simp only at hS;generalize l6 (xs.take i) ec0=e1 at hS hok hrun hdn;rw[<-hop]at hrun hdn;clear hop;generalize evs[i]'(by rw[Hl.out];exact hil)=x at hall hrun hdn;obtain⟨zn,ix,kd,cl,sq,ak,aw,tk,tw,it,ct,pr,bu,id⟩:=x;simp only[Evn.cells,Opn.cells]at hall;obtain⟨⟨⟨r0,r1,⟨r2,r3,r4,r5⟩⟩,rb,e2⟩,h1⟩:∃z,B6 e1 ⟨kd,cl,sq,ak,aw,tk,tw,it,ct,pr,bu,id⟩=z:=⟨_,rfl⟩
   rw[h1]at hrun hdn;have H1:=jH h1;have Hrun:=jH hrun;have Hdn:=jH hdn;have Hok:=jH hok;have HD:=jH hD;clear hrun hdn hi h1 hok hD
   cases rb with
   | true=>
    go_wp2_with(first|go_big_skip|refine zlN hS ?_ (vs:=[.I zn,.I ix,.I kd,.I cl,.I sq,.string ak,.string aw,.string tk,.string tw,.I it,.I ct,.I pr,.bool bu,.I id]) (hc:=by exact d8.old (by exact aR4) hall)|(fail_if_success (have:=gA));(refine zal hS ?_;clear hS;have gA:Nat:=0;intro bA w hS)|(have:=gA);refine zal hS ?_;clear hS;intro bB w hS|refine zsN hS ?_;clear hS;intro w hS|go_at_call 27;(have hS9:=hS.s (ecP eb e1::blk bA [.I zn,.I ix,.I kd,.I cl,.I sq,.string ak,.string aw,.string tk,.string tw,.I it,.I ct,.I pr,.bool bu,.I id] 76::Old V::Lr));clear hS;refine Calls.mono (DO7 Hok.out (by omega) H1.out W _ _ hS9) ?_;clear hS9;rintro ex w ⟨_,rfl,hS⟩|refine zlN hS ?_ (vs:=[.I kd,.I cl,.I sq,.string ak,.string aw,.string tk,.string tw,.I it,.I ct,.I pr,.bool bu,.I id]) (hc:=by exact d8.here rfl)|refine zlN hS ?_|refine zl1 hS ?_);go_roundw
    case rel=>
     refine⟨i+1,rfl,hil,QI7 HD.out hil Hdn.out,?_⟩;show St W (ecP eb (l6 (xs.take (i+1)) ec0)::Old V::Lr) w
     rw[Hrun.out];exact hS.s _
    case measure=>simp[intOf];omega
   | false=>
    go_wp2_with(first|go_big_skip|refine zlN hS ?_ (vs:=[.I zn,.I ix,.I kd,.I cl,.I sq,.string ak,.string aw,.string tk,.string tw,.I it,.I ct,.I pr,.bool bu,.I id]) (hc:=by exact d8.old (by exact aR4) hall)|(fail_if_success (have:=gA));(refine zal hS ?_;clear hS;have gA:Nat:=0;intro bA w hS)|(have:=gA);refine zal hS ?_;clear hS;intro bB w hS|refine zsN hS ?_;clear hS;intro w hS|go_at_call 27;(have hS9:=hS.s (ecP eb e1::blk bA [.I zn,.I ix,.I kd,.I cl,.I sq,.string ak,.string aw,.string tk,.string tw,.I it,.I ct,.I pr,.bool bu,.I id] 76::Old V::Lr));clear hS;refine Calls.mono (DO7 Hok.out (by omega) H1.out W _ _ hS9) ?_;clear hS9;rintro ex w ⟨_,rfl,hS⟩|refine zlN hS ?_ (vs:=[.I kd,.I cl,.I sq,.string ak,.string aw,.string tk,.string tw,.I it,.I ct,.I pr,.bool bu,.I id]) (hc:=by exact d8.here rfl)|refine zlN hS ?_|refine zl1 hS ?_);go_ret;exact⟨_,rfl,.inr ⟨i,rfl,hil,Hdn.out,fun j hj=>HD.out j (by omega) hj⟩,hS.s _⟩
  ·have hd1:decide (i<xs.length)=false:=decide_eq_false hil;have HD:=jH hD;clear hD;have hi2:xs.length<=i:=by omega
   clear hi hil;go_wp2_with(first|go_big_skip);go_ret;exact⟨_,rfl,.inl ⟨rfl,fun j hj=>HD.out j hj (by omega)⟩,hS.drop⟩
end Go.Proofs.YtienbkdjkjbelaaGreat
end
