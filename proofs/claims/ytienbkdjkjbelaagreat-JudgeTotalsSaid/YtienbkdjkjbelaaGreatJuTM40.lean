/-
  The document's Peek.
-/
import Derived.Test.YtienbkdjkjbelaaGreatJuTM5
import Derived.Test.YtienbkdjkjbelaaGreatJuTM28
import Derived.Test.YtienbkdjkjbelaaGreatJuTM37
import Derived.Test.YtienbkdjkjbelaaGreatJuTM39
set_option maxHeartbeats 16000000
set_option maxRecDepth 100000
set_option linter.unusedSimpArgs false
set_option linter.unusedVariables false
section
namespace Go.Proofs.YtienbkdjkjbelaaGreat
open Go.RowKit Go.Sl
def psD:List (Int×(Int×Rpl))->Int->Int->Rpl×Bool
 | [],_,_=>(rp0,false)
 | x::l,c,q=>if x.1=c then(if q<x.2.1 then(⟨13,0,it0⟩,true)else if q=x.2.1 then(x.2.2,true)else psD l c q)else psD l c q
theorem Px7{c q:Int}:∀{l:List (Int×(Int×Rpl))},(∀x∈l,x.1≠c)->psD l c q=(rp0,false)
 | [],_=>rfl
 | x::l,h=>by rw[psD,if_neg (h x (List.mem_cons_self ..))];exact Px7 fun y hy=>h y (List.mem_cons_of_mem _ hy)
theorem Py7{c q:Int}:∀{l:List (Int×(Int×Rpl))},(l.map (·.1)).Nodup->psD l c q=match j6 l c with
  | none=>(rp0,false)
  | some (q2,r)=>if q<q2 then(⟨13,0,it0⟩,true)else if q=q2 then(r,true)else(rp0,false)
 | [],_=>rfl
 | x::l,hn=>by
  rw[List.map_cons,List.nodup_cons]at hn;rw[psD,DH7];by_cases hx:x.1=c
  ·rw[if_pos hx,if_pos hx];obtain⟨x1,q2,r⟩:=x;simp only at hx ⊢;have hno:∀y∈l,y.1≠c:=fun y hy e=>hn.1 (List.mem_map.2 ⟨y,hy,e.trans hx.symm⟩)
   rw[Px7 hno]
  ·rw[if_neg hx,if_neg hx];exact Py7 hn.2
def aK4(d:Ec)(o:Opn):Rpl×Bool:=
 if w6 o=false then(⟨1,0,it0⟩,true)
 else if o.kind=6 then(rp0,(j6 d.ar (o.client,o.seq)).isSome)
 else if o.kind=7 then(rp0,decide (fdI d.ts (o.client,o.seq)<0))
 else psD d.ss o.client o.seq
theorem DN7{κ ν:Type}[DecidableEq κ](k:κ):∀l:List (κ×ν),decide (fdI l k<0)=(j6 l k).isNone
 | []=>by simp[fdI,j6]
 | x::l=>by
  have ih:=DN7 k l;have h:=HT7 k l;rw[fdI,DH7];by_cases hx:x.1=k
  ·rw[if_pos hx,if_pos hx];simp
  ·rw[if_neg hx,if_neg hx,<-ih];by_cases h0:fdI l k<0
   ·rw[if_pos h0];simp[h0]
   ·rw[if_neg h0,decide_eq_false h0];simp;omega
theorem JT7{d:Ec}(hn:(d.ss.map (·.1)).Nodup)(o:Opn):aK4 d o=G7 d o:=by unfold aK4 G7;rw[DN7,Py7 hn];rfl
abbrev xeL(xb:Nat)(v1 v2 v3 v4:Value)(d:Ec)(R:List HP):List HP:=xeB xb v1 v2 v3 v4::xsP v2 d.ss::xtP v3 d.ts::xmP v4 d.ar::R
section
variable{d:Ec}{xb:Nat}{v1 v2 v3 v4:Value}{kd cl sq:Int}{ak aw tk tw:ByteArray}{it ct pr:Int}{bu:Bool}{id:Int}{W w:World}{R:List HP}
theorem OE7(hm:w6 ⟨kd,cl,sq,ak,aw,tk,tw,it,ct,pr,bu,id⟩=false)(hS:St W (xeL xb v1 v2 v3 v4 d R) w):
  Calls Tryz.prog 56 #[.P xb,oV kd cl sq ak aw tk tw it ct pr bu id] w fun e w'=>e=.returned (.tuple #[rV 1 0 0 0 0 0,.bool true])/\St W (xeL xb v1 v2 v3 v4 d R) w':=by
 have Hm:=jH hm;clear hm;go_enter Tryz.func56,Tryz.ntmps56;go_wp2_with(first|refine zbx hS ?_;clear hS;intro bO w hS|refine zal hS ?_;clear hS;intro bR w hS|refine zlN hS ?_|refine zsN hS ?_;clear hS;intro w hS|go_at_call 96;refine(GH7 Hm.out W _ _ hS).mono ?_;clear hS;rintro e w ⟨rfl,hS⟩);apply Ac7;rfl;rfl;rfl;rfl;exact hS;decide +kernel;(exact r6);kernel_rfl;exact⟨rfl,hS.drop.drop⟩
theorem MO7(hm:w6 ⟨6,cl,sq,ak,aw,tk,tw,it,ct,pr,bu,id⟩=true){b:Bool}(hb:(j6 d.ar (cl,sq)).isSome=b)(hS:St W (xeL xb v1 v2 v3 v4 d R) w):
  Calls Tryz.prog 56 #[.P xb,oV 6 cl sq ak aw tk tw it ct pr bu id] w fun e w'=>e=.returned (.tuple #[rV 0 0 0 0 0 0,.bool b])/\St W (xeL xb v1 v2 v3 v4 d R) w':=by
 have Hm:=jH hm;clear hm;have Hb:=jH hb;clear hb;go_enter Tryz.func56,Tryz.ntmps56;go_wp2_with(first|refine zbx hS ?_;clear hS;intro bO w hS|refine zal hS ?_;clear hS;intro bR w hS|refine zl1 hS ?_|refine zlN hS ?_|refine zsN hS ?_;clear hS;intro w hS|go_at_call 96;refine(GH7 Hm.out W _ _ hS).mono ?_;clear hS;rintro e w ⟨rfl,hS⟩|go_at_call 34;refine(DI7 d.ar cl sq Hb.out xb v1 v2 v3 v4 W _ _ (hS.s (xeB xb v1 v2 v3 v4::xmP v4 d.ar::xsP v2 d.ss::xtP v3 d.ts::blk bR _ _::blk bO _ _::R))).mono ?_;clear hS;rintro e w ⟨rfl,hS⟩);apply Ac7;rfl;rfl;rfl;rfl;exact hS;decide +kernel;(exact r6);kernel_rfl;exact⟨rfl,hS.s _⟩
theorem IS7(hm:w6 ⟨7,cl,sq,ak,aw,tk,tw,it,ct,pr,bu,id⟩=true)(hk:TsK d.ts)(hS:St W (xeL xb v1 v2 v3 v4 d R) w):
  Calls Tryz.prog 56 #[.P xb,oV 7 cl sq ak aw tk tw it ct pr bu id] w fun e w'=>e=.returned (.tuple #[rV 0 0 0 0 0 0,.bool (decide (fdI d.ts (cl,sq)<0))])/\St W (xeL xb v1 v2 v3 v4 d R) w':=by
 have Hm:=jH hm;clear hm;obtain⟨r,hr⟩:∃r,fdI d.ts (cl,sq)=r:=⟨_,rfl⟩
 rw[hr];have Hr:=jH hr;clear hr;go_enter Tryz.func56,Tryz.ntmps56;go_wp2_with(first|refine zbx hS ?_;clear hS;intro bO w hS|refine zal hS ?_;clear hS;intro bR w hS|refine zl1 hS ?_|refine zlN hS ?_|refine zsN hS ?_;clear hS;intro w hS|go_at_call 96;refine(GH7 Hm.out W _ _ hS).mono ?_;clear hS;rintro e w ⟨rfl,hS⟩|go_at_call 60;refine(FB7 d.ts hk cl sq Hr.out xb v1 v2 v3 v4 W _ _ (hS.s (xeB xb v1 v2 v3 v4::xtP v3 d.ts::xsP v2 d.ss::xmP v4 d.ar::blk bR _ _::blk bO _ _::R))).mono ?_;clear hS;rintro e w ⟨rfl,hS⟩);apply Ac7;rfl;rfl;rfl;rfl;exact hS;decide +kernel;(exact r6);kernel_rfl;exact⟨rfl,hS.s _⟩
def PkR(W:World)(L:List HP)(ss:List (Int×(Int×Rpl)))(c q:Int)(r:Rpl×Bool)(v:Value)(w:World):Prop:=
 ∃i:Nat,v=.I i/\i<=ss.length/\psD (ss.drop i) c q=r/\St W L w
theorem KO7(hm:w6 ⟨kd,cl,sq,ak,aw,tk,tw,it,ct,pr,bu,id⟩=true)(h6:kd≠6)(h7:kd≠7){r0 r1 r2 r3 r4 r5:Int}{b:Bool}(hp:psD d.ss cl sq=(⟨r0,r1,⟨r2,r3,r4,r5⟩⟩,b))(hS:St W (xeL xb v1 v2 v3 v4 d R) w):
  Calls Tryz.prog 56 #[.P xb,oV kd cl sq ak aw tk tw it ct pr bu id] w fun e w'=>e=.returned (.tuple #[rV r0 r1 r2 r3 r4 r5,.bool b])/\St W (xeL xb v1 v2 v3 v4 d R) w':=by
 have Hm:=jH hm;have Hp:=jH hp;clear hm hp;have d6:(kd==6)=false:=by simpa using h6
 have d7:(kd==7)=false:=by simpa using h7
 clear h6 h7;obtain⟨a,cap,rfl⟩:=hS.drop.rowVal
 have h63:d.ss.length<=9223372036854775807:=by
  rcases St.rowCase hS.drop with ⟨_,h0,_⟩|⟨_,_,h1,h2⟩
  ·omega
  ·omega
 go_enter Tryz.func56,Tryz.ntmps56;go_wp2_with(first|refine zbx hS ?_;clear hS;intro bO w hS|refine zal hS ?_;clear hS;intro bR w hS|refine zl1 hS ?_|refine zlN hS ?_|go_at_call 96;refine(GH7 Hm.out W _ _ hS).mono ?_;clear hS;rintro e w ⟨rfl,hS⟩);have hS1:=hS.s (xeB xb v1 (.slice a d.ss.length cap) v3 v4::xsP (.slice a d.ss.length cap) d.ss::blk bR _ _::blk bO _ _::xtP v3 d.ts::xmP v4 d.ar::R);clear hS;have hS:=hS1;clear hS1;generalize hss:d.ss=ss at hS Hp h63;have Hss:=jH hss;clear hss
 go_loopw [6] (fun v wr=>PkR W (xeB xb v1 (.slice a ss.length cap) v3 v4::xsP (.slice a ss.length cap) ss::blk bR [.I 0,.I 0,.I 0,.I 0,.I 0,.I 0] 36::blk bO [.I kd,.I cl,.I sq,.string ak,.string aw,.string tk,.string tw,.I it,.I ct,.I pr,.bool bu,.I id] 31::xtP v3 d.ts::xmP v4 d.ar::R) ss cl sq (⟨r0,r1,⟨r2,r3,r4,r5⟩⟩,b) v wr) (fun v _=>ss.length-(intOf v).toNat)
 case atStart=>exact⟨0,rfl,Nat.zero_le _,Hp.out,hS⟩
 case round=>
  clear hS Hp;obtain⟨i,rfl,hil,e1,hS⟩:=hrel;by_cases hin:i=ss.length
  ·subst hin;rw[List.drop_length]at e1;have e2:((rp0,false):Rpl×Bool)=(⟨r0,r1,⟨r2,r3,r4,r5⟩⟩,b):=e1
   injection e2 with e2 e3
   injection e2 with e4 e5 e6
   injection e6 with e6 e7 e8 e9
   subst e3 e4 e5 e6 e7 e8 e9;clear e1;go_wp2_with(first|refine zl1 hS ?_|refine zsN hS ?_;clear hS;intro w hS);apply Ac7;rfl;rfl;rfl;rfl;exact hS;decide +kernel;(exact r6);kernel_rfl;rw[<-Hss.out]at hS;exact⟨rfl,hS.s _⟩
  ·have hi1:i<ss.length:=by omega
   obtain⟨⟨g,rfl⟩,_,_⟩:=St.rowAddr hS.drop (by omega);have hcl:∀{K K':List HP},Take K (xsP (.S g ss.length cap) ss) K'->i6 K g (i*8) (.I ss[i].1):=fun hu=>d8.elemM (enc:=seC) AO7 hu hi1 0 _ rfl
   have hsq:∀{K K':List HP},Take K (xsP (.S g ss.length cap) ss) K'->i6 K g (i*8+1) (.I ss[i].2.1):=fun hu=>d8.elemM (enc:=seC) AO7 hu hi1 1 _ rfl
   have hrp:∀{K K':List HP},Take K (xsP (.S g ss.length cap) ss) K'->d8 K g (i*8+2) [.I ss[i].2.2.err,.I ss[i].2.2.id,.I ss[i].2.2.has.x0,.I ss[i].2.2.has.x1,.I ss[i].2.2.has.x2,.I ss[i].2.2.has.x3]:=fun hu j v hj=>by have h:=d8.elemM (enc:=seC) AO7 hu hi1 (2+j) v (by rw[Nat.add_comm];exact hj);rwa [<-Nat.add_assoc]at h
   have hdr:ss.drop i=ss[i]::ss.drop (i+1):=List.drop_eq_getElem_cons hi1;rw[hdr,psD]at e1;generalize ss[i]=x at hcl hsq hrp e1;obtain⟨xc,xq,⟨y0,y1,⟨y2,y3,y4,y5⟩⟩⟩:=x;simp only at hcl hsq hrp e1;clear hdr;by_cases hx:xc=cl
   ·have dx:(xc==cl)=true:=by simpa using hx
    rw[if_pos hx]at e1;clear hx;by_cases hq:sq<xq
    ·have dq:decide (sq<xq)=true:=by simpa using hq
     rw[if_pos hq]at e1
     injection e1 with e2 e3
     injection e2 with e4 e5 e6
     injection e6 with e6 e7 e8 e9
     subst e3 e4 e5 e6 e7 e8 e9;clear hq;go_wp2_with(first|refine zl1 hS ?_);refine Aa7 (by kernel_rfl) (by kernel_rfl) hS ?_;refine qR ?_;refine zqn ?_;refine qR ?_;refine zq1 ?_
     iterate 3 (refine qR ?_)
     (apply Ar7;rfl;rfl;rfl;decide +kernel;exact hcl (by exact i7);refine frS ?_);refine qR ?_;refine zq1 ?_;refine qR ?_;clear hS;intro w hS;go_wp2_with(fail);refine Aa7 (by kernel_rfl) (by kernel_rfl) hS ?_;refine qR ?_;refine zq1 ?_;refine qR ?_;refine zqn ?_;refine qR ?_;refine zq1 ?_
     iterate 3 (refine qR ?_)
     (apply Ar7;rfl;rfl;rfl;decide +kernel;exact hsq (by exact i7);refine frS ?_);refine qR ?_;clear hS;intro w hS;go_wp2_with(first|refine zsN hS ?_;clear hS;intro w hS);apply Ac7;rfl;rfl;rfl;rfl;exact hS;decide +kernel;(exact r6);kernel_rfl;rw[<-Hss.out]at hS;exact⟨rfl,hS.s _⟩
    ·have dq:decide (sq<xq)=false:=by simpa using hq
     rw[if_neg hq]at e1;clear hq;by_cases he:sq=xq
     ·have de:(sq==xq)=true:=by simpa using he
      rw[if_pos he]at e1
      injection e1 with e2 e3
      injection e2 with e4 e5 e6
      injection e6 with e6 e7 e8 e9
      subst e3 e4 e5 e6 e7 e8 e9;clear he;go_wp2_with(first|refine zl1 hS ?_);refine Aa7 (by kernel_rfl) (by kernel_rfl) hS ?_;refine qR ?_;refine zqn ?_;refine qR ?_;refine zq1 ?_
      iterate 3 (refine qR ?_)
      (apply Ar7;rfl;rfl;rfl;decide +kernel;exact hcl (by exact i7);refine frS ?_);refine qR ?_;refine zq1 ?_;refine qR ?_;clear hS;intro w hS;go_wp2_with(fail);refine Aa7 (by kernel_rfl) (by kernel_rfl) hS ?_;refine qR ?_;refine zq1 ?_;refine qR ?_;refine zqn ?_;refine qR ?_;refine zq1 ?_
      iterate 3 (refine qR ?_)
      (apply Ar7;rfl;rfl;rfl;decide +kernel;exact hsq (by exact i7);refine frS ?_);refine qR ?_;clear hS;intro w hS;go_wp2_with(fail);refine Aa7 (by kernel_rfl) (by kernel_rfl) hS ?_;refine qR ?_;refine zq1 ?_;refine qR ?_;refine zqn ?_;refine qR ?_;refine zq1 ?_
      iterate 3 (refine qR ?_)
      (apply Ar7;rfl;rfl;rfl;decide +kernel;exact hsq (by exact i7);refine frS ?_);refine qR ?_;clear hS;intro w hS;go_wp2_with(first|refine zl1 hS ?_|refine zlN hS ?_ (hc:=by exact hrp (by exact i7))|refine zsN hS ?_;clear hS;intro w hS);apply Ac7;rfl;rfl;rfl;rfl;exact hS;decide +kernel;(exact r6);kernel_rfl;rw[<-Hss.out]at hS;exact⟨rfl,hS.s _⟩
     ·have de:(sq==xq)=false:=by simpa using he
      rw[if_neg he]at e1;have E1:=jH e1;clear he e1;go_wp2_with(first|refine zl1 hS ?_);refine Aa7 (by kernel_rfl) (by kernel_rfl) hS ?_;refine qR ?_;refine zqn ?_;refine qR ?_;refine zq1 ?_
      iterate 3 (refine qR ?_)
      (apply Ar7;rfl;rfl;rfl;decide +kernel;exact hcl (by exact i7);refine frS ?_);refine qR ?_;refine zq1 ?_;refine qR ?_;clear hS;intro w hS;go_wp2_with(fail);refine Aa7 (by kernel_rfl) (by kernel_rfl) hS ?_;refine qR ?_;refine zq1 ?_;refine qR ?_;refine zqn ?_;refine qR ?_;refine zq1 ?_
      iterate 3 (refine qR ?_)
      (apply Ar7;rfl;rfl;rfl;decide +kernel;exact hsq (by exact i7);refine frS ?_);refine qR ?_;clear hS;intro w hS;go_wp2_with(fail);refine Aa7 (by kernel_rfl) (by kernel_rfl) hS ?_;refine qR ?_;refine zq1 ?_;refine qR ?_;refine zqn ?_;refine qR ?_;refine zq1 ?_
      iterate 3 (refine qR ?_)
      (apply Ar7;rfl;rfl;rfl;decide +kernel;exact hsq (by exact i7);refine frS ?_);refine qR ?_;clear hS;intro w hS;go_wp2_with(fail);go_roundw
      case rel=>exact⟨i+1,rfl,hi1,E1.out,hS⟩
      case measure=>simp[intOf];omega
   ·have dx:(xc==cl)=false:=by simpa using hx
    rw[if_neg hx]at e1;have E1:=jH e1;clear hx e1;go_wp2_with(first|refine zl1 hS ?_);refine Aa7 (by kernel_rfl) (by kernel_rfl) hS ?_;refine qR ?_;refine zqn ?_;refine qR ?_;refine zq1 ?_
    iterate 3 (refine qR ?_)
    (apply Ar7;rfl;rfl;rfl;decide +kernel;exact hcl (by exact i7);refine frS ?_);refine qR ?_;refine zq1 ?_;refine qR ?_;clear hS;intro w hS;go_wp2_with(fail);go_roundw
    case rel=>exact⟨i+1,rfl,hi1,E1.out,hS⟩
    case measure=>simp[intOf];omega
end
def clV(l:List (ByteArray×Vs)):List (ByteArray×Vs):=l.filter fun x=>!A5 x.2
def dn4{ν:Type}(l:List ((Int×Int)×ν))(k:Int×Int)(v:ν):List ((Int×Int)×ν):=l.take (plI ltW l k)++(k,v)::l.drop (plI ltW l k)
def rmI{α:Type}(l:List α)(i:Int):List α:=l.take i.toNat++l.drop (i.toNat+1)
def vsD(d:Ec)(o:Opn):List (ByteArray×Vs):=clV (if o.kind=7 then d.vs else plS ltB d.vs o.ak (doV (atV d o.ak) o).2)
def ssD(d:Ec)(o:Opn)(r:Rpl):List (Int×(Int×Rpl)):=if o.kind=6\/o.kind=7 then d.ss else plS ltI d.ss o.client (o.seq,r)
def tsD(d:Ec)(o:Opn)(r:Rpl):List ((Int×Int)×Tns):=
 if o.kind=2/\r.err=0 then dn4 d.ts (o.client,o.seq) (cW4 o)else if o.kind=7 then rmI d.ts (fdI d.ts (o.client,o.seq))else d.ts
def arD(d:Ec)(o:Opn):List ((Int×Int)×Unit):=if o.kind=6 then dn4 d.ar (o.client,o.seq) ()else d.ar
def M7(d:Ec)(o:Opn):Rpl×Bool×Ec:=
 if(aK4 d o).2=true then((aK4 d o).1,false,d)
 else((doV (atV d o.ak) o).1,true,⟨vsD d o,ssD d o (doV (atV d o.ak) o).1,tsD d o (doV (atV d o.ak) o).1,arD d o⟩)
section
variable{κ ν:Type}[DecidableEq κ]
theorem CQ7{l l':List (κ×ν)}(h:l.Perm l')(k:κ):(i9 l k).Perm (i9 l' k):=h.filter _
theorem MP7{l:List ((Int×Int)×ν)}{k:Int×Int}{v:ν}(h:Asc ltW l)(hk:j6 l k=none):dn4 l k v=plS ltW l k v:=by
 have hb:plB ltW l k=false:=by rw[Mz7 AA7 h,hk];rfl
 unfold dn4 plS;rw[hb];rfl
theorem fW4{l:List (κ×ν)}{k:κ}(h:(l.map (·.1)).Nodup)(hk:(j6 l k).isSome=true):rmI l (fdI l k)=i9 l k:=by
 induction l with
 | nil=>cases hk
 | cons x l ih=>
  rw[List.map_cons,List.nodup_cons]at h;rw[DH7]at hk;have e:i9 (x::l) k=if x.1=k then i9 l k else x::i9 l k:=by unfold i9;rw[List.filter_cons];by_cases hx:x.1=k <;> simp[hx]
  rw[e,fdI];by_cases hx:x.1=k
  ·have h0:∀y∈l,y.1≠k:=fun y hy e=>h.1 (List.mem_map.2 ⟨y,hy,e.trans hx.symm⟩)
   rw[if_pos hx,if_pos hx,By7 h0];rfl
  ·rw[if_neg hx]at hk;have hn:=DN7 k l;have hs:¬fdI l k<0:=by rw[Option.isNone_eq_false_iff.2 hk]at hn;simpa using hn
   rw[if_neg hx,if_neg hx,if_neg hs,<-ih h.2 hk];have:(fdI l k+1).toNat=(fdI l k).toNat+1:=by omega
   unfold rmI;rw[this];rfl
end
theorem Qt7{l l':List (ByteArray×Vs)}(h:l.Perm l'):(clV l).Perm (clV l'):=h.filter _
theorem MQ7{l:List (ByteArray×Vs)}(h:∀x∈l,A5 x.2=false):clV l=l:=List.filter_eq_self.2 fun x hx=>by rw[h x hx];rfl
theorem fX4(l:List (ByteArray×Vs)):∀x∈clV l,A5 x.2=false:=fun x hx=>by have:=(List.mem_filter.1 hx).2;simpa using this
theorem Rp7{l:List (ByteArray×Vs)}(h:Asc ltB l):Asc ltB (clV l):=h.sublist List.filter_sublist
structure SimE(d e:Ec):Prop where
 v:d.vs.Perm e.vs
 s:d.ss.Perm e.ss
 t:d.ts.Perm e.ts
 a:d.ar.Perm e.ar
 va:Asc ltB d.vs
 sa:Asc ltI d.ss
 ta:Asc ltW d.ts
 aa:Asc ltW d.ar
 ne:∀x∈d.vs,A5 x.2=false
 tk:TsK d.ts
 old:∀x∈d.ts, ∃q r,j6 d.ss x.1.1=some (q,r)/\x.1.2<=q
theorem gE4:SimE ec0 ec0:=⟨.nil,.nil,.nil,.nil,.nil,.nil,.nil,.nil,fun _ h=>(by cases h),fun _ h=>(by cases h),fun _ h=>(by cases h)⟩
section
variable{d e:Ec}
theorem SimE.vn(h:SimE d e):(d.vs.map (·.1)).Nodup:=BG7 Bx7 h.va
theorem SimE.sn(h:SimE d e):(d.ss.map (·.1)).Nodup:=BG7 EM7 h.sa
theorem SimE.tn(h:SimE d e):(d.ts.map (·.1)).Nodup:=BG7 AA7 h.ta
theorem SimE.an(h:SimE d e):(d.ar.map (·.1)).Nodup:=BG7 AA7 h.aa
theorem SimE.at(h:SimE d e)(k:ByteArray):atV d k=atV e k:=by unfold atV;rw[AF7 h.vn h.v]
theorem SimE.peek(h:SimE d e)(o:Opn):aK4 d o=G7 e o:=by rw[JT7 h.sn];unfold G7;rw[AF7 h.an h.a,AF7 h.tn h.t,AF7 h.sn h.s]
theorem MR7(hn:(e.vs.map (·.1)).Nodup)(hne:∀x∈e.vs,A5 x.2=false)(k:ByteArray):(bf4 e k (atV e k)).vs.Perm e.vs:=by
 unfold bf4;show(if A5 (atV e k)=true then i9 e.vs k else(k,atV e k)::i9 e.vs k).Perm e.vs
 unfold atV
 cases hg:j6 e.vs k with
 | none=>
  rw[if_pos (by rfl),By7 (Bz7 hg)]
 | some V=>
  have h1:=hne _ (AE7 hg);rw[if_neg (by rw[show((some V).getD vs0:Vs)=V from rfl,h1];exact Bool.noConfusion)];exact(Bq7 hn hg).symm
theorem Qu7(h:SimE d e)(k:ByteArray)(V:Vs):(clV (plS ltB d.vs k V)).Perm (bf4 e k V).vs:=by
 refine(Qt7 (Dz7 Bx7 h.va)).trans ?_;have h1:∀x∈i9 d.vs k,A5 x.2=false:=fun x hx=>h.ne x (List.mem_filter.1 hx).1
 have h2:clV ((k,V)::i9 d.vs k)=if A5 V=true then i9 d.vs k else(k,V)::i9 d.vs k:=by
  have h3:=MQ7 h1;unfold clV at h3 ⊢;rw[List.filter_cons,h3];by_cases hn:A5 V=true
  ·rw[if_pos hn,if_neg (by simpa using hn)]
  ·rw[if_neg hn,if_pos (by simpa using hn)]
 rw[h2];show(if A5 V=true then i9 d.vs k else(k,V)::i9 d.vs k).Perm (if A5 V=true then i9 e.vs k else(k,V)::i9 e.vs k)
 split
 ·exact CQ7 h.v k
 ·exact(CQ7 h.v k).cons _
theorem Qv7(h:SimE d e){o:Opn}(hp:(G7 e o).2=true):M7 d o=((B6 e o).1,(B6 e o).2.1,d)/\(B6 e o).2.2=e:=by unfold M7 B6;rw[h.peek,if_pos hp,if_pos hp];exact⟨rfl,rfl⟩
theorem Qw7(h:SimE d e){o:Opn}(hp:G7 e o=(rp0,false)):(M7 d o).1=(B6 e o).1/\(M7 d o).2.1=(B6 e o).2.1/\SimE (M7 d o).2.2 (B6 e o).2.2:=by
 have hD:M7 d o=((doV (atV e o.ak) o).1,true,⟨vsD d o,ssD d o (doV (atV e o.ak) o).1,tsD d o (doV (atV e o.ak) o).1,arD d o⟩):=by unfold M7;rw[h.peek,hp,h.at];rfl
 rw[hD,CN7 hp];refine⟨rfl,rfl,?_⟩;generalize hr:(doV (atV e o.ak) o).1=r;have hen:∀x∈e.vs,A5 x.2=false:=fun x hx=>h.ne x (h.v.mem_iff.2 hx)
 have hvn:(e.vs.map (·.1)).Nodup:=(h.v.map _).nodup_iff.1 h.vn;have hpk:=hp;unfold G7 at hpk;have hm:w6 o=true:=(Br7 hp).2;rw[if_neg (by rw[hm];exact Bool.noConfusion)]at hpk
 have hv:(vsD d o).Perm (bf4 e o.ak (doV (atV e o.ak) o).2).vs/\Asc ltB (vsD d o):=by
  unfold vsD;by_cases h7:o.kind=7
  ·rw[if_pos h7];have h8:(doV (atV e o.ak) o).2=atV e o.ak:=by unfold doV;rw[h7];rfl
   rw[h8,MQ7 h.ne];exact⟨h.v.trans (MR7 hvn hen o.ak).symm,h.va⟩
  ·rw[if_neg h7,h.at];exact⟨Qu7 h _ _,Rp7 (GA7 Bx7 h.va)⟩
 have hs:(ssD d o r).Perm (doS e o r)/\Asc ltI (ssD d o r):=by
  unfold ssD doS;split
  ·exact⟨h.s,h.sa⟩
  ·exact⟨(Dz7 EM7 h.sa).trans ((CQ7 h.s _).cons _),GA7 EM7 h.sa⟩
 have hno:o.kind≠6->o.kind≠7->∀q r,j6 d.ss o.client=some (q,r)->q<o.seq:=by
  intro h6 h7 q r hg;rw[if_neg h6,if_neg h7,<-AF7 h.sn h.s,hg]at hpk;simp only at hpk;by_cases h1:o.seq<q
  ·rw[if_pos h1]at hpk;cases hpk
  ·rw[if_neg h1]at hpk;by_cases h2:o.seq=q
   ·rw[if_pos h2]at hpk;cases hpk
   ·omega
 have ht:(tsD d o r).Perm (doT e o r)/\Asc ltW (tsD d o r)/\TsK (tsD d o r):=by
  unfold tsD doT;by_cases h2:o.kind=2/\r.err=0
  ·rw[if_pos h2,if_pos h2]
   have hg:j6 d.ts (o.client,o.seq)=none:=by
    cases hg:j6 d.ts (o.client,o.seq)with
    | none=>rfl
    | some t=>
     obtain⟨q,r,h3,h4⟩:=h.old _ (AE7 hg);have:=hno (by rw[h2.1];decide) (by rw[h2.1];decide) q r h3;simp only at h4;omega
   rw[MP7 h.ta hg];refine⟨(Dz7 AA7 h.ta).trans ((CQ7 h.t _).cons _),GA7 AA7 h.ta,fun x hx=>?_⟩;rcases List.mem_cons.1 ((Dz7 AA7 h.ta).mem_iff.1 hx)with rfl|hx
   ·rfl
   ·exact h.tk x (List.mem_filter.1 hx).1
  ·rw[if_neg h2,if_neg h2];by_cases h7:o.kind=7
   ·rw[if_pos h7,if_pos h7];rw[if_neg (by rw[h7];decide),if_pos h7,<-AF7 h.tn h.t]at hpk;have hg:(j6 d.ts (o.client,o.seq)).isSome=true:=by have:=congrArg Prod.snd hpk;simpa using this
    rw[fW4 h.tn hg];exact⟨CQ7 h.t _,h.ta.sublist List.filter_sublist,fun x hx=>h.tk x (List.mem_filter.1 hx).1⟩
   ·rw[if_neg h7,if_neg h7];exact⟨h.t,h.ta,h.tk⟩
 have ha:(arD d o).Perm (doA e o)/\Asc ltW (arD d o):=by
  unfold arD doA;by_cases h6:o.kind=6
  ·rw[if_pos h6,if_pos h6];rw[if_pos h6,<-AF7 h.an h.a]at hpk;have hg:j6 d.ar (o.client,o.seq)=none:=by have:=congrArg Prod.snd hpk;simpa using this
   rw[MP7 h.aa hg];exact⟨(Dz7 AA7 h.aa).trans ((CQ7 h.a _).cons _),GA7 AA7 h.aa⟩
  ·rw[if_neg h6,if_neg h6];exact⟨h.a,h.aa⟩
 have hold:∀x∈tsD d o r, ∃q s,j6 (ssD d o r) x.1.1=some (q,s)/\x.1.2<=q:=by
  intro x hx
  have hx2:(x.1=(o.client,o.seq)/\o.kind=2)\/x∈d.ts:=by
   have hx3:=ht.1.mem_iff.1 hx;unfold doT at hx3;split at hx3
   ·rename_i h2
    rcases List.mem_cons.1 hx3 with rfl|hx3
    ·exact .inl ⟨rfl,h2.1⟩
    ·exact .inr (h.t.mem_iff.2 (List.mem_filter.1 hx3).1)
   ·split at hx3
    ·exact .inr (h.t.mem_iff.2 (List.mem_filter.1 hx3).1)
    ·exact .inr (h.t.mem_iff.2 hx3)
  have hss:∀c,j6 (ssD d o r) c=if o.kind=6\/o.kind=7 then j6 d.ss c else if o.client=c then some (o.seq,r)else j6 d.ss c:=by
   intro c;rw[AF7 (BG7 EM7 hs.2) hs.1];unfold doS;split
   ·rw[AF7 h.sn h.s]
   ·rw[JI7,AF7 h.sn h.s]
  rw[hss]
  rcases hx2 with ⟨hx2,h2⟩|hx2
  ·rw[if_neg (by rw[h2];decide),hx2,if_pos rfl];exact⟨_,_,rfl,Int.le_refl _⟩
  ·obtain⟨q,s,h3,h4⟩:=h.old x hx2;split
   ·exact⟨q,s,h3,h4⟩
   ·rename_i h67
    split
    ·rename_i hc
     refine⟨_,_,rfl,?_⟩;rw[<-hc]at h3;have:=hno (fun h=>h67 (.inl h)) (fun h=>h67 (.inr h)) q s h3;omega
    ·exact⟨q,s,h3,h4⟩
 exact⟨hv.1,hs.1,ht.1,ha.1,hv.2,hs.2,ht.2.1,ha.2,fX4 _,ht.2.2,hold⟩
theorem MS7(h:SimE d e)(o:Opn):(M7 d o).1=(B6 e o).1/\(M7 d o).2.1=(B6 e o).2.1/\SimE (M7 d o).2.2 (B6 e o).2.2:=by
 cases hp:G7 e o with
 | mk r b=>
  cases b with
  | true=>
   obtain⟨h1,h2⟩:=Qv7 h (o:=o) (by rw[hp]);rw[h1,h2];exact⟨rfl,rfl,h⟩
  | false=>
   obtain⟨rfl,_⟩:=Br7 hp;exact Qw7 h hp
end
end Go.Proofs.YtienbkdjkjbelaaGreat
end
