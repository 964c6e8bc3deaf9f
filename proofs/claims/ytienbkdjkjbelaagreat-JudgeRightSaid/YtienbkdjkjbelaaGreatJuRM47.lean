/-
  JudgeRight.
-/
import Derived.Test.YtienbkdjkjbelaaGreatJuRM5
import Derived.Test.YtienbkdjkjbelaaGreatJuRM46
set_option maxHeartbeats 16000000
set_option maxRecDepth 100000
set_option linter.unusedSimpArgs false
set_option linter.unusedVariables false
section
namespace Go.Proofs.YtienbkdjkjbelaaGreat
open Go.RowKit Go.Sl
def WrR(W:World)(L:List HP)(xs:List Opn)(v9 v10:Value)(w:World):Prop:=
 ∃i:Nat,v10=.I i/\i<=xs.length/\St W (row v9 18 38 ((m7 xs).take i).length (((m7 xs).take i).flatMap Ans.cells)::L) w
theorem IF7{xs:List Opn}{i:Nat}(h:i<xs.length):∃h2:i<(m7 xs).length,(m7 xs)[i]=⟨xs[i],(p8 (A8 (xs.take i) ec0) xs[i]).1⟩:=by
 have h2:i<(m7 xs).length:=by rw[Cy7];exact h
 refine⟨h2,?_⟩;have:=Lb7 h;rw[jG h2]at this;exact Option.some.inj this
theorem Oa7{xs:List Opn}{n:Int}(h:TwI xs n)(hn:n<0):(∀i (hi:i<xs.length),ar4 xs i hi=true)/\TwI xs (-1):=by
 rcases h with ⟨h1,h2⟩|⟨i,h1,_⟩
 ·exact⟨h2,.inl ⟨rfl,h2⟩⟩
 ·omega
theorem OD7{e:Ec}{n:Nat}{o:Opn}(hE:EOk e n)(he:cc4 e)(h:(p8 e o).2.1=true):0<=(p8 e o).1.id/\(p8 e o).1.id<=1099511627776:=by
 cases hp:A7 e o with
 | mk r b=>
  cases b with
  | true=>rw[BE7 hp]at h;cases h
  | false=>
   obtain⟨rfl,_⟩:=AT7 hp;rw[AM7 hp];obtain⟨g1,_⟩:=IC7 hE he o.ak;have h2:=Nb7 (o:=o) g1.ok g1.n0;exact⟨h2.i0,h2.i1⟩
theorem dm4{W w:World}{L:List HP}{g n c k:Nat}{T:TypeId}{cs:List Value}(h:St W (row (.S g n c) k T n cs::L) w):∃junk,n<=c/\c<=maxLen/\(cs++junk).length=c*k/\cs.length=n*k/\St W (blk g (cs++junk) T::L) w:=by
 rcases h.rowOpen with ⟨hv,_⟩|⟨g',cap,junk,hv,hn1,hm1,hj1,hl1,hS'⟩
 ·cases hv
 ·injection hv with e1 e2 e3
  injection e1 with e1
  injection e1 with e1
  subst e1 e3;exact⟨junk,hn1,hm1,hj1,hl1,hS'⟩
theorem St.sliceO{α:Type}{enc:α->List Value}{k g c:Nat}{T:TypeId}{xs:List α}{junk:List Value}{W w:World}{L R:List HP}(henc:∀x,(enc x).length=k)(ht:Take L (blk g (xs.flatMap enc++junk) T) R)(h63:xs.length<=9223372036854775807)(hS:St W L w):C9 enc k w (.S g xs.length c) xs:=by
 refine⟨some ⟨g,0,none⟩,c,rfl,h63,fun i hi=>⟨g,0,rfl,fun j u hj=>?_⟩⟩;have hjk:j<k:=by have:=(List.getElem?_eq_some_iff.1 hj).1;rwa [henc]at this
 rw[Nat.zero_add];exact(hS.take ht).cell .head (by rw[AY7 henc xs junk i hi j hjk];exact hj)
theorem rightJ_spec(xs:List Opn)(v:Value)(z:Int)(V:World)(hv:C9 Opn.cells 12 V v xs)(W w:World)(Lr:List HP)(hS:St W (Old V::Lr) w):
  Calls Tryz.prog 4 #[v,.I z] w fun e w'=>e=.returned (.bool true)/\St W (Old V::Lr) w':=by
 have Hv:=jH hv;obtain⟨a,cap,rfl,h63,hact⟩:=hv.opn;have Ha:=jH hact;clear hact hv;go_enter Tryz.func4,Tryz.ntmps4;go_wp2_with(first|go_big_skip|(go_at_call 7;refine(MJ7 Hv.out W _ _ hS).mono ?_;clear hS;rintro e w ⟨hv9,h150,rfl,hS⟩;cases hv9))
 rotate_left
 ·go_ret;exact⟨rfl,hS⟩
 have hlen:xs.length<=150:=by first|exact h150 rfl|exact h150 trivial
 clear h150;go_wp2_with(first|go_big_skip|go_at_call 8;refine(Hg7 xs hlen _ V Hv.out W _ _ hS).mono ?_;clear hS;rintro e w ⟨va,vb,rfl,hS⟩|go_at_call 12;refine(Lm7 (AL7 xs) hlen (T:=77) (evs:=E5 xs) (by exact i7) hS).mono ?_;clear hS;rintro e w ⟨vs,xb,rfl,hS⟩;obtain⟨sa,sc,rfl⟩:=hS.rowVal);have hS1:=(hS.s (ba4 (.slice sa (l9 xs ec0).length sc) (l9 xs ec0)::Old V::evR 76 va (E5 xs)::evR 77 vb (E5 xs)::Lr)).rowNil (k:=18) (T:=38);clear hS;have hS:=hS1;clear hS1
 go_loopw [9,10] (fun v1 v2 wr=>WrR W (ba4 (.slice sa (l9 xs ec0).length sc) (l9 xs ec0)::Old V::evR 76 va (E5 xs)::evR 77 vb (E5 xs)::Lr) xs v1 v2 wr) (fun _ v2 _=>xs.length-(intOf v2).toNat)
 case atStart=>exact⟨0,rfl,Nat.zero_le _,hS⟩
 case round=>
  clear hS;obtain⟨i,rfl,hi,hS⟩:=hrel;by_cases hil:i<xs.length
  ·have hd1:decide (i<xs.length)=true:=decide_eq_true hil;obtain⟨pb,poff,rfl,hA⟩:=Ha.out i hil;have hall:=hA.all;clear hA;obtain⟨h2,hye⟩:=IF7 hil;have htk:=List.take_succ_eq_append_getElem h2;have hal:((m7 xs).take i).length=i:=by rw[jT];omega
   have hrl:i<(l9 xs ec0).length:=by rw[AE7];exact hil
   have hd2:decide (i<(l9 xs ec0).length)=true:=decide_eq_true hrl;have hre:(l9 xs ec0)[i]=(p8 (A8 (xs.take i) ec0) xs[i]).1:=by have hrp:=Ds7 xs hil ec0;rw[jG hrl]at hrp;exact Option.some.inj hrp
   obtain⟨⟨g,rfl⟩,hcap,hcn⟩:=St.rowAddr hS.drop (by omega);have hrep:∀{K K':List HP},Take K (ba4 (.S g (l9 xs ec0).length sc) (l9 xs ec0)) K'->d8 K g (i*6) (l9 xs ec0)[i].cells:=fun hu=>d8.elemM Rpl.len6 hu hrl
   simp only[hre]at hrep;rw[hye]at htk;clear hre hye;generalize (m7 xs).take i=acc at hS htk hal;generalize (p8 (A8 (xs.take i) ec0) xs[i]).1=r at hrep htk;generalize xs[i]=x at hall htk;obtain⟨kd,cl,sq,ak,aw,tk,tw,it,ct,pr,bu,id⟩:=x;obtain⟨r0,r1,⟨r2,r3,r4,r5⟩⟩:=r;simp only[Opn.cells]at hall;simp only[Rpl.cells,It.cells]at hrep;have Htk:=jH htk;have a1:acc.length<=i:=by omega
   obtain⟨ma,mc,rfl⟩:=hS.rowVal;clear htk hal hi h2;generalize l9 xs ec0=rs at hS hrep hd2 hrl hcn;go_wp2_with(first|go_big_skip);refine rf2 [0,0,0,6,14,0,0,96,224,510,1022,2047,4095] (fun i=>i==10||i==11) [⟨some 10,none,fun nd=>J5 (nd 10) 1 1 [.I kd,.I cl,.I sq,.string ak,.string aw,.string tk,.string tw,.I it,.I ct,.I pr,.bool bu,.I id,.I r0,.I r1,.I r2,.I r3,.I r4,.I r5] 38⟩,⟨some 11,none,fun nd=>row (nd 11) 18 38 (acc.length+1) (acc.flatMap Ans.cells++[.I kd,.I cl,.I sq,.string ak,.string aw,.string tk,.string tw,.I it,.I ct,.I pr,.bool bu,.I id,.I r0,.I r1,.I r2,.I r3,.I r4,.I r5])⟩] [some 11,none,none] hS ?_;intro nd
   iterate 4 (refine cR ?_)
   (refine zcN ?_ (vs:=[.I kd,.I cl,.I sq,.string ak,.string aw,.string tk,.string tw,.I it,.I ct,.I pr,.bool bu,.I id]) (hc:=by(intro F;first|exact d8.old (.tail (.tail .head)) hall|exact d8.old (.tail .head) hall|exact d8.old .head hall)))
   iterate 3 (refine cR ?_)
   (refine zcN ?_ (vs:=[.I r0,.I r1,.I r2,.I r3,.I r4,.I r5]) (hc:=by(intro F;exact hrep (by exact w8))));refine cR ?_;apply ai4;rfl;rfl;rfl;(focus(simp only[fD,fI,fJ,Act.eval,fE,fF,fG,fH,fK];try rfl));(exact esS);(exact rsS);rfl;rfl;rfl;rfl;(intro _;rfl);rfl;(intro _;rfl);(refine frS ?_);apply Ag7;rfl;rfl;rfl;(focus((conv=>lhs;whnf);try rfl));(focus((conv=>lhs;whnf);try rfl));(exact esS);(exact rsS);rfl;decide;rfl;(intro F w hS;exact Aw7 hS (by exact w8));(focus(try rfl));rfl;(focus(unfold maxLen;omega));(focus omega);(intro _;rfl);(intro _;rfl);(refine frS ?_);refine cR ?_;refine Ad7 ?_;clear hS;intro w hS;have hS2:St W [J5 (nd 10) _ _ _ _,row (nd 11) 18 _ _ _,ba4 _ _,Old V,sats _] w:=hS;clear hS;have hS3:=hS2.unpack [_,_,_,_];clear hS2;simp only[jK,jN]at hS3;have hS:=hS3.drop;clear hS3;generalize nd 11=v9 at *;go_wp2_with fail;go_roundw
   case rel=>
    refine⟨i+1,rfl,hil,?_⟩;rw[Htk.out];exact bz4 (enc:=Ans.cells) (y:=(⟨⟨kd,cl,sq,ak,aw,tk,tw,it,ct,pr,bu,id⟩,⟨r0,r1,⟨r2,r3,r4,r5⟩⟩⟩:Ans)) hS rfl
   case measure=>simp[intOf];omega
  ·have hd1:decide (i<xs.length)=false:=decide_eq_false hil;have hi2:i=xs.length:=by omega
   rw[hi2,<-Cy7,List.take_length]at hS;obtain⟨ma,mc,rfl⟩:=hS.rowVal;have hS1:=hS.s (row (.slice ma (m7 xs).length mc) 18 38 (m7 xs).length ((m7 xs).flatMap Ans.cells)::Old V::evR 76 va (E5 xs)::evR 77 vb (E5 xs)::Lr);clear hi hi2 hil hS;have hS:=hS1;clear hS1;have hal:(m7 xs).length<=150:=by rw[Cy7];exact hlen
   go_wp2_with(first|go_big_skip|go_at_call 13;refine(Ln7 (AL7 xs) hlen (T:=77) (evs:=E5 xs) (by exact i7) hS).mono ?_;clear hS;rintro e w ⟨n1,rfl,hn1,hS⟩;have Hn1:=jH hn1;clear hn1;by_cases hn0:(0:Int)<=n1|go_at_call 11;refine(CH7 W _ _ hS).mono ?_;clear hS;rintro e w ⟨rfl,hS⟩|refine zbs hS ?_;clear hS;intro bX w hS)
   ·go_ret;exact⟨rfl,hS.s _⟩
   obtain⟨hdone,hm1⟩:=Oa7 Hn1.out hn0;have Hm1:=jH hm1;have Hdone:=jH hdone;clear hdone hm1 Hn1 hn0;have hr1:D9 (okA xs (l9 xs ec0)) ([m7 xs]:List (List Ans)).flatten 0 = -1:=by rw[show([m7 xs]:List (List Ans)).flatten=m7 xs by simp];exact Le7 Hdone.out
   have Hr1:=jH hr1;have ht1:([m7 xs]:List (List Ans)).flatten.length<=1000000:=by simp;omega
   have Ht1:=jH ht1;clear hr1 ht1;by_cases h0:(m7 xs).length=0
   ·have hd2:(((m7 xs).length:Int)==0)=true:=by rw[beq_iff_eq];omega
    have H0:=jH h0;clear h0;go_wp2_with(first|go_big_skip|(fail_if_success (have:=gL));go_at_call 9;refine(Cl7 (AL7 xs) hlen (T:=76) (evs:=E5 xs) (by exact i7) (xss:=[m7 xs]) ⟨[(.slice ma (m7 xs).length mc,m7 xs)],rfl,St.sliceB (b:=bX) (fun _=>rfl) .head (by rfl) (by rfl) (by decide) hS,fun p hp=>by(obtain rfl:=List.mem_singleton.1 hp;exact St.sliceV Ans.len (hS.take (by exact i7)))⟩ Ht1.out Hr1.out hS).mono ?_;clear hS;rintro e w ⟨rfl,hS⟩|go_at_call 14;refine(EQ7 (AL7 xs) hlen (T:=76) (evs:=E5 xs) (by exact i7) hS).mono ?_;clear hS;rintro e w ⟨n2,rfl,hn2,hS⟩;obtain rfl:=FU7 hn2 Hm1.out;clear hn2|go_at_call 11;refine(CH7 W _ _ hS).mono ?_;clear hS;rintro e w ⟨rfl,hS⟩);go_ret;exact⟨rfl,hS.s _⟩
   have hd2:(((m7 xs).length:Int)==0)=false:=beq_eq_false_iff_ne.2 (by omega);have hx0:0<(m7 xs).length:=by omega
   clear h0;obtain⟨⟨mg,rfl⟩,mcap,mcn⟩:=St.rowAddr hS.drop (by omega);obtain⟨junk,jn1,jm1,jj1,jl1,hS0⟩:=dm4 hS.swap;clear hS;have hS:=hS0.swap;clear hS0;obtain⟨j0,hj0⟩:∃j0:Nat,z%65536=j0:=⟨(z%65536).toNat,by omega⟩
   have hz16:bits .and .i64 z 65535=((j0:Nat):Int):=by rw[fh4,hj0]
   have hjl:j0%(m7 xs).length<(m7 xs).length:=Nat.mod_lt _ hx0;clear hj0;have hm16:((j0%(m7 xs).length:Nat):Int)=(j0:Int)%((m7 xs).length:Int):=Int.natCast_emod _ _;have hjx:j0%(m7 xs).length<xs.length:=by have:=Cy7 xs;omega
   obtain⟨_,hye⟩:=IF7 hjx;have hstF:∀(u:Int),((m7 xs).flatMap Ans.cells++junk).set ((j0%(m7 xs).length)*18+12+1) (.I u)=((m7 xs).set (j0%(m7 xs).length) ⟨xs[j0%(m7 xs).length],⟨(p8 (A8 (xs.take (j0%(m7 xs).length)) ec0) xs[j0%(m7 xs).length]).1.err,u,(p8 (A8 (xs.take (j0%(m7 xs).length)) ec0) xs[j0%(m7 xs).length]).1.has⟩⟩).flatMap Ans.cells++junk:=fun u=>Gk7 Ans.len (m7 xs) junk (j0%(m7 xs).length) 13 hjl _ _ (by decide) (by rw[hye];rfl)
   have hcell:∀(L:List HP),i6 (blk mg ((m7 xs).flatMap Ans.cells++junk) 38::L) mg ((j0%(m7 xs).length)*18+12+1) (.I (p8 (A8 (xs.take (j0%(m7 xs).length)) ec0) xs[j0%(m7 xs).length]).1.id):=fun L=>i6.here ((AY7 Ans.len (m7 xs) junk (j0%(m7 xs).length) hjl 13 (by decide)).trans (by rw[hye];rfl))
   have hrt:∀u:Int,u≠(p8 (A8 (xs.take (j0%(m7 xs).length)) ec0) xs[j0%(m7 xs).length]).1.id->D9 (okA xs (l9 xs ec0)) ([(m7 xs).set (j0%(m7 xs).length) ⟨xs[j0%(m7 xs).length],⟨(p8 (A8 (xs.take (j0%(m7 xs).length)) ec0) xs[j0%(m7 xs).length]).1.err,u,(p8 (A8 (xs.take (j0%(m7 xs).length)) ec0) xs[j0%(m7 xs).length]).1.has⟩⟩]:List (List Ans)).flatten 0=(j0:Int)%((m7 xs).length:Int):=fun u hu=>by rw[show([(m7 xs).set (j0%(m7 xs).length) ⟨xs[j0%(m7 xs).length],⟨(p8 (A8 (xs.take (j0%(m7 xs).length)) ec0) xs[j0%(m7 xs).length]).1.err,u,(p8 (A8 (xs.take (j0%(m7 xs).length)) ec0) xs[j0%(m7 xs).length]).1.has⟩⟩]:List (List Ans)).flatten=_ from List.append_nil _,<-hm16];exact Hc7 Hdone.out hjx fun e=>hu (by rw[<-e])
   have hoff:j0%(m7 xs).length*18+12+1<((m7 xs).flatMap Ans.cells++junk).length:=by rw[jA,Ab7 Ans.len];generalize j0%(m7 xs).length=q at hjl;generalize (m7 xs).length=n9 at hjl;clear hz16;omega
   have Hoff:=jH hoff;clear hoff;have hjq:=DM7 xs (j0%(m7 xs).length) (by omega);obtain⟨hb0,hb1⟩:=OD7 hjq.ok.ok hjq.each (Hdone.out (j0%(m7 xs).length) hjx);clear hjq;generalize (p8 (A8 (xs.take (j0%(m7 xs).length)) ec0) xs[j0%(m7 xs).length]).1=r at hstF hcell hrt hb0 hb1;generalize xs[j0%(m7 xs).length]=x at hstF hrt;obtain⟨rr0,r1,rr2⟩:=r;dsimp only at hstF hcell hrt hb0 hb1;have HstF:=jH hstF;have Hcell:=jH hcell;have Hrt:=jH hrt;have Hm16:=jH hm16;clear hstF hcell hrt hm16 hye hjx;go_wp2_with(first|go_big_skip|(fail_if_success (have:=gL));go_at_call 9;refine(Cl7 (AL7 xs) hlen (T:=76) (evs:=E5 xs) (by exact i7) (xss:=[m7 xs]) ⟨[(.S mg (m7 xs).length mc,m7 xs)],rfl,St.sliceB (b:=bX) (fun _=>rfl) .head (by rfl) (by rfl) (by decide) hS,fun p hp=>by(obtain rfl:=List.mem_singleton.1 hp;exact St.sliceO Ans.len (.tail .head) (by omega) hS)⟩ Ht1.out Hr1.out hS).mono ?_;clear hS;rintro e w ⟨rfl,hS⟩|go_at_call 14;refine(EQ7 (AL7 xs) hlen (T:=76) (evs:=E5 xs) (by exact i7) hS).mono ?_;clear hS;rintro e w ⟨n2,rfl,hn2,hS⟩;obtain rfl:=FU7 hn2 Hm1.out;clear hn2|refine zl1 hS ?_ (hc:=by exact i6.there (Hcell.out _));have gL:Nat:=0|((with_reducible apply EX7 hS);rfl;rfl;rfl;(focus((conv=>lhs;whnf);try rfl));kernel_rfl;rfl;rfl;exact cy4;exact Hoff.out;rfl;clear hS;intro w hS;try(refine frS ?_))|refine zbs hS ?_;clear hS;intro bY w hS);obtain⟨u,hu⟩:∃u:Int,u=r1+1:=⟨_,rfl⟩
   have hS1:=hS.s (blk bY _ _::blk mg _ _::Old V::evR 76 va (E5 xs)::evR 77 vb (E5 xs)::Lr);have hS2:=hS1;rw[<-hu]at hS2;rw[HstF.out]at hS2;have hun:u≠r1:=by omega
   have hr2:=Hrt.out u hun;have hml:((m7 xs).set (j0%(m7 xs).length) ⟨x,⟨rr0,u,rr2⟩⟩).length=(m7 xs).length:=List.length_set ..;generalize (m7 xs).set (j0%(m7 xs).length) ⟨x,⟨rr0,u,rr2⟩⟩=M at hS2 hr2 hml;have hS3:=St.rowShut (cap:=mc) (n:=(m7 xs).length) (k:=18) hS2.swap (by omega) jm1 (by rw[jA,Ab7 Ans.len,hml];rw[jA,Ab7 Ans.len]at jj1;exact jj1) (by rw[Ab7 Ans.len,hml]);have Hr2:=jH hr2;have ht2:([M]:List (List Ans)).flatten.length<=1000000:=by simp;omega
   have Ht2:=jH ht2;have hsl:C9 Ans.cells 18 w (.S mg (m7 xs).length mc) M:=by have h9:=hS3;rw[<-hml]at h9;have h8:=St.sliceV Ans.len h9;rwa [hml]at h8
   have Hsl:=jH hsl;clear hS hS1 hS2 hr2 ht2 hsl hu hun;have hS:=hS3.swap;clear hS3;go_wp2_with(first|go_big_skip|go_at_call 9;refine(Cl7 (AL7 xs) hlen (T:=76) (evs:=E5 xs) (by exact i7) (xss:=[M]) ⟨[(.S mg (m7 xs).length mc,M)],rfl,St.sliceB (b:=bY) (fun _=>rfl) .head (by rfl) (by rfl) (by decide) hS,fun p hp=>by(obtain rfl:=List.mem_singleton.1 hp;exact Hsl.out)⟩ Ht2.out Hr2.out hS).mono ?_;clear hS;rintro e w ⟨rfl,hS⟩|go_at_call 11;refine(CH7 W _ _ hS).mono ?_;clear hS;rintro e w ⟨rfl,hS⟩);go_ret;exact⟨rfl,hS.s _⟩
end Go.Proofs.YtienbkdjkjbelaaGreat
end
