/-
  The library's contracts laid at this program.
-/
import Derived.Test.YtlmhakmoioogaaaGreatEconCuM5
import Derived.Test.YtlmhakmoioogaaaGreatEconCuM20
import Derived.Test.YtlmhakmoioogaaaGreatEconCuM25
import Derived.Test.YtlmhakmoioogaaaGreatEconCuM26
import Derived.Test.YtlmhakmoioogaaaGreatEconCuM35
import Derived.Test.YtlmhakmoioogaaaGreatEconCuM42
import Derived.Test.YtlmhakmoioogaaaGreatEconCuM43
import Derived.Test.YtlmhakmoioogaaaGreatProg
import Derived.Shelf.SlIter.Nil
import Derived.Shelf.SlIterI.Nil
import Derived.Shelf.SortM.Plain
import Derived.Shelf.SortM.SortNone
import Derived.Ground.GgzProg
import Derived.Ground.SlgmProg
set_option maxHeartbeats 16000000
set_option maxRecDepth 100000
set_option linter.unusedSimpArgs false
set_option linter.unusedVariables false
section
namespace Go.Proofs.YtlmhakmoioogaaaGreat
open Go.Shelf
def Tryz.keysV_ren:Go.Shelf.Ren:=⟨fun|7=>63|10=>131|n=>n,fun|23=>79|26=>9|3=>100|28=>115|0=>0|27=>114|33=>178|4=>4|n=>n,fun|n=>n⟩
theorem Tryz.keysV:Go.Proofs.SlLaysZ.n7 Tryz.prog Tryz.keysV_ren:={
 mixed:=by kernel_rfl
 f7:=⟨Tryz.f63.name,by decide,Tryz.func63.trans (congrArg some (by kernel_rfl))⟩
 f10:=⟨Tryz.f131.name,by decide,Tryz.func131.trans (congrArg some (by kernel_rfl))⟩
 t0:=Tryz.underlying0
 a0:=Tryz.isAgg0
 z0:=Tryz.sizeOf0
 v0:=Tryz.zeroValue0
 t4:=Tryz.underlying4
 a4:=Tryz.isAgg4
 z4:=Tryz.sizeOf4
 v4:=Tryz.zeroValue4
 t23:=Tryz.underlying79
 a23:=Tryz.isAgg79
 z23:=Tryz.sizeOf79
 v23:=Tryz.zeroValue79
 t26:=Tryz.underlying9
 a26:=Tryz.isAgg9
 z26:=Tryz.sizeOf9
 v26:=Tryz.zeroValue9
 t27:=Tryz.underlying114
 a27:=Tryz.isAgg114
 z27:=Tryz.sizeOf114
 v27:=Tryz.zeroValue114
 t28:=Tryz.underlying115
 a28:=Tryz.isAgg115
 z28:=Tryz.sizeOf115
 v28:=Tryz.zeroValue115
 t33:=Tryz.underlying178
 a33:=Tryz.isAgg178
 z33:=Tryz.sizeOf178
 v33:=Tryz.zeroValue178 }
end Go.Proofs.YtlmhakmoioogaaaGreat
end
section
namespace Go.Proofs.YtlmhakmoioogaaaGreat
open Go.RowKit Go.Sl
def bJ4(l:List Opn)(d:Ec):Ec:=l.foldl (fun d o=>(O8 d o).2.2) d
theorem RV7{xs:List Opn}{i:Nat}(h:i<xs.length)(e:Ec):bg4 (xs.take (i+1)) e=(G8 (bg4 (xs.take i) e) xs[i]).2.2:=by unfold bg4;rw[List.take_succ_eq_append_getElem h,List.foldl_append];rfl
theorem RW7{xs:List Opn}{i:Nat}(h:i<xs.length)(d:Ec):bJ4 (xs.take (i+1)) d=(O8 (bJ4 (xs.take i) d) xs[i]).2.2:=by unfold bJ4;rw[List.take_succ_eq_append_getElem h,List.foldl_append];rfl
theorem RX7(e:Ec)(o:Opn):(G8 e o).2.1=!(D7 e o).2:=by
 unfold G8;by_cases h:(D7 e o).2=true
 ·rw[if_pos h,h];rfl
 ·rw[if_neg h];have:(D7 e o).2=false:=by simpa using h
  rw[this];rfl
theorem GOk.vok{d e:Ec}{n:Nat}(h:GOk d e n)(k:ByteArray):VOk (atV d k).ps (atV d k).n n:=by
 rw[h.sim.at];unfold atV
 cases hg:i9 e.vs k with
 | none=>exact fw4 n
 | some V=>exact h.ok _ (AI7 hg)
def eH4(I:Ec->Nat->Prop):Prop:=∀(e:Ec) (n:Nat) (o:Opn),I e n->(∀x∈e.vs,(∀o∈x.2.L,MayP o)/\x.2.L.length<=32)->(∀x∈(G8 e o).2.2.vs,(∀o∈x.2.L,MayP o)/\x.2.L.length<=32)->EOk (G8 e o).2.2 (n+1)->I (G8 e o).2.2 (n+1)
def GoR(I:Ec->Nat->Prop)(W:World)(Lr:List HP)(eb xb:Nat)(xs:List Opn)(d e:Ec)(n:Nat)(v:Value)(w:World):Prop:=
 ∃i:Nat,v=.I i/\i<=xs.length/\GOk (bJ4 (xs.take i) d) (bg4 (xs.take i) e) (n+i)/\I (bg4 (xs.take i) e) (n+i)/\St W (ecP eb (bg4 (xs.take i) e)::xU6 xb (bJ4 (xs.take i) d)::Lr) w
section
variable{W w:World}{L R:List HP}{eb xb:Nat}{d e:Ec}{i:Nat}{k u:ByteArray}{x0 x1 x2 x3 cl sq:Int}{b:Bool}
theorem atA(ht:Take L (ecP eb e) R)(hx:k9 (atV e k).ps u=⟨x0,x1,x2,x3⟩)(hS:St W L w):
  Calls Tryz.prog 18 #[.P eb,.agg #[.string k,.string u]] w fun x w'=>x=.returned (.agg #[.I x0,.I x1,.I x2,.I x3])/\St W L w':=by
 refine(Lr7 k u hx W w R (hS.take ht)).mono ?_;rintro x w' ⟨rfl,hS⟩;exact⟨rfl,hS.back ht⟩
theorem hA4(ht:Take L (xU6 xb d) R)(hA:Asc ltB d.vs)(hok:VOk (atV d k).ps (atV d k).n i)(hx:k9 (atV d k).ps u=⟨x0,x1,x2,x3⟩)(hS:St W L w):
  Calls Tryz.prog 84 #[.P xb,.agg #[.string k,.string u]] w fun x w'=>x=.returned (.agg #[.I x0,.I x1,.I x2,.I x3])/\St W L w':=by
 refine(gL4 hA k u hok hx (hS.take ht)).mono ?_;rintro x w' ⟨rfl,hS⟩;exact⟨rfl,hS.back ht⟩
theorem hB4(ht:Take L (ecP eb e) R)(hb:(i9 e.ar (cl,sq)).isSome=b)(hS:St W L w):
  Calls Tryz.prog 19 #[.P eb,.I cl,.I sq] w fun x w'=>x=.returned (.bool b)/\St W L w':=by
 refine(Ja7 cl sq hb W w R (hS.take ht)).mono ?_;rintro x w' ⟨rfl,hS⟩;exact⟨rfl,hS.back ht⟩
theorem gM4(ht:Take L (xU6 xb d) R)(hb:(i9 d.ar (cl,sq)).isSome=b)(hS:St W L w):
  Calls Tryz.prog 82 #[.P xb,.I cl,.I sq] w fun x w'=>x=.returned (.bool b)/\St W L w':=by
 refine(MA7 cl sq hb (hS.take ht)).mono ?_;rintro x w' ⟨rfl,hS⟩;exact⟨rfl,hS.back ht⟩
end
theorem Ox7{xb:Nat}{d d2:Ec}{i:Nat}(hi:i<=5000){kd cl sq:Int}{ak aw tk tw:ByteArray}{it ct pr:Int}{bu:Bool}{id:Int}(hd0:DOk d ak i){r0 r1 r2 r3 r4 r5:Int}{b:Bool}(h:O8 d ⟨kd,cl,sq,ak,aw,tk,tw,it,ct,pr,bu,id⟩=(⟨r0,r1,⟨r2,r3,r4,r5⟩⟩,b,d2))(W w:World)(R:List HP)(hS:St W (xU6 xb d::R) w):
  Calls Tryz.prog 21 #[.P xb,oV kd cl sq ak aw tk tw it ct pr bu id] w fun x w'=>x=.returned (.tuple #[rV r0 r1 r2 r3 r4 r5,.bool b])/\St W (xU6 xb d2::R) w':=by
 have h1:=PY7 hi (kd:=kd) (cl:=cl) (sq:=sq) (aw:=aw) (tk:=tk) (tw:=tw) (it:=it) (ct:=ct) (pr:=pr) (bu:=bu) (id:=id) hd0 W w R hS;rw[h]at h1;exact h1
theorem Oy7{eb:Nat}{e e2:Ec}{i:Nat}(hE:EOk e i)(hi:i<=1000000){kd cl sq:Int}{ak aw tk tw:ByteArray}{it ct pr:Int}{bu:Bool}{id:Int}{r0 r1 r2 r3 r4 r5:Int}{b:Bool}(h:G8 e ⟨kd,cl,sq,ak,aw,tk,tw,it,ct,pr,bu,id⟩=(⟨r0,r1,⟨r2,r3,r4,r5⟩⟩,b,e2))(W w:World)(R:List HP)(hS:St W (ecP eb e::R) w):
  Calls Tryz.prog 16 #[.P eb,oV kd cl sq ak aw tk tw it ct pr bu id] w fun x w'=>EOk e2 (i+1)/\x=.returned (.tuple #[rV r0 r1 r2 r3 r4 r5,.bool b])/\St W (ecP eb e2::R) w':=HM7 hE hi h W w R hS
theorem Jg7(xs:List Opn)(hlen:xs.length<=150)(v:Value)(V:World)(hv:bQ4 Opn.cells 12 V v xs){d e:Ec}{n:Nat}(hn:n<=4000)(h:GOk d e n){I:Ec->Nat->Prop}(hI:eH4 I)(hi0:I e n)(eb xb:Nat)(W w:World)(Lr:List HP)(hS:St W (ecP eb e::xU6 xb d::Old V::Lr) w):
  Calls Tryz.prog 32 #[.P eb,.P xb,v] w fun r w'=>r=.returned (.bool true)/\GOk (bJ4 xs d) (bg4 xs e) (n+xs.length)/\I (bg4 xs e) (n+xs.length)/\St W (ecP eb (bg4 xs e)::xU6 xb (bJ4 xs d)::Old V::Lr) w':=by
 obtain⟨a,cap,rfl,h63,hact⟩:=hv.opn;have Ha:=jH hact;have HG0:=jH h;have HI:=jH hI;have HI0:=jH hi0;clear hact hv h hI hi0;go_enter Tryz.func32,Tryz.ntmps32;go_wp2_with(fail)
 go_loopw [7] (fun v wr=>GoR I W (Old V::Lr) eb xb xs d e n v wr) (fun v _=>xs.length-(intOf v).toNat)
 case atStart=>exact⟨0,rfl,Nat.zero_le _,HG0.out,HI0.out,hS⟩
 case round=>
  clear hS;obtain⟨i,rfl,hi,hG,hi1,hS⟩:=hrel;by_cases hend:i=xs.length
  ·subst hend;have d3:decide ((xs.length:Int)<(xs.length:Int))=false:=by simp
   rw[List.take_length]at hS hG hi1;have HG:=jH hG;have HI1:=jH hi1;clear hG hi1;go_wp2_with(fail);go_ret;exact⟨rfl,HG.out,HI1.out,hS⟩
  have hil:i<xs.length:=by omega
  have dil:decide ((i:Int)<(xs.length:Int))=true:=by simp;omega
  have hi6:n+i<=4150:=by omega
  clear hend hi;obtain⟨pb,poff,rfl,hA⟩:=Ha.out i hil;have hall:=hA.all;have hcl:=hA.client;have hsq:=hA.seq
  have hpl:∀(j:Nat) (v:Value),([.string xs[i].ak,.string xs[i].aw]:List Value)[j]? = some v->V.cell? ⟨pb,poff+i*12+3+j,none⟩=some v:=by
   intro j v hj
   match j,hj with
   | 0,hj=>cases hj;exact hA.ak
   | 1,hj=>cases hj;exact hA.aw
   | j+2,hj=>simp at hj
  clear hA;have hs1:=RV7 hil e;have hs2:=RW7 hil d;obtain⟨e1,he⟩:∃z,bg4 (xs.take i) e=z:=⟨_,rfl⟩
  obtain⟨d1,hd⟩:∃z,bJ4 (xs.take i) d=z:=⟨_,rfl⟩
  rw[he]at hG hS hs1 hi1;rw[hd]at hG hS hs2;clear he hd;generalize xs[i]=x at hall hcl hsq hpl hs1 hs2;obtain⟨kd,cl,sq,ak,aw,tk,tw,it,ct,pr,bu,id⟩:=x;simp only[Opn.cells]at hall hcl hsq hpl;obtain⟨⟨⟨p0,p1,⟨p2,p3,p4,p5⟩⟩,pk⟩,hp⟩:∃z,D7 e1 ⟨kd,cl,sq,ak,aw,tk,tw,it,ct,pr,bu,id⟩=z:=⟨_,rfl⟩
  obtain⟨⟨⟨r0,r1,⟨r2,r3,r4,r5⟩⟩,rb,e2⟩,h1⟩:∃z,G8 e1 ⟨kd,cl,sq,ak,aw,tk,tw,it,ct,pr,bu,id⟩=z:=⟨_,rfl⟩
  have hrb:rb=!pk:=by have:=RX7 e1 ⟨kd,cl,sq,ak,aw,tk,tw,it,ct,pr,bu,id⟩;rw[h1,hp]at this;exact this
  have hq:aO4 d1 ⟨kd,cl,sq,ak,aw,tk,tw,it,ct,pr,bu,id⟩=(⟨p0,p1,⟨p2,p3,p4,p5⟩⟩,pk):=by rw[hG.sim.peek,hp]
  obtain⟨d2,hd2⟩:∃z,(O8 d1 ⟨kd,cl,sq,ak,aw,tk,tw,it,ct,pr,bu,id⟩).2.2=z:=⟨_,rfl⟩
  have h2:O8 d1 ⟨kd,cl,sq,ak,aw,tk,tw,it,ct,pr,bu,id⟩=(⟨r0,r1,⟨r2,r3,r4,r5⟩⟩,rb,d2):=by obtain⟨g1,g2,_⟩:=Ko7 hG.sim ⟨kd,cl,sq,ak,aw,tk,tw,it,ct,pr,bu,id⟩;rw[h1]at g1 g2;exact Prod.ext g1 (Prod.ext g2 hd2)
  have hgn:=hG.app ⟨kd,cl,sq,ak,aw,tk,tw,it,ct,pr,bu,id⟩;have hin:=HI.out e1 (n+i) ⟨kd,cl,sq,ak,aw,tk,tw,it,ct,pr,bu,id⟩ hi1;rw[h1]at hs1 hgn hin;rw[h2]at hs2 hgn;dsimp only at hs1 hs2 hgn hin;have hsim2:SimE d2 e2:=by have:=(Ko7 hG.sim ⟨kd,cl,sq,ak,aw,tk,tw,it,ct,pr,bu,id⟩).2.2;rw[h1,h2]at this;exact this
  obtain⟨⟨z0,z1,z2,z3⟩,hz⟩:∃z,k9 (atV e2 ak).ps aw=z:=⟨_,rfl⟩
  have hz2:k9 (atV d2 ak).ps aw=⟨z0,z1,z2,z3⟩:=by rw[hsim2.at];exact hz
  obtain⟨y,hy⟩:∃y,(i9 e2.ar (cl,sq)).isSome=y:=⟨_,rfl⟩
  have hy2:(i9 d2.ar (cl,sq)).isSome=y:=by rw[Ap7 hsim2.an hsim2.a];exact hy
  have Htk:=jH hG.sim.tk;have HG:=jH hG;have Hp:=jH hp;have Hq:=jH hq;have H1:=jH h1;have H2:=jH h2;have G2:=jH hgn;have HIn:=jH hin;have S1:=jH hs1;have S2:=jH hs2;have Hz:=jH hz;have Hz2:=jH hz2;have Hy:=jH hy;have Hy2:=jH hy2;clear hi1 hin hG hp hq h1 h2 hgn hs1 hs2 hz hz2 hy hy2 hd2 hsim2;have heq:((z0==z0)&&((z1==z1)&&((z2==z2)&&(z3==z3))))=true:=by simp
  have hep:Rpl.eqB ⟨p0,p1,⟨p2,p3,p4,p5⟩⟩ ⟨p0,p1,⟨p2,p3,p4,p5⟩⟩=true:=by unfold Rpl.eqB;simp
  have her:Rpl.eqB ⟨r0,r1,⟨r2,r3,r4,r5⟩⟩ ⟨r0,r1,⟨r2,r3,r4,r5⟩⟩=true:=by unfold Rpl.eqB;simp
  subst hrb
  cases pk
  all_goals cases y
  all_goals
   go_wp2_with(first|refine zlN hS ?_ (vs:=[.I kd,.I cl,.I sq,.string ak,.string aw,.string tk,.string tw,.I it,.I ct,.I pr,.bool bu,.I id]) (hc:=by exact i5.old (by exact dd4) hall)|(fail_if_success (have:=gA));(refine zal hS ?_;clear hS;have gA:Nat:=0;intro bA w hS)|(have:=gA);(fail_if_success (have:=gB));(refine zal hS ?_;clear hS;have gB:Nat:=0;intro bB w hS)|(have:=gB);(fail_if_success (have:=gC));(refine zal hS ?_;clear hS;have gC:Nat:=0;intro bC w hS)|(have:=gC);refine zal hS ?_;clear hS;intro bD w hS|refine zsN hS ?_;clear hS;intro w hS|go_at_call 33;refine(RS7 Hp.out (hS.s (ecP eb e1::xU6 xb d1::Old V::Lr))).mono ?_;clear hS;rintro ex w ⟨rfl,hS⟩|go_at_call 48;refine(RR7 Htk.out Hq.out (hS.s (xU6 xb d1::ecP eb e1::blk bA _ _::Old V::Lr))).mono ?_;clear hS;rintro ex w ⟨rfl,hS⟩|go_at_call 16;have hS9:=hS.s (ecP eb e1::xU6 xb d1::blk bB _ _::blk bA _ _::Old V::Lr);clear hS;have hdk:=HG.out.dok (by omega) (EU7 hS9) ak;have Hdk:=jH hdk;clear hdk;have heE:=EU7 hS9;have HeE:=jH heE;clear heE;refine(Oy7 HG.out.ok (by omega) H1.out W _ _ hS9).mono ?_;clear hS9;rintro ex w ⟨hok2,rfl,hS⟩;have Hok2:=jH hok2;clear hok2|go_at_call 21;refine(Ox7 (by omega) Hdk.out H2.out W _ _ (hS.s (xU6 xb d1::ecP eb e2::blk bC _ _::blk bB _ _::blk bA _ _::Old V::Lr))).mono ?_;clear hS;rintro ex w ⟨rfl,hS⟩);have hg2:=G2.out Hok2.out;have HG2:=jH hg2;have HA2:=jH hg2.sim.va;have HV2:=jH (hg2.vok ak);clear hg2;have hS1:=hS.s (ecP eb e2::xU6 xb d2::blk bA _ _::blk bB _ _::blk bC _ _::blk bD _ _::Old V::Lr);have HI2:=jH (HIn.out HeE.out (EU7 hS1) Hok2.out);clear hS;refine Aa7 (by kernel_rfl) (by kernel_rfl) hS1 ?_
   repeat(first|refine zqN ?_|refine zqN ?_ (vs:=[.string ak,.string aw]) (hc:=by exact i5.old (by exact dd4) hpl)|refine zq1 ?_ (hc:=by first|exact i8.old (by exact dd4) hcl|exact i8.old (by exact dd4) hsq)|(apply Le7);rfl;rfl;rfl;rfl;kernel_rfl;exact HN7 hep;simp only[Bool.not_true];refine frS ?_|(apply Le7);rfl;rfl;rfl;rfl;kernel_rfl;exact HN7 her;simp only[Bool.not_true];refine frS ?_|(apply Le7);rfl;rfl;rfl;rfl;kernel_rfl;exact eqI _ _ _ _ _ _ _ _;rw[heq];simp only[Bool.not_true];refine frS ?_|apply Ar7;rfl;intro w;apply Ag7;rfl;decide +kernel;(focus(simp only[fD,fI,fJ,Act.eval,fE,fF,fG,fH,fK];try rfl));intro w hS;exact atA .head Hz.out hS;refine frS ?_|apply Ar7;rfl;intro w;apply Ag7;rfl;decide +kernel;(focus(simp only[fD,fI,fJ,Act.eval,fE,fF,fG,fH,fK];try rfl));intro w hS;exact hA4 (.tail .head) HA2.out HV2.out Hz2.out hS;refine frS ?_|apply Ar7;rfl;intro w;apply Ag7;rfl;decide +kernel;(focus(simp only[fD,fI,fJ,Act.eval,fE,fF,fG,fH,fK];try rfl));intro w hS;exact hB4 .head Hy.out hS;refine frS ?_|apply Ar7;rfl;intro w;apply Ag7;rfl;decide +kernel;(focus(simp only[fD,fI,fJ,Act.eval,fE,fF,fG,fH,fK];try rfl));intro w hS;exact gM4 (.tail .head) Hy2.out hS;refine frS ?_|refine qR ?_)
   clear hS1;intro w hS;go_wp2_with(fail);go_roundw
   case rel=>exact⟨i+1,rfl,hil,by rw[S1.out,S2.out];exact HG2.out,by rw[S1.out];exact HI2.out,by rw[S1.out,S2.out];exact hS.s _⟩
   case measure=>simp[intOf];try omega
end Go.Proofs.YtlmhakmoioogaaaGreat
end
section
namespace Go.Proofs.YtlmhakmoioogaaaGreat
open Go.RowKit Go.Maps Go.Sort Go.Shelf Go.Sl
theorem MB7(mb:Option Nat)(W w:World)(L:List HP)(hS:St W L w):
  Calls Tryz.prog 63 #[.map mb] w fun e w'=>∃g,e=.returned (.func (.func 131) #[] #[.P g])/\St W (blk g [.map mb] 79::L) w':=by
 have cK:CallsIn Fence.wide 5 Tryz.prog 63 #[.map mb] w fun e w'=>e=.returned (.func (.func 131) #[] #[.pointer (some ⟨w.heap.size,0,none⟩)])/\w'=w.alloc (.cells #[.map mb] 79):=AnyZ.keys_in Tryz.keysV Fence.wide 5 trivial rfl mb w
 refine((callsIn_wide (n:=5)).1 cK).mono ?_;rintro e w' ⟨rfl,rfl⟩;exact⟨_,rfl,hS.alloc _⟩
section
variable{ν:Type}{ev:ν->Value}{W w:World}{L:List HP}{b g:Nat}
theorem Jh7{l:List (ByteArray×ν)}(hwf:∀x∈l,x.1.size<=maxLen)(hl:l.length<=1000000000)(hS:St W (blk g [.map (some b)] 79::d8 eS ev b l::L) w):
  Calls Tryz.prog 62 #[.func (.func 131) #[] #[.P g]] w fun e w'=>∃v,e=.returned v/\St W (row v 1 9 l.length ((bi4 (l.map (·.1))).map eS)::d8 eS ev b l::L) w':=by
 obtain⟨D,hD1,hD2,hD3⟩:=eq4 hS.drop hwf (by unfold maxLen;omega)
 have hseq:SeqGives Fence.wide 2 Tryz.prog 131 #[.P g] encStr (fun ss=>ss.Perm (strKeys D)) (Maps.size D) w:=
  AnyZ.keys_gives (ρ:=Tryz.keysV_ren) { Tryz.keysV with } Fence.wide _ trivial rfl (by omega) g b l.length D _ (Array.getElem?_eq_some_iff.1 (hS.get (b:=g) .head)).1 (hS.cell (b:=g) (off:=0) .head rfl) hD1
 have cS:=AnyZ.sorted_in Tryz.sortedS Fence.wide 5 trivial trivial trivial trivial rfl (by omega) (ep4 _) (enters_of Tryz.func130 (by kernel_rfl) rfl) 131 #[.P g] trivial (enters_of Tryz.func131 (by kernel_rfl) rfl) _ _ (by rw[hD2];unfold maxLen;omega) (by rw[hD2];omega) _ hseq;change CallsIn _ _ Tryz.prog 62 _ _ _ at cS;refine((callsIn_wide (n:=5)).1 cS).mono ?_;rintro e w' ⟨v,ss,rfl,hP,hrow,hnil,hb⟩;refine⟨v,rfl,?_⟩;have hp:=hP.trans hD3;have e:=Lc7 (l:=l.map (·.1)) (ss:=ss) (by rw[List.map_map];exact hp);rw[e,show ss.length=l.length by rw[hp.length_eq,jM]]at hrow;exact(hS.drop).called hb hrow
end
theorem DJ7{l l':List ByteArray}(h:l.Perm l'):bi4 l=bi4 l':=
 List.Perm.eq_of_pairwise (fun a b _ _ h1 h2=>Fu7 h1 h2) (AM7 l) (AM7 l') (((Ax7 l).trans h).trans (Ax7 l').symm)
theorem SP7{x y:ByteArray}(h:ltB x y=true):leB x y=true:=Ef7 h
theorem Ji7{ν:Type}{l:List (ByteArray×ν)}(h:Asc ltB l):bi4 (l.map (·.1))=l.map (·.1):=by refine List.Perm.eq_of_pairwise (fun a b _ _ h1 h2=>Fu7 h1 h2) (AM7 _) ?_ (Ax7 _);exact List.pairwise_map.2 (List.Pairwise.imp (fun h=>SP7 h) h)
def ksE(e:Ec):List ByteArray:=bi4 (e.vs.map (·.1))
theorem HR7(e:Ec):(ksE e).length=e.vs.length:=by unfold ksE;rw[(Ax7 _).length_eq,jM]
theorem RY7{d e:Ec}(h:SimE d e):d.vs.map (·.1)=ksE e:=by unfold ksE;rw[<-Ji7 h.va,DJ7 (h.v.map _)]
abbrev bo4(v:Value)(l:List ByteArray):HP:=row v 1 9 l.length (l.map eS)
theorem Jj7{eb:Nat}{e:Ec}(hk:∀x∈e.vs,x.1.size<=maxLen)(hl:e.vs.length<=1000000)(W w:World)(R:List HP)(hS:St W (ecP eb e::R) w):
  Calls Tryz.prog 25 #[.P eb] w fun x w'=>∃v,x=.returned v/\St W (bo4 v (ksE e)::ecP eb e::R) w':=by
 obtain⟨m1,m2,m3,m4,E,hp,hn,hS0⟩:=N9 hS;have hS1:=B9 hS0;clear hS hS0;have hpk:((i7 E).map (·.1)).Perm (e.vs.map (·.1)):=by rw[AR7,<-Bz7];exact hp.map _
 have hks:bi4 ((i7 E).map (·.1))=ksE e:=DJ7 hpk;have hlk:(i7 E).length=(ksE e).length:=by rw[HR7];have:=hpk.length_eq;rw[jM,jM]at this;exact this
 have hwf:∀x∈i7 E,x.1.size<=maxLen:=fun x hx=>by have h1:=hpk.mem_iff.1 (List.mem_map.2 ⟨x,hx,rfl⟩);obtain⟨y,hy,hxy⟩:=List.mem_map.1 h1;rw[<-hxy];exact hk y hy
 have hl2:(i7 E).length<=1000000000:=by rw[hlk,HR7];omega
 have Hp:=jH hp;have Hks:=jH hks;have Hlk:=jH hlk;have Hwf:=jH hwf;have Hl2:=jH hl2;clear hp hn hpk hks hlk hwf hl2 hl;have hS:=hS1;clear hS1;go_enter Tryz.func25,Tryz.ntmps25;go_wp2_with(first|go_big_skip|refine zl1 hS ?_|go_at_call 63;refine(MB7 (some m1) W _ _ hS).mono ?_;clear hS;rintro x w ⟨g,rfl,hS⟩|go_at_call 62;refine(Jh7 (g:=g) (b:=m1) (ev:=eN) (l:=i7 E) Hwf.out Hl2.out (hS.s (blk g _ _::d8 eS eN m1 (i7 E)::ebB eb m1 m2 m3 m4::j8 E::d8 eI eSs m2 e.ss::d8 eW eTn m3 e.ts::d8 eW eU m4 e.ar::R))).mono ?_;clear hS;rintro x w ⟨v,rfl,hS⟩);go_ret;rw[Hks.out,Hlk.out]at hS;have h1:=hS.s (ebB eb m1 m2 m3 m4::d8 eS eN m1 (i7 E)::j8 E::d8 eI eSs m2 e.ss::d8 eW eTn m3 e.ts::d8 eW eU m4 e.ar::bo4 v (ksE e)::R);exact⟨v,rfl,(K9 Hp.out h1).swap⟩
end Go.Proofs.YtlmhakmoioogaaaGreat
end
section
namespace Go.Proofs.YtlmhakmoioogaaaGreat
open Go.RowKit Go.Sl
def K8R(W:World)(L:List HP)(D:Ev)(v3 v4:Value)(w:World):Prop:=
 ∃k:Nat,v4=.I k/\k<=D.length/\St W (bo4 v3 ((D.take k).map (·.1))::L) w
theorem RZ7{xb:Nat}{d:Ec}(hl:d.vs.length<=1000000)(W w:World)(R:List HP)(hS:St W (xU6 xb d::R) w):
  Calls Tryz.prog 73 #[.P xb] w fun e w'=>∃v,e=.returned v/\St W (bo4 v (d.vs.map (·.1))::xU6 xb d::R) w':=by
 obtain⟨v1,v2,v3,v4,D,hd,hS0⟩:=aG4 hS;clear hS;have hS:=hS0.s (xeB xb v1 v2 v3 v4::xrP v1 D::l6 D::xsP v2 d.ss::xtP v3 d.ts::xmP v4 d.ar::R);clear hS0;have hD:D.length<=1000000:=by rw[<-BH7,hd];exact hl
 have Hd:=jH hd;clear hd hl;obtain⟨a,cap,rfl⟩:=hS.drop.rowVal;go_enter Tryz.func73,Tryz.ntmps73;go_wp2_with(fail);have hS1:=hS.rowNil (k:=1) (T:=9);clear hS;have hS:=hS1;clear hS1
 go_loopw [3,4] (fun v3' v4' wr=>K8R W (xeB xb (.slice a D.length cap) v2 v3 v4::xrP (.slice a D.length cap) D::l6 D::xsP v2 d.ss::xtP v3 d.ts::xmP v4 d.ar::R) D v3' v4' wr) (fun _ v4' _=>D.length-(intOf v4').toNat)
 case atStart=>exact⟨0,rfl,Nat.zero_le _,hS⟩
 case round=>
  clear hS;obtain⟨k,rfl,hkl,hS⟩:=hrel;by_cases hkn:k=D.length
  ·rw[hkn,List.take_length]at hS;have hd1:decide (k<D.length)=false:=by simp;omega
   clear hkl hkn;go_wp2_with(first|refine zl1 hS ?_);go_ret;refine⟨_,rfl,?_⟩;rw[<-Hd.out,Bz7];exact(J5 Hd.out (hS.s (bU4 xb (.slice a D.length cap) v2 v3 v4 D d (bo4 _ (D.map (·.1))::R)))).swap
  ·have hk1:k<D.length:=by omega
   have hd1:decide (k<D.length)=true:=by simp;omega
   obtain⟨⟨g,rfl⟩,_,_⟩:=St.rowAddr hS.drop.drop (by omega);have hname:∀{K K':List HP},Take K (xrP (.S g D.length cap) D) K'->i8 K g (k*2) (.string D[k].1):=fun hu=>i5.elemM (enc:=rwC) AE7 hu hk1 0 _ rfl
   have hstep:=CD7 (fun x:ByteArray×(Nat×Vs)=>x.1) D hk1;have hbl:((D.take k).map (·.1)).length<=1000000:=by rw[jM,jT];omega
   have Hstep:=jH hstep;clear hstep hkn hkl;generalize (D.take k).map (·.1)=acc at hS Hstep hbl;generalize D[k]=x at hname Hstep;obtain⟨xk,xv⟩:=x;go_wp2_with(first|refine zl1 hS ?_ (hc:=by exact hname (by exact i6))|refine zl1 hS ?_|refine zbs hS ?_;clear hS;intro bS w hS|refine zap hS ?_ (h63:=by unfold maxLen;omega) (hb:=by omega);clear hS;intro v w hS);go_roundw
   case rel=>
    refine⟨k+1,rfl,hk1,?_⟩;rw[Hstep.out];have h0:St W (row v 1 9 (acc.length+1) (acc.map eS++[xk].map eS)::_) w:=hS;rw[<-List.map_append]at h0;unfold bo4;rw[jA,List.length_singleton];exact h0.s _
   case measure=>simp[intOf];omega
def TeR(W:World)(R:List HP)(E:Ev)(m1 r:Nat)(v4:Value)(w:World):Prop:=
 ∃done todo:List (ByteArray×Nat),(done++todo).Perm (i7 E)/\St W (cp4 v4 (done.map fun y=>am4 (vAt E y.1))::itR eS eN r m1 (i7 E) todo::j8 E::R) w
theorem Qa7{eb:Nat}{e:Ec}{i:Nat}(hE:EOk e i)(hi:i<=1000000)(hl:e.vs.length<=1000000)(hv:∀x∈e.vs,C6 (cg4 x.2) it0=some (am4 x.2)){t0 t1 t2 t3:Int}(ht:∀l:List It,l.Perm (e.vs.map fun x=>am4 x.2)->C6 l it0=some ⟨t0,t1,t2,t3⟩)(W w:World)(R:List HP)(hS:St W (ecP eb e::R) w):
  Calls Tryz.prog 22 #[.P eb] w fun x w'=>x=.returned (.tuple #[.agg #[.I t0,.I t1,.I t2,.I t3],.bool true])/\St W (ecP eb e::R) w':=by
 obtain⟨m1,m2,m3,m4,E,hp,hn,hS0⟩:=N9 hS;have hS1:=B9 hS0;clear hS hS0;have hEl:(i7 E).length<=1000000:=by have h1:=hp.length_eq;unfold k8 at h1;unfold i7;rw[jM]at h1 ⊢;omega
 have hm:∀(y:ByteArray×Nat) (todo':List (ByteArray×Nat)) {done todo:List (ByteArray×Nat)},(done++todo).Perm (i7 E)->todo.Perm (y::todo')->∃V,E.Perm ((y.1,(y.2,V))::j6 E y.1)/\vAt E y.1=V/\PsW V.ps (100*i)/\C6 (cg4 ⟨V.ps,V.L,V.n⟩) it0=some ⟨D5 V 0,D5 V 1,D5 V 2,D5 V 3⟩:=by intro y todo' done todo h1 h2;have h3:y∈i7 E:=h1.mem_iff.1 (List.mem_append_right _ (h2.mem_iff.2 (List.mem_cons_self ..)));obtain⟨x,hx,rfl⟩:=List.mem_map.1 h3;have h4:i9 E x.1=some x.2:=Bf7 hn hx;have h5:(x.1,x.2.2)∈e.vs:=hp.mem_iff.1 (List.mem_map.2 ⟨x,hx,rfl⟩);refine⟨x.2.2,Bt7 hn h4,?_,(hE _ h5).w,hv _ h5⟩;unfold vAt;rw[h4];rfl
 have hend:∀done:List (ByteArray×Nat),done.Perm (i7 E)->C6 (done.map fun y=>am4 (vAt E y.1)) it0=some ⟨t0,t1,t2,t3⟩:=by
  intro done h1;refine ht _ ((h1.map _).trans ?_);refine List.Perm.trans ?_ (hp.map _);unfold i7 k8;rw[List.map_map,List.map_map];refine List.Perm.of_eq (List.map_congr_left fun x hx=>?_);show am4 (vAt E x.1)=am4 x.2.2
  unfold vAt;rw[Bf7 (v:=x.2) hn hx];rfl
 have Hend:=jH hend;have Hp:=jH hp;clear hend hp hv ht hE;have hS:=hS1;clear hS1;go_enter Tryz.func22,Tryz.ntmps22;go_wp2_with(first|(fail_if_success (have:=gA));(refine zal hS ?_;clear hS;have gA:Nat:=0;intro b0 w hS)|refine zl1 hS ?_|(with_reducible apply Bo7 (ek:=eS) (ev:=eN) hS);rfl;rfl;rfl;exact mV;exact i6;clear hS;intro r w hS;refine frS ?_);have hS1:=hS.rowNil (k:=4) (T:=29);clear hS;have hS:=hS1;clear hS1
 go_loopw [4] (fun v4 wr=>TeR W (blk eb [.map (some m1),.map (some m2),.map (some m3),.map (some m4)] 84::blk b0 [.I 0,.I 0,.I 0,.I 0] 29::d8 eI eSs m2 e.ss::d8 eW eTn m3 e.ts::d8 eW eU m4 e.ar::R) E m1 r v4 wr) (fun _ wr=>aq4 r m1 wr)
 case atStart=>
  refine⟨[],i7 E,List.Perm.refl _,?_⟩;have h0:St W (cp4 (.slice none 0 0) ([]:List It)::_) _:=hS;show St W (cp4 (.slice none 0 0) ([]:List It)::_) _
  exact h0.s _
 case round=>
  clear hS;obtain⟨done,todo,hdt,hS⟩:=hrel;have hm1:=An7 hS.drop;have hdl:done.length<=1000000:=by have:=hdt.length_eq;rw[jA]at this;omega
  by_cases ht:todo=[]
  ·have hall:=Hend.out done (by rw[ht,List.append_nil]at hdt;exact hdt);have Hall:=jH hall;clear hall hdt hm1 hm;generalize (done.map fun y=>am4 (vAt E y.1))=acc at hS Hall;go_wp2_with(first|(with_reducible apply Bq7 (ek:=eS) (ev:=eN) hS);rfl;rfl;rfl;exact i6;exact ht;refine frS ?_|go_at_call 58;refine(Hu7 Hall.out _ W _ _ hS).mono ?_;clear hS;rintro ex w ⟨rfl,hS⟩|refine zsN hS ?_;clear hS;intro w hS);apply Ac7;rfl;rfl;rfl;rfl;exact hS;decide +kernel;(exact n9);kernel_rfl;have h1:=bh4 (hS.s (itR eS eN r m1 (i7 E) todo::j8 E::blk eb _ _::d8 eI eSs m2 e.ss::d8 eW eTn m3 e.ts::d8 eW eU m4 e.ar::R));exact⟨rfl,K9 Hp.out (h1.s _)⟩
  ·have hm':∀(y:ByteArray×Nat) (todo':List (ByteArray×Nat)),todo.Perm (y::todo')->∃V,E.Perm ((y.1,(y.2,V))::j6 E y.1)/\vAt E y.1=V/\PsW V.ps (100*i)/\C6 (cg4 ⟨V.ps,V.L,V.n⟩) it0=some ⟨D5 V 0,D5 V 1,D5 V 2,D5 V 3⟩:=fun y todo' h=>hm y todo' hdt h
   have hnx:∀(y:ByteArray×Nat) (todo':List (ByteArray×Nat)),todo.Perm (y::todo')->(done++[y]++todo').Perm (i7 E):=fun y todo' h=>by rw[jS];exact(List.Perm.append_left done h.symm).trans hdt
   have Hm:=jH hm';have Hnx:=jH hnx;have Hm1:=jH hm1;clear hm hm' hnx hdt hm1;obtain⟨accj,hacc⟩:∃l,(done.map fun y=>am4 (vAt E y.1))=l:=⟨_,rfl⟩
   have hal:accj.length<=1000000:=by rw[<-hacc,jM];exact hdl
   rw[hacc]at hS;have Hacc:=jH hacc;clear hacc;go_wp2_with(first|(with_reducible apply Br7 (ek:=eS) (ev:=eN) hS);rfl;rfl;rfl;exact i6;exact ht;clear hS;intro y todo' hy1 hy2 w hS;obtain⟨yk,yb⟩:=y;have Hy:=jH hy1;clear hy1 hy2;refine frS ?_|(with_reducible apply Bp7 (ek:=eS) (ev:=eN) hS);rfl;rfl;rfl;exact i6;clear hS;intro hS;refine frS ?_|go_at_call 57;obtain⟨V,hp,hv,hw,hadd⟩:=Hm.out (yk,yb) todo' Hy.out;have h1:=bW4 (aE4 hp (hS.s (j8 E::itR eS eN r m1 (i7 E) todo'::cp4 _ accj::blk eb _ _::blk b0 _ _::d8 eI eSs m2 e.ss::d8 eW eTn m3 e.ts::d8 eW eU m4 e.ar::R)));obtain⟨mb,bb,h2⟩:=aY4 h1;clear hS h1;refine(Ka7 yb mb bb V.ps V.L V.n hw (by omega) hadd W _ _ h2).mono ?_;clear h2;rintro ex w ⟨rfl,h3⟩;have hS:=aE4 hp.symm (cu4 (x:=(yk,(yb,V))) (aC4 h3));have Hv:=jH hv;clear h3 hp hv hw hadd|(have:=gA);refine zal hS ?_;clear hS;intro bt w hS|refine zsN hS ?_;clear hS;intro w hS|refine zlN hS ?_|refine zbs hS ?_;clear hS;intro bS w hS|refine zap hS ?_ (h63:=by unfold maxLen;omega) (hb:=by omega);clear hS;intro v w hS);go_roundw
   case rel=>
    refine⟨done++[(yk,yb)],todo',Hnx.out _ _ Hy.out,?_⟩;rw[List.map_append,Hacc.out];show St W (cp4 _ (accj++[am4 (vAt E yk)])::_) w
    rw[Hv.out];unfold cp4;rw[Ds7,jA,List.length_singleton];have h0:St W (row v 4 29 (accj.length+1) (accj.flatMap It.cells++It.cells (am4 V))::_) w:=hS;exact h0.s _
   case measure=>
    have h3:=An7 (hS.take (by exact i6));have h4:=Hy.out.length_eq;rw[jC]at h4;have h5:=Hm1.out;omega
def E9(k:Int):List (ByteArray×Vs)->Int
 | []=>0
 | x::l=>D5 x.2 k+E9 k l
def L8(e:Ec)(k:Int):Int:=E9 k e.vs
theorem MC7{l l':List (ByteArray×Vs)}(h:l.Perm l')(k:Int):E9 k l=E9 k l':=by
 induction h with
 | nil=>rfl
 | cons x _ ih=>rw[E9,E9,ih]
 | swap x y l=>rw[E9,E9,E9,E9];omega
 | trans _ _ h1 h2=>rw[h1,h2]
theorem Kq7(k:Int):D5 vs0 k=0:=rfl
theorem Oz7{l:List (ByteArray×Vs)}(hn:(l.map (·.1)).Nodup)(u:ByteArray)(k:Int):E9 k l=D5 ((i9 l u).getD vs0) k+E9 k (j6 l u):=by
 cases hg:i9 l u with
 | none=>rw[Bk7 (AP7 hg)];show _=D5 vs0 k+_;rw[Kq7];omega
 | some V=>rw[MC7 (Bt7 hn hg) k];rfl
theorem Qb7{e:Ec}(hn:(e.vs.map (·.1)).Nodup)(u:ByteArray)(V:Vs)(k:Int):E9 k (bF4 e u V).vs=L8 e k-D5 (atV e u) k+D5 V k:=by
 have h:=Oz7 hn u k;unfold L8;rw[h];unfold atV;show E9 k (if A6 V=true then j6 e.vs u else(u,V)::j6 e.vs u)=_
 split
 ·rename_i hv
  rw[HJ7 hv,Kq7];omega
 ·show D5 V k+E9 k (j6 e.vs u)=_
  omega
def bb4(e:Ec):Prop:=∀x∈e.vs,(∀o∈x.2.L,MayP o)/\x.2.L.length<=32
theorem eI4{p:Ps}{n:Int}{i:Nat}(h:VOk p n i):PsK p:=⟨h.w.nd,h.ok⟩
theorem SQ7{V:Vs}(hp:PsK V.ps)(hL:∀x∈V.L,MayP x)(k:Int):0<=D5 V k:=by have h1:=hp.pos k;have h2:=Fw7 hL k;unfold D5;omega
theorem Ly7{k:Int}:∀{l:List (ByteArray×Vs)},(∀x∈l,0<=D5 x.2 k)->0<=E9 k l
 | [],_=>Int.le_refl _
 | x::l,h=>by
  have h1:=h x (List.mem_cons_self ..);have h2:=Ly7 fun y hy=>h y (List.mem_cons_of_mem x hy)
  rw[E9];omega
theorem FD7{k:Int}:∀{l:List (ByteArray×Vs)},(∀x∈l,0<=D5 x.2 k)->∀x∈l,D5 x.2 k<=E9 k l
 | [],_,_,hx=>by cases hx
 | y::l,h,x,hx=>by
  have h1:=h y (List.mem_cons_self ..);have h2:=Ly7 fun y hy=>h y (List.mem_cons_of_mem _ hy)
  rw[E9]
  rcases List.mem_cons.1 hx with rfl|hx
  ·omega
  ·have:=FD7 (fun y hy=>h y (List.mem_cons_of_mem _ hy)) x hx;omega
theorem EOk.nn{e:Ec}{n:Nat}(h:EOk e n)(he:bb4 e)(k:Int):∀x∈e.vs,0<=D5 x.2 k:=fun x hx=>SQ7 (eI4 (h x hx)) (he x hx).1 k
def cH4(o:Opn)(r:Rpl)(b:Bool)(k:Int):Int:=
 if b=true/\r.err=0 then(if o.kind=1\/o.kind=6 then(if k=o.item then o.cnt else 0)else if o.kind=2 then -(if k=o.item then o.cnt else 0)else 0)else 0
theorem Eu7{it ct k:Int}(hi:Kx it)(hk:Kx k):p8 (r8 it ct) k=if k=it then ct else 0:=by unfold r8;rw[HF7 it0 hi hk,BN7]
section
variable{e:Ec}{o:Opn}{n:Nat}
theorem He7(hm:w8 o=true)(h:o.kind=1\/o.kind=2\/o.kind=6):Kx o.item/\1<=o.cnt/\o.cnt<=1048576/\B8 o.aw=true:=by
 unfold w8 F8 aL4 at hm;simp only[jB]at hm;obtain⟨⟨_,_,_,_,_,hw⟩,hk⟩:=hm
 have hc:H8 o=true:=by
  unfold J9 at hk
  rcases h with h|h|h
  ·rw[if_pos h]at hk;unfold t8 at hk;simp only[jB]at hk;exact hk.1
  ·rw[if_neg (by omega),if_pos h]at hk;unfold N7 at hk;simp only[jB]at hk;exact hk.2.1
  ·rw[if_neg (by omega),if_neg (by omega),if_neg (by omega),if_neg (by omega),if_neg (by omega),if_pos h]at hk;unfold t8 at hk;simp only[jB]at hk;exact hk.1
 obtain⟨h0,h4,c0,c1⟩:=Dd7 hc;exact⟨⟨h0,by omega⟩,c0,c1,hw⟩
theorem SR7{it ct:Int}(hi:Kx it)(h0:0<=ct)(h1:ct<=1048576):s9 (r8 it ct)=true:=JZ7 fun k hk=>by rw[Eu7 hi hk];split <;> omega
theorem Sa7{p:Ps}{u:ByteArray}{it ct:Int}(hp:PsK p)(hu:B8 u=true)(hi:Kx it)(h0:0<=ct)(h1:ct<=1048576)(hb:∀k,Kx k->I9 k p<=1000000000000):K7 p u (r8 it ct)=0:=by
 have h3:=SR7 hi h0 h1;have h4:=hp.ok u
 have h2:(C6 [k9 p u,r8 it ct] it0).isSome=true:=by
  rw[Fx7 [k9 p u,r8 it ct] (s:=it0) (t:=N6 (k9 p u) (r8 it ct)) (fun i hi=>by
   rcases List.mem_cons.1 hi with rfl|hi
   ·exact h4
   ·rw[List.mem_singleton.1 hi];exact h3) HG7 (fun k hk=>by
    rw[Dr7,BN7];simp[al4]) (fun k hk=>by
    rw[Dr7,Eu7 hi hk];have:=hp.le u k;have:=hb k hk;split <;> omega)]
  rfl
 unfold K7;rw[if_pos ⟨hu,h3⟩,if_pos h2]
theorem Sb7(hn:(e.vs.map (·.1)).Nodup)(hE:EOk e n)(he:bb4 e)(he2:bb4 (G8 e o).2.2)(hb:∀k,Kx k->L8 e k<=500000000){k:Int}(hk:Kx k):
  L8 (G8 e o).2.2 k=L8 e k+cH4 o (G8 e o).1 (G8 e o).2.1 k:=by
 cases hp:D7 e o with
 | mk r b=>
 cases b with
 | true=>
  rw[Dv7 hp];unfold cH4;rw[if_neg (by simp)];show L8 e k=L8 e k+0
  omega
 | false=>
  obtain⟨rfl,hm⟩:=BQ7 hp;rw[Dw7 hp]at he2 ⊢;dsimp only at he2 ⊢;obtain⟨V,hV⟩:∃V,atV e o.ak=V:=⟨_,rfl⟩
  rw[hV]at he2 ⊢
  have hVf:PsK V.ps/\(∀x∈V.L,MayP x)/\∀k,Kx k->D5 V k<=500000000:=by
   rw[<-hV];unfold atV
   cases hg:i9 e.vs o.ak with
   | none=>exact⟨⟨List.nodup_nil,Fr7⟩,fun x hx=>(by cases hx),fun k _=>by show D5 vs0 k<=_;rw[Kq7];omega⟩
   | some U=>
    have hu:=AI7 hg;exact⟨eI4 (hE _ hu),(he _ hu).1,fun k hk=>Int.le_trans (FD7 (hE.nn he k) _ hu) (hb k hk)⟩
  obtain⟨hpk,hmay,hvb⟩:=hVf;have hset:L8 ⟨(bF4 e o.ak (doV V o).2).vs,doS e o (doV V o).1,doT e o (doV V o).1,doA e o⟩ k=L8 e k-D5 V k+D5 (doV V o).2 k:=by have:=Qb7 hn o.ak (doV V o).2 k;rw[hV]at this;exact this
  rw[hset]
  have hL2:∀x∈(doV V o).2.L,MayP x:=by
   by_cases hz:A6 (doV V o).2=true
   ·rw[HJ7 hz];exact fun x hx=>(by cases hx)
   ·refine(he2 (o.ak,(doV V o).2) ?_).1;show _∈(if A6 (doV V o).2=true then j6 e.vs o.ak else(o.ak,(doV V o).2)::j6 e.vs o.ak)
    rw[if_neg hz];exact List.mem_cons_self ..
  have hwl:∀k,Kx k->I9 k V.ps<=500000000:=fun k hk=>by have h1:=hvb k hk;have h2:=Fw7 hmay k;unfold D5 at h1;omega
  have hgoal:D5 (doV V o).2 k=D5 V k+cH4 o (doV V o).1 true k:=by
   by_cases h1:o.kind=1
   ·obtain⟨hi,c0,c1,hw⟩:=He7 hm (.inl h1);have e1:doV V o=(⟨K7 V.ps o.aw (r8 o.item o.cnt),0,it0⟩, { V with ps:=F9 V.ps o.aw (r8 o.item o.cnt) }):=by unfold doV;rw[if_pos h1]
    rw[e1];have h2:=(IP7 (V:=V) (k:=o.aw) (i:=r8 o.item o.cnt) hpk k).1;dsimp only at h2 ⊢;rw[h2,Eu7 hi hk];unfold cH4;simp[h1]
   by_cases h2:o.kind=2
   ·obtain⟨hi,c0,c1,hw⟩:=He7 hm (.inr (.inl h2));have e1:doV V o=(⟨m9 V.ps o.aw (r8 o.item o.cnt),0,it0⟩, { V with ps:=p9 V.ps o.aw (r8 o.item o.cnt) }):=by unfold doV;rw[if_neg h1,if_pos h2]
    rw[e1];have h3:=(Mp7 (V:=V) (k:=o.aw) (i:=r8 o.item o.cnt) hpk k).1;dsimp only at h3 ⊢;rw[h3,Eu7 hi hk];unfold cH4;simp[h2];split <;> omega
   by_cases h3:o.kind=3
   ·have e1:doV V o=(⟨(B6 V (aT4 o)).2.1,(B6 V (aT4 o)).1,it0⟩,(B6 V (aT4 o)).2.2):=by unfold doV;rw[if_neg h1,if_neg h2,if_pos h3]
    rw[e1]at hL2 ⊢;have h4:=Mn7 (o:=aT4 o) hpk hmay hL2 (fun k hk=>by have:=hvb k hk;omega) hk;dsimp only at h4 ⊢;rw[h4];unfold cH4;simp[h3]
   by_cases h4:o.kind=4
   ·have e1:doV V o=(⟨(C7 V o.aw o.id).1,0,it0⟩,(C7 V o.aw o.id).2):=by unfold doV;rw[if_neg h1,if_neg h2,if_neg h3,if_pos h4]
    rw[e1];have h5:=Mo7 (V:=V) (who:=o.aw) (id:=o.id) hpk hmay (fun k hk=>by have:=hvb k hk;omega) hk;dsimp only at h5 ⊢;rw[h5];unfold cH4;simp[h4]
   by_cases h6:o.kind=6
   ·obtain⟨hi,c0,c1,hw⟩:=He7 hm (.inr (.inr h6));have e1:doV V o=(rp0, { V with ps:=F9 V.ps o.aw (r8 o.item o.cnt) }):=by unfold doV;rw[if_neg h1,if_neg h2,if_neg h3,if_neg h4,if_neg (by omega),if_pos h6]
    rw[e1];have h7:=(IP7 (V:=V) (k:=o.aw) (i:=r8 o.item o.cnt) hpk k).1;rw[if_pos (Sa7 hpk hw hi (by omega) c1 (fun k hk=>by have:=hwl k hk;omega)),Eu7 hi hk]at h7;dsimp only at h7 ⊢;rw[h7];unfold cH4;simp[h6]
   ·have e1:(doV V o).2=V:=by
     unfold doV;rw[if_neg h1,if_neg h2,if_neg h3,if_neg h4]
     repeat' split
     all_goals first|rfl|exact absurd ‹_› h6
    rw[e1];unfold cH4;rw[if_neg (show ¬(o.kind=1\/o.kind=6)by omega),if_neg h2];split <;> omega
  rw[hgoal];omega
theorem Sc7(hm:w8 o=true)(r:Rpl)(b:Bool)(k:Int):cH4 o r b k<=1048576:=by
 unfold cH4;split
 ·split
  ·rename_i h
   have:=He7 hm (by omega);split <;> omega
  ·split
   ·rename_i h
    have:=He7 hm (.inr (.inl h));split <;> omega
   ·omega
 ·omega
theorem SS7(r:Rpl)(k:Int):cH4 o r (G8 e o).2.1 k<=1048576:=by
 cases hp:D7 e o with
 | mk r2 c=>
 cases c with
 | true=>
  rw[Dv7 hp];unfold cH4;rw[if_neg (by simp)];omega
 | false=>exact Sc7 (BQ7 hp).2 _ _ _
end
end Go.Proofs.YtlmhakmoioogaaaGreat
end
