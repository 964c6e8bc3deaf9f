/-
  Requests go on in both economies, and both say the same.
-/
import Derived.Test.YtlmhakmoioogaaaGreatEconWjM5
import Derived.Test.YtlmhakmoioogaaaGreatEconWjM27
import Derived.Test.YtlmhakmoioogaaaGreatEconWjM29
import Derived.Test.YtlmhakmoioogaaaGreatEconWjM33
import Derived.Test.YtlmhakmoioogaaaGreatEconWjM34
import Derived.Test.YtlmhakmoioogaaaGreatEconWjM39
import Derived.Test.YtlmhakmoioogaaaGreatEconWjM40
import Derived.Test.YtlmhakmoioogaaaGreatProg
import Derived.Shelf.Sort.Plain
import Derived.Ground.NamesProg
set_option maxHeartbeats 16000000
set_option maxRecDepth 100000
set_option linter.unusedSimpArgs false
set_option linter.unusedVariables false
section
namespace Go.Proofs.YtlmhakmoioogaaaGreat
open Go.RowKit Go.Sl
def bT4(l:List Opn)(d:Ec):Ec:=l.foldl (fun d o=>(O7 d o).2.2) d
theorem RQ7{xs:List Opn}{i:Nat}(h:i<xs.length)(e:Ec):aB4 (xs.take (i+1)) e=(G5 (aB4 (xs.take i) e) xs[i]).2.2:=by
 unfold aB4;rw[List.take_succ_eq_append_getElem h,List.foldl_append]
 rfl
theorem RR7{xs:List Opn}{i:Nat}(h:i<xs.length)(d:Ec):bT4 (xs.take (i+1)) d=(O7 (bT4 (xs.take i) d) xs[i]).2.2:=by
 unfold bT4;rw[List.take_succ_eq_append_getElem h,List.foldl_append]
 rfl
theorem RS7(e:Ec)(o:Opn):(G5 e o).2.1=!(D5 e o).2:=by
 unfold G5
 by_cases h:(D5 e o).2=true
 ·rw[if_pos h,h];rfl
 ·rw[if_neg h];have:(D5 e o).2=false:=by simpa using h
  rw[this];rfl
theorem GOk.vok{d e:Ec}{n:Nat}(h:GOk d e n)(k:ByteArray):VOk (atV d k).ps (atV d k).n n:=by
 rw[h.sim.at];unfold atV
 cases hg:i9 e.vs k with
 | none=>exact fq4 n
 | some V=>exact h.ok _ (AF7 hg)
def dX4(I:Ec->Nat->Prop):Prop:=∀(e:Ec) (n:Nat) (o:Opn),I e n->(∀x∈e.vs,(∀o∈x.2.L,MayP o)/\x.2.L.length<=32)->(∀x∈(G5 e o).2.2.vs,(∀o∈x.2.L,MayP o)/\x.2.L.length<=32)->EOk (G5 e o).2.2 (n+1)->I (G5 e o).2.2 (n+1)
def GoR(I:Ec->Nat->Prop)(W:World)(Lr:List HP)(eb xb:Nat)(xs:List Opn)(d e:Ec)(n:Nat)(v:Value)(w:World):Prop:=
 ∃i:Nat,v=.I i/\i<=xs.length/\GOk (bT4 (xs.take i) d) (aB4 (xs.take i) e) (n+i)/\I (aB4 (xs.take i) e) (n+i)/\St W (ecP eb (aB4 (xs.take i) e)::x9 xb (bT4 (xs.take i) d)::Lr) w
section
variable{W w:World}{L R:List HP}{eb xb:Nat}{d e:Ec}{i:Nat}{k u:ByteArray}{x0 x1 x2 x3 cl sq:Int}{b:Bool}
theorem atA(ht:Take L (ecP eb e) R)(hx:k9 (atV e k).ps u=⟨x0,x1,x2,x3⟩)(hS:St W L w):
  Calls Tryz.prog 18 #[.pointer (jP eb),.agg #[.string k,.string u]] w fun x w'=>x=.returned (.agg #[.I x0,.I x1,.I x2,.I x3])/\St W L w':=by
 refine(Ln7 k u hx W w R (hS.take ht)).mono ?_;rintro x w' ⟨rfl,hS⟩
 exact⟨rfl,hS.back ht⟩
theorem hs4(ht:Take L (x9 xb d) R)(hA:Asc ltB d.vs)(hok:VOk (atV d k).ps (atV d k).n i)(hx:k9 (atV d k).ps u=⟨x0,x1,x2,x3⟩)(hS:St W L w):
  Calls Tryz.prog 84 #[.pointer (jP xb),.agg #[.string k,.string u]] w fun x w'=>x=.returned (.agg #[.I x0,.I x1,.I x2,.I x3])/\St W L w':=by
 refine(gA4 hA k u hok hx (hS.take ht)).mono ?_;rintro x w' ⟨rfl,hS⟩
 exact⟨rfl,hS.back ht⟩
theorem hv4(ht:Take L (ecP eb e) R)(hb:(i9 e.ar (cl,sq)).isSome=b)(hS:St W L w):
  Calls Tryz.prog 19 #[.pointer (jP eb),.I cl,.I sq] w fun x w'=>x=.returned (.bool b)/\St W L w':=by
 refine(IP7 cl sq hb W w R (hS.take ht)).mono ?_;rintro x w' ⟨rfl,hS⟩
 exact⟨rfl,hS.back ht⟩
theorem gB4(ht:Take L (x9 xb d) R)(hb:(i9 d.ar (cl,sq)).isSome=b)(hS:St W L w):
  Calls Tryz.prog 82 #[.pointer (jP xb),.I cl,.I sq] w fun x w'=>x=.returned (.bool b)/\St W L w':=by
 refine(MA7 cl sq hb (hS.take ht)).mono ?_;rintro x w' ⟨rfl,hS⟩
 exact⟨rfl,hS.back ht⟩
end
theorem Ot7{xb:Nat}{d d2:Ec}{i:Nat}(hi:i<=5000){kd cl sq:Int}{ak aw tk tw:ByteArray}{it ct pr:Int}{bu:Bool}{id:Int}(hd0:DOk d ak i){r0 r1 r2 r3 r4 r5:Int}{b:Bool}(h:O7 d ⟨kd,cl,sq,ak,aw,tk,tw,it,ct,pr,bu,id⟩=(⟨r0,r1,⟨r2,r3,r4,r5⟩⟩,b,d2))(W w:World)(R:List HP)(hS:St W (x9 xb d::R) w):
  Calls Tryz.prog 21 #[.pointer (jP xb),oV kd cl sq ak aw tk tw it ct pr bu id] w fun x w'=>x=.returned (.tuple #[rV r0 r1 r2 r3 r4 r5,.bool b])/\St W (x9 xb d2::R) w':=by
 have h1:=PX7 hi (kd:=kd) (cl:=cl) (sq:=sq) (aw:=aw) (tk:=tk) (tw:=tw) (it:=it) (ct:=ct) (pr:=pr) (bu:=bu) (id:=id) hd0 W w R hS;rw[h]at h1
 exact h1
theorem Ou7{eb:Nat}{e e2:Ec}{i:Nat}(hE:EOk e i)(hi:i<=1000000){kd cl sq:Int}{ak aw tk tw:ByteArray}{it ct pr:Int}{bu:Bool}{id:Int}{r0 r1 r2 r3 r4 r5:Int}{b:Bool}(h:G5 e ⟨kd,cl,sq,ak,aw,tk,tw,it,ct,pr,bu,id⟩=(⟨r0,r1,⟨r2,r3,r4,r5⟩⟩,b,e2))(W w:World)(R:List HP)(hS:St W (ecP eb e::R) w):
  Calls Tryz.prog 16 #[.pointer (jP eb),oV kd cl sq ak aw tk tw it ct pr bu id] w fun x w'=>EOk e2 (i+1)/\x=.returned (.tuple #[rV r0 r1 r2 r3 r4 r5,.bool b])/\St W (ecP eb e2::R) w':=HH7 hE hi h W w R hS
theorem Ov7(xs:List Opn)(hlen:xs.length<=150)(v:Value)(V:World)(hv:bm4 Opn.cells 12 V v xs){d e:Ec}{n:Nat}(hn:n<=4000)(h:GOk d e n){I:Ec->Nat->Prop}(hI:dX4 I)(hi0:I e n)(eb xb:Nat)(W w:World)(Lr:List HP)(hS:St W (ecP eb e::x9 xb d::Old V::Lr) w):
  Calls Tryz.prog 32 #[.pointer (jP eb),.pointer (jP xb),v] w fun r w'=>r=.returned (.bool true)/\GOk (bT4 xs d) (aB4 xs e) (n+xs.length)/\I (aB4 xs e) (n+xs.length)/\St W (ecP eb (aB4 xs e)::x9 xb (bT4 xs d)::Old V::Lr) w':=by
 obtain⟨a,cap,rfl,h63,hact⟩:=hv.opn;have Ha:=jH hact;have HG0:=jH h;have HI:=jH hI;have HI0:=jH hi0;clear hact hv h hI hi0;go_enter Tryz.func32,Tryz.ntmps32;go_wp2_with(fail)
 go_loopw [7] (fun v wr=>GoR I W (Old V::Lr) eb xb xs d e n v wr) (fun v _=>xs.length-(intOf v).toNat)
 case atStart=>exact⟨0,rfl,Nat.zero_le _,HG0.out,HI0.out,hS⟩
 case round=>
  clear hS;obtain⟨i,rfl,hi,hG,hi1,hS⟩:=hrel
  by_cases hend:i=xs.length
  ·subst hend;have d3:decide ((xs.length:Int)<(xs.length:Int))=false:=by simp
   rw[List.take_length]at hS hG hi1;have HG:=jH hG;have HI1:=jH hi1;clear hG hi1;go_wp2_with(fail);go_ret
   exact⟨rfl,HG.out,HI1.out,hS⟩
  have hil:i<xs.length:=by omega
  have dil:decide ((i:Int)<(xs.length:Int))=true:=by simp;omega
  have hi6:n+i<=4150:=by omega
  clear hend hi;obtain⟨pb,poff,rfl,hA⟩:=Ha.out i hil;have hall:=hA.all;have hcl:=hA.client;have hsq:=hA.seq
  have hpl:∀(j:Nat) (v:Value),([.string xs[i].ak,.string xs[i].aw]:List Value)[j]? = some v->V.cell? ⟨pb,poff+i*12+3+j,none⟩=some v:=by
   intro j v hj
   match j,hj with
   | 0,hj=>cases hj;exact hA.ak
   | 1,hj=>cases hj;exact hA.aw
   | j+2,hj=>simp at hj
  clear hA;have hs1:=RQ7 hil e;have hs2:=RR7 hil d;obtain⟨e1,he⟩:∃z,aB4 (xs.take i) e=z:=⟨_,rfl⟩
  obtain⟨d1,hd⟩:∃z,bT4 (xs.take i) d=z:=⟨_,rfl⟩
  rw[he]at hG hS hs1 hi1;rw[hd]at hG hS hs2;clear he hd;generalize xs[i]=x at hall hcl hsq hpl hs1 hs2;obtain⟨kd,cl,sq,ak,aw,tk,tw,it,ct,pr,bu,id⟩:=x;simp only[Opn.cells]at hall hcl hsq hpl;obtain⟨⟨⟨p0,p1,⟨p2,p3,p4,p5⟩⟩,pk⟩,hp⟩:∃z,D5 e1 ⟨kd,cl,sq,ak,aw,tk,tw,it,ct,pr,bu,id⟩=z:=⟨_,rfl⟩
  obtain⟨⟨⟨r0,r1,⟨r2,r3,r4,r5⟩⟩,rb,e2⟩,h1⟩:∃z,G5 e1 ⟨kd,cl,sq,ak,aw,tk,tw,it,ct,pr,bu,id⟩=z:=⟨_,rfl⟩
  have hrb:rb=!pk:=by
   have:=RS7 e1 ⟨kd,cl,sq,ak,aw,tk,tw,it,ct,pr,bu,id⟩;rw[h1,hp]at this
   exact this
  have hq:aM4 d1 ⟨kd,cl,sq,ak,aw,tk,tw,it,ct,pr,bu,id⟩=(⟨p0,p1,⟨p2,p3,p4,p5⟩⟩,pk):=by rw[hG.sim.peek,hp]
  obtain⟨d2,hd2⟩:∃z,(O7 d1 ⟨kd,cl,sq,ak,aw,tk,tw,it,ct,pr,bu,id⟩).2.2=z:=⟨_,rfl⟩
  have h2:O7 d1 ⟨kd,cl,sq,ak,aw,tk,tw,it,ct,pr,bu,id⟩=(⟨r0,r1,⟨r2,r3,r4,r5⟩⟩,rb,d2):=by
   obtain⟨g1,g2,_⟩:=Kj7 hG.sim ⟨kd,cl,sq,ak,aw,tk,tw,it,ct,pr,bu,id⟩;rw[h1]at g1 g2
   exact Prod.ext g1 (Prod.ext g2 hd2)
  have hgn:=hG.app ⟨kd,cl,sq,ak,aw,tk,tw,it,ct,pr,bu,id⟩;have hin:=HI.out e1 (n+i) ⟨kd,cl,sq,ak,aw,tk,tw,it,ct,pr,bu,id⟩ hi1;rw[h1]at hs1 hgn hin;rw[h2]at hs2 hgn;dsimp only at hs1 hs2 hgn hin
  have hsim2:SimE d2 e2:=by
   have:=(Kj7 hG.sim ⟨kd,cl,sq,ak,aw,tk,tw,it,ct,pr,bu,id⟩).2.2;rw[h1,h2]at this
   exact this
  obtain⟨⟨z0,z1,z2,z3⟩,hz⟩:∃z,k9 (atV e2 ak).ps aw=z:=⟨_,rfl⟩
  have hz2:k9 (atV d2 ak).ps aw=⟨z0,z1,z2,z3⟩:=by rw[hsim2.at];exact hz
  obtain⟨y,hy⟩:∃y,(i9 e2.ar (cl,sq)).isSome=y:=⟨_,rfl⟩
  have hy2:(i9 d2.ar (cl,sq)).isSome=y:=by rw[Ap7 hsim2.an hsim2.a];exact hy
  have Htk:=jH hG.sim.tk;have HG:=jH hG;have Hp:=jH hp;have Hq:=jH hq;have H1:=jH h1;have H2:=jH h2;have G2:=jH hgn;have HIn:=jH hin;have S1:=jH hs1;have S2:=jH hs2;have Hz:=jH hz;have Hz2:=jH hz2;have Hy:=jH hy;have Hy2:=jH hy2;clear hi1 hin hG hp hq h1 h2 hgn hs1 hs2 hz hz2 hy hy2 hd2 hsim2;have heq:((z0==z0)&&((z1==z1)&&((z2==z2)&&(z3==z3))))=true:=by simp
  have hep:Rpl.eqB ⟨p0,p1,⟨p2,p3,p4,p5⟩⟩ ⟨p0,p1,⟨p2,p3,p4,p5⟩⟩=true:=by unfold Rpl.eqB;simp
  have her:Rpl.eqB ⟨r0,r1,⟨r2,r3,r4,r5⟩⟩ ⟨r0,r1,⟨r2,r3,r4,r5⟩⟩=true:=by unfold Rpl.eqB;simp
  subst hrb
  cases pk
  all_goals cases y
  all_goals
   go_wp2_with(first|(refine zlN hS ?_ (vs:=[.I kd,.I cl,.I sq,.string ak,.string aw,.string tk,.string tw,.I it,.I ct,.I pr,.bool bu,.I id]) (hc:=by exact i5.old (by exact db4) hall))|((fail_if_success (have:=gA));(refine zal hS ?_;clear hS;have gA:Nat:=0;intro bA w hS))|((have:=gA);(fail_if_success (have:=gB));(refine zal hS ?_;clear hS;have gB:Nat:=0;intro bB w hS))|((have:=gB);(fail_if_success (have:=gC));(refine zal hS ?_;clear hS;have gC:Nat:=0;intro bC w hS))|((have:=gC);(refine zal hS ?_;clear hS;intro bD w hS))|(refine zsN hS ?_;clear hS;intro w hS)|(go_at_call 33;refine(RM7 Hp.out (hS.s (ecP eb e1::x9 xb d1::Old V::Lr))).mono ?_;clear hS;rintro ex w ⟨rfl,hS⟩)|(go_at_call 48;refine(RL7 Htk.out Hq.out (hS.s (x9 xb d1::ecP eb e1::blk bA _ _::Old V::Lr))).mono ?_;clear hS;rintro ex w ⟨rfl,hS⟩)|(go_at_call 16;have hS9:=hS.s (ecP eb e1::x9 xb d1::blk bB _ _::blk bA _ _::Old V::Lr);clear hS;have hdk:=HG.out.dok (by omega) (Gw7 hS9) ak;have Hdk:=jH hdk;clear hdk;have heE:=Gw7 hS9;have HeE:=jH heE;clear heE;refine(Ou7 HG.out.ok (by omega) H1.out W _ _ hS9).mono ?_;clear hS9;rintro ex w ⟨hok2,rfl,hS⟩;have Hok2:=jH hok2;clear hok2)|(go_at_call 21;refine(Ot7 (by omega) Hdk.out H2.out W _ _ (hS.s (x9 xb d1::ecP eb e2::blk bC _ _::blk bB _ _::blk bA _ _::Old V::Lr))).mono ?_;clear hS;rintro ex w ⟨rfl,hS⟩));have hg2:=G2.out Hok2.out;have HG2:=jH hg2;have HA2:=jH hg2.sim.va;have HV2:=jH (hg2.vok ak);clear hg2;have hS1:=hS.s (ecP eb e2::x9 xb d2::blk bA _ _::blk bB _ _::blk bC _ _::blk bD _ _::Old V::Lr);have HI2:=jH (HIn.out HeE.out (Gw7 hS1) Hok2.out);clear hS;refine Aa7 (by kernel_rfl) (by kernel_rfl) hS1 ?_
   repeat(first|(refine zqN ?_)|(refine zqN ?_ (vs:=[.string ak,.string aw]) (hc:=by exact i5.old (by exact db4) hpl))|(refine zq1 ?_ (hc:=by first|exact i8.old (by exact db4) hcl|exact i8.old (by exact db4) hsq))|((apply Lh7);rfl;rfl;rfl;rfl;kernel_rfl;exact HI7 hep;(simp only[Bool.not_true]);(refine frS ?_))|((apply Lh7);rfl;rfl;rfl;rfl;kernel_rfl;exact HI7 her;(simp only[Bool.not_true]);(refine frS ?_))|((apply Lh7);rfl;rfl;rfl;rfl;kernel_rfl;exact eqI _ _ _ _ _ _ _ _;(rw[heq]);(simp only[Bool.not_true]);(refine frS ?_))|(apply Ar7;rfl;(intro w;apply Ag7;rfl;decide +kernel;(focus(simp only[fD,fI,fJ,Act.eval,fE,fF,fG,fH,fK];try rfl)));(intro w hS;exact atA .head Hz.out hS);(refine frS ?_))|(apply Ar7;rfl;(intro w;apply Ag7;rfl;decide +kernel;(focus(simp only[fD,fI,fJ,Act.eval,fE,fF,fG,fH,fK];try rfl)));(intro w hS;exact hs4 (.tail .head) HA2.out HV2.out Hz2.out hS);(refine frS ?_))|(apply Ar7;rfl;(intro w;apply Ag7;rfl;decide +kernel;(focus(simp only[fD,fI,fJ,Act.eval,fE,fF,fG,fH,fK];try rfl)));(intro w hS;exact hv4 .head Hy.out hS);(refine frS ?_))|(apply Ar7;rfl;(intro w;apply Ag7;rfl;decide +kernel;(focus(simp only[fD,fI,fJ,Act.eval,fE,fF,fG,fH,fK];try rfl)));(intro w hS;exact gB4 (.tail .head) Hy2.out hS);(refine frS ?_))|(refine qR ?_))
   clear hS1;intro w hS;go_wp2_with(fail)
   go_roundw
   case rel=>exact⟨i+1,rfl,hil,by rw[S1.out,S2.out];exact HG2.out,by rw[S1.out];exact HI2.out,by rw[S1.out,S2.out];exact hS.s _⟩
   case measure=>simp[intOf];try omega
def TeR(W:World)(R:List HP)(E:Ev)(m1 r:Nat)(v4:Value)(w:World):Prop:=
 ∃done todo:List (ByteArray×Nat),(done++todo).Perm (i7 E)/\St W (cq4 v4 (done.map fun y=>am4 (vAt E y.1))::itR eS eN r m1 (i7 E) todo::j8 E::R) w
theorem Qa7{eb:Nat}{e:Ec}{i:Nat}(hE:EOk e i)(hi:i<=1000000)(hl:e.vs.length<=1000000)(hv:∀x∈e.vs,C5 (ce4 x.2) it0=some (am4 x.2)){t0 t1 t2 t3:Int}(ht:∀l:List It,l.Perm (e.vs.map fun x=>am4 x.2)->C5 l it0=some ⟨t0,t1,t2,t3⟩)(W w:World)(R:List HP)(hS:St W (ecP eb e::R) w):
  Calls Tryz.prog 22 #[.pointer (jP eb)] w fun x w'=>x=.returned (.tuple #[.agg #[.I t0,.I t1,.I t2,.I t3],.bool true])/\St W (ecP eb e::R) w':=by
 obtain⟨m1,m2,m3,m4,E,hp,hn,hS0⟩:=M7 hS;have hS1:=B8 hS0;clear hS hS0
 have hEl:(i7 E).length<=1000000:=by
  have h1:=hp.length_eq;unfold k8 at h1;unfold i7;rw[jM]at h1 ⊢;omega
 have hm:∀(y:ByteArray×Nat) (todo':List (ByteArray×Nat)) {done todo:List (ByteArray×Nat)},(done++todo).Perm (i7 E)->todo.Perm (y::todo')->∃V,E.Perm ((y.1,(y.2,V))::j5 E y.1)/\vAt E y.1=V/\PsW V.ps (100*i)/\C5 (ce4 ⟨V.ps,V.L,V.n⟩) it0=some ⟨E5 V 0,E5 V 1,E5 V 2,E5 V 3⟩:=by
  intro y todo' done todo h1 h2;have h3:y∈i7 E:=h1.mem_iff.1 (List.mem_append_right _ (h2.mem_iff.2 (List.mem_cons_self ..)));obtain⟨x,hx,rfl⟩:=List.mem_map.1 h3;have h4:i9 E x.1=some x.2:=AT7 hn hx;have h5:(x.1,x.2.2)∈e.vs:=hp.mem_iff.1 (List.mem_map.2 ⟨x,hx,rfl⟩);refine⟨x.2.2,Bs7 hn h4,?_,(hE _ h5).w,hv _ h5⟩;unfold vAt;rw[h4];rfl
 have hend:∀done:List (ByteArray×Nat),done.Perm (i7 E)->C5 (done.map fun y=>am4 (vAt E y.1)) it0=some ⟨t0,t1,t2,t3⟩:=by
  intro done h1;refine ht _ ((h1.map _).trans ?_);refine List.Perm.trans ?_ (hp.map _);unfold i7 k8;rw[List.map_map,List.map_map];refine List.Perm.of_eq (List.map_congr_left fun x hx=>?_)
  show am4 (vAt E x.1)=am4 x.2.2
  unfold vAt;rw[AT7 (v:=x.2) hn hx];rfl
 have Hend:=jH hend;have Hp:=jH hp;clear hend hp hv ht hE;have hS:=hS1;clear hS1;go_enter Tryz.func22,Tryz.ntmps22;go_wp2_with(first|((fail_if_success (have:=gA));(refine zal hS ?_;clear hS;have gA:Nat:=0;intro b0 w hS))|(refine zl1 hS ?_)|((with_reducible apply Bn7 (ek:=eS) (ev:=eN) hS);rfl;rfl;rfl;exact mV;(exact i6);clear hS;intro r w hS;(refine frS ?_)));have hS1:=hS.rowNil (k:=4) (T:=29);clear hS;have hS:=hS1;clear hS1
 go_loopw [4] (fun v4 wr=>TeR W (blk eb [.map (some m1),.map (some m2),.map (some m3),.map (some m4)] 84::blk b0 [.I 0,.I 0,.I 0,.I 0] 29::d8 eI eSs m2 e.ss::d8 eW eTn m3 e.ts::d8 eW eU m4 e.ar::R) E m1 r v4 wr) (fun _ wr=>ao4 r m1 wr)
 case atStart=>
  refine⟨[],i7 E,List.Perm.refl _,?_⟩;have h0:St W (cq4 (.slice none 0 0) ([]:List It)::_) _:=hS
  show St W (cq4 (.slice none 0 0) ([]:List It)::_) _
  exact h0.s _
 case round=>
  clear hS;obtain⟨done,todo,hdt,hS⟩:=hrel;have hm1:=An7 hS.drop
  have hdl:done.length<=1000000:=by
   have:=hdt.length_eq;rw[jA]at this;omega
  by_cases ht:todo=[]
  ·have hall:=Hend.out done (by rw[ht,List.append_nil]at hdt;exact hdt);have Hall:=jH hall;clear hall hdt hm1 hm;generalize (done.map fun y=>am4 (vAt E y.1))=acc at hS Hall;go_wp2_with(first|((with_reducible apply Bp7 (ek:=eS) (ev:=eN) hS);rfl;rfl;rfl;(exact i6);exact ht;(refine frS ?_))|(go_at_call 58;refine(Ht7 Hall.out _ W _ _ hS).mono ?_;clear hS;rintro ex w ⟨rfl,hS⟩)|(refine zsN hS ?_;clear hS;intro w hS));(apply Ac7;rfl;rfl;rfl;rfl;exact hS;decide +kernel;(exact n9);kernel_rfl);have h1:=bg4 (hS.s (itR eS eN r m1 (i7 E) todo::j8 E::blk eb _ _::d8 eI eSs m2 e.ss::d8 eW eTn m3 e.ts::d8 eW eU m4 e.ar::R))
   exact⟨rfl,K6 Hp.out (h1.s _)⟩
  ·have hm':∀(y:ByteArray×Nat) (todo':List (ByteArray×Nat)),todo.Perm (y::todo')->∃V,E.Perm ((y.1,(y.2,V))::j5 E y.1)/\vAt E y.1=V/\PsW V.ps (100*i)/\C5 (ce4 ⟨V.ps,V.L,V.n⟩) it0=some ⟨E5 V 0,E5 V 1,E5 V 2,E5 V 3⟩:=fun y todo' h=>hm y todo' hdt h
   have hnx:∀(y:ByteArray×Nat) (todo':List (ByteArray×Nat)),todo.Perm (y::todo')->(done++[y]++todo').Perm (i7 E):=fun y todo' h=>by
    rw[jS]
    exact(List.Perm.append_left done h.symm).trans hdt
   have Hm:=jH hm';have Hnx:=jH hnx;have Hm1:=jH hm1;clear hm hm' hnx hdt hm1;obtain⟨accj,hacc⟩:∃l,(done.map fun y=>am4 (vAt E y.1))=l:=⟨_,rfl⟩
   have hal:accj.length<=1000000:=by rw[<-hacc,jM];exact hdl
   rw[hacc]at hS;have Hacc:=jH hacc;clear hacc;go_wp2_with(first|((with_reducible apply Bq7 (ek:=eS) (ev:=eN) hS);rfl;rfl;rfl;(exact i6);exact ht;clear hS;intro y todo' hy1 hy2 w hS;obtain⟨yk,yb⟩:=y;have Hy:=jH hy1;clear hy1 hy2;(refine frS ?_))|((with_reducible apply Bo7 (ek:=eS) (ev:=eN) hS);rfl;rfl;rfl;(exact i6);clear hS;intro hS;(refine frS ?_))|(go_at_call 57;obtain⟨V,hp,hv,hw,hadd⟩:=Hm.out (yk,yb) todo' Hy.out;have h1:=bU4 (aE4 hp (hS.s (j8 E::itR eS eN r m1 (i7 E) todo'::cq4 _ accj::blk eb _ _::blk b0 _ _::d8 eI eSs m2 e.ss::d8 eW eTn m3 e.ts::d8 eW eU m4 e.ar::R)));obtain⟨mb,bb,h2⟩:=aZ4 h1;clear hS h1;refine(Kh7 yb mb bb V.ps V.L V.n hw (by omega) hadd W _ _ h2).mono ?_;clear h2;rintro ex w ⟨rfl,h3⟩;have hS:=aE4 hp.symm (cp4 (x:=(yk,(yb,V))) (aC4 h3));have Hv:=jH hv;clear h3 hp hv hw hadd)|((have:=gA);(refine zal hS ?_;clear hS;intro bt w hS))|(refine zsN hS ?_;clear hS;intro w hS)|(refine zlN hS ?_)|(refine zbs hS ?_;clear hS;intro bS w hS)|(refine zap hS ?_ (h63:=by unfold maxLen;omega) (hb:=by omega);clear hS;intro v w hS))
   go_roundw
   case rel=>
    refine⟨done++[(yk,yb)],todo',Hnx.out _ _ Hy.out,?_⟩;rw[List.map_append,Hacc.out]
    show St W (cq4 _ (accj++[am4 (vAt E yk)])::_) w
    rw[Hv.out];unfold cq4;rw[Du7,jA,List.length_singleton];have h0:St W (row v 4 29 (accj.length+1) (accj.flatMap It.cells++It.cells (am4 V))::_) w:=hS
    exact h0.s _
   case measure=>
    have h3:=An7 (hS.take (by exact i6));have h4:=Hy.out.length_eq;rw[jC]at h4;have h5:=Hm1.out;omega
def K7(k:Int):List (ByteArray×Vs)->Int
 | []=>0
 | x::l=>E5 x.2 k+K7 k l
def M8(e:Ec)(k:Int):Int:=K7 k e.vs
theorem MD7{l l':List (ByteArray×Vs)}(h:l.Perm l')(k:Int):K7 k l=K7 k l':=by
 induction h with
 | nil=>rfl
 | cons x _ ih=>rw[K7,K7,ih]
 | swap x y l=>rw[K7,K7,K7,K7];omega
 | trans _ _ h1 h2=>rw[h1,h2]
theorem Kl7(k:Int):E5 vs0 k=0:=rfl
theorem Ow7{l:List (ByteArray×Vs)}(hn:(l.map (·.1)).Nodup)(u:ByteArray)(k:Int):K7 k l=E5 ((i9 l u).getD vs0) k+K7 k (j5 l u):=by
 cases hg:i9 l u with
 | none=>rw[Bj7 (AO7 hg)];show _=E5 vs0 k+_;rw[Kl7];omega
 | some V=>rw[MD7 (Bs7 hn hg) k];rfl
theorem Qb7{e:Ec}(hn:(e.vs.map (·.1)).Nodup)(u:ByteArray)(V:Vs)(k:Int):K7 k (bF4 e u V).vs=M8 e k-E5 (atV e u) k+E5 V k:=by
 have h:=Ow7 hn u k;unfold M8;rw[h];unfold atV
 show K7 k (if A5 V=true then j5 e.vs u else(u,V)::j5 e.vs u)=_
 split
 ·rename_i hv
  rw[HE7 hv,Kl7];omega
 ·show E5 V k+K7 k (j5 e.vs u)=_
  omega
def bD4(e:Ec):Prop:=∀x∈e.vs,(∀o∈x.2.L,MayP o)/\x.2.L.length<=32
theorem eE4{p:Ps}{n:Int}{i:Nat}(h:VOk p n i):PsK p:=⟨h.w.nd,h.ok⟩
theorem SI7{V:Vs}(hp:PsK V.ps)(hL:∀x∈V.L,MayP x)(k:Int):0<=E5 V k:=by
 have h1:=hp.pos k;have h2:=Fx7 hL k;unfold E5;omega
theorem LB7{k:Int}:∀{l:List (ByteArray×Vs)},(∀x∈l,0<=E5 x.2 k)->0<=K7 k l
 | [],_=>Int.le_refl _
 | x::l,h=>by
  have h1:=h x (List.mem_cons_self ..);have h2:=LB7 fun y hy=>h y (List.mem_cons_of_mem x hy)
  rw[K7];omega
theorem FA7{k:Int}:∀{l:List (ByteArray×Vs)},(∀x∈l,0<=E5 x.2 k)->∀x∈l,E5 x.2 k<=K7 k l
 | [],_,_,hx=>by cases hx
 | y::l,h,x,hx=>by
  have h1:=h y (List.mem_cons_self ..);have h2:=LB7 fun y hy=>h y (List.mem_cons_of_mem _ hy)
  rw[K7]
  rcases List.mem_cons.1 hx with rfl|hx
  ·omega
  ·have:=FA7 (fun y hy=>h y (List.mem_cons_of_mem _ hy)) x hx;omega
theorem EOk.nn{e:Ec}{n:Nat}(h:EOk e n)(he:bD4 e)(k:Int):∀x∈e.vs,0<=E5 x.2 k:=fun x hx=>SI7 (eE4 (h x hx)) (he x hx).1 k
def cE4(o:Opn)(r:Rpl)(b:Bool)(k:Int):Int:=
 if b=true/\r.err=0 then(if o.kind=1\/o.kind=6 then(if k=o.item then o.cnt else 0)else if o.kind=2 then -(if k=o.item then o.cnt else 0)else 0)else 0
theorem Er7{it ct k:Int}(hi:Kx it)(hk:Kx k):p8 (r7 it ct) k=if k=it then ct else 0:=by
 unfold r7;rw[HM7 it0 hi hk,BO7]
section
variable{e:Ec}{o:Opn}{n:Nat}
theorem Hf7(hm:w7 o=true)(h:o.kind=1\/o.kind=2\/o.kind=6):Kx o.item/\1<=o.cnt/\o.cnt<=1048576/\B7 o.aw=true:=by
 unfold w7 F6 aK4 at hm;simp only[Bool.and_eq_true]at hm;obtain⟨⟨_,_,_,_,_,hw⟩,hk⟩:=hm
 have hc:G9 o=true:=by
  unfold J6 at hk
  rcases h with h|h|h
  ·rw[if_pos h]at hk;unfold s9 at hk;simp only[Bool.and_eq_true]at hk
   exact hk.1
  ·rw[if_neg (by omega),if_pos h]at hk;unfold N6 at hk;simp only[Bool.and_eq_true]at hk
   exact hk.2.1
  ·rw[if_neg (by omega),if_neg (by omega),if_neg (by omega),if_neg (by omega),if_neg (by omega),if_pos h]at hk;unfold s9 at hk;simp only[Bool.and_eq_true]at hk
   exact hk.1
 obtain⟨h0,h4,c0,c1⟩:=Da7 hc
 exact⟨⟨h0,by omega⟩,c0,c1,hw⟩
theorem SJ7{it ct:Int}(hi:Kx it)(h0:0<=ct)(h1:ct<=1048576):s8 (r7 it ct)=true:=Kg7 fun k hk=>by
 rw[Er7 hi hk]
 split <;> omega
theorem RT7{p:Ps}{u:ByteArray}{it ct:Int}(hp:PsK p)(hu:B7 u=true)(hi:Kx it)(h0:0<=ct)(h1:ct<=1048576)(hb:∀k,Kx k->I6 k p<=1000000000000):J9 p u (r7 it ct)=0:=by
 have h3:=SJ7 hi h0 h1;have h4:=hp.ok u
 have h2:(C5 [k9 p u,r7 it ct] it0).isSome=true:=by
  rw[Fy7 [k9 p u,r7 it ct] (s:=it0) (t:=N5 (k9 p u) (r7 it ct)) (fun i hi=>by
   rcases List.mem_cons.1 hi with rfl|hi
   ·exact h4
   ·rw[List.mem_singleton.1 hi];exact h3) HN7 (fun k hk=>by
    rw[Dt7,BO7];simp[al4]) (fun k hk=>by
    rw[Dt7,Er7 hi hk];have:=hp.le u k;have:=hb k hk
    split <;> omega)]
  rfl
 unfold J9;rw[if_pos ⟨hu,h3⟩,if_pos h2]
theorem RU7(hn:(e.vs.map (·.1)).Nodup)(hE:EOk e n)(he:bD4 e)(he2:bD4 (G5 e o).2.2)(hb:∀k,Kx k->M8 e k<=500000000){k:Int}(hk:Kx k):
  M8 (G5 e o).2.2 k=M8 e k+cE4 o (G5 e o).1 (G5 e o).2.1 k:=by
 cases hp:D5 e o with
 | mk r b=>
 cases b with
 | true=>
  rw[Dq7 hp];unfold cE4;rw[if_neg (by simp)]
  show M8 e k=M8 e k+0
  omega
 | false=>
  obtain⟨rfl,hm⟩:=BM7 hp;rw[Dr7 hp]at he2 ⊢;dsimp only at he2 ⊢;obtain⟨V,hV⟩:∃V,atV e o.ak=V:=⟨_,rfl⟩
  rw[hV]at he2 ⊢
  have hVf:PsK V.ps/\(∀x∈V.L,MayP x)/\∀k,Kx k->E5 V k<=500000000:=by
   rw[<-hV];unfold atV
   cases hg:i9 e.vs o.ak with
   | none=>exact⟨⟨List.nodup_nil,Fp7⟩,fun x hx=>(by cases hx),fun k _=>by show E5 vs0 k<=_;rw[Kl7];omega⟩
   | some U=>
    have hu:=AF7 hg
    exact⟨eE4 (hE _ hu),(he _ hu).1,fun k hk=>Int.le_trans (FA7 (hE.nn he k) _ hu) (hb k hk)⟩
  obtain⟨hpk,hmay,hvb⟩:=hVf
  have hset:M8 ⟨(bF4 e o.ak (doV V o).2).vs,doS e o (doV V o).1,doT e o (doV V o).1,doA e o⟩ k=M8 e k-E5 V k+E5 (doV V o).2 k:=by
   have:=Qb7 hn o.ak (doV V o).2 k;rw[hV]at this
   exact this
  rw[hset]
  have hL2:∀x∈(doV V o).2.L,MayP x:=by
   by_cases hz:A5 (doV V o).2=true
   ·rw[HE7 hz];exact fun x hx=>(by cases hx)
   ·refine(he2 (o.ak,(doV V o).2) ?_).1
    show _∈(if A5 (doV V o).2=true then j5 e.vs o.ak else(o.ak,(doV V o).2)::j5 e.vs o.ak)
    rw[if_neg hz]
    exact List.mem_cons_self ..
  have hwl:∀k,Kx k->I6 k V.ps<=500000000:=fun k hk=>by
   have h1:=hvb k hk;have h2:=Fx7 hmay k;unfold E5 at h1;omega
  have hgoal:E5 (doV V o).2 k=E5 V k+cE4 o (doV V o).1 true k:=by
   by_cases h1:o.kind=1
   ·obtain⟨hi,c0,c1,hw⟩:=Hf7 hm (.inl h1);have e1:doV V o=(⟨J9 V.ps o.aw (r7 o.item o.cnt),0,it0⟩, { V with ps:=F7 V.ps o.aw (r7 o.item o.cnt) }):=by unfold doV;rw[if_pos h1]
    rw[e1];have h2:=(IX7 (V:=V) (k:=o.aw) (i:=r7 o.item o.cnt) hpk k).1;dsimp only at h2 ⊢;rw[h2,Er7 hi hk];unfold cE4;simp[h1]
   by_cases h2:o.kind=2
   ·obtain⟨hi,c0,c1,hw⟩:=Hf7 hm (.inr (.inl h2));have e1:doV V o=(⟨m9 V.ps o.aw (r7 o.item o.cnt),0,it0⟩, { V with ps:=p9 V.ps o.aw (r7 o.item o.cnt) }):=by unfold doV;rw[if_neg h1,if_pos h2]
    rw[e1];have h3:=(Mu7 (V:=V) (k:=o.aw) (i:=r7 o.item o.cnt) hpk k).1;dsimp only at h3 ⊢;rw[h3,Er7 hi hk];unfold cE4;simp[h2]
    split <;> omega
   by_cases h3:o.kind=3
   ·have e1:doV V o=(⟨(B5 V (aS4 o)).2.1,(B5 V (aS4 o)).1,it0⟩,(B5 V (aS4 o)).2.2):=by unfold doV;rw[if_neg h1,if_neg h2,if_pos h3]
    rw[e1]at hL2 ⊢;have h4:=Ms7 (o:=aS4 o) hpk hmay hL2 (fun k hk=>by have:=hvb k hk;omega) hk;dsimp only at h4 ⊢;rw[h4];unfold cE4;simp[h3]
   by_cases h4:o.kind=4
   ·have e1:doV V o=(⟨(C6 V o.aw o.id).1,0,it0⟩,(C6 V o.aw o.id).2):=by unfold doV;rw[if_neg h1,if_neg h2,if_neg h3,if_pos h4]
    rw[e1];have h5:=Mt7 (V:=V) (who:=o.aw) (id:=o.id) hpk hmay (fun k hk=>by have:=hvb k hk;omega) hk;dsimp only at h5 ⊢;rw[h5];unfold cE4;simp[h4]
   by_cases h6:o.kind=6
   ·obtain⟨hi,c0,c1,hw⟩:=Hf7 hm (.inr (.inr h6));have e1:doV V o=(rp0, { V with ps:=F7 V.ps o.aw (r7 o.item o.cnt) }):=by unfold doV;rw[if_neg h1,if_neg h2,if_neg h3,if_neg h4,if_neg (by omega),if_pos h6]
    rw[e1];have h7:=(IX7 (V:=V) (k:=o.aw) (i:=r7 o.item o.cnt) hpk k).1;rw[if_pos (RT7 hpk hw hi (by omega) c1 (fun k hk=>by have:=hwl k hk;omega)),Er7 hi hk]at h7;dsimp only at h7 ⊢;rw[h7];unfold cE4;simp[h6]
   ·have e1:(doV V o).2=V:=by
     unfold doV;rw[if_neg h1,if_neg h2,if_neg h3,if_neg h4]
     repeat' split
     all_goals first|rfl|exact absurd ‹_› h6
    rw[e1];unfold cE4;rw[if_neg (show ¬(o.kind=1\/o.kind=6)by omega),if_neg h2]
    split <;> omega
  rw[hgoal];omega
theorem RV7(hm:w7 o=true)(r:Rpl)(b:Bool)(k:Int):cE4 o r b k<=1048576:=by
 unfold cE4
 split
 ·split
  ·rename_i h
   have:=Hf7 hm (by omega)
   split <;> omega
  ·split
   ·rename_i h
    have:=Hf7 hm (.inr (.inl h))
    split <;> omega
   ·omega
 ·omega
theorem SK7(r:Rpl)(k:Int):cE4 o r (G5 e o).2.1 k<=1048576:=by
 cases hp:D5 e o with
 | mk r2 c=>
 cases c with
 | true=>
  rw[Dq7 hp];unfold cE4;rw[if_neg (by simp)];omega
 | false=>exact RV7 (BM7 hp).2 _ _ _
end
theorem SL7{e:Ec}{n:Nat}(hE:EOk e n)(he:bD4 e)(hb:∀k,Kx k->M8 e k<=500000000):∀x∈e.vs,C5 (ce4 x.2) it0=some (am4 x.2):=fun x hx=>
 RF7 (eE4 (hE x hx)) (he x hx).1 fun k hk=>by
  have h1:=FA7 (hE.nn he k) x hx;have h2:=hb k hk;unfold M8 at h2;omega
theorem LC7{k:Int}(hk:Kx k):∀l:List (ByteArray×Vs),al4 k (l.map fun x=>am4 x.2)=K7 k l
 | []=>rfl
 | x::l=>by
  have ih:=LC7 hk l
  show p8 (am4 x.2) k+al4 k (l.map fun x=>am4 x.2)=_
  rw[ih,Fz7 _ hk]
  rfl
theorem Jg7(f:Int->Int){k:Int}(hk:Kx k):p8 ⟨f 0,f 1,f 2,f 3⟩ k=f k:=by
 obtain⟨h0,h3⟩:=hk;have h:k=0\/k=1\/k=2\/k=3:=by omega
 rcases h with rfl|rfl|rfl|rfl <;> rfl
theorem SM7{e:Ec}{n:Nat}(hE:EOk e n)(he:bD4 e)(hb:∀k,Kx k->M8 e k<=500000000):∀l:List It,l.Perm (e.vs.map fun x=>am4 x.2)->C5 l it0=some ⟨M8 e 0,M8 e 1,M8 e 2,M8 e 3⟩:=fun l hl=>by
 refine Fy7 l ?_ HN7 (fun k hk=>?_) (fun k hk=>?_)
 ·intro i hi;obtain⟨x,hx,rfl⟩:=List.mem_map.1 (hl.mem_iff.1 hi);refine Kg7 fun k hk=>?_
  have h1:=FA7 (hE.nn he k) x hx;have h2:=hb k hk;have h3:=hE.nn he k x hx;unfold M8 at h2;rw[Fz7 _ hk];omega
 ·rw[Jg7 (M8 e) hk,BO7,IY7 hl,LC7 hk]
  show M8 e k=0+M8 e k
  omega
 ·rw[Jg7 (M8 e) hk];have:=hb k hk;omega
theorem hw4{W w:World}{R:List HP}{xb:Nat}(h:St W (xeB xb (.slice none 0 0) (.slice none 0 0) (.slice none 0 0) (.slice none 0 0)::R) w):St W (x9 xb ec0::R) w:=by
 have h1:=h.rowNil (k:=2) (T:=140);have h2:=h1.rowNil (k:=8) (T:=40);have h3:=h2.rowNil (k:=8) (T:=143);have h4:St W (sats []::_) w:=St.shutS [] h3;have h5:=h4.rowNil (k:=2) (T:=137);have h6:St W (xrP (.slice none 0 0) []::l6 []::xsP (.slice none 0 0) []::xtP (.slice none 0 0) []::xmP (.slice none 0 0) []::xeB xb (.slice none 0 0) (.slice none 0 0) (.slice none 0 0) (.slice none 0 0)::R) w:=h5
 exact L6 (D:=[]) (d:=ec0) rfl (h6.s _)
abbrev hx4(b:Nat)(s0 s1 s2 s3:Int):HP:=blk b [.I s0,.I s1,.I s2,.I s3] 28
def TlR(W:World)(Lr:List HP)(eb xb sb:Nat)(xs:List Opn)(v:Value)(w:World):Prop:=
 ∃i:Nat,v=.I i/\i<=xs.length/\GOk (bT4 (xs.take i) ec0) (aB4 (xs.take i) ec0) i/\(∀k,Kx k->M8 (aB4 (xs.take i) ec0) k<=i*1048576) /\
  St W (ecP eb (aB4 (xs.take i) ec0)::x9 xb (bT4 (xs.take i) ec0)::hx4 sb (M8 (aB4 (xs.take i) ec0) 0) (M8 (aB4 (xs.take i) ec0) 1) (M8 (aB4 (xs.take i) ec0) 2) (M8 (aB4 (xs.take i) ec0) 3)::Lr) w
end Go.Proofs.YtlmhakmoioogaaaGreat
end
section
namespace Go.Proofs.YtlmhakmoioogaaaGreat
open Go.Shelf
def Tryz.sortInts_ren:Go.Shelf.Ren:=⟨fun|189=>134|125=>177|257=>191|128=>224|129=>225|294=>239|295=>240|296=>241|297=>242|298=>243|299=>244|216=>245|300=>246|301=>247|328=>261|329=>252|330=>253|331=>262|332=>263|215=>178|343=>274|n=>n,fun|28=>62|3=>3|46=>195|0=>0|51=>295|53=>194|4=>4|183=>289|182=>288|131=>134|5=>5|9=>9|218=>318|222=>262|228=>332|229=>181|n=>n,fun|n=>n⟩
theorem Tryz.sortInts:Go.Proofs.Lays.n189 Tryz.prog Tryz.sortInts_ren:={
 mixed:=by kernel_rfl
 f125:=Tryz.func177.trans (congrArg some (by kernel_rfl))
 f128:=Tryz.func224.trans (congrArg some (by kernel_rfl))
 f129:=Tryz.func225.trans (congrArg some (by kernel_rfl))
 f189:=Tryz.func134.trans (congrArg some (by kernel_rfl))
 f215:=Tryz.func178.trans (congrArg some (by kernel_rfl))
 f216:=Tryz.func245.trans (congrArg some (by kernel_rfl))
 f257:=Tryz.func191.trans (congrArg some (by kernel_rfl))
 f294:=Tryz.func239.trans (congrArg some (by kernel_rfl))
 f295:=Tryz.func240.trans (congrArg some (by kernel_rfl))
 f296:=Tryz.func241.trans (congrArg some (by kernel_rfl))
 f297:=Tryz.func242.trans (congrArg some (by kernel_rfl))
 f298:=Tryz.func243.trans (congrArg some (by kernel_rfl))
 f299:=Tryz.func244.trans (congrArg some (by kernel_rfl))
 f300:=Tryz.func246.trans (congrArg some (by kernel_rfl))
 f301:=Tryz.func247.trans (congrArg some (by kernel_rfl))
 f328:=Tryz.func261.trans (congrArg some (by kernel_rfl))
 f329:=Tryz.func252.trans (congrArg some (by kernel_rfl))
 f330:=Tryz.func253.trans (congrArg some (by kernel_rfl))
 f331:=Tryz.func262.trans (congrArg some (by kernel_rfl))
 f332:=Tryz.func263.trans (congrArg some (by kernel_rfl))
 f343:=Tryz.func274.trans (congrArg some (by kernel_rfl))
 t0:=Tryz.underlying0
 a0:=Tryz.isAgg0
 z0:=Tryz.sizeOf0
 v0:=Tryz.zeroValue0
 t3:=Tryz.underlying3
 a3:=Tryz.isAgg3
 z3:=Tryz.sizeOf3
 v3:=Tryz.zeroValue3
 t4:=Tryz.underlying4
 a4:=Tryz.isAgg4
 z4:=Tryz.sizeOf4
 v4:=Tryz.zeroValue4
 t5:=Tryz.underlying5
 a5:=Tryz.isAgg5
 z5:=Tryz.sizeOf5
 v5:=Tryz.zeroValue5
 t9:=Tryz.underlying9
 a9:=Tryz.isAgg9
 z9:=Tryz.sizeOf9
 v9:=Tryz.zeroValue9
 t28:=Tryz.underlying62
 a28:=Tryz.isAgg62
 z28:=Tryz.sizeOf62
 v28:=Tryz.zeroValue62
 t46:=Tryz.underlying195
 a46:=Tryz.isAgg195
 z46:=Tryz.sizeOf195
 v46:=Tryz.zeroValue195
 t51:=Tryz.underlying295
 a51:=Tryz.isAgg295
 z51:=Tryz.sizeOf295
 v51:=Tryz.zeroValue295
 t53:=Tryz.underlying194
 a53:=Tryz.isAgg194
 z53:=Tryz.sizeOf194
 v53:=Tryz.zeroValue194
 t131:=Tryz.underlying134
 a131:=Tryz.isAgg134
 z131:=Tryz.sizeOf134
 v131:=Tryz.zeroValue134
 t182:=Tryz.underlying288
 a182:=Tryz.isAgg288
 z182:=Tryz.sizeOf288
 v182:=Tryz.zeroValue288
 t183:=Tryz.underlying289
 a183:=Tryz.isAgg289
 z183:=Tryz.sizeOf289
 v183:=Tryz.zeroValue289
 t218:=Tryz.underlying318
 a218:=Tryz.isAgg318
 z218:=Tryz.sizeOf318
 v218:=Tryz.zeroValue318
 t222:=Tryz.underlying262
 a222:=Tryz.isAgg262
 z222:=Tryz.sizeOf262
 v222:=Tryz.zeroValue262
 t228:=Tryz.underlying332
 a228:=Tryz.isAgg332
 z228:=Tryz.sizeOf332
 v228:=Tryz.zeroValue332
 t229:=Tryz.underlying181
 a229:=Tryz.isAgg181
 z229:=Tryz.sizeOf181
 v229:=Tryz.zeroValue181 }
end Go.Proofs.YtlmhakmoioogaaaGreat
end
