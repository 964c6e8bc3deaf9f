/-
  Apply, At, New over an economy as one resource.
-/
import Derived.Test.YtlmhakmoioogaaaGreatEconDcM4
import Derived.Test.YtlmhakmoioogaaaGreatEconDcM6
import Derived.Test.YtlmhakmoioogaaaGreatEconDcM12
import Derived.Test.YtlmhakmoioogaaaGreatEconDcM14
import Derived.Test.YtlmhakmoioogaaaGreatEconDcM15
import Derived.Test.YtlmhakmoioogaaaGreatEconDcM18
import Derived.Test.YtlmhakmoioogaaaGreatRows
import Derived.Lib.SmallJoins
import Derived.ChangeArms
import Derived.ProofKit
import Derived.Shelf.SlIter.Nil
set_option maxHeartbeats 16000000
set_option maxRecDepth 100000
set_option linter.unusedSimpArgs false
set_option linter.unusedVariables false
section
namespace Go.Proofs.YtlmhakmoioogaaaGreat
open Go.RowKit Go.Sl
def EOk(e:Ec)(i:Nat):Prop:=∀x∈e.vs,VOk x.2.ps x.2.n i
theorem gq4(i:Nat):EOk ec0 i:=fun _ h=>(by cases h)
theorem To7{E:Ev}{e:Ec}{i:Nat}(h:EOk e i)(hp:(m8 E).Perm e.vs):L5 E i:=fun x hx=>h (x.1,x.2.2) (hp.mem_iff.1 (List.mem_map.2 ⟨x,hx,rfl⟩))
theorem Tp7{E:Ev}{e:Ec}{i:Nat}(h:L5 E i)(hp:(m8 E).Perm e.vs):EOk e i:=fun y hy=>by obtain⟨x,hx,rfl⟩:=List.mem_map.1 (hp.mem_iff.2 hy);exact h x hx
theorem Qk7{e:Ec}{o:Opn}{r:Rpl}(h:au4 e o=(r,false)):r=rp0/\A8 o=true:=by
 unfold au4 at h;split at h
 ·cases h
 ·rename_i hm
  refine⟨?_,by simpa using hm⟩;split at h
  ·exact(congrArg Prod.fst h).symm
  ·split at h
   ·exact(congrArg Prod.fst h).symm
   ·split at h
    ·exact(congrArg Prod.fst h).symm
    ·split at h
     ·cases h
     ·split at h
      ·cases h
      ·exact(congrArg Prod.fst h).symm
theorem Ql7{e:Ec}{o:Opn}{r:Rpl}(h:au4 e o=(r,true)):bg4 e o=(r,false,e):=by unfold bg4;rw[h];rfl
theorem Qm7{e:Ec}{o:Opn}(h:au4 e o=(rp0,false)):bg4 e o=((doV (atV e o.ak) o).1,true,⟨(cu4 e o.ak (doV (atV e o.ak) o).2).vs,doS e o (doV (atV e o.ak) o).1,doT e o (doV (atV e o.ak) o).1,doA e o⟩):=by unfold bg4;rw[h];rfl
theorem EB7{o:Opn}(h:K7 o=true):0<=o.item/\o.item<4/\1<=o.cnt/\o.cnt<=1048576:=by unfold K7 at h;simpa using h
section
variable{W w:World}{R:List HP}{eb m1 m2 m3 m4:Nat}{E:Ev}{i:Nat}{e:Ec}
theorem Cz7{vs:List (ByteArray×Vs)}{ss:List (Int×(Int×Rpl))}{ts:List ((Int×Int)×Tns)}{ar:List ((Int×Int)×Unit)}(hok:L5 E i)(hp:(m8 E).Perm vs)(hS:St W (ecR eb m1 m2 m3 m4 E ss ts ar R) w):EOk ⟨vs,ss,ts,ar⟩ i/\St W (ecP eb ⟨vs,ss,ts,ar⟩::R) w:=
 ⟨Tp7 (e:=⟨vs,ss,ts,ar⟩) hok hp,R6 (e:=⟨vs,ss,ts,ar⟩) hp (D9 hS)⟩
theorem aO4(h:St W (ecP eb e::R) w):∃m1 m2 m3 m4 E,(m8 E).Perm e.vs/\(E.map (·.1)).Nodup/\St W (ecR eb m1 m2 m3 m4 E e.ss e.ts e.ar R) w:=by obtain⟨m1,m2,m3,m4,E,hp,h⟩:=cv4 h;exact⟨m1,m2,m3,m4,E,hp,by rw[<-Bb7];exact F9 h.drop,F7 h⟩
theorem KB7(hn:(E.map (·.1)).Nodup)(hp:(m8 E).Perm e.vs)(k:ByteArray):atV e k=vAt E k:=by unfold atV vAt;rw[Tm7 hn hp]
end
theorem Qn7{eb:Nat}{e:Ec}(k u:ByteArray){x0 x1 x2 x3:Int}(hx:r6 (atV e k).ps u=⟨x0,x1,x2,x3⟩)(W w:World)(R:List HP)(hS:St W (ecP eb e::R) w):
  Calls Tryz.prog 18 #[.P eb,.agg #[.string k,.string u]] w fun x w'=>x=.returned (.agg #[.I x0,.I x1,.I x2,.I x3])/\St W (ecP eb e::R) w':=by
 obtain⟨m1,m2,m3,m4,E,hp,hn,hS⟩:=aO4 hS;rw[KB7 hn hp]at hx;refine(LM7 k u hx W w _ hS).mono ?_;rintro x w' ⟨rfl,hS⟩;exact⟨rfl,R6 hp (D9 hS)⟩
theorem Qo7{eb:Nat}{e:Ec}{i:Nat}(hE:EOk e i)(hi:i<=1000000)(kd cl sq:Int)(ak aw tk tw:ByteArray)(it ct pr:Int)(bu:Bool)(id:Int)(W w:World)(R:List HP)(hS:St W (ecP eb e::R) w):
  Calls Tryz.prog 16 #[.P eb,oV kd cl sq ak aw tk tw it ct pr bu id] w fun x w'=>EOk (bg4 e ⟨kd,cl,sq,ak,aw,tk,tw,it,ct,pr,bu,id⟩).2.2 (i+1) /\
   x=.returned (.tuple #[rV (bg4 e ⟨kd,cl,sq,ak,aw,tk,tw,it,ct,pr,bu,id⟩).1.err (bg4 e ⟨kd,cl,sq,ak,aw,tk,tw,it,ct,pr,bu,id⟩).1.id (bg4 e ⟨kd,cl,sq,ak,aw,tk,tw,it,ct,pr,bu,id⟩).1.has.x0 (bg4 e ⟨kd,cl,sq,ak,aw,tk,tw,it,ct,pr,bu,id⟩).1.has.x1 (bg4 e ⟨kd,cl,sq,ak,aw,tk,tw,it,ct,pr,bu,id⟩).1.has.x2 (bg4 e ⟨kd,cl,sq,ak,aw,tk,tw,it,ct,pr,bu,id⟩).1.has.x3,.bool (bg4 e ⟨kd,cl,sq,ak,aw,tk,tw,it,ct,pr,bu,id⟩).2.1]) /\
   St W (ecP eb (bg4 e ⟨kd,cl,sq,ak,aw,tk,tw,it,ct,pr,bu,id⟩).2.2::R) w':=by
 obtain⟨m1,m2,m3,m4,E,hp,hn,hS⟩:=aO4 hS;have hEv:=To7 hE hp;have hV:=KB7 hn hp ak;have hnv:(e.vs.map (·.1)).Nodup:=by rw[<-Cg7]at hn;exact(hp.map (·.1)).nodup_iff.1 hn
 cases hpk:au4 e ⟨kd,cl,sq,ak,aw,tk,tw,it,ct,pr,bu,id⟩with
 | mk r k=>
 cases k with
 | true=>
  rw[Ql7 hpk];refine(Si7 (vs:=e.vs) kd cl sq ak aw tk tw it ct pr bu id e.ss e.ts e.ar W w R hpk hS).mono ?_;rintro x w' ⟨rfl,hS⟩;exact⟨fun x hx=>(hE x hx).on,rfl,R6 hp (D9 hS)⟩
 | false=>
  obtain⟨rfl,hm⟩:=Qk7 hpk;have hap:=Qm7 hpk;dsimp only at hap;rw[hV]at hap;have hm2:L8 ⟨kd,cl,sq,ak,aw,tk,tw,it,ct,pr,bu,id⟩=true:=by unfold A8 at hm;exact(jB _ _▸hm).2
  have hk:kd=1\/kd=2\/kd=3\/kd=4\/kd=5\/kd=6\/kd=7:=by
   unfold L8 at hm2;dsimp only at hm2
   repeat' split at hm2
   all_goals first|omega|cases hm2
  have hs:∀V,(bC4 ((ak,V)::l8 e.vs ak) ak).Perm (cu4 e ak V).vs:=fun V=>by rw[Qj7]
  have hsame:(bC4 e.vs ak).Perm (cu4 e ak (vAt E ak)).vs:=by rw[<-hV];exact Ol7 e ak hnv
  rcases hk with rfl|rfl|rfl|rfl|rfl|rfl|rfl
  ·have hm3:A7 ⟨1,cl,sq,ak,aw,tk,tw,it,ct,pr,bu,id⟩=true:=hm2;have hc:K7 ⟨1,cl,sq,ak,aw,tk,tw,it,ct,pr,bu,id⟩=true:=by unfold A7 at hm3;exact(jB _ _▸hm3).1
   obtain⟨h0,h4,c0,c1⟩:=EB7 hc;refine(gk4 (vs:=e.vs) cl sq ak aw tk tw it ct pr bu id e.ss e.ts e.ar W w R hpk hEv hi hp h0 h4 c0 c1 rfl rfl hS).mono ?_;rintro x w' ⟨E',h1,h2,rfl,hS⟩;rw[hap];obtain⟨h3,h5⟩:=Cz7 h1 (h2.trans (hs _)) hS;exact⟨h3,rfl,h5⟩
  ·have hm3:ac4 ⟨2,cl,sq,ak,aw,tk,tw,it,ct,pr,bu,id⟩=true:=hm2;have hc:K7 ⟨2,cl,sq,ak,aw,tk,tw,it,ct,pr,bu,id⟩=true:=by unfold ac4 at hm3;exact(jB _ _▸(jB _ _▸hm3).2).1
   obtain⟨h0,h4,c0,c1⟩:=EB7 hc;by_cases hr:J9 (vAt E ak).ps aw (P7 it ct)=0
   ·have hd:doT e ⟨2,cl,sq,ak,aw,tk,tw,it,ct,pr,bu,id⟩ (doV (vAt E ak) ⟨2,cl,sq,ak,aw,tk,tw,it,ct,pr,bu,id⟩).1=((cl,sq),⟨cl,sq,ak,aw,tk,tw,it,ct⟩)::l8 e.ts (cl,sq):=if_pos ⟨rfl,hr⟩
    have hv:(doV (vAt E ak) ⟨2,cl,sq,ak,aw,tk,tw,it,ct,pr,bu,id⟩).1=rp0:=by
     show(⟨J9 (vAt E ak).ps aw (P7 it ct),0,it0⟩:Rpl)=rp0
     rw[hr]
    rw[hd,hv]at hap;refine(fG4 (vs:=e.vs) cl sq ak aw tk tw it ct pr bu id e.ss e.ts e.ar W w R hpk hEv hi hp h0 h4 c0 c1 hr rfl hS).mono ?_;rintro x w' ⟨E',h1,h2,rfl,hS⟩;rw[hap];obtain⟨h3,h5⟩:=Cz7 h1 (h2.trans (hs _)) hS;exact⟨h3,rfl,h5⟩
   ·have hd:doT e ⟨2,cl,sq,ak,aw,tk,tw,it,ct,pr,bu,id⟩ (doV (vAt E ak) ⟨2,cl,sq,ak,aw,tk,tw,it,ct,pr,bu,id⟩).1=e.ts:=(if_neg (fun h=>hr h.2)).trans (if_neg (by show ¬((2:Int)=7);decide));rw[hd]at hap;refine(fF4 (vs:=e.vs) cl sq ak aw tk tw it ct pr bu id e.ss e.ts e.ar W w R hpk hEv hi hp h0 h4 c0 c1 rfl (by simpa using hr) rfl hS).mono ?_;rintro x w' ⟨E',h1,h2,rfl,hS⟩;rw[hap];obtain⟨h3,h5⟩:=Cz7 h1 (h2.trans (hs _)) hS;exact⟨h3,rfl,h5⟩
  ·skip
   refine(gl4 (vs:=e.vs) cl sq ak aw tk tw it ct pr bu id e.ss e.ts e.ar W w R hpk hEv hi hp rfl rfl rfl hS).mono ?_;rintro x w' ⟨E',h1,h2,rfl,hS⟩;rw[hap];obtain⟨h3,h5⟩:=Cz7 h1 (h2.trans (hs _)) hS;exact⟨h3,rfl,h5⟩
  ·skip
   refine(gm4 (vs:=e.vs) cl sq ak aw tk tw it ct pr bu id e.ss e.ts e.ar W w R hpk hEv hi hp rfl rfl hS).mono ?_;rintro x w' ⟨E',h1,h2,rfl,hS⟩;rw[hap];obtain⟨h3,h5⟩:=Cz7 h1 (h2.trans (hs _)) hS;exact⟨h3,rfl,h5⟩
  ·skip
   refine(gn4 (vs:=e.vs) cl sq ak aw tk tw it ct pr bu id e.ss e.ts e.ar W w R hpk hEv hi hp rfl hS).mono ?_;rintro x w' ⟨E',h1,h2,rfl,hS⟩;rw[hap];obtain⟨h3,h5⟩:=Cz7 h1 (h2.trans hsame) hS;exact⟨h3,rfl,h5⟩
  ·have hm3:A7 ⟨6,cl,sq,ak,aw,tk,tw,it,ct,pr,bu,id⟩=true:=hm2;have hc:K7 ⟨6,cl,sq,ak,aw,tk,tw,it,ct,pr,bu,id⟩=true:=by unfold A7 at hm3;exact(jB _ _▸hm3).1
   obtain⟨h0,h4,c0,c1⟩:=EB7 hc;refine(go4 (vs:=e.vs) cl sq ak aw tk tw it ct pr bu id e.ss e.ts e.ar W w R hpk hEv hi hp h0 h4 c0 c1 rfl hS).mono ?_;rintro x w' ⟨E',h1,h2,rfl,hS⟩;rw[hap];obtain⟨h3,h5⟩:=Cz7 h1 (h2.trans (hs _)) hS;exact⟨h3,rfl,h5⟩
  ·skip
   refine(gp4 (vs:=e.vs) cl sq ak aw tk tw it ct pr bu id e.ss e.ts e.ar W w R hpk hEv hi hp hS).mono ?_;rintro x w' ⟨E',h1,h2,rfl,hS⟩;rw[hap];obtain⟨h3,h5⟩:=Cz7 h1 (h2.trans hsame) hS;exact⟨h3,rfl,h5⟩
theorem LN7{eb:Nat}{e e2:Ec}{i:Nat}{r:Rpl}{b:Bool}(hE:EOk e i)(hi:i<=1000000){kd cl sq:Int}{ak aw tk tw:ByteArray}{it ct pr:Int}{bu:Bool}{id:Int}(h:bg4 e ⟨kd,cl,sq,ak,aw,tk,tw,it,ct,pr,bu,id⟩=(r,b,e2))(W w:World)(R:List HP)(hS:St W (ecP eb e::R) w):
  Calls Tryz.prog 16 #[.P eb,oV kd cl sq ak aw tk tw it ct pr bu id] w fun x w'=>EOk e2 (i+1)/\x=.returned (.tuple #[rV r.err r.id r.has.x0 r.has.x1 r.has.x2 r.has.x3,.bool b])/\St W (ecP eb e2::R) w':=by
 have h1:=Qo7 hE hi kd cl sq ak aw tk tw it ct pr bu id W w R hS;rw[h]at h1;exact h1
abbrev kA:ByteArray:=⟨#[97]⟩
abbrev kX:ByteArray:=⟨#[120]⟩
abbrev kB:ByteArray:=⟨#[98]⟩
abbrev kY:ByteArray:=⟨#[121]⟩
abbrev kN:ByteArray:=⟨#[]⟩
abbrev gS4(last:Int):Opn:=⟨1,7,last,kA,kX,kN,kN,0,3,0,false,0⟩
abbrev gT4(now:Int):Opn:=⟨5,7,now,kA,kX,kN,kN,0,0,0,false,0⟩
abbrev gU4(last:Int):Ec:=⟨[(kA,⟨[(kX,⟨3,0,0,0⟩)],[],1⟩)],[(7,(last,rp0))],[],[]⟩
abbrev knO:Opn:=⟨1,1,1,kA,kX,kN,kN,0,5,0,false,0⟩
abbrev kn1:Ec:=⟨[(kA,⟨[(kX,⟨5,0,0,0⟩)],[],1⟩)],[(1,(1,rp0))],[],[]⟩
theorem Tq7:bg4 ec0 knO=(rp0,true,kn1):=by kernel_rfl
theorem Qp7:bg4 kn1 knO=(rp0,false,kn1):=by kernel_rfl
theorem fH4:r6 (atV kn1 kA).ps kX=⟨5,0,0,0⟩:=by kernel_rfl
end Go.Proofs.YtlmhakmoioogaaaGreat
end
section
namespace Go.Proofs.YtlmhakmoioogaaaGreat
open Go.Joins Go.ChangeShapes Go.WideShapes Go.RowKit Go.Deep Go.Sl
structure OpnAt(V:World)(b off:Nat)(x:Opn):Prop where
 kind:V.cell? ⟨b,off,none⟩=some (.I x.kind)
 client:V.cell? ⟨b,off+1,none⟩=some (.I x.client)
 seq:V.cell? ⟨b,off+2,none⟩=some (.I x.seq)
 ak:V.cell? ⟨b,off+3,none⟩=some (.string x.ak)
 aw:V.cell? ⟨b,off+4,none⟩=some (.string x.aw)
 tk:V.cell? ⟨b,off+5,none⟩=some (.string x.tk)
 tw:V.cell? ⟨b,off+6,none⟩=some (.string x.tw)
 all:∀(j:Nat) (v:Value),x.cells[j]? = some v->V.cell? ⟨b,off+j,none⟩=some v
end Go.Proofs.YtlmhakmoioogaaaGreat
end
section
namespace Go.Proofs.YtlmhakmoioogaaaGreat
open Go.RowKit Go.Sl
def gV4(W:World)(L:List HP)(n:Nat)(v:Value)(w:World):Prop:=∃i:Nat,v=.I i/\i<=n/\St W L w
theorem Qq7{r0 r1 r2 r3 r4 r5 q0 q1 q2 q3 q4 q5:Int}{b:Bool}(h:Rpl.eqB ⟨r0,r1,⟨r2,r3,r4,r5⟩⟩ ⟨q0,q1,⟨q2,q3,q4,q5⟩⟩=b)(w:World):(Op.equalIn 10000 31 (rV r0 r1 r2 r3 r4 r5) (rV q0 q1 q2 q3 q4 q5)).run Tryz.prog w=.ok b w:=h▸fw4 ⟨r0,r1,⟨r2,r3,r4,r5⟩⟩ ⟨q0,q1,⟨q2,q3,q4,q5⟩⟩ w
theorem GM7(W w:World)(R:List HP)(hS:St W R w):
  Calls Tryz.prog 14 #[] w fun e w'=>e=.returned (.bool true)/\St W R w':=by
 go_enter Tryz.func14,Tryz.ntmps14;go_wp2_with(first|go_at_call 15;refine(JA7 W _ _ hS).mono ?_;clear hS;rintro e w ⟨eb,rfl,hS⟩|(fail_if_success (have:=q1));(refine zal hS ?_;clear hS;have q1:Nat:=0;intro b1 w hS)|(have:=q1);(fail_if_success (have:=q2));(refine zal hS ?_;clear hS;have q2:Nat:=0;intro b2 w hS)|(have:=q2);refine zal hS ?_;clear hS;intro b3 w hS|refine zlN hS ?_|refine zlN hS ?_ (vs:=[.string kA,.string kX]) (hc:=by first|exact d7.here rfl|exact d7.there (d7.here rfl)|exact d7.there (d7.there (d7.here rfl))|exact d7.there (d7.there (d7.there (d7.here rfl))))|refine zsN hS ?_;clear hS;intro w hS|(fail_if_success (have:=gA));go_at_call 16;refine(LN7 (gq4 0) (by decide) Tq7 W _ _ (hS.s (ecP eb ec0::blk b1 _ _::R))).mono ?_;clear hS;have gA:Nat:=0;rintro e w ⟨hok,rfl,hS⟩;have Hok:=jH hok;clear hok|(have:=gA);go_at_call 16;refine(LN7 Hok.out (by decide) Qp7 W _ _ (hS.s (ecP eb (kn1)::blk b2 _ _::blk b1 _ _::R))).mono ?_;clear hS;rintro e w ⟨_,rfl,hS⟩|(with_reducible apply Dh7);rfl;rfl;rfl;rfl;kernel_rfl;exact Qq7 (rfl:Rpl.eqB ⟨0,0,⟨0,0,0,0⟩⟩ ⟨0,0,⟨0,0,0,0⟩⟩=true);refine frS ?_|(with_reducible apply Dh7);rfl;rfl;rfl;rfl;kernel_rfl;exact eqI _ _ _ _ _ _ _ _;refine frS ?_|go_at_call 18;refine(Qn7 kA kX fH4 W _ _ (hS.s (ecP eb kn1::blk b3 _ _::blk b2 _ _::blk b1 _ _::R))).mono ?_;clear hS;rintro e w ⟨rfl,hS⟩);go_ret;exact⟨rfl,hS.drop.drop.drop.drop⟩
abbrev sM(n:Int):Opn:=⟨1,1,1,kA,kX,kN,kN,0,n,0,false,0⟩
abbrev sS(c:Int):Opn:=⟨2,1,2,kA,kX,kB,kY,0,c,0,false,0⟩
abbrev sA(c:Int):Opn:=⟨6,1,2,kB,kY,kN,kN,0,c,0,false,0⟩
abbrev sD:Opn:=⟨7,1,2,kA,kX,kN,kN,0,0,0,false,0⟩
section
variable{n c:Int}
abbrev s1(n:Int):Ec:=⟨[(kA,⟨[(kX,⟨n,0,0,0⟩)],[],1⟩)],[(1,(1,rp0))],[],[]⟩
abbrev s2n(n:Int):Ec:=⟨[(kA,⟨[(kX,⟨n,0,0,0⟩)],[],1⟩)],[(1,(2,⟨14,0,it0⟩))],[],[]⟩
abbrev qS(n c:Int):Ps:=M7 [(kX,⟨n,0,0,0⟩)] kX ⟨n-c,0,0,0⟩
abbrev s2(n c:Int):Ec:=⟨(cu4 (s1 n) kA ⟨qS n c,[],1⟩).vs,[(1,(2,rp0))],[((1,2),dd4 (sS c))],[]⟩
abbrev s3(n c:Int):Ec:=⟨(cu4 (s2 n c) kB ⟨[(kY,⟨c,0,0,0⟩)],[],1⟩).vs,[(1,(2,rp0))],[((1,2),dd4 (sS c))],[((1,2),())]⟩
abbrev s4(n c:Int):Ec:=⟨(cu4 (s3 n c) kA (atV (s3 n c) kA)).vs,[(1,(2,rp0))],[],[((1,2),())]⟩
end
def bQ4(k:Int):Ps->Int
 | []=>0
 | x::p=>G8 x.2 k+bQ4 k p
def fI4(k:Int):List Ord->Int
 | []=>0
 | x::L=>G8 (m9 x) k+fI4 k L
def gr4(k:Int)(t:Trd):Int:=(if k=t.item then t.cnt else 0)+(if k=0 then t.cnt*(t.bid-t.price)+t.cnt*t.price else 0)
def gs4(k:Int):List Trd->Int
 | []=>0
 | t::ts=>gr4 k t+gs4 k ts
def bD4(k:Int):List It->Int
 | []=>0
 | i::l=>G8 i k+bD4 k l
def eh4(V:Vs)(k:Int):Int:=bQ4 k V.ps+fI4 k V.L
structure Kx(k:Int):Prop where
 k0:0<=k
 k3:k<=3
theorem In7(k:Int):G8 it0 k=0:=by
 unfold G8 it0;repeat' split
 all_goals rfl
theorem Io7(a b:It)(k:Int):G8 (S7 a b) k=G8 a k+G8 b k:=by
 unfold G8 S7
 repeat' split
 all_goals rfl
theorem Tr7{i:It}(h:isZ i=true)(k:Int):G8 i k=0:=by rw[Rm7 h,In7]
theorem On7{p:Ps}(h:(p.map (·.1)).Nodup)(k:ByteArray)(i:It):((M7 p k i).map (·.1)).Nodup:=by
 unfold M7;split
 ·exact Fl7 h k
 ·rw[List.map_cons,List.nodup_cons];refine⟨fun hm=>?_,Fl7 h k⟩;obtain⟨x,hx,e⟩:=List.mem_map.1 hm;exact(Cx7 hx).2 e
theorem Oo7{p:Ps}(h:(p.map (·.1)).Nodup){x:ByteArray×It}(hx:x∈p):r6 p x.1=x.2:=by have:=BK7 (v:=x.2) h hx;unfold r6;rw[this];rfl
theorem MU7(x:ByteArray×It)(p:Ps)(k:ByteArray):r6 (x::p) k=if x.1=k then x.2 else r6 p k:=by
 unfold r6 p9;split
 ·rename_i h
  rw[List.find?_cons_of_pos (by simpa using h)];rfl
 ·rename_i h
  rw[List.find?_cons_of_neg (by simpa using h)]
theorem LO7(k:Int)(who:ByteArray):∀{p:Ps},(p.map (·.1)).Nodup->bQ4 k (l8 p who)=bQ4 k p-G8 (r6 p who) k
 | [],_=>by
  show(0:Int)=0-G8 it0 k
  rw[In7];rfl
 | x::p,h=>by
  rw[List.map_cons,List.nodup_cons]at h;have ih:=LO7 k who h.2;rw[MU7];by_cases hx:x.1=who
  ·rw[if_pos hx]
   have e:l8 (x::p) who=p:=by
    unfold l8;rw[List.filter_cons,if_neg (by simpa using hx)];refine List.filter_eq_self.2 fun y hy=>?_
    have:y.1≠who:=fun e=>h.1 (List.mem_map.2 ⟨y,hy,e.trans hx.symm⟩)
    simpa using this
   rw[e];show bQ4 k p=G8 x.2 k+bQ4 k p-G8 x.2 k
   omega
  ·rw[if_neg hx];have e:l8 (x::p) who=x::l8 p who:=by unfold l8;rw[List.filter_cons,if_pos (by simpa using hx)]
   rw[e];show G8 x.2 k+bQ4 k (l8 p who)=G8 x.2 k+bQ4 k p-G8 (r6 p who) k
   omega
theorem Qr7{p:Ps}(h:(p.map (·.1)).Nodup)(k:Int)(who:ByteArray)(i:It):bQ4 k (M7 p who i)=bQ4 k p-G8 (r6 p who) k+G8 i k:=by
 have hd:=LO7 k who h;unfold M7;split
 ·rename_i hz
  rw[hd,Tr7 hz];omega
 ·show G8 i k+bQ4 k (l8 p who)=_
  omega
structure PsK(p:Ps):Prop where
 nd:(p.map (·.1)).Nodup
 ok:P8 p
theorem PsK.pos{p:Ps}(h:PsK p)(k:Int):0<=bQ4 k p:=by
 have hx:∀x∈p,0<=G8 x.2 k:=fun x hx=>by rw[<-Oo7 h.nd hx];exact(Fj7 (h.ok x.1) k).1
 clear h
 induction p with
 | nil=>exact Int.le_refl _
 | cons x p ih=>
  have h1:=hx x (List.mem_cons_self ..);have h2:=ih fun y hy=>hx y (List.mem_cons_of_mem _ hy)
  show 0<=G8 x.2 k+bQ4 k p
  omega
theorem KC7:w8 it0=true:=by decide
theorem PsK.le{p:Ps}(h:PsK p)(who:ByteArray)(k:Int):G8 (r6 p who) k<=bQ4 k p:=by have h1:=Qr7 h.nd k who it0;have h2:=PsK.pos ⟨On7 h.nd who it0,Ev7 h.ok who KC7⟩ k;rw[In7]at h1;omega
def gP4(o:Ord)(c:Int):Ord:=⟨o.id,o.who,o.buy,o.item,c,o.price⟩
theorem Op7{l l':List It}(h:l.Perm l')(k:Int):bD4 k l=bD4 k l':=by
 induction h with
 | nil=>rfl
 | cons x _ ih=>simp only[bD4,ih]
 | swap x y l=>simp only[bD4];omega
 | trans _ _ ih1 ih2=>rw[ih1,ih2]
theorem Qs7{l:List It}(h:∀i∈l,w8 i=true)(k:Int):0<=bD4 k l:=by
 induction l with
 | nil=>exact Int.le_refl _
 | cons i l ih=>
  have h1:=(Fj7 (h i (List.mem_cons_self ..)) k).1;have h2:=ih fun y hy=>h y (List.mem_cons_of_mem i hy)
  show 0<=G8 i k+bD4 k l
  omega
theorem Sj7{i:It}(h:∀k,Kx k->0<=G8 i k/\G8 i k<=1152921504606846976):w8 i=true:=
 Ai7.2 ⟨h 0 ⟨by decide,by decide⟩,h 1 ⟨by decide,by decide⟩,h 2 ⟨by decide,by decide⟩,h 3 ⟨by decide,by decide⟩⟩
theorem Ts7{a b:It}(h:∀k,Kx k->G8 a k=G8 b k):a=b:=by obtain⟨a0,a1,a2,a3⟩:=a;obtain⟨b0,b1,b2,b3⟩:=b;have h0:a0=b0:=h 0 ⟨by decide,by decide⟩;have h1:a1=b1:=h 1 ⟨by decide,by decide⟩;have h2:a2=b2:=h 2 ⟨by decide,by decide⟩;have h3:a3=b3:=h 3 ⟨by decide,by decide⟩;rw[h0,h1,h2,h3]
theorem LP7:∀(l:List It) {s t:It},(∀i∈l,w8 i=true)->w8 s=true->(∀k,Kx k->G8 t k=G8 s k+bD4 k l)->(∀k,Kx k->G8 t k<=1152921504606846976)->y9 l s=some t
 | [],s,t,_,_,he,_=>by rw[Ts7 (a:=t) (b:=s) fun k hk=>by rw[he k hk];show G8 s k+0=_;omega];rfl
 | i::l,s,t,h,hs,he,hb=>by
  have hi:=h i (List.mem_cons_self ..);have hl:∀x∈l,w8 x=true:=fun x hx=>h x (List.mem_cons_of_mem i hx)
  have hsi:w8 (S7 s i)=true:=Sj7 fun k hk=>by have a:=(Fj7 hs k).1;have b:=(Fj7 hi k).1;have c:=Qs7 hl k;have d:=he k hk;have e:=hb k hk;have f:bD4 k (i::l)=G8 i k+bD4 k l:=rfl;rw[Io7];omega
  rw[y9,if_pos ⟨hi,hsi⟩];refine LP7 l hl hsi (fun k hk=>?_) hb;rw[he k hk,Io7];show _=_+bD4 k l
  have f:bD4 k (i::l)=G8 i k+bD4 k l:=rfl;omega
def G7(V:Vs):List It:=(hdL V.ps).map Hd.has++V.L.map m9
def gt4(V:Vs):It:=⟨eh4 V 0,eh4 V 1,eh4 V 2,eh4 V 3⟩
abbrev aU4(v:Value)(l:List It):HP:=row v 4 29 l.length (l.flatMap It.cells)
def TtR(W:World)(F:List HP)(m:Nat)(acc:Nat->List It)(v7 vk:Value)(w:World):Prop:=
 ∃k:Nat,vk=.I k/\k<=m/\St W (aU4 v7 (acc k)::F) w
theorem BR7{α β:Type}(f:α->β)(l:List α){k:Nat}(h:k<l.length):(l.take (k+1)).map f=(l.take k).map f++[f l[k]]:=by rw[List.take_succ_eq_append_getElem h,List.map_append];rfl
theorem CA7(l:List It)(x:It):(l++[x]).flatMap It.cells=l.flatMap It.cells++x.cells:=by simp
theorem KD7(vb mb bb:Nat)(p:Ps)(L:List Ord)(n:Int){N:Nat}(hw:PsW p N)(hN:N<=1000000000){t0 t1 t2 t3:Int}(ht:y9 (G7 ⟨p,L,n⟩) it0=some ⟨t0,t1,t2,t3⟩)(W w:World)(R:List HP)(hS:St W (t8 vb mb bb p L n R) w):
  Calls Tryz.prog 57 #[.P vb] w fun e w'=>e=.returned (.tuple #[.agg #[.I t0,.I t1,.I t2,.I t3],.bool true])/\St W (t8 vb mb bb p L n R) w':=by
 have hll:=BP7 hS.drop.drop;have hmay:∀x∈L,MayP x:=fun x hx=>(By7 hS.drop.drop x hx).1
 have hlh:(hdL p).length<=1000000000:=by rw[BW7];exact Nat.le_trans hw.len hN
 have Hmay:=jH hmay;have Ht:=jH ht;have Hw:=jH hw;clear hmay ht hw;go_enter Tryz.func57,Tryz.ntmps57;go_wp2_with(first|go_at_call 124;refine(CQ7 vb mb bb p L n Hw.out hN W _ _ (hS.s (blk vb _ _::c8 eS eP mb p::r7 bb L n::blk b0 _ _::R))).mono ?_;clear hS;rintro e w ⟨sa,sc,oa,oc,rfl,hS⟩|(with_reducible apply Ao7 hS);rfl;rfl;exact zsS;clear hS;intro b0 w hS;refine frS ?_);generalize hhs:hdL p=hs at hS hlh;have Hhs:=jH hhs;clear hhs;have hS1:=hS.rowNil (k:=4) (T:=29);clear hS;have hS:=hS1;clear hS1
 go_loopw [7,22] (fun v7 v22 wr=>TtR W (t8 vb mb bb p L n (hdR (.slice sa hs.length sc) hs::i9 (.slice oa L.length oc) L::blk b0 [.I 0,.I 0,.I 0,.I 0] 29::R)) hs.length (fun k=>(hs.take k).map Hd.has) v7 v22 wr) (fun _ v22 _=>hs.length-(intOf v22).toNat)
 case atStart=>exact⟨0,rfl,Nat.zero_le _,hS⟩
 case round=>
  clear hS;obtain⟨k,rfl,hkl,hS⟩:=hrel;dsimp only at hS;by_cases hkn:k=hs.length
  ·rw[hkn,List.take_length]at hS;have hd1:decide (k<hs.length)=false:=by simp;omega
   clear hkl hkn;generalize hacc:hs.map Hd.has=acc at hS;have hal:acc.length<=1000000000:=by rw[<-hacc,jM];exact hlh
   have Hacc:=jH hacc;clear hacc;go_wp2_with(fail)
   go_loopw [7,34] (fun v7 v34 wr=>TtR W (t8 vb mb bb p L n (hdR (.slice sa hs.length sc) hs::i9 (.slice oa L.length oc) L::blk b0 [.I 0,.I 0,.I 0,.I 0] 29::R)) L.length (fun k=>acc++(L.take k).map m9) v7 v34 wr) (fun _ v34 _=>L.length-(intOf v34).toNat)
   case atStart=>exact⟨0,rfl,Nat.zero_le _,by simpa using hS⟩
   case round=>
    clear hS;obtain⟨j,rfl,hjl,hS⟩:=hrel;dsimp only at hS;by_cases hjn:j=L.length
    ·rw[hjn,List.take_length]at hS;have hd2:decide (j<L.length)=false:=by simp;omega
     have hall:y9 (acc++L.map m9) it0=some ⟨t0,t1,t2,t3⟩:=by rw[<-Hacc.out,<-Hhs.out];exact Ht.out
     have Hall:=jH hall;clear hall hjl hjn;go_wp2_with(first|go_at_call 58;refine(Ig7 Hall.out _ W _ _ hS).mono ?_;clear hS;rintro e w ⟨rfl,hS⟩|(with_reducible apply Ao7 hS);rfl;rfl;exact zsS;clear hS;intro bt w hS;refine frS ?_|refine zsN hS ?_;clear hS;intro w hS|refine zlN hS ?_);apply Ab7;rfl;rfl;rfl;rfl;exact hS;decide +kernel;(exact x9);kernel_rfl;exact⟨rfl,hS.s _⟩
    ·have hj1:j<L.length:=by omega
     obtain⟨⟨g,rfl⟩,_,_⟩:=St.rowAddr hS.drop.drop.drop.drop.drop (by omega);have hcells:∀{K K':List HP},Take K (i9 (.S g L.length oc) L) K'->d7 K g (j*6) (Ord.cells L[j]):=fun hu=>d7.elemM (enc:=Ord.cells) Ord.len hu hj1
     have hstep:acc++(L.take (j+1)).map m9=(acc++(L.take j).map m9)++[m9 L[j]]:=by rw[BR7 _ _ hj1,jS]
     have hmx:=Hmay.out _ (jW hj1);have hbl:(acc++(L.take j).map m9).length<=1000000100:=by rw[jA,jM,jT];omega
     have Hstep:=jH hstep;clear hstep hjn hjl;generalize acc++(L.take j).map m9=accj at hS Hstep hbl;generalize L[j]=x at hcells Hstep hmx;obtain⟨it,hit⟩:∃y,m9 x=y:=⟨_,rfl⟩
     obtain⟨oi,ou,oy,ot,oc2,op⟩:=x;obtain⟨h0,h1,h2,h3⟩:=it;have Hit:=jH hit;have Hm:=jH hmx;clear hit hmx;simp only[Ord.cells]at hcells;go_wp2_with(first|refine zlN hS ?_ (hc:=by exact hcells (by exact g8))|go_at_call 125;refine(Ey7 (o:=⟨oi,ou,oy,ot,oc2,op⟩) Hm.out Hit.out W _ _ hS).mono ?_;clear hS;rintro e w ⟨rfl,hS⟩|refine zbs hS ?_;clear hS;intro bS w hS|refine zap hS ?_ (h63:=by unfold maxLen;omega) (hb:=by omega);clear hS;intro v w hS|(with_reducible apply Ao7 hS);rfl;rfl;exact zsS;clear hS;intro bx w hS;refine frS ?_|refine zsN hS ?_;clear hS;intro w hS|refine zlN hS ?_);go_roundw
     case rel=>
      refine⟨j+1,rfl,hj1,?_⟩;dsimp only;rw[Hstep.out,Hit.out];unfold aU4;rw[CA7,jA,List.length_singleton];have h0:St W (row v 4 29 (accj.length+1) (accj.flatMap It.cells++It.cells ⟨h0,h1,h2,h3⟩)::_) w:=hS;exact h0.s _
     case measure=>simp[intOf];omega
  ·have hk1:k<hs.length:=by omega
   obtain⟨⟨g,rfl⟩,_,_⟩:=St.rowAddr hS.drop.drop.drop.drop (by omega);have hcells:∀{K K':List HP},Take K (hdR (.S g hs.length sc) hs) K'->d7 K g (k*5) (Hd.cells hs[k]):=fun hu=>d7.elemM (enc:=Hd.cells) Hd.len hu hk1
   have hstep:=BR7 Hd.has hs hk1;have hbl:((hs.take k).map Hd.has).length<=1000000100:=by rw[jM,jT];omega
   have Hstep:=jH hstep;clear hstep hkn hkl;generalize (hs.take k).map Hd.has=accj at hS Hstep hbl;generalize hs[k]=x at hcells Hstep;obtain⟨xw,⟨x0,x1,x2,x3⟩⟩:=x;simp only[Hd.cells,It.cells]at hcells;go_wp2_with(first|refine zlN hS ?_ (hc:=by exact hcells (by exact g8))|refine zlN hS ?_ (hc:=by exact d7.here (vs:=[.I x0,.I x1,.I x2,.I x3]) rfl)|refine zbs hS ?_;clear hS;intro bS w hS|refine zap hS ?_ (h63:=by unfold maxLen;omega) (hb:=by omega);clear hS;intro v w hS|(with_reducible apply Ao7 hS);rfl;rfl;exact zsS;clear hS;intro bx w hS;refine frS ?_|refine zsN hS ?_;clear hS;intro w hS);go_roundw
   case rel=>
    refine⟨k+1,rfl,hk1,?_⟩;dsimp only;rw[Hstep.out];unfold aU4;rw[CA7,jA,List.length_singleton];have h0:St W (row v 4 29 (accj.length+1) (accj.flatMap It.cells++It.cells ⟨x0,x1,x2,x3⟩)::_) w:=hS;exact h0.s _
   case measure=>simp[intOf];omega
def TeR(W:World)(R:List HP)(E:Ev)(m1 r:Nat)(v4:Value)(w:World):Prop:=
 ∃done todo:List (ByteArray×Nat),(done++todo).Perm (i8 E)/\St W (aU4 v4 (done.map fun y=>gt4 (vAt E y.1))::itR eS eN r m1 (i8 E) todo::j8 E::R) w
end Go.Proofs.YtlmhakmoioogaaaGreat
end
section
namespace Go.Sl
open Go.RowKit
section
variable{κ ν:Type}{F:Fence}{n:Nat}{P:Program}{W w:World}{L R:List HP}{ops:Array Oper}{rest:List Oper}{o:Oper}{a:Act}{Q:Exit->Act->World->Prop}{ek:κ->Value}{ev:ν->Value}{b r:Nat}{l todo:List (κ×ν)}{t K E:TypeId}
theorem Fn7(hS:St W L w){x:Operand}(hg:o.guard=none)(hop:o.op=Op.range t x)(hx:a.eval x=.map (some b))(ht:F5 P t=some (K,E))(hu:Take L (c8 ek ev b l) R)
  (h:∀r w',St W (itR ek ev r b l l::R) w'->wpListIn F n P ops Q rest (a.put o.dst (.P r)) w'):wpListIn F n P ops Q (o::rest) a w:=by
 obtain⟨r,w',hr,hS'⟩:=Hw7 (P:=P) (hS.take hu) ht;refine wpListIn_plain hg fun K' hK'=>?_
 unfold Oper.wpIn;refine⟨?_,?_⟩
 ·simp[Oper.about,hop]
 ·rw[Oper.semAt_plain F _ _ (by rw[hop];intro c hc';cases hc')];simp[execOp,hop,hx,hr,Result.andThen];exact hK' _ _ (h r w' hS')
theorem GN7(hS:St W (itR ek ev r b l todo::L) w){x:Operand}(hg:o.guard=none)(hop:o.op=Op.next x false)(hx:a.eval x=.P r)
  (h0:todo=[]->wpListIn F n P ops Q rest (a.put o.dst (.tuple #[.bool false])) w)
  (h1:∀y todo' w',todo.Perm (y::todo')->y∈l->St W (itR ek ev r b l todo'::L) w'->(Instr.entry (.P r)).run P w'=.ok (.tuple #[ek y.1,ev y.2]) w'->wpListIn F n P ops Q rest (a.put o.dst (.tuple #[.bool true,ek y.1,ev y.2])) w'):
  wpListIn F n P ops Q (o::rest) a w:=by
 refine wpListIn_plain hg fun K' hK'=>?_
 unfold Oper.wpIn;refine⟨by simp[Oper.about,hop],?_⟩;rw[Oper.semAt_plain F _ _ (by rw[hop];intro c hc';cases hc')]
 rcases IW7 (P:=P) (ty:=o.type) hS with ⟨h2,hr⟩|⟨y,todo',hp,hy,w',hr,hS'⟩
 ·simp[execOp,hop,hx,hr,Result.andThen];exact hK' _ _ (h0 h2)
 ·simp[execOp,hop,hx,hr,Result.andThen];exact hK' _ _ (h1 y todo' w' hp hy (eO4 hS') (Hx7 hS'))
theorem HI7{s x:Operand}{e:TypeId}{z:Value}{k bytes:Nat}{v xv:Value}{m1 m:Nat}{cs news:List Value}(hS:St W L w)(hg:o.guard=none)(hop:o.op=.call { callee:=.builtin .append,args:=#[s,x],argTypes:=#[t,t] })
  (hs:a.eval s=v) (hx:a.eval x=xv) (ht:y6 P t=some e) (hi:C9 P e=some (some z,k,bytes)) (hz:z.cells.size=k) (hk:0<k) (hu:Take L (row v k e m1 cs) R) (hsrc:dp4 w xv m news) (hl:news.length=m*k) (h1:news.all (·.oneCell')=true) (h63:m1+m<=maxLen)
  (hb:(m1+m)*bytes<=140737488355328)
  (h:∀v' w',St W (row v' k e (m1+m) (cs++news)::R) w'->wpListIn F n P ops Q rest (a.put o.dst v') w'):wpListIn F n P ops Q (o::rest) a w:=by
 refine wpListIn_plain hg fun K' hK'=>?_
 unfold Oper.wpIn;obtain⟨v',w',hr,hS'⟩:=DH7 (P:=P) (ty:=o.type) ht hi hz hk rfl hS hu hsrc hl h1 h63 hb;refine⟨by simp[Oper.about,hop,resolve,Target.leads,Sem.run_pure],?_⟩;rw[Oper.semAt_plain F _ _ (by rw[hop];intro c hc';cases hc')];simp[execOp,hop,resolve,invoke,builtin,hs,hx,hr,Result.andThen];exact hK' _ _ (h v' w' hS')
theorem GO7(hF:∀f,F.fn f)(hg:o.guard=none)(hpl:∀c,o.op ≠ .defer c){v:Value}{w':World}(hr:(execOp a.eval o).run P w=.ok (.value v) w')(h:wpListIn F n P ops Q rest (a.put o.dst v) w'):wpListIn F n P ops Q (o::rest) a w:=by
 refine wpListIn_plain hg fun K' hK'=>?_
 unfold Oper.wpIn;refine⟨fun f _=>hF f,?_⟩;rw[Oper.semAt_plain F _ _ hpl,hr];exact hK' _ _ h
theorem Qt7(hF:∀f,F.fn f)(hg:o.guard=none)(hpl:∀c,o.op ≠ .defer c){w':World}(hr:(execOp a.eval o).run P w=.ok .skip w')(h:wpListIn F n P ops Q rest (a.put o.dst undef) w'):wpListIn F n P ops Q (o::rest) a w:=by
 refine wpListIn_plain hg fun K' hK'=>?_
 unfold Oper.wpIn;refine⟨fun f _=>hF f,?_⟩;rw[Oper.semAt_plain F _ _ hpl,hr];exact hK' _ _ h
theorem Ee7(hF:∀f,F.fn f){x:Operand}{b off:Nat}{v:Value}(hS:St W L w)(ho:o.op=.load t x)(hg:o.guard=none)(hx:a.eval x=.pointer (some ⟨b,off,none⟩))(ht:M8 P t=some false)(hc:e8 L b off v)(h:wpListIn F n P ops Q rest (a.put o.dst v) w):wpListIn F n P ops Q (o::rest) a w:=
 GO7 hF hg (fun c hc'=>by rw[ho]at hc';cases hc') (Eh7 hS ho hx ht hc) h
theorem KE7(hF:∀f,F.fn f){x:Operand}{b off:Nat}{vs:List Value}(hS:St W L w)(ho:o.op=.load t x)(hg:o.guard=none)(hx:a.eval x=.pointer (some ⟨b,off,none⟩))(ht:M8 P t=some true)(hn:E8 P t=some vs.length)(hc:d7 L b off vs)(h:wpListIn F n P ops Q rest (a.put o.dst (.agg vs.toArray)) w):wpListIn F n P ops Q (o::rest) a w:=
 GO7 hF hg (fun c hc'=>by rw[ho]at hc';cases hc') (FO7 hS ho hx ht hn hc) h
theorem GP7(hF:∀f,F.fn f){l:List Value}(hS:St W L w)(ho:o.op=.alloc t)(hg:o.guard=none)(hz:w9 P t=some l)(h:∀b w',St W (blk b l t::L) w'->wpListIn F n P ops Q rest (a.put o.dst (.P b)) w'):wpListIn F n P ops Q (o::rest) a w:=by obtain⟨b,w',hr,hS'⟩:=Fc7 (P:=P) (a:=a) hS ho hz;exact GO7 hF hg (fun c hc'=>by rw[ho]at hc';cases hc') hr (h b w' hS')
theorem Oq7(hF:∀f,F.fn f){x:Operand}{v:Value}{l:List Value}(hS:St W L w)(ho:o.op=.box t x)(hg:o.guard=none)(hx:a.eval x=v)(hv:v.cells=l.toArray)(h:∀b w',St W (blk b l t::L) w'->wpListIn F n P ops Q rest (a.put o.dst (.P b)) w'):wpListIn F n P ops Q (o::rest) a w:=by obtain⟨b,w',hr,hS'⟩:=Ld7 (P:=P) (a:=a) hS ho hx hv;exact GO7 hF hg (fun c hc'=>by rw[ho]at hc';cases hc') hr (h b w' hS')
theorem Ro7(hF:∀f,F.fn f){L':List HP}{x y:Operand}{b off:Nat}{l vs l':List Value}{T:TypeId}{v:Value}(hS:St W L w)(ho:o.op=.store t x y)(hg:o.guard=none)(hx:a.eval x=.pointer (some ⟨b,off,none⟩))(hy:a.eval y=v)(hv:v.cells.toList=vs)
  (hn:E8 P t=some vs.length) (h1:vs.all (·.oneCell')=true) (hu:Upd L (blk b l T) (blk b l' T) L') (hl:off+vs.length<=l.length) (he:C6 l off vs=l') (h:∀w',St W L' w'->wpListIn F n P ops Q rest (a.put o.dst undef) w'):wpListIn F n P ops Q (o::rest) a w:=by
 obtain⟨w',hr,hS'⟩:=Fb7 (P:=P) (a:=a) hS ho hx hy hv hn h1 hu hl he;exact Qt7 hF hg (fun c hc'=>by rw[ho]at hc';cases hc') hr (h w' hS')
theorem KF7(hF:∀f,F.fn f){L':List HP}{x y:Operand}{b off:Nat}{l vs l':List Value}{T:TypeId}(hS:St W L w)(ho:o.op=.store t x y)(hg:o.guard=none)(hx:a.eval x=.pointer (some ⟨b,off,none⟩))(hy:a.eval y=.agg vs.toArray)
  (hn:E8 P t=some vs.length) (h1:vs.all (·.oneCell')=true) (hu:Upd L (blk b l T) (blk b l' T) L') (hl:off+vs.length<=l.length) (he:C6 l off vs=l') (h:∀w',St W L' w'->wpListIn F n P ops Q rest (a.put o.dst undef) w'):wpListIn F n P ops Q (o::rest) a w:=
 Ro7 hF hS ho hg hx hy (by simp[Value.cells]) hn h1 hu hl he h
theorem Or7(hF:∀f,F.fn f){L':List HP}{x y:Operand}{b off:Nat}{l l':List Value}{T:TypeId}{v:Value}(hS:St W L w)(ho:o.op=.store t x y)(hg:o.guard=none)(hx:a.eval x=.pointer (some ⟨b,off,none⟩))(hy:a.eval y=v)
  (hn:E8 P t=some 1) (hv:v.cells.toList=[v]) (h1:v.oneCell'=true) (hu:Upd L (blk b l T) (blk b l' T) L') (hl:off<l.length) (he:l.set off v=l') (h:∀w',St W L' w'->wpListIn F n P ops Q rest (a.put o.dst undef) w'):wpListIn F n P ops Q (o::rest) a w:=
 Ro7 hF hS ho hg hx hy hv hn (by simp[h1]) hu (by simp;omega) (by simpa[C6]using he) h
theorem Rp7(hF:∀f,F.fn f){e n1:TypeId}{z:Value}{k bytes:Nat}{xs:Array (Nat×Operand)}{parts:List (Nat×Value)}{l:List Value}(hS:St W L w)(ho:o.op=.buildSlice t n1 xs)(hg:o.guard=none)(hx:(xs.map fun(i,x)=>(i,a.eval x))=parts.toArray)
  (ht:y6 P t=some e) (hi:C9 P e=some (some z,k,bytes)) (hz:z.cells.size=k) (hn:decide (n1*k<=16777216)=true) (hp:az4 k n1 parts=true) (hl:ba4 k (T8 z n1) parts=l)
  (h:∀b w',St W (blk b l e::L) w'->wpListIn F n P ops Q rest (a.put o.dst (.S b n1 n1)) w'):wpListIn F n P ops Q (o::rest) a w:=by
 obtain⟨b,w',hr,hS'⟩:=Gk7 (P:=P) (a:=a) hS ho hx ht hi hz hn hp hl;exact GO7 hF hg (fun c hc'=>by rw[ho]at hc';cases hc') hr (h b w' hS')
end
theorem St.putObj{W w:World}{L:List HP}{b:Nat}{o:Obj}(o':Obj)(h:St W (ae4 b o::L) w):St W (ae4 b o'::L) (w.putObj b o'):=by
 have hg:=h.get (b:=b) .head;refine h.putO .head rfl rfl rfl fun k=>?_
 by_cases hk:k=b
 ·subst hk;rw[if_pos rfl];exact World.putObj_heap_same (Array.getElem?_eq_some_iff.1 hg).1
 ·rw[if_neg hk];exact World.putObj_heap_other hk
def cJ4{κ:Type}(P:Program)(ek:κ->Value)(N:Nat)(l:Nat)(W:World)(X:List κ->HP):Prop:=
 ∀(m:Nat) (pre:List κ) (x:κ) (L:List HP) (w:World),pre.length<N->St W (X pre::L) w->YieldAt Fence.wide m P l #[ek x] w fun e w'=>e=.returned (.bool true)/\St W (X (pre++[x])::L) w'
def bG4{κ:Type}(P:Program)(ek:κ->Value)(N:Nat)(gf:Nat)(lb:Array Value)(S:List κ->Prop)(W:World)(R:List HP):Prop:=
 ∀(l m:Nat) (X:List κ->HP) (w:World),cJ4 P ek N l W X->St W (X []::R) w->
  CallsIn Fence.wide m P gf (#[.func (.yield l) #[] #[]]++lb) w fun e w'=>(∃v,e=.returned v)/\∃ss,S ss/\St W (X ss::R) w'
theorem GQ7{κ:Type}{n:Nat}{P:Program}{W w:World}{L R:List HP}{ops:Array Oper}{rest:List Oper}{o:Oper}{a:Act}{Q:Exit->Act->World->Prop}{ek:κ->Value}{x y:Operand}{ats:Array TypeId}{lp N:Nat}{k:κ}{pre:List κ}{X:List κ->HP}
  (hY:cJ4 P ek N lp W X) (hS:St W L w) (hop:o.op=.call { callee:=.value x,args:=#[y],argTypes:=ats }) (hg:o.guard=none) (hx:a.eval x=.func (.yield lp) #[] #[]) (hy:a.eval y=ek k) (hlt:pre.length<N) (hu:Take L (X pre) R)
  (h:∀w',St W (X (pre++[k])::R) w'->wpListIn Fence.wide n P ops Q rest (a.put o.dst (.bool true)) w'):wpListIn Fence.wide n P ops Q (o::rest) a w:=by
 obtain⟨fn,tmps,assign,body,hy2,hR⟩:=hY (n-1) pre k R w hlt (hS.take hu);refine wpListIn_plain hg fun K' hK'=>?_
 unfold Oper.wpIn;refine⟨fun f _=>trivial,?_⟩;rw[Oper.semAt_plain Fence.wide _ _ (by rw[hop];intro c hc';cases hc')]
 have e:(execOp a.eval o).run P w=.ok (.round lp fn tmps assign body) w:=by
  have ha:(#[y]:Array Operand).map a.eval=#[ek k]:=by simp[hy]
  unfold execOp;simp only[hop,resolve,Sem.run_bind,hx,Deferred.ofValue,ha,Sem.run_pure,Result.andThen_ok];simp[invoke,hy2]
 rw[e,Oper.uponIn_round];refine⟨(fun h=>by cases h),hR.mono ?_⟩;rintro e w3 ⟨rfl,h5⟩;exact hK' _ _ (h w3 h5)
def bz4(fn:FuncId)(tmps:Array Value)(ps:Array Tmp)(assign body:Code)(D:Nat)(st:LoopState)(pe:Option Code):Loop:={ state:=st,pending:=pe,fn,tmps,params:=ps,assign,body,defers:=D }
def dB4(rc:LoopState->Option Code->Loop)(l D:Nat)(I:HP):HP:=sep I (sep (ae4 l (.loop (rc .ready none))) (ae4 D (.deferred (some []))))
section
variable{κ:Type}{n:Nat}{P:Program}{W w:World}{L R:List HP}{a:Act}{Q:Exit->Act->World->Prop}{ek:κ->Value}
theorem dg4{rc:LoopState->Option Code->Loop}{l D:Nat}{I:HP}(h:St W (dB4 rc l D I::L) w):St W (I::ae4 l (.loop (rc .ready none))::ae4 D (.deferred (some []))::L) w:=
 (St.split (St.split h).swap).s _
theorem dh4{rc:LoopState->Option Code->Loop}{l D:Nat}{I:HP}(h:St W (I::ae4 l (.loop (rc .ready none))::ae4 D (.deferred (some []))::L) w):St W (dB4 rc l D I::L) w:=
 St.join ((St.join (h.s (ae4 l (.loop (rc .ready none))::ae4 D (.deferred (some []))::I::L))).swap)
theorem ei4{g:Operand}{p1:Tmp}{assign body:Code}{gf:Nat}{lb:Array Value}(hg:a.eval g=.func (.func gf) #[] lb)(eg:∀args w,(callFunc gf args).run P w=.ok (.enter gf args) w)
  {S:List κ->Prop} {N:Nat} {I:List κ->HP} (hseq:bG4 P ek N gf lb S W R) (hS:St W (I []::R) w)
  (hround:∀(l m:Nat) (pre:List κ) (x:κ) (L:List HP) (w:World),pre.length<N->St W (I pre::L) w->assign.wpIn (Fence.wide.inRound l) m P (Exit.then (fun a1 w1=>∃J:HP,St W (J::L) w1/\∀(L2:List HP) (w2:World),St W (J::L2) w2->
   body.wpIn (Fence.wide.inRound l) m P (fun e _ w'=>e=.normal/\St W (I (pre++[x])::L2) w') a1 w2) (fun _ _ _=>False)) { tmps:=a.tmps.setIfInBounds p1 (ek x),defers:=[] } w)
  (hdone:∀(D:Nat) (ss:List κ) (w:World),S ss->St W (I ss::ae4 D (.deferred (some []))::R) w->Q .normal { a with defers:={ target:=.collected D,args:=#[] }::a.defers } w):
  (Code.rangeFunc g #[p1] assign body).wpIn Fence.wide n P Q a w:=by
 refine wpIn_rangeFunc ?_;intro fn hfn;have h1:=(hS.alloc (.deferred (some []))).alloc (.loop (bz4 fn a.tmps #[p1] assign body w.heap.size .ready none));rw[World.size_alloc]at h1;generalize hW1:(w.alloc (.deferred (some []))).alloc (.loop (bz4 fn a.tmps #[p1] assign body w.heap.size .ready none))=w1 at h1
 refine⟨w.heap.size+1,[{ target:=.collected w.heap.size,args:=#[] }],w1, { target:=.fn (.func gf) lb,args:=#[.func (.yield (w.heap.size+1)) #[] #[]] },w1,gf,
  #[.func (.yield (w.heap.size + 1)) #[] #[]] ++ lb,w1,?_,?_,?_,?_,(fun h => by cases h),?_⟩
 ·rw[<-hW1];exact run_enterLoop_outer _ _ _ _ _
 ·simp only[resolve,hg];simp[go_sem]
 ·intro f' hf';trivial
 ·simp[invoke,go_sem,eg]
 ·have hT:cJ4 P ek N (w.heap.size+1) W (fun ss=>dB4 (bz4 fn a.tmps #[p1] assign body w.heap.size) (w.heap.size+1) w.heap.size (I ss)):=by
   intro m pre x L' w2 hlt hS2;have h2:=dg4 hS2;have hl:=h2.get (b:=w.heap.size+1) (.tail .head);refine⟨_,_,_,_,run_yield (P:=P) (args:=#[ek x]) hl rfl,roundIn_of_wpIn trivial ?_⟩;have et:((bz4 fn a.tmps #[p1] assign body w.heap.size .ready none).params.zip #[ek x]).foldl (fun tmps (t,a)=>tmps.setIfInBounds t a) (bz4 fn a.tmps #[p1] assign body w.heap.size .ready none).tmps=a.tmps.setIfInBounds p1 (ek x):=by simp[bz4]
   rw[et];refine wpIn_mono (hround _ _ pre x _ w2 hlt h2) ?_;intro e a1 w1 hq
   cases e with
   | normal=>
    obtain⟨J,hJ,hb⟩:=hq;have hl1:=hJ.get (b:=w.heap.size+1) (.tail .head);refine⟨_,run_beginRound (P:=P) hl1 rfl,?_⟩;have h4:St W (J::ae4 (w.heap.size+1) (.loop (bz4 fn a.tmps #[p1] assign body w.heap.size .busy none))::ae4 w.heap.size (.deferred (some []))::L') _:=((hJ.swap).putObj (.loop (bz4 fn a.tmps #[p1] assign body w.heap.size .busy none))).swap;refine wpIn_mono (hb _ _ h4) ?_;rintro e a3 w3 ⟨rfl,h5⟩;have hl5:=h5.get (b:=w.heap.size+1) (.tail .head);refine⟨_,_,run_endRound (P:=P) none hl5,rfl,?_⟩;exact dh4 ((h5.swap).putObj (.loop (bz4 fn a.tmps #[p1] assign body w.heap.size .ready none))).swap
   | _=>exact hq
  refine(hseq (w.heap.size+1) _ (fun ss=>dB4 (bz4 fn a.tmps #[p1] assign body w.heap.size) (w.heap.size+1) w.heap.size (I ss)) w1 hT (dh4 (h1.s _))).mono ?_;rintro e w3 ⟨⟨v,rfl⟩,ss,hs,h2⟩;have h3:=dg4 h2;have hl:=h3.get (b:=w.heap.size+1) (.tail .head);refine⟨none,_,run_endLoop (P:=P) hl (by simp[bz4]),?_⟩;exact hdone _ ss _ hs (((h3.swap).putObj _).drop)
end
end Go.Sl
end
section
namespace Go.Sl
section
variable{κ ν:Type}
structure Ordr(lt:κ->κ->Bool):Prop where
 irr:∀a,lt a a=false
 tr:∀a b c,lt a b=true->lt b c=true->lt a c=true
 tri:∀a b,lt a b=false->a≠b->lt b a=true
def Asc(lt:κ->κ->Bool)(l:List (κ×ν)):Prop:=l.Pairwise fun x y=>lt x.1 y.1=true
def plI(lt:κ->κ->Bool):List (κ×ν)->κ->Nat
 | [],_=>0
 | x::l,k=>if lt x.1 k=true then plI lt l k+1 else 0
def plB[DecidableEq κ](lt:κ->κ->Bool):List (κ×ν)->κ->Bool
 | [],_=>false
 | x::l,k=>if lt x.1 k=true then plB lt l k else decide (x.1=k)
def plS[DecidableEq κ](lt:κ->κ->Bool)(l:List (κ×ν))(k:κ)(v:ν):List (κ×ν):=l.take (plI lt l k)++(k,v)::l.drop (if plB lt l k=true then plI lt l k+1 else plI lt l k)
variable{lt:κ->κ->Bool}{l:List (κ×ν)}{k:κ}{v:ν}
theorem Bg7(ho:Ordr lt)(h:Asc lt l):(l.map (·.1)).Nodup:=by
 unfold Asc at h;refine List.pairwise_map.2 (h.imp fun{a b} hab e=>?_);rw[e,ho.irr]at hab
 cases hab
theorem Os7(ho:Ordr lt){l':List (κ×ν)}(h:Asc lt l)(h':Asc lt l')(hp:l.Perm l'):l=l':=by
 unfold Asc at h h'
 exact List.Perm.eq_of_pairwise (fun a b _ _ h1 h2=>by
  have:=ho.tr _ _ _ h1 h2;rw[ho.irr]at this
  cases this) h h' hp
end
theorem EC7:Ordr (fun a b:Int=>decide (a<b)):=⟨fun a=>by simp,fun a b c h1 h2=>by simp at *;omega,fun a b h1 h2=>by simp at *;omega⟩
abbrev ltW(a b:Int×Int):Bool:=decide (a.1<b.1\/(a.1=b.1/\a.2<b.2))
theorem AP7:Ordr ltW:=⟨fun a=>by simp[ltW],fun a b c h1 h2=>by simp[ltW]at *;omega,fun a b h1 h2=>by obtain⟨a1,a2⟩:=a;obtain⟨b1,b2⟩:=b;simp only[ltW,ne_eq,Prod.mk.injEq,decide_eq_false_iff_not,decide_eq_true_eq]at *;omega⟩
end Go.Sl
end
section
namespace Go.Proofs.YtlmhakmoioogaaaGreat
open Go.RowKit Go.Sl
abbrev eWh(x:Int×Int):Value:=.agg #[.I x.1,.I x.2]
def whC(x:Int×Int):List Value:=[.I x.1,.I x.2]
theorem CI7(x:Int×Int):(whC x).length=2:=rfl
theorem bY4(f:FuncId):Fence.wide.fn f:=trivial
theorem cT4(l:Nat)(f:FuncId):(Fence.wide.inRound l).fn f:=trivial
def KyR{ν:Type}(W:World)(ev:ν->Value)(X:List (Int×Int)->HP)(r b:Nat)(l:List ((Int×Int)×ν))(L:List HP)(w:World):Prop:=
 ∃(ss:List (Int×Int)) (todo:List ((Int×Int)×ν)),(ss++todo.map (·.1)).Perm (l.map (·.1))/\St W (itR eWh ev r b l todo::X ss::L) w
theorem Qu7{ν:Type}{ev:ν->Value}{m lp g b:Nat}{l:List ((Int×Int)×ν)}{X:List (Int×Int)->HP}{W w:World}{L:List HP}(hY:cJ4 Tryz.prog eWh l.length lp W X)(hS:St W (X []::blk g [.map (some b)] 81::c8 eWh ev b l::L) w):
  CallsIn Fence.wide m Tryz.prog 110 #[.func (.yield lp) #[] #[],.P g] w fun e w'=>(∃v,e=.returned v)/\∃ss,ss.Perm (l.map (·.1))/\St W (X ss::blk g [.map (some b)] 81::c8 eWh ev b l::L) w':=by
 refine callsIn_of_wp Tryz.func110 rfl trivial ?_ rfl;simp only[Tryz.ntmps110,List.size_toArray,jC,List.length_nil,Nat.reduceAdd,Nat.reduceSub,Array.replicate_succ,Array.replicate_zero,List.push_toArray,List.append_toArray,jN,jK]
 gi_wp2_with (first|((with_reducible apply Ee7 bY4 hS);rfl;rfl;rfl;decide +kernel;exact O8;go_frame)|(gi_at_range;refine Fn7 (ek:=eWh) (ev:=ev) hS rfl rfl rfl (show F5 Tryz.prog 81=some (94,40)by kernel_rfl) (by exact g8) ?_;clear hS;intro r w hS;go_frame)|gi_in)
 gi_loopw [] (fun wr=>KyR W ev X r b l (blk g [.map (some b)] 81::L) wr) (fun wr=>bV4 r b wr)
 case atStart=>exact⟨[],l,by simp,hS⟩
 case round=>
  clear hS;obtain⟨ss,todo,hp,hS⟩:=hrel;have hm:=BN7 hS
  gi_wp2_with (first|(gi_at_next;refine GN7 (ek:=eWh) (ev:=ev) hS rfl rfl rfl ?_ ?_)|gi_in)
  ·intro h0;subst h0
   gi_wp2
   go_end0;exact⟨⟨_,rfl⟩,ss,by simpa using hp,(cF4 hS).s _⟩
  ·intro y1 y2 yv todo' w2 hp2 hy hS2 hen;have hlen:=hp.length_eq;have hlen2:=hp2.length_eq;simp only[jA,jM,jC]at hlen hlen2;have hp3:(ss++[(y1,y2)]++todo'.map (·.1)).Perm (l.map (·.1)):=by rw[jS];refine List.Perm.trans ?_ hp;exact List.Perm.append_left ss (show((((y1,y2),yv)::todo').map (fun x=>x.1)).Perm (todo.map (fun x=>x.1))from(hp2.map (fun x=>x.1)).symm)
   clear hS hy hp hp2;have hS:=hS2;clear hS2
   gi_wp2_with (first|((with_reducible apply GP7 bY4 hS);rfl;rfl;exact zsS;clear hS;intro bK w hS;go_frame)|((with_reducible apply KF7 bY4 hS);rfl;rfl;rfl;(focus((conv=>lhs;whnf);try rfl));kernel_rfl;rfl;exact cq4;simp only[jC,List.length_nil];omega;((simp only[List.set_cons_zero,List.set_cons_succ,C6]);rfl);clear hS;intro w hS;go_frame)|((with_reducible apply KE7 bY4 hS);rfl;rfl;rfl;decide +kernel;kernel_rfl;exact x9;go_frame)|((with_reducible apply GQ7 (k:=(y1,y2)) (pre:=ss) hY hS);rfl;rfl;rfl;rfl;omega;exact g8;clear hS;intro w hS;go_frame)|gi_in)
   go_roundw
   case rel=>exact⟨ss++[(y1,y2)],todo',hp3,hS.s _⟩
   case measure=>
    have hm2:=BN7 (hS.s (itR eWh ev r b l todo'::X (ss++[(y1,y2)])::blk g [.map (some b)] 81::L));omega
def apI(bB:Nat)(ss:List (Int×Int)):HP:=fun f=>∃v,sep (blk bB [v] 91) (row v 2 94 ss.length (ss.flatMap whC)) f
theorem eA4{gf:Nat}{lb:Array Value}{S:List (Int×Int)->Prop}{N:Nat}{W w:World}{R:List HP}(hN:N<=1000000000)(hseq0:bG4 Tryz.prog eWh N gf lb S W R)(eg:∀args w,(callFunc gf args).run Tryz.prog w=.ok (.enter gf args) w)(hS:St W R w):
  Calls Tryz.prog 175 #[.slice none 0 0,.func (.func gf) #[] lb] w fun e w'=>∃v ss,e=.returned v/\S ss/\St W (row v 2 94 ss.length (ss.flatMap whC)::R) w':=by
 refine(callsIn_wide (n:=5)).1 ?_;refine callsIn_of_wp_marks Tryz.func175 rfl trivial ?_ rfl;simp only[Tryz.ntmps175,List.size_toArray,jC,List.length_nil,Nat.reduceAdd,Nat.reduceSub,Array.replicate_succ,Array.replicate_zero,List.push_toArray,List.append_toArray,jN,jK]
 gi_wp2_with (first|((with_reducible apply Oq7 bY4 hS);rfl;rfl;rfl;rfl;clear hS;intro bB w hS;go_frame)|gi_in)
 have h0:St W (apI bB []::R) w:=St.mkEx (.slice none 0 0) (St.join (St.swap (hS.rowNil (k:=2) (T:=94))));clear hS;refine ei4 rfl eg hseq0 h0 ?_ ?_
 ·clear hseq0 h0 eg;intro l m pre x L w hlt hS0;obtain⟨v,hS1⟩:=St.ex hS0;have hS:=St.split hS1;clear hS0 hS1;obtain⟨x1,x2⟩:=x;simp only[fA,fB,fC,Nat.reduceAdd]
  gi_wp2_with (first|((with_reducible apply GP7 (cT4 _) hS);rfl;rfl;exact zsS;clear hS;intro bK w hS;go_frame)|((with_reducible apply KF7 (cT4 _) hS);rfl;rfl;rfl;(focus((conv=>lhs;whnf);try rfl));kernel_rfl;rfl;exact cq4;simp only[jC,List.length_nil];omega;((simp only[List.set_cons_zero,List.set_cons_succ,C6]);rfl);clear hS;intro w hS;go_frame)|gi_in)
  refine⟨_,St.join (St.join hS),?_⟩;clear hS;intro L2 w2 hS2;have hS:=St.split (St.split hS2);clear hS2
  gi_wp2_with (first|((with_reducible apply Ee7 (cT4 _) hS);rfl;rfl;rfl;decide +kernel;exact O8;go_frame)|((with_reducible apply KE7 (cT4 _) hS);rfl;rfl;rfl;decide +kernel;kernel_rfl;exact x9;go_frame)|((with_reducible apply Rp7 (cT4 _) hS);rfl;rfl;(focus(simp only[fD,fI,fJ,Act.eval,fE,fF,fG,fH,fK];try rfl));exact esS;exact rsS;rfl;rfl;rfl;rfl;clear hS;intro bS w hS;go_frame)|((with_reducible apply HI7 hS);rfl;rfl;rfl;rfl;exact esS;exact rsS;rfl;decide;exact g8;exact(Src.mk d7.whole).at hS;rfl;rfl;unfold maxLen;omega;omega;clear hS;intro v w hS;(have hv:=hS.rowVal;obtain⟨va,vc,rfl⟩:=hv);go_frame)|((with_reducible apply Or7 (cT4 _) hS);rfl;rfl;rfl;(focus((conv=>lhs;whnf);try rfl));kernel_rfl;rfl;rfl;exact cq4;simp only[jC,List.length_nil];omega;((simp only[List.set_cons_zero,List.set_cons_succ,C6]);rfl);clear hS;intro w hS;go_frame)|gi_in)
  have e1:(pre++[(x1,x2)]).length=pre.length+1:=by simp
  have e2:(pre++[(x1,x2)]).flatMap whC=pre.flatMap whC++[.I x1,.I x2]:=by rw[List.flatMap_append];rfl
  have hS1:=hS.s (blk bB [_] _::row _ 2 _ _ _::L2);have hS2:St W (blk bB [.slice va (pre.length+1) vc] 91::row (.slice va (pre.length+1) vc) 2 94 (pre.length+1) (pre.flatMap whC++[.I x1,.I x2])::L2) w:=hS1;rw[<-e2]at hS2;rw[<-e1]at hS2;exact St.mkEx _ (St.join hS2)
 ·clear hseq0 h0 eg;intro D ss w hs hS0;obtain⟨v,hS1⟩:=St.ex hS0;have hS:=St.split hS1;clear hS0 hS1;have hK:=hS.get (b:=D) (.tail (.tail .head))
  gi_wp2_with (first|((with_reducible apply Ee7 bY4 hS);rfl;rfl;rfl;decide +kernel;exact O8;go_frame)|gi_in)
  refine⟨by simp,.inl ⟨_,_,rfl,run_takeDeferred hK,?_⟩⟩;have hS2:=(hS.s (ae4 D (.deferred (some []))::row v 2 94 ss.length (ss.flatMap whC)::R)).putObj (.deferred none);exact⟨_,results_tmp rfl _ _ _,v,ss,rfl,hs,hS2.drop⟩
end Go.Proofs.YtlmhakmoioogaaaGreat
end
