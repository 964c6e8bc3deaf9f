/-
  Apply, At, New over an economy as one resource.
-/
import Derived.Test.YtlmhakmoioogaaaGreatEconCuM5
import Derived.Test.YtlmhakmoioogaaaGreatEconCuM7
import Derived.Test.YtlmhakmoioogaaaGreatEconCuM21
import Derived.Test.YtlmhakmoioogaaaGreatEconCuM28
import Derived.Test.YtlmhakmoioogaaaGreatEconCuM34
import Derived.Shelf.SlIter.Nil
set_option maxHeartbeats 16000000
set_option maxRecDepth 100000
set_option linter.unusedSimpArgs false
set_option linter.unusedVariables false
section
namespace Go.Proofs.YtlmhakmoioogaaaGreat
open Go.RowKit Go.Sl
def EOk(e:Ec)(i:Nat):Prop:=∀x∈e.vs,VOk x.2.ps x.2.n i
theorem fP4(i:Nat):EOk ec0 i:=fun _ h=>(by cases h)
theorem SI7{E:Ev}{e:Ec}{i:Nat}(h:EOk e i)(hp:(k8 E).Perm e.vs):J6 E i:=fun x hx=>h (x.1,x.2.2) (hp.mem_iff.1 (List.mem_map.2 ⟨x,hx,rfl⟩))
theorem SJ7{E:Ev}{e:Ec}{i:Nat}(h:J6 E i)(hp:(k8 E).Perm e.vs):EOk e i:=fun y hy=>by obtain⟨x,hx,rfl⟩:=List.mem_map.1 (hp.mem_iff.2 hy);exact h x hx
theorem BQ7{e:Ec}{o:Opn}{r:Rpl}(h:D7 e o=(r,false)):r=rp0/\w8 o=true:=by
 unfold D7 at h;split at h
 ·cases h
 ·rename_i hm
  refine⟨?_,by simpa using hm⟩;split at h
  ·exact(congrArg Prod.fst h).symm
  ·split at h
   ·exact(congrArg Prod.fst h).symm
   ·split at h
    ·exact(congrArg Prod.fst h).symm
    ·split at h
     ·cases h
     ·split at h
      ·cases h
      ·exact(congrArg Prod.fst h).symm
theorem Dv7{e:Ec}{o:Opn}{r:Rpl}(h:D7 e o=(r,true)):G8 e o=(r,false,e):=by unfold G8;rw[h];rfl
theorem Dw7{e:Ec}{o:Opn}(h:D7 e o=(rp0,false)):G8 e o=((doV (atV e o.ak) o).1,true,⟨(bF4 e o.ak (doV (atV e o.ak) o).2).vs,doS e o (doV (atV e o.ak) o).1,doT e o (doV (atV e o.ak) o).1,doA e o⟩):=by unfold G8;rw[h];rfl
theorem Dd7{o:Opn}(h:H8 o=true):0<=o.item/\o.item<4/\1<=o.cnt/\o.cnt<=1048576:=by unfold H8 at h;simpa using h
section
variable{W w:World}{R:List HP}{eb m1 m2 m3 m4:Nat}{E:Ev}{i:Nat}{e:Ec}
theorem Cn7{vs:List (ByteArray×Vs)}{ss:List (Int×(Int×Rpl))}{ts:List ((Int×Int)×Tns)}{ar:List ((Int×Int)×Unit)}(hok:J6 E i)(hp:(k8 E).Perm vs)(hS:St W (ecR eb m1 m2 m3 m4 E ss ts ar R) w):EOk ⟨vs,ss,ts,ar⟩ i/\St W (ecP eb ⟨vs,ss,ts,ar⟩::R) w:=
 ⟨SJ7 (e:=⟨vs,ss,ts,ar⟩) hok hp,K9 (e:=⟨vs,ss,ts,ar⟩) hp (B9 hS)⟩
theorem N9(h:St W (ecP eb e::R) w):∃m1 m2 m3 m4 E,(k8 E).Perm e.vs/\(E.map (·.1)).Nodup/\St W (ecR eb m1 m2 m3 m4 E e.ss e.ts e.ar R) w:=by obtain⟨m1,m2,m3,m4,E,hp,h⟩:=dM4 h;exact⟨m1,m2,m3,m4,E,hp,by rw[<-AR7];exact A5 h.drop,E7 h⟩
theorem HL7(hn:(E.map (·.1)).Nodup)(hp:(k8 E).Perm e.vs)(k:ByteArray):atV e k=vAt E k:=by unfold atV vAt;rw[Ob7 hn hp]
end
theorem Lr7{eb:Nat}{e:Ec}(k u:ByteArray){x0 x1 x2 x3:Int}(hx:k9 (atV e k).ps u=⟨x0,x1,x2,x3⟩)(W w:World)(R:List HP)(hS:St W (ecP eb e::R) w):
  Calls Tryz.prog 18 #[.P eb,.agg #[.string k,.string u]] w fun x w'=>x=.returned (.agg #[.I x0,.I x1,.I x2,.I x3])/\St W (ecP eb e::R) w':=by
 obtain⟨m1,m2,m3,m4,E,hp,hn,hS⟩:=N9 hS;rw[HL7 hn hp]at hx;refine(Lq7 k u hx W w _ hS).mono ?_;rintro x w' ⟨rfl,hS⟩;exact⟨rfl,K9 hp (B9 hS)⟩
theorem PN7{eb:Nat}{e:Ec}{i:Nat}(hE:EOk e i)(hi:i<=1000000)(kd cl sq:Int)(ak aw tk tw:ByteArray)(it ct pr:Int)(bu:Bool)(id:Int)(W w:World)(R:List HP)(hS:St W (ecP eb e::R) w):
  Calls Tryz.prog 16 #[.P eb,oV kd cl sq ak aw tk tw it ct pr bu id] w fun x w'=>EOk (G8 e ⟨kd,cl,sq,ak,aw,tk,tw,it,ct,pr,bu,id⟩).2.2 (i+1) /\
   x=.returned (.tuple #[rV (G8 e ⟨kd,cl,sq,ak,aw,tk,tw,it,ct,pr,bu,id⟩).1.err (G8 e ⟨kd,cl,sq,ak,aw,tk,tw,it,ct,pr,bu,id⟩).1.id (G8 e ⟨kd,cl,sq,ak,aw,tk,tw,it,ct,pr,bu,id⟩).1.has.x0 (G8 e ⟨kd,cl,sq,ak,aw,tk,tw,it,ct,pr,bu,id⟩).1.has.x1 (G8 e ⟨kd,cl,sq,ak,aw,tk,tw,it,ct,pr,bu,id⟩).1.has.x2 (G8 e ⟨kd,cl,sq,ak,aw,tk,tw,it,ct,pr,bu,id⟩).1.has.x3,.bool (G8 e ⟨kd,cl,sq,ak,aw,tk,tw,it,ct,pr,bu,id⟩).2.1]) /\
   St W (ecP eb (G8 e ⟨kd,cl,sq,ak,aw,tk,tw,it,ct,pr,bu,id⟩).2.2::R) w':=by
 obtain⟨m1,m2,m3,m4,E,hp,hn,hS⟩:=N9 hS;have hEv:=SI7 hE hp;have hV:=HL7 hn hp ak;have hnv:(e.vs.map (·.1)).Nodup:=by rw[<-Bz7]at hn;exact(hp.map (·.1)).nodup_iff.1 hn
 cases hpk:D7 e ⟨kd,cl,sq,ak,aw,tk,tw,it,ct,pr,bu,id⟩with
 | mk r k=>
 cases k with
 | true=>
  rw[Dv7 hpk];refine(RK7 (vs:=e.vs) kd cl sq ak aw tk tw it ct pr bu id e.ss e.ts e.ar W w R hpk hS).mono ?_;rintro x w' ⟨rfl,hS⟩;exact⟨fun x hx=>(hE x hx).on,rfl,K9 hp (B9 hS)⟩
 | false=>
  obtain⟨rfl,hm⟩:=BQ7 hpk;have hap:=Dw7 hpk;dsimp only at hap;rw[hV]at hap;have hm2:J9 ⟨kd,cl,sq,ak,aw,tk,tw,it,ct,pr,bu,id⟩=true:=by unfold w8 at hm;exact(jB _ _▸hm).2
  have hk:kd=1\/kd=2\/kd=3\/kd=4\/kd=5\/kd=6\/kd=7:=by
   unfold J9 at hm2;dsimp only at hm2
   repeat' split at hm2
   all_goals first|omega|cases hm2
  have hs:∀V,(bZ4 ((ak,V)::j6 e.vs ak) ak).Perm (bF4 e ak V).vs:=fun V=>by rw[PM7]
  have hsame:(bZ4 e.vs ak).Perm (bF4 e ak (vAt E ak)).vs:=by rw[<-hV];exact Oj7 e ak hnv
  rcases hk with rfl|rfl|rfl|rfl|rfl|rfl|rfl
  ·have hm3:t8 ⟨1,cl,sq,ak,aw,tk,tw,it,ct,pr,bu,id⟩=true:=hm2;have hc:H8 ⟨1,cl,sq,ak,aw,tk,tw,it,ct,pr,bu,id⟩=true:=by unfold t8 at hm3;exact(jB _ _▸hm3).1
   obtain⟨h0,h4,c0,c1⟩:=Dd7 hc;refine(ho4 (vs:=e.vs) cl sq ak aw tk tw it ct pr bu id e.ss e.ts e.ar W w R hpk hEv hi hp h0 h4 c0 c1 rfl rfl hS).mono ?_;rintro x w' ⟨E',h1,h2,rfl,hS⟩;rw[hap];obtain⟨h3,h5⟩:=Cn7 h1 (h2.trans (hs _)) hS;exact⟨h3,rfl,h5⟩
  ·have hm3:N7 ⟨2,cl,sq,ak,aw,tk,tw,it,ct,pr,bu,id⟩=true:=hm2;have hc:H8 ⟨2,cl,sq,ak,aw,tk,tw,it,ct,pr,bu,id⟩=true:=by unfold N7 at hm3;exact(jB _ _▸(jB _ _▸hm3).2).1
   obtain⟨h0,h4,c0,c1⟩:=Dd7 hc;by_cases hr:m9 (vAt E ak).ps aw (r8 it ct)=0
   ·have hd:doT e ⟨2,cl,sq,ak,aw,tk,tw,it,ct,pr,bu,id⟩ (doV (vAt E ak) ⟨2,cl,sq,ak,aw,tk,tw,it,ct,pr,bu,id⟩).1=((cl,sq),⟨cl,sq,ak,aw,tk,tw,it,ct⟩)::j6 e.ts (cl,sq):=if_pos ⟨rfl,hr⟩
    have hv:(doV (vAt E ak) ⟨2,cl,sq,ak,aw,tk,tw,it,ct,pr,bu,id⟩).1=rp0:=by
     show(⟨m9 (vAt E ak).ps aw (r8 it ct),0,it0⟩:Rpl)=rp0
     rw[hr]
    rw[hd,hv]at hap;refine(gw4 (vs:=e.vs) cl sq ak aw tk tw it ct pr bu id e.ss e.ts e.ar W w R hpk hEv hi hp h0 h4 c0 c1 hr rfl hS).mono ?_;rintro x w' ⟨E',h1,h2,rfl,hS⟩;rw[hap];obtain⟨h3,h5⟩:=Cn7 h1 (h2.trans (hs _)) hS;exact⟨h3,rfl,h5⟩
   ·have hd:doT e ⟨2,cl,sq,ak,aw,tk,tw,it,ct,pr,bu,id⟩ (doV (vAt E ak) ⟨2,cl,sq,ak,aw,tk,tw,it,ct,pr,bu,id⟩).1=e.ts:=(if_neg (fun h=>hr h.2)).trans (if_neg (by show ¬((2:Int)=7);decide));rw[hd]at hap;refine(gv4 (vs:=e.vs) cl sq ak aw tk tw it ct pr bu id e.ss e.ts e.ar W w R hpk hEv hi hp h0 h4 c0 c1 rfl (by simpa using hr) rfl hS).mono ?_;rintro x w' ⟨E',h1,h2,rfl,hS⟩;rw[hap];obtain⟨h3,h5⟩:=Cn7 h1 (h2.trans (hs _)) hS;exact⟨h3,rfl,h5⟩
  ·skip
   refine(hp4 (vs:=e.vs) cl sq ak aw tk tw it ct pr bu id e.ss e.ts e.ar W w R hpk hEv hi hp rfl rfl rfl hS).mono ?_;rintro x w' ⟨E',h1,h2,rfl,hS⟩;rw[hap];obtain⟨h3,h5⟩:=Cn7 h1 (h2.trans (hs _)) hS;exact⟨h3,rfl,h5⟩
  ·skip
   refine(hq4 (vs:=e.vs) cl sq ak aw tk tw it ct pr bu id e.ss e.ts e.ar W w R hpk hEv hi hp rfl rfl hS).mono ?_;rintro x w' ⟨E',h1,h2,rfl,hS⟩;rw[hap];obtain⟨h3,h5⟩:=Cn7 h1 (h2.trans (hs _)) hS;exact⟨h3,rfl,h5⟩
  ·skip
   refine(hr4 (vs:=e.vs) cl sq ak aw tk tw it ct pr bu id e.ss e.ts e.ar W w R hpk hEv hi hp rfl hS).mono ?_;rintro x w' ⟨E',h1,h2,rfl,hS⟩;rw[hap];obtain⟨h3,h5⟩:=Cn7 h1 (h2.trans hsame) hS;exact⟨h3,rfl,h5⟩
  ·have hm3:t8 ⟨6,cl,sq,ak,aw,tk,tw,it,ct,pr,bu,id⟩=true:=hm2;have hc:H8 ⟨6,cl,sq,ak,aw,tk,tw,it,ct,pr,bu,id⟩=true:=by unfold t8 at hm3;exact(jB _ _▸hm3).1
   obtain⟨h0,h4,c0,c1⟩:=Dd7 hc;refine(hs4 (vs:=e.vs) cl sq ak aw tk tw it ct pr bu id e.ss e.ts e.ar W w R hpk hEv hi hp h0 h4 c0 c1 rfl hS).mono ?_;rintro x w' ⟨E',h1,h2,rfl,hS⟩;rw[hap];obtain⟨h3,h5⟩:=Cn7 h1 (h2.trans (hs _)) hS;exact⟨h3,rfl,h5⟩
  ·skip
   refine(hv4 (vs:=e.vs) cl sq ak aw tk tw it ct pr bu id e.ss e.ts e.ar W w R hpk hEv hi hp hS).mono ?_;rintro x w' ⟨E',h1,h2,rfl,hS⟩;rw[hap];obtain⟨h3,h5⟩:=Cn7 h1 (h2.trans hsame) hS;exact⟨h3,rfl,h5⟩
theorem HM7{eb:Nat}{e e2:Ec}{i:Nat}{r:Rpl}{b:Bool}(hE:EOk e i)(hi:i<=1000000){kd cl sq:Int}{ak aw tk tw:ByteArray}{it ct pr:Int}{bu:Bool}{id:Int}(h:G8 e ⟨kd,cl,sq,ak,aw,tk,tw,it,ct,pr,bu,id⟩=(r,b,e2))(W w:World)(R:List HP)(hS:St W (ecP eb e::R) w):
  Calls Tryz.prog 16 #[.P eb,oV kd cl sq ak aw tk tw it ct pr bu id] w fun x w'=>EOk e2 (i+1)/\x=.returned (.tuple #[rV r.err r.id r.has.x0 r.has.x1 r.has.x2 r.has.x3,.bool b])/\St W (ecP eb e2::R) w':=by
 have h1:=PN7 hE hi kd cl sq ak aw tk tw it ct pr bu id W w R hS;rw[h]at h1;exact h1
abbrev kA:ByteArray:=⟨#[97]⟩
abbrev kX:ByteArray:=⟨#[120]⟩
abbrev kB:ByteArray:=⟨#[98]⟩
abbrev kY:ByteArray:=⟨#[121]⟩
abbrev kN:ByteArray:=⟨#[]⟩
abbrev hR4(last:Int):Opn:=⟨1,7,last,kA,kX,kN,kN,0,3,0,false,0⟩
abbrev hT4(now:Int):Opn:=⟨5,7,now,kA,kX,kN,kN,0,0,0,false,0⟩
abbrev hU4(last:Int):Ec:=⟨[(kA,⟨[(kX,⟨3,0,0,0⟩)],[],1⟩)],[(7,(last,rp0))],[],[]⟩
abbrev knO:Opn:=⟨1,1,1,kA,kX,kN,kN,0,5,0,false,0⟩
abbrev kn1:Ec:=⟨[(kA,⟨[(kX,⟨5,0,0,0⟩)],[],1⟩)],[(1,(1,rp0))],[],[]⟩
theorem SK7:G8 ec0 knO=(rp0,true,kn1):=by kernel_rfl
theorem PO7:G8 kn1 knO=(rp0,false,kn1):=by kernel_rfl
theorem gx4:k9 (atV kn1 kA).ps kX=⟨5,0,0,0⟩:=by kernel_rfl
def hw4(W:World)(L:List HP)(n:Nat)(v:Value)(w:World):Prop:=∃i:Nat,v=.I i/\i<=n/\St W L w
theorem Bd7{L:List HP}(xs:List Opn)(a:Option Addr)(cap:Nat)(h63:xs.length<=9223372036854775807)(hat:∀i (h:i<xs.length), ∃b off,a=some ⟨b,off,none⟩/\∀j v,(xs[i]).cells[j]? = some v->i8 L b (off+i*12+j) v)(W w:World)(hS:St W L w):
  Calls Tryz.prog 20 #[.slice a xs.length cap] w fun e w'=>∃h:Bool,(h=false->xs.length<=150)/\e=.returned (.bool h)/\St W L w':=by
 have Hat:=jH hat
 clear hat
 go_enter Tryz.func20,Tryz.ntmps20;by_cases h150:150<xs.length
 ·have d0:((150:Nat):Int)<(xs.length:Int):=by omega
  go_wp2_with(fail);go_ret;exact⟨_,fun h=>(by cases h),rfl,hS⟩
 have d0:decide ((150:Int)<(xs.length:Int))=false:=by simp;omega
 go_wp2_with(fail)
 go_loopw [3] (fun v wr=>hw4 W L xs.length v wr) (fun v _=>xs.length-(intOf v).toNat)
 case atStart=>exact⟨0,rfl,by omega,hS⟩
 case round=>
  clear hS;obtain⟨i,rfl,hi,hS⟩:=hrel;by_cases hend:i=xs.length
  ·subst hend;have d1:decide ((xs.length:Int)<(xs.length:Int))=false:=by simp
   go_wp2_with(fail);go_ret;exact⟨_,fun _=>by omega,rfl,hS⟩
  have hil:i<xs.length:=by omega
  clear hend hi;obtain⟨pb,poff,rfl,hA⟩:=Hat.out i hil;have c3:=hA 3 _ rfl;have c4:=hA 4 _ rfl;have c5:=hA 5 _ rfl;have c6:=hA 6 _ rfl;clear hA;generalize xs[i]=x at c3 c4 c5 c6;obtain⟨kd,cl,sq,ak,aw,tk,tw,it,ct,pr,bu,id⟩:=x;simp only at c3 c4 c5 c6;by_cases h1:60<ak.size
  ·have d1:(60:Int)<(ak.size:Int):=by omega
   go_wp2_with(first|refine zl1 hS ?_);go_ret;exact⟨_,fun h=>(by cases h),rfl,hS⟩
  have d1:decide ((60:Int)<(ak.size:Int))=false:=by simp;omega
  by_cases h2:60<aw.size
  ·have d2:(60:Int)<(aw.size:Int):=by omega
   go_wp2_with(first|refine zl1 hS ?_);go_ret;exact⟨_,fun h=>(by cases h),rfl,hS⟩
  have d2:decide ((60:Int)<(aw.size:Int))=false:=by simp;omega
  by_cases h3:60<tk.size
  ·have d3:(60:Int)<(tk.size:Int):=by omega
   go_wp2_with(first|refine zl1 hS ?_);go_ret;exact⟨_,fun h=>(by cases h),rfl,hS⟩
  have d3:decide ((60:Int)<(tk.size:Int))=false:=by simp;omega
  by_cases h4:60<tw.size
  ·have d4:(60:Int)<(tw.size:Int):=by omega
   go_wp2_with(first|refine zl1 hS ?_);go_ret;exact⟨_,fun h=>(by cases h),rfl,hS⟩
  have d4:decide ((60:Int)<(tw.size:Int))=false:=by simp;omega
  go_wp2_with(first|refine zl1 hS ?_);go_roundw
  case rel=>exact⟨i+1,rfl,hil,hS⟩
  case measure=>simp[intOf];try omega
theorem HN7{r0 r1 r2 r3 r4 r5 q0 q1 q2 q3 q4 q5:Int}{b:Bool}(h:Rpl.eqB ⟨r0,r1,⟨r2,r3,r4,r5⟩⟩ ⟨q0,q1,⟨q2,q3,q4,q5⟩⟩=b)(w:World):(Op.equalIn 10000 31 (rV r0 r1 r2 r3 r4 r5) (rV q0 q1 q2 q3 q4 q5)).run Tryz.prog w=.ok b w:=h▸gm4 ⟨r0,r1,⟨r2,r3,r4,r5⟩⟩ ⟨q0,q1,⟨q2,q3,q4,q5⟩⟩ w
theorem Gt7(W w:World)(R:List HP)(hS:St W R w):
  Calls Tryz.prog 14 #[] w fun e w'=>e=.returned (.bool true)/\St W R w':=by
 go_enter Tryz.func14,Tryz.ntmps14;go_wp2_with(first|go_at_call 15;refine(Gq7 W _ _ hS).mono ?_;clear hS;rintro e w ⟨eb,rfl,hS⟩|(fail_if_success (have:=q1));(refine zal hS ?_;clear hS;have q1:Nat:=0;intro b1 w hS)|(have:=q1);(fail_if_success (have:=q2));(refine zal hS ?_;clear hS;have q2:Nat:=0;intro b2 w hS)|(have:=q2);refine zal hS ?_;clear hS;intro b3 w hS|refine zlN hS ?_|refine zlN hS ?_ (vs:=[.string kA,.string kX]) (hc:=by first|exact i5.here rfl|exact i5.there (i5.here rfl)|exact i5.there (i5.there (i5.here rfl))|exact i5.there (i5.there (i5.there (i5.here rfl))))|refine zsN hS ?_;clear hS;intro w hS|(fail_if_success (have:=gA));go_at_call 16;refine(HM7 (fP4 0) (by decide) SK7 W _ _ (hS.s (ecP eb ec0::blk b1 _ _::R))).mono ?_;clear hS;have gA:Nat:=0;rintro e w ⟨hok,rfl,hS⟩;have Hok:=jH hok;clear hok|(have:=gA);go_at_call 16;refine(HM7 Hok.out (by decide) PO7 W _ _ (hS.s (ecP eb (kn1)::blk b2 _ _::blk b1 _ _::R))).mono ?_;clear hS;rintro e w ⟨_,rfl,hS⟩|(with_reducible apply Cg7);rfl;rfl;rfl;rfl;kernel_rfl;exact HN7 (rfl:Rpl.eqB ⟨0,0,⟨0,0,0,0⟩⟩ ⟨0,0,⟨0,0,0,0⟩⟩=true);refine frS ?_|(with_reducible apply Cg7);rfl;rfl;rfl;rfl;kernel_rfl;exact eqI _ _ _ _ _ _ _ _;refine frS ?_|go_at_call 18;refine(Lr7 kA kX gx4 W _ _ (hS.s (ecP eb kn1::blk b3 _ _::blk b2 _ _::blk b1 _ _::R))).mono ?_;clear hS;rintro e w ⟨rfl,hS⟩);go_ret;exact⟨rfl,hS.drop.drop.drop.drop⟩
abbrev sM(n:Int):Opn:=⟨1,1,1,kA,kX,kN,kN,0,n,0,false,0⟩
abbrev sS(c:Int):Opn:=⟨2,1,2,kA,kX,kB,kY,0,c,0,false,0⟩
abbrev sA(c:Int):Opn:=⟨6,1,2,kB,kY,kN,kN,0,c,0,false,0⟩
abbrev sD:Opn:=⟨7,1,2,kA,kX,kN,kN,0,0,0,false,0⟩
section
variable{n c:Int}
abbrev s1(n:Int):Ec:=⟨[(kA,⟨[(kX,⟨n,0,0,0⟩)],[],1⟩)],[(1,(1,rp0))],[],[]⟩
abbrev s2n(n:Int):Ec:=⟨[(kA,⟨[(kX,⟨n,0,0,0⟩)],[],1⟩)],[(1,(2,⟨14,0,it0⟩))],[],[]⟩
abbrev qS(n c:Int):Ps:=H7 [(kX,⟨n,0,0,0⟩)] kX ⟨n-c,0,0,0⟩
abbrev s2(n c:Int):Ec:=⟨(bF4 (s1 n) kA ⟨qS n c,[],1⟩).vs,[(1,(2,rp0))],[((1,2),dD4 (sS c))],[]⟩
abbrev s3(n c:Int):Ec:=⟨(bF4 (s2 n c) kB ⟨[(kY,⟨c,0,0,0⟩)],[],1⟩).vs,[(1,(2,rp0))],[((1,2),dD4 (sS c))],[((1,2),())]⟩
abbrev s4(n c:Int):Ec:=⟨(bF4 (s3 n c) kA (atV (s3 n c) kA)).vs,[(1,(2,rp0))],[],[((1,2),())]⟩
end
theorem Ja7{eb:Nat}{e:Ec}(cl sq:Int){b:Bool}(hb:(i9 e.ar (cl,sq)).isSome=b)(W w:World)(R:List HP)(hS:St W (ecP eb e::R) w):
  Calls Tryz.prog 19 #[.P eb,.I cl,.I sq] w fun x w'=>x=.returned (.bool b)/\St W (ecP eb e::R) w':=by
 obtain⟨m1,m2,m3,m4,E,hp,hn,hS⟩:=N9 hS;have hS1:=B9 hS;clear hS;have hS:=hS1;clear hS1;have Hp:=jH hp;clear hp hn
 cases hg:i9 e.ar (cl,sq)with
 | none=>
  rw[hg]at hb;obtain rfl:false=b:=hb;go_enter Tryz.func19,Tryz.ntmps19;go_wp2_with(first|go_big_skip|refine zl1 hS ?_|(with_reducible apply DU7 (ek:=eW) (ev:=eU) (k:=(cl,sq)) hS);rfl;rfl;rfl;rfl;exact i6;exact mAr;exact kW;exact zA;exact hg;refine frS ?_);go_ret;exact⟨rfl,K9 Hp.out (hS.s _)⟩
 | some u=>
  rw[hg]at hb;obtain rfl:true=b:=hb;go_enter Tryz.func19,Tryz.ntmps19;go_wp2_with(first|go_big_skip|refine zl1 hS ?_|(with_reducible apply BW7 (ek:=eW) (ev:=eU) (k:=(cl,sq)) hS);rfl;rfl;rfl;rfl;exact i6;exact mAr;exact kW;exact zA;exact hg;refine frS ?_);go_ret;exact⟨rfl,K9 Hp.out (hS.s _)⟩
end Go.Proofs.YtlmhakmoioogaaaGreat
end
section
namespace Go.Sl
open Go.RowKit
section
variable{κ ν:Type}{F:Fence}{n:Nat}{P:Program}{W w:World}{L R:List HP}{ops:Array Oper}{rest:List Oper}{o:Oper}{a:Act}{Q:Exit->Act->World->Prop}{ek:κ->Value}{ev:ν->Value}{b r:Nat}{l todo:List (κ×ν)}{t K E:TypeId}
theorem EQ7(hS:St W L w){x:Operand}(hg:o.guard=none)(hop:o.op=Op.range t x)(hx:a.eval x=.map (some b))(ht:D6 P t=some (K,E))(hu:Take L (d8 ek ev b l) R)
  (h:∀r w',St W (itR ek ev r b l l::R) w'->wpListIn F n P ops Q rest (a.put o.dst (.P r)) w'):wpListIn F n P ops Q (o::rest) a w:=by
 obtain⟨r,w',hr,hS'⟩:=GQ7 (P:=P) (hS.take hu) ht;refine wpListIn_plain hg fun K' hK'=>?_
 unfold Oper.wpIn;refine⟨?_,?_⟩
 ·simp[Oper.about,hop]
 ·rw[Oper.semAt_plain F _ _ (by rw[hop];intro c hc';cases hc')];simp[execOp,hop,hx,hr,Result.andThen];exact hK' _ _ (h r w' hS')
theorem Gu7(hS:St W (itR ek ev r b l todo::L) w){x:Operand}(hg:o.guard=none)(hop:o.op=Op.next x false)(hx:a.eval x=.P r)
  (h0:todo=[]->wpListIn F n P ops Q rest (a.put o.dst (.tuple #[.bool false])) w)
  (h1:∀y todo' w',todo.Perm (y::todo')->y∈l->St W (itR ek ev r b l todo'::L) w'->(Instr.entry (.P r)).run P w'=.ok (.tuple #[ek y.1,ev y.2]) w'->wpListIn F n P ops Q rest (a.put o.dst (.tuple #[.bool true,ek y.1,ev y.2])) w'):
  wpListIn F n P ops Q (o::rest) a w:=by
 refine wpListIn_plain hg fun K' hK'=>?_
 unfold Oper.wpIn;refine⟨by simp[Oper.about,hop],?_⟩;rw[Oper.semAt_plain F _ _ (by rw[hop];intro c hc';cases hc')]
 rcases Io7 (P:=P) (ty:=o.type) hS with ⟨h2,hr⟩|⟨y,todo',hp,hy,w',hr,hS'⟩
 ·simp[execOp,hop,hx,hr,Result.andThen];exact hK' _ _ (h0 h2)
 ·simp[execOp,hop,hx,hr,Result.andThen];exact hK' _ _ (h1 y todo' w' hp hy (fm4 hS') (GR7 hS'))
theorem Hb7{s x:Operand}{e:TypeId}{z:Value}{k bytes:Nat}{v xv:Value}{m1 m:Nat}{cs news:List Value}(hS:St W L w)(hg:o.guard=none)(hop:o.op=.call { callee:=.builtin .append,args:=#[s,x],argTypes:=#[t,t] })
  (hs:a.eval s=v) (hx:a.eval x=xv) (ht:x9 P t=some e) (hi:D9 P e=some (some z,k,bytes)) (hz:z.cells.size=k) (hk:0<k) (hu:Take L (row v k e m1 cs) R) (hsrc:dp4 w xv m news) (hl:news.length=m*k) (h1:news.all (·.oneCell')=true) (h63:m1+m<=maxLen)
  (hb:(m1+m)*bytes<=140737488355328)
  (h:∀v' w',St W (row v' k e (m1+m) (cs++news)::R) w'->wpListIn F n P ops Q rest (a.put o.dst v') w'):wpListIn F n P ops Q (o::rest) a w:=by
 refine wpListIn_plain hg fun K' hK'=>?_
 unfold Oper.wpIn;obtain⟨v',w',hr,hS'⟩:=Dh7 (P:=P) (ty:=o.type) ht hi hz hk rfl hS hu hsrc hl h1 h63 hb;refine⟨by simp[Oper.about,hop,resolve,Target.leads,Sem.run_pure],?_⟩;rw[Oper.semAt_plain F _ _ (by rw[hop];intro c hc';cases hc')];simp[execOp,hop,resolve,invoke,builtin,hs,hx,hr,Result.andThen];exact hK' _ _ (h v' w' hS')
theorem Gv7(hF:∀f,F.fn f)(hg:o.guard=none)(hpl:∀c,o.op ≠ .defer c){v:Value}{w':World}(hr:(execOp a.eval o).run P w=.ok (.value v) w')(h:wpListIn F n P ops Q rest (a.put o.dst v) w'):wpListIn F n P ops Q (o::rest) a w:=by
 refine wpListIn_plain hg fun K' hK'=>?_
 unfold Oper.wpIn;refine⟨fun f _=>hF f,?_⟩;rw[Oper.semAt_plain F _ _ hpl,hr];exact hK' _ _ h
theorem PP7(hF:∀f,F.fn f)(hg:o.guard=none)(hpl:∀c,o.op ≠ .defer c){w':World}(hr:(execOp a.eval o).run P w=.ok .skip w')(h:wpListIn F n P ops Q rest (a.put o.dst undef) w'):wpListIn F n P ops Q (o::rest) a w:=by
 refine wpListIn_plain hg fun K' hK'=>?_
 unfold Oper.wpIn;refine⟨fun f _=>hF f,?_⟩;rw[Oper.semAt_plain F _ _ hpl,hr];exact hK' _ _ h
theorem DF7(hF:∀f,F.fn f){x:Operand}{b off:Nat}{v:Value}(hS:St W L w)(ho:o.op=.load t x)(hg:o.guard=none)(hx:a.eval x=.pointer (some ⟨b,off,none⟩))(ht:L5 P t=some false)(hc:i8 L b off v)(h:wpListIn F n P ops Q rest (a.put o.dst v) w):wpListIn F n P ops Q (o::rest) a w:=
 Gv7 hF hg (fun c hc'=>by rw[ho]at hc';cases hc') (DL7 hS ho hx ht hc) h
theorem Ki7(hF:∀f,F.fn f){x:Operand}{b off:Nat}{vs:List Value}(hS:St W L w)(ho:o.op=.load t x)(hg:o.guard=none)(hx:a.eval x=.pointer (some ⟨b,off,none⟩))(ht:L5 P t=some true)(hn:D8 P t=some vs.length)(hc:i5 L b off vs)(h:wpListIn F n P ops Q rest (a.put o.dst (.agg vs.toArray)) w):wpListIn F n P ops Q (o::rest) a w:=
 Gv7 hF hg (fun c hc'=>by rw[ho]at hc';cases hc') (Fl7 hS ho hx ht hn hc) h
theorem Gw7(hF:∀f,F.fn f){l:List Value}(hS:St W L w)(ho:o.op=.alloc t)(hg:o.guard=none)(hz:s8 P t=some l)(h:∀b w',St W (blk b l t::L) w'->wpListIn F n P ops Q rest (a.put o.dst (.P b)) w'):wpListIn F n P ops Q (o::rest) a w:=by obtain⟨b,w',hr,hS'⟩:=Ez7 (P:=P) (a:=a) hS ho hz;exact Gv7 hF hg (fun c hc'=>by rw[ho]at hc';cases hc') hr (h b w' hS')
theorem Ol7(hF:∀f,F.fn f){x:Operand}{v:Value}{l:List Value}(hS:St W L w)(ho:o.op=.box t x)(hg:o.guard=none)(hx:a.eval x=v)(hv:v.cells=l.toArray)(h:∀b w',St W (blk b l t::L) w'->wpListIn F n P ops Q rest (a.put o.dst (.P b)) w'):wpListIn F n P ops Q (o::rest) a w:=by obtain⟨b,w',hr,hS'⟩:=Hm7 (P:=P) (a:=a) hS ho hx hv;exact Gv7 hF hg (fun c hc'=>by rw[ho]at hc';cases hc') hr (h b w' hS')
theorem QT7(hF:∀f,F.fn f){L':List HP}{x y:Operand}{b off:Nat}{l vs l':List Value}{T:TypeId}{v:Value}(hS:St W L w)(ho:o.op=.store t x y)(hg:o.guard=none)(hx:a.eval x=.pointer (some ⟨b,off,none⟩))(hy:a.eval y=v)(hv:v.cells.toList=vs)
  (hn:D8 P t=some vs.length) (h1:vs.all (·.oneCell')=true) (hu:Upd L (blk b l T) (blk b l' T) L') (hl:off+vs.length<=l.length) (he:A9 l off vs=l') (h:∀w',St W L' w'->wpListIn F n P ops Q rest (a.put o.dst undef) w'):wpListIn F n P ops Q (o::rest) a w:=by
 obtain⟨w',hr,hS'⟩:=Ey7 (P:=P) (a:=a) hS ho hx hy hv hn h1 hu hl he;exact PP7 hF hg (fun c hc'=>by rw[ho]at hc';cases hc') hr (h w' hS')
theorem Kj7(hF:∀f,F.fn f){L':List HP}{x y:Operand}{b off:Nat}{l vs l':List Value}{T:TypeId}(hS:St W L w)(ho:o.op=.store t x y)(hg:o.guard=none)(hx:a.eval x=.pointer (some ⟨b,off,none⟩))(hy:a.eval y=.agg vs.toArray)
  (hn:D8 P t=some vs.length) (h1:vs.all (·.oneCell')=true) (hu:Upd L (blk b l T) (blk b l' T) L') (hl:off+vs.length<=l.length) (he:A9 l off vs=l') (h:∀w',St W L' w'->wpListIn F n P ops Q rest (a.put o.dst undef) w'):wpListIn F n P ops Q (o::rest) a w:=
 QT7 hF hS ho hg hx hy (by simp[Value.cells]) hn h1 hu hl he h
theorem Om7(hF:∀f,F.fn f){L':List HP}{x y:Operand}{b off:Nat}{l l':List Value}{T:TypeId}{v:Value}(hS:St W L w)(ho:o.op=.store t x y)(hg:o.guard=none)(hx:a.eval x=.pointer (some ⟨b,off,none⟩))(hy:a.eval y=v)
  (hn:D8 P t=some 1) (hv:v.cells.toList=[v]) (h1:v.oneCell'=true) (hu:Upd L (blk b l T) (blk b l' T) L') (hl:off<l.length) (he:l.set off v=l') (h:∀w',St W L' w'->wpListIn F n P ops Q rest (a.put o.dst undef) w'):wpListIn F n P ops Q (o::rest) a w:=
 QT7 hF hS ho hg hx hy hv hn (by simp[h1]) hu (by simp;omega) (by simpa[A9]using he) h
theorem QU7(hF:∀f,F.fn f){e n1:TypeId}{z:Value}{k bytes:Nat}{xs:Array (Nat×Operand)}{parts:List (Nat×Value)}{l:List Value}(hS:St W L w)(ho:o.op=.buildSlice t n1 xs)(hg:o.guard=none)(hx:(xs.map fun(i,x)=>(i,a.eval x))=parts.toArray)
  (ht:x9 P t=some e) (hi:D9 P e=some (some z,k,bytes)) (hz:z.cells.size=k) (hn:decide (n1*k<=16777216)=true) (hp:aD4 k n1 parts=true) (hl:bp4 k (ac4 z n1) parts=l)
  (h:∀b w',St W (blk b l e::L) w'->wpListIn F n P ops Q rest (a.put o.dst (.S b n1 n1)) w'):wpListIn F n P ops Q (o::rest) a w:=by
 obtain⟨b,w',hr,hS'⟩:=FO7 (P:=P) (a:=a) hS ho hx ht hi hz hn hp hl;exact Gv7 hF hg (fun c hc'=>by rw[ho]at hc';cases hc') hr (h b w' hS')
end
theorem St.putObj{W w:World}{L:List HP}{b:Nat}{o:Obj}(o':Obj)(h:St W (aj4 b o::L) w):St W (aj4 b o'::L) (w.putObj b o'):=by
 have hg:=h.get (b:=b) .head;refine h.putO .head rfl rfl rfl fun k=>?_
 by_cases hk:k=b
 ·subst hk;rw[if_pos rfl];exact World.putObj_heap_same (Array.getElem?_eq_some_iff.1 hg).1
 ·rw[if_neg hk];exact World.putObj_heap_other hk
def dk4{κ:Type}(P:Program)(ek:κ->Value)(N:Nat)(l:Nat)(W:World)(X:List κ->HP):Prop:=
 ∀(m:Nat) (pre:List κ) (x:κ) (L:List HP) (w:World),pre.length<N->St W (X pre::L) w->YieldAt Fence.wide m P l #[ek x] w fun e w'=>e=.returned (.bool true)/\St W (X (pre++[x])::L) w'
def cd4{κ:Type}(P:Program)(ek:κ->Value)(N:Nat)(gf:Nat)(lb:Array Value)(S:List κ->Prop)(W:World)(R:List HP):Prop:=
 ∀(l m:Nat) (X:List κ->HP) (w:World),dk4 P ek N l W X->St W (X []::R) w->
  CallsIn Fence.wide m P gf (#[.func (.yield l) #[] #[]]++lb) w fun e w'=>(∃v,e=.returned v)/\∃ss,S ss/\St W (X ss::R) w'
theorem Gx7{κ:Type}{n:Nat}{P:Program}{W w:World}{L R:List HP}{ops:Array Oper}{rest:List Oper}{o:Oper}{a:Act}{Q:Exit->Act->World->Prop}{ek:κ->Value}{x y:Operand}{ats:Array TypeId}{lp N:Nat}{k:κ}{pre:List κ}{X:List κ->HP}
  (hY:dk4 P ek N lp W X) (hS:St W L w) (hop:o.op=.call { callee:=.value x,args:=#[y],argTypes:=ats }) (hg:o.guard=none) (hx:a.eval x=.func (.yield lp) #[] #[]) (hy:a.eval y=ek k) (hlt:pre.length<N) (hu:Take L (X pre) R)
  (h:∀w',St W (X (pre++[k])::R) w'->wpListIn Fence.wide n P ops Q rest (a.put o.dst (.bool true)) w'):wpListIn Fence.wide n P ops Q (o::rest) a w:=by
 obtain⟨fn,tmps,assign,body,hy2,hR⟩:=hY (n-1) pre k R w hlt (hS.take hu);refine wpListIn_plain hg fun K' hK'=>?_
 unfold Oper.wpIn;refine⟨fun f _=>trivial,?_⟩;rw[Oper.semAt_plain Fence.wide _ _ (by rw[hop];intro c hc';cases hc')]
 have e:(execOp a.eval o).run P w=.ok (.round lp fn tmps assign body) w:=by
  have ha:(#[y]:Array Operand).map a.eval=#[ek k]:=by simp[hy]
  unfold execOp;simp only[hop,resolve,Sem.run_bind,hx,Deferred.ofValue,ha,Sem.run_pure,Result.andThen_ok];simp[invoke,hy2]
 rw[e,Oper.uponIn_round];refine⟨(fun h=>by cases h),hR.mono ?_⟩;rintro e w3 ⟨rfl,h5⟩;exact hK' _ _ (h w3 h5)
def bT4(fn:FuncId)(tmps:Array Value)(ps:Array Tmp)(assign body:Code)(D:Nat)(st:LoopState)(pe:Option Code):Loop:={ state:=st,pending:=pe,fn,tmps,params:=ps,assign,body,defers:=D }
def dV4(rc:LoopState->Option Code->Loop)(l D:Nat)(I:HP):HP:=sep I (sep (aj4 l (.loop (rc .ready none))) (aj4 D (.deferred (some []))))
section
variable{κ:Type}{n:Nat}{P:Program}{W w:World}{L R:List HP}{a:Act}{Q:Exit->Act->World->Prop}{ek:κ->Value}
theorem dF4{rc:LoopState->Option Code->Loop}{l D:Nat}{I:HP}(h:St W (dV4 rc l D I::L) w):St W (I::aj4 l (.loop (rc .ready none))::aj4 D (.deferred (some []))::L) w:=
 (St.split (St.split h).swap).s _
theorem dG4{rc:LoopState->Option Code->Loop}{l D:Nat}{I:HP}(h:St W (I::aj4 l (.loop (rc .ready none))::aj4 D (.deferred (some []))::L) w):St W (dV4 rc l D I::L) w:=
 St.join ((St.join (h.s (aj4 l (.loop (rc .ready none))::aj4 D (.deferred (some []))::I::L))).swap)
theorem eB4{g:Operand}{p1:Tmp}{assign body:Code}{gf:Nat}{lb:Array Value}(hg:a.eval g=.func (.func gf) #[] lb)(eg:∀args w,(callFunc gf args).run P w=.ok (.enter gf args) w)
  {S:List κ->Prop} {N:Nat} {I:List κ->HP} (hseq:cd4 P ek N gf lb S W R) (hS:St W (I []::R) w)
  (hround:∀(l m:Nat) (pre:List κ) (x:κ) (L:List HP) (w:World),pre.length<N->St W (I pre::L) w->assign.wpIn (Fence.wide.inRound l) m P (Exit.then (fun a1 w1=>∃J:HP,St W (J::L) w1/\∀(L2:List HP) (w2:World),St W (J::L2) w2->
   body.wpIn (Fence.wide.inRound l) m P (fun e _ w'=>e=.normal/\St W (I (pre++[x])::L2) w') a1 w2) (fun _ _ _=>False)) { tmps:=a.tmps.setIfInBounds p1 (ek x),defers:=[] } w)
  (hdone:∀(D:Nat) (ss:List κ) (w:World),S ss->St W (I ss::aj4 D (.deferred (some []))::R) w->Q .normal { a with defers:={ target:=.collected D,args:=#[] }::a.defers } w):
  (Code.rangeFunc g #[p1] assign body).wpIn Fence.wide n P Q a w:=by
 refine wpIn_rangeFunc ?_;intro fn hfn;have h1:=(hS.alloc (.deferred (some []))).alloc (.loop (bT4 fn a.tmps #[p1] assign body w.heap.size .ready none));rw[World.size_alloc]at h1;generalize hW1:(w.alloc (.deferred (some []))).alloc (.loop (bT4 fn a.tmps #[p1] assign body w.heap.size .ready none))=w1 at h1
 refine⟨w.heap.size+1,[{ target:=.collected w.heap.size,args:=#[] }],w1, { target:=.fn (.func gf) lb,args:=#[.func (.yield (w.heap.size+1)) #[] #[]] },w1,gf,
  #[.func (.yield (w.heap.size + 1)) #[] #[]] ++ lb,w1,?_,?_,?_,?_,(fun h => by cases h),?_⟩
 ·rw[<-hW1];exact run_enterLoop_outer _ _ _ _ _
 ·simp only[resolve,hg];simp[go_sem]
 ·intro f' hf';trivial
 ·simp[invoke,go_sem,eg]
 ·have hT:dk4 P ek N (w.heap.size+1) W (fun ss=>dV4 (bT4 fn a.tmps #[p1] assign body w.heap.size) (w.heap.size+1) w.heap.size (I ss)):=by
   intro m pre x L' w2 hlt hS2;have h2:=dF4 hS2;have hl:=h2.get (b:=w.heap.size+1) (.tail .head);refine⟨_,_,_,_,run_yield (P:=P) (args:=#[ek x]) hl rfl,roundIn_of_wpIn trivial ?_⟩;have et:((bT4 fn a.tmps #[p1] assign body w.heap.size .ready none).params.zip #[ek x]).foldl (fun tmps (t,a)=>tmps.setIfInBounds t a) (bT4 fn a.tmps #[p1] assign body w.heap.size .ready none).tmps=a.tmps.setIfInBounds p1 (ek x):=by simp[bT4]
   rw[et];refine wpIn_mono (hround _ _ pre x _ w2 hlt h2) ?_;intro e a1 w1 hq
   cases e with
   | normal=>
    obtain⟨J,hJ,hb⟩:=hq;have hl1:=hJ.get (b:=w.heap.size+1) (.tail .head);refine⟨_,run_beginRound (P:=P) hl1 rfl,?_⟩;have h4:St W (J::aj4 (w.heap.size+1) (.loop (bT4 fn a.tmps #[p1] assign body w.heap.size .busy none))::aj4 w.heap.size (.deferred (some []))::L') _:=((hJ.swap).putObj (.loop (bT4 fn a.tmps #[p1] assign body w.heap.size .busy none))).swap;refine wpIn_mono (hb _ _ h4) ?_;rintro e a3 w3 ⟨rfl,h5⟩;have hl5:=h5.get (b:=w.heap.size+1) (.tail .head);refine⟨_,_,run_endRound (P:=P) none hl5,rfl,?_⟩;exact dG4 ((h5.swap).putObj (.loop (bT4 fn a.tmps #[p1] assign body w.heap.size .ready none))).swap
   | _=>exact hq
  refine(hseq (w.heap.size+1) _ (fun ss=>dV4 (bT4 fn a.tmps #[p1] assign body w.heap.size) (w.heap.size+1) w.heap.size (I ss)) w1 hT (dG4 (h1.s _))).mono ?_;rintro e w3 ⟨⟨v,rfl⟩,ss,hs,h2⟩;have h3:=dF4 h2;have hl:=h3.get (b:=w.heap.size+1) (.tail .head);refine⟨none,_,run_endLoop (P:=P) hl (by simp[bT4]),?_⟩;exact hdone _ ss _ hs (((h3.swap).putObj _).drop)
end
end Go.Sl
end
