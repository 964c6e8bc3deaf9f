/-
  Both economies' bytes are the same.
-/
import Derived.Test.YtlmhakmoioogaaaGreatEconWjM5
import Derived.Test.YtlmhakmoioogaaaGreatEconWjM17
import Derived.Test.YtlmhakmoioogaaaGreatEconWjM40
import Derived.Test.YtlmhakmoioogaaaGreatEconWjM42
import Derived.Test.YtlmhakmoioogaaaGreatEconWjM44
import Derived.Test.YtlmhakmoioogaaaGreatEconWjM45
import Derived.Test.YtlmhakmoioogaaaGreatEconWjM47
import Derived.Test.YtlmhakmoioogaaaGreatEconWjM48
set_option maxHeartbeats 16000000
set_option maxRecDepth 100000
set_option linter.unusedSimpArgs false
set_option linter.unusedVariables false
section
namespace Go.Proofs.YtlmhakmoioogaaaGreat
open Go.RowKit Go.Sl
structure SameE(e e':Ec):Prop where
 v:e.vs.Perm e'.vs
 s:e.ss.Perm e'.ss
 t:e.ts.Perm e'.ts
 a:e.ar.Perm e'.ar
theorem LI7{e e':Ec}{n:Nat}(h:EnL e n)(s:SameE e e'):EnL e' n:=
 ⟨⟨fun x hx=>h.en.ok x (s.v.mem_iff.2 hx),fun x hx=>h.en.vk x (s.v.mem_iff.2 hx),fun x hx=>h.en.sw x (s.s.mem_iff.2 hx),fun x hx=>h.en.sr x (s.s.mem_iff.2 hx),fun x hx=>h.en.tw x (s.t.mem_iff.2 hx),fun x hx=>h.en.aw x (s.a.mem_iff.2 hx),
  by rw[<-s.v.length_eq];exact h.en.lv,by rw[<-s.s.length_eq];exact h.en.ls,by rw[<-s.t.length_eq];exact h.en.lt,by rw[<-s.a.length_eq];exact h.en.la⟩,(s.v.map _).nodup_iff.1 h.nd,by rw[<-Jn7 s.v];exact h.ln⟩
theorem Hh7{e e':Ec}{d:List Int}(hv:(e.vs.map (·.1)).Nodup)(hs:(e.ss.map (·.1)).Nodup)(s:SameE e e')(h:cx4 e d):cx4 e' d:=by
 obtain⟨T,A,h1,h2,h3,h4,rfl⟩:=h;refine⟨T,A,h1.trans s.t,h2,h3.trans (s.a.map _),h4,?_⟩;have e1:ksE e'=ksE e:=by unfold ksE;exact DK7 (s.v.symm.map _)
 have e2:∀k,enK e' k=enK e k:=fun k=>by
  have:atV e' k=atV e k:=by unfold atV;rw[Ap7 hv s.v k]
  unfold enK;rw[this]
 have e3:∀c,enS e' c=enS e c:=fun c=>by
  unfold enS;rw[Ap7 hs s.s c]
 have e4:aN4 (e'.ss.map (·.1))=aN4 (e.ss.map (·.1)):=Hg7 (s.s.symm.map _);rw[e1,e4,s.v.length_eq,s.s.length_eq,s.t.length_eq,s.a.length_eq,funext e2,funext e3]
theorem Qo7{ν:Type}{l:List (Int×ν)}(h:Asc ltI l):aN4 (l.map (·.1))=l.map (·.1):=by
 have hp:∀m:List Int,(aN4 m).Pairwise fun x y=>decide (x<=y)=true:=fun m=>List.pairwise_mergeSort (fun a b c h1 h2=>by simp only[decide_eq_true_eq]at *;omega) (fun a b=>by simp only[Bool.or_eq_true,decide_eq_true_eq];omega) m
 refine List.Perm.eq_of_pairwise (fun a b _ _ h1 h2=>by simp only[decide_eq_true_eq]at h1 h2;omega) (hp _) ?_ (Dc7 _)
 exact List.pairwise_map.2 (List.Pairwise.imp (fun{a b} h=>by simp only[ltI,decide_eq_true_eq]at h ⊢;omega) h)
def eW4(d:Ec):List Int:=l8 d.vs.length++(d.vs.map (·.1)).flatMap (enK d)++l8 d.ss.length++(d.ss.map (·.1)).flatMap (enS d)++l8 d.ts.length++d.ts.flatMap enT++l8 d.ar.length++(d.ar.map (·.1)).flatMap enA
theorem SimE.same{d e:Ec}(h:SimE d e):SameE d e:=⟨h.v,h.s,h.t,h.a⟩
theorem Sf7{d e:Ec}(h:SimE d e):cx4 e (eW4 d):=by
 refine Hh7 h.vn h.sn h.same ⟨d.ts,d.ar.map (·.1),List.Perm.refl _,h.ta,List.Perm.refl _,(List.pairwise_map (f:=fun x:(Int×Int)×Unit=>x.1) (R:=fun x y=>ltW x y=true)).2 h.aa,?_⟩;have e1:ksE d=d.vs.map (·.1):=Jl7 h.va;rw[e1,Qo7 h.sa]
 rfl
theorem SU7{d e:Ec}(h:SimE d e):ksE e=d.vs.map (·.1):=(Sa7 h).symm
theorem Kw7{d e:Ec}{n:Nat}(h:EnL e n)(s:SimE d e):EnL d n:=LI7 h ⟨s.v.symm,s.s.symm,s.t.symm,s.a.symm⟩
theorem Qp7{d e:Ec}(h:bD4 e)(s:SimE d e):bD4 d:=fun x hx=>h x (s.v.mem_iff.1 hx)
structure EnT(e:Ec)(n:Nat):Prop where
 en:EnL e n
 tt:n<=400->∀k,Kx k->M8 e k<=n*1048576
theorem gN4:EnT ec0 0:=⟨gH4,fun _ _ _=>Int.le_refl _⟩
theorem LJ7:dX4 EnT:=fun e n o h he he2 hok=>by
 refine⟨h.en.app he o hok,fun hn k hk=>?_⟩;have h1:=RU7 h.en.nd h.en.en.ok he he2 (fun j hj=>by have:=h.tt (by omega) j hj;omega) (o:=o) hk;have h2:=SK7 (e:=e) (o:=o) (G5 e o).1 k;have h3:=h.tt (by omega) k hk;rw[h1];omega
theorem Jr7{e:Ec}{f t:ByteArray}(hs:(e.ss.map (·.1)).Nodup):SameE e (bc4 (dv4 e f t) (inE e f t)):=by
 refine⟨DI7 _ _,?_,DI7 _ _,?_⟩
 ·show e.ss.Perm (dm4 e.ss e.ss)
  have h0:e.ss.filter (aR4 e.ss)=[]:=List.filter_eq_nil_iff.2 fun x hx=>by
   have h1:i9 e.ss x.1=some x.2:=AT7 hs hx;unfold aR4;rw[h1];simp
  unfold dm4;rw[h0,Ev7]
 ·show e.ar.Perm (e.ar++L7 e.ar e.ar)
  have h0:L7 e.ar e.ar=[]:=List.filter_eq_nil_iff.2 fun x hx=>by
   simp only[decide_eq_true_eq]
   exact fun h=>h x hx rfl
  rw[h0,List.append_nil]
theorem Kx7{e:Ec}{f t:ByteArray}(hv:(e.vs.map (·.1)).Nodup)(ht:(e.ts.map (·.1)).Nodup):O5 (dv4 e f t) (inE e f t)=false:=by
 unfold O5;rw[Bool.or_eq_false_iff]
 have key:∀{κ ν:Type} [DecidableEq κ] (p:κ×ν->Bool) (l:List (κ×ν)),(l.map (·.1)).Nodup->∀x∈l.filter p,i9 (l.filter fun y=>!p y) x.1=none:=by
  intro κ ν _ p l hn x hx;obtain⟨hx1,hx2⟩:=List.mem_filter.1 hx
  cases hg:i9 (l.filter fun y=>!p y) x.1 with
  | none=>rfl
  | some v=>
   obtain⟨h1,h2⟩:=List.mem_filter.1 (AF7 hg);have h3:=AT7 hn h1;rw[AT7 hn hx1]at h3
   cases h3
   rw[show((x.1,x.2):κ×ν)=x from rfl,hx2]at h2
   cases h2
 refine⟨List.any_eq_false.2 fun x hx=>?_,List.any_eq_false.2 fun x hx=>?_⟩
 ·show ¬(i9 (e.vs.filter fun y=>!inB f t y.1) x.1).isSome=true
  rw[key (fun y:ByteArray×Vs=>inB f t y.1) e.vs hv x hx];simp
 ·show ¬(i9 (e.ts.filter fun y=>!inB f t y.2.ak) x.1).isSome=true
  rw[key (fun y:(Int×Int)×Tns=>inB f t y.2.ak) e.ts ht x hx];simp
theorem Qq7{eb:Nat}{e:Ec}{W w:World}{R:List HP}(h:St W (ecP eb e::R) w):(e.vs.map (·.1)).Nodup/\(e.ss.map (·.1)).Nodup/\(e.ts.map (·.1)).Nodup/\(e.ar.map (·.1)).Nodup:=by
 obtain⟨m1,m2,m3,m4,E,hp,hn,h0⟩:=M7 h;refine⟨?_,Go.Sl.u6 h0.drop,Go.Sl.u6 h0.drop.drop,Go.Sl.u6 h0.drop.drop.drop⟩;rw[<-Bk7]at hn
 exact(hp.map _).nodup_iff.1 hn
theorem whole_spec(xs:List Opn)(f t:ByteArray)(v:Value)(V:World)(hv:bm4 Opn.cells 12 V v xs)(W w:World)(Lr:List HP)(hS:St W (Old V::Lr) w):
  Calls Tryz.prog 9 #[v,.agg #[.string f,.string t]] w fun e w'=>e=.returned (.bool true)/\St W (Old V::Lr) w':=by
 have Hv:=jH hv;obtain⟨a,cap,rfl,h63,hact⟩:=hv.opn;have Ha:=jH hact;clear hact hv;go_enter Tryz.func9,Tryz.ntmps9
 by_cases hf:60<f.size
 ·have d1:decide ((60:Int)<(f.size:Int))=true:=by simp;omega
  go_wp2_with(first|go_big_skip|(refine zbx hS ?_;clear hS;intro bO w hS)|(refine zl1 hS ?_)|(go_at_call 20;refine(Bt7 xs a cap h63 (fun i hi=>(Ha.out i hi).imp fun b h=>h.imp fun off h=>⟨h.1,fun j v hj=>i8.old (.tail .head) (h.2.all j v hj)⟩) W _ hS).mono ?_;clear hS;rintro e w ⟨hv,h150,rfl,hS⟩;cases hv))
  all_goals(go_ret;exact⟨rfl,hS.drop⟩)
 have d1:decide ((60:Int)<(f.size:Int))=false:=by simp;omega
 by_cases ht:60<t.size
 ·have d2:decide ((60:Int)<(t.size:Int))=true:=by simp;omega
  go_wp2_with(first|go_big_skip|(refine zbx hS ?_;clear hS;intro bO w hS)|(refine zl1 hS ?_)|(go_at_call 20;refine(Bt7 xs a cap h63 (fun i hi=>(Ha.out i hi).imp fun b h=>h.imp fun off h=>⟨h.1,fun j v hj=>i8.old (.tail .head) (h.2.all j v hj)⟩) W _ hS).mono ?_;clear hS;rintro e w ⟨hv,h150,rfl,hS⟩;cases hv))
  all_goals(go_ret;exact⟨rfl,hS.drop⟩)
 have d2:decide ((60:Int)<(t.size:Int))=false:=by simp;omega
 clear hf ht;go_wp2_with(first|go_big_skip|(refine zbx hS ?_;clear hS;intro bO w hS)|(refine zl1 hS ?_)|(go_at_call 20;refine(Bt7 xs a cap h63 (fun i hi=>(Ha.out i hi).imp fun b h=>h.imp fun off h=>⟨h.1,fun j v hj=>i8.old (.tail .head) (h.2.all j v hj)⟩) W _ hS).mono ?_;clear hS;rintro e w ⟨hv,h150,rfl,hS⟩;cases hv))
 rotate_left
 ·go_ret
  exact⟨rfl,hS.drop⟩
 have hlen:xs.length<=150:=by first|exact h150 rfl|exact h150 trivial
 clear h150;refine(Ku7 xs hlen _ V Hv.out W _ _ (hS.s (Old V::blk bO [.string f,.string t] 54::Lr))).mono ?_;clear hS;rintro r w ⟨eb,xb,rfl,hG,hN,hS⟩;obtain⟨g1,g2,g3,g4⟩:=Qq7 hS;have hsm:=Jr7 (e:=aB4 xs ec0) (f:=f) (t:=t) g2;have Hnc:=jH (Kx7 (f:=f) (t:=t) g1 g3);have Hen:=jH (fun d=>Hh7 (d:=d) g1 g2 hsm);have HN2:=jH (LI7 hN hsm);have HN:=jH hN;clear hG hN g1 g2 g3 g4 hsm;generalize aB4 xs ec0=e at *;generalize bT4 xs ec0=dd at *;go_wp2_with(first|(refine zlN hS ?_)|(go_at_call 27;refine(Gz7 HN.out (by omega) W _ _ hS).mono ?_;clear hS;rintro x w ⟨v1,d,rfl,hd,hS⟩;have Hd:=jH hd;clear hd)|(go_at_call 24;refine(PZ7 f t W _ _ (hS.s (ecP eb e::byR v1 d::x9 xb dd::Old V::blk bO _ _::Lr))).mono ?_;clear hS;rintro x w ⟨fb,rfl,hS⟩));refine(GA7 W _ _ (hS.s (ecP eb (dv4 e f t)::ecP fb (inE e f t)::byR v1 d::x9 xb dd::Old V::blk bO _ _::Lr))).mono ?_;clear hS;rintro x w (⟨h1,_,_⟩|⟨_,rfl,hS⟩)
 ·rw[Hnc.out]at h1;cases h1
 have Hd2:=jH (Hen.out _ Hd.out);have Hpos:=jH (Jp7 Hd.out);have hn6:xs.length<=600:=by omega
 generalize bc4 (dv4 e f t) (inE e f t)=j at hS HN2 Hd2;clear Hnc Hen HN Hd;have hS1:=hS.s (byR v1 d::ecP eb j::x9 xb dd::Old V::blk bO _ _::Lr);clear hS;have hS:=hS1;clear hS1;go_wp2_with(fail);refine rf3 [0,1,3,7,15,31,7,71,255,511,1023,2047,4095,8191] (fun i=>i==4) (fun i=>if i==11 then some (.bool true)else none) [⟨some 4,none,fun nd=>byR (nd 4) d⟩] [none,none,none,none,none] hS ?_;clear hS;intro nd
 iterate 4 (refine cR ?_)
 (apply AB7;rfl;rfl;rfl;decide +kernel;(focus(simp only[fD,fI,fJ,Act.eval,fE,fF,fG,fH,fK];try rfl));(intro _;rfl);(intro F w hS;exact Jq7 Hd2.out HN2.out hn6 (.tail .head) hS);(refine frS ?_));(apply CN7 (ns:=d);rfl;kernel_rfl;rfl;rfl;rfl;exact Tryz.underlying63;exact Tryz.underlying5;exact Tryz.underlying9;exact Hpos.out;(intro F;exact⟨_,by exact s7⟩);(refine frS ?_));(refine cR ?_);(apply CN7 (ns:=d);rfl;kernel_rfl;rfl;rfl;rfl;exact Tryz.underlying63;exact Tryz.underlying5;exact Tryz.underlying9;exact Hpos.out;(intro F;exact⟨_,by exact s7⟩);(refine frS ?_))
 iterate 3 (refine cR ?_)
 (refine zcv ?_ (hs:=by(intro F w hS;(try clear hS0);exact DC7 W w _ hS)))
 iterate 2 (refine cR ?_)
 refine Ad7 ?_;intro w hS;have hS2:St W [byR (nd 4) d,byR v1 d,ecP eb j,x9 xb dd,Old V,blk bO [.string f,.string t] 54,sats Lr] w:=hS;clear hS;have hS:=hS2.unpack [_,_,_,_,_,_];clear hS2;simp only[List.cons_append,List.nil_append]at hS;go_wp2_with fail;go_ret
 exact⟨rfl,hS.s _⟩
theorem Qr7{e i x0 x1 x2 x3:Int}(h:RpOk ⟨e,i,⟨x0,x1,x2,x3⟩⟩)(W w:World)(R:List HP)(hS:St W R w):
  Calls Tryz.prog 193 #[rV e i x0 x1 x2 x3] w fun x w'=>x=.returned (.bool true)/\St W R w':=by
 have d0:decide (0<=e)=true:=by simpa using h.e0
 have d1:decide (e<=19)=true:=by simpa using h.e1
 have d2:decide (0<=i)=true:=by simpa using h.i0
 have d3:decide (i<=1099511627776)=true:=by simpa using h.i1
 have Hi:=jH h.has;clear h;go_enter Tryz.func193,Tryz.ntmps193;go_wp2_with(first|(refine zbx hS ?_;clear hS;intro bO w hS)|(refine zl1 hS ?_)|(refine zlN hS ?_ (vs:=[.I x0,.I x1,.I x2,.I x3]) (hc:=by exact i5.here rfl))|(go_at_call 116;refine(CB7 _ _ _ _ W _ _ hS).mono ?_;clear hS;rw[Hi.out];rintro e w ⟨rfl,hS⟩));go_ret
 exact⟨rfl,hS.drop⟩
theorem GB7{x y:Int}(hx : -9223372036854775808<=x/\x<=9223372036854775807)(hy : -9223372036854775808<=y/\y<=9223372036854775807){v:Value}{W w:World}{R:List HP}(hS:St W (I7 v 2 2 [.I x,.I y] 3::R) w):
  Calls Tryz.prog 144 #[v] w fun e w'=>∃v',e=.returned v'/\St W (byR v' (m5 [x,y])::R) w':=by
 obtain⟨b,rfl,hS1⟩:=hS.sl
 exact cF4 [x,y] b 2 (by simp) (fun z hz=>by
  rcases List.mem_cons.1 hz with rfl|hz
  ·exact hx
  ·rw[List.mem_singleton.1 hz];exact hy) W w R hS1
theorem Js7{e i x0 x1 x2 x3:Int}(h:RpOk ⟨e,i,⟨x0,x1,x2,x3⟩⟩)(W w:World)(R:List HP)(hS:St W R w):
  Calls Tryz.prog 143 #[rV e i x0 x1 x2 x3] w fun x w'=>∃v,x=.returned (.tuple #[v,.I 0])/\St W (byR v (rpB ⟨e,i,⟨x0,x1,x2,x3⟩⟩)::R) w':=by
 have e0:=h.e0;have e1:=h.e1;have i0:=h.i0;have i1:=h.i1;simp only at e0 e1 i0 i1;have l1:(m5 [e,i]).length<=18:=AK7 [e,i];have l2:(m5 [x0,x1,x2,x3]).length<=36:=AK7 [x0,x1,x2,x3];have hre : -9223372036854775808<=e/\e<=9223372036854775807:=⟨by omega,by omega⟩
 have hri : -9223372036854775808<=i/\i<=9223372036854775807:=⟨by omega,by omega⟩
 have Hre:=jH hre;have Hri:=jH hri;have Hit:=jH h.has;have Hh:=jH h;have He:=jH (show rpB ⟨e,i,⟨x0,x1,x2,x3⟩⟩=m5 [e,i]++m5 [x0,x1,x2,x3]from rfl);clear h hre hri;go_enter Tryz.func143,Tryz.ntmps143;go_wp2_with(first|(refine zbx hS ?_;clear hS;intro bO w hS)|(refine zlN hS ?_)|(go_at_call 193;refine(Qr7 Hh.out W _ _ hS).mono ?_;clear hS;rintro x w ⟨rfl,hS⟩));refine rf2 [0,1,0,4,15,31,0,64,255,511,1023,2047] (fun i=>i==4||i==5||i==8||i==9) [⟨some 4,some 5,fun nd=>I7 (nd 4) 2 2 [.I e,.I i] 3⟩,⟨some 5,some 9,fun nd=>byR (nd 5) (m5 [e,i])⟩,⟨some 8,none,fun nd=>byR (nd 8) (m5 [x0,x1,x2,x3])⟩,⟨some 9,none,fun nd=>row (nd 9) 1 5 ((m5 [e,i]).length+(m5 [x0,x1,x2,x3]).length) (u8s (m5 [e,i])++u8s (m5 [x0,x1,x2,x3]))⟩] [none] hS ?_;clear hS;intro nd;(refine cR ?_);(refine zc1 ?_);(refine cR ?_);(refine zc1 ?_);(apply O9;rfl;rfl;rfl;(focus(simp only[fD,fI,fJ,Act.eval,fE,fF,fG,fH,fK];try rfl));(exact esS);(exact rsS);rfl;rfl;rfl;rfl;(intro _;rfl);rfl;(intro _;rfl);(refine frS ?_));(apply AB7;rfl;rfl;rfl;decide +kernel;(focus(simp only[fD,fI,fJ,Act.eval,fE,fF,fG,fH,fK];try rfl));(intro _;rfl);(intro F w hS;exact GB7 Hre.out Hri.out hS);(refine frS ?_));(refine cR ?_);(refine zcN ?_ (vs:=[.I x0,.I x1,.I x2,.I x3]) (hc:=by(intro F;exact i5.here rfl)));(apply AB7;rfl;rfl;rfl;decide +kernel;(focus(simp only[fD,fI,fJ,Act.eval,fE,fF,fG,fH,fK];try rfl));(intro _;rfl);(intro F w hS;exact gD4 ⟨x0,x1,x2,x3⟩ Hit.out W w _ hS);(refine frS ?_));(apply Af7;rfl;rfl;rfl;(focus((conv=>lhs;whnf);try rfl));(focus((conv=>lhs;whnf);try rfl));(exact esS);(exact rsS);rfl;decide;rfl;(intro F w hS;exact HA7 (k:=1) (by decide) hS (by exact s7));(focus(rw[AS7,Nat.mul_one]));(focus(exact Be7 _));(focus(unfold maxLen;omega));(focus(omega));(intro _;rfl);(intro _;rfl);(refine frS ?_))
 iterate 2 (refine cR ?_)
 refine Ad7 ?_;intro w hS;have hS2:St W [byR (nd 8) _,row (nd 9) 1 5 _ _,blk bO _ _,sats R] w:=hS;clear hS;have hS:=hS2.unpack [_,_,_];clear hS2;simp only[List.cons_append,List.nil_append]at hS;generalize nd 9=v9 at *;go_wp2_with fail;go_ret2;refine⟨v9,rfl,?_⟩;have hS1:=hS.drop;rw[<-Az7]at hS1;rw[He.out]
 exact(AI7 (by rw[jA]) hS1).s _
def K8R(W:World)(L:List HP)(D:Ev)(v3 v4:Value)(w:World):Prop:=
 ∃k:Nat,v4=.I k/\k<=D.length/\St W (bo4 v3 ((D.take k).map (·.1))::L) w
theorem Sg7{xb:Nat}{d:Ec}(hl:d.vs.length<=1000000)(W w:World)(R:List HP)(hS:St W (x9 xb d::R) w):
  Calls Tryz.prog 73 #[.pointer (jP xb)] w fun e w'=>∃v,e=.returned v/\St W (bo4 v (d.vs.map (·.1))::x9 xb d::R) w':=by
 obtain⟨v1,v2,v3,v4,D,hd,hS0⟩:=aV4 hS;clear hS;have hS:=hS0.s (xeB xb v1 v2 v3 v4::xrP v1 D::l6 D::xsP v2 d.ss::xtP v3 d.ts::xmP v4 d.ar::R);clear hS0;have hD:D.length<=1000000:=by rw[<-Cc7,hd];exact hl
 have Hd:=jH hd;clear hd hl;obtain⟨a,cap,rfl⟩:=hS.drop.rowVal;go_enter Tryz.func73,Tryz.ntmps73;go_wp2_with(fail);have hS1:=hS.rowNil (k:=1) (T:=9);clear hS;have hS:=hS1;clear hS1
 go_loopw [3,4] (fun v3' v4' wr=>K8R W (xeB xb (.slice a D.length cap) v2 v3 v4::xrP (.slice a D.length cap) D::l6 D::xsP v2 d.ss::xtP v3 d.ts::xmP v4 d.ar::R) D v3' v4' wr) (fun _ v4' _=>D.length-(intOf v4').toNat)
 case atStart=>exact⟨0,rfl,Nat.zero_le _,hS⟩
 case round=>
  clear hS;obtain⟨k,rfl,hkl,hS⟩:=hrel
  by_cases hkn:k=D.length
  ·rw[hkn,List.take_length]at hS;have hd1:decide (k<D.length)=false:=by simp;omega
   clear hkl hkn;go_wp2_with(first|(refine zl1 hS ?_));go_ret;refine⟨_,rfl,?_⟩;rw[<-Hd.out,Bk7]
   exact(L6 Hd.out (hS.s (cg4 xb (.slice a D.length cap) v2 v3 v4 D d (bo4 _ (D.map (·.1))::R)))).swap
  ·have hk1:k<D.length:=by omega
   have hd1:decide (k<D.length)=true:=by simp;omega
   obtain⟨⟨g,rfl⟩,_,_⟩:=St.rowAddr hS.drop.drop (by omega);have hname:∀{K K':List HP},Take K (xrP (.slice (jP g) D.length cap) D) K'->i8 K g (k*2) (.string D[k].1):=fun hu=>i5.elemM (enc:=rwC) AG7 hu hk1 0 _ rfl
   have hstep:=CD7 (fun x:ByteArray×(Nat×Vs)=>x.1) D hk1;have hbl:((D.take k).map (·.1)).length<=1000000:=by rw[jM,jT];omega
   have Hstep:=jH hstep;clear hstep hkn hkl;generalize (D.take k).map (·.1)=acc at hS Hstep hbl;generalize D[k]=x at hname Hstep;obtain⟨xk,xv⟩:=x;go_wp2_with(first|(refine zl1 hS ?_ (hc:=by exact hname (by exact i6)))|(refine zl1 hS ?_)|(refine zbs hS ?_;clear hS;intro bS w hS)|(refine zap hS ?_ (h63:=by unfold maxLen;omega) (hb:=by omega);clear hS;intro v w hS))
   go_roundw
   case rel=>
    refine⟨k+1,rfl,hk1,?_⟩;rw[Hstep.out];have h0:St W (row v 1 9 (acc.length+1) (acc.map eS++[xk].map eS)::_) w:=hS;rw[<-List.map_append]at h0;unfold bo4;rw[jA,List.length_singleton]
    exact h0.s _
   case measure=>simp[intOf];omega
theorem dY4(v:Value)(l:List Int)(hl:l.length<=60000000)(W w:World)(R:List HP)(hS:St W (byR v l::R) w):
  Calls Tryz.prog 141 #[v] w fun e w'=>∃v',e=.returned v'/\St W (byR v' (E6 l)::R) w':=by
 obtain⟨a,c,rfl⟩:=hS.rowVal;have hln:=Ao7 (l.length:Int);go_enter Tryz.func141,Tryz.ntmps141;go_wp2_with(first|(go_at_call 140;refine(cL4 _ ⟨by omega,by omega⟩ W _ _ hS).mono ?_;clear hS;rintro e w ⟨vn,rfl,hS⟩;(have hv:=hS.rowVal;obtain⟨na,nc,rfl⟩:=hv))|((with_reducible apply Ae7 hS);rfl;rfl;rfl;rfl;(exact esS);(exact rsS);rfl;decide;(exact i6);exact(St.src (by decide) hS.drop).there;(focus(rw[AS7,Nat.mul_one]));(exact Be7 _);(focus(unfold maxLen;omega));(focus(omega));clear hS;intro v w hS;(refine frS ?_)));go_ret;refine⟨v,rfl,?_⟩;have h0:St W (row v 1 5 ((l8 l.length).length+l.length) (u8s (l8 l.length)++u8s l)::_) w:=hS;rw[<-Az7]at h0;unfold E6
 exact(AI7 (by rw[jA]) h0).s _
theorem OI7{vb N:Nat}{V:Vs}(hp:M5 V.ps)(hw:PsW V.ps N)(hN:N<=1000000)(hmay:∀x∈V.L,MayP x)(hl32:V.L.length<=32)(hn0:1<=V.n)(hn1:V.n<=1099511627777){W w:World}{R:List HP}(hS:St W (dvP vb V::R) w):
  Calls Tryz.prog 142 #[.pointer (jP vb)] w fun e w'=>∃v,e=.returned v/\St W (byR v (aW4 V.ps V.L V.n)::dvP vb V::R) w':=by
 obtain⟨xB,hS0⟩:=cX4 hS;obtain⟨xv,hS1⟩:=bb4 hS0;obtain⟨la,lc,last,hlast,hS2⟩:=bz4 (hS1.s (xkP xB V.L V.n::blk vb _ _::hdR _ (hdL V.ps)::R));clear hS hS0 hS1;obtain⟨ha,hc,rfl⟩:=hS2.drop.drop.drop.rowVal;refine(OB7 vb xB ha la hc lc last V.ps V.L V.n hp hw hN hmay hl32 hn0 hn1 W w R hS2).mono ?_;rintro e w' ⟨v,rfl,hS⟩;refine⟨v,rfl,?_⟩;have hS3:=aQ4 hlast (hS.s (blk xB _ _::j7 _ V.L::blk vb _ _::hdR _ (hdL V.ps)::byR v _::R))
 exact(bA4 (at4 (hS3.s (blk vb _ _::hdR _ (hdL V.ps)::xkP xB V.L V.n::byR v _::R)))).swap
def fKv(x:ByteArray×(Nat×Vs)):List Int:=G7 x.1++E6 (aW4 x.2.2.ps x.2.2.L x.2.2.n)
def fSe(x:Int×(Int×Rpl)):List Int:=m5 [x.1,x.2.1]++E6 (rpB x.2.2)
def fAr(x:(Int×Int)×Unit):List Int:=m5 [x.1.1,x.1.2]
theorem ET7{α β:Type}{f g:α->List β}:∀{l:List α},(∀x∈l,f x=g x)->l.flatMap f=l.flatMap g
 | [],_=>rfl
 | x::l,h=>by rw[List.flatMap_cons,List.flatMap_cons,h x (List.mem_cons_self ..),ET7 fun y hy=>h y (List.mem_cons_of_mem _ hy)]
theorem OJ7{d:Ec}{D:Ev}(hd:k8 D=d.vs)(hn:(d.vs.map (·.1)).Nodup):D.flatMap fKv=(d.vs.map (·.1)).flatMap (enK d):=by
 rw[<-hd,Bk7,List.flatMap_map];refine ET7 fun x hx=>?_
 have h1:(x.1,x.2.2)∈d.vs:=by rw[<-hd];exact List.mem_map.2 ⟨x,hx,rfl⟩
 have h2:atV d x.1=x.2.2:=by unfold atV;rw[AT7 hn h1];rfl
 unfold fKv enK;rw[h2];unfold G7 E6;rw[AJ7]
theorem Sh7{d:Ec}(hn:(d.ss.map (·.1)).Nodup):d.ss.flatMap fSe=(d.ss.map (·.1)).flatMap (enS d):=by
 rw[List.flatMap_map];refine ET7 fun x hx=>?_
 unfold fSe enS;rw[AT7 (v:=x.2) hn hx]
 rfl
theorem Si7(d:Ec):d.ar.flatMap fAr=(d.ar.map (·.1)).flatMap enA:=by
 rw[List.flatMap_map]
 rfl
end Go.Proofs.YtlmhakmoioogaaaGreat
end
