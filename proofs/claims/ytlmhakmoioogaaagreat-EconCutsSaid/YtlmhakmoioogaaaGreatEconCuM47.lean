/-
  played.
-/
import Derived.Test.YtlmhakmoioogaaaGreatEconCuM5
import Derived.Test.YtlmhakmoioogaaaGreatEconCuM14
import Derived.Test.YtlmhakmoioogaaaGreatEconCuM30
import Derived.Test.YtlmhakmoioogaaaGreatEconCuM44
import Derived.Test.YtlmhakmoioogaaaGreatEconCuM45
import Derived.Test.YtlmhakmoioogaaaGreatEconCuM46
set_option maxHeartbeats 16000000
set_option maxRecDepth 100000
set_option linter.unusedSimpArgs false
set_option linter.unusedVariables false
section
namespace Go.Proofs.YtlmhakmoioogaaaGreat
open Go.RowKit Go.Sl
def hP4(e:Ec)(o:Opn):Prop:=w8 o=false\/∃q r,i9 e.ss o.client=some (q,r)/\o.seq<=q
theorem Ql7{I:Ec->Nat->Prop}(hI:eH4 I)(hi0:I ec0 0)(xs:List Opn)(hlen:xs.length<=150)(v:Value)(V:World)(hv:bQ4 Opn.cells 12 V v xs)(W w:World)(Lr:List HP)(hS:St W (Old V::Lr) w):
  Calls Tryz.prog 23 #[v] w fun r w'=>∃eb xb,r=.returned (.tuple #[.P eb,.P xb,.bool true])/\GOk (bJ4 xs ec0) (bg4 xs ec0) xs.length/\I (bg4 xs ec0) xs.length/\St W (ecP eb (bg4 xs ec0)::xU6 xb (bJ4 xs ec0)::Old V::Lr) w':=by
 have Hv:=jH hv;clear hv;go_enter Tryz.func23,Tryz.ntmps23;go_wp2_with(first|go_big_skip|go_at_call 15;refine(Gq7 W _ _ hS).mono ?_;clear hS;rintro e w ⟨eb,rfl,hS⟩|refine zbx hS ?_;clear hS;intro xb w hS|go_at_call 32;(have hS1:=hC4 (hS.s (xeB xb (.slice none 0 0) (.slice none 0 0) (.slice none 0 0) (.slice none 0 0)::ecP eb ec0::Old V::Lr)));clear hS;refine(Jg7 xs hlen _ V Hv.out (n:=0) (by decide) hz4 hI hi0 eb xb W _ _ (hS1.s (ecP eb ec0::xU6 xb ec0::Old V::Lr))).mono ?_;clear hS1;rintro e w ⟨rfl,hG,hN,hS⟩;have HG:=jH hG;have HN:=jH hN;clear hG hN);go_ret3;exact⟨eb,xb,rfl,by have:=HG.out;rwa [Nat.zero_add]at this,by have:=HN.out;rwa [Nat.zero_add]at this,hS⟩
structure SameE(e e':Ec):Prop where
 v:e.vs.Perm e'.vs
 s:e.ss.Perm e'.ss
 t:e.ts.Perm e'.ts
 a:e.ar.Perm e'.ar
theorem Qm7{e e':Ec}{n:Nat}(h:EnL e n)(s:SameE e e'):EnL e' n:=
 ⟨⟨fun x hx=>h.en.ok x (s.v.mem_iff.2 hx),fun x hx=>h.en.vk x (s.v.mem_iff.2 hx),fun x hx=>h.en.sw x (s.s.mem_iff.2 hx),fun x hx=>h.en.sr x (s.s.mem_iff.2 hx),fun x hx=>h.en.tw x (s.t.mem_iff.2 hx),fun x hx=>h.en.aw x (s.a.mem_iff.2 hx),
  by rw[<-s.v.length_eq];exact h.en.lv,by rw[<-s.s.length_eq];exact h.en.ls,by rw[<-s.t.length_eq];exact h.en.lt,by rw[<-s.a.length_eq];exact h.en.la⟩,(s.v.map _).nodup_iff.1 h.nd,by rw[<-Jn7 s.v];exact h.ln⟩
theorem MF7{e e':Ec}{d:List Int}(hv:(e.vs.map (·.1)).Nodup)(hs:(e.ss.map (·.1)).Nodup)(s:SameE e e')(h:cz4 e d):cz4 e' d:=by
 obtain⟨T,A,h1,h2,h3,h4,rfl⟩:=h;refine⟨T,A,h1.trans s.t,h2,h3.trans (s.a.map _),h4,?_⟩;have e1:ksE e'=ksE e:=by unfold ksE;exact DJ7 (s.v.symm.map _)
 have e2:∀k,enK e' k=enK e k:=fun k=>by
  have:atV e' k=atV e k:=by unfold atV;rw[Ap7 hv s.v k]
  unfold enK;rw[this]
 have e3:∀c,enS e' c=enS e c:=fun c=>by unfold enS;rw[Ap7 hs s.s c]
 have e4:aP4 (e'.ss.map (·.1))=aP4 (e.ss.map (·.1)):=Hf7 (s.s.symm.map _);rw[e1,e4,s.v.length_eq,s.s.length_eq,s.t.length_eq,s.a.length_eq,funext e2,funext e3]
theorem Qn7{ν:Type}{l:List (Int×ν)}(h:Asc ltI l):aP4 (l.map (·.1))=l.map (·.1):=by
 have hp:∀m:List Int,(aP4 m).Pairwise fun x y=>decide (x<=y)=true:=fun m=>List.pairwise_mergeSort (fun a b c h1 h2=>by simp only[decide_eq_true_eq]at *;omega) (fun a b=>by simp only[Bool.or_eq_true,decide_eq_true_eq];omega) m
 refine List.Perm.eq_of_pairwise (fun a b _ _ h1 h2=>by simp only[decide_eq_true_eq]at h1 h2;omega) (hp _) ?_ (De7 _);exact List.pairwise_map.2 (List.Pairwise.imp (fun{a b} h=>by simp only[ltI,decide_eq_true_eq]at h ⊢;omega) h)
def fc4(d:Ec):List Int:=l9 d.vs.length++(d.vs.map (·.1)).flatMap (enK d)++l9 d.ss.length++(d.ss.map (·.1)).flatMap (enS d)++l9 d.ts.length++d.ts.flatMap enT++l9 d.ar.length++(d.ar.map (·.1)).flatMap enA
theorem SimE.same{d e:Ec}(h:SimE d e):SameE d e:=⟨h.v,h.s,h.t,h.a⟩
theorem Se7{d e:Ec}(h:SimE d e):cz4 e (fc4 d):=by refine MF7 h.vn h.sn h.same ⟨d.ts,d.ar.map (·.1),List.Perm.refl _,h.ta,List.Perm.refl _,(List.pairwise_map (f:=fun x:(Int×Int)×Unit=>x.1) (R:=fun x y=>ltW x y=true)).2 h.aa,?_⟩;have e1:ksE d=d.vs.map (·.1):=Ji7 h.va;rw[e1,Qn7 h.sa];rfl
theorem SZ7{d e:Ec}(h:SimE d e):ksE e=d.vs.map (·.1):=(RY7 h).symm
theorem Df7{d e:Ec}{n:Nat}(h:EnL e n)(s:SimE d e):EnL d n:=Qm7 h ⟨s.v.symm,s.s.symm,s.t.symm,s.a.symm⟩
theorem Qo7{d e:Ec}(h:bb4 e)(s:SimE d e):bb4 d:=fun x hx=>h x (s.v.mem_iff.1 hx)
structure EnT(e:Ec)(n:Nat):Prop where
 en:EnL e n
 tt:n<=400->∀k,Kx k->L8 e k<=n*1048576
theorem hG4:EnT ec0 0:=⟨hF4,fun _ _ _=>Int.le_refl _⟩
theorem LB7:eH4 EnT:=fun e n o h he he2 hok=>by refine⟨h.en.app he o hok,fun hn k hk=>?_⟩;have h1:=Sb7 h.en.nd h.en.en.ok he he2 (fun j hj=>by have:=h.tt (by omega) j hj;omega) (o:=o) hk;have h2:=SS7 (e:=e) (o:=o) (G8 e o).1 k;have h3:=h.tt (by omega) k hk;rw[h1];omega
theorem dX4(v:Value)(l:List Int)(hl:l.length<=60000000)(W w:World)(R:List HP)(hS:St W (byR v l::R) w):
  Calls Tryz.prog 141 #[v] w fun e w'=>∃v',e=.returned v'/\St W (byR v' (E6 l)::R) w':=by
 obtain⟨a,c,rfl⟩:=hS.rowVal;have hln:=Ao7 (l.length:Int);go_enter Tryz.func141,Tryz.ntmps141;go_wp2_with(first|go_at_call 140;refine(cM4 _ ⟨by omega,by omega⟩ W _ _ hS).mono ?_;clear hS;rintro e w ⟨vn,rfl,hS⟩;(have hv:=hS.rowVal;obtain⟨na,nc,rfl⟩:=hv)|(with_reducible apply Ae7 hS);rfl;rfl;rfl;rfl;exact esS;exact rsS;rfl;decide;exact i6;exact(St.src (by decide) hS.drop).there;(focus(rw[AQ7,Nat.mul_one]));exact Be7 _;(focus(unfold maxLen;omega));(focus(omega));clear hS;intro v w hS;refine frS ?_);go_ret;refine⟨v,rfl,?_⟩;have h0:St W (row v 1 5 ((l9 l.length).length+l.length) (u8s (l9 l.length)++u8s l)::_) w:=hS;rw[<-Az7]at h0;unfold E6;exact(AJ7 (by rw[jA]) h0).s _
theorem OG7{vb N:Nat}{V:Vs}(hp:M6 V.ps)(hw:PsW V.ps N)(hN:N<=1000000)(hmay:∀x∈V.L,MayP x)(hl32:V.L.length<=32)(hn0:1<=V.n)(hn1:V.n<=1099511627777){W w:World}{R:List HP}(hS:St W (dvP vb V::R) w):
  Calls Tryz.prog 142 #[.P vb] w fun e w'=>∃v,e=.returned v/\St W (byR v (aV4 V.ps V.L V.n)::dvP vb V::R) w':=by
 obtain⟨xB,hS0⟩:=da4 hS;obtain⟨xv,hS1⟩:=ba4 hS0;obtain⟨la,lc,last,hlast,hS2⟩:=bA4 (hS1.s (xkP xB V.L V.n::blk vb _ _::hdR _ (hdL V.ps)::R));clear hS hS0 hS1;obtain⟨ha,hc,rfl⟩:=hS2.drop.drop.drop.rowVal;refine(NZ7 vb xB ha la hc lc last V.ps V.L V.n hp hw hN hmay hl32 hn0 hn1 W w R hS2).mono ?_;rintro e w' ⟨v,rfl,hS⟩;refine⟨v,rfl,?_⟩;have hS3:=aR4 hlast (hS.s (blk xB _ _::j7 _ V.L::blk vb _ _::hdR _ (hdL V.ps)::byR v _::R));exact(bB4 (av4 (hS3.s (blk vb _ _::hdR _ (hdL V.ps)::xkP xB V.L V.n::byR v _::R)))).swap
def fKv(x:ByteArray×(Nat×Vs)):List Int:=G9 x.1++E6 (aV4 x.2.2.ps x.2.2.L x.2.2.n)
def fSe(x:Int×(Int×Rpl)):List Int:=m5 [x.1,x.2.1]++E6 (rpB x.2.2)
def fAr(x:(Int×Int)×Unit):List Int:=m5 [x.1.1,x.1.2]
theorem EV7{α β:Type}{f g:α->List β}:∀{l:List α},(∀x∈l,f x=g x)->l.flatMap f=l.flatMap g
 | [],_=>rfl
 | x::l,h=>by rw[List.flatMap_cons,List.flatMap_cons,h x (List.mem_cons_self ..),EV7 fun y hy=>h y (List.mem_cons_of_mem _ hy)]
theorem OH7{d:Ec}{D:Ev}(hd:k8 D=d.vs)(hn:(d.vs.map (·.1)).Nodup):D.flatMap fKv=(d.vs.map (·.1)).flatMap (enK d):=by
 rw[<-hd,Bz7,List.flatMap_map];refine EV7 fun x hx=>?_
 have h1:(x.1,x.2.2)∈d.vs:=by rw[<-hd];exact List.mem_map.2 ⟨x,hx,rfl⟩
 have h2:atV d x.1=x.2.2:=by unfold atV;rw[Bf7 hn h1];rfl
 unfold fKv enK;rw[h2];unfold G9 E6;rw[AK7]
theorem Sf7{d:Ec}(hn:(d.ss.map (·.1)).Nodup):d.ss.flatMap fSe=(d.ss.map (·.1)).flatMap (enS d):=by
 rw[List.flatMap_map];refine EV7 fun x hx=>?_
 unfold fSe enS;rw[Bf7 (v:=x.2) hn hx];rfl
theorem Sg7(d:Ec):d.ar.flatMap fAr=(d.ar.map (·.1)).flatMap enA:=by rw[List.flatMap_map];rfl
end Go.Proofs.YtlmhakmoioogaaaGreat
end
