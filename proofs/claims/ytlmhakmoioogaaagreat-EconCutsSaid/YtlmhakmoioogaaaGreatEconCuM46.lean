/-
  The keys of what has arrived, sorted.
-/
import Derived.Test.YtlmhakmoioogaaaGreatEconCuM5
import Derived.Test.YtlmhakmoioogaaaGreatEconCuM30
import Derived.Test.YtlmhakmoioogaaaGreatEconCuM37
import Derived.Test.YtlmhakmoioogaaaGreatEconCuM45
set_option maxHeartbeats 16000000
set_option maxRecDepth 100000
set_option linter.unusedSimpArgs false
set_option linter.unusedVariables false
section
namespace Go.Proofs.YtlmhakmoioogaaaGreat
open Go.RowKit Go.Sl
theorem Qg7{ν:Type}{ev:ν->Value}{m lp g b:Nat}{l:List ((Int×Int)×ν)}{X:List (Int×Int)->HP}{W w:World}{L:List HP}(hY:dk4 Tryz.prog eWh l.length lp W X)(hS:St W (X []::blk g [.map (some b)] 82::d8 eWh ev b l::L) w):
  CallsIn Fence.wide m Tryz.prog 137 #[.func (.yield lp) #[] #[],.P g] w fun e w'=>(∃v,e=.returned v)/\∃ss,ss.Perm (l.map (·.1))/\St W (X ss::blk g [.map (some b)] 82::d8 eWh ev b l::L) w':=by
 refine callsIn_of_wp Tryz.func137 rfl trivial ?_ rfl;simp only[Tryz.ntmps137,List.size_toArray,jC,List.length_nil,Nat.reduceAdd,Nat.reduceSub,Array.replicate_succ,Array.replicate_zero,List.push_toArray,List.append_toArray,jN,jK]
 gi_wp2_with (first|((with_reducible apply DF7 cG4 hS);rfl;rfl;rfl;decide +kernel;exact M7;go_frame)|(gi_at_range;refine EQ7 (ek:=eWh) (ev:=ev) hS rfl rfl rfl (show D6 Tryz.prog 82=some (94,4)by kernel_rfl) (by exact i6) ?_;clear hS;intro r w hS;go_frame)|gi_in)
 gi_loopw [] (fun wr=>KyR W ev X r b l (blk g [.map (some b)] 82::L) wr) (fun wr=>aq4 r b wr)
 case atStart=>exact⟨[],l,by simp,hS⟩
 case round=>
  clear hS;obtain⟨ss,todo,hp,hS⟩:=hrel;have hm:=An7 hS
  gi_wp2_with (first|(gi_at_next;refine Gu7 (ek:=eWh) (ev:=ev) hS rfl rfl rfl ?_ ?_)|gi_in)
  ·intro h0;subst h0
   gi_wp2
   go_end0;exact⟨⟨_,rfl⟩,ss,by simpa using hp,(bh4 hS).s _⟩
  ·intro y1 y2 yv todo' w2 hp2 hy hS2 hen;have hlen:=hp.length_eq;have hlen2:=hp2.length_eq;simp only[jA,jM,jC]at hlen hlen2;have hp3:(ss++[(y1,y2)]++todo'.map (·.1)).Perm (l.map (·.1)):=by rw[jS];refine List.Perm.trans ?_ hp;exact List.Perm.append_left ss (show((((y1,y2),yv)::todo').map (fun x=>x.1)).Perm (todo.map (fun x=>x.1))from(hp2.map (fun x=>x.1)).symm)
   clear hS hy hp hp2;have hS:=hS2;clear hS2
   gi_wp2_with (first|((with_reducible apply Gw7 cG4 hS);rfl;rfl;exact zsS;clear hS;intro bK w hS;go_frame)|((with_reducible apply Kj7 cG4 hS);rfl;rfl;rfl;(focus((conv=>lhs;whnf);try rfl));kernel_rfl;rfl;exact cS4;simp only[jC,List.length_nil];omega;((simp only[List.set_cons_zero,List.set_cons_succ,A9]);rfl);clear hS;intro w hS;go_frame)|((with_reducible apply Ki7 cG4 hS);rfl;rfl;rfl;decide +kernel;kernel_rfl;exact n9;go_frame)|((with_reducible apply Gx7 (k:=(y1,y2)) (pre:=ss) hY hS);rfl;rfl;rfl;rfl;omega;exact i6;clear hS;intro w hS;go_frame)|gi_in)
   go_roundw
   case rel=>exact⟨ss++[(y1,y2)],todo',hp3,hS.s _⟩
   case measure=>
    have hm2:=An7 (hS.s (itR eWh ev r b l todo'::X (ss++[(y1,y2)])::blk g [.map (some b)] 82::L));omega
theorem ME7(mb:Option Nat)(W w:World)(L:List HP)(hS:St W L w):
  Calls Tryz.prog 71 #[.map mb] w fun e w'=>∃g,e=.returned (.func (.func 137) #[] #[.P g])/\St W (blk g [.map mb] 82::L) w':=by
 go_enter Tryz.func71,Tryz.ntmps71;go_wp2_with(refine zbx hS ?_;clear hS;intro b w hS);go_ret;exact⟨b,rfl,hS⟩
theorem Jo7:∀args w,(callFunc 137 args).run Tryz.prog w=.ok (.enter 137 args) w:=enters_of Tryz.func137 (by kernel_rfl) rfl
theorem Ku7{ν:Type}{ev:ν->Value}{g b:Nat}{l:List ((Int×Int)×ν)}{W:World}{R:List HP}:
  cd4 Tryz.prog eWh (l.map (·.1)).length 137 #[.P g] (fun ss=>ss.Perm (l.map (·.1))) W (blk g [.map (some b)] 82::d8 eWh ev b l::R):=
 fun lp m X w hT hS=>Qg7 (by rw[jM]at hT;exact hT) hS
theorem Qh7(wb:Nat)(d r:List Int)(a:Option Addr)(c b c2:Nat)(hd:d.length<=30000000)(hr:r.length<=5000000)(W w:World)(R:List HP)(hS:St W (wrR wb d::blk b [.slice a r.length c] 63::byR (.slice a r.length c) r::R) w):
  Calls Tryz.prog 66 #[.P wb,.S b 1 c2] w fun e w'=>e=.returned (.tuple #[])/\St W (wrR wb (d++E6 r)::blk b [.slice a r.length c] 63::byR (.slice a r.length c) r::R) w':=by
 have hsr:Src (byR (.slice a r.length c) r::R) (.slice a r.length c) r.length (u8s r):=St.src (by decide) hS.drop.drop
 have h:=Kd7 wb d [(a,c,r)] b 0 c2 hd (by simp) (fun x hx=>by rw[List.mem_singleton.1 hx];exact hr) W w (blk b [.slice a r.length c] 63::byR (.slice a r.length c) r::R) (fun i hi=>by
  obtain rfl:i=0:=by simp at hi;omega
  exact i8.here rfl) (fun x hx=>by rw[List.mem_singleton.1 hx];exact hsr.there) hS
 have e:aN4 [(a,c,r)]=E6 r:=by unfold aN4;simp
 rw[e]at h;exact h
theorem Qi7(wb:Nat)(d:List Int)(s:ByteArray)(g9 c9:Nat)(r:List Int)(a:Option Addr)(c b c2:Nat)(hd:d.length<=30000000)(hs:s.size<=100)(hr:r.length<=5000000)(W w:World)(R:List HP)(hS:St W (wrR wb d::blk b [.S g9 s.size c9,.slice a r.length c] 63::sbR g9 s::byR (.slice a r.length c) r::R) w):
  Calls Tryz.prog 66 #[.P wb,.S b 2 c2] w fun e w'=>e=.returned (.tuple #[])/\St W (wrR wb (d++(E6 (A8 s)++E6 r))::blk b [.S g9 s.size c9,.slice a r.length c] 63::sbR g9 s::byR (.slice a r.length c) r::R) w':=by
 have hsr:Src (byR (.slice a r.length c) r::R) (.slice a r.length c) r.length (u8s r):=St.src (by decide) hS.drop.drop.drop;have hss:∀L:List HP,Src (sbR g9 s::L) (rbV (some ⟨g9,0,none⟩,c9,A8 s)) (A8 s).length (u8s (A8 s)):=fun L=>Src.mk i5.sb
 have h:=Kd7 wb d [(some ⟨g9,0,none⟩,c9,A8 s),(a,c,r)] b 0 c2 hd (by simp) (fun x hx=>by
  rcases List.mem_cons.1 hx with rfl|hx
  ·show(A8 s).length<=_;rw[AK7];omega
  ·rw[List.mem_singleton.1 hx];exact hr) W w (blk b [.S g9 s.size c9,.slice a r.length c] 63::sbR g9 s::byR (.slice a r.length c) r::R) (fun i hi=>by
  have h2:i=0\/i=1:=by simp at hi;omega
  rcases h2 with rfl|rfl
  ·show i8 _ b 0 (.S g9 (A8 s).length c9)
   rw[AK7];exact i8.here rfl
  ·exact i8.here rfl) (fun x hx=>by
  rcases List.mem_cons.1 hx with rfl|hx
  ·exact(hss _).there
  ·rw[List.mem_singleton.1 hx];exact hsr.there.there) hS
 have e:aN4 [(some ⟨g9,0,none⟩,c9,A8 s),(a,c,r)]=E6 (A8 s)++E6 r:=by unfold aN4;simp
 rw[e]at h;exact h
abbrev sbV(g:Nat)(s:ByteArray)(c:Nat):Value:=.S g s.size c
theorem Qj7(wb:Nat)(d:List Int)(s1 s2 s3 s4:ByteArray)(g1 g2 g3 g4 c1 c2 c3 c4 b c:Nat)(hd:d.length<=30000000)(h1:s1.size<=100)(h2:s2.size<=100)(h3:s3.size<=100)(h4:s4.size<=100)(W w:World)(R:List HP)(hS:St W (wrR wb d::blk b [sbV g1 s1 c1,sbV g2 s2 c2,sbV g3 s3 c3,sbV g4 s4 c4] 63::sbR g1 s1::sbR g2 s2::sbR g3 s3::sbR g4 s4::R) w):
  Calls Tryz.prog 66 #[.P wb,.S b 4 c] w fun e w'=>e=.returned (.tuple #[])/\St W (wrR wb (d++(E6 (A8 s1)++(E6 (A8 s2)++(E6 (A8 s3)++E6 (A8 s4)))))::blk b [sbV g1 s1 c1,sbV g2 s2 c2,sbV g3 s3 c3,sbV g4 s4 c4] 63::sbR g1 s1::sbR g2 s2::sbR g3 s3::sbR g4 s4::R) w':=by
 have hss:∀(g c:Nat) (s:ByteArray) (L:List HP),Src (sbR g s::L) (rbV (some ⟨g,0,none⟩,c,A8 s)) (A8 s).length (u8s (A8 s)):=fun g c s L=>Src.mk i5.sb
 have h:=Kd7 wb d [(some ⟨g1,0,none⟩,c1,A8 s1),(some ⟨g2,0,none⟩,c2,A8 s2),(some ⟨g3,0,none⟩,c3,A8 s3),(some ⟨g4,0,none⟩,c4,A8 s4)] b 0 c hd (by simp) (fun x hx=>by
  simp only[List.mem_cons,List.not_mem_nil,or_false]at hx
  rcases hx with rfl|rfl|rfl|rfl
  all_goals
   dsimp only;rw[AK7];omega) W w (blk b [sbV g1 s1 c1,sbV g2 s2 c2,sbV g3 s3 c3,sbV g4 s4 c4] 63::sbR g1 s1::sbR g2 s2::sbR g3 s3::sbR g4 s4::R) (fun i hi=>by
  have h2:i=0\/i=1\/i=2\/i=3:=by simp at hi;omega
  rcases h2 with rfl|rfl|rfl|rfl
  ·show i8 _ b 0 (.S g1 (A8 s1).length c1)
   rw[AK7];exact i8.here rfl
  ·show i8 _ b 1 (.S g2 (A8 s2).length c2)
   rw[AK7];exact i8.here rfl
  ·show i8 _ b 2 (.S g3 (A8 s3).length c3)
   rw[AK7];exact i8.here rfl
  ·show i8 _ b 3 (.S g4 (A8 s4).length c4)
   rw[AK7];exact i8.here rfl) (fun x hx=>by
  simp only[List.mem_cons,List.not_mem_nil,or_false]at hx
  rcases hx with rfl|rfl|rfl|rfl
  ·exact(hss _ _ _ _).there
  ·exact(hss _ _ _ _).there.there
  ·exact(hss _ _ _ _).there.there.there
  ·exact(hss _ _ _ _).there.there.there.there) hS
 have e:aN4 [(some ⟨g1,0,none⟩,c1,A8 s1),(some ⟨g2,0,none⟩,c2,A8 s2),(some ⟨g3,0,none⟩,c3,A8 s3),(some ⟨g4,0,none⟩,c4,A8 s4)]=E6 (A8 s1)++(E6 (A8 s2)++(E6 (A8 s3)++E6 (A8 s4))):=by unfold aN4;simp
 rw[e]at h;exact h
def enS(e:Ec)(c:Int):List Int:=m5 [c,((i9 e.ss c).getD (0,rp0)).1]++E6 (rpB ((i9 e.ss c).getD (0,rp0)).2)
def enT(x:(Int×Int)×Tns):List Int:=m5 [x.2.client,x.2.seq]++(E6 (A8 x.2.ak)++(E6 (A8 x.2.aw)++(E6 (A8 x.2.tk)++E6 (A8 x.2.tw))))++m5 [x.2.item,x.2.cnt]
def enA(k:Int×Int):List Int:=m5 [k.1,k.2]
def cz4(e:Ec)(d:List Int):Prop:=∃(T:List ((Int×Int)×Tns)) (A:List (Int×Int)),T.Perm e.ts/\Asc ltW T/\A.Perm (e.ar.map (·.1))/\A.Pairwise (fun x y=>ltW x y=true) /\
 d=l9 e.vs.length++(ksE e).flatMap (enK e)++l9 e.ss.length++(aP4 (e.ss.map (·.1))).flatMap (enS e)++l9 e.ts.length++T.flatMap enT++l9 e.ar.length++A.flatMap enA
theorem Qk7{e:Ec}{d d':List Int}(h:cz4 e d)(h':cz4 e d'):d=d':=by
 obtain⟨T,A,h1,h2,h3,h4,rfl⟩:=h;obtain⟨T',A',h1',h2',h3',h4',rfl⟩:=h';rw[Oo7 Au7 h2 h2' (h1.trans h1'.symm)]
 have:A=A':=List.Perm.eq_of_pairwise (fun a b _ _ g1 g2=>by
  have:=Au7.tr _ _ _ g1 g2;rw[Au7.irr]at this
  cases this) h4 h4' (h3.trans h3'.symm)
 rw[this]
theorem Fg7{α:Type}(f:α->List Int)(c:Nat)(xs:List α)(h:∀x∈xs,(f x).length<=c):(xs.flatMap f).length<=c*xs.length:=by
 induction xs with
 | nil=>simp
 | cons x xs ih=>
  have h1:=h x (List.mem_cons_self ..);have h2:=ih fun y hy=>h y (List.mem_cons_of_mem _ hy)
  rw[List.flatMap_cons,jA,jC,Nat.mul_succ];omega
theorem SX7(e:Ec)(c:Int):(enS e c).length<=100:=by have h1:=AL7 [c,((i9 e.ss c).getD (0,rp0)).1];have h2:=AY7 (rpB ((i9 e.ss c).getD (0,rp0)).2);have h3:=Gr7 ((i9 e.ss c).getD (0,rp0)).2;unfold enS;rw[jA];simp only[jC,List.length_nil]at h1;omega
theorem OF7{x:(Int×Int)×Tns}(h:TnOk x.2):(enT x).length<=200:=by have h1:=AL7 [x.2.client,x.2.seq];have h2:=AL7 [x.2.item,x.2.cnt];have e1:=AY7 (A8 x.2.ak);have e2:=AY7 (A8 x.2.aw);have e3:=AY7 (A8 x.2.tk);have e4:=AY7 (A8 x.2.tw);rw[AK7]at e1 e2 e3 e4;have:=h.ak;have:=h.aw;have:=h.tk;have:=h.tw;unfold enT;simp only[jA];simp only[jC,List.length_nil]at h1 h2;omega
theorem SY7(k:Int×Int):(enA k).length<=18:=by have h1:=AL7 [k.1,k.2];simp only[jC,List.length_nil]at h1;exact h1
abbrev zrR(v:Value)(l:List Int):HP:=row v 1 3 l.length (l.map eZ)
abbrev waR(v:Value)(l:List (Int×Int)):HP:=row v 2 94 l.length (l.flatMap whC)
theorem Kv7{eb:Nat}{e:Ec}{n:Nat}(hE:EnL e n)(hn:n<=600)(W w:World)(R:List HP)(hS:St W (ecP eb e::R) w):
  Calls Tryz.prog 27 #[.P eb] w fun x w'=>∃v d,x=.returned v/\cz4 e d/\St W (byR v d::ecP eb e::R) w':=by
 have hEach:=EU7 hS;have hkl:=Sd7 hE hEach hn;have hlv:=hE.en.lv;have hls:=hE.en.ls;have hlt:=hE.en.lt;have hla:=hE.en.la;obtain⟨m1,m2,m3,m4,E,hp,hnd,hS0⟩:=N9 hS;have hS1:=B9 hS0;clear hS hS0;have hS:=hS1;clear hS1;have hEl:(i7 E).length=e.vs.length:=by have h1:=hp.length_eq;unfold k8 at h1;unfold i7;rw[jM]at h1 ⊢;exact h1
 have HEl:=jH hEl;have HE:=jH hE;have HEach:=jH hEach;have Hp:=jH hp;have hpl:(i7 E).length<=600:=by omega
 have hb0:=Ao7 ((i7 E).length:Int);clear hEl hE hEach hp hnd;go_enter Tryz.func27,Tryz.ntmps27;go_wp2_with(first|refine zal hS ?_;clear hS;intro wb w hS|refine zl1 hS ?_|(with_reducible apply Hs7 (ek:=eS) (ev:=eN) hS);rfl;rfl;rfl;exact mV;exact i6;refine frS ?_|refine zbs hS ?_;clear hS;intro bS w hS|go_at_call 65;refine(bn4 wb [] ((i7 E).length:Int) bS 1 (by simp) ⟨by omega,by omega⟩ W _ _ (ex4 (hS.s (blk wb _ _::blk bS _ _::ebB eb m1 m2 m3 m4::d8 eS eN m1 (i7 E)::j8 E::d8 eI eSs m2 e.ss::d8 eW eTn m3 e.ts::d8 eW eU m4 e.ar::R)))).mono ?_;clear hS;rw[jN];rintro x w ⟨rfl,hS⟩);have hS9:=K9 Hp.out (hS.s (ebB eb m1 m2 m3 m4::d8 eS eN m1 (i7 E)::j8 E::d8 eI eSs m2 e.ss::d8 eW eTn m3 e.ts::d8 eW eU m4 e.ar::wrR wb _::R));rw[HEl.out]at hS9;clear hS;refine(Jj7 (fun x hx=>by have:=HE.out.en.vk x hx;unfold maxLen;omega) (by omega) W _ _ hS9).mono ?_;clear hS9 HEl Hp hpl hb0;rintro x w ⟨v,rfl,hS8⟩;obtain⟨sa,sc,rfl⟩:=hS8.rowVal;obtain⟨m1,m2,m3,m4,E,hp,hnd,hS7⟩:=N9 hS8.swap;have hS6:=B9 hS7;clear hS8 hS7;have hS:=hS6.s (wrR wb _::bo4 (.slice sa (ksE e).length sc) (ksE e)::ebB eb m1 m2 m3 m4::d8 eS eN m1 (i7 E)::j8 E::d8 eI eSs m2 e.ss::d8 eW eTn m3 e.ts::d8 eW eU m4 e.ar::R);clear hS6
 have hkv:∀k∈ksE e, ∃vb V,i9 (i7 E) k=some vb/\E.Perm ((k,(vb,V))::j6 E k)/\atV e k=V/\VOk V.ps V.n n/\k.size<=16/\(∀o∈V.L,MayP o)/\V.L.length<=32:=by
  intro k hk;obtain⟨x,hx,rfl⟩:=List.mem_map.1 ((Ax7 _).mem_iff.1 hk);obtain⟨y,hy,rfl⟩:=List.mem_map.1 (hp.mem_iff.2 hx);have h4:i9 E y.1=some y.2:=Bf7 hnd hy;refine⟨y.2.1,y.2.2,?_,Bt7 hnd h4,?_,HE.out.en.ok _ hx,HE.out.en.vk _ hx,(HEach.out _ hx).1,(HEach.out _ hx).2⟩
  ·rw[BP7,h4];rfl
  ·rw[HL7 hnd hp];unfold vAt;rw[h4];rfl
 have hkn:(ksE e).length<=600:=by rw[HR7];omega
 generalize hkse:ksE e=ks at *;have Hks:=jH hkse;clear hkse;have Hkv:=jH hkv;have Hp:=jH hp;clear hkv hp hnd;have hb0:=Ao7 (e.vs.length:Int);obtain⟨b0,hb0e⟩:∃d,l9 (e.vs.length:Int)=d:=⟨_,rfl⟩
 rw[hb0e]at hS hb0;have Hb0:=jH hb0e;clear hb0e;go_wp2_with(fail)
 go_loopw [27] (fun v wr=>CwR W (bo4 (.slice sa ks.length sc) ks::ebB eb m1 m2 m3 m4::d8 eS eN m1 (i7 E)::j8 E::d8 eI eSs m2 e.ss::d8 eW eTn m3 e.ts::d8 eW eU m4 e.ar::R) wb (enK e) b0 ks v wr) (fun v _=>ks.length-(intOf v).toNat)
 case atStart=>exact⟨0,rfl,Nat.zero_le _,by simpa using hS⟩
 case round=>
  clear hS;obtain⟨k,rfl,hkk,hS⟩:=hrel;by_cases hend:k=ks.length
  ·rw[hend,List.take_length]at hS;have hd1:decide (k<ks.length)=false:=by simp;omega
   clear hkk hend;have hb1:(b0++ks.flatMap (enK e)).length<=6000010:=by rw[jA];omega
   obtain⟨b1,hb1e⟩:∃d,b0++ks.flatMap (enK e)=d:=⟨_,rfl⟩
   rw[hb1e]at hS hb1;have Hb1:=jH hb1e;clear hb1e Hkv hkl hkn;go_wp2_with(first|refine zl1 hS ?_|(with_reducible apply Hs7 (ek:=eI) (ev:=eSs) hS);rfl;rfl;rfl;exact mS;exact i6;refine frS ?_|refine zbs hS ?_;clear hS;intro bS w hS|go_at_call 65;(have hS2:St W (blk bS [.I (e.ss.length:Int)] 3::_) _:=hS);refine(bn4 wb b1 (e.ss.length:Int) bS 1 (by omega) ⟨by omega,by omega⟩ W _ _ (hS2.s (wrR wb b1::blk bS _ _::ebB eb m1 m2 m3 m4::d8 eS eN m1 (i7 E)::j8 E::d8 eI eSs m2 e.ss::d8 eW eTn m3 e.ts::d8 eW eU m4 e.ar::R))).mono ?_;clear hS hS2;rintro x w ⟨rfl,hS⟩|go_at_call 69;refine(MD7 (some m2) W _ _ hS).mono ?_;clear hS;rintro x w ⟨g2,rfl,hS⟩|go_at_call 68;refine(fb4 (K:=e.ss.map (·.1)) (by rw[jM];omega) Ks7 Jl7 (hS.s (blk g2 [.map (some m2)] 80::d8 eI eSs m2 e.ss::wrR wb _::ebB eb m1 m2 m3 m4::d8 eS eN m1 (i7 E)::j8 E::d8 eW eTn m3 e.ts::d8 eW eU m4 e.ar::R))).mono ?_;clear hS;rintro x w ⟨v2,rfl,hS⟩;rw[<-FE7 (e.ss.map (·.1))]at hS;(have hv:=hS.rowVal;obtain⟨sa2,sc2,rfl⟩:=hv));have hns:=A5 (hS.s (d8 eI eSs m2 e.ss::R));have hcs:∀c∈aP4 (e.ss.map (·.1)), ∃q r,i9 e.ss c=some (q,r)/\dI4 (c,q)/\RpOk r:=by intro c hc;obtain⟨x,hx,rfl⟩:=List.mem_map.1 ((De7 _).mem_iff.1 hc);exact⟨x.2.1,x.2.2,Bf7 hns hx,HE.out.en.sw x hx,HE.out.en.sr x hx⟩
   have hcl:(aP4 (e.ss.map (·.1))).length<=600:=by rw[FE7,jM];omega
   have hSz:=hS.s (wrR wb _::zrR (.slice sa2 (aP4 (e.ss.map (·.1))).length sc2) (aP4 (e.ss.map (·.1)))::ebB eb m1 m2 m3 m4::d8 eS eN m1 (i7 E)::j8 E::d8 eI eSs m2 e.ss::d8 eW eTn m3 e.ts::d8 eW eU m4 e.ar::R);clear hS;have hS:=hSz;clear hSz hns;generalize hcse:aP4 (e.ss.map (·.1))=cs at *;have Hcse:=jH hcse;have Hcs:=jH hcs;have hb2:=Ao7 (e.ss.length:Int);obtain⟨b2,hb2e⟩:∃d,b1++l9 (e.ss.length:Int)=d:=⟨_,rfl⟩
   have hb2l:b2.length<=6000020:=by rw[<-hb2e,jA];omega
   rw[hb2e]at hS;have Hb2:=jH hb2e;have hsl:=Fg7 (enS e) 100 cs fun c _=>SX7 e c
   clear hcse hcs hb2 hb2e;go_wp2_with(fail)
   go_loopw [57] (fun v wr=>CwR W (zrR (.slice sa2 cs.length sc2) cs::ebB eb m1 m2 m3 m4::d8 eS eN m1 (i7 E)::j8 E::d8 eI eSs m2 e.ss::d8 eW eTn m3 e.ts::d8 eW eU m4 e.ar::R) wb (enS e) b2 cs v wr) (fun v _=>cs.length-(intOf v).toNat)
   case atStart=>exact⟨0,rfl,Nat.zero_le _,by simpa using hS⟩
   case round=>
    clear hS;obtain⟨k,rfl,hkk,hS⟩:=hrel;by_cases hend:k=cs.length
    ·rw[hend,List.take_length]at hS;have hd1:decide (k<cs.length)=false:=by simp;omega
     clear hkk hend;have hb3:(b2++cs.flatMap (enS e)).length<=6100000:=by rw[jA];omega
     obtain⟨b3,hb3e⟩:∃d,b2++cs.flatMap (enS e)=d:=⟨_,rfl⟩
     rw[hb3e]at hS hb3;have Hb3:=jH hb3e;clear hb3e Hcs hsl;go_wp2_with(first|refine zl1 hS ?_|(with_reducible apply Hs7 (ek:=eW) (ev:=eTn) hS);rfl;rfl;rfl;exact mT;exact i6;refine frS ?_|refine zbs hS ?_;clear hS;intro bS w hS|go_at_call 65;(have hS2:St W (blk bS [.I (e.ts.length:Int)] 3::_) _:=hS);refine(bn4 wb b3 (e.ts.length:Int) bS 1 (by omega) ⟨by omega,by omega⟩ W _ _ (hS2.s (wrR wb b3::blk bS _ _::ebB eb m1 m2 m3 m4::d8 eS eN m1 (i7 E)::j8 E::d8 eI eSs m2 e.ss::d8 eW eTn m3 e.ts::d8 eW eU m4 e.ar::R))).mono ?_;clear hS hS2;rintro x w ⟨rfl,hS⟩);have hb4:=Ao7 (e.ts.length:Int);obtain⟨b4,hb4e⟩:∃d,b3++l9 (e.ts.length:Int)=d:=⟨_,rfl⟩
     have hb4l:b4.length<=6100010:=by rw[<-hb4e,jA];omega
     rw[hb4e]at hS;have Hb4:=jH hb4e;clear hb4 hb4e;have hS9:=K9 Hp.out (hS.s (ebB eb m1 m2 m3 m4::d8 eS eN m1 (i7 E)::j8 E::d8 eI eSs m2 e.ss::d8 eW eTn m3 e.ts::d8 eW eU m4 e.ar::wrR wb b4::R));clear hS;refine(Eo7 (by omega) W _ _ hS9).mono ?_;clear hS9 Hp;rintro x w ⟨v,T,rfl,hT1,hT2,hS8⟩;obtain⟨sa,sc,rfl⟩:=hS8.rowVal;obtain⟨m1,m2,m3,m4,E,hp,hnd,hS7⟩:=N9 hS8.swap;have hS6:=B9 hS7;clear hS8 hS7;have hS:=hS6.s (wrR wb b4::xtP (.slice sa T.length sc) T::ebB eb m1 m2 m3 m4::d8 eS eN m1 (i7 E)::j8 E::d8 eI eSs m2 e.ss::d8 eW eTn m3 e.ts::d8 eW eU m4 e.ar::R);clear hS6 hnd;have Hp:=jH hp;have hTl:T.length<=600:=by rw[hT1.length_eq];omega
     have htk:∀x∈T,TnOk x.2:=fun x hx=>(HE.out.en.tw x (hT1.mem_iff.1 hx)).1
     have hsl:=Fg7 enT 200 T fun x hx=>OF7 (htk x hx)
     have HT1:=jH hT1;have HT2:=jH hT2;have Htk:=jH htk;clear hp hT1 hT2 htk;go_wp2_with(fail)
     go_loopw [92] (fun v wr=>CwR W (xtP (.slice sa T.length sc) T::ebB eb m1 m2 m3 m4::d8 eS eN m1 (i7 E)::j8 E::d8 eI eSs m2 e.ss::d8 eW eTn m3 e.ts::d8 eW eU m4 e.ar::R) wb enT b4 T v wr) (fun v _=>T.length-(intOf v).toNat)
     case atStart=>exact⟨0,rfl,Nat.zero_le _,by simpa using hS⟩
     case round=>
      clear hS;obtain⟨k,rfl,hkk,hS⟩:=hrel;by_cases hend:k=T.length
      ·rw[hend,List.take_length]at hS;have hd1:decide (k<T.length)=false:=by simp;omega
       clear hkk hend;have hb5:(b4++T.flatMap enT).length<=6300000:=by rw[jA];omega
       obtain⟨b5,hb5e⟩:∃d,b4++T.flatMap enT=d:=⟨_,rfl⟩
       rw[hb5e]at hS hb5;have Hb5:=jH hb5e;clear hb5e Htk hsl;have hna:=A5 (hS.s (d8 eW eU m4 e.ar::R));have Hna:=jH hna;clear hna;go_wp2_with(first|refine zl1 hS ?_|(with_reducible apply Hs7 (ek:=eW) (ev:=eU) hS);rfl;rfl;rfl;exact mAr;exact i6;refine frS ?_|refine zbs hS ?_;clear hS;intro bS w hS|go_at_call 65;(have hS2:St W (blk bS [.I (e.ar.length:Int)] 3::_) _:=hS);refine(bn4 wb b5 (e.ar.length:Int) bS 1 (by omega) ⟨by omega,by omega⟩ W _ _ (hS2.s (wrR wb b5::blk bS _ _::ebB eb m1 m2 m3 m4::d8 eS eN m1 (i7 E)::j8 E::d8 eI eSs m2 e.ss::d8 eW eTn m3 e.ts::d8 eW eU m4 e.ar::R))).mono ?_;clear hS hS2;rintro x w ⟨rfl,hS⟩|go_at_call 71;refine(ME7 (some m4) W _ _ hS).mono ?_;clear hS;rintro x w ⟨g2,rfl,hS⟩|go_at_call 44;refine(dW4 (K:=e.ar.map (·.1)) Hna.out (by rw[jM];omega) Ku7 Jo7 (hS.s (blk g2 [.map (some m4)] 82::d8 eW eU m4 e.ar::wrR wb _::ebB eb m1 m2 m3 m4::d8 eS eN m1 (i7 E)::j8 E::d8 eI eSs m2 e.ss::d8 eW eTn m3 e.ts::R))).mono ?_;clear hS;rintro x w ⟨v2,A,rfl,hA1,hA2,hS⟩;(have hv:=hS.rowVal;obtain⟨sa2,sc2,rfl⟩:=hv);have HA1:=jH hA1;have HA2:=jH hA2;have hAl2:A.length<=600:=(by(have h9:=hA1.length_eq;rw[jM]at h9;omega));clear hA1 hA2);have hS8:=hS.s (wrR wb _::waR (.slice sa2 A.length sc2) A::ebB eb m1 m2 m3 m4::d8 eS eN m1 (i7 E)::j8 E::d8 eI eSs m2 e.ss::d8 eW eTn m3 e.ts::d8 eW eU m4 e.ar::R);clear hS;have hS:=hS8;clear hS8;have hb6:=Ao7 (e.ar.length:Int);obtain⟨b6,hb6e⟩:∃d,b5++l9 (e.ar.length:Int)=d:=⟨_,rfl⟩
       have hb6l:b6.length<=6300010:=by rw[<-hb6e,jA];omega
       have hb6p:0<b6.length:=by rw[<-hb6e,jA];have:=Fz7 (e.ar.length:Int);omega
       rw[hb6e]at hS;have Hb6:=jH hb6e;have haw:∀x∈A,dI4 x:=fun x hx=>by obtain⟨y,hy,rfl⟩:=List.mem_map.1 (HA1.out.mem_iff.1 hx);exact HE.out.en.aw y hy
       have Haw:=jH haw;have hsl:=Fg7 enA 18 A fun x _=>SY7 x
       clear hb6 hb6e haw;go_wp2_with(fail)
       go_loopw [141] (fun v wr=>CwR W (waR (.slice sa2 A.length sc2) A::ebB eb m1 m2 m3 m4::d8 eS eN m1 (i7 E)::j8 E::d8 eI eSs m2 e.ss::d8 eW eTn m3 e.ts::d8 eW eU m4 e.ar::R) wb enA b6 A v wr) (fun v _=>A.length-(intOf v).toNat)
       case atStart=>exact⟨0,rfl,Nat.zero_le _,by simpa using hS⟩
       case round=>
        clear hS;obtain⟨k,rfl,hkk,hS⟩:=hrel;by_cases hend:k=A.length
        ·rw[hend,List.take_length]at hS;have hd1:decide (k<A.length)=false:=by simp;omega
         clear hkk hend;obtain⟨b7,hb7e⟩:∃d,b6++A.flatMap enA=d:=⟨_,rfl⟩
         have hb7l:b7.length<=6400000:=by rw[<-hb7e,jA];omega
         have hb7p:0<b7.length:=by rw[<-hb7e,jA];omega
         rw[hb7e]at hS;have henc:cz4 e b7:=⟨T,A,HT1.out,HT2.out,HA1.out,HA2.out,by rw[<-hb7e,<-Hb6.out,<-Hb5.out,<-Hb4.out,<-Hb3.out,<-Hb2.out,<-Hb1.out,<-Hb0.out,Hcse.out,Hks.out]⟩
         have Henc:=jH henc;clear henc hb7e;go_wp2_with(first|go_at_call 72;refine(ew4 wb b7 (by omega) hb7p W _ _ hS).mono ?_;clear hS;rintro x w ⟨vo,rfl,hS⟩);go_ret;have h9:=K9 Hp.out (hS.s (ebB eb m1 m2 m3 m4::d8 eS eN m1 (i7 E)::j8 E::d8 eI eSs m2 e.ss::d8 eW eTn m3 e.ts::d8 eW eU m4 e.ar::byR vo b7::R));exact⟨vo,b7,rfl,Henc.out,h9.swap⟩
        ·have hk1:k<A.length:=by omega
         have hd1:decide (k<A.length)=true:=by simp;omega
         obtain⟨⟨g,rfl⟩,_,_⟩:=St.rowAddr hS.drop (by omega);have hst:=Bc7 enA b6 A hk1;have htl:=Ev7 enA A k;have hc:∀{K K':List HP},Take K (waR (.S g A.length sc2) A) K'->i5 K g (k*2) (whC A[k]):=fun hu=>i5.elemM (enc:=whC) Cu7 hu hk1
         have hwh:=Haw.out _ (jW hk1);generalize A[k]=x at hst hc hwh;obtain⟨x1,x2⟩:=x;simp only[whC]at hc;rw[show enA (x1,x2)=m5 [x1,x2]from rfl]at hst;obtain⟨⟨w0,w1⟩,w2,w3⟩:=hwh;simp only at w0 w1 w2 w3;obtain⟨d,hd⟩:∃d,b6++(A.take k).flatMap enA=d:=⟨_,rfl⟩
         have hdl:d.length<=6400000:=by rw[<-hd,jA];omega
         rw[hd]at hS hst;have Hst:=jH hst;clear hst hd htl Haw hend hkk hsl;go_wp2_with(first|refine zlN hS ?_ (hc:=by exact hc (by exact i6))|refine zl1 hS ?_|refine zal hS ?_;clear hS;intro bA w hS|refine zsN hS ?_;clear hS;intro w hS|refine zbs hS ?_;clear hS;intro bS w hS|go_at_call 65;(have hS2:St W (blk bS [.I x1,.I x2] 3::_) _:=hS);refine(cZ4 wb d x1 x2 bS 2 (by first|omega|(rw[jA];omega)) ⟨by omega,by omega⟩ ⟨by omega,by omega⟩ W _ _ (hS2.s (wrR wb d::blk bS _ _::waR _ A::ebB eb m1 m2 m3 m4::d8 eS eN m1 (i7 E)::j8 E::d8 eI eSs m2 e.ss::d8 eW eTn m3 e.ts::d8 eW eU m4 e.ar::R))).mono ?_;clear hS hS2;rintro x w ⟨rfl,hS⟩);go_roundw
         case rel=>exact⟨k+1,rfl,hk1,by rw[Hst.out];exact hS.s _⟩
         case measure=>simp[intOf];omega
      ·have hk1:k<T.length:=by omega
       have hd1:decide (k<T.length)=true:=by simp;omega
       obtain⟨⟨g,rfl⟩,_,_⟩:=St.rowAddr hS.drop (by omega);have hst:=Bc7 enT b4 T hk1;have htl:=Ev7 enT T k;have hc:∀{K K':List HP},Take K (xtP (.S g T.length sc) T) K'->i5 K g (k*8) (tnC T[k]):=fun hu=>i5.elemM (enc:=tnC) AH7 hu hk1
       have hok:=Htk.out _ (jW hk1);generalize T[k]=x at hst hc hok;obtain⟨⟨y1,y2⟩,⟨t0,t1,t2,t3,t4,t5,t6,t7⟩⟩:=x;simp only[tnC,Tns.cells]at hc;have q1:=hok.w.1.1;have q2:=hok.w.1.2;have q3:=hok.w.2.1;have q4:=hok.w.2.2;have z1:=hok.ak;have z2:=hok.aw;have z3:=hok.tk;have z4:=hok.tw;have i0:=hok.i0;have i1:=hok.i1;have c0:=hok.c0;have c1:=hok.c1;simp only at q1 q2 q3 q4 z1 z2 z3 z4 i0 i1 c0 c1;have hen:enT ((y1,y2),⟨t0,t1,t2,t3,t4,t5,t6,t7⟩)=m5 [t0,t1]++(E6 (A8 t2)++(E6 (A8 t3)++(E6 (A8 t4)++E6 (A8 t5))))++m5 [t6,t7]:=rfl;rw[hen]at hst;have hnl:=AL7 [t0,t1];simp only[jC,List.length_nil]at hnl;obtain⟨d,hd⟩:∃d,b4++(T.take k).flatMap enT=d:=⟨_,rfl⟩
       have hdl:d.length<=6300000:=by rw[<-hd,jA];omega
       rw[hd]at hS hst;obtain⟨d5,hd5⟩:∃d5,d++m5 [t0,t1]++(E6 (A8 t2)++(E6 (A8 t3)++(E6 (A8 t4)++E6 (A8 t5))))=d5:=⟨_,rfl⟩
       have hd5l:d5.length<=6400000:=by have e1:=AY7 (A8 t2);have e2:=AY7 (A8 t3);have e3:=AY7 (A8 t4);have e4:=AY7 (A8 t5);rw[AK7]at e1 e2 e3 e4;rw[<-hd5];simp only[jA];omega
       have hst2:d5++m5 [t6,t7]=b4++(T.take (k+1)).flatMap enT:=by rw[hst,<-hd5];simp only[jS]
       have Hst:=jH hst2;have Hd5:=jH hd5;clear hst hst2 hd5 hok hen hd htl Htk hend hkk hsl
       go_wp2_with(first|refine zlN hS ?_ (hc:=by exact hc (by exact i6))|refine zl1 hS ?_|refine zal hS ?_;clear hS;intro bA w hS|refine zsN hS ?_;clear hS;intro w hS|(fail_if_success (have:=f1));(with_reducible apply Ay7 hS);rfl;rfl;rfl;exact Tryz.underlying9;exact Tryz.underlying63;exact Tryz.underlying5;clear hS;intro g1 k1 w hS;have f1:Nat:=0;refine frS ?_|(have:=f1);(fail_if_success (have:=f2));(with_reducible apply Ay7 hS);rfl;rfl;rfl;exact Tryz.underlying9;exact Tryz.underlying63;exact Tryz.underlying5;clear hS;intro g2 k2 w hS;have f2:Nat:=0;refine frS ?_|(have:=f2);(fail_if_success (have:=f3));(with_reducible apply Ay7 hS);rfl;rfl;rfl;exact Tryz.underlying9;exact Tryz.underlying63;exact Tryz.underlying5;clear hS;intro g3 k3 w hS;have f3:Nat:=0;refine frS ?_|(have:=f3);(with_reducible apply Ay7 hS);rfl;rfl;rfl;exact Tryz.underlying9;exact Tryz.underlying63;exact Tryz.underlying5;clear hS;intro g4 k4 w hS;refine frS ?_|refine zbs hS ?_;clear hS;intro bS w hS|(fail_if_success (have:=mB));go_at_call 65;(have hS2:St W (blk bS [.I t0,.I t1] 3::_) _:=hS);refine(cZ4 wb d t0 t1 bS 2 (by first|omega|(rw[jA];omega)) ⟨by omega,by omega⟩ ⟨by omega,by omega⟩ W _ _ (hS2.s (wrR wb d::blk bS _ _::blk bA _ _::xtP _ T::ebB eb m1 m2 m3 m4::d8 eS eN m1 (i7 E)::j8 E::d8 eI eSs m2 e.ss::d8 eW eTn m3 e.ts::d8 eW eU m4 e.ar::R))).mono ?_;clear hS hS2;rintro x w ⟨rfl,hS⟩|(have:=mB);go_at_call 65;(have hS2:St W (blk bS [.I t6,.I t7] 3::_) _:=hS);refine(cZ4 wb d5 t6 t7 bS 2 (by first|omega|(rw[jA];omega)) ⟨by omega,by omega⟩ ⟨by omega,by omega⟩ W _ _ (hS2.s (wrR wb d5::blk bS _ _::blk bA _ _::xtP _ T::ebB eb m1 m2 m3 m4::d8 eS eN m1 (i7 E)::j8 E::d8 eI eSs m2 e.ss::d8 eW eTn m3 e.ts::d8 eW eU m4 e.ar::R))).mono ?_;clear hS hS2;rintro x w ⟨rfl,hS⟩|(go_at_call 66;(have hS2:St W (blk bS [sbV g1 t2 k1,sbV g2 t3 k2,sbV g3 t4 k3,sbV g4 t5 k4] 63::_) _:=hS);refine(Qj7 wb (d++m5 [t0,t1]) t2 t3 t4 t5 g1 g2 g3 g4 k1 k2 k3 k4 bS 4 (by rw[jA];omega) (by omega) (by omega) (by omega) (by omega) W _ _ (hS2.s (wrR wb _::blk bS _ _::sbR g1 t2::sbR g2 t3::sbR g3 t4::sbR g4 t5::blk bA _ _::xtP _ T::ebB eb m1 m2 m3 m4::d8 eS eN m1 (i7 E)::j8 E::d8 eI eSs m2 e.ss::d8 eW eTn m3 e.ts::d8 eW eU m4 e.ar::R))).mono ?_;clear hS hS2;rintro x w ⟨rfl,hS⟩;have mB:Nat:=0);rw[Hd5.out]at hS)
       go_roundw
       case rel=>exact⟨k+1,rfl,hk1,by rw[<-Hst.out];exact hS.s _⟩
       case measure=>simp[intOf];omega
    ·have hk1:k<cs.length:=by omega
     have hd1:decide (k<cs.length)=true:=by simp;omega
     obtain⟨⟨g,rfl⟩,_,_⟩:=St.rowAddr hS.drop (by omega);have hst:=Bc7 (enS e) b2 cs hk1;have htl:=Ev7 (enS e) cs k;have hget:(cs.map eZ)[k]? = some (.I cs[k]):=by rw[List.getElem?_map,jG hk1];rfl
     obtain⟨q,r,hgl,hwh,hro⟩:=Hcs.out _ (jW hk1);generalize cs[k]=c1 at hst hget hgl hwh;have hc:∀{K K':List HP},Take K (zrR (.S g cs.length sc2) cs) K'->i8 K g k (.I c1):=fun hu=>i8.rowM hu hget
     obtain⟨⟨w0,w1⟩,w2,w3⟩:=hwh;simp only at w0 w1 w2 w3;have hens:enS e c1=m5 [c1,q]++E6 (rpB r):=by unfold enS;rw[hgl];rfl
     rw[hens]at hst;obtain⟨r0,r1,⟨r2,r3,r4,r5⟩⟩:=r;have hrl:=Gr7 ⟨r0,r1,⟨r2,r3,r4,r5⟩⟩;have hnl:=AL7 [c1,q];simp only[jC,List.length_nil]at hnl;obtain⟨d,hd⟩:∃d,b2++(cs.take k).flatMap (enS e)=d:=⟨_,rfl⟩
     have hdl:d.length<=6100000:=by rw[<-hd,jA];omega
     rw[hd]at hS hst;have Hst:=jH hst;have Hr:=jH hro;clear hst hget hro hens hd htl Hcs hend hkk hsl;go_wp2_with(first|refine zl1 hS ?_ (hc:=by exact hc (by exact i6))|refine zl1 hS ?_|(with_reducible apply BW7 (ek:=eI) (ev:=eSs) (k:=c1) hS);rfl;rfl;rfl;rfl;exact i6;exact mS;exact kEi;exact zS;exact hgl;refine frS ?_|refine zal hS ?_;clear hS;intro bA w hS|refine zsN hS ?_;clear hS;intro w hS|refine zlN hS ?_ (vs:=[.I r0,.I r1,.I r2,.I r3,.I r4,.I r5]) (hc:=by exact i5.here rfl)|go_at_call 70;refine(Kg7 Hr.out W _ _ hS).mono ?_;clear hS;rintro x w ⟨rv,rfl,hS⟩;(have hv:=hS.rowVal;obtain⟨ra,rc,rfl⟩:=hv)|refine zbs hS ?_;clear hS;intro bS w hS|go_at_call 65;(have hS2:St W (blk bS [.I c1,.I q] 3::_) _:=hS);refine(cZ4 wb d c1 q bS 2 (by first|omega|(rw[jA];omega)) ⟨by omega,by omega⟩ ⟨by omega,by omega⟩ W _ _ (hS2.s (wrR wb d::blk bS _ _::byR _ _::zrR _ cs::ebB eb m1 m2 m3 m4::d8 eS eN m1 (i7 E)::j8 E::d8 eI eSs m2 e.ss::d8 eW eTn m3 e.ts::d8 eW eU m4 e.ar::R))).mono ?_;clear hS hS2;rintro x w ⟨rfl,hS⟩|go_at_call 66;(have hS2:St W (blk bS [.slice ra (rpB ⟨r0,r1,⟨r2,r3,r4,r5⟩⟩).length rc] 63::_) _:=hS);refine(Qh7 wb (d++m5 [c1,q]) (rpB ⟨r0,r1,⟨r2,r3,r4,r5⟩⟩) ra rc bS 1 (by rw[jA];omega) (by omega) W _ _ (hS2.s (wrR wb _::blk bS _ _::byR _ _::zrR _ cs::ebB eb m1 m2 m3 m4::d8 eS eN m1 (i7 E)::j8 E::d8 eI eSs m2 e.ss::d8 eW eTn m3 e.ts::d8 eW eU m4 e.ar::R))).mono ?_;clear hS hS2;rintro x w ⟨rfl,hS⟩);go_roundw
     case rel=>exact⟨k+1,rfl,hk1,by rw[Hst.out,<-jS];exact hS.s _⟩
     case measure=>simp[intOf];omega
  ·have hk1:k<ks.length:=by omega
   have hd1:decide (k<ks.length)=true:=by simp;omega
   obtain⟨⟨g,rfl⟩,_,_⟩:=St.rowAddr hS.drop (by omega);have hst:=Bc7 (enK e) b0 ks hk1;have htl:=Ev7 (enK e) ks k;have hget:(ks.map eS)[k]? = some (.string ks[k]):=by rw[List.getElem?_map,jG hk1];rfl
   obtain⟨vb,V,hgl,hpp,hat,hok,hsz,hmy,hl32⟩:=Hkv.out _ (jW hk1);generalize ks[k]=k1 at hst hget hgl hpp hat hsz;have hc:∀{K K':List HP},Take K (bo4 (.S g ks.length sc) ks) K'->i8 K g k (.string k1):=fun hu=>i8.rowM hu hget
   have hev:=OE7 (n:=V.n) hok.w hmy hl32;have hpl:=hok.w.len;have henk:enK e k1=E6 (A8 k1)++E6 (aV4 V.ps V.L V.n):=by unfold enK;rw[hat]
   rw[henk]at hst;obtain⟨d,hd⟩:∃d,b0++(ks.take k).flatMap (enK e)=d:=⟨_,rfl⟩
   have hdl:d.length<=6000010:=by rw[<-hd,jA];omega
   rw[hd]at hS hst;have hS1:=bW4 (aE4 hpp (hS.s (j8 E::wrR wb d::bo4 (.S g ks.length sc) ks::ebB eb m1 m2 m3 m4::d8 eS eN m1 (i7 E)::d8 eI eSs m2 e.ss::d8 eW eTn m3 e.ts::d8 eW eU m4 e.ar::R)));obtain⟨vm,vk,hS2⟩:=aY4 hS1;clear hS hS1;have hS:=hS2.s (wrR wb d::blk vb [.map (some vm),.P vk,.I V.n] 176::d8 eS eP vm V.ps::m8 vk V.L V.n::j8 (j6 E k1)::bo4 (.S g ks.length sc) ks::ebB eb m1 m2 m3 m4::d8 eS eN m1 (i7 E)::d8 eI eSs m2 e.ss::d8 eW eTn m3 e.ts::d8 eW eU m4 e.ar::R);clear hS2;have Hst:=jH hst;have Hpp:=jH hpp;have Hok:=jH hok;clear hst hget hpp hat hok hmy hl32 henk hd htl Hkv hend hkk
   go_wp2_with(first|refine zl1 hS ?_ (hc:=by exact hc (by exact i6))|(with_reducible apply Ay7 hS);rfl;rfl;rfl;exact Tryz.underlying9;exact Tryz.underlying63;exact Tryz.underlying5;clear hS;intro g9 c9 w hS;refine frS ?_|refine zl1 hS ?_|(with_reducible apply BW7 (ek:=eS) (ev:=eN) (k:=k1) hS);rfl;rfl;rfl;rfl;exact i6;exact mV;exact kS;exact zV;exact hgl;refine frS ?_|go_at_call 67;refine(eV4 vb vm vk V.ps V.L V.n Hok.out.ok Hok.out.w (by omega) Hok.out.n0 (by have:=Hok.out.n1;omega) W _ _ (hS.s (blk vb _ _::d8 eS eP vm V.ps::m8 vk V.L V.n::wrR wb d::sbR g9 k1::j8 (j6 E k1)::bo4 _ ks::ebB eb m1 m2 m3 m4::d8 eS eN m1 (i7 E)::d8 eI eSs m2 e.ss::d8 eW eTn m3 e.ts::d8 eW eU m4 e.ar::R))).mono ?_;clear hS;rintro x w ⟨vv,rfl,hS⟩;(have hv:=hS.rowVal;obtain⟨va,vc,rfl⟩:=hv);(have hS5:St W (byR _ (aV4 V.ps V.L V.n)::blk vb [.map (some vm),.P vk,.I V.n] 176::d8 eS eP vm V.ps::m8 vk V.L V.n::_) _:=hS);clear hS;(have hS:=hS5);clear hS5|refine zbs hS ?_;clear hS;intro bS w hS|go_at_call 66;(have hS2:St W (blk bS [sbV g9 k1 c9,.slice va (aV4 V.ps V.L V.n).length vc] 63::_) _:=hS);refine(Qi7 wb d k1 g9 c9 (aV4 V.ps V.L V.n) va vc bS 2 (by omega) (by omega) (by omega) W _ _ (hS2.s (wrR wb d::blk bS _ _::sbR g9 k1::byR _ (aV4 V.ps V.L V.n)::blk vb _ _::d8 eS eP vm V.ps::m8 vk V.L V.n::j8 (j6 E k1)::bo4 _ ks::ebB eb m1 m2 m3 m4::d8 eS eN m1 (i7 E)::d8 eI eSs m2 e.ss::d8 eW eTn m3 e.ts::d8 eW eU m4 e.ar::R))).mono ?_;clear hS hS2;rintro x w ⟨rfl,hS⟩);have h1:=aC4 (V:=V) (hS.s (blk vb [.map (some vm),.P vk,.I V.n] 176::d8 eS eP vm V.ps::m8 vk V.L V.n::j8 (j6 E k1)::wrR wb (d++(E6 (A8 k1)++E6 (aV4 V.ps V.L V.n)))::bo4 (.S g ks.length sc) ks::ebB eb m1 m2 m3 m4::d8 eS eN m1 (i7 E)::d8 eI eSs m2 e.ss::d8 eW eTn m3 e.ts::d8 eW eU m4 e.ar::R))
   have h2:=aE4 Hpp.out.symm (cu4 (x:=(k1,(vb,V))) h1);go_roundw
   case rel=>exact⟨k+1,rfl,hk1,by rw[Hst.out];exact h2.s _⟩
   case measure=>simp[intOf];omega
end Go.Proofs.YtlmhakmoioogaaaGreat
end
