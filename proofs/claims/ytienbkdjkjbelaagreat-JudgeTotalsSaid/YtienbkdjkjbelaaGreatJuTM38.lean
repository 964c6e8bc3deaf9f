/-
  The document's economy.
-/
import Derived.Test.YtienbkdjkjbelaaGreatJuTM5
import Derived.Test.YtienbkdjkjbelaaGreatJuTM23
import Derived.Test.YtienbkdjkjbelaaGreatJuTM37
set_option maxHeartbeats 16000000
set_option maxRecDepth 100000
set_option linter.unusedSimpArgs false
set_option linter.unusedVariables false
section
namespace Go.Proofs.YtienbkdjkjbelaaGreat
open Go.RowKit Go.Sl
def loA(D:Ev)(k:ByteArray):Ev:=D.take (plI ltB D k)
def hiA(D:Ev)(k:ByteArray):Ev:=D.drop (if plB ltB D k=true then plI ltB D k+1 else plI ltB D k)
def O5(xb:Nat)(v2 v3 v4:Value)(D:Ev):HP:=fun f=>∃r1:Value,sats [xeB xb r1 v2 v3 v4,xrP r1 D,A7 D] f
def ab4(v:Value)(xb:Nat)(v2 v3 v4:Value)(A:Ev)(k:ByteArray)(V:Vs)(B:Ev):HP:=fun f=>∃vb:Nat,v=.P vb/\(fun f=>∃r1:Value,sats [xeB xb r1 v2 v3 v4,xrP r1 (A++(k,(vb,V))::B),dvP vb V,A7 (A++B)] f) f
section
variable{W w:World}{R:List HP}{xb:Nat}{v2 v3 v4:Value}{D A B:Ev}{k:ByteArray}{V:Vs}{v:Value}
theorem cO4{x:ByteArray×(Nat×Vs)}(h:St W (A7 (A++x::B)::R) w):St W (dvP x.2.1 x.2.2::A7 (A++B)::R) w:=by
 have h1:St W (A7 (x::(A++B))::R) w:=h.imp fun _=>Em7 (List.perm_middle.map _)
 exact St.split h1
theorem cP4{x:ByteArray×(Nat×Vs)}(h:St W (dvP x.2.1 x.2.2::A7 (A++B)::R) w):St W (A7 (A++x::B)::R) w:=by have h1:St W (A7 (x::(A++B))::R) w:=St.join h;exact h1.imp fun _=>Em7 (List.perm_middle.symm.map _)
theorem bA4(h:St W (O5 xb v2 v3 v4 D::R) w):∃r1,St W (xeB xb r1 v2 v3 v4::xrP r1 D::A7 D::R) w:=by obtain⟨r1,h⟩:=St.ex h;exact⟨r1,h.openS⟩
theorem aQ4{r1:Value}(h:St W (xeB xb r1 v2 v3 v4::xrP r1 D::A7 D::R) w):St W (O5 xb v2 v3 v4 D::R) w:=St.mkEx r1 (St.shutS [_,_,_] h)
theorem bB4(h:St W (ab4 v xb v2 v3 v4 A k V B::R) w):∃vb r1 xB,v=.P vb/\St W (xvR vb xB V.ps V.L V.n (xeB xb r1 v2 v3 v4::xrP r1 (A++(k,(vb,V))::B)::A7 (A++B)::R)) w:=by obtain⟨vb,h⟩:=St.ex h;obtain⟨h1,h⟩:=St.and h;obtain⟨r1,h⟩:=St.ex h;have h2:St W (xeB xb r1 v2 v3 v4::xrP r1 (A++(k,(vb,V))::B)::dvP vb V::A7 (A++B)::R) w:=h.openS;obtain⟨xB,h3⟩:=dl4 (h2.s (dvP vb V::xeB xb r1 v2 v3 v4::xrP r1 (A++(k,(vb,V))::B)::A7 (A++B)::R));exact⟨vb,r1,xB,h1,h3⟩
theorem Oz7(vb:Nat)(V V':Vs):(A++(k,(vb,V))::B).flatMap rwC=(A++(k,(vb,V'))::B).flatMap rwC:=by rw[List.flatMap_append,List.flatMap_append,List.flatMap_cons,List.flatMap_cons];rfl
theorem Qs7(x y:ByteArray×(Nat×Vs)):(A++x::B).length=(A++y::B).length:=by rw[jA,jA];rfl
theorem cb4{vb xB:Nat}{r1:Value}(V':Vs)(h:St W (xvR vb xB V'.ps V'.L V'.n (xeB xb r1 v2 v3 v4::xrP r1 (A++(k,(vb,V))::B)::A7 (A++B)::R)) w):St W (ab4 (.P vb) xb v2 v3 v4 A k V' B::R) w:=by
 have h1:=bR4 h;have h2:St W (xeB xb r1 v2 v3 v4::xrP r1 (A++(k,(vb,V'))::B)::dvP vb V'::A7 (A++B)::R) w:=by unfold xrP;rw[Oz7 vb V' V,Qs7 (k,(vb,V')) (k,(vb,V))];exact h1.s _
 exact St.mkEx vb (St.mkAnd rfl (St.mkEx r1 (St.shutS [_,_,_,_] h2)))
theorem bS4(h:St W (ab4 v xb v2 v3 v4 A k V B::R) w):∃vb,St W (O5 xb v2 v3 v4 (A++(k,(vb,V))::B)::R) w:=by obtain⟨vb,r1,xB,h1,h2⟩:=bB4 h;have h3:=bR4 h2;have h4:=cP4 (x:=(k,(vb,V))) (h3.s (dvP vb V::A7 (A++B)::xeB xb r1 v2 v3 v4::xrP r1 (A++(k,(vb,V))::B)::R));exact⟨vb,aQ4 (h4.s _)⟩
theorem OA7(hA:Asc ltB D)(hb:plB ltB D k=true):∃(h:plI ltB D k<D.length) (vb:Nat) (V:Vs),D[plI ltB D k]=(k,(vb,V))/\vAt D k=V/\D=loA D k++(k,(vb,V))::hiA D k:=by
 obtain⟨h1,h2⟩:=My7 ltB k D hb;have hm:=jW h1;have hd:D=D.take (plI ltB D k)++D[plI ltB D k]::D.drop (plI ltB D k+1):=by rw[<-List.drop_eq_getElem_cons h1,List.take_append_drop]
 generalize hx:D[plI ltB D k]=x at h2 hm hd;obtain⟨k',vb,V⟩:=x;simp only at h2;subst h2;refine⟨h1,vb,V,hx,?_,?_⟩
 ·unfold vAt;rw[Cr7 (BG7 Bx7 hA) hm];rfl
 ·unfold loA hiA;rw[hb,if_pos rfl];exact hd
theorem OB7(hA:Asc ltB D)(hb:plB ltB D k=false):vAt D k=vs0:=by
 rw[Mz7 Bx7 hA]at hb;unfold vAt
 cases hg:j6 D k with
 | none=>rfl
 | some x=>rw[hg]at hb;cases hb
theorem bj4(hA:Asc ltB D)(hD:D.length<=1000000)(hV:vAt D k=V)(h1:loA D k=A)(h2:hiA D k=B)(hS:St W (O5 xb v2 v3 v4 D::R) w):
  Calls Tryz.prog 57 #[.P xb,.string k] w fun e w'=>∃v,e=.returned v/\St W (ab4 v xb v2 v3 v4 A k V B::R) w':=by
 obtain⟨r1,hS⟩:=bA4 hS
 cases hb:plB ltB D k with
 | true=>
  obtain⟨hp,vb,V',hx,hv,hd⟩:=OA7 hA hb;rw[hV]at hv;subst hv;rw[h1,h2]at hd;refine(KN7 D k rfl hb hp hx xb r1 v2 v3 v4 W w _ hS).mono ?_;rintro e w' ⟨rfl,hS⟩;rw[hd]at hS;have h3:=cO4 (hS.s (A7 (A++(k,(vb,V))::B)::xeB xb r1 v2 v3 v4::xrP r1 (A++(k,(vb,V))::B)::R));refine⟨_,rfl,St.mkEx vb (St.mkAnd rfl (St.mkEx r1 (St.shutS [_,_,_,_] ?_)))⟩;have h4:St W (dvP vb V::A7 (A++B)::xeB xb r1 v2 v3 v4::xrP r1 (A++(k,(vb,V))::B)::R) w':=h3;have h5:=h4.s (xeB xb r1 v2 v3 v4::xrP r1 (A++(k,(vb,V))::B)::dvP vb V::A7 (A++B)::R);exact h5
 | false=>
  have hv:=OB7 hA hb;rw[hV]at hv;subst hv;have hd:A++B=D:=by rw[<-h1,<-h2];unfold loA hiA;rw[hb,if_neg (by simp),List.take_append_drop]
  have ha:D.take (plI ltB D k)=A:=h1;have hc:D.drop (plI ltB D k)=B:=by rw[<-h2];unfold hiA;rw[hb,if_neg (by simp)]
  refine(MN7 D hD k rfl hb xb r1 v2 v3 v4 W w _ hS).mono ?_;rintro e w' ⟨vb,r2,rfl,hS⟩;rw[ha,hc,<-hd]at hS;refine⟨_,rfl,St.mkEx vb (St.mkAnd rfl (St.mkEx r2 (St.shutS [_,_,_,_] ?_)))⟩;have h5:=hS.s (xeB xb r2 v2 v3 v4::xrP r2 (A++(k,(vb,vs0))::B)::dvP vb vs0::A7 (A++B)::R);exact h5
theorem eE4{i:Nat}(hok:VOk V.ps V.n i)(hi:100*i<=1000000){who:ByteArray}{x0 x1 x2 x3 r:Int}{q:Ps}(hr:J8 V.ps who ⟨x0,x1,x2,x3⟩=r)(hq:F8 V.ps who ⟨x0,x1,x2,x3⟩=q)(hS:St W (ab4 v xb v2 v3 v4 A k V B::R) w):
  Calls Tryz.prog 58 #[v,.string who,.agg #[.I x0,.I x1,.I x2,.I x3]] w fun e w'=>e=.returned (.I r)/\St W (ab4 v xb v2 v3 v4 A k ⟨q,V.L,V.n⟩ B::R) w':=by
 obtain⟨vb,r1,xB,rfl,hT⟩:=bB4 hS;refine(gC4 vb _ V.n V.ps _ W w _ hok.w hi who ⟨x0,x1,x2,x3⟩ hT).mono ?_;rw[hr,hq];rintro e w' ⟨rfl,hS⟩;exact⟨rfl,cb4 ⟨q,V.L,V.n⟩ hS⟩
theorem eb4{i:Nat}(hok:VOk V.ps V.n i)(hi:100*i<=1000000){who:ByteArray}{x0 x1 x2 x3 r:Int}{q:Ps}(hr:p9 V.ps who ⟨x0,x1,x2,x3⟩=r)(hq:r8 V.ps who ⟨x0,x1,x2,x3⟩=q)(hS:St W (ab4 v xb v2 v3 v4 A k V B::R) w):
  Calls Tryz.prog 103 #[v,.string who,.agg #[.I x0,.I x1,.I x2,.I x3]] w fun e w'=>e=.returned (.I r)/\St W (ab4 v xb v2 v3 v4 A k ⟨q,V.L,V.n⟩ B::R) w':=by
 obtain⟨vb,r1,xB,rfl,hT⟩:=bB4 hS;refine(dY4 vb _ V.n V.ps _ W w _ hok.w hi who ⟨x0,x1,x2,x3⟩ hT).mono ?_;rw[hr,hq];rintro e w' ⟨rfl,hS⟩;exact⟨rfl,cb4 ⟨q,V.L,V.n⟩ hS⟩
theorem fM4{i:Nat}(hok:VOk V.ps V.n i)(hi:100*i+150<=1000000)(hmay:∀x∈V.L,MayP x){oi ot oc op:Int}{ou:ByteArray}{oy:Bool}{r1 r2:Int}{V2:Vs}(h1:(x8 V ⟨oi,ou,oy,ot,oc,op⟩).1=r1)(h2:(x8 V ⟨oi,ou,oy,ot,oc,op⟩).2.1=r2)(h3:(x8 V ⟨oi,ou,oy,ot,oc,op⟩).2.2=V2)(hS:St W (ab4 v xb v2 v3 v4 A k V B::R) w):
  Calls Tryz.prog 105 #[v,.agg #[.I oi,.string ou,.bool oy,.I ot,.I oc,.I op]] w fun e w'=>e=.returned (.tuple #[.I r1,.I r2])/\St W (ab4 v xb v2 v3 v4 A k V2 B::R) w':=by
 obtain⟨vb,s1,xB,rfl,hT⟩:=bB4 hS;refine(gD4 vb xB V _ ⟨oi,ou,oy,ot,oc,op⟩ hok.ok hok.w hi hmay hok.n0 W w _ hT).mono ?_;subst h1 h2 h3;rintro e w' ⟨rfl,hS⟩;exact⟨rfl,cb4 _ hS⟩
theorem Rn7(V:Vs)(who:ByteArray)(id:Int):(B8 V who id).2.n=V.n:=by unfold B8;split <;> rfl
theorem fN4{i:Nat}(hok:VOk V.ps V.n i)(hi:100*i+150<=1000000)(hmay:∀x∈V.L,MayP x)(hl32:V.L.length<=32){who:ByteArray}{id r:Int}{V2:Vs}(h1:(B8 V who id).1=r)(h2:(B8 V who id).2=V2)(hS:St W (ab4 v xb v2 v3 v4 A k V B::R) w):
  Calls Tryz.prog 106 #[v,.string who,.I id] w fun e w'=>e=.returned (.I r)/\St W (ab4 v xb v2 v3 v4 A k V2 B::R) w':=by
 obtain⟨vb,s1,xB,rfl,hT⟩:=bB4 hS;have hn:=Rn7 V who id;obtain⟨p,L,n⟩:=V;refine(er4 vb xB p L n _ who id W w _ hok.ok hok.w hi hmay hl32 hT).mono ?_;subst h1 h2;rintro e w' ⟨rfl,hS⟩;refine⟨rfl,cb4 (V:=⟨p,L,n⟩) (xB:=xB) (r1:=s1) _ ?_⟩;rw[hn];exact hS
theorem fO4{i:Nat}(hok:VOk V.ps V.n i){who:ByteArray}{x0 x1 x2 x3:Int}(hx:j8 V.ps who=⟨x0,x1,x2,x3⟩)(hS:St W (ab4 v xb v2 v3 v4 A k V B::R) w):
  Calls Tryz.prog 100 #[v,.string who] w fun e w'=>e=.returned (.agg #[.I x0,.I x1,.I x2,.I x3])/\St W (ab4 v xb v2 v3 v4 A k V B::R) w':=by
 obtain⟨vb,s1,xB,rfl,hT⟩:=bB4 hS;refine(bJ4 hok.w hx hT).mono ?_;rintro e w' ⟨rfl,hS⟩;exact⟨rfl,cb4 V hS⟩
end
theorem ec4(xb xB:Nat)(V:Vs){r:Bool}(hr:A5 V=r)(W w:World)(R:List HP)(hS:St W (xvR xb xB V.ps V.L V.n R) w):
  Calls Tryz.prog 107 #[.P xb] w fun e w'=>e=.returned (.bool r)/\St W (xvR xb xB V.ps V.L V.n R) w':=by
 obtain⟨p,L,n⟩:=V;obtain⟨xv,hS1⟩:=aV4 hS;obtain⟨la,lc,last,hlast,hS2⟩:=bx4 (hS1.s (xkP xB L n::blk xb _ _::hdR _ (hdL p)::R));clear hS hS1;obtain⟨ha,hc,rfl⟩:=hS2.drop.drop.drop.rowVal;have hS:=hS2;clear hS2;have hlen:=CV7 p;unfold A5 at hr;simp only at hr;rw[<-hlen]at hr;clear hlen;have hback:∀w',St W (blk xB [.slice la L.length lc,.I last] 186::j7 (.slice la L.length lc) L::blk xb [.slice ha (hdL p).length hc,.P xB,.I n] 183::hdR (.slice ha (hdL p).length hc) (hdL p)::R) w'->St W (xvR xb xB p L n R) w':=by intro w' hS;have hS1:=aJ4 hlast (hS.s (blk xB _ _::j7 _ L::blk xb _ _::hdR _ (hdL p)::R));exact ao4 (hS1.s (blk xb _ _::hdR _ (hdL p)::xkP xB L n::R))
 have Hback:=jH hback;clear hback;generalize hdL p=H at hS hr Hback;go_enter Tryz.func107,Tryz.ntmps107;by_cases hH:H=[]
 ·subst hH;by_cases hL:L=[]
  ·subst hL;by_cases h3:n=1
   ·have d3:(n==1)=true:=by simpa using h3
    have Hr:=jH (show r=true by rw[<-hr];simp[h3]);clear hr h3;go_wp2_with(first|go_big_skip|refine zl1 hS ?_);go_ret;rw[Hr.out];exact⟨rfl,Hback.out _ hS⟩
   ·have d3:(n==1)=false:=by simpa using h3
    have Hr:=jH (show r=false by rw[<-hr];simp[h3]);clear hr h3;go_wp2_with(first|go_big_skip|refine zl1 hS ?_);go_ret;rw[Hr.out];exact⟨rfl,Hback.out _ hS⟩
  ·have Hr:=jH (show r=false by rw[<-hr];simp[hL]);clear hr;go_wp2_with(first|go_big_skip|refine zl1 hS ?_);go_ret;rw[Hr.out];exact⟨rfl,Hback.out _ hS⟩
 ·have Hr:=jH (show r=false by rw[<-hr];simp[hH]);clear hr;go_wp2_with(first|go_big_skip|refine zl1 hS ?_);go_ret;rw[Hr.out];exact⟨rfl,Hback.out _ hS⟩
def clF(D:Ev):Ev:=D.filter fun x=>!A5 x.2.2
theorem OC7(D:Ev)(x:ByteArray×(Nat×Vs)):clF (D++[x])=clF D++(if A5 x.2.2=true then[]else[x]):=by
 unfold clF;rw[List.filter_append]
 congr 1
 by_cases h:A5 x.2.2=true
 ·rw[if_pos h,List.filter_cons,if_neg (by simpa using h)];rfl
 ·rw[if_neg h,List.filter_cons,if_pos (by simpa using h)];rfl
theorem OD7(v:Value)(F:Ev)(x:ByteArray×(Nat×Vs)):xrP v (F++[x])=row v 2 137 (F.length+1) (F.flatMap rwC++rwC x):=by unfold xrP;rw[jA,List.flatMap_append];simp
theorem cw4:∀(D:Ev) {W:World} {R:List HP} {w:World},St W (A7 D::R) w->St W (A7 (clF D)::R) w
 | [],_,_,_,h=>h
 | x::D,W,R,w,h=>by
  have h1:St W (dvP x.2.1 x.2.2::A7 D::R) w:=St.split h;by_cases hn:A5 x.2.2=true
  ·have e:clF (x::D)=clF D:=by unfold clF;rw[List.filter_cons,if_neg (by simpa using hn)]
   rw[e];exact cw4 D h1.drop
  ·have e:clF (x::D)=x::clF D:=by unfold clF;rw[List.filter_cons,if_pos (by simpa using hn)]
   rw[e];exact St.join (cw4 D h1.swap).swap
def ClR(W:World)(R:List HP)(D:Ev)(vm vi:Value)(w:World):Prop:=∃i:Nat,vi=.I i/\i<=D.length/\(clF (D.take i)).length<=i/\St W (xrP vm (clF (D.take i))::R) w
theorem dm4(D:Ev)(hD:D.length<=1000000)(xb:Nat)(v2 v3 v4:Value)(W w:World)(R:List HP)(hS:St W (O5 xb v2 v3 v4 D::R) w):
  Calls Tryz.prog 63 #[.P xb] w fun e w'=>e=.returned (.tuple #[])/\St W (O5 xb v2 v3 v4 (clF D)::R) w':=by
 obtain⟨r1,hT⟩:=bA4 hS;clear hS;obtain⟨a,cap,rfl⟩:=hT.drop.rowVal;have hS:=hT;clear hT;go_enter Tryz.func63,Tryz.ntmps63;go_wp2_with(first|go_big_skip|refine zl1 hS ?_);have hS:=hS.rowNil (k:=2) (T:=137)
 go_loopw [2,3] (fun vm vi wr=>ClR W (xeB xb (.slice a D.length cap) v2 v3 v4::xrP (.slice a D.length cap) D::A7 D::R) D vm vi wr) (fun _ vi _=>D.length-(intOf vi).toNat)
 case atStart=>exact⟨0,rfl,Nat.zero_le _,Nat.le_refl _,hS⟩
 case round=>
  clear hS;obtain⟨i,rfl,hil,hfl,hS⟩:=hrel;obtain⟨ma,mc,rfl⟩:=St.rowVal hS;by_cases hin:i=D.length
  ·have di:decide (i<D.length)=false:=by simp;omega
   have hF2:clF D=clF (D.take i):=by rw[hin,List.take_length]
   clear hin hil;generalize hF:clF (D.take i)=F at *;have HF:=jH hF2;clear hF hF2;go_wp2_with(first|go_big_skip|refine zl1 hS ?_|refine zs1 hS ?_;clear hS;intro w hS);go_end0;have h1:=cw4 D (hS.s (A7 D::xeB xb (.slice ma F.length mc) v2 v3 v4::xrP (.slice ma F.length mc) F::R));rw[HF.out]at h1;rw[HF.out];exact⟨rfl,aQ4 (h1.s (xeB xb (.slice ma F.length mc) v2 v3 v4::xrP (.slice ma F.length mc) F::A7 F::R))⟩
  ·have hi1:i<D.length:=by omega
   obtain⟨⟨g,rfl⟩,_,_⟩:=St.rowAddr hS.drop.drop (by omega);have di:decide (i<D.length)=true:=by simpa using hi1
   have hsn:=OC7 (D.take i) D[i];rw[<-List.take_succ_eq_append_getElem hi1]at hsn;have Hsn:=jH hsn;clear hsn;have hk:∀{K K':List HP},Take K (xrP (.S g D.length cap) D) K'->i6 K g (i*2) (.string D[i].1):=fun hu=>d8.elemM (enc:=rwC) Bm7 hu hi1 0 _ rfl
   have hv:∀{K K':List HP},Take K (xrP (.S g D.length cap) D) K'->i6 K g (i*2+1) (.pointer (some ⟨D[i].2.1,0,none⟩)):=fun hu=>d8.elemM (enc:=rwC) Bm7 hu hi1 1 _ rfl
   have hx:∀{K K':List HP},Take K (xrP (.S g D.length cap) D) K'->d8 K g (i*2) [.string D[i].1,.pointer (some ⟨D[i].2.1,0,none⟩)]:=fun hu=>d8.elemM (enc:=rwC) Bm7 hu hi1
   have hd:D=D.take i++D[i]::D.drop (i+1):=by rw[<-List.drop_eq_getElem_cons hi1,List.take_append_drop]
   have h1:=hS.s (A7 D::xrP (.slice ma (clF (D.take i)).length mc) (clF (D.take i))::xeB xb (.S g D.length cap) v2 v3 v4::xrP (.S g D.length cap) D::R);have h2:St W (A7 (D.take i++D[i]::D.drop (i+1))::xrP (.slice ma (clF (D.take i)).length mc) (clF (D.take i))::xeB xb (.S g D.length cap) v2 v3 v4::xrP (.S g D.length cap) D::R) wr:=by rw[<-hd];exact h1
   clear hS h1;have hback:∀w' K,St W (dvP D[i].2.1 D[i].2.2::A7 (D.take i++D.drop (i+1))::K) w'->St W (A7 D::K) w':=by intro w' K h;have h3:=cP4 (x:=D[i]) h;rw[<-hd]at h3;exact h3
   have Hback:=jH hback;clear hback hd;have h3:=cO4 h2;clear h2;generalize D[i]=x at *;obtain⟨xk,vb,V⟩:=x;simp only at hk hv hx h3;obtain⟨xB,h4⟩:=dl4 h3;clear h3;generalize clF (D.take i)=F at *;have hS:St W (xvP vb (.P xB) V.n V.ps::xkP xB V.L V.n::A7 (D.take i++D.drop (i+1))::xrP (.slice ma F.length mc) F::xeB xb (.S g D.length cap) v2 v3 v4::xrP (.S g D.length cap) D::R) wr:=h4;clear h4;by_cases hn:A5 V=true
   ·have Hn:=jH hn;clear hn;go_wp2_with(first|go_big_skip|refine zl1 hS ?_|refine zl1 hS ?_ (hc:=by exact hv (by exact i7))|go_at_call 107;refine(ec4 vb xB V Hn.out W _ _ (hS.s (xvP vb _ V.n V.ps::xkP xB V.L V.n::xrP _ F::xeB xb _ v2 v3 v4::xrP _ D::A7 _::R))).mono ?_;clear hS;rintro e w ⟨rfl,hS⟩);go_roundw
    case rel=>
     refine⟨i+1,rfl,hi1,?_,?_⟩
     ·rw[Hsn.out,if_pos Hn.out,List.append_nil];omega
     ·rw[Hsn.out,if_pos Hn.out,List.append_nil];have h1:=bR4 (V:=V) hS;have h2:=Hback.out _ _ (h1.s (dvP vb V::A7 (D.take i++D.drop (i+1))::xrP (.slice ma F.length mc) F::xeB xb (.S g D.length cap) v2 v3 v4::xrP (.S g D.length cap) D::R));exact h2.s _
    case measure=>simp[intOf];omega
   ·have Hn:=jH (show A5 V=false by simpa using hn);clear hn;go_wp2_with(first|go_big_skip|refine zl1 hS ?_|refine zl1 hS ?_ (hc:=by exact hv (by exact i7))|go_at_call 107;refine(ec4 vb xB V Hn.out W _ _ (hS.s (xvP vb _ V.n V.ps::xkP xB V.L V.n::xrP _ F::xeB xb _ v2 v3 v4::xrP _ D::A7 _::R))).mono ?_;clear hS;rintro e w ⟨rfl,hS⟩|refine zlN hS ?_ (hc:=by exact hx (by exact i7))|refine zbs hS ?_;clear hS;intro bS w hS|(with_reducible apply Ae7 hS);rfl;rfl;rfl;rfl;exact esS;exact rsS;rfl;decide;exact i7;exact(Src.mk d8.whole);rfl;exact rfl;(focus(unfold maxLen;omega));(focus(omega));clear hS;intro v w hS;refine frS ?_);go_roundw
    case rel=>
     refine⟨i+1,rfl,hi1,?_,?_⟩
     ·rw[Hsn.out,if_neg (by rw[Hn.out];exact Bool.noConfusion),jA,List.length_singleton];omega
     ·rw[Hsn.out,if_neg (by rw[Hn.out];exact Bool.noConfusion),OD7];have h0:St W (row v 2 137 (F.length+1) (F.flatMap rwC++rwC (xk,(vb,V)))::_) w:=hS;have h1:=bR4 (V:=V) (h0.s (xvP vb (.P xB) V.n V.ps::xkP xB V.L V.n::A7 (D.take i++D.drop (i+1))::row v 2 137 (F.length+1) (F.flatMap rwC++rwC (xk,(vb,V)))::xeB xb (.S g D.length cap) v2 v3 v4::xrP (.S g D.length cap) D::R));have h2:=Hback.out _ _ h1;exact h2.s _
    case measure=>simp[intOf];omega
theorem Cz7{it ct x0 x1 x2 x3:Int}(h:p8 it ct=⟨x0,x1,x2,x3⟩)(h0:0<=it)(h4:it<4)(c0:0<=ct)(c1:ct<=1048576)(W w:World)(R:List HP)(hS:St W R w):
  Calls Tryz.prog 35 #[.I it,.I ct] w fun e w'=>e=.returned (.tuple #[.agg #[.I x0,.I x1,.I x2,.I x3],.bool true])/\St W R w':=by
 have d1:decide (ct<0)=false:=by simp;omega
 have d2:decide (1152921504606846976<ct)=false:=by simp;omega
 go_enter Tryz.func35,Tryz.ntmps35;have hk:it=0\/it=1\/it=2\/it=3:=by omega
 clear h0 h4
 rcases hk with rfl|rfl|rfl|rfl
 all_goals
  simp only[p8,aE4,it0,It.mk.injEq,Int.reduceEq,if_true,if_false]at h;obtain⟨rfl,rfl,rfl,rfl⟩:=h;go_wp2_with(first|(fail_if_success (have:=gA));(refine zal hS ?_;clear hS;have gA:Nat:=0;intro b1 w hS)|(have:=gA);refine zal hS ?_;clear hS;intro b2 w hS|refine zlN hS ?_|refine zsN hS ?_;clear hS;intro w hS|refine zs1 hS ?_;clear hS;intro w hS);apply Ac7;rfl;rfl;rfl;rfl;exact hS;decide +kernel;(exact r6);kernel_rfl;exact⟨rfl,hS.drop.drop⟩
section
variable{W w:World}{R:List HP}{xb:Nat}{v2 v3 v4:Value}{D A B:Ev}{V:Vs}{i:Nat}{cl sq:Int}{ak aw tk tw:ByteArray}{it ct pr:Int}{bu:Bool}{id:Int}
theorem fP4(hA:Asc ltB D)(hD:D.length<=1000000)(hV:vAt D ak=V)(h1:loA D ak=A)(h2:hiA D ak=B)(hok:VOk V.ps V.n i)(hi:i<=5000)(h0:0<=it)(h4:it<4)(c0:0<=ct)(c1:ct<=1048576){r:Int}{q:Ps}(hr:J8 V.ps aw (p8 it ct)=r)(hq:F8 V.ps aw (p8 it ct)=q)(hS:St W (O5 xb v2 v3 v4 D::R) w):
  Calls Tryz.prog 61 #[.P xb,oV 1 cl sq ak aw tk tw it ct pr bu id] w fun e w'=>∃vb,e=.returned (rV r 0 0 0 0 0)/\St W (O5 xb v2 v3 v4 (A++(ak,(vb,⟨q,V.L,V.n⟩))::B)::R) w':=by
 obtain⟨x,hx⟩:∃x,p8 it ct=x:=⟨_,rfl⟩
 obtain⟨x0,x1,x2,x3⟩:=x;rw[hx]at hr hq;have Hx:=jH hx;have HA:=jH hA;have HV:=jH hV;have H1:=jH h1;have H2:=jH h2;have Hok:=jH hok;clear hx hA hV h1 h2 hok;go_enter Tryz.func61,Tryz.ntmps61;have Hr:=jH hr;have Hq:=jH hq;clear hr hq;go_wp2_with(first|refine zbx hS ?_;clear hS;intro bO w hS|(fail_if_success (have:=gA));(refine zal hS ?_;clear hS;have gA:Nat:=0;intro bR w hS)|(have:=gA);(fail_if_success (have:=gB));(refine zal hS ?_;clear hS;have gB:Nat:=0;intro bI w hS)|(have:=gB);refine zal hS ?_;clear hS;intro bP w hS|refine zl1 hS ?_|refine zlN hS ?_|refine zsN hS ?_;clear hS;intro w hS|refine zs1 hS ?_;clear hS;intro w hS|go_at_call 57;refine(bj4 HA.out hD HV.out H1.out H2.out (hS.s (O5 xb v2 v3 v4 D::blk bR _ _::blk bO _ _::R))).mono ?_;clear hS;rintro e w ⟨v,rfl,hS⟩|go_at_call 35;refine(Cz7 Hx.out h0 h4 c0 c1 W _ _ hS).mono ?_;clear hS;rintro e w ⟨rfl,hS⟩|go_at_call 58;refine(eE4 Hok.out (by omega) Hr.out Hq.out (hS.s (ab4 v xb v2 v3 v4 A ak V B::blk bP _ _::blk bI _ _::blk bR _ _::blk bO _ _::R))).mono ?_;clear hS;rintro e w ⟨rfl,hS⟩);apply Ap7;rfl;rfl;rfl;exact hS;decide +kernel;(exact r6);kernel_rfl;obtain⟨vb,h1⟩:=bS4 (hS.s (ab4 v xb v2 v3 v4 A ak ⟨q,V.L,V.n⟩ B::R));exact⟨vb,rfl,h1⟩
theorem fe4(hA:Asc ltB D)(hD:D.length<=1000000)(hV:vAt D ak=V)(h1:loA D ak=A)(h2:hiA D ak=B)(hok:VOk V.ps V.n i)(hi:i<=5000)(h0:0<=it)(h4:it<4)(c0:0<=ct)(c1:ct<=1048576){r:Int}{q:Ps}(hr:p9 V.ps aw (p8 it ct)=r)(hr0:(r==0)=false)(hq:r8 V.ps aw (p8 it ct)=q)(hS:St W (O5 xb v2 v3 v4 D::R) w):
  Calls Tryz.prog 61 #[.P xb,oV 2 cl sq ak aw tk tw it ct pr bu id] w fun e w'=>∃vb,e=.returned (rV r 0 0 0 0 0)/\St W (O5 xb v2 v3 v4 (A++(ak,(vb,⟨q,V.L,V.n⟩))::B)::R) w':=by
 obtain⟨x,hx⟩:∃x,p8 it ct=x:=⟨_,rfl⟩
 obtain⟨x0,x1,x2,x3⟩:=x;rw[hx]at hr hq;have Hx:=jH hx;have HA:=jH hA;have HV:=jH hV;have H1:=jH h1;have H2:=jH h2;have Hok:=jH hok;clear hx hA hV h1 h2 hok;go_enter Tryz.func61,Tryz.ntmps61;have Hr:=jH hr;have Hq:=jH hq;clear hr hq;go_wp2_with(first|refine zbx hS ?_;clear hS;intro bO w hS|(fail_if_success (have:=gA));(refine zal hS ?_;clear hS;have gA:Nat:=0;intro bR w hS)|(have:=gA);(fail_if_success (have:=gB));(refine zal hS ?_;clear hS;have gB:Nat:=0;intro bI w hS)|(have:=gB);refine zal hS ?_;clear hS;intro bP w hS|refine zl1 hS ?_|refine zlN hS ?_|refine zsN hS ?_;clear hS;intro w hS|refine zs1 hS ?_;clear hS;intro w hS|go_at_call 57;refine(bj4 HA.out hD HV.out H1.out H2.out (hS.s (O5 xb v2 v3 v4 D::blk bR _ _::blk bO _ _::R))).mono ?_;clear hS;rintro e w ⟨v,rfl,hS⟩|go_at_call 35;refine(Cz7 Hx.out h0 h4 c0 c1 W _ _ hS).mono ?_;clear hS;rintro e w ⟨rfl,hS⟩|go_at_call 103;refine(eb4 Hok.out (by omega) Hr.out Hq.out (hS.s (ab4 v xb v2 v3 v4 A ak V B::blk bP _ _::blk bI _ _::blk bR _ _::blk bO _ _::R))).mono ?_;clear hS;rintro e w ⟨rfl,hS⟩);apply Ap7;rfl;rfl;rfl;exact hS;decide +kernel;(exact r6);kernel_rfl;obtain⟨vb,h1⟩:=bS4 (hS.s (ab4 v xb v2 v3 v4 A ak ⟨q,V.L,V.n⟩ B::R));exact⟨vb,rfl,h1⟩
theorem fQ4(hA:Asc ltB D)(hD:D.length<=1000000)(hV:vAt D ak=V)(h1:loA D ak=A)(h2:hiA D ak=B)(hok:VOk V.ps V.n i)(hi:i<=5000)(h0:0<=it)(h4:it<4)(c0:0<=ct)(c1:ct<=1048576)(hmay:∀x∈V.L,MayP x){r s:Int}{V2:Vs}(hr:(x8 V ⟨0,aw,bu,it,ct,pr⟩).1=r)(hs:(x8 V ⟨0,aw,bu,it,ct,pr⟩).2.1=s)(hq:(x8 V ⟨0,aw,bu,it,ct,pr⟩).2.2=V2)(hS:St W (O5 xb v2 v3 v4 D::R) w):
  Calls Tryz.prog 61 #[.P xb,oV 3 cl sq ak aw tk tw it ct pr bu id] w fun e w'=>∃vb,e=.returned (rV s r 0 0 0 0)/\St W (O5 xb v2 v3 v4 (A++(ak,(vb,V2))::B)::R) w':=by
 obtain⟨x,hx⟩:∃x,p8 it ct=x:=⟨_,rfl⟩
 obtain⟨x0,x1,x2,x3⟩:=x;have Hx:=jH hx;have HA:=jH hA;have HV:=jH hV;have H1:=jH h1;have H2:=jH h2;have Hok:=jH hok;clear hx hA hV h1 h2 hok;go_enter Tryz.func61,Tryz.ntmps61;have Hr:=jH hr;have Hs:=jH hs;have Hq:=jH hq;have Hmay:=jH hmay;clear hr hs hq hmay;go_wp2_with(first|refine zbx hS ?_;clear hS;intro bO w hS|(fail_if_success (have:=gA));(refine zal hS ?_;clear hS;have gA:Nat:=0;intro bR w hS)|(have:=gA);(fail_if_success (have:=gB));(refine zal hS ?_;clear hS;have gB:Nat:=0;intro bI w hS)|(have:=gB);refine zal hS ?_;clear hS;intro bP w hS|refine zl1 hS ?_|refine zlN hS ?_|refine zsN hS ?_;clear hS;intro w hS|refine zs1 hS ?_;clear hS;intro w hS|go_at_call 57;refine(bj4 HA.out hD HV.out H1.out H2.out (hS.s (O5 xb v2 v3 v4 D::blk bR _ _::blk bO _ _::R))).mono ?_;clear hS;rintro e w ⟨v,rfl,hS⟩|go_at_call 35;refine(Cz7 Hx.out h0 h4 c0 c1 W _ _ hS).mono ?_;clear hS;rintro e w ⟨rfl,hS⟩|go_at_call 105;refine(fM4 Hok.out (by omega) Hmay.out Hr.out Hs.out Hq.out (hS.s (ab4 v xb v2 v3 v4 A ak V B::blk bP _ _::blk bI _ _::blk bR _ _::blk bO _ _::R))).mono ?_;clear hS;rintro e w ⟨rfl,hS⟩);apply Ap7;rfl;rfl;rfl;exact hS;decide +kernel;(exact r6);kernel_rfl;obtain⟨vb,h1⟩:=bS4 (hS.s (ab4 v xb v2 v3 v4 A ak V2 B::R));exact⟨vb,rfl,h1⟩
theorem fR4(hA:Asc ltB D)(hD:D.length<=1000000)(hV:vAt D ak=V)(h1:loA D ak=A)(h2:hiA D ak=B)(hok:VOk V.ps V.n i)(hi:i<=5000)(h0:0<=it)(h4:it<4)(c0:0<=ct)(c1:ct<=1048576)(hmay:∀x∈V.L,MayP x)(hl32:V.L.length<=32){r:Int}{V2:Vs}(hr:(B8 V aw id).1=r)(hq:(B8 V aw id).2=V2)(hS:St W (O5 xb v2 v3 v4 D::R) w):
  Calls Tryz.prog 61 #[.P xb,oV 4 cl sq ak aw tk tw it ct pr bu id] w fun e w'=>∃vb,e=.returned (rV r 0 0 0 0 0)/\St W (O5 xb v2 v3 v4 (A++(ak,(vb,V2))::B)::R) w':=by
 obtain⟨x,hx⟩:∃x,p8 it ct=x:=⟨_,rfl⟩
 obtain⟨x0,x1,x2,x3⟩:=x;have Hx:=jH hx;have HA:=jH hA;have HV:=jH hV;have H1:=jH h1;have H2:=jH h2;have Hok:=jH hok;clear hx hA hV h1 h2 hok;go_enter Tryz.func61,Tryz.ntmps61;have Hr:=jH hr;have Hq:=jH hq;have Hmay:=jH hmay;have Hl32:=jH hl32;clear hr hq hmay hl32;go_wp2_with(first|refine zbx hS ?_;clear hS;intro bO w hS|(fail_if_success (have:=gA));(refine zal hS ?_;clear hS;have gA:Nat:=0;intro bR w hS)|(have:=gA);(fail_if_success (have:=gB));(refine zal hS ?_;clear hS;have gB:Nat:=0;intro bI w hS)|(have:=gB);refine zal hS ?_;clear hS;intro bP w hS|refine zl1 hS ?_|refine zlN hS ?_|refine zsN hS ?_;clear hS;intro w hS|refine zs1 hS ?_;clear hS;intro w hS|go_at_call 57;refine(bj4 HA.out hD HV.out H1.out H2.out (hS.s (O5 xb v2 v3 v4 D::blk bR _ _::blk bO _ _::R))).mono ?_;clear hS;rintro e w ⟨v,rfl,hS⟩|go_at_call 35;refine(Cz7 Hx.out h0 h4 c0 c1 W _ _ hS).mono ?_;clear hS;rintro e w ⟨rfl,hS⟩|go_at_call 106;refine(fN4 Hok.out (by omega) Hmay.out Hl32.out Hr.out Hq.out (hS.s (ab4 v xb v2 v3 v4 A ak V B::blk bP _ _::blk bI _ _::blk bR _ _::blk bO _ _::R))).mono ?_;clear hS;rintro e w ⟨rfl,hS⟩);apply Ap7;rfl;rfl;rfl;exact hS;decide +kernel;(exact r6);kernel_rfl;obtain⟨vb,h1⟩:=bS4 (hS.s (ab4 v xb v2 v3 v4 A ak V2 B::R));exact⟨vb,rfl,h1⟩
theorem fS4(hA:Asc ltB D)(hD:D.length<=1000000)(hV:vAt D ak=V)(h1:loA D ak=A)(h2:hiA D ak=B)(hok:VOk V.ps V.n i)(hi:i<=5000)(h0:0<=it)(h4:it<4)(c0:0<=ct)(c1:ct<=1048576){y0 y1 y2 y3:Int}(hr:j8 V.ps aw=⟨y0,y1,y2,y3⟩)(hS:St W (O5 xb v2 v3 v4 D::R) w):
  Calls Tryz.prog 61 #[.P xb,oV 5 cl sq ak aw tk tw it ct pr bu id] w fun e w'=>∃vb,e=.returned (rV 0 0 y0 y1 y2 y3)/\St W (O5 xb v2 v3 v4 (A++(ak,(vb,V))::B)::R) w':=by
 obtain⟨x,hx⟩:∃x,p8 it ct=x:=⟨_,rfl⟩
 obtain⟨x0,x1,x2,x3⟩:=x;have Hx:=jH hx;have HA:=jH hA;have HV:=jH hV;have H1:=jH h1;have H2:=jH h2;have Hok:=jH hok;clear hx hA hV h1 h2 hok;go_enter Tryz.func61,Tryz.ntmps61;have Hr:=jH hr;clear hr;go_wp2_with(first|refine zbx hS ?_;clear hS;intro bO w hS|(fail_if_success (have:=gA));(refine zal hS ?_;clear hS;have gA:Nat:=0;intro bR w hS)|(have:=gA);(fail_if_success (have:=gB));(refine zal hS ?_;clear hS;have gB:Nat:=0;intro bI w hS)|(have:=gB);refine zal hS ?_;clear hS;intro bP w hS|refine zl1 hS ?_|refine zlN hS ?_|refine zsN hS ?_;clear hS;intro w hS|go_at_call 57;refine(bj4 HA.out hD HV.out H1.out H2.out (hS.s (O5 xb v2 v3 v4 D::blk bR _ _::blk bO _ _::R))).mono ?_;clear hS;rintro e w ⟨v,rfl,hS⟩|go_at_call 35;refine(Cz7 Hx.out h0 h4 c0 c1 W _ _ hS).mono ?_;clear hS;rintro e w ⟨rfl,hS⟩|go_at_call 100;refine(fO4 Hok.out Hr.out (hS.s (ab4 v xb v2 v3 v4 A ak V B::blk bP _ _::blk bI _ _::blk bR _ _::blk bO _ _::R))).mono ?_;clear hS;rintro e w ⟨rfl,hS⟩);apply Ap7;rfl;rfl;rfl;exact hS;decide +kernel;(exact r6);kernel_rfl;obtain⟨vb,h1⟩:=bS4 (hS.s (ab4 v xb v2 v3 v4 A ak V B::R));exact⟨vb,rfl,h1⟩
end
section
variable{W w:World}{R:List HP}{xb:Nat}{v2 v3 v4:Value}{D A B:Ev}{V:Vs}{i:Nat}{cl sq:Int}{ak aw tk tw:ByteArray}{it ct pr:Int}{bu:Bool}{id:Int}
theorem ff4(hA:Asc ltB D)(hD:D.length<=1000000)(hV:vAt D ak=V)(h1:loA D ak=A)(h2:hiA D ak=B)(hok:VOk V.ps V.n i)(hi:i<=5000)(h0:0<=it)(h4:it<4)(c0:0<=ct)(c1:ct<=1048576){q:Ps}(hr:p9 V.ps aw (p8 it ct)=0)(hq:r8 V.ps aw (p8 it ct)=q){ts:List ((Int×Int)×Tns)}(hk:TsK ts)(hl:ts.length<=1000000)(hS:St W (O5 xb v2 v3 v4 D::xtP v3 ts::R) w):
  Calls Tryz.prog 61 #[.P xb,oV 2 cl sq ak aw tk tw it ct pr bu id] w fun e w'=>∃vb v,e=.returned (rV 0 0 0 0 0 0)/\St W (O5 xb v2 v v4 (A++(ak,(vb,⟨q,V.L,V.n⟩))::B)::xtP v (ts.take (plI ltW ts (cl,sq))++((cl,sq),⟨cl,sq,ak,aw,tk,tw,it,ct⟩)::ts.drop (plI ltW ts (cl,sq)))::R) w':=by
 obtain⟨x,hx⟩:∃x,p8 it ct=x:=⟨_,rfl⟩
 obtain⟨x0,x1,x2,x3⟩:=x;rw[hx]at hr hq;have Hx:=jH hx;have HA:=jH hA;have HV:=jH hV;have H1:=jH h1;have H2:=jH h2;have Hok:=jH hok;clear hx hA hV h1 h2 hok;go_enter Tryz.func61,Tryz.ntmps61;have Hr:=jH hr;have Hq:=jH hq;have Hk:=jH hk;clear hr hq hk;have hS0:St W (O5 xb v2 v3 v4 D::xtP v3 ts::R) w:=hS;clear hS;have hS:=hS0;clear hS0
 go_wp2_with(first|refine zbx hS ?_;clear hS;intro bO w hS|(fail_if_success (have:=gA));(refine zal hS ?_;clear hS;have gA:Nat:=0;intro bR w hS)|(have:=gA);(fail_if_success (have:=gB));(refine zal hS ?_;clear hS;have gB:Nat:=0;intro bI w hS)|(have:=gB);refine zal hS ?_;clear hS;intro bP w hS|refine zl1 hS ?_|(have:=gT);(fail_if_success (have:=pA));refine zlN hS ?_ (vs:=[.string ak,.string aw]) (hc:=by focus((repeat(first|exact d8.here rfl|apply d8.there));done));have pA:Nat:=0|(have:=pA);(fail_if_success (have:=pB));refine zlN hS ?_ (vs:=[.string tk,.string tw]) (hc:=by focus((repeat(first|exact d8.here rfl|apply d8.there));done));have pB:Nat:=0|refine zlN hS ?_|refine zsN hS ?_;clear hS;intro w hS|refine zs1 hS ?_;clear hS;intro w hS|go_at_call 57;refine(bj4 HA.out hD HV.out H1.out H2.out (hS.s (O5 xb v2 v3 v4 D::blk bR _ _::blk bO _ _::xtP v3 ts::R))).mono ?_;clear hS;rintro e w ⟨v,rfl,hS⟩|go_at_call 35;refine(Cz7 Hx.out h0 h4 c0 c1 W _ _ hS).mono ?_;clear hS;rintro e w ⟨rfl,hS⟩|go_at_call 103;refine(eb4 Hok.out (by omega) Hr.out Hq.out (hS.s (ab4 v xb v2 v3 v4 A ak V B::blk bP _ _::blk bI _ _::blk bR _ _::blk bO _ _::xtP v3 ts::R))).mono ?_;clear hS;rintro e w ⟨rfl,hS⟩;have gT:Nat:=0|go_at_call 104;have hS9:=bS4 (hS.s (ab4 v xb v2 v3 v4 A ak ⟨q,V.L,V.n⟩ B::blk bP _ _::blk bI _ _::blk bR _ _::blk bO _ _::xtP v3 ts::R));clear hS;obtain⟨vb,hS8⟩:=hS9;have hS7:=bA4 hS8;clear hS8;obtain⟨r1,hS⟩:=hS7;refine(fL4 ts Hk.out hl ⟨cl,sq,ak,aw,tk,tw,it,ct⟩ xb r1 v2 v3 v4 W _ _ (hS.s (xeB xb r1 v2 v3 v4::xtP v3 ts::xrP r1 (A++(ak,(vb,⟨q,V.L,V.n⟩))::B)::A7 (A++(ak,(vb,⟨q,V.L,V.n⟩))::B)::blk bP _ _::blk bI _ _::blk bR _ _::blk bO _ _::R))).mono ?_;clear hS;rintro e w ⟨rfl,hS6⟩;obtain⟨v9,hS⟩:=hS6);apply Ap7;rfl;rfl;rfl;exact hS;decide +kernel;(exact r6);kernel_rfl
 have h1:=aQ4 (hS.s (xeB xb r1 v2 v9 v4::xrP r1 (A++(ak,(vb,⟨q,V.L,V.n⟩))::B)::A7 (A++(ak,(vb,⟨q,V.L,V.n⟩))::B)::xtP v9 (ts.take (plI ltW ts (cl,sq))++((cl,sq),⟨cl,sq,ak,aw,tk,tw,it,ct⟩)::ts.drop (plI ltW ts (cl,sq)))::R));exact⟨vb,v9,rfl,h1⟩
end
end Go.Proofs.YtienbkdjkjbelaaGreat
end
