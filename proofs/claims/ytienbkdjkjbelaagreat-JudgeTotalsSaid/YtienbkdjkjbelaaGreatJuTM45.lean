/-
  The first answer that is wrong.
-/
import Derived.Test.YtienbkdjkjbelaaGreatJuTM5
import Derived.Test.YtienbkdjkjbelaaGreatJuTM17
import Derived.Test.YtienbkdjkjbelaaGreatJuTM21
import Derived.Test.YtienbkdjkjbelaaGreatJuTM34
import Derived.Test.YtienbkdjkjbelaaGreatJuTM41
import Derived.Test.YtienbkdjkjbelaaGreatJuTM42
import Derived.Test.YtienbkdjkjbelaaGreatJuTM43
import Derived.Test.YtienbkdjkjbelaaGreatJuTM44
import Derived.Laws.BytesString
set_option maxHeartbeats 16000000
set_option maxRecDepth 100000
set_option linter.unusedSimpArgs false
set_option linter.unusedVariables false
section
namespace Go.Proofs.YtienbkdjkjbelaaGreat
open Go.RowKit Go.Sl
def gQ4(xs:List Opn)(o:Opn)(j:Nat):Prop:=∀i (h:i<xs.length),i<j->xs[i]≠o
def W3R(W:World)(L:List HP)(xs:List Opn)(o:Opn)(v1 v2:Value)(w:World):Prop:=
 ∃j:Nat,v1=.bool false/\v2=.I j/\j<=xs.length/\gQ4 xs o j/\St W L w
section
variable{W w:World}{L R:List HP}{T:TypeId}{v u:Value}{evs:List Evn}{xs:List Opn}
theorem PC7(ht:Take L (evR T v evs) R)(hS:St W L w):C8 Evn.cells 14 w v evs:=St.sliceV Evn.len (hS.take ht)
theorem QJ7(hlen:xs.length<=150)(hv:C8 Opn.cells 12 w v xs)(hS:St W L w):
  Calls Tryz.prog 8 #[v] w fun e w'=>∃va vb,e=.returned (.tuple #[va,vb])/\St W (evR 76 va (aD4 xs)::evR 77 vb (aD4 xs)::L) w':=by
 refine(Nl7 xs hlen v w hv w w [] (St.start w)).mono ?_;rintro e w' ⟨va,vb,rfl,h⟩;exact⟨va,vb,rfl,St.rebase (A:=[_,_]) hS h⟩
theorem No7(hx:evs.map (·.op)=xs)(hlen:xs.length<=150)(ht:Take L (evR T v evs) R)(hS:St W L w):
  Calls Tryz.prog 14 #[v] w fun e w'=>∃n:Int,e=.returned (.I n)/\TwI xs n/\St W L w':=by
 refine(IZ7 hx hlen v w (PC7 ht hS) w w [] (St.start w)).mono ?_;rintro e w' ⟨n,rfl,hn,h⟩;exact⟨n,rfl,hn,St.rebase (A:=[]) hS h⟩
theorem If7(hx:evs.map (·.op)=xs)(hlen:xs.length<=150)(ht:Take L (evR T v evs) R){xss:List (List Ans)}(hu:at4 Ans.cells 18 w u xss)(htot:xss.flatten.length<=1000000){n:Int}(hn:L6 (okA xs (B7 xs ec0)) xss.flatten 0=n)(hS:St W L w):
  Calls Tryz.prog 9 #[v,u] w fun e w'=>e=.returned (.I n)/\St W L w':=by
 refine(IY7 hx hlen v u w (PC7 ht hS) hu htot w w [] (St.start w)).mono ?_;rintro e w' ⟨rfl,h⟩;exact⟨by rw[hn],St.rebase (A:=[]) hS h⟩
theorem St.sliceB{α:Type}{enc:α->List Value}{k b n:Nat}{xs:List α}{l:List Value}(henc:∀x,(enc x).length=k)(ht:Take L (blk b l T) R)(hl:l=xs.flatMap enc)(hn:n=xs.length)(h63:n<=9223372036854775807)(hS:St W L w):C8 enc k w (.S b n n) xs:=by
 subst hn hl;refine⟨some ⟨b,0,none⟩,xs.length,rfl,h63,fun i hi=>⟨b,0,rfl,fun j u hj=>?_⟩⟩;have hjk:j<k:=by have:=(List.getElem?_eq_some_iff.1 hj).1;rwa [henc]at this
 rw[Nat.zero_add];have h2:=AS7 henc xs [] i hi j hjk;rw[List.append_nil]at h2;exact(hS.take ht).cell .head (by rw[h2];exact hj)
end
abbrev knA:Ans:=⟨knO,rp0⟩
abbrev knB:Ans:=⟨knO,⟨6,0,it0⟩⟩
theorem Np7:B7 [knO] ec0=[rp0]:=by rw[B7,B7,Ps7]
theorem PD7:okA [knO] (B7 [knO] ec0) knA=true:=by rw[Np7];unfold okA;rw[df4,if_pos rfl];rfl
theorem Ry7:okA [knO] (B7 [knO] ec0) knB=false:=by rw[Np7];unfold okA;rw[df4,if_pos rfl];rfl
theorem gh4:L6 (okA [knO] (B7 [knO] ec0)) ([[knA]]:List (List Ans)).flatten 0 = -1:=by
 show L6 _ [knA] 0 = -1
 rw[L6,if_pos PD7];rfl
theorem gi4:L6 (okA [knO] (B7 [knO] ec0)) ([[knA],[knB]]:List (List Ans)).flatten 0=1:=by
 show L6 _ [knA,knB] 0=1
 rw[L6,if_pos PD7,L6,if_neg (by rw[Ry7];exact Bool.false_ne_true)];rfl
theorem gj4:TwI [knO] (-1):=.inl ⟨rfl,fun i h=>by
 have:i=0:=by simpa using h
 subst this;show(B6 (l6 ([knO].take 0) ec0) knO).2.1=true
 rw[List.take_zero];show(B6 ec0 knO).2.1=true
 rw[Ps7]⟩
theorem KX7(W w:World)(R:List HP)(hS:St W R w):
  Calls Tryz.prog 24 #[] w fun e w'=>e=.returned (oV 1 1 1 kA kX kN kN 0 5 0 false 0)/\St W R w':=by
 go_enter Tryz.func24,Tryz.ntmps24;go_wp2_with(first|go_big_skip|refine zal hS ?_;clear hS;intro b w hS|refine zsN hS ?_;clear hS;intro w hS);apply Ap7;rfl;rfl;rfl;exact hS;decide +kernel;(exact r6);kernel_rfl;exact⟨rfl,hS.drop⟩
theorem Aq7(W w:World)(R:List HP)(hS:St W R w):
  Calls Tryz.prog 11 #[] w fun e w'=>e=.returned (.bool true)/\St W R w':=by
 go_enter Tryz.func11,Tryz.ntmps11;go_wp2_with(first|go_big_skip|go_at_call 24;refine(KX7 W _ _ hS).mono ?_;clear hS;rintro e w ⟨rfl,hS⟩|go_at_call 8;refine(QJ7 (xs:=[knO]) (by decide) (St.sliceB Opn.len (xs:=[knO]) .head (by rfl) (by rfl) (by decide) hS) hS).mono ?_;clear hS;rintro e w ⟨va,vb,rfl,hS⟩|(fail_if_success (have:=gW));go_at_call 9;refine(If7 (FH7 [knO]) (by decide) (T:=76) (evs:=aD4 [knO]) (by exact i7) (xss:=[[knA]]) ⟨[(.S b2 1 1,[knA])],rfl,St.sliceB (fun _=>rfl) .head (by rfl) (by rfl) (by decide) hS,fun p hp=>by(obtain rfl:=List.mem_singleton.1 hp;exact St.sliceB (b:=b2) Ans.len (xs:=[knA]) (by exact i7) (by rfl) (by rfl) (by decide) hS)⟩ (by decide) gh4 hS).mono ?_;clear hS;have gW:Nat:=0;rintro e w ⟨rfl,hS⟩|(have:=gW);go_at_call 9;refine(If7 (FH7 [knO]) (by decide) (T:=76) (evs:=aD4 [knO]) (by exact i7) (xss:=[[knA],[knB]]) ⟨[(.S b2 1 1,[knA]),(.S b3 1 1,[knB])],rfl,St.sliceB (fun _=>rfl) .head (by rfl) (by rfl) (by decide) hS,fun p hp=>by(rcases List.mem_cons.1 hp with rfl|hp;exact St.sliceB (b:=b2) Ans.len (xs:=[knA]) (by exact i7) (by rfl) (by rfl) (by decide) hS;obtain rfl:=List.mem_singleton.1 hp;exact St.sliceB (b:=b3) Ans.len (xs:=[knB]) (by exact i7) (by rfl) (by rfl) (by decide) hS)⟩ (by decide) gi4 hS).mono ?_;clear hS;rintro e w ⟨rfl,hS⟩|go_at_call 14;refine(No7 (FH7 [knO]) (by decide) (T:=76) (evs:=aD4 [knO]) (by exact i7) hS).mono ?_;clear hS;rintro e w ⟨n9,rfl,hn9,hS⟩;obtain rfl:=ON7 hn9 gj4;clear hn9|(fail_if_success (have:=g1));(refine zbs hS ?_;clear hS;have g1:Nat:=0;intro b1 w hS)|(have:=g1);(fail_if_success (have:=g2));(refine zbs hS ?_;clear hS;have g2:Nat:=0;intro b2 w hS)|(have:=g2);(fail_if_success (have:=g3));(refine zbs hS ?_;clear hS;have g3:Nat:=0;intro b3 w hS)|(have:=g3);(fail_if_success (have:=g4));(refine zbs hS ?_;clear hS;have g4:Nat:=0;intro b4 w hS)|(have:=g4);refine zbs hS ?_;clear hS;intro b5 w hS);go_ret
 exact⟨rfl,hS.s _⟩
def k8{α:Type}(f:α->HP)(l:List α):HP:=sats (l.map f)
section
variable{α:Type}{f:α->HP}{l l':List α}{x:α}{W w:World}{L:List HP}
theorem ef4(f:α->HP)(h:St W L w):St W (k8 f []::L) w:=St.shutS [] h
theorem dv4(h:St W (f x::k8 f l::L) w):St W (k8 f (l++[x])::L) w:=by
 have h2:St W (sats (f x::l.map f)::L) w:=St.join h;refine h2.imp fun _ hf=>?_
 unfold k8;rw[List.map_append];exact AQ7 (List.perm_append_singleton _ _).symm hf
theorem bC4(hx:x∈l)(h:St W (k8 f l::L) w):∃l',l.Perm (x::l')/\St W (f x::k8 f l'::L) w:=by
 obtain⟨s,t,rfl⟩:=List.append_of_mem hx;have h2:St W (sats (f x::(s++t).map f)::L) w:=h.imp fun _=>AQ7 ((List.perm_middle (a:=x) (l₁:=s) (l₂:=t)).map f)
 exact⟨s++t,List.perm_middle,St.split h2⟩
theorem bD4(hp:l.Perm (x::l'))(h:St W (f x::k8 f l'::L) w):St W (k8 f l::L) w:=by have h2:St W (sats (f x::l'.map f)::L) w:=St.join h;exact h2.imp fun _=>AQ7 (hp.symm.map f)
end
def hi4(T:TypeId)(p:Value×List Ans):HP:=row p.1 18 T p.2.length (p.2.flatMap Ans.cells)
theorem Pd7{xs:List Opn}{v:Value}{W w:World}{L:List HP}(hv:C8 Opn.cells 12 w v xs)(hS:St W L w):
  Calls Tryz.prog 7 #[v] w fun e w'=>∃h:Bool,(h=false->xs.length<=150)/\e=.returned (.bool h)/\St W L w':=by
 refine(OZ7 hv w w [] (St.start w)).mono ?_;rintro e w' ⟨h,h1,rfl,h2⟩;exact⟨h,h1,rfl,St.rebase (A:=[]) hS h2⟩
def K8R(W:World)(L:List HP)(D:Ev)(v3 v4:Value)(w:World):Prop:=
 ∃k:Nat,v4=.I k/\k<=D.length/\St W (cd4 v3 ((D.take k).map (·.1))::L) w
theorem QK7{xb:Nat}{d:Ec}(hl:d.vs.length<=1000000)(W w:World)(R:List HP)(hS:St W (s8 xb d::R) w):
  Calls Tryz.prog 39 #[.P xb] w fun e w'=>∃v,e=.returned v/\St W (cd4 v (d.vs.map (·.1))::s8 xb d::R) w':=by
 obtain⟨v1,v2,v3,v4,D,hd,hS0⟩:=cc4 hS;clear hS;have hS:=hS0.s (xeB xb v1 v2 v3 v4::xrP v1 D::A7 D::xsP v2 d.ss::xtP v3 d.ts::xmP v4 d.ar::R);clear hS0;have hD:D.length<=1000000:=by rw[<-FE7,hd];exact hl
 have Hd:=jH hd;clear hd hl;obtain⟨a,cap,rfl⟩:=hS.drop.rowVal;go_enter Tryz.func39,Tryz.ntmps39;go_wp2_with(fail);have hS1:=hS.rowNil (k:=1) (T:=9);clear hS;have hS:=hS1;clear hS1
 go_loopw [3,4] (fun v3' v4' wr=>K8R W (xeB xb (.slice a D.length cap) v2 v3 v4::xrP (.slice a D.length cap) D::A7 D::xsP v2 d.ss::xtP v3 d.ts::xmP v4 d.ar::R) D v3' v4' wr) (fun _ v4' _=>D.length-(intOf v4').toNat)
 case atStart=>exact⟨0,rfl,Nat.zero_le _,hS⟩
 case round=>
  clear hS;obtain⟨k,rfl,hkl,hS⟩:=hrel;by_cases hkn:k=D.length
  ·rw[hkn,List.take_length]at hS;have hd1:decide (k<D.length)=false:=by simp;omega
   clear hkl hkn;go_wp2_with(first|refine zl1 hS ?_);go_ret;refine⟨_,rfl,?_⟩;rw[<-Hd.out,Bw7];exact(bk4 Hd.out (hS.s (cz4 xb (.slice a D.length cap) v2 v3 v4 D d (cd4 _ (D.map (·.1))::R)))).swap
  ·have hk1:k<D.length:=by omega
   have hd1:decide (k<D.length)=true:=by simp;omega
   obtain⟨⟨g,rfl⟩,_,_⟩:=St.rowAddr hS.drop.drop (by omega);have hname:∀{K K':List HP},Take K (xrP (.S g D.length cap) D) K'->i6 K g (k*2) (.string D[k].1):=fun hu=>d8.elemM (enc:=rwC) Bm7 hu hk1 0 _ rfl
   have hstep:=Cd7 (fun x:ByteArray×(Nat×Vs)=>x.1) D hk1;have hbl:((D.take k).map (·.1)).length<=1000000:=by rw[jM,jT];omega
   have Hstep:=jH hstep;clear hstep hkn hkl;generalize (D.take k).map (·.1)=acc at hS Hstep hbl;generalize D[k]=x at hname Hstep;obtain⟨xk,xv⟩:=x;go_wp2_with(first|refine zl1 hS ?_ (hc:=by exact hname (by exact i7))|refine zl1 hS ?_|refine zbs hS ?_;clear hS;intro bS w hS|refine zap hS ?_ (h63:=by unfold maxLen;omega) (hb:=by omega);clear hS;intro v w hS);go_roundw
   case rel=>
    refine⟨k+1,rfl,hk1,?_⟩;rw[Hstep.out];have h0:St W (row v 1 9 (acc.length+1) (acc.map eS++[xk].map eS)::_) w:=hS;rw[<-List.map_append]at h0;unfold cd4;rw[jA,List.length_singleton];exact h0.s _
   case measure=>simp[intOf];omega
def fKv(x:ByteArray×(Nat×Vs)):List Int:=et4 x.1++cA4 (gc4 x.2.2.ps x.2.2.L x.2.2.n)
def fSe(x:Int×(Int×Rpl)):List Int:=bL4 [x.1,x.2.1]++cA4 (rpB x.2.2)
def fAr(x:(Int×Int)×Unit):List Int:=bL4 [x.1.1,x.1.2]
structure VEn(V:Vs):Prop where
 ok:L7 V.ps
 w:PsW V.ps 1000000
 n0:1<=V.n
 n1:V.n<=1099511627777
 may:∀x∈V.L,MayP x
 l32:V.L.length<=32
structure EnB(D:Ev)(ss:List (Int×(Int×Rpl)))(ts:List ((Int×Int)×Tns))(ar:List ((Int×Int)×Unit)):Prop where
 ld:D.length<=10000
 ls:ss.length<=10000
 lt:ts.length<=10000
 la:ar.length<=10000
 lk:(D.flatMap fKv).length<=6000000
 vk:∀x∈D,x.1.size<=16/\VEn x.2.2
 sw:∀x∈ss,de4 (x.1,x.2.1)
 sr:∀x∈ss,RpOk x.2.2
 tw:∀x∈ts,TnOk x.2
 aw:∀x∈ar,de4 x.1
def hj4(D:Ev)(ss:List (Int×(Int×Rpl)))(ts:List ((Int×Int)×Tns))(ar:List ((Int×Int)×Unit)):List Int:=
 aW4 D.length++D.flatMap fKv++aW4 ss.length++ss.flatMap fSe++aW4 ts.length++ts.flatMap enT++aW4 ar.length++ar.flatMap fAr
def TzR(W:World)(Lr:List HP)(n:Nat)(v:Value)(w:World):Prop:=∃i:Nat,v=.I i/\i<=n/\St W Lr w
theorem Pe7{vb N:Nat}{V:Vs}(hw:PsW V.ps N)(hN:N<=1000000)(hmay:∀x∈V.L,MayP x)(hl32:V.L.length<=32){s0 s1 s2 s3:Int}(ht:B5 (bQ4 V) it0=some ⟨s0,s1,s2,s3⟩){W w:World}{R:List HP}(hS:St W (dvP vb V::R) w):
  Calls Tryz.prog 76 #[.P vb] w fun e w'=>e=.returned (.tuple #[.agg #[.I s0,.I s1,.I s2,.I s3],.bool true])/\St W (dvP vb V::R) w':=by
 obtain⟨xB,hS0⟩:=dl4 hS;refine(fc4 vb xB V.ps V.L V.n hw hN hmay hl32 W w R hS0).mono ?_;rintro e w' ⟨rfl,hS⟩;refine⟨?_,bR4 hS⟩;have h1:B5 (bQ4 ⟨V.ps,V.L,V.n⟩) it0=some ⟨s0,s1,s2,s3⟩:=ht;rw[h1,al4,h1];rfl
theorem Pf7{xb:Nat}{d:Ec}(hv:∀x∈d.vs,(PsW x.2.ps 1000000/\(∀o∈x.2.L,MayP o)/\x.2.L.length<=32)/\B5 (bQ4 x.2) it0=some (ai4 x.2))(hl:d.vs.length<=100000){t0 t1 t2 t3:Int}(ht:B5 (d.vs.map fun x=>ai4 x.2) it0=some ⟨t0,t1,t2,t3⟩)(W w:World)(R:List HP)(hS:St W (s8 xb d::R) w):
  Calls Tryz.prog 33 #[.P xb] w fun x w'=>x=.returned (.tuple #[.agg #[.I t0,.I t1,.I t2,.I t3],.bool true])/\St W (s8 xb d::R) w':=by
 obtain⟨v1,v2,v3,v4,D,hd,hS0⟩:=cc4 hS;clear hS;have hS:=hS0.s (xeB xb v1 v2 v3 v4::xrP v1 D::A7 D::xsP v2 d.ss::xtP v3 d.ts::xmP v4 d.ar::R);clear hS0;have hD:D.length<=100000:=by rw[<-FE7,hd];exact hl
 have hvD:∀x∈D,(PsW x.2.2.ps 1000000/\(∀o∈x.2.2.L,MayP o)/\x.2.2.L.length<=32)/\B5 (bQ4 x.2.2) it0=some (ai4 x.2.2):=fun x hx=>hv (x.1,x.2.2) (by rw[<-hd];exact List.mem_map.2 ⟨x,hx,rfl⟩)
 have htD:B5 (D.map fun x=>ai4 x.2.2) it0=some ⟨t0,t1,t2,t3⟩:=by rw[<-hd]at ht;unfold k9 at ht;rw[List.map_map]at ht;exact ht
 have Hd:=jH hd;have HvD:=jH hvD;have HtD:=jH htD;clear hd hl hv ht hvD htD;obtain⟨a,cap,rfl⟩:=hS.drop.rowVal;go_enter Tryz.func33,Tryz.ntmps33;go_wp2_with(first|refine zal hS ?_;clear hS;intro b0 w hS);have hS1:=hS.rowNil (k:=4) (T:=34);clear hS;have hS:=hS1;clear hS1
 go_loopw [4,5] (fun v4' v5 wr=>TtR W (blk b0 [.I 0,.I 0,.I 0,.I 0] 34::xeB xb (.slice a D.length cap) v2 v3 v4::xrP (.slice a D.length cap) D::A7 D::xsP v2 d.ss::xtP v3 d.ts::xmP v4 d.ar::R) D.length (fun k=>(D.take k).map fun x=>ai4 x.2.2) v4' v5 wr) (fun _ v5 _=>D.length-(intOf v5).toNat)
 case atStart=>exact⟨0,rfl,Nat.zero_le _,hS⟩
 case round=>
  clear hS;obtain⟨k,rfl,hkl,hS⟩:=hrel;dsimp only at hS;by_cases hkn:k=D.length
  ·rw[hkn,List.take_length]at hS;have hd1:decide (k<D.length)=false:=by simp;omega
   clear hkl hkn;generalize (D.map fun x=>ai4 x.2.2)=acc at hS HtD;go_wp2_with(first|refine zl1 hS ?_|go_at_call 36;refine(HK7 HtD.out _ W _ _ hS).mono ?_;clear hS;rintro ex w ⟨rfl,hS⟩|refine zsN hS ?_;clear hS;intro w hS);apply Ac7;rfl;rfl;rfl;rfl;exact hS;decide +kernel;(exact r6);kernel_rfl;exact⟨rfl,bk4 Hd.out (hS.s _)⟩
  ·have hk1:k<D.length:=by omega
   have hd1:decide (k<D.length)=true:=decide_eq_true hk1;obtain⟨⟨g,rfl⟩,_,_⟩:=St.rowAddr hS.drop.drop.drop (by omega);have hcp:∀{K K':List HP},Take K (xrP (.S g D.length cap) D) K'->i6 K g (k*2+1) (.pointer (some ⟨D[k].2.1,0,none⟩)):=fun hu=>d8.elemM (enc:=rwC) Bm7 hu hk1 1 _ rfl
   have hstep:=Cd7 (fun x:ByteArray×(Nat×Vs)=>ai4 x.2.2) D hk1;have hmx:=HvD.out _ (jW hk1);have hbl:((D.take k).map fun x=>ai4 x.2.2).length<=100000:=by rw[jM,jT];omega
   have hop:∀(w:World) (K:List HP),St W (A7 D::K) w->St W (dvP D[k].2.1 D[k].2.2::A7 (D.take k++D.drop (k+1))::K) w:=fun w K h=>by
    have h1:St W (A7 (D.take k++D[k]::D.drop (k+1))::K) w:=by rw[<-List.drop_eq_getElem_cons hk1,List.take_append_drop];exact h
    exact cO4 h1
   have hcl:∀(w:World) (K:List HP),St W (dvP D[k].2.1 D[k].2.2::A7 (D.take k++D.drop (k+1))::K) w->St W (A7 D::K) w:=fun w K h=>by have h1:=cP4 h;rwa [<-List.drop_eq_getElem_cons hk1,List.take_append_drop]at h1
   generalize D.take k++D.drop (k+1)=D2 at hop hcl;generalize ((D.take k).map fun x=>ai4 x.2.2)=acc at hS hstep hbl;generalize D[k]=x at hcp hstep hmx hop hcl;obtain⟨xk,vb,V⟩:=x;obtain⟨⟨s0,s1,s2,s3⟩,hs⟩:∃z,ai4 V=z:=⟨_,rfl⟩
   obtain⟨hw,ht⟩:=hmx;simp only at hcp hop hcl hw ht hstep;rw[hs]at ht hstep;have Hstep:=jH hstep;have Hw:=jH hw;have Ht:=jH ht;have Hop:=jH hop;have Hcl:=jH hcl;clear hstep hw ht hop hcl hs hkn hkl;go_wp2_with(first|refine zl1 hS ?_ (hc:=by exact hcp (by exact i7))|refine zl1 hS ?_|go_at_call 76;refine(Pe7 Hw.out.1 (Nat.le_refl _) Hw.out.2.1 Hw.out.2.2 Ht.out (Hop.out _ _ (hS.s (A7 D::L5 _ acc::blk b0 _ _::xeB xb (.S g D.length cap) v2 v3 v4::xrP (.S g D.length cap) D::xsP v2 d.ss::xtP v3 d.ts::xmP v4 d.ar::R)))).mono ?_;clear hS;rintro e w ⟨rfl,hS0⟩;have hS:=(Hcl.out _ _ hS0).s (L5 _ acc::A7 D::blk b0 _ _::xeB xb (.S g D.length cap) v2 v3 v4::xrP (.S g D.length cap) D::xsP v2 d.ss::xtP v3 d.ts::xmP v4 d.ar::R);clear hS0|refine zal hS ?_;clear hS;intro b6 w hS|refine zsN hS ?_;clear hS;intro w hS|refine zlN hS ?_|refine zbs hS ?_;clear hS;intro bS w hS|refine zap hS ?_ (h63:=by unfold maxLen;omega) (hb:=by omega);clear hS;intro v w hS);go_roundw
   case rel=>
    refine⟨k+1,rfl,hk1,?_⟩;dsimp only;rw[Hstep.out];unfold L5;rw[CP7,jA,List.length_singleton];have h0:St W (row v 4 34 (acc.length+1) (acc.flatMap It.cells++It.cells ⟨s0,s1,s2,s3⟩)::_) w:=hS;exact h0.s _
   case measure=>simp[intOf];omega
end Go.Proofs.YtienbkdjkjbelaaGreat
end
section
namespace Go.Sl
open Go.RowKit
structure Same(L L':List HP):Prop where
 to:∀{f:O8},sats L f->sats L' f
 back:∀{f:O8},sats L' f->sats L f
theorem Same.refl{L:List HP}:Same L L:=⟨fun h=>h,fun h=>h⟩
theorem Same.of{A:HP}{L R R':List HP}(h:Take L A R)(h2:Same R R'):Same L (A::R'):=
 ⟨fun hs=>AL7 (fun _ x=>x) (fun _ x=>h2.to x) (h.sats hs),fun hs=>h.back (AL7 (fun _ x=>x) (fun _ x=>h2.back x) hs)⟩
theorem Same.st{W w:World}{L L':List HP}(h:Same L L')(hS:St W L w):St W L' w:=⟨hS.os,hS.tape,hS.output,h.to hS.sat⟩
theorem Same.ts{W w:World}{L L':List HP}{X:HP}(h:Same L L')(hS:St W (X::L') w):St W (X::L) w:=⟨hS.os,hS.tape,hS.output,AL7 (fun _ x=>x) (fun _ x=>h.back x) hS.sat⟩
def hl4(ns:List Int):ByteArray:=ns.foldl (fun r n=>r.push (UInt8.ofNat n.toNat)) ByteArray.empty
section
variable{P:Program}{W:World}{ops:Array Oper}{t:List Nat}{toks:List Tok}{fresh:Nat->Bool}{pin:Nat->Option Value}{Qf:Act->Prop}{nd:Nat->Value}{i:Nat}{l:List Oper}{a:Act}{o:Oper}
theorem Bo7{ty t2:TypeId}{x y:Operand}{xs ys:Array Value}{r:Bool}(hf:fresh i=false)(hn:au4 toks i=true)(ho:o.op=.binOp .eql ty x y t2)(hg:Region.wanted o (yielded ops a.tmps)=true)(hx:a.eval x=.agg xs)(hy:a.eval y=.agg ys)(hm:P.eqGuardType P.depth ty=false)(hr:∀w:World,(Op.equalIn 10000 ty (.agg xs) (.agg ys)).run P w=.ok r w)
  (h:l7 P W ops t toks fresh pin Qf nd (i+1) l (a.put o.dst (.bool r))):l7 P W ops t toks fresh pin Qf nd i (o::l) a:=
 EZ7 hf hn hg (fun F w _=>by unfold execOp;simp[ho,hx,hy,run_eqGuard_agg w .eql ty x y xs ys hm,run_eql_struct,hr]) h
end
end Go.Sl
namespace Go.Proofs.YtienbkdjkjbelaaGreat
open Go.RowKit Go.Sl
section
variable{W w:World}{vb mb bb xb xB:Nat}{p:Ps}{L:List Ord}{n:Int}{N:Nat}{L1 R3:List HP}
end
def OnR(W:World)(L:List HP)(n:Nat)(v:Value)(w:World):Prop:=∃i:Nat,v=.I i/\i<=n/\St W L w
theorem Ig7{eb:Nat}{e:Ec}{X:List ((Int×Int)×Tns)}(hX:X.Perm e.ts)(hA:Asc ltW X)(hl:e.ts.length<=1000000){W w:World}{L R:List HP}(ht:Take L (ecP eb e) R)(hS:St W L w):
  Calls Tryz.prog 29 #[.P eb] w fun x w'=>∃v,x=.returned v/\St W (xtP v X::L) w':=by
 refine(GC7 (by omega) W w R (hS.take ht)).mono ?_;rintro x w' ⟨v,T,rfl,hT,hT2,hS⟩;obtain rfl:X=T:=Ql7 AA7 hA hT2 (hX.trans hT.symm);exact⟨v,rfl,hS.swap.back (Take.tail ht)⟩
def isB(f t:ByteArray):Bool:=decide ((f.size:Int)<=16)&&(decide ((t.size:Int)<=16)&&((t.toList==[])||(!ltB t f&&!(t.toList==f.toList))))
def inB(f t k:ByteArray):Bool:=isB f t&&(decide (1<=(k.size:Int))&&(decide ((k.size:Int)<=16)&&(!(ltB k f)&&((t.toList==[])||ltB k t))))
theorem Gg7{f t:ByteArray}{r:Bool}(hr:isB f t=r)(W w:World)(R:List HP)(hS:St W R w):
  Calls Tryz.prog 80 #[.agg #[.string f,.string t]] w fun e w'=>e=.returned (.bool r)/\St W R w':=by
 go_enter Tryz.func80,Tryz.ntmps80;unfold isB at hr
 cases h1:decide ((f.size:Int)<=16)with
 | false=>
  rw[h1]at hr;obtain rfl:false=r:=hr;go_wp2_with(first|go_big_skip|refine zbx hS ?_;clear hS;intro bO w hS|refine zl1 hS ?_);go_ret;exact⟨rfl,hS.drop⟩
 | true=>
  rw[h1]at hr
  cases h2:decide ((t.size:Int)<=16)with
  | false=>
   rw[h2]at hr;obtain rfl:false=r:=hr;go_wp2_with(first|go_big_skip|refine zbx hS ?_;clear hS;intro bO w hS|refine zl1 hS ?_);go_ret;exact⟨rfl,hS.drop⟩
  | true=>
   rw[h2]at hr
   cases h3:t.toList==[]with
   | true=>
    rw[h3]at hr;obtain rfl:true=r:=hr;go_wp2_with(first|go_big_skip|refine zbx hS ?_;clear hS;intro bO w hS|refine zl1 hS ?_);go_ret;exact⟨rfl,hS.drop⟩
   | false=>
    rw[h3]at hr;have hr2:(!ltB t f&&!(t.toList==f.toList))=r:=hr;have Hr:=jH hr2;clear hr hr2;go_wp2_with(first|refine zbx hS ?_;clear hS;intro bO w hS|refine zl1 hS ?_);go_ret;rw[<-Hr.out];exact⟨rfl,hS.drop⟩
theorem Gh7{f t:ByteArray}{r:Bool}(hr:isB f t=r)(W w:World)(R:List HP)(hS:St W R w):
  Calls Tryz.prog 81 #[.agg #[.string f,.string t]] w fun e w'=>e=.returned (.bool r)/\St W R w':=by
 go_enter Tryz.func81,Tryz.ntmps81;unfold isB at hr
 cases h1:decide ((f.size:Int)<=16)with
 | false=>
  rw[h1]at hr;obtain rfl:false=r:=hr;go_wp2_with(first|go_big_skip|refine zbx hS ?_;clear hS;intro bO w hS|refine zl1 hS ?_);go_ret;exact⟨rfl,hS.drop⟩
 | true=>
  rw[h1]at hr
  cases h2:decide ((t.size:Int)<=16)with
  | false=>
   rw[h2]at hr;obtain rfl:false=r:=hr;go_wp2_with(first|go_big_skip|refine zbx hS ?_;clear hS;intro bO w hS|refine zl1 hS ?_);go_ret;exact⟨rfl,hS.drop⟩
  | true=>
   rw[h2]at hr
   cases h3:t.toList==[]with
   | true=>
    rw[h3]at hr;obtain rfl:true=r:=hr;go_wp2_with(first|go_big_skip|refine zbx hS ?_;clear hS;intro bO w hS|refine zl1 hS ?_);go_ret;exact⟨rfl,hS.drop⟩
   | false=>
    rw[h3]at hr;have hr2:(!ltB t f&&!(t.toList==f.toList))=r:=hr;have Hr:=jH hr2;clear hr hr2;go_wp2_with(first|refine zbx hS ?_;clear hS;intro bO w hS|refine zl1 hS ?_);go_ret;rw[<-Hr.out];exact⟨rfl,hS.drop⟩
theorem PE7{f t k:ByteArray}{r:Bool}(hr:inB f t k=r)(W w:World)(R:List HP)(hS:St W R w):
  Calls Tryz.prog 38 #[.agg #[.string f,.string t],.string k] w fun e w'=>e=.returned (.bool r)/\St W R w':=by
 go_enter Tryz.func38,Tryz.ntmps38;unfold inB at hr
 cases h1:isB f t with
 | false=>
  rw[h1]at hr;obtain rfl:false=r:=hr;have H1:=jH h1;clear h1;go_wp2_with(first|go_big_skip|refine zbx hS ?_;clear hS;intro bO w hS|refine zlN hS ?_|go_at_call 80;refine(Gg7 H1.out W _ _ hS).mono ?_;clear hS;rintro e w ⟨rfl,hS⟩);go_ret;exact⟨rfl,hS.drop⟩
 | true=>
  rw[h1]at hr;have H1:=jH h1;clear h1
  cases h2:decide (1<=(k.size:Int))with
  | false=>
   rw[h2]at hr;obtain rfl:false=r:=hr;go_wp2_with(first|go_big_skip|refine zbx hS ?_;clear hS;intro bO w hS|refine zlN hS ?_|go_at_call 80;refine(Gg7 H1.out W _ _ hS).mono ?_;clear hS;rintro e w ⟨rfl,hS⟩);go_ret;exact⟨rfl,hS.drop⟩
  | true=>
   rw[h2]at hr
   cases h3:decide ((k.size:Int)<=16)with
   | false=>
    rw[h3]at hr;obtain rfl:false=r:=hr;go_wp2_with(first|go_big_skip|refine zbx hS ?_;clear hS;intro bO w hS|refine zlN hS ?_|go_at_call 80;refine(Gg7 H1.out W _ _ hS).mono ?_;clear hS;rintro e w ⟨rfl,hS⟩);go_ret;exact⟨rfl,hS.drop⟩
   | true=>
    rw[h3]at hr
    cases h4:Op.bytesLess k.toList f.toList with
    | true=>
     rw[show ltB k f=true from h4]at hr;obtain rfl:false=r:=hr;go_wp2_with(first|go_big_skip|refine zbx hS ?_;clear hS;intro bO w hS|refine zlN hS ?_|refine zl1 hS ?_|go_at_call 80;refine(Gg7 H1.out W _ _ hS).mono ?_;clear hS;rintro e w ⟨rfl,hS⟩);go_ret;exact⟨rfl,hS.drop⟩
    | false=>
     rw[show ltB k f=false from h4]at hr
     cases h5:t.toList==[]with
     | true=>
      rw[h5]at hr;obtain rfl:true=r:=hr;go_wp2_with(first|refine zbx hS ?_;clear hS;intro bO w hS|refine zlN hS ?_|refine zl1 hS ?_|go_at_call 80;refine(Gg7 H1.out W _ _ hS).mono ?_;clear hS;rintro e w ⟨rfl,hS⟩);go_ret;exact⟨rfl,hS.drop⟩
     | false=>
      rw[h5]at hr;have hr2:ltB k t=r:=hr;have Hr:=jH hr2;clear hr hr2;go_wp2_with(first|refine zbx hS ?_;clear hS;intro bO w hS|refine zlN hS ?_|refine zl1 hS ?_|go_at_call 80;refine(Gg7 H1.out W _ _ hS).mono ?_;clear hS;rintro e w ⟨rfl,hS⟩);go_ret;rw[<-Hr.out];exact⟨rfl,hS.drop⟩
theorem PF7{f t k:ByteArray}{r:Bool}(hr:inB f t k=r)(W w:World)(R:List HP)(hS:St W R w):
  Calls Tryz.prog 40 #[.agg #[.string f,.string t],.string k] w fun e w'=>e=.returned (.bool r)/\St W R w':=by
 go_enter Tryz.func40,Tryz.ntmps40;unfold inB at hr
 cases h1:isB f t with
 | false=>
  rw[h1]at hr;obtain rfl:false=r:=hr;have H1:=jH h1;clear h1;go_wp2_with(first|go_big_skip|refine zbx hS ?_;clear hS;intro bO w hS|refine zlN hS ?_|go_at_call 81;refine(Gh7 H1.out W _ _ hS).mono ?_;clear hS;rintro e w ⟨rfl,hS⟩);go_ret;exact⟨rfl,hS.drop⟩
 | true=>
  rw[h1]at hr;have H1:=jH h1;clear h1
  cases h2:decide (1<=(k.size:Int))with
  | false=>
   rw[h2]at hr;obtain rfl:false=r:=hr;go_wp2_with(first|go_big_skip|refine zbx hS ?_;clear hS;intro bO w hS|refine zlN hS ?_|go_at_call 81;refine(Gh7 H1.out W _ _ hS).mono ?_;clear hS;rintro e w ⟨rfl,hS⟩);go_ret;exact⟨rfl,hS.drop⟩
  | true=>
   rw[h2]at hr
   cases h3:decide ((k.size:Int)<=16)with
   | false=>
    rw[h3]at hr;obtain rfl:false=r:=hr;go_wp2_with(first|go_big_skip|refine zbx hS ?_;clear hS;intro bO w hS|refine zlN hS ?_|go_at_call 81;refine(Gh7 H1.out W _ _ hS).mono ?_;clear hS;rintro e w ⟨rfl,hS⟩);go_ret;exact⟨rfl,hS.drop⟩
   | true=>
    rw[h3]at hr
    cases h4:Op.bytesLess k.toList f.toList with
    | true=>
     rw[show ltB k f=true from h4]at hr;obtain rfl:false=r:=hr;go_wp2_with(first|go_big_skip|refine zbx hS ?_;clear hS;intro bO w hS|refine zlN hS ?_|refine zl1 hS ?_|go_at_call 81;refine(Gh7 H1.out W _ _ hS).mono ?_;clear hS;rintro e w ⟨rfl,hS⟩);go_ret;exact⟨rfl,hS.drop⟩
    | false=>
     rw[show ltB k f=false from h4]at hr
     cases h5:t.toList==[]with
     | true=>
      rw[h5]at hr;obtain rfl:true=r:=hr;go_wp2_with(first|refine zbx hS ?_;clear hS;intro bO w hS|refine zlN hS ?_|refine zl1 hS ?_|go_at_call 81;refine(Gh7 H1.out W _ _ hS).mono ?_;clear hS;rintro e w ⟨rfl,hS⟩);go_ret;exact⟨rfl,hS.drop⟩
     | false=>
      rw[h5]at hr;have hr2:ltB k t=r:=hr;have Hr:=jH hr2;clear hr hr2;go_wp2_with(first|refine zbx hS ?_;clear hS;intro bO w hS|refine zlN hS ?_|refine zl1 hS ?_|go_at_call 81;refine(Gh7 H1.out W _ _ hS).mono ?_;clear hS;rintro e w ⟨rfl,hS⟩);go_ret;rw[<-Hr.out];exact⟨rfl,hS.drop⟩
theorem Nq7(xs:List Opn):∀i,i<=xs.length->EnT (l6 (xs.take i) ec0) i
 | 0,_=>by rw[List.take_zero];exact gN4
 | i+1,h=>by have h1:=CZ7 xs i (by omega);have h3:=GJ7 h1.ok.ok h1.each xs[i];have h2:=OQ7 _ _ xs[i] (Nq7 xs i (by omega)) h1.each h3.2 h3.1;rw[Ep7 (by omega)];exact h2
theorem QL7(xs:List Opn):EnT (l6 xs ec0) xs.length:=by have:=Nq7 xs xs.length (Nat.le_refl _);rwa [List.take_length]at this
section
variable{xs:List Opn}{eb xb:Nat}{W w:World}{L R:List HP}
theorem dw4(hlen:xs.length<=150):∀k,Kx k->K6 (l6 xs ec0) k<=500000000:=fun k hk=>by have:=(QL7 xs).tt (by omega) k hk;omega
theorem QM7{s0 s1 s2 s3:Int}(hlen:xs.length<=150)(hs:dF4 (l6 xs ec0)=⟨s0,s1,s2,s3⟩)(hS:St W (ecP eb (l6 xs ec0)::R) w):
  Calls Tryz.prog 28 #[.P eb] w fun x w'=>x=.returned (.tuple #[.agg #[.I s0,.I s1,.I s2,.I s3],.bool true])/\St W (ecP eb (l6 xs ec0)::R) w':=by
 have hj:=CA7 xs;have hE:=FG7 xs;have ht:=PA7 hE.en.ok hj.each (dw4 hlen);have hv:=Pz7 hE.en.ok hj.each (dw4 hlen);have hl:=hE.en.lv;rw[show(⟨K6 (l6 xs ec0) 0,K6 (l6 xs ec0) 1,K6 (l6 xs ec0) 2,K6 (l6 xs ec0) 3⟩:It)=⟨s0,s1,s2,s3⟩from hs]at ht;exact OJ7 hE.en.ok (by omega) (by omega) hv ht W w R hS
theorem QN7{s0 s1 s2 s3:Int}(hlen:xs.length<=150)(hs:dF4 (l6 xs ec0)=⟨s0,s1,s2,s3⟩)(hS:St W (s8 xb (D6 xs ec0)::R) w):
  Calls Tryz.prog 33 #[.P xb] w fun x w'=>x=.returned (.tuple #[.agg #[.I s0,.I s1,.I s2,.I s3],.bool true])/\St W (s8 xb (D6 xs ec0)::R) w':=by
 have hj:=CA7 xs;have hE:=FG7 xs;have hsim:=hj.ok.sim;have hD:=QE7 hE hsim;have heD:=OP7 hj.each hsim;have ht:=PA7 hE.en.ok hj.each (dw4 hlen) _ (hsim.v.map fun x=>ai4 x.2);have hv:=Pz7 hE.en.ok hj.each (dw4 hlen);have hl:=hD.en.lv;have htvD:∀x∈(D6 xs ec0).vs,(PsW x.2.ps 1000000/\(∀o∈x.2.L,MayP o)/\x.2.L.length<=32)/\B5 (bQ4 x.2) it0=some (ai4 x.2):=fun x hx=>⟨⟨Al7 (hD.en.ok x hx).w (by omega),(heD x hx).1,(heD x hx).2⟩,hv x (hsim.v.mem_iff.1 hx)⟩
 rw[show(⟨K6 (l6 xs ec0) 0,K6 (l6 xs ec0) 1,K6 (l6 xs ec0) 2,K6 (l6 xs ec0) 3⟩:It)=⟨s0,s1,s2,s3⟩from hs]at ht;exact Pf7 htvD (by omega) ht W w R hS
theorem Rz7(hlen:xs.length<=150)(hS:St W (ecP eb (l6 xs ec0)::R) w):
  Calls Tryz.prog 29 #[.P eb] w fun x w'=>∃v,x=.returned v/\St W (xtP v (D6 xs ec0).ts::ecP eb (l6 xs ec0)::R) w':=by
 have hj:=CA7 xs;have hE:=FG7 xs;have hl:=hE.en.lt;exact Ig7 hj.ok.sim.t hj.ok.sim.ta (by omega) .head hS
theorem Nr7{cl sq:Int}{b:Bool}(hb:(j6 (l6 xs ec0).ar (cl,sq)).isSome=b)(hS:St W (ecP eb (l6 xs ec0)::R) w):
  Calls Tryz.prog 30 #[.P eb,.I cl,.I sq] w fun x w'=>x=.returned (.bool b)/\St W (ecP eb (l6 xs ec0)::R) w':=
 gG4 .head hb hS
theorem Ns7{cl sq:Int}{b:Bool}(hb:(j6 (l6 xs ec0).ar (cl,sq)).isSome=b)(hS:St W (s8 xb (D6 xs ec0)::R) w):
  Calls Tryz.prog 34 #[.P xb,.I cl,.I sq] w fun x w'=>x=.returned (.bool b)/\St W (s8 xb (D6 xs ec0)::R) w':=by
 have hsim:=(CA7 xs).ok.sim;exact ga4 .head (by rw[AF7 hsim.an hsim.a];exact hb) hS
end
theorem eK4(xs:List Opn):∀x∈(D6 xs ec0).ts,TnOk x.2/\x.1=(x.2.client,x.2.seq):=fun x hx=>by have hj:=CA7 xs;exact(FG7 xs).en.tw x (hj.ok.sim.t.mem_iff.1 hx)
theorem PG7(xs:List Opn):(D6 xs ec0).ts.length<=xs.length:=(CA7 xs).ok.lt
def aL4(x0:List Opn)(yss:List (List Opn)):List It:=dg4 (l6 x0 ec0) (yss.map fun ys=>(D6 ys ec0,l6 ys ec0))
theorem Nt7(x0:List Opn){yss:List (List Opn)}{k:Nat}(h:k<yss.length):aL4 x0 (yss.take (k+1))=aL4 x0 (yss.take k)++(dF4 (l6 yss[k] ec0)::ap4 (l6 x0 ec0) (D6 yss[k] ec0).ts):=by unfold aL4;rw[List.take_succ_eq_append_getElem h,List.map_append,Ka7];simp[dg4]
def ecX(p:Nat×List Opn):HP:=ecP p.1 (l6 p.2 ec0)
def w7(p:Nat×List Opn):HP:=s8 p.1 (D6 p.2 ec0)
end Go.Proofs.YtienbkdjkjbelaaGreat
end
