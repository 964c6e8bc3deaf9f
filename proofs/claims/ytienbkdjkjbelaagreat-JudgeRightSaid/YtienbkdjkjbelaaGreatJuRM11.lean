/-
  heap.Push, heap.Pop, heap.Remove at a pile of orders.
-/
import Derived.Test.YtienbkdjkjbelaaGreatJuRM5
import Derived.Test.YtienbkdjkjbelaaGreatJuRM10
set_option maxHeartbeats 16000000
set_option maxRecDepth 100000
set_option linter.unusedSimpArgs false
set_option linter.unusedVariables false
section
namespace Go.Proofs.YtienbkdjkjbelaaGreat
open Go.RowKit Go.Sl
theorem IL7(xs:List Ord)(o:Ord)(l:List Value)(T:TypeId)(bb off n:Nat)(v:Value)(hn:xs.length=n)(h63:n<=4294967296)(hl:l[off]? = some v)(W w:World)(L:List HP)
  (hS:St W (blk bb l T::row v 6 173 n (xs.flatMap Ord.cells)::L) w):
  Calls Tryz.prog 190 #[.iface 253 (.pointer (some ⟨bb,off,none⟩)),.iface 173 (.agg o.cells.toArray)] w fun e w'=>∃v',e=.returned (.tuple #[])/\St W (blk bb (l.set off v') T::row v' 6 173 (n+1) ((upF n (xs++[o]) n).flatMap Ord.cells)::L) w':=by
 have hlt:off<l.length:=(List.getElem?_eq_some_iff.1 hl).1;go_enter Tryz.func190,Tryz.ntmps190;have Hlen:=jH (show(xs++[o]).length=n+1 by simp[hn]);have Hn:=jH hn;have Hl:=jH hl;clear hn hl;go_wp2_with(first|((with_reducible apply BL7 257);rfl;rfl;rfl;decide +kernel;decide +kernel;decide +kernel;(focus(simp only[fD,fI,fJ,Act.eval,fE,fF,fG,fH,fK];try rfl));simp only[List.append_toArray,jK,jN];refine Calls.mono (IJ7 xs o l T bb off n v Hn.out h63 Hl.out W _ L hS) ?_;clear hS;rintro e w ⟨v',rfl,hS⟩;refine⟨_,rfl,?_⟩;refine frS ?_;have h1:=hS.swap.rowOpen;clear hS;rcases h1 with ⟨_,h0,_⟩ | ⟨g,cap,junk,rfl,hn1,hm1,hj1,hl1,hS⟩;exfalso;omega;have hm':cap<=9223372036854775807:=(by unfold maxLen at hm1;omega))|(with_reducible apply Ai7 254 hS);rfl;rfl;rfl;decide +kernel;decide +kernel;decide +kernel;(first | exact i6.there (i6.here (List.getElem?_set_self hlt)) | exact aa4);(focus(simp only[fD,fI,fJ,Act.eval,fE,fF,fG,fH,fK];try rfl));simp only[List.append_toArray,jK,jN];refine Calls.mono (Cg7 _ (n+1) cap W _ _ hS) ?_;(clear hS;rintro e w ⟨rfl,hS⟩;refine⟨_,rfl,?_⟩;try(refine frS ?_))|go_at_call 216;refine(JG7 (xs++[o]) junk _ T bb off g (n+1) cap n Hlen.out (by omega) hn1 hm1 (List.getElem?_set_self hlt) W _ L hS.swap).mono ?_;clear hS;rintro e w ⟨rfl,hS⟩);go_end0;refine⟨.S g (n+1) cap,rfl,?_⟩;have hS:=hS.swap;refine(St.rowShut hS hn1 hm1 ?_ ?_).swap
 ·rw[jA,Ab7 Ord.len,BP7,Hlen.out];rw[jA,hl1]at hj1;exact hj1
 ·rw[Ab7 Ord.len,BP7,Hlen.out]
def au4(xs:List Ord)(n:Nat)(h:xs.length=n+1):List Ord:=(A9 n (D5 xs 0 n (by omega) (by omega)) 0 n).1
theorem AG7{xs:List Ord}{n:Nat}(h:xs.length=n+1):(au4 xs n h).length=n+1:=by rw[au4,Bd7,Af7,h]
theorem JH7(xs:List Ord)(junk l:List Value)(T:TypeId)(bb off g n cap:Nat)(hn:xs.length=n+1)(hcap:n+1<=cap)(hm:cap<=maxLen)(h63:n<=4294967296)(hl:l[off]? = some (.S g (n+1) cap))(W w:World)(L:List HP)
  (hS:St W (blk bb l T::blk g (xs.flatMap Ord.cells++junk) 173::L) w):
  Calls Tryz.prog 192 #[.iface 253 (.pointer (some ⟨bb,off,none⟩))] w fun e w'=>e=.returned (.iface 173 (.agg ((au4 xs n hn)[n]'(by rw[AG7];omega)).cells.toArray)) /\
   St W (blk bb (l.set off (.S g n cap)) T::blk g ((au4 xs n hn).flatMap Ord.cells++junk) 173::L) w':=by
 have hm':cap<=9223372036854775807:=by unfold maxLen at hm;omega
 have Hn:=jH hn;go_enter Tryz.func192,Tryz.ntmps192;go_wp2_with(first|(with_reducible apply Ai7 254 hS);rfl;rfl;rfl;decide +kernel;decide +kernel;decide +kernel;(first|exact i6.here hl|exact aa4);(focus(simp only[fD,fI,fJ,Act.eval,fE,fF,fG,fH,fK];try rfl));simp only[List.append_toArray,jK,jN];refine Calls.mono (Cg7 _ (n+1) cap W _ _ hS) ?_;(clear hS;rintro e w ⟨rfl,hS⟩;refine⟨_,rfl,?_⟩;try(refine frS ?_))|(with_reducible apply Ai7 258 hS);rfl;rfl;rfl;decide +kernel;decide +kernel;decide +kernel;(first|exact i6.here hl|exact aa4);(focus(simp only[fD,fI,fJ,Act.eval,fE,fF,fG,fH,fK];try rfl));simp only[List.append_toArray,jK,jN];refine Calls.mono (Bl7 xs junk g (n+1) cap 0 n Hn.out (by omega) (by omega) hcap hm _ _ _ hS.swap) ?_;(clear hS;rintro e w ⟨rfl,hS⟩;refine⟨_,rfl,?_⟩;try(refine frS ?_))|go_at_call 217;refine(Gw7 (D5 xs 0 n (by omega) (by omega)) junk l T bb off g (n+1) cap 0 n (by rw[Af7];exact Hn.out) (by omega) (by omega) h63 hcap hm hl W _ L hS.swap).mono ?_;clear hS;rintro e w ⟨rfl,hS⟩|(with_reducible apply BL7 256);rfl;rfl;rfl;decide +kernel;decide +kernel;decide +kernel;(focus(simp only[fD,fI,fJ,Act.eval,fE,fF,fG,fH,fK];try rfl));simp only[List.append_toArray,jK,jN];refine Calls.mono (Gt7 (au4 xs n hn) junk l T bb off g n cap (AG7 hn) hcap hm hl W _ L hS) ?_;clear hS;rintro e w ⟨rfl,hS⟩;refine⟨_,rfl,?_⟩;refine frS ?_);go_ret;exact⟨rfl,hS⟩
def aD4(xs:List Ord)(i n:Nat)(h:xs.length=n+1)(hi:i<=n):List Ord:=
 if i=n then xs else
  if i<(A9 n (D5 xs i n (by omega) (by omega)) i n).2 then(A9 n (D5 xs i n (by omega) (by omega)) i n).1
  else upF i (A9 n (D5 xs i n (by omega) (by omega)) i n).1 i
theorem Br7{xs:List Ord}{i n:Nat}(h:xs.length=n+1)(hi:i<=n):(aD4 xs i n h hi).length=n+1:=by
 unfold aD4;split
 ·exact h
 ·split
  ·rw[Bd7,Af7,h]
  ·rw[BP7,Bd7,Af7,h]
theorem Hq7(xs:List Ord)(x:Ord)(junk:List Value)(l:List Value)(T:TypeId)(bb off g n cap:Nat)(hx:xs[n]? = some x)(hn:xs.length=n+1)(hcap:n+1<=cap)(hm:cap<=maxLen)(hl:l[off]? = some (.S g (n+1) cap))(W w:World)(L:List HP)
  (hS:St W (blk bb l T::blk g (xs.flatMap Ord.cells++junk) 173::L) w):
  Calls Tryz.prog 256 #[.pointer (some ⟨bb,off,none⟩)] w fun e w'=>e=.returned (.iface 173 (.agg x.cells.toArray))/\St W (blk bb (l.set off (.S g n cap)) T::blk g (xs.flatMap Ord.cells++junk) 173::L) w':=by
 have h:n<xs.length:=by omega
 have e:xs[n]=x:=by rw[jG h]at hx;exact Option.some.inj hx
 rw[<-e];exact Gt7 xs junk l T bb off g n cap hn hcap hm hl W w L hS
theorem JI7(xs zs:List Ord)(x:Ord)(junk l:List Value)(T:TypeId)(bb off g i n cap:Nat)(hn:xs.length=n+1)(hi:i<=n)(hr:aD4 xs i n hn hi=zs)(hx:zs[n]? = some x)(hcap:n+1<=cap)(hm:cap<=maxLen)(h63:n<=4294967296)(hl:l[off]? = some (.S g (n+1) cap))(W w:World)(L:List HP)
  (hS:St W (blk bb l T::blk g (xs.flatMap Ord.cells++junk) 173::L) w):
  Calls Tryz.prog 196 #[.iface 253 (.pointer (some ⟨bb,off,none⟩)),.I i] w fun e w'=>e=.returned (.iface 173 (.agg x.cells.toArray)) /\
   St W (blk bb (l.set off (.S g n cap)) T::blk g (zs.flatMap Ord.cells++junk) 173::L) w':=by
 have hm':cap<=9223372036854775807:=by unfold maxLen at hm;omega
 have Hrl:=jH (show zs.length=n+1 from hr▸Br7 hn hi);have Hx:=jH hx;clear hx;have hi63:i<=4294967296:=by omega
 by_cases hin:i=n
 ·unfold aD4 at hr;rw[if_pos hin]at hr;subst hin hr;clear hn;have hne:((i:Int) != (i:Int))=false:=by simp
  obtain⟨n,rfl⟩:∃n,n=i:=⟨_,rfl⟩
  go_enter Tryz.func196,Tryz.ntmps196;go_wp2_with(first|(with_reducible apply Ai7 254 hS);rfl;rfl;rfl;decide +kernel;decide +kernel;decide +kernel;(first|exact i6.here hl|exact aa4);(focus(simp only[fD,fI,fJ,Act.eval,fE,fF,fG,fH,fK];try rfl));simp only[List.append_toArray,jK,jN];refine Calls.mono (Cg7 _ (n+1) cap W _ _ hS) ?_;(clear hS;rintro e w ⟨rfl,hS⟩;refine⟨_,rfl,?_⟩;try(refine frS ?_))|(with_reducible apply BL7 256);rfl;rfl;rfl;decide +kernel;decide +kernel;decide +kernel;(focus(simp only[fD,fI,fJ,Act.eval,fE,fF,fG,fH,fK];try rfl));simp only[List.append_toArray,jK,jN];refine Calls.mono (Hq7 xs x junk l T bb off g n cap Hx.out Hrl.out hcap hm hl W _ L hS) ?_;clear hS;rintro e w ⟨rfl,hS⟩;refine⟨_,rfl,?_⟩;refine frS ?_);go_ret;exact⟨rfl,hS⟩
 ·have hlt:i<n:=by omega
  have hil:i<xs.length:=by omega
  have hnl:n<xs.length:=by omega
  have hne:((n:Int) != (i:Int))=true:=by simp;omega
  unfold aD4 at hr;rw[if_neg hin]at hr;have Hsw:=jH (fun w L hS=>Bl7 xs junk g (n+1) cap i n hn hil hnl hcap hm W w L hS);have hds:=Gw7 (D5 xs i n hil hnl) junk l T bb off g (n+1) cap i n (by rw[Af7];exact hn) (by omega) hi63 h63 hcap hm hl;have hdl:=Bd7 n (D5 xs i n hil hnl) i n;rw[Af7,hn]at hdl;generalize A9 n (D5 xs i n hil hnl) i n=d at hr hdl hds;obtain⟨ys,k⟩:=d;have Hdl:=jH hdl;have Hds:=jH hds;clear hdl hn hds;by_cases hk:i<k
  ·rw[if_pos hk]at hr;subst hr;have hkd:decide (i<k)=true:=by simpa using hk
   go_enter Tryz.func196,Tryz.ntmps196;go_wp2_with(first|(with_reducible apply Ai7 254 hS);rfl;rfl;rfl;decide +kernel;decide +kernel;decide +kernel;(first|exact i6.here hl|exact aa4);(focus(simp only[fD,fI,fJ,Act.eval,fE,fF,fG,fH,fK];try rfl));simp only[List.append_toArray,jK,jN];refine Calls.mono (Cg7 _ (n+1) cap W _ _ hS) ?_;(clear hS;rintro e w ⟨rfl,hS⟩;refine⟨_,rfl,?_⟩;try(refine frS ?_))|(with_reducible apply Ai7 258 hS);rfl;rfl;rfl;decide +kernel;decide +kernel;decide +kernel;(first|exact i6.here hl|exact aa4);(focus(simp only[fD,fI,fJ,Act.eval,fE,fF,fG,fH,fK];try rfl));simp only[List.append_toArray,jK,jN];refine Calls.mono (Hsw.out _ _ hS.swap) ?_;(clear hS;rintro e w ⟨rfl,hS⟩;refine⟨_,rfl,?_⟩;try(refine frS ?_))|go_at_call 217;refine(Hds.out W _ L hS.swap).mono ?_;clear hS;rintro e w ⟨rfl,hS⟩|(with_reducible apply BL7 256);rfl;rfl;rfl;decide +kernel;decide +kernel;decide +kernel;(focus(simp only[fD,fI,fJ,Act.eval,fE,fF,fG,fH,fK];try rfl));simp only[List.append_toArray,jK,jN];refine Calls.mono (Hq7 ys x junk l T bb off g n cap Hx.out Hrl.out hcap hm hl W _ L hS) ?_;clear hS;rintro e w ⟨rfl,hS⟩;refine⟨_,rfl,?_⟩;refine frS ?_);go_ret;exact⟨rfl,hS⟩
  ·rw[if_neg hk]at hr;subst hr;have hkd:decide (i<k)=false:=by simpa using hk
   go_enter Tryz.func196,Tryz.ntmps196;go_wp2_with(first|(with_reducible apply Ai7 254 hS);rfl;rfl;rfl;decide +kernel;decide +kernel;decide +kernel;(first|exact i6.here hl|exact aa4);(focus(simp only[fD,fI,fJ,Act.eval,fE,fF,fG,fH,fK];try rfl));simp only[List.append_toArray,jK,jN];refine Calls.mono (Cg7 _ (n+1) cap W _ _ hS) ?_;(clear hS;rintro e w ⟨rfl,hS⟩;refine⟨_,rfl,?_⟩;try(refine frS ?_))|(with_reducible apply Ai7 258 hS);rfl;rfl;rfl;decide +kernel;decide +kernel;decide +kernel;(first|exact i6.here hl|exact aa4);(focus(simp only[fD,fI,fJ,Act.eval,fE,fF,fG,fH,fK];try rfl));simp only[List.append_toArray,jK,jN];refine Calls.mono (Hsw.out _ _ hS.swap) ?_;(clear hS;rintro e w ⟨rfl,hS⟩;refine⟨_,rfl,?_⟩;try(refine frS ?_))|go_at_call 217;refine(Hds.out W _ L hS.swap).mono ?_;clear hS;rintro e w ⟨rfl,hS⟩|go_at_call 216;refine(JG7 ys junk l T bb off g (n+1) cap i Hdl.out (by omega) hcap hm hl W _ L hS).mono ?_;clear hS;rintro e w ⟨rfl,hS⟩|(with_reducible apply BL7 256);rfl;rfl;rfl;decide +kernel;decide +kernel;decide +kernel;(focus(simp only[fD,fI,fJ,Act.eval,fE,fF,fG,fH,fK];try rfl));simp only[List.append_toArray,jK,jN];refine Calls.mono (Hq7 (upF i ys i) x junk l T bb off g n cap Hx.out Hrl.out hcap hm hl W _ L hS) ?_;clear hS;rintro e w ⟨rfl,hS⟩;refine⟨_,rfl,?_⟩;refine frS ?_);go_ret;exact⟨rfl,hS⟩
theorem CS7(o:Ord)(W w:World)(L:List HP)(hS:St W L w):
  Calls Tryz.prog 187 #[.agg o.cells.toArray] w fun e w'=>e=.returned (.bool (H5 o))/\St W L w':=by
 obtain⟨i,u,y,t,c,p⟩:=o;simp only[Ord.cells];go_enter Tryz.func187,Tryz.ntmps187;go_wp2_with(first|refine zl1 hS ?_|refine zlN hS ?_|refine zs1 hS ?_;clear hS;intro w hS|refine zsN hS ?_;clear hS;intro w hS|refine zbx hS ?_;clear hS;intro b w hS|refine zal hS ?_;clear hS;intro b w hS)
 all_goals go_ret
 all_goals exact⟨by simp[H5, *];try omega,hS.drop⟩
theorem LH7(W w:World)(L:List HP)(hS:St W L w):
  Calls Tryz.prog 185 #[] w fun e w'=>∃b,e=.returned (.P b)/\St W (blk b (List.replicate 8 (.slice none 0 0)++[.I 0]) 279::L) w':=by
 go_enter Tryz.func185,Tryz.ntmps185;go_wp2_with(first|refine zl1 hS ?_|refine zlN hS ?_|refine zs1 hS ?_;clear hS;intro w hS|refine zsN hS ?_;clear hS;intro w hS|refine zbx hS ?_;clear hS;intro b w hS|refine zal hS ?_;clear hS;intro b w hS);go_ret;exact⟨_,rfl,hS⟩
structure Bk where
 ps:List (List Ord)
 last:Int
def j6(v:Value)(p:List Ord):HP:=row v 6 173 p.length (p.flatMap Ord.cells)
def A5(vs:List Value)(ps:List (List Ord)):List HP:=List.zipWith j6 vs ps
def s9(bb:Nat)(b:Bk):HP:=fun f=>∃vs:List Value,(vs.length=8/\b.ps.length=8)/\sats [blk bb (vs++[.I b.last]) 279,sats (A5 vs b.ps)] f
theorem Bs7{α:Type}:∀(l:List α) (k:Nat) (h:k<l.length),(l[k]::l.eraseIdx k).Perm l
 | _::_,0,_=>.refl _
 | x::l,k+1,h=>(List.Perm.swap x _ _).trans ((Bs7 l k (Nat.lt_of_succ_lt_succ h)).cons x)
section
variable{W w:World}{L:List HP}
theorem IM7{L:List HP}{S:Nat->Bool}{h:M9}(x:sats L (B6 S h)):sats L h:=by
 have e:B6 S h=l6 (fun b=>!S b) h:=by funext b;simp only[B6,l6];cases S b <;> rfl
 exact By7 (e▸x)
theorem N6{bb:Nat}{b:Bk}(h:St W (s9 bb b::L) w):∃vs:List Value,vs.length=8/\b.ps.length=8/\St W (blk bb (vs++[.I b.last]) 279::sats (A5 vs b.ps)::L) w:=by obtain⟨vs,h⟩:=St.ex h;obtain⟨⟨h1,h2⟩,h⟩:=St.and h;refine⟨vs,h1,h2,?_⟩;have h3:=(St.split h).swap;exact(h3.imp (Y:=sats (A5 vs b.ps)) fun f ⟨S,x,_⟩=>IM7 x).swap
theorem I6{bb:Nat}{b:Bk}{vs:List Value}(h1:vs.length=8)(h2:b.ps.length=8)(h:St W (blk bb (vs++[.I b.last]) 279::sats (A5 vs b.ps)::L) w):St W (s9 bb b::L) w:=by refine St.mkEx vs (St.mkAnd ⟨h1,h2⟩ ?_);refine St.join ?_;refine St.swap (St.imp h.swap ?_);intro f hf;exact⟨fun _=>true,hf,trivial⟩
theorem ay4{vs:List Value}{ps:List (List Ord)}(k:Nat)(h1:k<vs.length)(h2:k<ps.length)(h:St W (sats (A5 vs ps)::L) w):St W (j6 vs[k] ps[k]::sats ((A5 vs ps).eraseIdx k)::L) w:=by
 have hk:k<(A5 vs ps).length:=by simp[A5];omega
 have e:(A5 vs ps)[k]=j6 vs[k] ps[k]:=by simp[A5]
 refine St.split (St.imp h fun f hf=>?_);rw[<-e];exact Bp7 (Bs7 _ k hk).symm hf
theorem az4{vs:List Value}{ps:List (List Ord)}{v:Value}{p:List Ord}(k:Nat)(h1:k<vs.length)(h2:k<ps.length)(h:St W (j6 v p::sats ((A5 vs ps).eraseIdx k)::L) w):St W (sats (A5 (vs.set k v) (ps.set k p))::L) w:=by
 have e1:A5 (vs.set k v) (ps.set k p)=(A5 vs ps).set k (j6 v p):=by
  apply List.ext_getElem?;intro i;simp only[A5,List.getElem?_zipWith,List.getElem?_set];by_cases hi:k=i
  ·subst hi;simp[h1,h2,show k<min vs.length ps.length by omega]
  ·simp[hi]
 have hk:k<((A5 vs ps).set k (j6 v p)).length:=by simp[A5];omega
 have e2:((A5 vs ps).set k (j6 v p))[k]=j6 v p:=by simp
 have e3:((A5 vs ps).set k (j6 v p)).eraseIdx k=(A5 vs ps).eraseIdx k:=List.eraseIdx_set_eq;refine St.imp (St.join h) fun f hf=>?_
 rw[e1];have hp:=Bs7 _ k hk;rw[e2,e3]at hp;exact Bp7 hp hf
theorem cE4{vs:List Value}{ps:List (List Ord)}(k:Nat)(h1:k<vs.length)(h2:k<ps.length)(h:St W (sats (A5 vs ps)::L) w):∃b c,vs[k]=.slice b ps[k].length c:=(ay4 k h1 h2 h).rowVal
end
def aP4:List Nat:=[0,4,1,5,2,6,3,7]
def bM4(bb:Nat):List Value:=aP4.map fun o=>.pointer (some ⟨bb,o,none⟩)
def cU4(W:World)(L:List HP)(bb:Nat)(v3 v5:Value)(w:World):Prop:=
 ∃k:Nat,v5=.I k/\k<=4/\St W (row v3 1 253 (2*k) ((bM4 bb).take (2*k))::L) w
abbrev tB10a:List Nat:=[0,0,0,2,10,30,0,0,64,320,960,2046,4095,8191]
theorem Dx7(bb:Nat)(W w:World)(L:List HP)
  (hS:St W L w):
  Calls Tryz.prog 159 #[.P bb] w fun e w'=>∃v,e=.returned v/\St W (row v 1 253 8 (bM4 bb)::L) w':=by
 go_enter Tryz.func159,Tryz.ntmps159;go_wp2_with fail
 go_loopw [3,5] (fun v3 v5 wr=>cU4 W L bb v3 v5 wr) (fun v3 v5 _=>4-(intOf v5).toNat)
 case atStart=>exact⟨0,rfl,by omega,hS.rowNil⟩
 case round=>
  clear hS;obtain⟨k,rfl,hk,hS⟩:=hrel;by_cases h4:k=4
  ·subst h4;go_wp2_with fail;go_ret;exact⟨_,rfl,hS⟩
  ·obtain h|h|h|h:k=0\/k=1\/k=2\/k=3:=by omega
   all_goals subst h
   all_goals clear hk h4
   all_goals go_wp2_with fail
   (refine rf2 tB10a (fun i=>i==11||i==12) [⟨some 11,none,fun nd=>J5 (nd 11) 2 2 [.P bb,.pointer (some ⟨bb,4+0,none⟩)] 253⟩,⟨some 12,none,fun nd=>row (nd 12) 1 253 (2*0+2) ((bM4 bb).take (2*0)++[.P bb,.pointer (some ⟨bb,4+0,none⟩)])⟩] [some 12] hS ?_;intro nd;(iterate 3 (refine cR ?_));refine zcn ?_;(iterate 4 (refine cR ?_));refine zcn ?_;(iterate 2 (refine cR ?_));apply ai4;rfl;rfl;rfl;(focus(simp only[fD,fI,fJ,Act.eval,fE,fF,fG,fH,fK];try rfl));(exact esS);(exact rsS);rfl;rfl;rfl;rfl;(intro _;rfl);rfl;(intro _;rfl);(refine frS ?_);apply Ag7;rfl;rfl;rfl;(focus((conv=>lhs;whnf);try rfl));(focus((conv=>lhs;whnf);try rfl));(exact esS);(exact rsS);rfl;decide;rfl;(intro F w hS;exact Aw7 hS (by exact w8));(focus(try rfl));rfl;(focus(unfold maxLen;omega));(focus(omega));(intro _;rfl);(intro _;rfl);(refine frS ?_);refine cR ?_;refine Ad7 ?_;clear hS;intro w hS;have hS:St W [J5 (nd 11) 2 2 _ _,row (nd 12) 1 _ _ _,sats L] w:=hS;generalize nd 12=v12 at *;replace hS:=hS.drop.unpack [_];simp only[jK,jN]at hS;go_wp2_with fail;go_roundw;(case rel=>exact⟨0+1,rfl,by omega,hS⟩);(case measure=>simp[intOf]))
   (refine rf2 tB10a (fun i=>i==11||i==12) [⟨some 11,none,fun nd=>J5 (nd 11) 2 2 [.pointer (some ⟨bb,1,none⟩),.pointer (some ⟨bb,4+1,none⟩)] 253⟩,⟨some 12,none,fun nd=>row (nd 12) 1 253 (2*1+2) ((bM4 bb).take (2*1)++[.pointer (some ⟨bb,1,none⟩),.pointer (some ⟨bb,4+1,none⟩)])⟩] [some 12] hS ?_;intro nd;(iterate 3 (refine cR ?_));refine zcn ?_;(iterate 4 (refine cR ?_));refine zcn ?_;(iterate 2 (refine cR ?_));apply ai4;rfl;rfl;rfl;(focus(simp only[fD,fI,fJ,Act.eval,fE,fF,fG,fH,fK];try rfl));(exact esS);(exact rsS);rfl;rfl;rfl;rfl;(intro _;rfl);rfl;(intro _;rfl);(refine frS ?_);apply Ag7;rfl;rfl;rfl;(focus((conv=>lhs;whnf);try rfl));(focus((conv=>lhs;whnf);try rfl));(exact esS);(exact rsS);rfl;decide;rfl;(intro F w hS;exact Aw7 hS (by exact w8));(focus(try rfl));rfl;(focus(unfold maxLen;omega));(focus(omega));(intro _;rfl);(intro _;rfl);(refine frS ?_);refine cR ?_;refine Ad7 ?_;clear hS;intro w hS;have hS:St W [J5 (nd 11) 2 2 _ _,row (nd 12) 1 _ _ _,sats L] w:=hS;generalize nd 12=v12 at *;replace hS:=hS.drop.unpack [_];simp only[jK,jN]at hS;go_wp2_with fail;go_roundw;(case rel=>exact⟨1+1,rfl,by omega,hS⟩);(case measure=>simp[intOf]))
   (refine rf2 tB10a (fun i=>i==11||i==12) [⟨some 11,none,fun nd=>J5 (nd 11) 2 2 [.pointer (some ⟨bb,2,none⟩),.pointer (some ⟨bb,4+2,none⟩)] 253⟩,⟨some 12,none,fun nd=>row (nd 12) 1 253 (2*2+2) ((bM4 bb).take (2*2)++[.pointer (some ⟨bb,2,none⟩),.pointer (some ⟨bb,4+2,none⟩)])⟩] [some 12] hS ?_;intro nd;(iterate 3 (refine cR ?_));refine zcn ?_;(iterate 4 (refine cR ?_));refine zcn ?_;(iterate 2 (refine cR ?_));apply ai4;rfl;rfl;rfl;(focus(simp only[fD,fI,fJ,Act.eval,fE,fF,fG,fH,fK];try rfl));(exact esS);(exact rsS);rfl;rfl;rfl;rfl;(intro _;rfl);rfl;(intro _;rfl);(refine frS ?_);apply Ag7;rfl;rfl;rfl;(focus((conv=>lhs;whnf);try rfl));(focus((conv=>lhs;whnf);try rfl));(exact esS);(exact rsS);rfl;decide;rfl;(intro F w hS;exact Aw7 hS (by exact w8));(focus(try rfl));rfl;(focus(unfold maxLen;omega));(focus(omega));(intro _;rfl);(intro _;rfl);(refine frS ?_);refine cR ?_;refine Ad7 ?_;clear hS;intro w hS;have hS:St W [J5 (nd 11) 2 2 _ _,row (nd 12) 1 _ _ _,sats L] w:=hS;generalize nd 12=v12 at *;replace hS:=hS.drop.unpack [_];simp only[jK,jN]at hS;go_wp2_with fail;go_roundw;(case rel=>exact⟨2+1,rfl,by omega,hS⟩);(case measure=>simp[intOf]))
   (refine rf2 tB10a (fun i=>i==11||i==12) [⟨some 11,none,fun nd=>J5 (nd 11) 2 2 [.pointer (some ⟨bb,3,none⟩),.pointer (some ⟨bb,4+3,none⟩)] 253⟩,⟨some 12,none,fun nd=>row (nd 12) 1 253 (2*3+2) ((bM4 bb).take (2*3)++[.pointer (some ⟨bb,3,none⟩),.pointer (some ⟨bb,4+3,none⟩)])⟩] [some 12] hS ?_;intro nd;(iterate 3 (refine cR ?_));refine zcn ?_;(iterate 4 (refine cR ?_));refine zcn ?_;(iterate 2 (refine cR ?_));apply ai4;rfl;rfl;rfl;(focus(simp only[fD,fI,fJ,Act.eval,fE,fF,fG,fH,fK];try rfl));(exact esS);(exact rsS);rfl;rfl;rfl;rfl;(intro _;rfl);rfl;(intro _;rfl);(refine frS ?_);apply Ag7;rfl;rfl;rfl;(focus((conv=>lhs;whnf);try rfl));(focus((conv=>lhs;whnf);try rfl));(exact esS);(exact rsS);rfl;decide;rfl;(intro F w hS;exact Aw7 hS (by exact w8));(focus(try rfl));rfl;(focus(unfold maxLen;omega));(focus(omega));(intro _;rfl);(intro _;rfl);(refine frS ?_);refine cR ?_;refine Ad7 ?_;clear hS;intro w hS;have hS:St W [J5 (nd 11) 2 2 _ _,row (nd 12) 1 _ _ _,sats L] w:=hS;generalize nd 12=v12 at *;replace hS:=hS.drop.unpack [_];simp only[jK,jN]at hS;go_wp2_with fail;go_roundw;(case rel=>exact⟨3+1,rfl,by omega,hS⟩);(case measure=>simp[intOf]))
def s6(ps:List (List Ord)):Nat->Nat
 | 0=>0
 | k+1=>s6 ps k+(ps.getD (aP4.getD k 0) []).length
def Bk.len(b:Bk):Nat:=s6 b.ps 8
theorem Ie7(ps:List (List Ord))(k:Nat):∀d,s6 ps k<=s6 ps (k+d)
 | 0=>Nat.le_refl _
 | d+1=>Nat.le_trans (Ie7 ps k d) (Nat.le_add_right _ _)
theorem Ao7(ps:List (List Ord)){k j:Nat}(h:k<=j):s6 ps k<=s6 ps j:=by obtain⟨d,rfl⟩:=Nat.exists_eq_add_of_le h;exact Ie7 ps k d
def dN4(W:World)(L:List HP)(ps:List (List Ord))(v3 v11:Value)(w:World):Prop:=
 ∃k:Nat,v3=.I (s6 ps k)/\v11=.I k/\k<=8/\St W L w
theorem cellsOf{W w:World}{L:List HP}{vs:List Value}{ps:List (List Ord)}{last:Value}(h1:vs.length=8)(h2:ps.length=8)(h:St W (sats (A5 vs ps)::L) w)(o:Nat)(ho:o<8):∃b c,(vs++[last])[o]? = some (.slice b (ps.getD o []).length c):=by obtain⟨b,c,e⟩:=cE4 o (by omega) (by omega) h;refine⟨b,c,?_⟩;rw[List.getElem?_append_left (by omega),jG (by omega),e];simp[List.getD_eq_getElem?_getD,jG (show o<ps.length by omega)]
theorem Fz7(bb:Nat)(b:Bk)(hb:b.len<=4294967296)(W w:World)(L:List HP)
  (hS:St W (s9 bb b::L) w):
  Calls Tryz.prog 149 #[.P bb] w fun e w'=>e=.returned (.I b.len)/\St W (s9 bb b::L) w':=by
 obtain⟨vs,h1,h2,hS0⟩:=N6 hS;have hcs:=cellsOf (last:=.I b.last) h1 h2 hS0.swap;clear hS;have hS:=hS0;clear hS0;unfold Bk.len at hb;go_enter Tryz.func149,Tryz.ntmps149;go_wp2_with(first|(go_at_call 159;refine(Dx7 bb W _ _ hS).mono ?_;clear hS;rintro e w ⟨v,rfl,hS⟩;rcases hS.rowOpen with ⟨_,h0,_⟩|⟨g,cap,junk,rfl,hn1,hm1,hj1,hl1,hS'⟩;exfalso;omega;clear hS;have hS:=hS';clear hS';unfold maxLen at hm1))
 go_loopw [3,11] (fun v3 v11 wr=>dN4 W (blk g (bM4 bb++junk) 253::blk bb (vs++[.I b.last]) 279::sats (A5 vs b.ps)::L) b.ps v3 v11 wr) (fun v3 v11 _=>8-(intOf v11).toNat)
 case atStart=>exact⟨0,rfl,rfl,by omega,hS⟩
 case round=>
  clear hS;obtain⟨k,rfl,rfl,hk,hS⟩:=hrel;by_cases h8:k=8
  ·subst h8;go_wp2_with fail;go_ret;exact⟨rfl,I6 h1 h2 hS.drop⟩
  ·obtain h|h|h|h|h|h|h|h:k=0\/k=1\/k=2\/k=3\/k=4\/k=5\/k=6\/k=7:=by omega
   all_goals subst h
   all_goals clear hk h8
   ·(have hk3:=jH (show s6 b.ps (0+1)=s6 b.ps 0+(b.ps.getD 0 []).length from rfl);have hk5:s6 b.ps 0+(b.ps.getD 0 []).length<=4294967296:=Nat.le_trans (Ao7 b.ps (k:=0+1) (j:=8) (by omega)) hb;obtain⟨b1,c1,hv⟩:=hcs 0 (by omega);have hk6:=jH hb;clear hb;generalize hs0:s6 b.ps 0=s0 at *;generalize hn0:(b.ps.getD 0 []).length=n0 at *;clear hs0 hn0;go_wp2_with(first|refine zl1 hS ?_ (hc:=by exact i6.there (i6.here hv))|refine zl1 hS ?_ (hc:=by exact i6.here rfl));go_roundw;(case rel=>exact⟨0+1,by rw[hk3.out];rfl,rfl,by omega,hS⟩);try(case measure=>simp[intOf]))
   ·(have hk3:=jH (show s6 b.ps (1+1)=s6 b.ps 1+(b.ps.getD 4 []).length from rfl);have hk5:s6 b.ps 1+(b.ps.getD 4 []).length<=4294967296:=Nat.le_trans (Ao7 b.ps (k:=1+1) (j:=8) (by omega)) hb;obtain⟨b1,c1,hv⟩:=hcs 4 (by omega);have hk6:=jH hb;clear hb;generalize hs0:s6 b.ps 1=s0 at *;generalize hn0:(b.ps.getD 4 []).length=n0 at *;clear hs0 hn0;go_wp2_with(first|refine zl1 hS ?_ (hc:=by exact i6.there (i6.here hv))|refine zl1 hS ?_ (hc:=by exact i6.here rfl));go_roundw;(case rel=>exact⟨1+1,by rw[hk3.out];rfl,rfl,by omega,hS⟩);try(case measure=>simp[intOf]))
   ·(have hk3:=jH (show s6 b.ps (2+1)=s6 b.ps 2+(b.ps.getD 1 []).length from rfl);have hk5:s6 b.ps 2+(b.ps.getD 1 []).length<=4294967296:=Nat.le_trans (Ao7 b.ps (k:=2+1) (j:=8) (by omega)) hb;obtain⟨b1,c1,hv⟩:=hcs 1 (by omega);have hk6:=jH hb;clear hb;generalize hs0:s6 b.ps 2=s0 at *;generalize hn0:(b.ps.getD 1 []).length=n0 at *;clear hs0 hn0;go_wp2_with(first|refine zl1 hS ?_ (hc:=by exact i6.there (i6.here hv))|refine zl1 hS ?_ (hc:=by exact i6.here rfl));go_roundw;(case rel=>exact⟨2+1,by rw[hk3.out];rfl,rfl,by omega,hS⟩);try(case measure=>simp[intOf]))
   ·(have hk3:=jH (show s6 b.ps (3+1)=s6 b.ps 3+(b.ps.getD 5 []).length from rfl);have hk5:s6 b.ps 3+(b.ps.getD 5 []).length<=4294967296:=Nat.le_trans (Ao7 b.ps (k:=3+1) (j:=8) (by omega)) hb;obtain⟨b1,c1,hv⟩:=hcs 5 (by omega);have hk6:=jH hb;clear hb;generalize hs0:s6 b.ps 3=s0 at *;generalize hn0:(b.ps.getD 5 []).length=n0 at *;clear hs0 hn0;go_wp2_with(first|refine zl1 hS ?_ (hc:=by exact i6.there (i6.here hv))|refine zl1 hS ?_ (hc:=by exact i6.here rfl));go_roundw;(case rel=>exact⟨3+1,by rw[hk3.out];rfl,rfl,by omega,hS⟩);try(case measure=>simp[intOf]))
   ·(have hk3:=jH (show s6 b.ps (4+1)=s6 b.ps 4+(b.ps.getD 2 []).length from rfl);have hk5:s6 b.ps 4+(b.ps.getD 2 []).length<=4294967296:=Nat.le_trans (Ao7 b.ps (k:=4+1) (j:=8) (by omega)) hb;obtain⟨b1,c1,hv⟩:=hcs 2 (by omega);have hk6:=jH hb;clear hb;generalize hs0:s6 b.ps 4=s0 at *;generalize hn0:(b.ps.getD 2 []).length=n0 at *;clear hs0 hn0;go_wp2_with(first|refine zl1 hS ?_ (hc:=by exact i6.there (i6.here hv))|refine zl1 hS ?_ (hc:=by exact i6.here rfl));go_roundw;(case rel=>exact⟨4+1,by rw[hk3.out];rfl,rfl,by omega,hS⟩);try(case measure=>simp[intOf]))
   ·(have hk3:=jH (show s6 b.ps (5+1)=s6 b.ps 5+(b.ps.getD 6 []).length from rfl);have hk5:s6 b.ps 5+(b.ps.getD 6 []).length<=4294967296:=Nat.le_trans (Ao7 b.ps (k:=5+1) (j:=8) (by omega)) hb;obtain⟨b1,c1,hv⟩:=hcs 6 (by omega);have hk6:=jH hb;clear hb;generalize hs0:s6 b.ps 5=s0 at *;generalize hn0:(b.ps.getD 6 []).length=n0 at *;clear hs0 hn0;go_wp2_with(first|refine zl1 hS ?_ (hc:=by exact i6.there (i6.here hv))|refine zl1 hS ?_ (hc:=by exact i6.here rfl));go_roundw;(case rel=>exact⟨5+1,by rw[hk3.out];rfl,rfl,by omega,hS⟩);try(case measure=>simp[intOf]))
   ·(have hk3:=jH (show s6 b.ps (6+1)=s6 b.ps 6+(b.ps.getD 3 []).length from rfl);have hk5:s6 b.ps 6+(b.ps.getD 3 []).length<=4294967296:=Nat.le_trans (Ao7 b.ps (k:=6+1) (j:=8) (by omega)) hb;obtain⟨b1,c1,hv⟩:=hcs 3 (by omega);have hk6:=jH hb;clear hb;generalize hs0:s6 b.ps 6=s0 at *;generalize hn0:(b.ps.getD 3 []).length=n0 at *;clear hs0 hn0;go_wp2_with(first|refine zl1 hS ?_ (hc:=by exact i6.there (i6.here hv))|refine zl1 hS ?_ (hc:=by exact i6.here rfl));go_roundw;(case rel=>exact⟨6+1,by rw[hk3.out];rfl,rfl,by omega,hS⟩);try(case measure=>simp[intOf]))
   ·(have hk3:=jH (show s6 b.ps (7+1)=s6 b.ps 7+(b.ps.getD 7 []).length from rfl);have hk5:s6 b.ps 7+(b.ps.getD 7 []).length<=4294967296:=Nat.le_trans (Ao7 b.ps (k:=7+1) (j:=8) (by omega)) hb;obtain⟨b1,c1,hv⟩:=hcs 7 (by omega);have hk6:=jH hb;clear hb;generalize hs0:s6 b.ps 7=s0 at *;generalize hn0:(b.ps.getD 7 []).length=n0 at *;clear hs0 hn0;go_wp2_with(first|refine zl1 hS ?_ (hc:=by exact i6.there (i6.here hv))|refine zl1 hS ?_ (hc:=by exact i6.here rfl));go_roundw;(case rel=>exact⟨7+1,by rw[hk3.out];rfl,rfl,by omega,hS⟩);try(case measure=>simp[intOf]))
end Go.Proofs.YtienbkdjkjbelaaGreat
end
