/-
  Two rows of what is under way compared.
-/
import Derived.Test.YtlmhakmoioogaaaGreatEconCuM5
import Derived.Test.YtlmhakmoioogaaaGreatEconCuM26
import Derived.Test.YtlmhakmoioogaaaGreatEconCuM27
import Derived.Test.YtlmhakmoioogaaaGreatEconCuM28
import Derived.Test.YtlmhakmoioogaaaGreatEconCuM43
import Derived.Test.YtlmhakmoioogaaaGreatEconCuM44
import Derived.Test.YtlmhakmoioogaaaGreatEconCuM47
import Derived.Test.YtlmhakmoioogaaaGreatEconCuM48
import Derived.Laws.BytesString
import Derived.Test.YtlmhakmoioogaaaGreatProg
import Derived.Shelf.SlMaps.Clone
import Derived.Ground.SlmcProg
set_option maxHeartbeats 16000000
set_option maxRecDepth 100000
set_option linter.unusedSimpArgs false
set_option linter.unusedVariables false
section
namespace Go.Proofs.YtlmhakmoioogaaaGreat
open Go.RowKit Go.Sl
theorem gO4(o0 o1:Int)(o2 o3 o4 o5:ByteArray)(o6 o7:Int)(w:World):(Op.equalIn 10000 40 (.agg #[.I o0,.I o1,.string o2,.string o3,.string o4,.string o5,.I o6,.I o7]) (.agg #[.I o0,.I o1,.string o2,.string o3,.string o4,.string o5,.I o6,.I o7])).run Tryz.prog w=.ok true w:=by
 have u3:=Tryz.underlying3;have a3:=Tryz.isAgg3;have z3:=Tryz.sizeOf3;have u5:=Tryz.underlying26;have a5:=Tryz.isAgg26;have z5:=Tryz.sizeOf26;have hp:=fun k u k2 u2 w=>dv4 k u k2 u2 9997 w
 have hs:Tryz.prog.stoodInHeld 40=false:=by kernel_rfl
 rw[Op.equalIn];simp only[Sem.run_bind,run_underlying Tryz.underlying40,Result.andThen_ok,run_program,hs,Bool.false_eq_true,if_false];rw[<-Array.forIn_toList];simp only[List.forIn_cons,List.forIn_nil]
 go_simp
def TzR(W:World)(Lr:List HP)(n:Nat)(v:Value)(w:World):Prop:=∃i:Nat,v=.I i/\i<=n/\St W Lr w
theorem GL7(L:List ((Int×Int)×Tns))(a1 a2:Option Addr)(c1 c2:Nat)(hlen:L.length<=1000000)(W w:World)(Lr:List HP)(hS:St W (xtP (.slice a1 L.length c1) L::xtP (.slice a2 L.length c2) L::Lr) w):
  Calls Tryz.prog 75 #[.slice a1 L.length c1,.slice a2 L.length c2] w fun e w'=>e=.returned (.bool true)/\St W (xtP (.slice a1 L.length c1) L::xtP (.slice a2 L.length c2) L::Lr) w':=by
 go_enter Tryz.func75,Tryz.ntmps75;go_wp2_with fail
 go_loopw [5] (fun v wr=>TzR W (xtP (.slice a1 L.length c1) L::xtP (.slice a2 L.length c2) L::Lr) L.length v wr) (fun v _=>L.length-(intOf v).toNat)
 case atStart=>exact⟨0,rfl,by omega,hS⟩
 case round=>
  clear hS;obtain⟨i,rfl,hi,hS⟩:=hrel;by_cases hn:i=L.length
  ·subst hn;go_wp2_with fail;go_ret;exact⟨rfl,hS⟩
  ·have hil:i<L.length:=by omega
   clear hn hi;obtain⟨⟨g1,rfl⟩,hc1,hn1⟩:=St.rowAddr hS (by omega);obtain⟨⟨g2,rfl⟩,hc2,hn2⟩:=St.rowAddr hS.drop (by omega);have q1:∀{X:List HP},i5 (xtP (.S g1 L.length c1) L::X) g1 (i*8) (tnC L[i]):=fun{X}=>i5.rowE AH7 hil
   have q2:∀{X:List HP},i5 (xtP (.S g2 L.length c2) L::X) g2 (i*8) (tnC L[i]):=fun{X}=>i5.rowE AH7 hil
   generalize L[i]=x at q1 q2;obtain⟨⟨y1,y2⟩,⟨t0,t1,t2,t3,t4,t5,t6,t7⟩⟩:=x;simp only[tnC,Tns.cells]at q1 q2;go_wp2_with fail;refine Aa7 (by kernel_rfl) (by kernel_rfl) hS ?_
   iterate 3 (refine qR ?_)
   (apply KB7;rfl;rfl;rfl;decide +kernel;exact q1;kernel_rfl;refine frS ?_)
   iterate 3 (refine qR ?_)
   (apply KB7;rfl;rfl;rfl;decide +kernel;exact i5.there q2;kernel_rfl;refine frS ?_)
   ((with_reducible apply Le7);rfl;rfl;rfl;rfl;kernel_rfl;exact gO4 _ _ _ _ _ _ _ _;simp only[Bool.not_true];refine frS ?_)
   clear hS q1 q2;intro w hS;go_wp2_with fail;go_roundw
   case rel=>exact⟨i+1,rfl,hil,hS⟩
   case measure=>simp[intOf];omega
theorem GM7{L:List ((Int×Int)×Tns)}{v1 v2:Value}(hlen:L.length<=1000000){W w:World}{Lr R R2:List HP}(hS:St W Lr w)(h1:Take Lr (xtP v1 L) R)(h2:Take R (xtP v2 L) R2):
  Calls Tryz.prog 75 #[v1,v2] w fun e w'=>e=.returned (.bool true)/\St W Lr w':=by
 obtain⟨a1,c1,rfl⟩:=(hS.take h1).rowVal;obtain⟨a2,c2,rfl⟩:=((hS.take h1).drop.take h2).rowVal;have h3:St W (xtP (.slice a2 L.length c2) L::xtP (.slice a1 L.length c1) L::R2) w:=⟨hS.os,hS.tape,hS.output,Dg7 (AN7 (fun _ x=>x) (fun _ x=>h2.sats x) (h1.sats hS.sat))⟩
 refine(GL7 L a1 a2 c1 c2 hlen W w R2 h3.swap).mono ?_;rintro e w' ⟨rfl,h⟩;refine⟨rfl,St.back ⟨h.os,h.tape,h.output,AN7 (fun _ x=>x) (fun _ x=>h2.back x) h.sat⟩ h1⟩
theorem Qp7{vb N:Nat}{V:Vs}(hw:PsW V.ps N)(hN:N<=1000000)(hmay:∀x∈V.L,MayP x)(hl32:V.L.length<=32){s0 s1 s2 s3:Int}(ht:C6 (cg4 V) it0=some ⟨s0,s1,s2,s3⟩){W w:World}{R:List HP}(hS:St W (dvP vb V::R) w):
  Calls Tryz.prog 139 #[.P vb] w fun e w'=>e=.returned (.tuple #[.agg #[.I s0,.I s1,.I s2,.I s3],.bool true])/\St W (dvP vb V::R) w':=by
 obtain⟨xB,hS0⟩:=da4 hS;refine(fL4 vb xB V.ps V.L V.n hw hN hmay hl32 W w R hS0).mono ?_;rintro e w' ⟨rfl,hS⟩;refine⟨?_,bB4 hS⟩;have h1:C6 (cg4 ⟨V.ps,V.L,V.n⟩) it0=some ⟨s0,s1,s2,s3⟩:=ht;rw[h1,bE4,h1];rfl
theorem Qq7{xb:Nat}{d:Ec}(hv:∀x∈d.vs,(PsW x.2.ps 1000000/\(∀o∈x.2.L,MayP o)/\x.2.L.length<=32)/\C6 (cg4 x.2) it0=some (am4 x.2))(hl:d.vs.length<=100000){t0 t1 t2 t3:Int}(ht:C6 (d.vs.map fun x=>am4 x.2) it0=some ⟨t0,t1,t2,t3⟩)(W w:World)(R:List HP)(hS:St W (xU6 xb d::R) w):
  Calls Tryz.prog 74 #[.P xb] w fun x w'=>x=.returned (.tuple #[.agg #[.I t0,.I t1,.I t2,.I t3],.bool true])/\St W (xU6 xb d::R) w':=by
 obtain⟨v1,v2,v3,v4,D,hd,hS0⟩:=aG4 hS;clear hS;have hS:=hS0.s (xeB xb v1 v2 v3 v4::xrP v1 D::l6 D::xsP v2 d.ss::xtP v3 d.ts::xmP v4 d.ar::R);clear hS0;have hD:D.length<=100000:=by rw[<-BH7,hd];exact hl
 have hvD:∀x∈D,(PsW x.2.2.ps 1000000/\(∀o∈x.2.2.L,MayP o)/\x.2.2.L.length<=32)/\C6 (cg4 x.2.2) it0=some (am4 x.2.2):=fun x hx=>hv (x.1,x.2.2) (by rw[<-hd];exact List.mem_map.2 ⟨x,hx,rfl⟩)
 have htD:C6 (D.map fun x=>am4 x.2.2) it0=some ⟨t0,t1,t2,t3⟩:=by rw[<-hd]at ht;unfold k8 at ht;rw[List.map_map]at ht;exact ht
 have Hd:=jH hd;have HvD:=jH hvD;have HtD:=jH htD;clear hd hl hv ht hvD htD;obtain⟨a,cap,rfl⟩:=hS.drop.rowVal;go_enter Tryz.func74,Tryz.ntmps74;go_wp2_with(first|refine zal hS ?_;clear hS;intro b0 w hS);have hS1:=hS.rowNil (k:=4) (T:=29);clear hS;have hS:=hS1;clear hS1
 go_loopw [4,5] (fun v4' v5 wr=>TtR W (blk b0 [.I 0,.I 0,.I 0,.I 0] 29::xeB xb (.slice a D.length cap) v2 v3 v4::xrP (.slice a D.length cap) D::l6 D::xsP v2 d.ss::xtP v3 d.ts::xmP v4 d.ar::R) D.length (fun k=>(D.take k).map fun x=>am4 x.2.2) v4' v5 wr) (fun _ v5 _=>D.length-(intOf v5).toNat)
 case atStart=>exact⟨0,rfl,Nat.zero_le _,hS⟩
 case round=>
  clear hS;obtain⟨k,rfl,hkl,hS⟩:=hrel;dsimp only at hS;by_cases hkn:k=D.length
  ·rw[hkn,List.take_length]at hS;have hd1:decide (k<D.length)=false:=by simp;omega
   clear hkl hkn;generalize (D.map fun x=>am4 x.2.2)=acc at hS HtD;go_wp2_with(first|refine zl1 hS ?_|go_at_call 117;refine(IJ7 HtD.out _ W _ _ hS).mono ?_;clear hS;rintro ex w ⟨rfl,hS⟩|refine zsN hS ?_;clear hS;intro w hS);apply Ac7;rfl;rfl;rfl;rfl;exact hS;decide +kernel;(exact n9);kernel_rfl;exact⟨rfl,J5 Hd.out (hS.s _)⟩
  ·have hk1:k<D.length:=by omega
   have hd1:decide (k<D.length)=true:=decide_eq_true hk1;obtain⟨⟨g,rfl⟩,_,_⟩:=St.rowAddr hS.drop.drop.drop (by omega);have hcp:∀{K K':List HP},Take K (xrP (.S g D.length cap) D) K'->i8 K g (k*2+1) (.pointer (some ⟨D[k].2.1,0,none⟩)):=fun hu=>i5.elemM (enc:=rwC) AE7 hu hk1 1 _ rfl
   have hstep:=CD7 (fun x:ByteArray×(Nat×Vs)=>am4 x.2.2) D hk1;have hmx:=HvD.out _ (jW hk1);have hbl:((D.take k).map fun x=>am4 x.2.2).length<=100000:=by rw[jM,jT];omega
   have hop:∀(w:World) (K:List HP),St W (l6 D::K) w->St W (dvP D[k].2.1 D[k].2.2::l6 (D.take k++D.drop (k+1))::K) w:=fun w K h=>by
    have h1:St W (l6 (D.take k++D[k]::D.drop (k+1))::K) w:=by rw[<-List.drop_eq_getElem_cons hk1,List.take_append_drop];exact h
    exact cv4 h1
   have hcl:∀(w:World) (K:List HP),St W (dvP D[k].2.1 D[k].2.2::l6 (D.take k++D.drop (k+1))::K) w->St W (l6 D::K) w:=fun w K h=>by have h1:=cw4 h;rwa [<-List.drop_eq_getElem_cons hk1,List.take_append_drop]at h1
   generalize D.take k++D.drop (k+1)=D2 at hop hcl;generalize ((D.take k).map fun x=>am4 x.2.2)=acc at hS hstep hbl;generalize D[k]=x at hcp hstep hmx hop hcl;obtain⟨xk,vb,V⟩:=x;obtain⟨⟨s0,s1,s2,s3⟩,hs⟩:∃z,am4 V=z:=⟨_,rfl⟩
   obtain⟨hw,ht⟩:=hmx;simp only at hcp hop hcl hw ht hstep;rw[hs]at ht hstep;have Hstep:=jH hstep;have Hw:=jH hw;have Ht:=jH ht;have Hop:=jH hop;have Hcl:=jH hcl;clear hstep hw ht hop hcl hs hkn hkl;go_wp2_with(first|refine zl1 hS ?_ (hc:=by exact hcp (by exact i6))|refine zl1 hS ?_|go_at_call 139;refine(Qp7 Hw.out.1 (Nat.le_refl _) Hw.out.2.1 Hw.out.2.2 Ht.out (Hop.out _ _ (hS.s (l6 D::cp4 _ acc::blk b0 _ _::xeB xb (.S g D.length cap) v2 v3 v4::xrP (.S g D.length cap) D::xsP v2 d.ss::xtP v3 d.ts::xmP v4 d.ar::R)))).mono ?_;clear hS;rintro e w ⟨rfl,hS0⟩;have hS:=(Hcl.out _ _ hS0).s (cp4 _ acc::l6 D::blk b0 _ _::xeB xb (.S g D.length cap) v2 v3 v4::xrP (.S g D.length cap) D::xsP v2 d.ss::xtP v3 d.ts::xmP v4 d.ar::R);clear hS0|refine zal hS ?_;clear hS;intro b6 w hS|refine zsN hS ?_;clear hS;intro w hS|refine zlN hS ?_|refine zbs hS ?_;clear hS;intro bS w hS|refine zap hS ?_ (h63:=by unfold maxLen;omega) (hb:=by omega);clear hS;intro v w hS);go_roundw
   case rel=>
    refine⟨k+1,rfl,hk1,?_⟩;dsimp only;rw[Hstep.out];unfold cp4;rw[Ds7,jA,List.length_singleton];have h0:St W (row v 4 29 (acc.length+1) (acc.flatMap It.cells++It.cells ⟨s0,s1,s2,s3⟩)::_) w:=hS;exact h0.s _
   case measure=>simp[intOf];omega
end Go.Proofs.YtlmhakmoioogaaaGreat
end
section
namespace Go.Sl
open Go.RowKit
structure Same(L L':List HP):Prop where
 to:∀{f:ai4},sats L f->sats L' f
 back:∀{f:ai4},sats L' f->sats L f
theorem Same.refl{L:List HP}:Same L L:=⟨fun h=>h,fun h=>h⟩
theorem Same.of{A:HP}{L R R':List HP}(h:Take L A R)(h2:Same R R'):Same L (A::R'):=
 ⟨fun hs=>AN7 (fun _ x=>x) (fun _ x=>h2.to x) (h.sats hs),fun hs=>h.back (AN7 (fun _ x=>x) (fun _ x=>h2.back x) hs)⟩
theorem Same.st{W w:World}{L L':List HP}(h:Same L L')(hS:St W L w):St W L' w:=⟨hS.os,hS.tape,hS.output,h.to hS.sat⟩
theorem Same.ts{W w:World}{L L':List HP}{X:HP}(h:Same L L')(hS:St W (X::L') w):St W (X::L) w:=⟨hS.os,hS.tape,hS.output,AN7 (fun _ x=>x) (fun _ x=>h.back x) hS.sat⟩
def gP4(ns:List Int):ByteArray:=ns.foldl (fun r n=>r.push (UInt8.ofNat n.toNat)) ByteArray.empty
section
variable{P:Program}{W:World}{ops:Array Oper}{t:List Nat}{toks:List Tok}{fresh:Nat->Bool}{pin:Nat->Option Value}{Qf:Act->Prop}{nd:Nat->Value}{i:Nat}{l:List Oper}{a:Act}{o:Oper}
theorem Tb7{ty t2:TypeId}{x y:Operand}{xs ys:Array Value}{r:Bool}(hf:fresh i=false)(hn:ap4 toks i=true)(ho:o.op=.binOp .eql ty x y t2)(hg:Region.wanted o (yielded ops a.tmps)=true)(hx:a.eval x=.agg xs)(hy:a.eval y=.agg ys)(hm:P.eqGuardType P.depth ty=false)(hr:∀w:World,(Op.equalIn 10000 ty (.agg xs) (.agg ys)).run P w=.ok r w)
  (h:l7 P W ops t toks fresh pin Qf nd (i+1) l (a.put o.dst (.bool r))):l7 P W ops t toks fresh pin Qf nd i (o::l) a:=
 DQ7 hf hn hg (fun F w _=>by unfold execOp;simp[ho,hx,hy,run_eqGuard_agg w .eql ty x y xs ys hm,run_eql_struct,hr]) h
theorem GC7{src dst e:TypeId}{x:Operand}{v0:Value}{ns:List Int}(hf:fresh i=false)(hn:ap4 toks i=true)(ho:o.op=.convert src dst x)(hg:Region.wanted o (yielded ops a.tmps)=true)(hx:a.eval x=v0)
  (hs:P.underlying src=some (.slice e)) (he:P.underlying e=some (.int .u8)) (hd:P.underlying dst=some .string) (hp:0<ns.length) (hr:∀F, ∃R,Take (kpL toks t i nd++F) (row v0 1 e ns.length (ns.map (Value.int .u8))) R)
  (h:l7 P W ops t toks fresh pin Qf nd (i+1) l (a.put o.dst (.string (gP4 ns)))):l7 P W ops t toks fresh pin Qf nd i (o::l) a:=
 DQ7 hf hn hg (fun F w hS=>by obtain⟨R,hu⟩:=hr F;have hS1:=hS.take hu;obtain⟨b,c,rfl⟩:=hS1.rowVal;obtain⟨⟨g,rfl⟩,_,_⟩:=St.rowAddr hS1 hp;have h1:=run_loadCells_list (P:=P) w ⟨g,0,none⟩ (ns.map (Value.int .u8)) (fun j v hj=>by rw[Addr.add_lit,Nat.zero_add];exact i8.row hp hj W w hS1);rw[jM]at h1;have h2:=run_bytesToString (P:=P) w ⟨g,0,none⟩ ns.length c ns h1;unfold execOp;simp[ho,hx,run_convert_bytes_string w src dst e (jP g) ns.length c hs he hd,h2,gP4]) h
end
end Go.Sl
namespace Go.Proofs.YtlmhakmoioogaaaGreat
open Go.RowKit Go.Sl
section
variable{W w:World}{vb mb bb xb xB:Nat}{p:Ps}{L:List Ord}{n:Int}{N:Nat}{L1 R3:List HP}
end
theorem OJ7{e:Ec}{d:List Int}(h:cz4 e d):0<d.length:=by obtain⟨T,A,_,_,_,_,rfl⟩:=h;have:=Fz7 (e.vs.length:Int);simp only[jA];omega
theorem OK7{eb:Nat}{e:Ec}{n:Nat}{d:List Int}(hd:cz4 e d)(hE:EnL e n)(hn:n<=600){W w:World}{L R:List HP}(ht:Take L (ecP eb e) R)(hS:St W L w):
  Calls Tryz.prog 27 #[.P eb] w fun x w'=>∃v,x=.returned v/\St W (byR v d::L) w':=by
 refine(Kv7 hE hn W w R (hS.take ht)).mono ?_;rintro x w' ⟨v,d',rfl,hd',hS⟩;obtain rfl:=Qk7 hd hd';refine⟨v,rfl,?_⟩;exact hS.swap.back (Take.tail ht)
def OnR(W:World)(L:List HP)(n:Nat)(v:Value)(w:World):Prop:=∃i:Nat,v=.I i/\i<=n/\St W L w
theorem Sh7{d:Ec}{D:Ev}(hd:k8 D=d.vs)(hn:(d.vs.map (·.1)).Nodup)(hs:(d.ss.map (·.1)).Nodup):ee4 D d.ss d.ts d.ar=fc4 d:=by
 have e1:D.length=d.vs.length:=by rw[<-hd,BH7]
 unfold ee4 fc4;rw[OH7 hd hn,Sf7 hs,Sg7,e1]
theorem Tc7{d:Ec}{D:Ev}{n:Nat}(hd:k8 D=d.vs)(h:EnL d n)(hn:n<=600)(he:bb4 d):EnB D d.ss d.ts d.ar:=by
 have e1:D.length=d.vs.length:=by rw[<-hd,BH7]
 have h1:=h.en.lv;have h2:=h.en.ls;have h3:=h.en.lt;have h4:=h.en.la;have h5:=h.ln;have h6:=HT7 h he d.vs fun x hx=>hx
 refine⟨by omega,by omega,by omega,by omega,by rw[OH7 hd h.nd];omega,fun x hx=>?_,h.en.sw,h.en.sr,fun x hx=>(h.en.tw x hx).1,h.en.aw⟩;have hm:(x.1,x.2.2)∈d.vs:=by rw[<-hd];exact List.mem_map.2 ⟨x,hx,rfl⟩
 have hv:=h.en.ok _ hm;have:=hv.n1;exact⟨h.en.vk _ hm,hv.ok,At7 hv.w (by omega),hv.n0,by simp only at this;omega,(he _ hm).1,(he _ hm).2⟩
theorem Jp7{eb:Nat}{e:Ec}{X:List ((Int×Int)×Tns)}(hX:X.Perm e.ts)(hA:Asc ltW X)(hl:e.ts.length<=1000000){W w:World}{L R:List HP}(ht:Take L (ecP eb e) R)(hS:St W L w):
  Calls Tryz.prog 17 #[.P eb] w fun x w'=>∃v,x=.returned v/\St W (xtP v X::L) w':=by
 refine(Eo7 (by omega) W w R (hS.take ht)).mono ?_;rintro x w' ⟨v,T,rfl,hT,hT2,hS⟩;obtain rfl:X=T:=Oo7 Au7 hA hT2 (hX.trans hT.symm);exact⟨v,rfl,hS.swap.back (Take.tail ht)⟩
theorem MG7{D:Ev}{ss:List (Int×(Int×Rpl))}{ts:List ((Int×Int)×Tns)}{ar:List ((Int×Int)×Unit)}{z:List Int}(h:EnB D ss ts ar)(hz:ee4 D ss ts ar=z){xb:Nat}{a1 a2 a3 a4:Option Addr}{c1 c2 c3 c4:Nat}{W w:World}{L R:List HP}(hs:Same L (xeB xb (.slice a1 D.length c1) (.slice a2 ss.length c2) (.slice a3 ts.length c3) (.slice a4 ar.length c4)::xrP (.slice a1 D.length c1) D::l6 D::xsP (.slice a2 ss.length c2) ss::xtP (.slice a3 ts.length c3) ts::xmP (.slice a4 ar.length c4) ar::R))(hS:St W L w):
  Calls Tryz.prog 76 #[.P xb] w fun e w'=>∃v,e=.returned v/\St W (byR v z::L) w':=by
 refine(OI7 h xb a1 a2 a3 a4 c1 c2 c3 c4 W w R (hs.st hS)).mono ?_;rintro e w' ⟨v,rfl,hS⟩;rw[hz]at hS;exact⟨v,rfl,hs.ts hS⟩
theorem CO7{eb xb:Nat}{d e:Ec}{n:Nat}(hsim:SimE d e)(hE:EnL e n)(hT:∀k,Kx k->L8 e k<=500000000)(hn:n<=600)(W w:World)(R:List HP)(hS:St W (ecP eb e::xU6 xb d::R) w):
  Calls Tryz.prog 28 #[.P eb,.P xb] w fun x w'=>x=.returned (.bool true)/\St W (ecP eb e::xU6 xb d::R) w':=by
 have he:=EU7 hS;have hD:=Df7 hE hsim;have heD:=Qo7 he hsim;have hvk:∀x∈e.vs,x.1.size<=maxLen:=fun x hx=>by have:=hE.en.vk x hx;unfold maxLen;omega
 have hlv:=hE.en.lv;have hlt:=hE.en.lt;have hlD:=hD.en.lv;have hltD:=hD.en.lt;have hks:=SZ7 hsim;have hkl:(ksE e).length<=600:=by rw[HR7];omega
 have htv:=ST7 hE.en.ok he hT;have htt:=SU7 hE.en.ok he hT;have htvD:∀x∈d.vs,(PsW x.2.ps 1000000/\(∀o∈x.2.L,MayP o)/\x.2.L.length<=32)/\C6 (cg4 x.2) it0=some (am4 x.2):=fun x hx=>⟨⟨At7 (hD.en.ok x hx).w (by omega),(heD x hx).1,(heD x hx).2⟩,htv x (hsim.v.mem_iff.1 hx)⟩
 have httD:=htt _ (hsim.v.map fun x=>am4 x.2);have hz0:=Se7 hsim;have Hvk:=jH hvk;have Hok:=jH hE.en.ok;have HN:=jH hE;have Htv:=jH htv;have HtvD:=jH htvD;obtain⟨s0,q0⟩:∃s,L8 e 0=s:=⟨_,rfl⟩
 obtain⟨s1,q1⟩:∃s,L8 e 1=s:=⟨_,rfl⟩
 obtain⟨s2,q2⟩:∃s,L8 e 2=s:=⟨_,rfl⟩
 obtain⟨s3,q3⟩:∃s,L8 e 3=s:=⟨_,rfl⟩
 rw[q0,q1,q2,q3]at httD;have htt':∀l:List It,l.Perm (e.vs.map fun x=>am4 x.2)->C6 l it0=some ⟨s0,s1,s2,s3⟩:=by rw[<-q0,<-q1,<-q2,<-q3];exact htt
 have Htt:=jH htt';have HttD:=jH httD;have Hsim:=jH hsim;have HD:=jH hD;have HeD:=jH heD;clear hvk htv htvD htt htt' httD q0 q1 q2 q3 he heD hE hD hT hsim;have heq:((s0==s0)&&((s1==s1)&&((s2==s2)&&(s3==s3))))=true:=by simp
 obtain⟨z,hz⟩:∃z,fc4 d=z:=⟨_,rfl⟩
 rw[hz]at hz0;have Hz0:=jH hz0;have Hz:=jH hz;have Hpos:=jH (OJ7 hz0);have Hks:=jH hks;clear hz hz0 hks;obtain⟨ks,hvs⟩:∃ks,d.vs.map (·.1)=ks:=⟨_,rfl⟩
 have Hvs:=jH hvs;rw[hvs]at Hks;clear hvs;go_enter Tryz.func28,Tryz.ntmps28;go_wp2_with(first|go_at_call 25;refine(Jj7 Hvk.out (by omega) W _ _ hS).mono ?_;clear hS;rintro x w ⟨va,rfl,hS⟩;rw[Hks.out]at hS hkl;obtain⟨sa,sc,rfl⟩:=hS.rowVal|go_at_call 73;refine(RZ7 (by omega) W _ _ (hS.s (xU6 xb d::bo4 (.slice sa ks.length sc) ks::ecP eb e::R))).mono ?_;clear hS;rintro x w ⟨vb,rfl,hS0⟩;rw[Hvs.out]at hS0;have hS:=hS0.s (bo4 (.slice sa ks.length sc) ks::bo4 vb ks::ecP eb e::xU6 xb d::R);clear hS0;obtain⟨sb,sd,rfl⟩:=hS.drop.rowVal)
 go_loopw [7] (fun v wr=>OnR W (bo4 (.slice sa ks.length sc) ks::bo4 (.slice sb ks.length sd) ks::ecP eb e::xU6 xb d::R) ks.length v wr) (fun v _=>ks.length-(intOf v).toNat)
 case atStart=>exact⟨0,rfl,Nat.zero_le _,hS⟩
 case round=>
  clear hS;obtain⟨i,rfl,hi,hS⟩:=hrel;by_cases hiz:i<ks.length
  case pos=>
   have hd1:decide (i<ks.length)=true:=decide_eq_true hiz;obtain⟨⟨g,rfl⟩,_,_⟩:=St.rowAddr hS (by omega);obtain⟨⟨g2,rfl⟩,hcap2,hcn2⟩:=St.rowAddr hS.drop (by omega);have hca:∀{K K':List HP},Take K (bo4 (.S g ks.length sc) ks) K'->i8 K g i (eS ks[i]):=fun hu=>i8.rowM hu (by rw[List.getElem?_map,jG hiz];rfl)
   have hcb:∀{K K':List HP},Take K (bo4 (.S g2 ks.length sd) ks) K'->i8 K g2 i (eS ks[i]):=fun hu=>i8.rowM hu (by rw[List.getElem?_map,jG hiz];rfl)
   generalize ks[i]=k at hca hcb;have hkk:(k.toList==k.toList)=true:=by simp
   go_wp2_with(fail);refine Aa7 (by kernel_rfl) (by kernel_rfl) hS ?_
   iterate 3 (refine qR ?_)
   (apply Aj7;rfl;rfl;rfl;decide +kernel;exact hca (by exact i6);refine frS ?_)
   iterate 3 (refine qR ?_)
   (apply Aj7;rfl;rfl;rfl;decide +kernel;exact hcb (by exact i6);refine frS ?_);refine qR ?_;clear hS;intro w hS;go_wp2_with fail;go_roundw
   case rel=>exact⟨i+1,rfl,hiz,hS⟩
   case measure=>simp[intOf];omega
  have hd1:decide (i<ks.length)=false:=decide_eq_false hiz;clear hi hiz;go_wp2_with(first|go_at_call 22;refine(Qa7 Hok.out (by omega) (by omega) Htv.out Htt.out W _ _ (hS.s (ecP eb e::xU6 xb d::R))).mono ?_;clear hS;rintro x w ⟨rfl,hS⟩|go_at_call 74;refine(Qq7 HtvD.out (by omega) HttD.out W _ _ (hS.s (xU6 xb d::ecP eb e::blk b8 _ _::R))).mono ?_;clear hS;rintro x w ⟨rfl,hS⟩|(fail_if_success (have:=gA));(refine zal hS ?_;clear hS;have gA:Nat:=0;intro b8 w hS)|(have:=gA);refine zal hS ?_;clear hS;intro b10 w hS|refine zsN hS ?_;clear hS;intro w hS);obtain⟨v1,v2,v3,v4,D,hd,hS0⟩:=aG4 (hS.s (xU6 xb d::ecP eb e::blk b8 _ _::blk b10 _ _::R));clear hS;obtain⟨a1,c1,rfl⟩:=hS0.drop.rowVal;obtain⟨a2,c2,rfl⟩:=hS0.drop.drop.drop.rowVal;obtain⟨a3,c3,rfl⟩:=hS0.drop.drop.drop.drop.rowVal;obtain⟨a4,c4,rfl⟩:=hS0.drop.drop.drop.drop.drop.rowVal;have hS:=hS0.s (ecP eb e::blk b8 _ _::blk b10 _ _::xeB xb (.slice a1 D.length c1) (.slice a2 d.ss.length c2) (.slice a3 d.ts.length c3) (.slice a4 d.ar.length c4)::xrP (.slice a1 D.length c1) D::l6 D::xsP (.slice a2 d.ss.length c2) d.ss::xtP (.slice a3 d.ts.length c3) d.ts::xmP (.slice a4 d.ar.length c4) d.ar::R);clear hS0;have HB:=jH (Tc7 hd HD.out hn HeD.out);have HZ:=jH (show ee4 D d.ss d.ts d.ar=z by rw[Sh7 hd Hsim.out.vn Hsim.out.sn];exact Hz.out);have Hd:=jH hd;clear hd;refine rf3 [0,0,3,7,15,15,63,127,255,511,1023,511,2559,6655,14847,32767,65535,131071,262143,524287,1048575,262143,3145727,7340031,16777215,33554431,67108863] (fun i=>i==10||i==19||i==22) (fun i=>if i==15 then some (.bool true)else none) [⟨some 10,none,fun nd=>xtP (nd 10) d.ts⟩,⟨some 19,none,fun nd=>byR (nd 19) z⟩,⟨some 22,none,fun nd=>byR (nd 22) z⟩] [none,none,none,none,none,none,none,none,none] hS ?_;clear hS;intro nd
  iterate 2 (refine zcN ?_)
  (apply Tb7;rfl;kernel_rfl;rfl;rfl;rfl;rfl;kernel_rfl;exact eqI _ _ _ _ _ _ _ _;rw[heq];refine frS ?_)
  iterate 7 (refine cR ?_)
  (apply AA7;rfl;rfl;rfl;decide +kernel;(focus(simp only[fD,fI,fJ,Act.eval,fE,fF,fG,fH,fK];try rfl));intro _;rfl;intro F w hS;exact Jp7 Hsim.out.t Hsim.out.ta (by omega) .head hS;refine frS ?_);refine cR ?_;refine zcn ?_;refine cR ?_;refine zc1 ?_;refine zcv ?_ (hs:=by(intro F w hS;(try clear hS0);exact GM7 (by omega) hS .head (.tail (.tail (.tail (.tail (.tail (.tail (.tail .head)))))))))
  iterate 3 (refine cR ?_)
  (apply AA7;rfl;rfl;rfl;decide +kernel;(focus(simp only[fD,fI,fJ,Act.eval,fE,fF,fG,fH,fK];try rfl));intro _;rfl;intro F w hS;exact OK7 Hz0.out HN.out hn (.tail .head) hS;refine frS ?_);apply GC7 (ns:=z);rfl;kernel_rfl;rfl;rfl;rfl;exact Tryz.underlying63;exact Tryz.underlying5;exact Tryz.underlying9;exact Hpos.out;(intro F;exact⟨_,by exact r6⟩);(refine frS ?_);refine cR ?_;apply AA7;rfl;rfl;rfl;decide +kernel;(focus(simp only[fD,fI,fJ,Act.eval,fE,fF,fG,fH,fK];try rfl));(intro _;rfl);(intro F w hS;exact MG7 HB.out HZ.out (Same.of (.tail (.tail (.tail (.tail (.tail .head))))) (Same.of (.tail (.tail (.tail (.tail (.tail .head))))) (Same.of (.tail (.tail (.tail (.tail (.tail .head))))) (Same.of (.tail (.tail (.tail (.tail (.tail .head))))) (Same.of (.tail (.tail (.tail (.tail (.tail .head))))) (Same.of (.tail (.tail (.tail (.tail (.tail .head))))) Same.refl)))))) hS);(refine frS ?_);apply GC7 (ns:=z);rfl;kernel_rfl;rfl;rfl;rfl;exact Tryz.underlying63;exact Tryz.underlying5;exact Tryz.underlying9;exact Hpos.out;(intro F;exact⟨_,by exact r6⟩);(refine frS ?_)
  iterate 3 (refine cR ?_)
  refine Ad7 ?_;intro w hS;have hS2:St W [xtP (nd 10) _,byR (nd 19) _,byR (nd 22) _,ecP eb e,blk b8 _ _,blk b10 _ _,xeB xb (.slice a1 D.length c1) (.slice a2 d.ss.length c2) (.slice a3 d.ts.length c3) (.slice a4 d.ar.length c4),xrP (.slice a1 D.length c1) D,l6 D,xsP (.slice a2 d.ss.length c2) d.ss,xtP (.slice a3 d.ts.length c3) d.ts,xmP (.slice a4 d.ar.length c4) d.ar,sats R] w:=hS;clear hS;have hS:=hS2.unpack [_,_,_,_,_,_,_,_,_,_,_,_];clear hS2;simp only[jK,jN]at hS;go_wp2_with fail;go_ret;exact⟨rfl,(J5 Hd.out (hS.s (bU4 xb (.slice a1 D.length c1) (.slice a2 d.ss.length c2) (.slice a3 d.ts.length c3) (.slice a4 d.ar.length c4) D d (ecP eb e::R)))).swap⟩
def isB(f t:ByteArray):Bool:=decide ((f.size:Int)<=16)&&(decide ((t.size:Int)<=16)&&((t.toList==[])||(!ltB t f&&!(t.toList==f.toList))))
def inB(f t k:ByteArray):Bool:=isB f t&&(decide (1<=(k.size:Int))&&(decide ((k.size:Int)<=16)&&(!(ltB k f)&&((t.toList==[])||ltB k t))))
theorem Hg7{f t:ByteArray}{r:Bool}(hr:isB f t=r)(W w:World)(R:List HP)(hS:St W R w):
  Calls Tryz.prog 128 #[.agg #[.string f,.string t]] w fun e w'=>e=.returned (.bool r)/\St W R w':=by
 go_enter Tryz.func128,Tryz.ntmps128;unfold isB at hr
 cases h1:decide ((f.size:Int)<=16)with
 | false=>
  rw[h1]at hr;obtain rfl:false=r:=hr;go_wp2_with(first|go_big_skip|refine zbx hS ?_;clear hS;intro bO w hS|refine zl1 hS ?_);go_ret;exact⟨rfl,hS.drop⟩
 | true=>
  rw[h1]at hr
  cases h2:decide ((t.size:Int)<=16)with
  | false=>
   rw[h2]at hr;obtain rfl:false=r:=hr;go_wp2_with(first|go_big_skip|refine zbx hS ?_;clear hS;intro bO w hS|refine zl1 hS ?_);go_ret;exact⟨rfl,hS.drop⟩
  | true=>
   rw[h2]at hr
   cases h3:t.toList==[]with
   | true=>
    rw[h3]at hr;obtain rfl:true=r:=hr;go_wp2_with(first|go_big_skip|refine zbx hS ?_;clear hS;intro bO w hS|refine zl1 hS ?_);go_ret;exact⟨rfl,hS.drop⟩
   | false=>
    rw[h3]at hr;have hr2:(!ltB t f&&!(t.toList==f.toList))=r:=hr;have Hr:=jH hr2;clear hr hr2;go_wp2_with(first|refine zbx hS ?_;clear hS;intro bO w hS|refine zl1 hS ?_);go_ret;rw[<-Hr.out];exact⟨rfl,hS.drop⟩
theorem Hh7{f t:ByteArray}{r:Bool}(hr:isB f t=r)(W w:World)(R:List HP)(hS:St W R w):
  Calls Tryz.prog 64 #[.agg #[.string f,.string t]] w fun e w'=>e=.returned (.bool r)/\St W R w':=by
 go_enter Tryz.func64,Tryz.ntmps64;unfold isB at hr
 cases h1:decide ((f.size:Int)<=16)with
 | false=>
  rw[h1]at hr;obtain rfl:false=r:=hr;go_wp2_with(first|go_big_skip|refine zbx hS ?_;clear hS;intro bO w hS|refine zl1 hS ?_);go_ret;exact⟨rfl,hS.drop⟩
 | true=>
  rw[h1]at hr
  cases h2:decide ((t.size:Int)<=16)with
  | false=>
   rw[h2]at hr;obtain rfl:false=r:=hr;go_wp2_with(first|go_big_skip|refine zbx hS ?_;clear hS;intro bO w hS|refine zl1 hS ?_);go_ret;exact⟨rfl,hS.drop⟩
  | true=>
   rw[h2]at hr
   cases h3:t.toList==[]with
   | true=>
    rw[h3]at hr;obtain rfl:true=r:=hr;go_wp2_with(first|go_big_skip|refine zbx hS ?_;clear hS;intro bO w hS|refine zl1 hS ?_);go_ret;exact⟨rfl,hS.drop⟩
   | false=>
    rw[h3]at hr;have hr2:(!ltB t f&&!(t.toList==f.toList))=r:=hr;have Hr:=jH hr2;clear hr hr2;go_wp2_with(first|refine zbx hS ?_;clear hS;intro bO w hS|refine zl1 hS ?_);go_ret;rw[<-Hr.out];exact⟨rfl,hS.drop⟩
theorem LC7{f t k:ByteArray}{r:Bool}(hr:inB f t k=r)(W w:World)(R:List HP)(hS:St W R w):
  Calls Tryz.prog 61 #[.agg #[.string f,.string t],.string k] w fun e w'=>e=.returned (.bool r)/\St W R w':=by
 go_enter Tryz.func61,Tryz.ntmps61;unfold inB at hr
 cases h1:isB f t with
 | false=>
  rw[h1]at hr;obtain rfl:false=r:=hr;have H1:=jH h1;clear h1;go_wp2_with(first|go_big_skip|refine zbx hS ?_;clear hS;intro bO w hS|refine zlN hS ?_|go_at_call 128;refine(Hg7 H1.out W _ _ hS).mono ?_;clear hS;rintro e w ⟨rfl,hS⟩);go_ret;exact⟨rfl,hS.drop⟩
 | true=>
  rw[h1]at hr;have H1:=jH h1;clear h1
  cases h2:decide (1<=(k.size:Int))with
  | false=>
   rw[h2]at hr;obtain rfl:false=r:=hr;go_wp2_with(first|go_big_skip|refine zbx hS ?_;clear hS;intro bO w hS|refine zlN hS ?_|go_at_call 128;refine(Hg7 H1.out W _ _ hS).mono ?_;clear hS;rintro e w ⟨rfl,hS⟩);go_ret;exact⟨rfl,hS.drop⟩
  | true=>
   rw[h2]at hr
   cases h3:decide ((k.size:Int)<=16)with
   | false=>
    rw[h3]at hr;obtain rfl:false=r:=hr;go_wp2_with(first|go_big_skip|refine zbx hS ?_;clear hS;intro bO w hS|refine zlN hS ?_|go_at_call 128;refine(Hg7 H1.out W _ _ hS).mono ?_;clear hS;rintro e w ⟨rfl,hS⟩);go_ret;exact⟨rfl,hS.drop⟩
   | true=>
    rw[h3]at hr
    cases h4:Op.bytesLess k.toList f.toList with
    | true=>
     rw[show ltB k f=true from h4]at hr;obtain rfl:false=r:=hr;go_wp2_with(first|go_big_skip|refine zbx hS ?_;clear hS;intro bO w hS|refine zlN hS ?_|refine zl1 hS ?_|go_at_call 128;refine(Hg7 H1.out W _ _ hS).mono ?_;clear hS;rintro e w ⟨rfl,hS⟩);go_ret;exact⟨rfl,hS.drop⟩
    | false=>
     rw[show ltB k f=false from h4]at hr
     cases h5:t.toList==[]with
     | true=>
      rw[h5]at hr;obtain rfl:true=r:=hr;go_wp2_with(first|refine zbx hS ?_;clear hS;intro bO w hS|refine zlN hS ?_|refine zl1 hS ?_|go_at_call 128;refine(Hg7 H1.out W _ _ hS).mono ?_;clear hS;rintro e w ⟨rfl,hS⟩);go_ret;exact⟨rfl,hS.drop⟩
     | false=>
      rw[h5]at hr;have hr2:ltB k t=r:=hr;have Hr:=jH hr2;clear hr hr2;go_wp2_with(first|refine zbx hS ?_;clear hS;intro bO w hS|refine zlN hS ?_|refine zl1 hS ?_|go_at_call 128;refine(Hg7 H1.out W _ _ hS).mono ?_;clear hS;rintro e w ⟨rfl,hS⟩);go_ret;rw[<-Hr.out];exact⟨rfl,hS.drop⟩
theorem LD7{f t k:ByteArray}{r:Bool}(hr:inB f t k=r)(W w:World)(R:List HP)(hS:St W R w):
  Calls Tryz.prog 26 #[.agg #[.string f,.string t],.string k] w fun e w'=>e=.returned (.bool r)/\St W R w':=by
 go_enter Tryz.func26,Tryz.ntmps26;unfold inB at hr
 cases h1:isB f t with
 | false=>
  rw[h1]at hr;obtain rfl:false=r:=hr;have H1:=jH h1;clear h1;go_wp2_with(first|go_big_skip|refine zbx hS ?_;clear hS;intro bO w hS|refine zlN hS ?_|go_at_call 64;refine(Hh7 H1.out W _ _ hS).mono ?_;clear hS;rintro e w ⟨rfl,hS⟩);go_ret;exact⟨rfl,hS.drop⟩
 | true=>
  rw[h1]at hr;have H1:=jH h1;clear h1
  cases h2:decide (1<=(k.size:Int))with
  | false=>
   rw[h2]at hr;obtain rfl:false=r:=hr;go_wp2_with(first|go_big_skip|refine zbx hS ?_;clear hS;intro bO w hS|refine zlN hS ?_|go_at_call 64;refine(Hh7 H1.out W _ _ hS).mono ?_;clear hS;rintro e w ⟨rfl,hS⟩);go_ret;exact⟨rfl,hS.drop⟩
  | true=>
   rw[h2]at hr
   cases h3:decide ((k.size:Int)<=16)with
   | false=>
    rw[h3]at hr;obtain rfl:false=r:=hr;go_wp2_with(first|go_big_skip|refine zbx hS ?_;clear hS;intro bO w hS|refine zlN hS ?_|go_at_call 64;refine(Hh7 H1.out W _ _ hS).mono ?_;clear hS;rintro e w ⟨rfl,hS⟩);go_ret;exact⟨rfl,hS.drop⟩
   | true=>
    rw[h3]at hr
    cases h4:Op.bytesLess k.toList f.toList with
    | true=>
     rw[show ltB k f=true from h4]at hr;obtain rfl:false=r:=hr;go_wp2_with(first|go_big_skip|refine zbx hS ?_;clear hS;intro bO w hS|refine zlN hS ?_|refine zl1 hS ?_|go_at_call 64;refine(Hh7 H1.out W _ _ hS).mono ?_;clear hS;rintro e w ⟨rfl,hS⟩);go_ret;exact⟨rfl,hS.drop⟩
    | false=>
     rw[show ltB k f=false from h4]at hr
     cases h5:t.toList==[]with
     | true=>
      rw[h5]at hr;obtain rfl:true=r:=hr;go_wp2_with(first|refine zbx hS ?_;clear hS;intro bO w hS|refine zlN hS ?_|refine zl1 hS ?_|go_at_call 64;refine(Hh7 H1.out W _ _ hS).mono ?_;clear hS;rintro e w ⟨rfl,hS⟩);go_ret;exact⟨rfl,hS.drop⟩
     | false=>
      rw[h5]at hr;have hr2:ltB k t=r:=hr;have Hr:=jH hr2;clear hr hr2;go_wp2_with(first|refine zbx hS ?_;clear hS;intro bO w hS|refine zlN hS ?_|refine zl1 hS ?_|go_at_call 64;refine(Hh7 H1.out W _ _ hS).mono ?_;clear hS;rintro e w ⟨rfl,hS⟩);go_ret;rw[<-Hr.out];exact⟨rfl,hS.drop⟩
end Go.Proofs.YtlmhakmoioogaaaGreat
end
section
namespace Go.Proofs.YtlmhakmoioogaaaGreat
open Go.Shelf
def Tryz.cloneSs_ren:Go.Shelf.Ren:=⟨fun|5=>59|7=>127|n=>n,fun|23=>80|25=>3|3=>90|4=>4|20=>20|n=>n,fun|n=>n⟩
theorem Tryz.cloneSs:Go.Proofs.SlLaysW.n5 Tryz.prog Tryz.cloneSs_ren:={
 mixed:=by kernel_rfl
 f5:=⟨Tryz.f59.name,by decide,Tryz.func59.trans (congrArg some (by kernel_rfl))⟩
 f7:=Tryz.func127.trans (congrArg some (by kernel_rfl))
 t4:=Tryz.underlying4
 a4:=Tryz.isAgg4
 z4:=Tryz.sizeOf4
 v4:=Tryz.zeroValue4
 t20:=Tryz.underlying20
 a20:=Tryz.isAgg20
 z20:=Tryz.sizeOf20
 v20:=Tryz.zeroValue20
 t23:=Tryz.underlying80
 a23:=Tryz.isAgg80
 z23:=Tryz.sizeOf80
 v23:=Tryz.zeroValue80 }
def Tryz.cloneAr_ren:Go.Shelf.Ren:=⟨fun|5=>60|7=>127|n=>n,fun|23=>82|25=>94|3=>4|4=>4|20=>20|n=>n,fun|n=>n⟩
theorem Tryz.cloneAr:Go.Proofs.SlLaysW.n5 Tryz.prog Tryz.cloneAr_ren:={
 mixed:=by kernel_rfl
 f5:=⟨Tryz.f60.name,by decide,Tryz.func60.trans (congrArg some (by kernel_rfl))⟩
 f7:=Tryz.func127.trans (congrArg some (by kernel_rfl))
 t4:=Tryz.underlying4
 a4:=Tryz.isAgg4
 z4:=Tryz.sizeOf4
 v4:=Tryz.zeroValue4
 t20:=Tryz.underlying20
 a20:=Tryz.isAgg20
 z20:=Tryz.sizeOf20
 v20:=Tryz.zeroValue20
 t23:=Tryz.underlying82
 a23:=Tryz.isAgg82
 z23:=Tryz.sizeOf82
 v23:=Tryz.zeroValue82 }
end Go.Proofs.YtlmhakmoioogaaaGreat
end
section
namespace Go.Sl
open Go.RowKit
section
variable{κ ν:Type}{ek:κ->Value}{ev:ν->Value}{W w:World}{L:List HP}{b:Nat}{l:List (κ×ν)}
theorem dm4(h:St W (d8 ek ev b l::L) w):∃es c,w.heap[b]? = some (.map es c)/\St W (d8 ek ev w.heap.size l::d8 ek ev b l::L) (w.alloc (.map es c)):=by obtain⟨ps,c,h1,h2,h3⟩:=P9 h;unfold cT4 bl4 at h3;have hb:=h3.get (b:=b) .head;refine⟨_,_,hb,?_⟩;have h4:=h3.alloc (Obj.map (List.map (K6 ek) (List.map (evs ev) ps)).toArray c);have h5:St W (cT4 ek ev w.heap.size ps c::cT4 ek ev b ps c::L) _:=h4;exact aI4 h1 h2 (aI4 h1 h2 h5.swap).swap
end
end Go.Sl
namespace Go.Proofs.YtlmhakmoioogaaaGreat
open Go.RowKit Go.Shelf Go.Sl
theorem Jq7{b:Nat}{l:List (Int×(Int×Rpl))}{W w:World}{L:List HP}(hS:St W (d8 eI eSs b l::L) w):
  Calls Tryz.prog 59 #[.map (some b)] w fun e w'=>∃b',e=.returned (.map (some b'))/\St W (d8 eI eSs b' l::d8 eI eSs b l::L) w':=by
 obtain⟨es,c,hb,hS2⟩:=dm4 hS;have h:=AnyW.maps_Clone Tryz.cloneSs b es c w hb;change Calls Tryz.prog 59 _ _ _ at h;refine h.mono ?_;rintro e w' ⟨rfl,rfl⟩;exact⟨_,rfl,hS2⟩
theorem Jr7{b:Nat}{l:List ((Int×Int)×Unit)}{W w:World}{L:List HP}(hS:St W (d8 eW eU b l::L) w):
  Calls Tryz.prog 60 #[.map (some b)] w fun e w'=>∃b',e=.returned (.map (some b'))/\St W (d8 eW eU b' l::d8 eW eU b l::L) w':=by
 obtain⟨es,c,hb,hS2⟩:=dm4 hS;have h:=AnyW.maps_Clone Tryz.cloneAr b es c w hb;change Calls Tryz.prog 60 _ _ _ at h;refine h.mono ?_;rintro e w' ⟨rfl,rfl⟩;exact⟨_,rfl,hS2⟩
end Go.Proofs.YtlmhakmoioogaaaGreat
end
