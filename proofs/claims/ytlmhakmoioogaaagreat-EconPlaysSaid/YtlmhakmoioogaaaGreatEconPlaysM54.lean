/-
  Two rows of what is under way compared; the document's Total. For every economy.
  The vault's Total in all cases. For every vault.
  Are the program's vault and the document's alike? They are, when they hold the same. For every vault.
  EconOnce: the walk. For every row of requests, every row of numbers.
  Both economies tell the same. For every two that are alike.
  EconPlays: the walk. For every row of requests.
  What a law's walk gives its row: true came back, and what was there before the call is as it was: so the arguments read as they did. For every law that writes only what it made itself.
-/
import Derived.Test.YtlmhakmoioogaaaGreatEconPlaysM1
import Derived.Test.YtlmhakmoioogaaaGreatEconPlaysM5
import Derived.Test.YtlmhakmoioogaaaGreatEconPlaysM26
import Derived.Test.YtlmhakmoioogaaaGreatEconPlaysM28
import Derived.Test.YtlmhakmoioogaaaGreatEconPlaysM29
import Derived.Test.YtlmhakmoioogaaaGreatEconPlaysM30
import Derived.Test.YtlmhakmoioogaaaGreatEconPlaysM48
import Derived.Test.YtlmhakmoioogaaaGreatEconPlaysM51
import Derived.Test.YtlmhakmoioogaaaGreatEconPlaysM53
import Derived.Laws.BytesString
import Derived.WalkKit
import Derived.ProofKit
import Derived.OpenShut
import Derived.ChangeSame
import Derived.ReadAgain
set_option maxHeartbeats 16000000
set_option maxRecDepth 100000
set_option linter.unusedSimpArgs false
set_option linter.unusedVariables false
section
namespace Go.Proofs.YtlmhakmoioogaaaGreat
open Go.RowKit Go.Sl
theorem eqTns(o0 o1:Int)(o2 o3 o4 o5:ByteArray)(o6 o7:Int)(w:World):(Op.equalIn 10000 40 (.agg #[.int .i64 o0,.int .i64 o1,.string o2,.string o3,.string o4,.string o5,.int .i64 o6,.int .i64 o7]) (.agg #[.int .i64 o0,.int .i64 o1,.string o2,.string o3,.string o4,.string o5,.int .i64 o6,.int .i64 o7])).run Tryz.prog w=.ok true w:=by
 have u3:=Tryz.underlying3
 have a3:=Tryz.isAgg3
 have z3:=Tryz.sizeOf3
 have u5:=Tryz.underlying26
 have a5:=Tryz.isAgg26
 have z5:=Tryz.sizeOf26
 have hp:=fun k u k2 u2 w=>eqPlace k u k2 u2 9997 w
 have hs:Tryz.prog.stoodInHeld 40=false:=by kernel_rfl
 rw[Op.equalIn]
 simp only[Sem.run_bind,run_underlying Tryz.underlying40,Result.andThen_ok,run_program,hs,Bool.false_eq_true,if_false]
 rw[←Array.forIn_toList]
 simp only[List.forIn_cons,List.forIn_nil]
 go_simp
def TzR(W:World)(Lr:List HP)(n:Nat)(v:Value)(w:World):Prop:=∃i:Nat,v=.int .i64 i∧i≤n∧St W Lr w
theorem Gc7(L:List ((Int×Int)×Tns))(a1 a2:Option Addr)(c1 c2:Nat)(hlen:L.length≤1000000)(W w:World)(Lr:List HP)(hS:St W (xtP (.slice a1 L.length c1) L::xtP (.slice a2 L.length c2) L::Lr) w):
  Calls Tryz.prog 75 #[.slice a1 L.length c1,.slice a2 L.length c2] w fun e w'=>e=.returned (.bool true)∧St W (xtP (.slice a1 L.length c1) L::xtP (.slice a2 L.length c2) L::Lr) w':=by
 go_enter Tryz.func75,Tryz.ntmps75
 go_wp2_with fail
 go_loopw [5] (fun v wr=>TzR W (xtP (.slice a1 L.length c1) L::xtP (.slice a2 L.length c2) L::Lr) L.length v wr) (fun v _=>L.length-(intOf v).toNat)
 case atStart=>exact⟨0,rfl,by omega,hS⟩
 case round=>
  clear hS
  obtain⟨i,rfl,hi,hS⟩:=hrel
  by_cases hn:i=L.length
  ·subst hn
   go_wp2_with fail
   go_ret
   exact⟨rfl,hS⟩
  ·have hil:i<L.length:=by omega
   clear hn hi
   obtain⟨⟨g1,rfl⟩,hc1,hn1⟩:=St.rowAddr hS (by omega)
   obtain⟨⟨g2,rfl⟩,hc2,hn2⟩:=St.rowAddr hS.drop (by omega)
   have q1:∀{X:List HP},Cells (xtP (.slice (some ⟨g1,0,none⟩) L.length c1) L::X) g1 (i*8) (tnC L[i]):=fun{X}=>Cells.rowE AV7 hil
   have q2:∀{X:List HP},Cells (xtP (.slice (some ⟨g2,0,none⟩) L.length c2) L::X) g2 (i*8) (tnC L[i]):=fun{X}=>Cells.rowE AV7 hil
   generalize L[i]=x at q1 q2
   obtain⟨⟨y1,y2⟩,⟨t0,t1,t2,t3,t4,t5,t6,t7⟩⟩:=x
   simp only[tnC,Tns.cells]at q1 q2
   go_wp2_with fail
   refine Aa7 (by kernel_rfl) (by kernel_rfl) hS ?_
   iterate 3 (refine qR ?_)
   (apply Lx7;(with_reducible rfl);rfl;rfl;decide +kernel;(exact q1);kernel_rfl;(refine frS ?_))
   iterate 3 (refine qR ?_)
   (apply Lx7;(with_reducible rfl);rfl;rfl;decide +kernel;(exact Cells.there q2);kernel_rfl;(refine frS ?_))
   ((with_reducible apply Kn7);(with_reducible rfl);rfl;rfl;rfl;kernel_rfl;exact eqTns _ _ _ _ _ _ _ _;(simp only[Bool.not_true]);(refine frS ?_))
   clear hS q1 q2
   intro w hS
   go_wp2_with fail
   go_roundw
   case rel=>exact⟨i+1,rfl,hil,hS⟩
   case measure=>simp[intOf];omega
theorem Gd7{L:List ((Int×Int)×Tns)}{v1 v2:Value}(hlen:L.length≤1000000){W w:World}{Lr R R2:List HP}(hS:St W Lr w)(h1:Take Lr (xtP v1 L) R)(h2:Take R (xtP v2 L) R2):
  Calls Tryz.prog 75 #[v1,v2] w fun e w'=>e=.returned (.bool true)∧St W Lr w':=by
 obtain⟨a1,c1,rfl⟩:=(hS.take h1).rowVal
 obtain⟨a2,c2,rfl⟩:=((hS.take h1).drop.take h2).rowVal
 have h3:St W (xtP (.slice a2 L.length c2) L::xtP (.slice a1 L.length c1) L::R2) w:=⟨hS.os,hS.tape,hS.output,CO7 (AH7 (fun _ x=>x) (fun _ x=>h2.sats x) (h1.sats hS.sat))⟩
 refine(Gc7 L a1 a2 c1 c2 hlen W w R2 h3.swap).mono ?_
 rintro e w' ⟨rfl,h⟩
 refine⟨rfl,St.back ⟨h.os,h.tape,h.output,AH7 (fun _ x=>x) (fun _ x=>h2.back x) h.sat⟩ h1⟩
theorem OW7{vb N:Nat}{V:Vs}(hw:PsW V.ps N)(hN:N≤1000000)(hmay:∀x∈V.L,MayP x)(hl32:V.L.length≤32){s0 s1 s2 s3:Int}(ht:addL (allV V) it0=some ⟨s0,s1,s2,s3⟩){W w:World}{R:List HP}(hS:St W (dvP vb V::R) w):
  Calls Tryz.prog 139 #[.pointer (some ⟨vb,0,none⟩)] w fun e w'=>e=.returned (.tuple #[.agg #[.int .i64 s0,.int .i64 s1,.int .i64 s2,.int .i64 s3],.bool true])∧St W (dvP vb V::R) w':=by
 obtain⟨xB,hS0⟩:=dvOpen hS
 refine(total8 vb xB V.ps V.L V.n hw hN hmay hl32 W w R hS0).mono ?_
 rintro e w' ⟨rfl,hS⟩
 refine⟨?_,dvShut hS⟩
 have h1:addL (allV ⟨V.ps,V.L,V.n⟩) it0=some ⟨s0,s1,s2,s3⟩:=ht
 rw[h1,addF,h1]
 rfl
theorem OX7{xb:Nat}{d:Ec}(hv:∀x∈d.vs,(PsW x.2.ps 1000000∧(∀o∈x.2.L,MayP o)∧x.2.L.length≤32)∧addL (allV x.2) it0=some (totI x.2))(hl:d.vs.length≤100000){t0 t1 t2 t3:Int}(ht:addL (d.vs.map fun x=>totI x.2) it0=some ⟨t0,t1,t2,t3⟩)(W w:World)(R:List HP)(hS:St W (xecP xb d::R) w):
  Calls Tryz.prog 74 #[.pointer (some ⟨xb,0,none⟩)] w fun x w'=>x=.returned (.tuple #[.agg #[.int .i64 t0,.int .i64 t1,.int .i64 t2,.int .i64 t3],.bool true])∧St W (xecP xb d::R) w':=by
 obtain⟨v1,v2,v3,v4,D,hd,hS0⟩:=xecOpen hS
 clear hS
 have hS:=hS0.s (xeB xb v1 v2 v3 v4::xrP v1 D::dvaP D::xsP v2 d.ss::xtP v3 d.ts::xmP v4 d.ar::R)
 clear hS0
 have hD:D.length≤100000:=by rw[←CM7,hd];exact hl
 have hvD:∀x∈D,(PsW x.2.2.ps 1000000∧(∀o∈x.2.2.L,MayP o)∧x.2.2.L.length≤32)∧addL (allV x.2.2) it0=some (totI x.2.2):=fun x hx=>hv (x.1,x.2.2) (by rw[←hd];exact List.mem_map.2 ⟨x,hx,rfl⟩)
 have htD:addL (D.map fun x=>totI x.2.2) it0=some ⟨t0,t1,t2,t3⟩:=by
  rw[←hd]at ht
  unfold stripE at ht
  rw[List.map_map]at ht
  exact ht
 have Hd:=Lib.hid hd
 have HvD:=Lib.hid hvD
 have HtD:=Lib.hid htD
 clear hd hl hv ht hvD htD
 obtain⟨a,cap,rfl⟩:=hS.drop.rowVal
 go_enter Tryz.func74,Tryz.ntmps74
 go_wp2_with(first|(refine zal hS ?_;clear hS;intro b0 w hS))
 have hS1:=hS.rowNil (k:=4) (T:=29)
 clear hS
 have hS:=hS1
 clear hS1
 go_loopw [4,5] (fun v4' v5 wr=>TtR W (blk b0 [.int .i64 0,.int .i64 0,.int .i64 0,.int .i64 0] 29::xeB xb (.slice a D.length cap) v2 v3 v4::xrP (.slice a D.length cap) D::dvaP D::xsP v2 d.ss::xtP v3 d.ts::xmP v4 d.ar::R) D.length (fun k=>(D.take k).map fun x=>totI x.2.2) v4' v5 wr) (fun _ v5 _=>D.length-(intOf v5).toNat)
 case atStart=>exact⟨0,rfl,Nat.zero_le _,hS⟩
 case round=>
  clear hS
  obtain⟨k,rfl,hkl,hS⟩:=hrel
  dsimp only at hS
  by_cases hkn:k=D.length
  ·rw[hkn,List.take_length]at hS
   have hd1:decide (k<D.length)=false:=by simp;omega
   clear hkl hkn
   generalize (D.map fun x=>totI x.2.2)=acc at hS HtD
   go_wp2_with(first|(refine zl1 hS ?_)|(go_at_call 117;refine(HS7 HtD.out _ W _ _ hS).mono ?_;clear hS;rintro ex w ⟨rfl,hS⟩)|(refine zsN hS ?_;clear hS;intro w hS))
   (apply Ac7;rfl;rfl;rfl;rfl;exact hS;decide +kernel;(exact cesS);kernel_rfl)
   exact⟨rfl,xecShut Hd.out (hS.s _)⟩
  ·have hk1:k<D.length:=by omega
   have hd1:decide (k<D.length)=true:=decide_eq_true hk1
   obtain⟨⟨g,rfl⟩,hcap,hcn⟩:=St.rowAddr hS.drop.drop.drop (by omega)
   have hcp:∀{K K':List HP},Take K (xrP (.slice (some ⟨g,0,none⟩) D.length cap) D) K'→Cell K g (k*2+1) (.pointer (some ⟨D[k].2.1,0,none⟩)):=fun hu=>Cells.elemM (enc:=rwC) Bb7 hu hk1 1 _ rfl
   have hstep:=Cq7 (fun x:ByteArray×(Nat×Vs)=>totI x.2.2) D hk1
   have hmx:=HvD.out _ (List.getElem_mem hk1)
   have hbl:((D.take k).map fun x=>totI x.2.2).length≤100000:=by rw[List.length_map,List.length_take];omega
   have hop:∀(w:World) (K:List HP),St W (dvaP D::K) w→St W (dvP D[k].2.1 D[k].2.2::dvaP (D.take k++D.drop (k+1))::K) w:=fun w K h=>by
    have h1:St W (dvaP (D.take k++D[k]::D.drop (k+1))::K) w:=by rw[←List.drop_eq_getElem_cons hk1,List.take_append_drop];exact h
    exact dvaOpen h1
   have hcl:∀(w:World) (K:List HP),St W (dvP D[k].2.1 D[k].2.2::dvaP (D.take k++D.drop (k+1))::K) w→St W (dvaP D::K) w:=fun w K h=>by
    have h1:=dvaShut h
    rwa [←List.drop_eq_getElem_cons hk1,List.take_append_drop]at h1
   generalize D.take k++D.drop (k+1)=D2 at hop hcl
   generalize ((D.take k).map fun x=>totI x.2.2)=acc at hS hstep hbl
   generalize D[k]=x at hcp hstep hmx hop hcl
   obtain⟨xk,vb,V⟩:=x
   obtain⟨⟨s0,s1,s2,s3⟩,hs⟩:∃z,totI V=z:=⟨_,rfl⟩
   obtain⟨hw,ht⟩:=hmx
   simp only at hcp hop hcl hw ht hstep
   rw[hs]at ht hstep
   have Hstep:=Lib.hid hstep
   have Hw:=Lib.hid hw
   have Ht:=Lib.hid ht
   have Hop:=Lib.hid hop
   have Hcl:=Lib.hid hcl
   clear hstep hw ht hop hcl hs hkn hkl
   go_wp2_with(first|(refine zl1 hS ?_ (hc:=by exact hcp (by exact takeS)))|(refine zl1 hS ?_)|(go_at_call 139;refine(OW7 Hw.out.1 (Nat.le_refl _) Hw.out.2.1 Hw.out.2.2 Ht.out (Hop.out _ _ (hS.s (dvaP D::itsR _ acc::blk b0 _ _::xeB xb (.slice (some ⟨g,0,none⟩) D.length cap) v2 v3 v4::xrP (.slice (some ⟨g,0,none⟩) D.length cap) D::xsP v2 d.ss::xtP v3 d.ts::xmP v4 d.ar::R)))).mono ?_;clear hS;rintro e w ⟨rfl,hS0⟩;have hS:=(Hcl.out _ _ hS0).s (itsR _ acc::dvaP D::blk b0 _ _::xeB xb (.slice (some ⟨g,0,none⟩) D.length cap) v2 v3 v4::xrP (.slice (some ⟨g,0,none⟩) D.length cap) D::xsP v2 d.ss::xtP v3 d.ts::xmP v4 d.ar::R);clear hS0)|(refine zal hS ?_;clear hS;intro b6 w hS)|(refine zsN hS ?_;clear hS;intro w hS)|(refine zlN hS ?_)|(refine zbs hS ?_;clear hS;intro bS w hS)|(refine zap hS ?_ (h63:=by unfold maxLen;omega) (hb:=by omega);clear hS;intro v w hS))
   go_roundw
   case rel=>
    refine⟨k+1,rfl,hk1,?_⟩
    dsimp only
    rw[Hstep.out]
    unfold itsR
    rw[CZ7,List.length_append,List.length_singleton]
    have h0:St W (row v 4 29 (acc.length+1) (acc.flatMap It.cells++It.cells ⟨s0,s1,s2,s3⟩)::_) w:=hS
    exact h0.s _
   case measure=>simp[intOf];omega
end Go.Proofs.YtlmhakmoioogaaaGreat
end
section
namespace Go.Sl
open Go.RowKit
structure Same(L L':List HP):Prop where
 to:∀{f:Frag},sats L f→sats L' f
 back:∀{f:Frag},sats L' f→sats L f
theorem Same.refl{L:List HP}:Same L L:=⟨fun h=>h,fun h=>h⟩
theorem Same.of{A:HP}{L R R':List HP}(h:Take L A R)(h2:Same R R'):Same L (A::R'):=
 ⟨fun hs=>AH7 (fun _ x=>x) (fun _ x=>h2.to x) (h.sats hs),fun hs=>h.back (AH7 (fun _ x=>x) (fun _ x=>h2.back x) hs)⟩
theorem Same.st{W w:World}{L L':List HP}(h:Same L L')(hS:St W L w):St W L' w:=⟨hS.os,hS.tape,hS.output,h.to hS.sat⟩
theorem Same.ts{W w:World}{L L':List HP}{X:HP}(h:Same L L')(hS:St W (X::L') w):St W (X::L) w:=⟨hS.os,hS.tape,hS.output,AH7 (fun _ x=>x) (fun _ x=>h.back x) hS.sat⟩
def bstr(ns:List Int):ByteArray:=ns.foldl (fun r n=>r.push (UInt8.ofNat n.toNat)) ByteArray.empty
section
variable{P:Program}{W:World}{ops:Array Oper}{t:List Nat}{toks:List Tok}{fresh:Nat→Bool}{pin:Nat→Option Value}{Qf:Act→Prop}{nd:Nat→Value}{i:Nat}{l:List Oper}{a:Act}{o:Oper}
theorem Rn7{ty t2:TypeId}{x y:Operand}{xs ys:Array Value}{r:Bool}(hf:fresh i=false)(hn:noTok toks i=true)(ho:o.op=.binOp .eql ty x y t2)(hg:Region.wanted o (yielded ops a.tmps)=true)(hx:a.eval x=.agg xs)(hy:a.eval y=.agg ys)(hm:P.eqGuardType P.depth ty=false)(hr:∀w:World,(Op.equalIn 10000 ty (.agg xs) (.agg ys)).run P w=.ok r w)
  (h:Chain P W ops t toks fresh pin Qf nd (i+1) l (a.put o.dst (.bool r))):Chain P W ops t toks fresh pin Qf nd i (o::l) a:=
 Ey7 hf hn hg (fun F w _=>by
  unfold execOp
  simp[ho,hx,hy,run_eqGuard_agg w .eql ty x y xs ys hm,run_eql_struct,hr]) h
theorem FV7{src dst e:TypeId}{x:Operand}{v0:Value}{ns:List Int}(hf:fresh i=false)(hn:noTok toks i=true)(ho:o.op=.convert src dst x)(hg:Region.wanted o (yielded ops a.tmps)=true)(hx:a.eval x=v0)
  (hs:P.underlying src=some (.slice e)) (he:P.underlying e=some (.int .u8)) (hd:P.underlying dst=some .string) (hp:0<ns.length) (hr:∀F, ∃R,Take (kpL toks t i nd++F) (row v0 1 e ns.length (ns.map (Value.int .u8))) R)
  (h:Chain P W ops t toks fresh pin Qf nd (i+1) l (a.put o.dst (.string (bstr ns)))):Chain P W ops t toks fresh pin Qf nd i (o::l) a:=
 Ey7 hf hn hg (fun F w hS=>by
  obtain⟨R,hu⟩:=hr F
  have hS1:=hS.take hu
  obtain⟨b,c,rfl⟩:=hS1.rowVal
  obtain⟨⟨g,rfl⟩,_,_⟩:=St.rowAddr hS1 hp
  have h1:=run_loadCells_list (P:=P) w ⟨g,0,none⟩ (ns.map (Value.int .u8)) (fun j v hj=>by
   rw[Addr.add_lit,Nat.zero_add]
   exact Cell.row hp hj W w hS1)
  rw[List.length_map]at h1
  have h2:=run_bytesToString (P:=P) w ⟨g,0,none⟩ ns.length c ns h1
  unfold execOp
  simp[ho,hx,run_convert_bytes_string w src dst e (some ⟨g,0,none⟩) ns.length c hs he hd,h2,bstr]) h
end
end Go.Sl
namespace Go.Proofs.YtlmhakmoioogaaaGreat
open Go.RowKit Go.Sl
section
variable{W w:World}{vb mb bb xb xB:Nat}{p:Ps}{L:List Ord}{n:Int}{N:Nat}{L1 R3:List HP}
end
theorem Nv7{e:Ec}{d:List Int}(h:EncIs e d):0<d.length:=by
 obtain⟨T,A,_,_,_,_,rfl⟩:=h
 have:=EV7 (e.vs.length:Int)
 simp only[List.length_append]
 omega
theorem Nw7{eb:Nat}{e:Ec}{n:Nat}{d:List Int}(hd:EncIs e d)(hE:EnL e n)(hn:n≤600){W w:World}{L R:List HP}(ht:Take L (ecP eb e) R)(hS:St W L w):
  Calls Tryz.prog 27 #[.pointer (some ⟨eb,0,none⟩)] w fun x w'=>∃v,x=.returned v∧St W (byR v d::L) w':=by
 refine(Jz7 hE hn W w R (hS.take ht)).mono ?_
 rintro x w' ⟨v,d',rfl,hd',hS⟩
 obtain rfl:=OQ7 hd hd'
 refine⟨v,rfl,?_⟩
 exact hS.swap.back (Take.tail ht)
def OnR(W:World)(L:List HP)(n:Nat)(v:Value)(w:World):Prop:=∃i:Nat,v=.int .i64 i∧i≤n∧St W L w
theorem QC7{d:Ec}{D:Ev}(hd:stripE D=d.vs)(hn:(d.vs.map (·.1)).Nodup)(hs:(d.ss.map (·.1)).Nodup):encL D d.ss d.ts d.ar=encD d:=by
 have e1:D.length=d.vs.length:=by rw[←hd,CM7]
 unfold encL encD
 rw[Nt7 hd hn,QA7 hs,QB7,e1]
theorem Ro7{d:Ec}{D:Ev}{n:Nat}(hd:stripE D=d.vs)(h:EnL d n)(hn:n≤600)(he:EachV d):EnB D d.ss d.ts d.ar:=by
 have e1:D.length=d.vs.length:=by rw[←hd,CM7]
 have h1:=h.en.lv;have h2:=h.en.ls;have h3:=h.en.lt;have h4:=h.en.la;have h5:=h.ln
 have h6:=Hf7 h he d.vs fun x hx=>hx
 refine⟨by omega,by omega,by omega,by omega,by rw[Nt7 hd h.nd];omega,fun x hx=>?_,h.en.sw,h.en.sr,fun x hx=>(h.en.tw x hx).1,h.en.aw⟩
 have hm:(x.1,x.2.2)∈d.vs:=by rw[←hd];exact List.mem_map.2 ⟨x,hx,rfl⟩
 have hv:=h.en.ok _ hm
 have:=hv.n1
 exact⟨h.en.vk _ hm,hv.ok,Ap7 hv.w (by omega),hv.n0,by simp only at this;omega,(he _ hm).1,(he _ hm).2⟩
theorem IC7{eb:Nat}{e:Ec}{X:List ((Int×Int)×Tns)}(hX:X.Perm e.ts)(hA:Asc ltW X)(hl:e.ts.length≤1000000){W w:World}{L R:List HP}(ht:Take L (ecP eb e) R)(hS:St W L w):
  Calls Tryz.prog 17 #[.pointer (some ⟨eb,0,none⟩)] w fun x w'=>∃v,x=.returned v∧St W (xtP v X::L) w':=by
 refine(DQ7 (by omega) W w R (hS.take ht)).mono ?_
 rintro x w' ⟨v,T,rfl,hT,hT2,hS⟩
 obtain rfl:X=T:=MY7 Ax7 hA hT2 (hX.trans hT.symm)
 exact⟨v,rfl,hS.swap.back (Take.tail ht)⟩
theorem Lu7{D:Ev}{ss:List (Int×(Int×Rpl))}{ts:List ((Int×Int)×Tns)}{ar:List ((Int×Int)×Unit)}{z:List Int}(h:EnB D ss ts ar)(hz:encL D ss ts ar=z){xb:Nat}{a1 a2 a3 a4:Option Addr}{c1 c2 c3 c4:Nat}{W w:World}{L R:List HP}(hs:Same L (xeB xb (.slice a1 D.length c1) (.slice a2 ss.length c2) (.slice a3 ts.length c3) (.slice a4 ar.length c4)::xrP (.slice a1 D.length c1) D::dvaP D::xsP (.slice a2 ss.length c2) ss::xtP (.slice a3 ts.length c3) ts::xmP (.slice a4 ar.length c4) ar::R))(hS:St W L w):
  Calls Tryz.prog 76 #[.pointer (some ⟨xb,0,none⟩)] w fun e w'=>∃v,e=.returned v∧St W (byR v z::L) w':=by
 refine(Nu7 h xb a1 a2 a3 a4 c1 c2 c3 c4 W w R (hs.st hS)).mono ?_
 rintro e w' ⟨v,rfl,hS⟩
 rw[hz]at hS
 exact⟨v,rfl,hs.ts hS⟩
theorem JA7{eb xb:Nat}{d e:Ec}{n:Nat}(hsim:SimE d e)(hE:EnL e n)(hT:∀k,Kx k→totE e k≤500000000)(hn:n≤600)(W w:World)(R:List HP)(hS:St W (ecP eb e::xecP xb d::R) w):
  Calls Tryz.prog 28 #[.pointer (some ⟨eb,0,none⟩),.pointer (some ⟨xb,0,none⟩)] w fun x w'=>x=.returned (.bool true)∧St W (ecP eb e::xecP xb d::R) w':=by
 have he:=FU7 hS
 have hD:=Qz7 hE hsim
 have heD:=OU7 he hsim
 have hvk:∀x∈e.vs,x.1.size≤maxLen:=fun x hx=>by have:=hE.en.vk x hx;unfold maxLen;omega
 have hlv:=hE.en.lv
 have hlt:=hE.en.lt
 have hlD:=hD.en.lv
 have hltD:=hD.en.lt
 have hks:=Rl7 hsim
 have hkl:(ksE e).length≤600:=by rw[Hd7];omega
 have htv:=Rf7 hE.en.ok he hT
 have htt:=Rg7 hE.en.ok he hT
 have htvD:∀x∈d.vs,(PsW x.2.ps 1000000∧(∀o∈x.2.L,MayP o)∧x.2.L.length≤32)∧addL (allV x.2) it0=some (totI x.2):=fun x hx=>⟨⟨Ap7 (hD.en.ok x hx).w (by omega),(heD x hx).1,(heD x hx).2⟩,htv x (hsim.v.mem_iff.1 hx)⟩
 have httD:=htt _ (hsim.v.map fun x=>totI x.2)
 have hz0:=Qy7 hsim
 have Hvk:=Lib.hid hvk
 have Hok:=Lib.hid hE.en.ok
 have HN:=Lib.hid hE
 have Htv:=Lib.hid htv
 have HtvD:=Lib.hid htvD
 obtain⟨s0,q0⟩:∃s,totE e 0=s:=⟨_,rfl⟩
 obtain⟨s1,q1⟩:∃s,totE e 1=s:=⟨_,rfl⟩
 obtain⟨s2,q2⟩:∃s,totE e 2=s:=⟨_,rfl⟩
 obtain⟨s3,q3⟩:∃s,totE e 3=s:=⟨_,rfl⟩
 rw[q0,q1,q2,q3]at httD
 have htt':∀l:List It,l.Perm (e.vs.map fun x=>totI x.2)→addL l it0=some ⟨s0,s1,s2,s3⟩:=by rw[←q0,←q1,←q2,←q3];exact htt
 have Htt:=Lib.hid htt'
 have HttD:=Lib.hid httD
 have Hsim:=Lib.hid hsim
 have HD:=Lib.hid hD
 have HeD:=Lib.hid heD
 clear hvk htv htvD htt htt' httD q0 q1 q2 q3 he heD hE hD hT hsim
 have heq:((s0==s0)&&((s1==s1)&&((s2==s2)&&(s3==s3))))=true:=by simp
 obtain⟨z,hz⟩:∃z,encD d=z:=⟨_,rfl⟩
 rw[hz]at hz0
 have Hz0:=Lib.hid hz0
 have Hz:=Lib.hid hz
 have Hpos:=Lib.hid (Nv7 hz0)
 have Hks:=Lib.hid hks
 clear hz hz0 hks
 obtain⟨ks,hvs⟩:∃ks,d.vs.map (·.1)=ks:=⟨_,rfl⟩
 have Hvs:=Lib.hid hvs
 rw[hvs]at Hks
 clear hvs
 go_enter Tryz.func28,Tryz.ntmps28
 go_wp2_with(first|(go_at_call 25;refine(Iw7 Hvk.out (by omega) W _ _ hS).mono ?_;clear hS;rintro x w ⟨va,rfl,hS⟩;rw[Hks.out]at hS hkl;obtain⟨sa,sc,rfl⟩:=hS.rowVal)|(go_at_call 73;refine(Qt7 (by omega) W _ _ (hS.s (xecP xb d::strR (.slice sa ks.length sc) ks::ecP eb e::R))).mono ?_;clear hS;rintro x w ⟨vb,rfl,hS0⟩;rw[Hvs.out]at hS0;have hS:=hS0.s (strR (.slice sa ks.length sc) ks::strR vb ks::ecP eb e::xecP xb d::R);clear hS0;obtain⟨sb,sd,rfl⟩:=hS.drop.rowVal))
 go_loopw [7] (fun v wr=>OnR W (strR (.slice sa ks.length sc) ks::strR (.slice sb ks.length sd) ks::ecP eb e::xecP xb d::R) ks.length v wr) (fun v _=>ks.length-(intOf v).toNat)
 case atStart=>exact⟨0,rfl,Nat.zero_le _,hS⟩
 case round=>
  clear hS
  obtain⟨i,rfl,hi,hS⟩:=hrel
  by_cases hiz:i<ks.length
  case pos=>
   have hd1:decide (i<ks.length)=true:=decide_eq_true hiz
   obtain⟨⟨g,rfl⟩,hcap,hcn⟩:=St.rowAddr hS (by omega)
   obtain⟨⟨g2,rfl⟩,hcap2,hcn2⟩:=St.rowAddr hS.drop (by omega)
   have hca:∀{K K':List HP},Take K (strR (.slice (some ⟨g,0,none⟩) ks.length sc) ks) K'→Cell K g i (eS ks[i]):=fun hu=>Cell.rowM hu (by rw[List.getElem?_map,List.getElem?_eq_getElem hiz];rfl)
   have hcb:∀{K K':List HP},Take K (strR (.slice (some ⟨g2,0,none⟩) ks.length sd) ks) K'→Cell K g2 i (eS ks[i]):=fun hu=>Cell.rowM hu (by rw[List.getElem?_map,List.getElem?_eq_getElem hiz];rfl)
   generalize ks[i]=k at hca hcb
   have hkk:(k.toList==k.toList)=true:=by simp
   go_wp2_with(fail)
   refine Aa7 (by kernel_rfl) (by kernel_rfl) hS ?_
   iterate 3 (refine qR ?_)
   (apply Aq7;(with_reducible rfl);rfl;rfl;decide +kernel;(exact hca (by exact takeS));(refine frS ?_))
   iterate 3 (refine qR ?_)
   (apply Aq7;(with_reducible rfl);rfl;rfl;decide +kernel;(exact hcb (by exact takeS));(refine frS ?_))
   (refine qR ?_)
   clear hS
   intro w hS
   go_wp2_with fail
   go_roundw
   case rel=>exact⟨i+1,rfl,hiz,hS⟩
   case measure=>simp[intOf];omega
  have hd1:decide (i<ks.length)=false:=decide_eq_false hiz
  clear hi hiz
  go_wp2_with(first|(go_at_call 22;refine(OG7 Hok.out (by omega) (by omega) Htv.out Htt.out W _ _ (hS.s (ecP eb e::xecP xb d::R))).mono ?_;clear hS;rintro x w ⟨rfl,hS⟩)|(go_at_call 74;refine(OX7 HtvD.out (by omega) HttD.out W _ _ (hS.s (xecP xb d::ecP eb e::blk b8 _ _::R))).mono ?_;clear hS;rintro x w ⟨rfl,hS⟩)|((fail_if_success (have:=gA));(refine zal hS ?_;clear hS;have gA:Nat:=0;intro b8 w hS))|((have:=gA);(refine zal hS ?_;clear hS;intro b10 w hS))|(refine zsN hS ?_;clear hS;intro w hS))
  obtain⟨v1,v2,v3,v4,D,hd,hS0⟩:=xecOpen (hS.s (xecP xb d::ecP eb e::blk b8 _ _::blk b10 _ _::R))
  clear hS
  obtain⟨a1,c1,rfl⟩:=hS0.drop.rowVal
  obtain⟨a2,c2,rfl⟩:=hS0.drop.drop.drop.rowVal
  obtain⟨a3,c3,rfl⟩:=hS0.drop.drop.drop.drop.rowVal
  obtain⟨a4,c4,rfl⟩:=hS0.drop.drop.drop.drop.drop.rowVal
  have hS:=hS0.s (ecP eb e::blk b8 _ _::blk b10 _ _::xeB xb (.slice a1 D.length c1) (.slice a2 d.ss.length c2) (.slice a3 d.ts.length c3) (.slice a4 d.ar.length c4)::xrP (.slice a1 D.length c1) D::dvaP D::xsP (.slice a2 d.ss.length c2) d.ss::xtP (.slice a3 d.ts.length c3) d.ts::xmP (.slice a4 d.ar.length c4) d.ar::R)
  clear hS0
  have HB:=Lib.hid (Ro7 hd HD.out hn HeD.out)
  have HZ:=Lib.hid (show encL D d.ss d.ts d.ar=z by rw[QC7 hd Hsim.out.vn Hsim.out.sn];exact Hz.out)
  have Hd:=Lib.hid hd
  clear hd
  refine rf3 [0,0,3,7,15,15,63,127,255,511,1023,511,2559,6655,14847,32767,65535,131071,262143,524287,1048575,262143,3145727,7340031,16777215,33554431,67108863] (fun i=>i==10||i==19||i==22) (fun i=>if i==15 then some (.bool true)else none) [⟨some 10,none,fun nd=>xtP (nd 10) d.ts⟩,⟨some 19,none,fun nd=>byR (nd 19) z⟩,⟨some 22,none,fun nd=>byR (nd 22) z⟩] [none,none,none,none,none,none,none,none,none] hS ?_
  clear hS
  intro nd
  iterate 2 (refine zcN ?_)
  (apply Rn7;rfl;kernel_rfl;(with_reducible rfl);rfl;rfl;rfl;kernel_rfl;exact eqI _ _ _ _ _ _ _ _;(rw[heq]);(refine frS ?_))
  iterate 7 (refine cR ?_)
  (apply AC7;rfl;rfl;(with_reducible rfl);decide +kernel;(focus(simp only[fD,fI,fJ,Act.eval,fE,fF,fG,fH,fK];try rfl));(intro _;rfl);(intro F w hS;exact IC7 Hsim.out.t Hsim.out.ta (by omega) .head hS);(refine frS ?_))
  (refine cR ?_)
  (refine zcn ?_)
  (refine cR ?_)
  (refine zc1 ?_)
  (refine zcv ?_ (hs:=by(intro F w hS;(try clear hS0);exact Gd7 (by omega) hS .head (.tail (.tail (.tail (.tail (.tail (.tail (.tail .head))))))))))
  iterate 3 (refine cR ?_)
  (apply AC7;rfl;rfl;(with_reducible rfl);decide +kernel;(focus(simp only[fD,fI,fJ,Act.eval,fE,fF,fG,fH,fK];try rfl));(intro _;rfl);(intro F w hS;exact Nw7 Hz0.out HN.out hn (.tail .head) hS);(refine frS ?_))
  (apply FV7 (ns:=z);rfl;kernel_rfl;(with_reducible rfl);rfl;rfl;exact Tryz.underlying63;exact Tryz.underlying5;exact Tryz.underlying9;exact Hpos.out;(intro F;exact⟨_,by exact takO⟩);(refine frS ?_))
  (refine cR ?_)
  (apply AC7;rfl;rfl;(with_reducible rfl);decide +kernel;(focus(simp only[fD,fI,fJ,Act.eval,fE,fF,fG,fH,fK];try rfl));(intro _;rfl);(intro F w hS;exact Lu7 HB.out HZ.out (Same.of (.tail (.tail (.tail (.tail (.tail .head))))) (Same.of (.tail (.tail (.tail (.tail (.tail .head))))) (Same.of (.tail (.tail (.tail (.tail (.tail .head))))) (Same.of (.tail (.tail (.tail (.tail (.tail .head))))) (Same.of (.tail (.tail (.tail (.tail (.tail .head))))) (Same.of (.tail (.tail (.tail (.tail (.tail .head))))) Same.refl)))))) hS);(refine frS ?_))
  (apply FV7 (ns:=z);rfl;kernel_rfl;(with_reducible rfl);rfl;rfl;exact Tryz.underlying63;exact Tryz.underlying5;exact Tryz.underlying9;exact Hpos.out;(intro F;exact⟨_,by exact takO⟩);(refine frS ?_))
  iterate 3 (refine cR ?_)
  refine Ad7 ?_
  intro w hS
  have hS2:St W [xtP (nd 10) _,byR (nd 19) _,byR (nd 22) _,ecP eb e,blk b8 _ _,blk b10 _ _,xeB xb (.slice a1 D.length c1) (.slice a2 d.ss.length c2) (.slice a3 d.ts.length c3) (.slice a4 d.ar.length c4),xrP (.slice a1 D.length c1) D,dvaP D,xsP (.slice a2 d.ss.length c2) d.ss,xtP (.slice a3 d.ts.length c3) d.ts,xmP (.slice a4 d.ar.length c4) d.ar,sats R] w:=hS
  clear hS
  have hS:=hS2.unpack [_,_,_,_,_,_,_,_,_,_,_,_]
  clear hS2
  simp only[List.cons_append,List.nil_append]at hS
  go_wp2_with fail
  go_ret
  exact⟨rfl,(xecShut Hd.out (hS.s (xecR xb (.slice a1 D.length c1) (.slice a2 d.ss.length c2) (.slice a3 d.ts.length c3) (.slice a4 d.ar.length c4) D d (ecP eb e::R)))).swap⟩
theorem playsE_spec(xs:List Opn)(v:Value)(V:World)(hv:SliceV Opn.cells 12 V v xs)(W w:World)(Lr:List HP)(hS:St W (Old V::Lr) w):
  Calls Tryz.prog 7 #[v] w fun e w'=>e=.returned (.bool true)∧St W (Old V::Lr) w':=by
 have Hv:=Lib.hid hv
 obtain⟨a,cap,rfl,h63,hact⟩:=hv.opn
 have Ha:=Lib.hid hact
 clear hact hv
 go_enter Tryz.func7,Tryz.ntmps7
 go_wp2_with(first|(go_at_call 20;refine(GY7 xs a cap h63 (fun i hi=>(Ha.out i hi).imp fun b h=>h.imp fun off h=>⟨h.1,fun j v hj=>Cell.old .head (h.2.all j v hj)⟩) W _ hS).mono ?_;clear hS;rintro e w ⟨hv,h150,rfl,hS⟩;cases hv))
 rotate_left
 ·go_ret
  exact⟨rfl,hS⟩
 have hlen:xs.length≤150:=by first|exact h150 rfl|exact h150 trivial
 clear h150
 refine(OR7 OV7 enT0 xs hlen _ V Hv.out W _ _ hS).mono ?_
 clear hS
 rintro r w ⟨eb,xb,rfl,hG,hN,hS⟩
 have htt:∀k,Kx k→totE (runE xs ec0) k≤500000000:=fun k hk=>by have:=hN.tt (by omega) k hk;omega
 have Hs:=Lib.hid hG.sim
 have HN:=Lib.hid hN
 have Ht:=Lib.hid htt
 clear hG hN htt
 generalize runE xs ec0=e at *
 generalize runD xs ec0=dd at *
 go_wp2_with(first|(go_at_call 28;refine(JA7 Hs.out HN.out.en Ht.out (by omega) W _ _ (hS.s (ecP eb e::xecP xb dd::Old V::Lr))).mono ?_;clear hS;rintro x w ⟨rfl,hS⟩)|(go_at_call 14;refine(Jl7 W _ _ hS).mono ?_;clear hS;rintro e w ⟨rfl,hS⟩))
 go_ret
 exact⟨rfl,hS.s _⟩
end Go.Proofs.YtlmhakmoioogaaaGreat
end
section
namespace Go.Sl
open Go.ChangeShapes Go.WideShapes Go.ChangeAt Go.RowKit
section
variable{H:Type}{enc:TypeId×Value→H}{P:Program}
theorem Eb7{w w':World}{base:Nat}{spare:Nat→Bool}{held:Bool}:∀{ts:List TypeId} {vs:List Value} {ds:List (DataW H)} {ps:List MemPlace},
  DataW.TrodAll enc P w base spare held ts vs ds ps→(∀p∈ps,w.sameAt w' p)→DataW.TrodAll enc P w' base spare held ts vs ds ps
 | [],[],[],_,h,_=>h
 | _::_,_::_,_::_,_,⟨p,q,⟨n,hn⟩,h2,e⟩,hs=>
  ⟨p,q,⟨n,DataW.trod_carry n _ _ _ hn fun x hx=>hs x (by rw[e];exact List.mem_append_left _ hx)⟩,Eb7 h2 (fun x hx=>hs x (by rw[e];exact List.mem_append_right _ hx)),e⟩
theorem law_post{f:Func}{s:ChangeSpec}{apart fresh handsOn again:Bool}{W W':World}{args:Array Value}{ds gs:List (DataW H)}{before:List MemPlace}{tb:TypeId}
  (hl:laidOutB P=true) (hm:mapsRowed P=true) (hz:((List.range P.types.size).all fun t=>match P.underlying t with|some (.slice e)=>decide (0<P.cellsOf e)|_=>true)=true)
  (hT:f.params.toList.all (·<P.types.size)=true) (hr:f.resultTypes=#[tb]) (hb:P.underlying tb=some .bool) (hv:s.vars=[])
  (hW:DataW.Whole enc P f.params.toList s.vars apart W args.toList ds gs before)
  (hres:(s.fn H (ds++gs)).results=[.lit (.bool true)]) (hargs:(s.fn H (ds++gs)).args=ds) (hvars:(s.fn H (ds++gs)).vars=[])
  (hB:Below W.heap.size W W'):s.post enc P f apart fresh handsOn again W args (.bool true) W':=by
 have hW0:=hW
 obtain⟨p,q,hA,hV,rfl,hfz,hnd⟩:=hW
 rw[hv]at hV
 obtain⟨rfl,rfl⟩:=trodVars_none hV
 have hlt:∀x∈p++[],x.block<W.heap.size:=fun x hx=>hW0.lt x hx
 have hA':∀sp:Nat→Bool,(∀x∈p++[],sp x.block=true)→DataW.TrodAll enc P W' 0 sp true f.params.toList args.toList (s.fn H (ds++[])).args p:=fun sp hs=>by
  rw[hargs]
  refine Eb7 (DataW.TrodAll.respare (kids_rows hl hm) (fun t e=>slices_full_of P hz t e) (fun t ht=>by simpa using List.all_eq_true.1 hT t ht) hA fun x hx=>hs x (by simpa using hx)) fun x hx=>hB.same (hlt x (by simpa using hx))
 have hR:∀(b:Nat) (sp:Nat→Bool) (hd:Bool),DataW.TrodAll enc P W' b sp hd f.resultTypes.toList ((Value.bool true).resultList f.resultTypes.size) (s.fn H (ds++[])).results []:=fun b sp hd=>by
  rw[hres,hr]
  exact trodAll_cons_mk (shut_bool hb _) trodAll_mk0
 have hU:∀sp:Nat→Bool,DataW.TrodVars enc P W' sp s.vars (s.fn H (ds++[])).vars []:=fun sp=>by
  rw[hv,hvars];rfl
 have hold:∀x∈p++[],(fun b=>decide (b<W.heap.size)) x.block=true:=fun x hx=>by simpa using hlt x hx
 refine⟨ds,[],p++[],[],p,[],hW0,hR _ _ _,hA' _ hold,hU _,World.keptBut_mono (fun x hx=>⟨hx,?_⟩) (hB.frame (·∈p++[])),fun _=>?_⟩
 ·exact Or.inr (by simpa using hx)
 ·refine⟨ok_one hr rfl (okWide_bool_mk hb _),_,_,([]++p)++[],⟨[]++p,[],trodAll_append (hA' _ (fun _ _=>rfl)) (hR _ _ _),hU _,rfl,?_,?_⟩,?_⟩
  ·intro b off hx
   rw[hB.frozen (hlt _ (by simpa using hx))]
   exact hfz b off (by simpa using hx)
  ·intro ha
   simpa using hnd ha
  ·intro x hx _
   simpa using hx
end
end Go.Sl
end
