/-
  The vault's scripts: what each act leaves. For every vault and act.
  The document's vault: New, Total; two rows of purses, of orders. For every vault.
  Numbers as bytes: the document's. For every number.
  Numbers and names as bytes: the document's; a string's bytes, a string out of bytes. For all numbers and strings.
-/
import Derived.Test.YtlmhakmoioogaaaGreatEconPlaysM5
import Derived.Test.YtlmhakmoioogaaaGreatEconPlaysM22
import Derived.Test.YtlmhakmoioogaaaGreatEconPlaysM25
import Derived.Test.YtlmhakmoioogaaaGreatEconPlaysM26
import Derived.Laws.Bits64b
import Derived.Laws.IdiomStrings
set_option maxHeartbeats 16000000
set_option maxRecDepth 100000
set_option linter.unusedSimpArgs false
set_option linter.unusedVariables false
section
namespace Go.Sl
open Go.RowKit
section
variable{P:Program}{W:World}{L:List HP}{ops:Array Oper}{Q:Act→Prop}{a:Act}{rest:List Oper}{o:Oper}
theorem Pl7{t t2:TypeId}{x y:Operand}{xs ys:Array Value}{r:Bool}(ho:o.op=.binOp .eql t x y t2)(hg:Region.wanted o (yielded ops a.tmps)=true)(hx:a.eval x=.agg xs)(hy:a.eval y=.agg ys)(hm:P.eqGuardType P.depth t=false)(hr:∀w:World,(Op.equalIn 10000 t (.agg xs) (.agg ys)).run P w=.ok r w)
  (h:wpQuiet P ops (St W L) Q rest (a.put o.dst (.bool r))):wpQuiet P ops (St W L) Q (o::rest) a:=
 Ge7 hg (fun w _=>by
  unfold execOp
  simp[ho,hx,hy,run_eqGuard_agg w .eql t x y xs ys hm,run_eql_struct,hr]) h
theorem Kn7{t t2:TypeId}{x y:Operand}{xs ys:Array Value}{r:Bool}(ho:o.op=.binOp .neq t x y t2)(hg:Region.wanted o (yielded ops a.tmps)=true)(hx:a.eval x=.agg xs)(hy:a.eval y=.agg ys)(hm:P.eqGuardType P.depth t=false)(hr:∀w:World,(Op.equalIn 10000 t (.agg xs) (.agg ys)).run P w=.ok r w)
  (h:wpQuiet P ops (St W L) Q rest (a.put o.dst (.bool (!r)))):wpQuiet P ops (St W L) Q (o::rest) a:=
 Ge7 hg (fun w _=>by
  unfold execOp
  simp[ho,hx,hy,run_eqGuard_agg w .neq t x y xs ys hm,run_neq_struct,hr]) h
end
end Go.Sl
namespace Go.Proofs.YtlmhakmoioogaaaGreat
open Go.RowKit Go.Sl
structure VOk(p:Ps)(n:Int)(i:Nat):Prop where
 ok:PsOk p
 w:PsW p (100*i)
 n0:1≤n
 n1:n≤1+i
theorem vOk0:VOk [] 1 0:=⟨EN7,Mv7 _,by decide,by decide⟩
theorem VOk.on{p:Ps}{n:Int}{i:Nat}(h:VOk p n i):VOk p n (i+1):=⟨h.ok,Ap7 h.w (by omega),h.n0,by have:=h.n1;omega⟩
section
variable(vb mb bb:Nat){p:Ps}{L:List Ord}{n:Int}{i:Nat}(W w:World)(R:List HP)
theorem QP7(h:VOk p n i)(who:ByteArray)(it:It)(hS:St W (vaultL vb mb bb p L n R) w):
  Calls Tryz.prog 102 #[.pointer (some ⟨vb,0,none⟩),.string who,.agg it.cells.toArray] w fun e w'=>e=.returned (.int .i64 (putE p who it))∧VOk (putP p who it) n (i+1)∧St W (vaultL vb mb bb (putP p who it) L n R) w':=by
 refine(NO7 vb mb p who _ _ it W w _ hS).mono ?_
 rintro e w' ⟨rfl,hS⟩
 exact⟨rfl,⟨Kd7 h.ok _ _,Ap7 (IY7 h.w _ _) (by omega),h.n0,by have:=h.n1;omega⟩,hS⟩
theorem PQ7(h:VOk p n i)(who:ByteArray)(it:It)(hS:St W (vaultL vb mb bb p L n R) w):
  Calls Tryz.prog 104 #[.pointer (some ⟨vb,0,none⟩),.string who,.agg it.cells.toArray] w fun e w'=>e=.returned (.int .i64 (takeE p who it))∧VOk (takeP p who it) n (i+1)∧St W (vaultL vb mb bb (takeP p who it) L n R) w':=by
 refine(Fn7 vb mb p who _ _ it W w _ hS).mono ?_
 rintro e w' ⟨rfl,hS⟩
 exact⟨rfl,⟨Co7 h.ok _ _,Ap7 (ER7 h.w _ _) (by omega),h.n0,by have:=h.n1;omega⟩,hS⟩
theorem PR7(h:VOk p n i)(o:Ord)(hS:St W (vaultL vb mb bb p L n R) w):
  Calls Tryz.prog 105 #[.pointer (some ⟨vb,0,none⟩),.agg o.cells.toArray] w fun e w'=>e=.returned (.tuple #[.int .i64 (ordV ⟨p,L,n⟩ o).1,.int .i64 (ordV ⟨p,L,n⟩ o).2.1]) ∧
   VOk (ordV ⟨p,L,n⟩ o).2.2.ps (ordV ⟨p,L,n⟩ o).2.2.n (i+1)∧St W (vaultL vb mb bb (ordV ⟨p,L,n⟩ o).2.2.ps (ordV ⟨p,L,n⟩ o).2.2.L (ordV ⟨p,L,n⟩ o).2.2.n R) w':=by
 have hll:=BM7 hS.drop.drop
 have hmay:∀x∈L,MayP x:=fun x hx=>(Bj7 hS.drop.drop x hx).1
 refine(Mq7 vb mb bb ⟨p,L,n⟩ o h.ok h.n0 W w R hS).mono ?_
 rintro e w' ⟨rfl,hS⟩
 have h1:=PI7 (V:=⟨p,L,n⟩) (o:=o) h.ok h.n0 hmay
 have h2:=Pg7 (V:=⟨p,L,n⟩) (o:=o) h.w hmay hll
 have h3:(ordV ⟨p,L,n⟩ o).2.2.n≤n+1:=by
  unfold ordV
  repeat' split
  all_goals dsimp only
  all_goals omega
 exact⟨rfl,⟨h1.1,Ap7 h2 (by omega),h1.2,by have:=h.n1;omega⟩,hS⟩
theorem PS7(h:VOk p n i)(who:ByteArray)(id:Int)(hS:St W (vaultL vb mb bb p L n R) w):
  Calls Tryz.prog 106 #[.pointer (some ⟨vb,0,none⟩),.string who,.int .i64 id] w fun e w'=>e=.returned (.int .i64 (canV ⟨p,L,n⟩ who id).1) ∧
   VOk (canV ⟨p,L,n⟩ who id).2.ps n (i+1)∧St W (vaultL vb mb bb (canV ⟨p,L,n⟩ who id).2.ps (canV ⟨p,L,n⟩ who id).2.L n R) w':=by
 have hmay:∀x∈L,MayP x:=fun x hx=>(Bj7 hS.drop.drop x hx).1
 refine(Mr7 vb mb bb ⟨p,L,n⟩ who id h.ok W w R hS).mono ?_
 rintro e w' ⟨rfl,hS⟩
 have h1:=PJ7 (V:=⟨p,L,n⟩) (who:=who) (id:=id) h.ok h.n0 hmay
 have h2:=Ph7 (V:=⟨p,L,n⟩) (who:=who) (id:=id) h.w hmay
 have h3:(canV ⟨p,L,n⟩ who id).2.n=n:=by
  unfold canV
  split <;> rfl
 rw[h3]at hS
 exact⟨rfl,⟨h1.1,Ap7 h2 (by omega),h.n0,by have:=h.n1;omega⟩,hS⟩
theorem QQ7(u1 u2:Value){k:ByteArray}{x0 x1 x2 x3:Int}(hx:purseA p k=⟨x0,x1,x2,x3⟩)(hS:St W (blk vb [.map (some mb),u1,u2] 176::amap eS eP mb p::R) w):
  Calls Tryz.prog 47 #[.pointer (some ⟨vb,0,none⟩),.string k] w fun e w'=>e=.returned (.agg #[.int .i64 x0,.int .i64 x1,.int .i64 x2,.int .i64 x3])∧St W (blk vb [.map (some mb),u1,u2] 176::amap eS eP mb p::R) w':=by
 refine(NM7 vb mb p k u1 u2 W w R hS).mono ?_
 rw[hx]
 exact fun e w' h=>h
end
theorem new8(W w:World)(R:List HP)(hS:St W R w):
  Calls Tryz.prog 114 #[] w fun e w'=>∃xb xB,e=.returned (.pointer (some ⟨xb,0,none⟩))∧St W (xvR xb xB [] [] 1 R) w':=by
 go_enter Tryz.func114,Tryz.ntmps114
 go_wp2_with(first|((fail_if_success (have:=bA));(with_reducible apply Az7 hS);(with_reducible rfl);rfl;rfl;rfl;clear hS;intro bA w hS;(refine frS ?_))|((have:=bA);(with_reducible apply Az7 hS);(with_reducible rfl);rfl;rfl;rfl;clear hS;intro bB w hS;(refine frS ?_)))
 go_ret
 have hS1:=(hS.rowNil (k:=5) (T:=189)).rowNil (k:=6) (T:=166)
 have e0:hdL []=[]:=List.eq_nil_of_length_eq_zero (by rw[Ce7];rfl)
 have hS2:St W (pileR (.slice none 0 0) []::hdR (.slice none 0 0) []::_) _:=hS1
 rw[←e0]at hS2
 have hS3:=xkShut (n:=1) (last:=0) (by decide) (hS2.s (blk bA _ _::pileR _ []::blk bB _ _::hdR _ (hdL [])::R))
 exact⟨bB,bA,rfl,xvShut (hS3.s (blk bB _ _::hdR _ (hdL [])::xkP bA [] 1::R))⟩
theorem total8(xb xB:Nat)(p:Ps)(L:List Ord)(n:Int){N:Nat}(hw:PsW p N)(hN:N≤1000000)(hmay:∀x∈L,MayP x)(hl32:L.length≤32)(W w:World)(R:List HP)(hS:St W (xvR xb xB p L n R) w):
  Calls Tryz.prog 139 #[.pointer (some ⟨xb,0,none⟩)] w fun e w'=>e=.returned (.tuple #[.agg (addF (allV ⟨p,L,n⟩)).cells.toArray,.bool (addL (allV ⟨p,L,n⟩) it0).isSome])∧St W (xvR xb xB p L n R) w':=by
 have hlh:(hdL p).length≤1000000:=by rw[Ce7];exact Nat.le_trans hw.len hN
 have Hmay:=Lib.hid hmay
 clear hmay hw
 obtain⟨xv,hS1⟩:=xvOpen hS
 obtain⟨la,lc,last,hlast,hS2⟩:=xkOpen (hS1.s (xkP xB L n::blk xb _ _::hdR _ (hdL p)::R))
 clear hS hS1
 obtain⟨ha,hc,rfl⟩:=hS2.drop.drop.drop.rowVal
 have hS:=hS2
 clear hS2
 unfold allV
 go_enter Tryz.func139,Tryz.ntmps139
 go_wp2_with(first|((with_reducible apply Aj7 hS);(with_reducible rfl);rfl;(exact zsS);clear hS;intro b0 w hS;(refine frS ?_)))
 have hS1:=hS.rowNil (k:=4) (T:=29)
 clear hS
 have hS:=hS1
 clear hS1
 try dsimp only
 generalize hhs:hdL p=hs at hS hlh ⊢
 have Hhs:=Lib.hid hhs
 clear hhs
 go_loopw [4,5] (fun v4 v5 wr=>TtR W (blk b0 [.int .i64 0,.int .i64 0,.int .i64 0,.int .i64 0] 29::blk xB [.slice la L.length lc,.int .i64 last] 244::pileR (.slice la L.length lc) L::blk xb [.slice ha hs.length hc,.pointer (some ⟨xB,0,none⟩),.int .i64 n] 246::hdR (.slice ha hs.length hc) hs::R) hs.length (fun k=>(hs.take k).map Hd.has) v4 v5 wr) (fun _ v5 _=>hs.length-(intOf v5).toNat)
 case atStart=>exact⟨0,rfl,Nat.zero_le _,hS⟩
 case round=>
  clear hS
  obtain⟨k,rfl,hkl,hS⟩:=hrel
  dsimp only at hS
  by_cases hkn:k=hs.length
  ·rw[hkn,List.take_length]at hS
   have hd1:decide (k<hs.length)=false:=by simp;omega
   clear hkl hkn
   generalize hacc:hs.map Hd.has=acc at hS ⊢
   have hal:acc.length≤1000000:=by rw[←hacc,List.length_map];exact hlh
   have Hacc:=Lib.hid hacc
   clear hacc
   go_wp2_with(first|go_big_skip|(refine zl1 hS ?_))
   go_loopw [4,6] (fun v4 v6 wr=>TtR W (blk b0 [.int .i64 0,.int .i64 0,.int .i64 0,.int .i64 0] 29::blk xB [.slice la L.length lc,.int .i64 last] 244::pileR (.slice la L.length lc) L::blk xb [.slice ha hs.length hc,.pointer (some ⟨xB,0,none⟩),.int .i64 n] 246::hdR (.slice ha hs.length hc) hs::R) L.length (fun k=>acc++(L.take k).map holdsF) v4 v6 wr) (fun _ v6 _=>L.length-(intOf v6).toNat)
   case atStart=>exact⟨0,rfl,Nat.zero_le _,by simpa using hS⟩
   case round=>
    clear hS
    obtain⟨j,rfl,hjl,hS⟩:=hrel
    dsimp only at hS
    by_cases hjn:j=L.length
    ·rw[hjn,List.take_length]at hS
     have hd2:decide (j<L.length)=false:=by simp;omega
     clear hjl hjn
     obtain⟨q,hq⟩:∃q,addF (acc++L.map holdsF)=q:=⟨_,rfl⟩
     obtain⟨s0,s1,s2,s3⟩:=q
     have Hq:=Lib.hid hq
     clear hq
     go_wp2_with(first|go_big_skip|(refine zl1 hS ?_)|(go_at_call 117;refine(add8 _ _ W _ _ hS).mono ?_;clear hS;rw[Hq.out];simp only[It.cells];rintro e w ⟨rfl,hS⟩)|(refine zsN hS ?_;clear hS;intro w hS))
     (apply Ac7;rfl;rfl;rfl;rfl;exact hS;decide +kernel;(exact cesS);kernel_rfl)
     rw[show(hdL p).map Hd.has=acc by rw[Hhs.out,Hacc.out],Hq.out]
     have hS1:=xkShut hlast (hS.s (blk xB _ _::pileR _ L::blk xb _ _::hdR _ hs::R))
     rw[←Hhs.out]at hS1
     exact⟨rfl,xvShut (hS1.s (blk xb _ _::hdR _ (hdL p)::xkP xB L n::R))⟩
    ·have hj1:j<L.length:=by omega
     obtain⟨⟨g,rfl⟩,hcap,hcn⟩:=St.rowAddr hS.drop.drop.drop (by omega)
     have hcells:∀{K K':List HP},Take K (pileR (.slice (some ⟨g,0,none⟩) L.length lc) L) K'→Cells K g (j*6) (Ord.cells L[j]):=fun hu=>Cells.elemM (enc:=Ord.cells) Ord.len hu hj1
     have hstep:acc++(L.take (j+1)).map holdsF=(acc++(L.take j).map holdsF)++[holdsF L[j]]:=by rw[Cq7 _ _ hj1,List.append_assoc]
     have hmx:=Hmay.out _ (List.getElem_mem hj1)
     have hbl:(acc++(L.take j).map holdsF).length≤1000100:=by rw[List.length_append,List.length_map,List.length_take];omega
     have Hstep:=Lib.hid hstep
     clear hstep hjn hjl
     generalize acc++(L.take j).map holdsF=accj at hS Hstep hbl
     generalize L[j]=x at hcells Hstep hmx
     obtain⟨it,hit⟩:∃y,holdsF x=y:=⟨_,rfl⟩
     obtain⟨oi,ou,oy,ot,oc2,op⟩:=x
     obtain⟨h0,h1,h2,h3⟩:=it
     have Hit:=Lib.hid hit
     have Hm:=Lib.hid hmx
     clear hit hmx
     simp only[Ord.cells]at hcells
     go_wp2_with(first|go_big_skip|(refine zlN hS ?_ (hc:=by exact hcells (by exact takeS)))|(refine zl1 hS ?_)|(go_at_call 183;refine(DK7 (o:=⟨oi,ou,oy,ot,oc2,op⟩) Hm.out Hit.out W _ _ hS).mono ?_;clear hS;rintro e w ⟨rfl,hS⟩)|(refine zbs hS ?_;clear hS;intro bS w hS)|(refine zap hS ?_ (h63:=by unfold maxLen;omega) (hb:=by omega);clear hS;intro v w hS))
     go_roundw
     case rel=>
      refine⟨j+1,rfl,hj1,?_⟩
      dsimp only
      rw[Hstep.out,Hit.out]
      unfold itsR
      rw[CZ7,List.length_append,List.length_singleton]
      have h0:St W (row v 4 29 (accj.length+1) (accj.flatMap It.cells++It.cells ⟨h0,h1,h2,h3⟩)::_) w:=hS
      exact h0.s _
     case measure=>simp[intOf];omega
  ·have hk1:k<hs.length:=by omega
   obtain⟨⟨g,rfl⟩,hcap,hcn⟩:=St.rowAddr hS.drop.drop.drop.drop.drop (by omega)
   have hitems:∀{K K':List HP},Take K (hdR (.slice (some ⟨g,0,none⟩) hs.length hc) hs) K'→Cells K g (k*5+1) (hs[k].has.cells):=fun hu j v hj=>by
    have h1:=Cells.elemM (enc:=Hd.cells) Hd.len hu hk1 (1+j) v (by rw[Nat.add_comm];exact hj)
    rwa [←Nat.add_assoc]at h1
   have hstep:=Cq7 Hd.has hs hk1
   have hbl:((hs.take k).map Hd.has).length≤1000000:=by rw[List.length_map,List.length_take];omega
   have Hstep:=Lib.hid hstep
   clear hstep hkn hkl
   generalize (hs.take k).map Hd.has=accj at hS Hstep hbl
   generalize hs[k]=x at hitems Hstep
   obtain⟨xw,⟨x0,x1,x2,x3⟩⟩:=x
   simp only[It.cells]at hitems
   go_wp2_with(first|go_big_skip|(refine zlN hS ?_ (hc:=by exact hitems (by exact takeS)))|(refine zl1 hS ?_)|(refine zbs hS ?_;clear hS;intro bS w hS)|(refine zap hS ?_ (h63:=by unfold maxLen;omega) (hb:=by omega);clear hS;intro v w hS))
   go_roundw
   case rel=>
    refine⟨k+1,rfl,hk1,?_⟩
    dsimp only
    rw[Hstep.out]
    unfold itsR
    rw[CZ7,List.length_append,List.length_singleton]
    have h0:St W (row v 4 29 (accj.length+1) (accj.flatMap It.cells++It.cells ⟨x0,x1,x2,x3⟩)::_) w:=hS
    exact h0.s _
   case measure=>simp[intOf];omega
def OrdR(W:World)(Lr:List HP)(n:Nat)(v:Value)(w:World):Prop:=∃i:Nat,v=.int .i64 i∧i≤n∧St W Lr w
def encF:Nat→Nat→List Int
 | 0,u=>[(u:Int)]
 | f+1,u=>if 128≤u then((u%128+128:Nat):Int)::encF f (u / 128)else[(u:Int)]
def numU(n:Int):Nat:=if 4611686018427387904<n then 4611686018427387904 else if 0<n then n.toNat else 0
def numB(n:Int):List Int:=encF 8 (numU n)
theorem Da7{f u:Nat}(h:u<128):encF f u=[(u:Int)]:=by
 cases f with
 | zero=>rfl
 | succ f=>rw[encF,if_neg (by omega)]
theorem Ko7:∀f u,(encF f u).length≤f+1
 | 0,u=>Nat.le_refl _
 | f+1,u=>by
  rw[encF]
  split
  ·have:=Ko7 f (u / 128)
   rw[List.length_cons]
   omega
  ·simp
theorem MG7(n:Int):numU n≤4611686018427387904:=by
 unfold numU
 repeat' split
 all_goals omega
theorem Am7(n:Int):(numB n).length≤9:=Ko7 _ _
theorem QR7:∀v:Fin 256,bits .or .u8 ((v.val:Nat):Int) 128=((v.val%128+128:Nat):Int):=by decide +kernel
theorem MH7(u:Nat):bits .or .u8 ((u:Int)%256) 128=((u%128+128:Nat):Int):=by
 have h:=QR7 ⟨u%256,Nat.mod_lt _ (by decide)⟩
 have e:((u:Int)%256)=((u%256:Nat):Int):=by omega
 rw[e,h]
 have:u%256%128=u%128:=Nat.mod_mod_of_dvd _ (by decide)
 simp only[this]
theorem GT7{u:Nat}(hu:u≤4611686018427387904):bits .or .u8 (bits .and .u64 (u:Int) 127%256) 128=((u%128+128:Nat):Int):=by
 have h:=bits_and_u64_nat u 127 (by omega) (by decide)
 have e:u &&& 127=u%128:=Nat.and_two_pow_sub_one_eq_mod u 7
 have h2:bits .and .u64 (u:Int) 127=((u%128:Nat):Int):=by
  rw[←e]
  exact h
 rw[h2,MH7,Nat.mod_mod]
theorem GU7{u:Nat}(h:u≤4611686018427387904):u<128^(8+1):=by
 have:(128:Nat)^(8+1)=9223372036854775808:=by decide
 omega
abbrev u8s(l:List Int):List Value:=l.map (Value.int .u8)
abbrev byR(v:Value)(l:List Int):HP:=row v 1 5 l.length (u8s l)
def NmR(W:World)(L:List HP)(t:List Int)(v3 v4:Value)(w:World):Prop:=
 ∃(f u:Nat) (d:List Int),v3=.int .u64 u∧u<128^(f+1)∧u≤4611686018427387904∧f≤8∧d.length≤8-f∧d++encF f u=t∧St W (byR v4 d::L) w
theorem BY7(d:List Int)(x:Int):u8s (d++[x])=u8s d++[Value.int .u8 x]:=by unfold u8s;rw[List.map_append];rfl
theorem AD7{v:Value}{n:Nat}{l:List Int}{L:List HP}{W w:World}(hl:l.length=n)(h:St W (row v 1 5 n (u8s l)::L) w):St W (byR v l::L) w:=by
 unfold byR
 rw[hl]
 exact h
theorem num8(n:Int)(hn : -9223372036854775808≤n∧n≤9223372036854775807)(W w:World)(R:List HP)(hS:St W R w):
  Calls Tryz.prog 140 #[.int .i64 n] w fun e w'=>∃v,e=.returned v∧St W (byR v (numB n)::R) w':=by
 obtain⟨u0,hu0⟩:∃u,numU n=u:=⟨_,rfl⟩
 have hul:u0≤4611686018427387904:=by rw[←hu0];exact MG7 n
 unfold numB
 rw[hu0]
 by_cases h1:4611686018427387904<n
 ·have e:numU n=4611686018427387904:=by unfold numU;rw[if_pos h1]
  have eu:u0=4611686018427387904:=hu0.symm.trans e
  have Eu:=Lib.hid eu
  clear hu0 e eu
  go_enter Tryz.func140,Tryz.ntmps140
  go_wp2_with(first|go_big_skip)
  have hS1:=hS.rowNil (k:=1) (T:=5)
  clear hS
  have hS:=hS1
  clear hS1
  go_loopw [3,4] (fun v3 v4 wr=>NmR W R (encF 8 u0) v3 v4 wr) (fun v3 _ _=>(intOf v3).toNat)
  case atStart=>exact⟨8,u0,[],by rw[Eu.out];rfl,GU7 hul,hul,by omega,by simp,rfl,hS⟩
  case round=>
   clear hS
   obtain⟨f,u,d,rfl,hu,hu2,hf,hd,hE,hS⟩:=hrel
   by_cases h128:128≤u
   ·obtain⟨f,rfl⟩:∃f',f=f'+1:=by
     cases f with
     | zero=>simp at hu;omega
     | succ f=>exact⟨f,rfl⟩
    have hu3:u / 128<128^(f+1):=Nat.div_lt_of_lt_mul (by rw[Nat.pow_succ]at hu;omega)
    rw[encF,if_pos h128]at hE
    have Hu3:=Lib.hid hu3
    have HE:=Lib.hid hE
    clear hE hu hu3
    go_wp2_with(first|go_big_skip|(refine zbs hS ?_;clear hS;intro bS w hS)|(refine zap hS ?_ (h63:=by unfold maxLen;omega) (hb:=by omega);clear hS;intro v w hS))
    have hb:=GT7 hu2
    have h0:St W (row v 1 5 (d.length+1) (u8s d++[Value.int .u8 (bits .or .u8 (bits .and .u64 (u:Int) 127%256) 128)])::_) w:=hS
    rw[hb,←BY7]at h0
    have h2:=AD7 (by rw[List.length_append,List.length_singleton]) h0
    go_roundw
    case rel=>exact⟨f,u / 128,d++[((u%128+128:Nat):Int)],by rw[Int.natCast_ediv];rfl,Hu3.out,by omega,by omega,by rw[List.length_append,List.length_singleton];omega,by rw[List.append_assoc];exact HE.out,h2.s _⟩
    case measure=>simp[intOf];omega
   ·have hu4:u<128:=by omega
    rw[Da7 hu4]at hE
    have HE:=Lib.hid hE
    clear hE hu h128
    go_wp2_with(first|go_big_skip|(refine zbs hS ?_;clear hS;intro bS w hS)|(refine zap hS ?_ (h63:=by unfold maxLen;omega) (hb:=by omega);clear hS;intro v w hS))
    go_ret
    refine⟨v,rfl,?_⟩
    have h0:St W (row v 1 5 (d.length+1) (u8s d++[Value.int .u8 (u:Int)])::_) w:=hS
    rw[←BY7,HE.out]at h0
    have h2:=AD7 (by rw[←HE.out,List.length_append,List.length_singleton]) h0
    exact h2.s _
 ·have d1:decide (4611686018427387904<n)=false:=by simpa using h1
  by_cases h2:0<n
  ·have e:numU n=n.toNat:=by unfold numU;rw[if_neg h1,if_pos h2]
   obtain⟨m,rfl⟩:∃m:Nat,n=m:=⟨n.toNat,by omega⟩
   have eu:u0=m:=hu0.symm.trans (by rw[e];simp)
   subst eu
   clear hu0 e
   go_enter Tryz.func140,Tryz.ntmps140
   go_wp2_with(first|go_big_skip)
   have hS1:=hS.rowNil (k:=1) (T:=5)
   clear hS
   have hS:=hS1
   clear hS1
   go_loopw [3,4] (fun v3 v4 wr=>NmR W R (encF 8 u0) v3 v4 wr) (fun v3 _ _=>(intOf v3).toNat)
   case atStart=>exact⟨8,u0,[],rfl,GU7 hul,hul,by omega,by simp,rfl,hS⟩
   case round=>
    clear hS
    obtain⟨f,u,d,rfl,hu,hu2,hf,hd,hE,hS⟩:=hrel
    by_cases h128:128≤u
    ·obtain⟨f,rfl⟩:∃f',f=f'+1:=by
      cases f with
      | zero=>simp at hu;omega
      | succ f=>exact⟨f,rfl⟩
     have hu3:u / 128<128^(f+1):=Nat.div_lt_of_lt_mul (by rw[Nat.pow_succ]at hu;omega)
     rw[encF,if_pos h128]at hE
     have Hu3:=Lib.hid hu3
     have HE:=Lib.hid hE
     clear hE hu hu3
     go_wp2_with(first|go_big_skip|(refine zbs hS ?_;clear hS;intro bS w hS)|(refine zap hS ?_ (h63:=by unfold maxLen;omega) (hb:=by omega);clear hS;intro v w hS))
     have hb:=GT7 hu2
     have h0:St W (row v 1 5 (d.length+1) (u8s d++[Value.int .u8 (bits .or .u8 (bits .and .u64 (u:Int) 127%256) 128)])::_) w:=hS
     rw[hb,←BY7]at h0
     have h2:=AD7 (by rw[List.length_append,List.length_singleton]) h0
     go_roundw
     case rel=>exact⟨f,u / 128,d++[((u%128+128:Nat):Int)],by rw[Int.natCast_ediv];rfl,Hu3.out,by omega,by omega,by rw[List.length_append,List.length_singleton];omega,by rw[List.append_assoc];exact HE.out,h2.s _⟩
     case measure=>simp[intOf];omega
    ·have hu4:u<128:=by omega
     rw[Da7 hu4]at hE
     have HE:=Lib.hid hE
     clear hE hu h128
     go_wp2_with(first|go_big_skip|(refine zbs hS ?_;clear hS;intro bS w hS)|(refine zap hS ?_ (h63:=by unfold maxLen;omega) (hb:=by omega);clear hS;intro v w hS))
     go_ret
     refine⟨v,rfl,?_⟩
     have h0:St W (row v 1 5 (d.length+1) (u8s d++[Value.int .u8 (u:Int)])::_) w:=hS
     rw[←BY7,HE.out]at h0
     have h2:=AD7 (by rw[←HE.out,List.length_append,List.length_singleton]) h0
     exact h2.s _
  ·have d2:decide (0<n)=false:=by simpa using h2
   have e:numU n=0:=by unfold numU;rw[if_neg h1,if_neg h2]
   have eu:u0=0:=hu0.symm.trans e
   have Eu:=Lib.hid eu
   clear hu0 e eu
   go_enter Tryz.func140,Tryz.ntmps140
   go_wp2_with(first|go_big_skip)
   have hS1:=hS.rowNil (k:=1) (T:=5)
   clear hS
   have hS:=hS1
   clear hS1
   go_loopw [3,4] (fun v3 v4 wr=>NmR W R (encF 8 u0) v3 v4 wr) (fun v3 _ _=>(intOf v3).toNat)
   case atStart=>exact⟨8,u0,[],by rw[Eu.out];rfl,GU7 hul,hul,by omega,by simp,rfl,hS⟩
   case round=>
    clear hS
    obtain⟨f,u,d,rfl,hu,hu2,hf,hd,hE,hS⟩:=hrel
    by_cases h128:128≤u
    ·obtain⟨f,rfl⟩:∃f',f=f'+1:=by
      cases f with
      | zero=>simp at hu;omega
      | succ f=>exact⟨f,rfl⟩
     have hu3:u / 128<128^(f+1):=Nat.div_lt_of_lt_mul (by rw[Nat.pow_succ]at hu;omega)
     rw[encF,if_pos h128]at hE
     have Hu3:=Lib.hid hu3
     have HE:=Lib.hid hE
     clear hE hu hu3
     go_wp2_with(first|go_big_skip|(refine zbs hS ?_;clear hS;intro bS w hS)|(refine zap hS ?_ (h63:=by unfold maxLen;omega) (hb:=by omega);clear hS;intro v w hS))
     have hb:=GT7 hu2
     have h0:St W (row v 1 5 (d.length+1) (u8s d++[Value.int .u8 (bits .or .u8 (bits .and .u64 (u:Int) 127%256) 128)])::_) w:=hS
     rw[hb,←BY7]at h0
     have h2:=AD7 (by rw[List.length_append,List.length_singleton]) h0
     go_roundw
     case rel=>exact⟨f,u / 128,d++[((u%128+128:Nat):Int)],by rw[Int.natCast_ediv];rfl,Hu3.out,by omega,by omega,by rw[List.length_append,List.length_singleton];omega,by rw[List.append_assoc];exact HE.out,h2.s _⟩
     case measure=>simp[intOf];omega
    ·have hu4:u<128:=by omega
     rw[Da7 hu4]at hE
     have HE:=Lib.hid hE
     clear hE hu h128
     go_wp2_with(first|go_big_skip|(refine zbs hS ?_;clear hS;intro bS w hS)|(refine zap hS ?_ (h63:=by unfold maxLen;omega) (hb:=by omega);clear hS;intro v w hS))
     go_ret
     refine⟨v,rfl,?_⟩
     have h0:St W (row v 1 5 (d.length+1) (u8s d++[Value.int .u8 (u:Int)])::_) w:=hS
     rw[←BY7,HE.out]at h0
     have h2:=AD7 (by rw[←HE.out,List.length_append,List.length_singleton]) h0
     exact h2.s _
end Go.Proofs.YtlmhakmoioogaaaGreat
end
section
namespace Go.Sl
open Go.RowKit
def strI(s:ByteArray):List Int:=s.data.toList.map fun b=>(b.toNat:Int)
theorem AE7(s:ByteArray):(strI s).length=s.size:=by unfold strI;rw[List.length_map];rfl
def sbR(g:Nat)(s:ByteArray):HP:=fun f=>∃o:Obj,(∀w:World,w.heap[g]? = some o→∀(j:Nat) (u:Value),((strI s).map (Value.int .u8))[j]? = some u→w.cell? ⟨g,j,none⟩=some u)∧blkO g o f
section
variable{P:Program}{ops:Array Oper}{Q:Exit→Act→World→Prop}{a:Act}{w:World}{W:World}{L:List HP}{rest:List Oper}{o:Oper}
theorem Cells.sb{g:Nat}{s:ByteArray}:Cells (sbR g s::L) g 0 ((strI s).map (Value.int .u8)):=fun j v hj W w hS=>by
 obtain⟨o,hS⟩:=St.ex hS
 obtain⟨h1,hS⟩:=St.and hS
 rw[Nat.zero_add]
 exact h1 w (hS.get .head) j v hj
theorem Av7{src dst e:TypeId}{x:Operand}{s:ByteArray}(hS:St W L w)(ho:o.op=.convert src dst x)(hg:Region.wanted o (yielded ops a.tmps)=true)(hx:a.eval x=.string s)
  (hs:P.underlying src=some .string) (hd:P.underlying dst=some (.slice e)) (he:P.underlying e=some (.int .u8))
  (h:∀g c w',St W (sbR g s::L) w'→wpList P ops Q rest (a.put o.dst (.slice (some ⟨g,0,none⟩) s.size c)) w'):wpList P ops Q (o::rest) a w:=by
 have h1:=run_bytes_of_string (P:=P) w src dst e s hs hd he
 refine Al7 hg (v:=.slice (some ⟨w.heap.size,0,none⟩) s.size (grownCap w s.size 0 e)) (w':=w.drew.alloc (.cells (bytesRow s (grownCap w s.size 0 e)) e ((bytesRow s (grownCap w s.size 0 e)).size,(bytesRow s (grownCap w s.size 0 e)).size+1))) ?_ (h _ _ _ ?_)
 ·unfold execOp
  simp[ho,hx,h1]
 ·have h2:=(hS.drawn (w.drawn+1)).alloc (.cells (bytesRow s (grownCap w s.size 0 e)) e ((bytesRow s (grownCap w s.size 0 e)).size,(bytesRow s (grownCap w s.size 0 e)).size+1))
  refine St.mkEx _ (St.mkAnd ?_ h2)
  intro w' hw j u hj
  rw[List.getElem?_map]at hj
  unfold strI at hj
  rw[List.getElem?_map]at hj
  have hw2:w'.heap[w.heap.size]? = some (.cells (bytesRow s (grownCap w s.size 0 e)) e ((bytesRow s (grownCap w s.size 0 e)).size,(bytesRow s (grownCap w s.size 0 e)).size+1)):=hw
  cases hb:s.data.toList[j]? with
  | none=>rw[hb]at hj;cases hj
  | some b=>
   rw[hb]at hj
   simp only[Option.map_some,Option.some.injEq]at hj
   have hb2:s.data[j]? = some b:=by rw[←hb];simp
   have hjl:j<s.data.size:=(Array.getElem?_eq_some_iff.1 hb2).1
   have h3:(bytesRow s (grownCap w s.size 0 e))[j]? = some u:=by
    unfold bytesRow
    rw[Array.getElem?_append_left (by simpa using hjl),Array.getElem?_map,hb2,←hj]
    rfl
   show w'.cell? ⟨w.heap.size,j,none⟩=some u
   simp[World.cell?,hw2,h3]
end
end Go.Sl
namespace Go.Proofs.YtlmhakmoioogaaaGreat
open Go.RowKit Go.Sl
theorem AY7(l:List Int):(u8s l).all (·.oneCell')=true:=by
 rw[List.all_eq_true]
 intro v hv
 obtain⟨x,_,rfl⟩:=List.mem_map.1 hv
 rfl
theorem Aw7(a b:List Int):u8s (a++b)=u8s a++u8s b:=List.map_append
theorem AL7(a:List Int):(u8s a).length=a.length:=List.length_map ..
theorem bytes8(g c:Nat)(s:ByteArray)(hs:s.size≤1000000)(W w:World)(R:List HP)(hS:St W (sbR g s::R) w):
  Calls Tryz.prog 141 #[.slice (some ⟨g,0,none⟩) s.size c] w fun e w'=>∃v,e=.returned v∧St W (byR v (numB s.size++strI s)::R) w':=by
 have hln:=Am7 s.size
 go_enter Tryz.func141,Tryz.ntmps141
 go_wp2_with(first|go_big_skip|(go_at_call 140;refine(num8 _ ⟨by omega,by omega⟩ W _ _ hS).mono ?_;clear hS;rintro e w ⟨vn,rfl,hS⟩;(have hv:=hS.rowVal;obtain⟨na,nc,rfl⟩:=hv))|((with_reducible apply Ae7 hS);(with_reducible rfl);rfl;rfl;rfl;(exact esS);(exact rsS);rfl;decide;(exact takeS);exact Src.mk (Cells.there Cells.sb);(focus(rw[List.length_map,AE7,Nat.mul_one]));(exact AY7 _);(focus(unfold maxLen;omega));(focus(omega));clear hS;intro v w hS;(refine frS ?_)))
 go_ret
 refine⟨v,rfl,?_⟩
 have h0:St W (row v 1 5 ((numB s.size).length+s.size) (u8s (numB s.size)++u8s (strI s))::_) w:=hS
 rw[←Aw7]at h0
 have h2:=AD7 (by rw[List.length_append,AE7]) h0
 exact h2.s _
def NsR(W:World)(L:List HP)(ns:List Int)(v3 v4:Value)(w:World):Prop:=
 ∃i:Nat,v4=.int .i64 i∧i≤ns.length∧St W (byR v3 ((ns.take i).flatMap numB)::L) w
theorem Je7(ns:List Int):(ns.flatMap numB).length≤9*ns.length:=by
 induction ns with
 | nil=>simp
 | cons n ns ih=>
  have:=Am7 n
  rw[List.flatMap_cons,List.length_append,List.length_cons]
  omega
theorem nums8(ns:List Int)(b c:Nat)(hl:ns.length≤100)(hn:∀x∈ns, -9223372036854775808≤x∧x≤9223372036854775807)(W w:World)(R:List HP)(hS:St W (blk b (ns.map (Value.int .i64)) 3::R) w):
  Calls Tryz.prog 144 #[.slice (some ⟨b,0,none⟩) ns.length c] w fun e w'=>∃v,e=.returned v∧St W (byR v (ns.flatMap numB)::R) w':=by
 have Hn:=Lib.hid hn
 clear hn
 go_enter Tryz.func144,Tryz.ntmps144
 go_wp2_with(first|go_big_skip)
 have hS1:=hS.rowNil (k:=1) (T:=5)
 clear hS
 have hS:=hS1
 clear hS1
 go_loopw [3,4] (fun v3 v4 wr=>NsR W (blk b (ns.map (Value.int .i64)) 3::R) ns v3 v4 wr) (fun _ v4 _=>ns.length-(intOf v4).toNat)
 case atStart=>exact⟨0,rfl,Nat.zero_le _,hS⟩
 case round=>
  clear hS
  obtain⟨i,rfl,hil,hS⟩:=hrel
  by_cases hin:i=ns.length
  ·subst hin
   rw[List.take_length]at hS
   go_wp2_with(first|go_big_skip)
   go_ret
   exact⟨u3,rfl,hS.s _⟩
  ·have hi1:i<ns.length:=by omega
   have hx:(ns.map (Value.int .i64))[i]? = some (.int .i64 ns[i]):=by rw[List.getElem?_map,List.getElem?_eq_getElem hi1];rfl
   have hr:=Hn.out _ (List.getElem_mem hi1)
   have hst:(ns.take (i+1)).flatMap numB=(ns.take i).flatMap numB++numB ns[i]:=by rw[List.take_succ_eq_append_getElem hi1,List.flatMap_append];simp
   have hle:=Je7 (ns.take i)
   rw[List.length_take]at hle
   generalize ns[i]=x at hx hr hst
   obtain⟨r1,r2⟩:=hr
   have hlx:=Am7 x
   have Hst:=Lib.hid hst
   clear hst hin hil
   generalize (ns.take i).flatMap numB=d at hS Hst hle
   go_wp2_with(first|go_big_skip|(refine zl1 hS ?_ (hc:=by exact Cell.there (Cell.here hx)))|(refine zl1 hS ?_ (hc:=by exact Cell.here hx))|(go_at_call 140;refine(num8 _ ⟨by omega,by omega⟩ W _ _ hS).mono ?_;clear hS;rintro e w ⟨vn,rfl,hS⟩;(have hv:=hS.rowVal;obtain⟨na,nc,rfl⟩:=hv))|((with_reducible apply Ae7 hS);(with_reducible rfl);rfl;rfl;rfl;(exact esS);(exact rsS);rfl;decide;(exact takeS);exact St.src (by decide) hS;(focus(rw[AL7,Nat.mul_one]));(exact AY7 _);(focus(unfold maxLen;omega));(focus(omega));clear hS;intro v w hS;(refine frS ?_)))
   go_roundw
   case rel=>
    refine⟨i+1,rfl,hi1,?_⟩
    rw[Hst.out]
    have h0:St W (row v 1 5 (d.length+(numB x).length) (u8s d++u8s (numB x))::_) w:=hS
    rw[←Aw7]at h0
    have h2:=AD7 (by rw[List.length_append]) h0
    exact h2.s _
   case measure=>simp[intOf];omega
end Go.Proofs.YtlmhakmoioogaaaGreat
end
