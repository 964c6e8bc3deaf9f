/-
  The vault's List; are names too long? For every vault, every script.
  The document's vault: where a purse stands, what it has, a purse laid. For every row of purses.
  The document's row of purses is the program's purses, by names. The plain law: no program in sight.
-/
import Derived.Test.YtlmhakmoioogaaaGreatEconPlaysM5
import Derived.Test.YtlmhakmoioogaaaGreatEconPlaysM10
import Derived.Test.YtlmhakmoioogaaaGreatEconPlaysM21
set_option maxHeartbeats 16000000
set_option maxRecDepth 100000
set_option linter.unusedSimpArgs false
set_option linter.unusedVariables false
section
namespace Go.Proofs.YtlmhakmoioogaaaGreat
open Go.RowKit Go.Sl
def HvR(W:World)(L:List HP)(n:Nat)(v:Value)(w:World):Prop:=∃i:Nat,v=.int .i64 i∧i≤n∧i≤100∧St W L w
abbrev hdR(v:Value)(l:List Hd):HP:=row v 5 189 l.length (l.flatMap Hd.cells)
def LhR(W:World)(F:List HP)(p:Ps)(v5 v17:Value)(w:World):Prop:=
 ∃k:Nat,v17=.int .i64 k∧k≤p.length∧St W (row v5 5 189 k (((hdL p).take k).flatMap Hd.cells)::F) w
def liR(bb:Nat)(L:List Ord)(n:Int)(v:Value):HP:=fun f=>∃(a:Option Addr) (c:Nat),v=.slice a L.length c∧sats [bookL bb L n,pileR (.slice a L.length c) L] f
section
variable{W w:World}{bb:Nat}{L:List Ord}{n:Int}{v:Value}{R:List HP}
theorem liOpen(h:St W (liR bb L n v::R) w):∃a c,v=.slice a L.length c∧St W (bookL bb L n::pileR (.slice a L.length c) L::R) w:=by
 obtain⟨a,h⟩:=St.ex h
 obtain⟨c,h⟩:=St.ex h
 obtain⟨h1,h⟩:=St.and h
 exact⟨a,c,h1,(St.split (St.split h).swap).swap.drop.swap⟩
theorem liShut{a:Option Addr}{c:Nat}(hv:v=.slice a L.length c)(h:St W (bookL bb L n::pileR (.slice a L.length c) L::R) w):St W (liR bb L n v::R) w:=by
 refine St.mkEx a (St.mkEx c (St.mkAnd hv ?_))
 refine St.join ?_
 refine St.swap (St.imp h.swap ?_)
 intro f hf
 exact⟨fun _=>true,hf,trivial⟩
theorem listF(hS:St W (bookL bb L n::R) w):
  Calls Tryz.prog 172 #[.pointer (some ⟨bb,0,none⟩)] w fun e w'=>∃v,e=.returned v∧St W (liR bb L n v::R) w':=by
 refine(En7 hS).mono ?_
 rintro e w' ⟨a,c,rfl,hS⟩
 exact⟨_,rfl,liShut rfl hS⟩
end
theorem CX7(vb mb bb:Nat)(p:Ps)(L:List Ord)(n:Int){N:Nat}(hw:PsW p N)(hN:N≤1000000000)(W w:World)(R:List HP)(hS:St W (vaultL vb mb bb p L n R) w):
  Calls Tryz.prog 124 #[.pointer (some ⟨vb,0,none⟩)] w fun e w'=>∃a c a2 c2,e=.returned (.tuple #[.slice a (hdL p).length c,.slice a2 L.length c2,.int .i64 n]) ∧
   St W (vaultL vb mb bb p L n (hdR (.slice a (hdL p).length c) (hdL p)::pileR (.slice a2 L.length c2) L::R)) w':=by
 have hlen:=hw.len
 have Hw:=Lib.hid hw
 clear hw
 go_enter Tryz.func124,Tryz.ntmps124
 go_wp2_with(first|(go_at_call 187;refine(KX7 (some mb) W _ _ (hS.s (amap eS eP mb p::blk vb _ _::bookL bb L n::R))).mono ?_;clear hS;rintro e w ⟨g,rfl,hS⟩)|(go_at_call 62;refine(HQ7 (fun x hx=>by have:=FB7 (Hw.out.who x hx);unfold maxLen;omega) (by omega) hS).mono ?_;clear hS;rintro e w ⟨v,rfl,hS⟩;(have hv:=hS.rowVal;obtain⟨sa,sc,rfl⟩:=hv))|(refine zl1 hS ?_))
 have hS1:=hS.rowNil (k:=5) (T:=189)
 clear hS
 have hS:=hS1
 clear hS1
 go_loopw [5,17] (fun v5 v17 wr=>LhR W (row (.slice sa p.length sc) 1 9 p.length ((sortB (p.map (·.1))).map eS)::amap eS eP mb p::blk vb [.map (some mb),.pointer (some ⟨bb,0,none⟩),.int .i64 n] 176::bookL bb L n::R) p v5 v17 wr) (fun _ v17 _=>p.length-(intOf v17).toNat)
 case atStart=>exact⟨0,rfl,Nat.zero_le _,hS⟩
 case round=>
  clear hS
  obtain⟨k,rfl,hkl,hS⟩:=hrel
  have hlk:=Pi7 p
  have hlh:=Ce7 p
  by_cases hkn:k=p.length
  ·have e1:(hdL p).take k=hdL p:=List.take_of_length_le (by omega)
   rw[e1]at hS
   have e2:k=(hdL p).length:=by omega
   have hd1:decide (k<p.length)=false:=by simp;omega
   clear e1 hkl hlk
   clear hkn hlh
   subst e2
   go_wp2_with(fail)
   have hS:=hS.s (bookL bb L n::blk vb _ _::amap eS eP mb p::row u5 5 _ _ _::R)
   refine rf3 [0,0,2,6,14,30,0,64,192,448,63,1087,4095] (fun i=>i==5) (fun _=>none) [⟨some 5,none,fun nd=>liR bb L n (nd 5)⟩] [some 5,none,none,none] hS ?_
   intro nd
   iterate 2 (refine cR ?_)
   (refine zcn ?_)
   (refine cR ?_)
   (refine zc1 ?_)
   (apply AC7;rfl;rfl;(with_reducible rfl);decide +kernel;(focus(simp only[fD,fI,fJ,Act.eval,fE,fF,fG,fH,fK];try rfl));(intro _;rfl);(intro F w hS;exact listF hS);(refine frS ?_))
   (refine cR ?_)
   (refine zcn ?_)
   (refine cR ?_)
   (refine zc1 ?_)
   iterate 3 (refine cR ?_)
   refine Ad7 ?_
   clear hS
   intro w hS
   have hS2:St W [liR bb L n (nd 5),blk vb _ _,amap eS eP mb p,row u5 5 _ _ _,sats R] w:=hS
   clear hS
   have hS:=hS2.unpack [_,_,_,_]
   clear hS2
   simp only[List.cons_append,List.nil_append]at hS
   generalize nd 5=v5 at *
   obtain⟨a2,c2,rfl,hS5⟩:=liOpen hS
   clear hS
   have hv:=hS5.drop.drop.drop.drop.rowVal
   obtain⟨a,c,rfl⟩:=hv
   clear hS
   have hS:=hS5
   clear hS5
   go_wp2_with fail
   go_ret3
   exact⟨a,c,a2,c2,rfl,hS.s _⟩
  ·have hk1:k<p.length:=by omega
   have hks:k<(hdL p).length:=by omega
   have hkk:k<(kL p).length:=by omega
   have hx1:((sortB (p.map (·.1))).map eS)[k]? = some (.string (kL p)[k]):=by
    rw[List.getElem?_map]
    show((kL p)[k]?).map eS=_
    rw[List.getElem?_eq_getElem hkk];rfl
   have htk:((hdL p).take (k+1)).flatMap Hd.cells=((hdL p).take k).flatMap Hd.cells++(Hd.mk (kL p)[k] (purseA p (kL p)[k])).cells:=by
    rw[List.take_succ_eq_append_getElem hks,List.flatMap_append]
    simp[hdL]
   obtain⟨⟨g2,rfl⟩,hcap,hcn⟩:=St.rowAddr hS.drop (by omega)
   obtain⟨x,hx⟩:∃x,purseA p (kL p)[k]=x:=⟨_,rfl⟩
   rw[hx]at htk
   generalize (kL p)[k]=key at hx htk hx1
   obtain⟨x0,x1,x2,x3⟩:=x
   have Hx:=Lib.hid hx
   have Htk:=Lib.hid htk
   have HX:=Lib.hid hx1
   clear hx htk hx1 hkn hkl hlk hlh hks hkk
   go_wp2_with(first|(refine zl1 hS ?_ (hc:=by exact Cell.there (Cell.row (by omega) HX.out)))|((with_reducible apply HA7 (ek:=eS) (ev:=eP) (k:=key) it0 ⟨x0,x1,x2,x3⟩ hS);(with_reducible rfl);rfl;rfl;rfl;(exact takeS);exact mP;exact kS;exact zP;rfl;exact Hx.out;(simp only[Act.put,fA,fB,fC,Nat.reduceAdd,eP,It.cells]))|(refine zbs hS ?_;clear hS;intro bS w hS)|(refine zap hS ?_ (h63:=by unfold maxLen;omega) (hb:=by omega);clear hS;intro v w hS)|(refine zl1 hS ?_))
   go_roundw
   case rel=>
    refine⟨k+1,rfl,hk1,?_⟩
    rw[Htk.out]
    have h0:St W (row v 5 189 (k+1) (((hdL p).take k).flatMap Hd.cells++(Hd.mk key ⟨x0,x1,x2,x3⟩).cells)::_) w:=hS
    exact h0.s _
   case measure=>simp[intOf];omega
def spI:List Hd→ByteArray→Nat
 | [],_=>0
 | h::H,k=>if Op.bytesLess h.who.toList k.toList=true then spI H k+1 else 0
def spB:List Hd→ByteArray→Bool
 | [],_=>false
 | h::H,k=>if Op.bytesLess h.who.toList k.toList=true then spB H k else h.who.toList==k.toList
theorem Pj7:∀(H:List Hd) (k:ByteArray),spI H k≤H.length
 | [],_=>Nat.le_refl _
 | h::H,k=>by
  have:=Pj7 H k
  rw[spI,List.length_cons]
  split <;> omega
theorem Mw7:∀(H:List Hd) (k:ByteArray),spB H k=true→spI H k<H.length
 | [],_,h=>by cases h
 | x::H,k,h=>by
  rw[spB]at h
  rw[spI,List.length_cons]
  split
  ·rename_i hc
   rw[if_pos hc]at h
   have:=Mw7 H k h
   omega
  ·omega
abbrev xvL(xb:Nat)(v vB:Value)(n:Int)(H:List Hd)(R:List HP):List HP:=blk xb [v,vB,.int .i64 n] 246::hdR v H::R
def SpR(W:World)(L:List HP)(H:List Hd)(k:ByteArray)(v:Value)(w:World):Prop:=
 ∃i:Nat,v=.int .i64 i∧i≤H.length∧spI H k=i+spI (H.drop i) k∧spB H k=spB (H.drop i) k∧St W L w
theorem Mx7(H:List Hd)(k:ByteArray)(xb:Nat)(v vB:Value)(n:Int)(W w:World)(R:List HP)(hS:St W (xvL xb v vB n H R) w):
  Calls Tryz.prog 180 #[.pointer (some ⟨xb,0,none⟩),.string k] w fun e w'=>e=.returned (.tuple #[.int .i64 (spI H k),.bool (spB H k)])∧St W (xvL xb v vB n H R) w':=by
 obtain⟨a,cap,rfl⟩:=hS.drop.rowVal
 have h63:H.length≤9223372036854775807:=by
  rcases St.rowCase hS.drop with ⟨_,h0,_⟩|⟨_,_,h1,h2⟩
  ·omega
  ·omega
 go_enter Tryz.func180,Tryz.ntmps180
 go_wp2_with fail
 go_loopw [6] (fun v wr=>SpR W (xvL xb (.slice a H.length cap) vB n H R) H k v wr) (fun v _=>H.length-(intOf v).toNat)
 case atStart=>exact⟨0,rfl,Nat.zero_le _,by simp,rfl,hS⟩
 case round=>
  clear hS
  obtain⟨i,rfl,hil,e1,e2,hS⟩:=hrel
  by_cases hin:i=H.length
  ·subst hin
   rw[List.drop_length]at e1 e2
   have E1:=Lib.hid (show spI H k=H.length from e1)
   have E2:=Lib.hid (show spB H k=false from e2)
   clear e1 e2
   go_wp2_with(first|go_big_skip|(refine zl1 hS ?_))
   go_ret2
   rw[E1.out,E2.out]
   exact⟨rfl,hS⟩
  ·have hi1:i<H.length:=by omega
   obtain⟨⟨g,rfl⟩,hcap,hcn⟩:=St.rowAddr hS.drop (by omega)
   have hname:∀{K K':List HP},Take K (hdR (.slice (some ⟨g,0,none⟩) H.length cap) H) K'→Cell K g (i*5) (.string H[i].who):=fun hu=>Cells.elemM (enc:=Hd.cells) Hd.len hu hi1 0 _ rfl
   have hdr:H.drop i=H[i]::H.drop (i+1):=List.drop_eq_getElem_cons hi1
   rw[hdr]at e1 e2
   generalize H[i]=x at hname e1 e2
   obtain⟨xw,xi⟩:=x
   simp only at hname
   rw[spI]at e1
   rw[spB]at e2
   simp only at e1 e2
   clear hdr
   cases hb:Op.bytesLess xw.toList k.toList with
   | true=>
    rw[if_pos hb]at e1 e2
    have E1:=Lib.hid e1
    have E2:=Lib.hid e2
    clear e1 e2
    go_wp2_with(first|go_big_skip|(refine zl1 hS ?_)|(refine zl1 hS ?_ (hc:=by exact hname (by exact takeS))))
    go_roundw
    case rel=>exact⟨i+1,rfl,hi1,by rw[E1.out];omega,E2.out,hS⟩
    case measure=>simp[intOf];omega
   | false=>
    rw[if_neg (by rw[hb];simp)]at e1 e2
    have E1:=Lib.hid (show spI H k=i from e1)
    have E2:=Lib.hid e2
    clear e1 e2
    go_wp2_with(first|go_big_skip|(refine zl1 hS ?_)|(refine zl1 hS ?_ (hc:=by exact hname (by exact takeS))))
    refine Aa7 (by kernel_rfl) (by kernel_rfl) hS ?_
    iterate 2 (refine qR ?_)
    (refine zqn ?_)
    (refine qR ?_)
    (refine zq1 ?_)
    iterate 3 (refine qR ?_)
    (apply Aq7;(with_reducible rfl);rfl;rfl;decide +kernel;(exact hname (by exact takeS));(refine frS ?_))
    iterate 4 (refine qR ?_)
    clear hS
    intro w hS
    go_wp2_with fail
    go_ret2
    rw[E1.out,E2.out]
    exact⟨rfl,hS⟩
theorem CJ7{H:List Hd}{k:ByteArray}{p:Nat}{b:Bool}(h1:spI H k=p)(h2:spB H k=b)(xb:Nat)(v vB:Value)(n:Int)(W w:World)(R:List HP)(hS:St W (xvL xb v vB n H R) w):
  Calls Tryz.prog 180 #[.pointer (some ⟨xb,0,none⟩),.string k] w fun e w'=>e=.returned (.tuple #[.int .i64 p,.bool b])∧St W (xvL xb v vB n H R) w':=
 (Mx7 H k xb v vB n W w R hS).mono fun e w' ⟨he,hS⟩=>⟨by rw[he,h1,h2],hS⟩
def hasH(H:List Hd)(k:ByteArray):It:=if spB H k=true then(H.getD (spI H k) ⟨⟨#[]⟩,it0⟩).has else it0
theorem has8(H:List Hd)(k:ByteArray)(xb:Nat)(v vB:Value)(n:Int)(W w:World)(R:List HP)(hS:St W (xvL xb v vB n H R) w):
  Calls Tryz.prog 118 #[.pointer (some ⟨xb,0,none⟩),.string k] w fun e w'=>e=.returned (eP (hasH H k))∧St W (xvL xb v vB n H R) w':=by
 obtain⟨a,cap,rfl⟩:=hS.drop.rowVal
 unfold hasH
 cases hb:spB H k with
 | false=>
  obtain⟨p,hp⟩:∃p,spI H k=p:=⟨_,rfl⟩
  have Hp:=Lib.hid hp
  have Hb:=Lib.hid hb
  clear hp hb
  rw[if_neg (by simp)]
  go_enter Tryz.func118,Tryz.ntmps118
  go_wp2_with(first|go_big_skip|(go_at_call 180;refine(CJ7 Hp.out Hb.out xb _ vB n W _ (_::R) (hS.s (blk xb _ _::hdR _ H::blk b _ _::R))).mono ?_;clear hS;rintro e w ⟨rfl,hS⟩)|(refine zl1 hS ?_)|(refine zlN hS ?_)|(refine zs1 hS ?_;clear hS;intro w hS)|(refine zsN hS ?_;clear hS;intro w hS)|(refine zbx hS ?_;clear hS;intro b w hS)|(refine zal hS ?_;clear hS;intro b w hS))
  (apply Ao7;rfl;rfl;rfl;exact hS;decide +kernel;(exact cesS);kernel_rfl)
  exact⟨rfl,hS.s _⟩
 | true=>
  rw[if_pos rfl]
  have hlt:=Mw7 H k hb
  obtain⟨p,hp⟩:∃p,spI H k=p:=⟨_,rfl⟩
  rw[hp]at hlt ⊢
  have Hp:=Lib.hid hp
  have Hb:=Lib.hid hb
  clear hp hb
  obtain⟨⟨g,rfl⟩,hcap,hcn⟩:=St.rowAddr hS.drop (by omega)
  have hitems:∀{K K':List HP},Take K (hdR (.slice (some ⟨g,0,none⟩) H.length cap) H) K'→Cells K g (p*5+1) (H[p].has.cells):=fun hu j v hj=>by
   have h1:=Cells.elemM (enc:=Hd.cells) Hd.len hu hlt (1+j) v (by rw[Nat.add_comm];exact hj)
   rwa [←Nat.add_assoc]at h1
  have e:H.getD p ⟨⟨#[]⟩,it0⟩=H[p]:=by simp[List.getD_eq_getElem?_getD,List.getElem?_eq_getElem hlt]
  rw[e]
  clear e
  generalize H[p]=x at hitems
  obtain⟨xw,⟨x0,x1,x2,x3⟩⟩:=x
  simp only[It.cells]at hitems
  go_enter Tryz.func118,Tryz.ntmps118
  go_wp2_with(first|go_big_skip|(go_at_call 180;refine(CJ7 Hp.out Hb.out xb _ vB n W _ (_::R) (hS.s (blk xb _ _::hdR _ H::blk b _ _::R))).mono ?_;clear hS;rintro e w ⟨rfl,hS⟩)|(refine zl1 hS ?_)|(refine zlN hS ?_ (hc:=by exact hitems (by exact takeS)))|(refine zsN hS ?_;clear hS;intro w hS)|(refine zal hS ?_;clear hS;intro b w hS))
  (apply Ao7;rfl;rfl;rfl;exact hS;decide +kernel;(exact cesS);kernel_rfl)
  exact⟨rfl,hS.s _⟩
abbrev blt(x y:ByteArray):Prop:=Op.bytesLess x.toList y.toList=true
theorem Es7{x y:ByteArray}:blt x y↔x.data.toList<y.data.toList:=by
 unfold blt
 rw[bytesLess_eq,Lib.toList_data,Lib.toList_data,decide_eq_true_eq]
theorem DF7{x y z:ByteArray}(h1:blt x y)(h2:blt y z):blt x z:=Es7.2 (List.lt_trans (Es7.1 h1) (Es7.1 h2))
theorem DG7{x y:ByteArray}(h:blt x y):x≠y:=fun e=>by
 rw[e]at h
 exact List.lt_irrefl _ (Es7.1 h)
theorem DH7{x y:ByteArray}(h:blt x y):leB x y=true:=by
 unfold leB
 rw[decide_eq_true_eq]
 exact List.le_of_lt (Es7.1 h)
theorem Gr7{x k:ByteArray}(h:¬blt x k)(hne:x≠k):blt k x:=by
 refine HR7 ?_ fun e=>hne e.symm
 unfold leB
 rw[decide_eq_true_eq]
 exact List.not_lt.1 fun hl=>h (Es7.2 hl)
theorem FD7{x y:ByteArray}:(x.toList==y.toList)=true↔x=y:=by
 rw[Lib.toList_data,Lib.toList_data]
 constructor
 ·intro h
  exact FC7 (by simpa using h)
 ·rintro rfl
  simp
def SrtH(H:List Hd):Prop:=H.Pairwise fun x y=>blt x.who y.who
theorem GQ7:∀(H:List Hd) (k:ByteArray),SrtH H→
  (∀x∈H.take (spI H k),blt x.who k)∧(∀y∈H.drop (if spB H k=true then spI H k+1 else spI H k),blt k y.who)∧(spB H k=true→∃x,H.drop (spI H k)=x::H.drop (spI H k+1)∧x.who=k)
 | [],k,_=>⟨fun x hx=>(by simp at hx),fun y hy=>(by simp[spI,spB]at hy),fun h=>(by cases h)⟩
 | h::H,k,hs=>by
  unfold SrtH at hs
  rw[List.pairwise_cons]at hs
  obtain⟨hs1,hs2⟩:=hs
  rw[spI,spB]
  by_cases hb:Op.bytesLess h.who.toList k.toList=true
  ·rw[if_pos hb,if_pos hb]
   obtain⟨i1,i2,i3⟩:=GQ7 H k hs2
   refine⟨?_,?_,?_⟩
   ·intro x hx
    rw[List.take_succ_cons]at hx
    rcases List.mem_cons.1 hx with rfl|hx
    ·exact hb
    ·exact i1 x hx
   ·intro y hy
    refine i2 y ?_
    split at hy
    ·rename_i h1
     rw[if_pos h1]
     simpa using hy
    ·rename_i h1
     rw[if_neg h1]
     simpa using hy
   ·intro h1
    obtain⟨x,hx1,hx2⟩:=i3 h1
    exact⟨x,by simpa using hx1,hx2⟩
  ·rw[if_neg hb,if_neg hb]
   refine⟨fun x hx=>(by simp at hx),?_,?_⟩
   ·intro y hy
    split at hy
    ·rename_i h1
     have e:=FD7.1 h1
     rw[←e]
     exact hs1 y (by simpa using hy)
    ·rename_i h1
     have hne:h.who≠k:=fun e=>h1 (FD7.2 e)
     have hkh:=Gr7 hb hne
     rw[List.drop_zero]at hy
     rcases List.mem_cons.1 hy with rfl|hy
     ·exact hkh
     ·exact DF7 hkh (hs1 y hy)
   ·intro h1
    exact⟨h,by simp,FD7.1 h1⟩
def setH(H:List Hd)(k:ByteArray)(i:It):List Hd:=H.take (spI H k)++((if isZ i=true then[]else[⟨k,i⟩])++H.drop (if spB H k=true then spI H k+1 else spI H k))
section
variable{p:Ps}{N:Nat}
theorem IZ7(hw:PsW p N):SrtH (hdL p):=by
 refine List.pairwise_iff_getElem.2 fun i j hi hj hij=>?_
 exact(QM7 hw hj).2.2 i hij
theorem FE7(p:Ps):(hdL p).map Hd.who=kL p:=by
 unfold hdL
 rw[List.map_map]
 exact(List.map_congr_left fun _ _=>rfl).trans (List.map_id _)
theorem Dh7{x:Hd}(h:x∈hdL p):x.has=purseA p x.who:=by
 unfold hdL at h
 obtain⟨y,_,rfl⟩:=List.mem_map.1 h
 rfl
theorem split3(H:List Hd)(k:ByteArray):H=H.take (spI H k)++((if spB H k=true then(H.drop (spI H k)).take 1 else[])++H.drop (if spB H k=true then spI H k+1 else spI H k)):=by
 split
 ·have e:(H.drop (spI H k)).drop 1=H.drop (spI H k+1):=by rw[List.drop_drop]
  rw[←e,List.take_append_drop,List.take_append_drop]
 ·rw[List.nil_append,List.take_append_drop]
theorem PL7(hw:PsW p N)(k:ByteArray):hasH (hdL p) k=purseA p k:=by
 obtain⟨h1,h2,h3⟩:=GQ7 (hdL p) k (IZ7 hw)
 unfold hasH
 cases hb:spB (hdL p) k with
 | true=>
  obtain⟨x,hx,hk⟩:=h3 hb
  rw[if_pos rfl]
  have hm:x∈hdL p:=List.mem_of_mem_drop (by rw[hx];exact List.mem_cons_self ..)
  have e:(hdL p).getD (spI (hdL p) k) ⟨⟨#[]⟩,it0⟩=x:=by
   have h4:((hdL p).drop (spI (hdL p) k))[0]? = some x:=by rw[hx];rfl
   rw[List.getElem?_drop,Nat.add_zero]at h4
   rw[List.getD_eq_getElem?_getD,h4]
   rfl
  rw[e,Dh7 hm,hk]
 | false=>
  rw[hb]at h2
  rw[if_neg (by simp)]
  have hno:∀x∈p,x.1≠k:=by
   intro x hx e
   have hm:x.1∈(hdL p).map Hd.who:=by
    rw[FE7]
    exact(Au7 _).mem_iff.2 (List.mem_map_of_mem hx)
   obtain⟨y,hy,hye⟩:=List.mem_map.1 hm
   have hs:=split3 (hdL p) k
   rw[hb]at hs
   simp only[Bool.false_eq_true,if_false,List.nil_append]at hs h2
   rw[hs]at hy
   rcases List.mem_append.1 hy with hy|hy
   ·exact DG7 (h1 y hy) (hye.trans e)
   ·exact DG7 (h2 y hy) (hye.trans e).symm
  unfold purseA
  rw[GD7 hno]
  rfl
theorem PM7(hw:PsW p N)(k:ByteArray)(i:It):setH (hdL p) k i=hdL (layP p k i):=by
 obtain⟨h1,h2,h3⟩:=GQ7 (hdL p) k (IZ7 hw)
 have hsp:=split3 (hdL p) k
 have hsr:=IZ7 hw
 have hmA:∀x∈(hdL p).take (spI (hdL p) k),x∈hdL p:=fun x hx=>List.mem_of_mem_take hx
 have hmB:∀x∈(hdL p).drop (if spB (hdL p) k=true then spI (hdL p) k+1 else spI (hdL p) k),x∈hdL p:=fun x hx=>List.mem_of_mem_drop hx
 have hmid:∀x∈(if spB (hdL p) k=true then((hdL p).drop (spI (hdL p) k)).take 1 else[]),x.who=k:=by
  intro x hx
  split at hx
  ·rename_i hb
   obtain⟨y,hy,hk⟩:=h3 hb
   rw[hy]at hx
   simp at hx
   rw[hx]
   exact hk
  ·cases hx
 have hsA:SrtH ((hdL p).take (spI (hdL p) k)):=hsr.sublist (List.take_sublist _ _)
 have hsB:SrtH ((hdL p).drop (if spB (hdL p) k=true then spI (hdL p) k+1 else spI (hdL p) k)):=hsr.sublist (List.drop_sublist _ _)
 have hwho:(kL p).filter (fun y=>decide (y≠k))=((hdL p).take (spI (hdL p) k)).map Hd.who++((hdL p).drop (if spB (hdL p) k=true then spI (hdL p) k+1 else spI (hdL p) k)).map Hd.who:=by
  rw[←FE7 p]
  conv=>lhs;rw[hsp]
  rw[List.map_append,List.map_append,List.filter_append,List.filter_append]
  rw[List.filter_eq_self.2 fun y hy=>by
   obtain⟨x,hx,rfl⟩:=List.mem_map.1 hy
   simpa using DG7 (h1 x hx)]
  rw[List.filter_eq_nil_iff.2 fun y hy=>by
   obtain⟨x,hx,rfl⟩:=List.mem_map.1 hy
   simpa using hmid x hx]
  rw[List.nil_append,List.filter_eq_self.2 fun y hy=>by
   obtain⟨x,hx,rfl⟩:=List.mem_map.1 hy
   simpa using(DG7 (h2 x hx)).symm]
 have hdel:((delL p k).map (·.1)).Perm (((hdL p).take (spI (hdL p) k)).map Hd.who++((hdL p).drop (if spB (hdL p) k=true then spI (hdL p) k+1 else spI (hdL p) k)).map Hd.who):=by
  rw[←hwho]
  have e:(delL p k).map (·.1)=(p.map (·.1)).filter (fun y=>decide (y≠k)):=by
   unfold delL
   rw[List.filter_map]
   rfl
  rw[e]
  have hp:(kL p).Perm (p.map (·.1)):=Au7 _
  exact(hp.filter _).symm
 unfold setH layP
 cases hz:isZ i with
 | true=>
  rw[if_pos rfl,if_pos rfl,List.nil_append]
  have hk:kL (delL p k)=((hdL p).take (spI (hdL p) k)).map Hd.who++((hdL p).drop (if spB (hdL p) k=true then spI (hdL p) k+1 else spI (hdL p) k)).map Hd.who:=by
   refine List.Perm.eq_of_pairwise (le:=fun a b=>leB a b=true) (fun a b _ _ h1 h2=>EQ7 h1 h2) (AG7 _) ?_ ((Au7 _).trans hdel)
   refine List.pairwise_append.2 ⟨List.pairwise_map.2 (hsA.imp DH7),List.pairwise_map.2 (hsB.imp DH7),fun a ha b hb=>?_⟩
   obtain⟨x,hx,rfl⟩:=List.mem_map.1 ha
   obtain⟨y,hy,rfl⟩:=List.mem_map.1 hb
   exact DH7 (DF7 (h1 x hx) (h2 y hy))
  unfold hdL at hk ⊢
  rw[hk,List.map_append,List.map_map,List.map_map]
  refine congr (congrArg _ ?_) ?_
  ·refine((List.map_congr_left fun x hx=>?_).trans (List.map_id _)).symm
   have e1:=Dh7 (hmA x hx)
   have e2:=BL7 p (DG7 (h1 x hx)) i
   unfold layP at e2
   rw[hz,if_pos rfl]at e2
   show(⟨x.who,purseA (delL p k) x.who⟩:Hd)=x
   rw[e2,←e1]
  ·refine((List.map_congr_left fun x hx=>?_).trans (List.map_id _)).symm
   have e1:=Dh7 (hmB x hx)
   have e2:=BL7 p (DG7 (h2 x hx)).symm i
   unfold layP at e2
   rw[hz,if_pos rfl]at e2
   show(⟨x.who,purseA (delL p k) x.who⟩:Hd)=x
   rw[e2,←e1]
 | false=>
  have hft:¬(false=true):=by simp
  rw[if_neg hft,if_neg hft]
  have hk:kL ((k,i)::delL p k)=((hdL p).take (spI (hdL p) k)).map Hd.who++(k::((hdL p).drop (if spB (hdL p) k=true then spI (hdL p) k+1 else spI (hdL p) k)).map Hd.who):=by
   refine List.Perm.eq_of_pairwise (le:=fun a b=>leB a b=true) (fun a b _ _ h1 h2=>EQ7 h1 h2) (AG7 _) ?_ ((Au7 _).trans ?_)
   ·refine List.pairwise_append.2 ⟨List.pairwise_map.2 (hsA.imp DH7),List.pairwise_cons.2 ⟨fun b hb=>?_,List.pairwise_map.2 (hsB.imp DH7)⟩,fun a ha b hb=>?_⟩
    ·obtain⟨y,hy,rfl⟩:=List.mem_map.1 hb
     exact DH7 (h2 y hy)
    ·obtain⟨x,hx,rfl⟩:=List.mem_map.1 ha
     rcases List.mem_cons.1 hb with rfl|hb
     ·exact DH7 (h1 x hx)
     ·obtain⟨y,hy,rfl⟩:=List.mem_map.1 hb
      exact DH7 (DF7 (h1 x hx) (h2 y hy))
   ·rw[List.map_cons]
    exact(List.Perm.cons k hdel).trans List.perm_middle.symm
  unfold hdL at hk ⊢
  rw[hk,List.map_append,List.map_cons,List.map_map,List.map_map]
  have es:=Gq7 p k i
  unfold layP at es
  rw[hz,if_neg (by simp)]at es
  refine congr (congrArg _ ?_) ?_
  ·refine((List.map_congr_left fun x hx=>?_).trans (List.map_id _)).symm
   have e1:=Dh7 (hmA x hx)
   have e2:=BL7 p (DG7 (h1 x hx)) i
   unfold layP at e2
   rw[hz,if_neg (by simp)]at e2
   show(⟨x.who,purseA ((k,i)::delL p k) x.who⟩:Hd)=x
   rw[e2,←e1]
  ·rw[List.singleton_append,es]
   refine congrArg _ ?_
   refine((List.map_congr_left fun x hx=>?_).trans (List.map_id _)).symm
   have e1:=Dh7 (hmB x hx)
   have e2:=BL7 p (DG7 (h2 x hx)).symm i
   unfold layP at e2
   rw[hz,if_neg (by simp)]at e2
   show(⟨x.who,purseA ((k,i)::delL p k) x.who⟩:Hd)=x
   rw[e2,←e1]
end
end Go.Proofs.YtlmhakmoioogaaaGreat
end
