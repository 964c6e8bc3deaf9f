/-
  Place.
-/
import Derived.Test.YtlmhakmoioogaaaGreatEconBkM5
import Derived.OwnWalk
import Derived.Test.YtlmhakmoioogaaaGreatProg
import Derived.Shelf.SlSortCmp.WholeK
import Derived.Shelf.SlicesG.Cmp
import Derived.Shelf.Small.Bits
import Derived.Ground.SlsfProg
import Derived.Ground.SlgcProg
import Derived.Ground.NamesProg
set_option maxHeartbeats 16000000
set_option maxRecDepth 100000
set_option linter.unusedSimpArgs false
set_option linter.unusedVariables false
section
namespace Go.Proofs.YtlmhakmoioogaaaGreat
open Go.RowKit Go.Sl
structure BkOk(b:Bk):Prop where
 n8:b.ps.length=8
 few:b.len<=32
 cnts:∀p∈b.ps, ∀x∈p,1<=x.cnt/\x.cnt<=1048576
 last0:0<=b.last
 last1:b.last<=1099511627776
abbrev tB5a:List Nat:=[0,1,3,7,15,31,63,127,255,511,255,1279,3327,7423,16383,32767,65535]
theorem Oh7(bb:Nat)(bk:Bk)(o:Ord)(hok:BkOk bk)(hb:P9 o=false)(W w:World)(L:List HP)
  (hS:St W (D9 bb bk::L) w):
  Calls Tryz.prog 169 #[.P bb,.agg o.cells.toArray] w fun e w'=>e=.returned (.tuple #[.slice none 0 0,.I 0,.I 1])/\St W (D9 bb bk::L) w':=by
 obtain⟨i,u,y,t,c,p⟩:=o;simp only[Ord.cells];go_enter Tryz.func169,Tryz.ntmps169;go_wp2_with(first|refine zbx hS ?_;clear hS;intro b w hS);refine rf3 tB5a (fun _=>false) (fun i=>if i==4 then some (.bool false)else none) [] [none] hS ?_;intro nd
 iterate 3 (refine cR ?_)
 (refine zcN ?_);refine zcv ?_ (hs:=by(intro F w hS;(try clear hS0);exact hb▸Ef7 ⟨i,u,y,t,c,p⟩ W w _ hS))
 iterate 3 (refine cR ?_)
 iterate 7 (refine BL7 (by kernel_rfl) rfl ?_;refine frS ?_)
 iterate 2 (refine cR ?_)
 refine Ad7 ?_;clear hS;intro w hS;have hS:St W [blk _ _ _,sats (D9 bb _::L)] w:=hS;replace hS:=hS.unpack [_];simp only[jK,jN]at hS;go_wp2_with(fail);go_ret3;exact⟨rfl,hS.drop⟩
theorem Oi7(bb:Nat)(bk:Bk)(o:Ord)(hok:BkOk bk)(hb:P9 o=true)(hle:o.id<=bk.last)(W w:World)(L:List HP)
  (hS:St W (D9 bb bk::L) w):
  Calls Tryz.prog 169 #[.P bb,.agg o.cells.toArray] w fun e w'=>e=.returned (.tuple #[.slice none 0 0,.I 0,.I 1])/\St W (D9 bb bk::L) w':=by
 obtain⟨i,u,y,t,c,p⟩:=o;simp only[Ord.cells];obtain⟨vs,h1,h2,hS0⟩:=aq4 hS;clear hS;have hS:=hS0;clear hS0;have hla:(vs++[.I bk.last])[8]? = some (.I bk.last):=by rw[List.getElem?_append_right (by omega),h1];rfl
 have hle':i<=bk.last:=hle;clear hle;go_enter Tryz.func169,Tryz.ntmps169;go_wp2_with(first|refine zbx hS ?_;clear hS;intro b w hS);refine rf3 tB5a (fun _=>false) (fun i=>if i==4 then some (.bool true)else none) [] [none,none] hS ?_;intro nd
 iterate 3 (refine cR ?_)
 (refine zcN ?_);refine zcv ?_ (hs:=by(intro F w hS;(try clear hS0);exact hb▸Ef7 ⟨i,u,y,t,c,p⟩ W w _ hS))
 iterate 4 (refine cR ?_)
 (refine zc1 ?_);refine cR ?_;refine zcn ?_;refine cR ?_;refine zc1 ?_ (hc:=by(intro F;exact i9.there (i9.here hla)))
 iterate 3 (refine cR ?_)
 refine Ad7 ?_;clear hS;intro w hS;have hS:St W [blk _ _ _,blk bb _ _,sats (sats (F8 vs bk.ps)::L)] w:=hS;replace hS:=hS.unpack [_,_];simp only[jK,jN]at hS;go_wp2_with(fail);go_ret3;exact⟨rfl,R7 h1 h2 hS.drop⟩
theorem MI7(bb:Nat)(bk:Bk)(o:Ord)(hok:BkOk bk)(hb:P9 o=true)(hgt:bk.last<o.id)(hfull:32<=bk.len)(W w:World)(L:List HP)
  (hS:St W (D9 bb bk::L) w):
  Calls Tryz.prog 169 #[.P bb,.agg o.cells.toArray] w fun e w'=>e=.returned (.tuple #[.slice none 0 0,.I 0,.I 6])/\St W (D9 bb bk::L) w':=by
 obtain⟨i,u,y,t,c,p⟩:=o;simp only[Ord.cells];have hgt':¬i<=bk.last:=Int.not_le.2 hgt;clear hgt;have hlen:=hok.few;have h32:(32:Int)<=(bk.len:Int):=by omega
 obtain⟨vs,h1,h2,hS0⟩:=aq4 hS;clear hS;have hS:=hS0;clear hS0;have hla:(vs++[.I bk.last])[8]? = some (.I bk.last):=by rw[List.getElem?_append_right (by omega),h1];rfl
 go_enter Tryz.func169,Tryz.ntmps169;go_wp2_with(first|refine zbx hS ?_;clear hS;intro b w hS);refine rf3 tB5a (fun _=>false) (fun i=>if i==4 then some (.bool true)else none) [] [none,none] hS ?_;intro nd
 iterate 3 (refine cR ?_)
 (refine zcN ?_);refine zcv ?_ (hs:=by(intro F w hS;(try clear hS0);exact hb▸Ef7 ⟨i,u,y,t,c,p⟩ W w _ hS))
 iterate 4 (refine cR ?_)
 (refine zc1 ?_);refine cR ?_;refine zcn ?_;refine cR ?_;refine zc1 ?_ (hc:=by(intro F;exact i9.there (i9.here hla)))
 iterate 3 (refine cR ?_)
 refine Ad7 ?_;clear hS;intro w hS;have hS2:St W [blk _ _ _,blk bb _ _,sats (sats (F8 vs bk.ps)::L)] w:=hS;clear hS;have hS:=hS2.unpack [_,_];clear hS2;simp only[jK,jN]at hS;replace hS:=R7 h1 h2 (hS.perm ((List.Perm.swap _ _ _).trans ((List.Perm.swap _ _ _).cons _)));clear hla h1 h2;go_wp2_with(first|go_at_call 168;refine(HV7 bb bk (by omega) W _ _ hS).mono ?_;clear hS;rintro e w ⟨rfl,hS⟩);go_ret3;exact⟨rfl,hS.swap.drop⟩
theorem Fa7(b:Bk)(k:Nat)(hk:k<8):(b.pile k).length<=b.len:=by
 unfold Bk.len Bk.pile;obtain h|h|h|h|h|h|h|h:k=0\/k=1\/k=2\/k=3\/k=4\/k=5\/k=6\/k=7:=by omega
 all_goals subst h
 ·exact Nat.le_trans (Nat.le_add_left _ (D7 b.ps 0)) (Av7 b.ps (k:=1) (by omega))
 ·exact Nat.le_trans (Nat.le_add_left _ (D7 b.ps 2)) (Av7 b.ps (k:=3) (by omega))
 ·exact Nat.le_trans (Nat.le_add_left _ (D7 b.ps 4)) (Av7 b.ps (k:=5) (by omega))
 ·exact Nat.le_trans (Nat.le_add_left _ (D7 b.ps 6)) (Av7 b.ps (k:=7) (by omega))
 ·exact Nat.le_trans (Nat.le_add_left _ (D7 b.ps 1)) (Av7 b.ps (k:=2) (by omega))
 ·exact Nat.le_trans (Nat.le_add_left _ (D7 b.ps 3)) (Av7 b.ps (k:=4) (by omega))
 ·exact Nat.le_trans (Nat.le_add_left _ (D7 b.ps 5)) (Av7 b.ps (k:=6) (by omega))
 ·exact Nat.le_trans (Nat.le_add_left _ (D7 b.ps 7)) (Av7 b.ps (k:=8) (by omega))
theorem Ds7(bb:Nat)(b:Bk)(k:Nat)(hk:k<8)(o:Ord)(h63:(b.pile k).length<=4294967296)(W w:World)(L:List HP)
  (hS:St W (D9 bb b::L) w):
  Calls Tryz.prog 206 #[.iface 273 (.pointer (some ⟨bb,k,none⟩)),.iface 166 (.agg o.cells.toArray)] w fun e w'=>e=.returned (.tuple #[])/\St W (D9 bb ⟨b.ps.set k (ar4 (b.pile k) o),b.last⟩::L) w':=by
 obtain⟨vs,h1,h2,hS⟩:=aq4 hS;have hk1:k<vs.length:=by omega
 have hk2:k<b.ps.length:=by omega
 have hpk:b.ps[k]=b.pile k:=by unfold Bk.pile;simp[List.getD_eq_getElem?_getD,jG hk2]
 have hS:=bx4 k hk1 hk2 hS.swap;rw[hpk]at hS;have hl:(vs++[Value.int .i64 b.last])[k]? = some vs[k]:=by rw[List.getElem?_append_left hk1,jG hk1]
 refine(Oe7 (b.pile k) o _ _ bb k _ h63 hl W w _ (hS.perm (List.perm_middle (l₁:=[_,_])))).mono ?_;rintro e w' ⟨v',rfl,hS⟩;refine⟨rfl,?_⟩;refine R7 (vs:=vs.set k v') (by simpa using h1) (by simpa using h2) ?_;rw[List.set_append_left _ _ hk1]at hS;exact(by4 k hk1 hk2 (hS.perm (List.perm_middle (l₁:=[_,_]) (a:=_) (l₂:=L)).symm)).swap
theorem cI4{W w:World}{L:List HP}{X Y:HP}{bb k:Nat}{vs:List Value}{ps:List (List Ord)}{v:Value}{q:List Ord}{id:Int}(h1:vs.length=8)(h2:ps.length=8)(hk:k<8)
  (h:St W (X::Y::blk bb (vs.set k v++[.I id]) 272::j8 v q::sats ((F8 vs ps).eraseIdx k)::L) w):St W (D9 bb ⟨ps.set k q,id⟩::X::Y::L) w:=by
 have a1:=(h.perm (List.perm_middle (l₁:=[_,_,_,_]))).perm (List.perm_middle (l₁:=[_,_,_,_]));have a2:=by4 k (by omega) (by omega) a1;have a3:=a2.perm (List.perm_middle (l₁:=[_,_,_]));exact R7 (by simpa using h1) (by simpa using h2) a3
theorem LA7(it:Nat)(y:Bool)(h:it<4):w9 it (!y)≠w9 it y:=by unfold w9;cases y <;> simp <;> omega
theorem Bt7(it:Nat)(y:Bool)(h:it<4):w9 it y<8:=by unfold w9;cases y <;> simp <;> omega
def gc4(W:World)(L:List HP)(ob bb:Nat)(vs:List Value)(id:Int)(rest:HP)(k:Nat)(i:Int)(u:ByteArray)(y:Bool)(t p:Int)(r:Ord×List Ord×List Trd)(f:Nat)(v7:Value)(w:World):Prop:=
 ∃(c:Int) (q:List Ord) (l:List Trd) (v:Value),Q8 f ⟨i,u,y,t,c,p⟩ q l=r/\(q.length<f\/(c=0/\0<f))/\q.length<=32/\l.length+f<=40/\(∀x∈q,1<=x.cnt/\x.cnt<=1048576)/\0<=c/\c<=1048576 /\
  St W (blk ob [.I i,.string u,.bool y,.I t,.I c,.I p] 166::row v7 8 231 l.length (l.flatMap Trd.cells)::blk bb (vs.set k v++[.I id]) 272::j8 v q::rest::L) w
abbrev tB5b:List Nat:=[0,1,3,7,15,31,63,127,255,511,1023,2047,2047,6143,14335,30719,63487,131071,262143]
abbrev tB5c:List Nat:=[0,0,2,0,8,31,63,0,128,511]
theorem QM7(bb:Nat)(bk:Bk)(o:Ord)(hok:BkOk bk)(hb:P9 o=true)(hgt:bk.last<o.id)(hfew:¬32<=bk.len)(W w:World)(L:List HP)
  (hS:St W (D9 bb bk::L) w):
  Calls Tryz.prog 169 #[.P bb,.agg o.cells.toArray] w fun e w'=>∃v,e=.returned (.tuple #[v,.I (J5 bk o).left,.I 0]) /\
   St W (D9 bb (J5 bk o).book::row v 8 231 (J5 bk o).trades.length ((J5 bk o).trades.flatMap Trd.cells)::L) w':=by
 obtain⟨i,u,y,t,c,p⟩:=o;have hmay:=Ao7.1 hb;obtain⟨it,rfl⟩:∃it:Nat,t=it:=⟨t.toNat,by have:=hmay.item0;simp only at this;omega⟩
 have hit:it<4:=by have:=hmay.item1;simp only at this;omega
 have hit1:bz4 ⟨i,u,y,it,c,p⟩=it:=by simp[bz4]
 have hc0:1<=c:=hmay.cnt0;have hc1:c<=1048576:=hmay.cnt1;have hi0:1<=i:=hmay.id0;have hi1:i<=1099511627776:=hmay.id1;unfold J5;rw[if_neg (by rintro(h|h);(rw[hb]at h;cases h);exact absurd hgt (by simpa using h)),if_neg hfew,hit1];dsimp only;simp only[Ord.cells];have hgt':¬i<=bk.last:=Int.not_le.2 hgt;clear hgt hmay;have hlen:=hok.few;have h32:¬(32:Int)<=(bk.len:Int):=by omega
 generalize hr:Q8 ((bk.pile (w9 it (!y))).length+1) ⟨i,u,y,it,c,p⟩ (bk.pile (w9 it (!y))) []=r;generalize hB:(if 0<r.1.cnt then(bk.ps.set (w9 it (!y)) r.2.1).set (w9 it y) (ar4 ((bk.ps.set (w9 it (!y)) r.2.1).getD (w9 it y) []) r.1)else bk.ps.set (w9 it (!y)) r.2.1)=ps2;have HB:=jH hB;clear hB;have Hr:=jH hr;clear hr;have Hfew:=jH hfew;clear hfew;obtain⟨vs,h1,h2,hS0⟩:=aq4 hS;clear hS;have hS:=hS0;clear hS0;have hla:(vs++[.I bk.last])[8]? = some (.I bk.last):=by rw[List.getElem?_append_right (by omega),h1];rfl
 go_enter Tryz.func169,Tryz.ntmps169;go_wp2_with(first|refine zbx hS ?_;clear hS;intro b w hS);refine rf3 tB5a (fun _=>false) (fun i=>if i==4 then some (.bool true)else none) [] [none,none] hS ?_;intro nd
 iterate 3 (refine cR ?_)
 (refine zcN ?_);refine zcv ?_ (hs:=by(intro F w hS;(try clear hS0);exact hb▸Ef7 ⟨i,u,y,(it:Int),c,p⟩ W w _ hS))
 iterate 4 (refine cR ?_)
 (refine zc1 ?_);refine cR ?_;refine zcn ?_;refine cR ?_;refine zc1 ?_ (hc:=by(intro F;exact i9.there (i9.here hla)))
 iterate 3 (refine cR ?_)
 refine Ad7 ?_;clear hS;intro w hS;have hS2:St W [blk _ _ _,blk bb _ _,sats (sats (F8 vs bk.ps)::L)] w:=hS;clear hS;have hS:=hS2.unpack [_,_];clear hS2;simp only[jK,jN]at hS;replace hS:=R7 h1 h2 (hS.perm ((List.Perm.swap _ _ _).trans ((List.Perm.swap _ _ _).cons _)));clear hla h1 h2;go_wp2_with(first|go_at_call 168;refine(HV7 bb bk (by omega) W _ _ hS).mono ?_;clear hS;rintro e w ⟨rfl,hS⟩;have hS':=aq4 hS;clear hS;obtain⟨vs,h1,h2,hS⟩:=hS'|((with_reducible apply Hl7 hS);rfl;rfl;rfl;(focus((conv=>lhs;whnf);try rfl));kernel_rfl;rfl;rfl;exact db4;simp[h1];rfl;clear hS;intro w hS;try(refine frS ?_))|go_at_call 204;refine(CG7 bb it hit (!y) W _ _ hS).mono ?_;clear hS;rintro e w ⟨rfl,hS⟩|refine zl1 hS ?_);have hset:(vs++[Value.int .i64 bk.last]).set 8 (.I i)=vs++[.I i]:=by rw[List.set_append_right _ _ (by omega),h1];rfl
 rw[hset]at hS;clear hset;have hk:w9 it (!y)<8:=by unfold w9;cases y <;> simp <;> omega
 generalize hkk:w9 it (!y)=k at *;have Hkk:=jH hkk;clear hkk;have hk1:k<vs.length:=by omega
 have hk2:k<bk.ps.length:=by omega
 have hpk:bk.ps[k]=bk.pile k:=by unfold Bk.pile;simp[List.getD_eq_getElem?_getD,jG hk2]
 have hS1:=bx4 k hk1 hk2 hS.swap;clear hS;rw[hpk]at hS1;have hS2:=((hS1.perm (List.perm_middle (l₁:=[_,_]))).rowNil (k:=8) (T:=231)).perm (List.perm_middle (l₁:=[_,_,_,_]));clear hS1;have hS:=hS2;clear hS2;have hp32:(bk.pile k).length<=32:=Nat.le_trans (Fa7 bk k hk) hlen;have hcn:∀x∈bk.pile k,1<=x.cnt/\x.cnt<=1048576:=fun x hx=>hok.cnts _ (hpk▸jW hk2) x hx
 have Hpk:=jH hpk;clear hpk
 go_loopg [7] ((bk.pile k).length+1) (fun f v7 wr=>gc4 W L b bb vs i (sats ((F8 vs bk.ps).eraseIdx k)) k i u y it p r f v7 wr)
 case atStart=>exact⟨c,bk.pile k,[],vs[k],Hr.out,.inl (Nat.lt_succ_self _),hp32,by simp;omega,hcn,by omega,hc1,by rw[List.set_getElem_self];exact hS⟩
 case round=>
  clear hS Hr hcn hp32 hc0 hc1 hb hit1;obtain⟨c,q,l,v,hl,hqf,hq32,hlf,hcnt,hc0,hc1,hS⟩:=hrel;have Hcnt:=jH hcnt;clear hcnt;obtain⟨f,rfl⟩:∃f,gk=f+1:=⟨gk-1,by omega⟩
  have hset:∀v:Value,(vs.set k v++[Value.int .i64 i])[k]? = some v:=fun v=>by rw[List.getElem?_append_left (by simpa using hk1),List.getElem?_set_self hk1]
  have hpl:(Bk.pile ⟨bk.ps.set k q,i⟩ (w9 it y)).length<=4294967296:=by have h6:=Fa7 bk (w9 it y) (Bt7 it y hit);unfold Bk.pile at h6 ⊢;rw[List.getD_eq_getElem?_getD,List.getElem?_set_ne (by rw[<-Hkk.out];exact LA7 it y hit),<-List.getD_eq_getElem?_getD];omega
  by_cases hcz:0<c
  ·cases q with
   | nil=>
    have Hr:=jH (show r=(⟨i,u,y,it,c,p⟩,[],l)by rw[<-hl];simp[Q8]);clear hl;obtain⟨b0,c0,rfl⟩:=hS.drop.drop.drop.rowVal;have hvk:=hset (.slice b0 ([]:List Ord).length c0);clear hset;go_wp2_with fail;refine rf3 tB5b (fun _=>false) (fun _=>none) [] [none,none,none] hS ?_;intro nd;refine cR ?_;refine zc1 ?_
    iterate 2 (refine cR ?_)
    (refine cR ?_);refine zcn ?_;refine zc1 ?_ (hc:=by(intro F;exact i9.there (i9.there (i9.here hvk))))
    iterate 4 (refine cR ?_)
    iterate 7 (refine BL7 (by kernel_rfl) rfl ?_;refine frS ?_)
    (refine cR ?_);refine Ad7 ?_;clear hS;intro w hS;have hS2:St W [blk b _ _,row _ _ _ _ _,blk bb _ _,sats (j8 (.slice b0 ([]:List Ord).length c0) []::_::L)] w:=hS;clear hS;have hS:=hS2.unpack [_,_,_];clear hS2;simp only[jK,jN]at hS;replace hS:=cI4 h1 h2 hk hS;go_wp2_with(first|refine zl1 hS ?_);refine rf3 tB5c (fun _=>false) (fun i=>if i==5 then some (.pointer (some ⟨bb,w9 it y,none⟩))else if i==9 then some (.tuple #[])else none) [⟨some 9,none,fun _=>D9 bb ⟨(bk.ps.set k []).set (w9 it y) (ar4 (Bk.pile ⟨bk.ps.set k [],i⟩ (w9 it y)) ⟨i,u,y,it,c,p⟩),i⟩⟩] [some 9,none,none] hS ?_;intro nd
    iterate 2 (refine cR ?_)
    (refine zc1 ?_);refine cR ?_;refine zc1 ?_;refine zcv ?_ (hs:=by(intro F w hS;(try clear hS0);exact CG7 bb it hit y W w _ hS));refine cR ?_;refine zcN ?_;refine cR ?_;refine zcv ?_ (hs:=by(intro F w hS;(try clear hS0);exact Ds7 bb _ _ (Bt7 it y hit) ⟨i,u,y,it,c,p⟩ hpl W w _ hS));refine Ad7 ?_;clear hS;intro w hS;have hS2:St W [D9 bb _,blk b _ _,row _ _ _ _ _,sats L] w:=hS;clear hS;have hS:=hS2.unpack [_,_,_];clear hS2;simp only[jK,jN]at hS;go_wp2_with(fail);refine rf2 [0,0,2,1,15,31] (fun _=>false) [] [none,none,none] hS ?_;intro nd
    iterate 2 (refine cR ?_)
    (refine zc1 ?_)
    iterate 3 (refine cR ?_)
    refine Ad7 ?_;clear hS;intro w hS;go_wp2_with fail;go_ret3;refine⟨u7,by rw[Hr.out];rfl,?_⟩;have hB:=HB.out;rw[Hr.out,if_pos hcz]at hB;rw[Hr.out,<-hB];exact(hS.unpack [_,_,_]).swap.drop
   | cons x q=>
    have hrow:=hS.perm (List.perm_middle (l₁:=[_,_,_]));clear hS
    rcases hrow.rowOpen with ⟨_,h0,_⟩|⟨g,cap,junk,rfl,hn1,hm1,hj1,hl1,hS0⟩
    ·exact absurd h0 (by simp)
    clear hrow;have hS:=hS0.perm (List.perm_middle (l₁:=[_,_,_])).symm;clear hS0;have hvk:=hset (.S g (x::q).length cap);obtain⟨xi,xu,xy,xt,xc,xp⟩:=x;have hfl:∀xc:Int,((⟨xi,xu,xy,xt,xc,xp⟩:Ord)::q).flatMap Ord.cells++junk=.I xi::.string xu::.bool xy::.I xt::.I xc::.I xp::(q.flatMap Ord.cells++junk):=fun _=>rfl
    rw[hfl]at hS;have hxc:=Hcnt.out _ (List.mem_cons_self ..);simp only[jC]at hxc hvk hn1 hq32 hqf;have hm2:cap<=9223372036854775807:=by unfold maxLen at hm1;omega
    generalize htl:q.flatMap Ord.cells++junk=tl at hS;have Htl:=jH htl;have Hfl:=jH hfl;clear htl hfl
    cases hm:aJ4 ⟨i,u,y,it,c,p⟩ ⟨xi,xu,xy,xt,xc,xp⟩
    ·have Hr:=jH (show r=(⟨i,u,y,it,c,p⟩,⟨xi,xu,xy,xt,xc,xp⟩::q,l)by rw[<-hl];simp[Q8,hm]);clear hl;go_wp2_with fail;refine rf3 tB5b (fun _=>false) (fun i=>if i==17 then some (.bool false)else none) [] [none,none,none,none] hS ?_;intro nd;refine cR ?_;refine zc1 ?_
     iterate 3 (refine cR ?_)
     (refine zcn ?_);refine zc1 ?_ (hc:=by(intro F;exact i9.there (i9.there (i9.here hvk))))
     iterate 4 (refine cR ?_)
     (refine zcN ?_);refine cR ?_;refine zcn ?_;refine zc1 ?_ (hc:=by(intro F;exact i9.there (i9.there (i9.here hvk))));refine cR ?_;refine zcN ?_ (hc:=by(intro F;exact(i8.there (i8.there (i8.there (i8.here (vs:=[.I xi,.string xu,.bool xy,.I xt,.I xc,.I xp]) rfl))))));refine zcv ?_ (hs:=by(intro F w hS;(try clear hS0);exact hm▸Gj7 ⟨i,u,y,it,c,p⟩ ⟨xi,xu,xy,xt,xc,xp⟩ W w _ hS));refine cR ?_;refine Ad7 ?_;clear hS;intro w hS;have hS2:St W [blk b _ _,row _ _ _ _ _,blk bb _ _,blk g _ _,sats (_::L)] w:=hS;clear hS;have hS:=hS2.unpack [_,_,_,_];clear hS2;simp only[jK,jN]at hS;replace hS:=hS.perm (List.perm_middle (l₁:=[_,_,_]));rw[<-Htl.out,<-Hfl.out]at hS;have hS3:St W (j8 (.S g (q.length+1) cap) (⟨xi,xu,xy,xt,xc,xp⟩::q)::_) w:=St.rowShut hS hn1 hm1 hj1 hl1;clear hS;have hS:=hS3.perm (List.perm_middle (l₁:=[_,_,_])).symm;clear hS3;replace hS:=cI4 h1 h2 hk hS;go_wp2_with(first|refine zl1 hS ?_);refine rf3 tB5c (fun _=>false) (fun i=>if i==5 then some (.pointer (some ⟨bb,w9 it y,none⟩))else if i==9 then some (.tuple #[])else none) [⟨some 9,none,fun _=>D9 bb ⟨(bk.ps.set k (⟨xi,xu,xy,xt,xc,xp⟩::q)).set (w9 it y) (ar4 (Bk.pile ⟨bk.ps.set k (⟨xi,xu,xy,xt,xc,xp⟩::q),i⟩ (w9 it y)) ⟨i,u,y,it,c,p⟩),i⟩⟩] [some 9,none,none] hS ?_;intro nd
     iterate 2 (refine cR ?_)
     (refine zc1 ?_);refine cR ?_;refine zc1 ?_;refine zcv ?_ (hs:=by(intro F w hS;(try clear hS0);exact CG7 bb it hit y W w _ hS));refine cR ?_;refine zcN ?_;refine cR ?_;refine zcv ?_ (hs:=by(intro F w hS;(try clear hS0);exact Ds7 bb _ _ (Bt7 it y hit) ⟨i,u,y,it,c,p⟩ hpl W w _ hS));refine Ad7 ?_;clear hS;intro w hS;have hS2:St W [D9 bb _,blk b _ _,row _ _ _ _ _,sats L] w:=hS;clear hS;have hS:=hS2.unpack [_,_,_];clear hS2;simp only[jK,jN]at hS;go_wp2_with(fail);refine rf2 [0,0,2,1,15,31] (fun _=>false) [] [none,none,none] hS ?_;intro nd
     iterate 2 (refine cR ?_)
     (refine zc1 ?_)
     iterate 3 (refine cR ?_)
     refine Ad7 ?_;clear hS;intro w hS;go_wp2_with fail;go_ret3;refine⟨u7,by rw[Hr.out];rfl,?_⟩;have hB:=HB.out;rw[Hr.out,if_pos hcz]at hB;rw[Hr.out,<-hB];exact(hS.unpack [_,_,_]).swap.drop
    ·obtain⟨tb,ts,tu,te,tt,tc,tp,td,hT⟩:∃tb ts tu te tt tc tp td,af4 ⟨i,u,y,it,c,p⟩ ⟨xi,xu,xy,xt,xc,xp⟩=⟨tb,ts,tu,te,tt,tc,tp,td⟩:=⟨_,_,_,_,_,_,_,_,rfl⟩
     have htc:tc=O9 c xc:=by have:=congrArg Trd.cnt hT;simp only at this;rw[<-this];unfold af4;split <;> rfl
     have hl':Q8 f ⟨i,u,y,it,c-tc,p⟩ (if xc-tc=0 then bS4 (⟨xi,xu,xy,xt,xc-tc,xp⟩::q)else⟨xi,xu,xy,xt,xc-tc,xp⟩::q) (l++[⟨tb,ts,tu,te,tt,tc,tp,td⟩])=r:=by rw[<-hl,Q8,if_pos (⟨hcz,hm⟩:0<c/\aJ4 ⟨i,u,y,it,c,p⟩ ⟨xi,xu,xy,xt,xc,xp⟩=true),hT]
     have hq1:q.length<f:=by omega
     clear hl hqf;have Hl:=jH hl';clear hl';have hct:1<=tc/\tc<=c/\tc<=xc/\(xc-tc≠0->c-tc=0):=by rw[htc];unfold O9;split <;> omega
     clear htc;have HT:=jH hT;clear hT;go_wp2_with fail;refine rf3 tB5b (fun _=>false) (fun i=>if i==17 then some (.bool true)else none) [] [none,none,none,none] hS ?_;intro nd;refine cR ?_;refine zc1 ?_
     iterate 3 (refine cR ?_)
     (refine zcn ?_);refine zc1 ?_ (hc:=by(intro F;exact i9.there (i9.there (i9.here hvk))))
     iterate 4 (refine cR ?_)
     (refine zcN ?_);refine cR ?_;refine zcn ?_;refine zc1 ?_ (hc:=by(intro F;exact i9.there (i9.there (i9.here hvk))));refine cR ?_;refine zcN ?_ (hc:=by(intro F;exact(i8.there (i8.there (i8.there (i8.here (vs:=[.I xi,.string xu,.bool xy,.I xt,.I xc,.I xp]) rfl))))));refine zcv ?_ (hs:=by(intro F w hS;(try clear hS0);exact hm▸Gj7 ⟨i,u,y,it,c,p⟩ ⟨xi,xu,xy,xt,xc,xp⟩ W w _ hS));refine cR ?_;refine Ad7 ?_;clear hS;intro w hS;have hS2:St W [blk b _ _,row _ _ _ _ _,blk bb _ _,blk g _ _,sats (_::L)] w:=hS;clear hS;have hS:=hS2.unpack [_,_,_,_];clear hS2;simp only[jK,jN]at hS;go_wp2_with(first|refine zl1 hS ?_ (hc:=by exact i9.there (i9.there (i9.here hvk))));refine rf3 [0,0,2,6,15,0,63] (fun i=>i==5) (fun i=>if i==4 then some (.agg #[.string tb,.string ts,.I tu,.I te,.I tt,.I tc,.I tp,.I td])else none) [⟨some 5,some 6,fun nd=>k8 (nd 5) [.string ⟨#[]⟩,.string ⟨#[]⟩,.I 0,.I 0,.I 0,.I 0,.I 0,.I 0] 231⟩,⟨some 6,none,fun nd=>k8 (nd 5) [.string tb,.string ts,.I tu,.I te,.I tt,.I tc,.I tp,.I td] 231⟩] [none,none,none,none] hS ?_;intro nd;refine zcN ?_;refine cR ?_;refine zcn ?_;refine zcN ?_ (hc:=by(intro F;exact(i8.there (i8.there (i8.there (i8.here (vs:=[.I xi,.string xu,.bool xy,.I xt,.I xc,.I xp]) rfl))))));refine zcv ?_ (hs:=by(intro F w hS;(try clear hS0);exact(HT.out▸MC7 ⟨i,u,y,it,c,p⟩ ⟨xi,xu,xy,xt,xc,xp⟩ W w _ hS:Calls _ _ _ _ fun e w'=>e=.returned (.agg (Trd.cells ⟨tb,ts,tu,te,tt,tc,tp,td⟩).toArray)/\_)));refine zca ?_;refine zct ?_;refine Ad7 ?_;clear hS;intro w hS;have hS2:St W [k8 (nd 5) _ _,blk b _ _,row _ _ _ _ _,blk bb _ _,blk g _ _,sats (_::L)] w:=hS;clear hS;have hS:=hS2.unpack [_,_,_,_,_];clear hS2;simp only[jK,jN]at hS;generalize nd 5=v5 at *
     have h1:=hS.ptr;clear hS;obtain⟨tb5,rfl,hS⟩:=h1;go_wp2_with(first|refine zbs hS ?_;clear hS;intro bS w hS|refine zap hS ?_ (h63:=by unfold maxLen;omega) (hb:=by omega);clear hS;intro v w hS|refine zl1 hS ?_|refine zlN hS ?_|refine zs1 hS ?_;clear hS;intro w hS);replace hS:=hS.swap.drop;refine rf3 [0,1,3,7,0,16,63,127,255,511] (fun _=>false) (fun _=>none) [⟨some 9,none,fun _=>blk g (.I xi::.string xu::.bool xy::.I xt::.I (xc-tc)::.I xp::tl) 166⟩] [none,none,none,none,some 9] hS ?_;intro nd;refine cR ?_;refine zcn ?_;refine cR ?_;refine zc1 ?_;refine cR ?_;refine zc1 ?_;refine cR ?_;refine zcn ?_;refine cR ?_;refine zcs ?_;refine Ad7 ?_;clear hS;intro w hS;have hS2:St W [blk g _ _,row _ _ _ _ _,blk tb5 _ _,blk b _ _,blk bb _ _,sats (_::L)] w:=hS;clear hS;have hS:=hS2.unpack [_,_,_,_,_];clear hS2;simp only[jK,jN]at hS;have hx1:∀x∈q,1<=x.cnt/\x.cnt<=1048576:=fun x hx=>Hcnt.out x (List.mem_cons_of_mem _ hx)
     have Hx1:=jH hx1;clear hx1;by_cases hz:xc-tc=0
     ·have hlz:=Hl.out;rw[if_pos hz]at hlz;have Hlz:=jH hlz;clear hlz;go_wp2_with(first|refine zl1 hS ?_ (hc:=by exact i9.here rfl)|go_at_call 209;(rw[<-Htl.out,<-Hfl.out (xc-tc)]at hS;have hS3:St W (j8 (.S g (q.length+1) cap) (⟨xi,xu,xy,xt,xc-tc,xp⟩::q)::_) w:=St.rowShut hS hn1 hm1 hj1 hl1;clear hS;have hS:=hS3.perm (List.perm_middle (l₁:=[_,_,_,_]));clear hS3);refine(QL7 (⟨xi,xu,xy,xt,xc-tc,xp⟩::q) (Nat.succ_pos _) _ _ bb k _ (by simp only[jC];omega) hvk W _ _ hS).mono ?_;clear hS;rintro e w ⟨v',rfl,hS⟩);replace hS:=((((hS.perm (List.perm_middle (l₁:=[_,_,_]))).drop).perm (List.perm_middle (l₁:=[_,_]))).perm (List.perm_middle (l₁:=[_,_,_])))
      rw[List.set_append_left _ _ (by simpa using hk1),List.set_set]at hS
      go_roundg f
      case measure=>omega
      case rel=>exact⟨c-tc,bS4 (⟨xi,xu,xy,xt,xc-tc,xp⟩::q),l++[⟨tb,ts,tu,te,tt,tc,tp,td⟩],v',Hlz.out,.inl (by rw[Cb7];simpa using hq1),by rw[Cb7];simp only[jC];omega,by simp only[jA,jC,List.length_nil];omega,fun x hx=>Hx1.out x ((Df7 _ _).mem_iff.1 hx),by omega,by omega,by rw[jA,List.flatMap_append];exact hS⟩
     ·have hlz:=Hl.out;rw[if_neg hz]at hlz;have Hlz:=jH hlz;clear hlz;go_wp2_with(first|refine zl1 hS ?_ (hc:=by exact i9.here rfl))
      (rw[<-Htl.out,<-Hfl.out (xc-tc)]at hS;have hS3:St W (j8 (.S g (q.length+1) cap) (⟨xi,xu,xy,xt,xc-tc,xp⟩::q)::_) w:=St.rowShut hS hn1 hm1 hj1 hl1;clear hS;have hS:=hS3.perm (List.perm_middle (l₁:=[_,_,_,_]));clear hS3)
      replace hS:=((((hS.perm (List.perm_middle (l₁:=[_,_,_]))).drop).perm (List.perm_middle (l₁:=[_,_]))).perm (List.perm_middle (l₁:=[_,_,_])))
      go_roundg f
      case measure=>omega
      case rel=>exact⟨c-tc,⟨xi,xu,xy,xt,xc-tc,xp⟩::q,l++[⟨tb,ts,tu,te,tt,tc,tp,td⟩],_,Hlz.out,.inr ⟨by omega,by omega⟩,by simp only[jC];omega,by simp only[jA,jC,List.length_nil];omega,fun x hx=>by
       rcases List.mem_cons.1 hx with rfl|hx
       ·dsimp only;omega
       ·exact Hx1.out x hx,by omega,by omega,by rw[jA,List.flatMap_append];exact hS⟩
  ·have Hr:=jH (show r=(⟨i,u,y,it,c,p⟩,q,l)by rw[<-hl];cases q <;> simp[Q8,hcz]);clear hl;obtain rfl:c=0:=by omega
   go_wp2_with fail;refine rf3 tB5b (fun _=>false) (fun _=>none) [] [none,none,none] hS ?_;intro nd;refine cR ?_;refine zc1 ?_
   iterate 2 (refine cR ?_)
   iterate 5 (refine BL7 (by kernel_rfl) rfl ?_;refine frS ?_)
   iterate 2 (refine cR ?_)
   iterate 7 (refine BL7 (by kernel_rfl) rfl ?_;refine frS ?_)
   (refine cR ?_);refine Ad7 ?_;clear hS;intro w hS;have hS2:St W [blk b _ _,row _ _ _ _ _,blk bb _ _,sats (j8 v q::_::L)] w:=hS;clear hS;have hS:=hS2.unpack [_,_,_];clear hS2;simp only[jK,jN]at hS;go_wp2_with(first|refine zl1 hS ?_);refine rf2 [0,0,2,1,15,31] (fun _=>false) [] [none,none] hS ?_;intro nd
   iterate 2 (refine cR ?_)
   (refine zc1 ?_)
   iterate 3 (refine cR ?_)
   refine Ad7 ?_;clear hS;intro w hS;go_wp2_with fail;go_ret3;refine⟨u7,by rw[Hr.out];rfl,?_⟩;have hB:=HB.out;rw[Hr.out,if_neg (show ¬(0:Int)<0 by omega)]at hB;rw[Hr.out,<-hB];exact(cI4 h1 h2 hk (hS.unpack [_,_])).swap.drop
def bk0:Bk:=⟨[[],[],[],[],[],[],[],[]],0⟩
theorem UM7:BkOk bk0:=⟨rfl,by decide,(by intro p hp x hx;simp[bk0]at hp;subst hp;cases hx),by decide,by decide⟩
def as4(v:Value)(l:List Trd):HP:=row v 8 231 l.length (l.flatMap Trd.cells)
theorem LB7(W w:World)(L:List HP)(hS:St W L w):
  Calls Tryz.prog 201 #[] w fun e w'=>∃b,e=.returned (.P b)/\St W (D9 b bk0::L) w':=by
 refine(QK7 W w L hS).mono ?_;rintro e w' ⟨b,rfl,hS⟩;refine⟨b,rfl,?_⟩
 have h1:∀(n:Nat) {L:List HP} {w:World},St W L w->St W (sats (F8 (List.replicate n (.slice none 0 0)) (List.replicate n []))::L) w:=by
  intro n
  induction n with
  | zero=>intro L w h;exact⟨h.os,h.tape,h.output,fun _=>false,trivial,h.sat⟩
  | succ n ih=>intro L w h;exact St.join ((ih h).rowNil (k:=6) (T:=166))
 exact R7 (vs:=List.replicate 8 (.slice none 0 0)) rfl rfl (h1 8 hS).swap
theorem MJ7(bb:Nat)(bk:Bk)(o:Ord)(hok:BkOk bk)(W w:World)(L:List HP)(hS:St W (D9 bb bk::L) w):
  Calls Tryz.prog 169 #[.P bb,.agg o.cells.toArray] w fun e w'=>∃v,e=.returned (.tuple #[v,.I (J5 bk o).left,.I (J5 bk o).errno]) /\
   St W (D9 bb (J5 bk o).book::as4 v (J5 bk o).trades::L) w':=by
 have hnil:∀{w:World},St W (D9 bb bk::L) w->St W (D9 bb bk::as4 (.slice none 0 0) []::L) w:=fun h=>(h.rowNil (k:=8) (T:=231)).swap
 cases hb:P9 o
 ·have e:J5 bk o=⟨[],0,1,bk⟩:=by unfold J5;rw[if_pos (.inl hb)]
  rw[e];refine(Oh7 bb bk o hok hb W w L hS).mono ?_;rintro e w' ⟨rfl,hS⟩;exact⟨_,rfl,hnil hS⟩
 ·by_cases hle:o.id<=bk.last
  ·have e:J5 bk o=⟨[],0,1,bk⟩:=by unfold J5;rw[if_pos (.inr hle)]
   rw[e];refine(Oi7 bb bk o hok hb hle W w L hS).mono ?_;rintro e w' ⟨rfl,hS⟩;exact⟨_,rfl,hnil hS⟩
  ·have hno:¬(P9 o=false\/o.id<=bk.last):=by rintro(h|h);(rw[hb]at h;cases h);exact hle h
   by_cases hf:32<=bk.len
   ·have e:J5 bk o=⟨[],0,6,bk⟩:=by unfold J5;rw[if_neg hno,if_pos hf]
    rw[e];refine(MI7 bb bk o hok hb (by omega) hf W w L hS).mono ?_;rintro e w' ⟨rfl,hS⟩;exact⟨_,rfl,hnil hS⟩
   ·have e:(J5 bk o).errno=0:=by unfold J5;rw[if_neg hno,if_neg hf]
    rw[e];exact QM7 bb bk o hok hb (by omega) hf W w L hS
def ko1:Ord:=⟨1,⟨#[97]⟩,false,1,3,5⟩
def ko2:Ord:=⟨2,⟨#[98]⟩,true,1,2,7⟩
def kb1:Bk:=⟨[[],[],[],[],[],[ko1],[],[]],1⟩
def kb2:Bk:=⟨[[],[],[],[],[],[⟨1,⟨#[97]⟩,false,1,1,5⟩],[],[]],2⟩
def kt:Trd:=⟨⟨#[98]⟩,⟨#[97]⟩,2,1,1,2,5,7⟩
theorem By7(o:Ord)(W w:World)(L:List HP)(hS:St W L w):
  Calls Tryz.prog 182 #[.agg o.cells.toArray] w fun e w'=>e=.returned (.bool (P9 o))/\St W L w':=by
 obtain⟨i,u,y,t,c,p⟩:=o;simp only[Ord.cells];go_enter Tryz.func182,Tryz.ntmps182;go_wp2_with(first|refine zl1 hS ?_|refine zlN hS ?_|refine zs1 hS ?_;clear hS;intro w hS|refine zsN hS ?_;clear hS;intro w hS|refine zbx hS ?_;clear hS;intro b w hS|refine zal hS ?_;clear hS;intro b w hS)
 all_goals go_ret
 all_goals exact⟨by simp[P9, *];try omega,hS.drop⟩
theorem Hu7:∀(f:Nat) (xs:List Ord) (j k:Nat),j<k->(upF f xs j)[k]? = xs[k]?
 | 0,_,_,_,_=>rfl
 | f+1,xs,j,k,hk=>by
  rw[upF];split
  ·rename_i h
   split
   ·rw[Hu7 f _ _ _ (by omega)];simp only[L5];rw[List.getElem?_set_ne (by omega),List.getElem?_set_ne (by omega)]
   ·rfl
  ·rfl
theorem IY7(xs:List Ord)(i n:Nat)(h:xs.length=n+1)(hi:i<=n):(bC4 xs i n h hi)[n]? = xs[i]? := by
 have hsw:(L5 xs i n (by omega) (by omega))[n]? = xs[i]? := by rw[jG (by rw[Ah7];omega),IX7,if_pos rfl,jG (by omega)]
 unfold bC4;split
 ·rename_i he;rw[he]
 ·split
  ·rw[Cq7 _ _ _ _ _ (Nat.le_refl _),hsw]
  ·rw[Hu7 _ _ _ _ (by omega),Cq7 _ _ _ _ _ (Nat.le_refl _),hsw]
theorem Oj7(xs:List Ord)(i n:Nat)(h:xs.length=n+1)(hi:i<=n):(bC4 xs i n h hi).Perm xs:=by
 unfold bC4;split
 ·exact .refl _
 ·split
  ·exact(Dr7 _ _ _ _).trans (Ba7 _ _ _ _ _)
  ·exact(HW7 _ _ _).trans ((Dr7 _ _ _ _).trans (Ba7 _ _ _ _ _))
def cn4(xs:List Ord)(i:Nat):List Ord:=if h:i<xs.length then(bC4 xs i (xs.length-1) (by omega) (by omega)).take (xs.length-1)else xs
theorem Gn7(xs:List Ord)(i:Nat)(h:i<xs.length):(cn4 xs i).length=xs.length-1:=by unfold cn4;rw[dif_pos h,jT,BZ7];omega
theorem IZ7(xs:List Ord)(i:Nat)(h:i<xs.length):(xs[i]::cn4 xs i).Perm xs:=by
 unfold cn4;rw[dif_pos h];obtain⟨n,hn⟩:∃n,xs.length=n+1:=⟨xs.length-1,by omega⟩
 have h1:=Oj7 xs i n hn (by omega);have h2:=IY7 xs i n hn (by omega);have h3:=BZ7 (xs:=xs) (i:=i) hn (by omega);rw[jG (by rw[h3];omega),jG h]at h2
 have h4:(bC4 xs i n hn (by omega))=(bC4 xs i n hn (by omega)).take n++[xs[i]]:=by
  have h5:(bC4 xs i n hn (by omega)).drop n=[xs[i]]:=by rw[List.drop_eq_getElem_cons (by rw[h3];omega),List.drop_eq_nil_of_le (by rw[h3];omega)];simp only[Option.some.injEq]at h2;rw[h2]
  rw[<-h5,List.take_append_drop]
 simp only[hn,Nat.add_sub_cancel];rw[h4]at h1;exact(List.perm_append_singleton _ _).symm.trans h1
def aB4(ps:List (List Ord))(id:Int):List Nat->Option (Nat×Nat)
 | []=>none
 | k::ks=>match (ps.getD k []).findIdx? (fun o=>o.id==id)with
  | some i=>some (k,i)
  | none=>aB4 ps id ks
def o0:Ord:=⟨0,⟨#[]⟩,false,0,0,0⟩
structure Cancelled where
 o:Ord
 errno:Int
 book:Bk
def ac4(b:Bk)(id:Int):Cancelled:=
 match aB4 b.ps id bR4 with
 | none=>⟨o0,7,b⟩
 | some (k,i)=>⟨(b.pile k).getD i o0,0,⟨b.ps.set k (cn4 (b.pile k) i),b.last⟩⟩
def bT4(id:Int)(p:List Ord):Int:=match p.findIdx? (fun o=>o.id==id)with
 | some i=>i
 | none => -1
theorem Fw7(x:Ord)(B:Nat)(id:Int)(W w:World)(L:List HP)(hS:St W (blk B [.I id] 3::L) w):
  Calls Tryz.prog 214 #[.agg x.cells.toArray,.P B] w fun e w'=>e=.returned (.bool (x.id==id))/\St W (blk B [.I id] 3::L) w':=by
 obtain⟨i,u,y,t,c,p⟩:=x;simp only[Ord.cells];go_enter Tryz.func214,Tryz.ntmps214;go_wp2_with(first|refine zl1 hS ?_|refine zlN hS ?_|refine zs1 hS ?_;clear hS;intro w hS|refine zsN hS ?_;clear hS;intro w hS|refine zbx hS ?_;clear hS;intro b w hS|refine zal hS ?_;clear hS;intro b w hS);go_ret;exact⟨rfl,hS.drop⟩
def fG4(W:World)(L:List HP)(v:Value)(p:List Ord)(id:Int)(r:Int)(v8:Value)(w:World):Prop:=
 ∃k:Nat,v8=.I k/\k<=p.length/\(∀j,j<k->∀x,p[j]? = some x->(x.id==id)=false)/\St W L w
theorem QN7(p:List Ord)(id:Int)(h:∀j,j<p.length->∀x,p[j]? = some x->(x.id==id)=false):bT4 id p = -1:=by unfold bT4;rw[List.findIdx?_eq_none_iff.2];intro x hx;obtain⟨j,hj,rfl⟩:=List.mem_iff_getElem.1 hx;exact h j hj _ (jG hj)
theorem Tk7(p:List Ord)(id:Int)(k:Nat)(hk:k<p.length)(h:∀j,j<k->∀x,p[j]? = some x->(x.id==id)=false)(hx:(p[k].id==id)=true):bT4 id p=k:=by unfold bT4;rw[List.findIdx?_eq_some_iff_getElem.2 ⟨hk,hx,fun j hj=>by rw[h j hj _ (jG (by omega))];exact Bool.false_ne_true⟩]
theorem Go7(p:List Ord)(v:Value)(B:Nat)(id:Int)(h63:p.length<=4294967296)(W w:World)(L:List HP)(hS:St W (blk B [.I id] 3::j8 v p::L) w):
  Calls Tryz.prog 213 #[v,.func (.func 214) #[] #[.P B]] w fun e w'=>e=.returned (.I (bT4 id p))/\St W (blk B [.I id] 3::j8 v p::L) w':=by
 rcases hS.swap.rowOpen with ⟨rfl,h0,_,_⟩|⟨g,cap,junk,rfl,hn1,hm1,hj1,hl1,hS0⟩
 ·obtain rfl:p=[]:=List.eq_nil_of_length_eq_zero h0;go_enter Tryz.func213,Tryz.ntmps213;go_wp2_with fail
  go_loopw [8] (fun v wr=>v=.I 0/\St W (blk B [.I id] 3::j8 (.slice none 0 0) []::L) wr) (fun v _=>0)
  case atStart=>exact⟨rfl,hS⟩
  case round=>
   clear hS;obtain⟨rfl,hS⟩:=hrel;go_wp2_with fail;go_ret;exact⟨rfl,hS⟩
 ·clear hS;have hm':cap<=9223372036854775807:=by unfold maxLen at hm1;omega
  go_enter Tryz.func213,Tryz.ntmps213;go_wp2_with fail
  go_loopw [8] (fun v wr=>fG4 W (blk B [.I id] 3::blk g (p.flatMap Ord.cells++junk) 166::L) (.S g p.length cap) p id (bT4 id p) v wr) (fun v _=>p.length-(intOf v).toNat)
  case atStart=>exact⟨0,rfl,by omega,fun j hj=>by omega,hS0.swap⟩
  case round=>
   clear hS0;obtain⟨k,rfl,hk,hno,hS⟩:=hrel;by_cases hkn:k=p.length
   ·have Hr:=jH (QN7 p id (hkn▸hno));clear hno;subst hkn;go_wp2_with fail;go_ret;rw[Hr.out];exact⟨rfl,(St.rowShut hS.swap hn1 hm1 hj1 hl1).swap⟩
   ·have hkl:k<p.length:=by omega
    clear hkn hk;have Hno:=jH hno;clear hno
    cases hb:(p[k].id==id)
    ·go_wp2_with(first|refine zlN hS ?_ (hc:=by exact i8.there (i8.elem Ord.len hkl))|go_at_call 214;refine(Fw7 p[k] B id W _ _ hS).mono ?_;clear hS;rw[hb];rintro e w ⟨rfl,hS⟩|refine zl1 hS ?_|refine zlN hS ?_|refine zs1 hS ?_;clear hS;intro w hS|refine zsN hS ?_;clear hS;intro w hS|refine zbx hS ?_;clear hS;intro b w hS|refine zal hS ?_;clear hS;intro b w hS);go_roundw
     case rel=>
      refine⟨k+1,rfl,hkl,?_,hS⟩;intro j hj x hx;by_cases hjk:j=k
      ·subst hjk;rw[jG hkl]at hx
       cases hx
       exact hb
      ·exact Hno.out j (by omega) x hx
     case measure=>simp[intOf];omega
    ·go_wp2_with(first|refine zlN hS ?_ (hc:=by exact i8.there (i8.elem Ord.len hkl))|go_at_call 214;refine(Fw7 p[k] B id W _ _ hS).mono ?_;clear hS;rw[hb];rintro e w ⟨rfl,hS⟩|refine zl1 hS ?_|refine zlN hS ?_|refine zs1 hS ?_;clear hS;intro w hS|refine zsN hS ?_;clear hS;intro w hS|refine zbx hS ?_;clear hS;intro b w hS|refine zal hS ?_;clear hS;intro b w hS);go_ret;rw[Tk7 p id k hkl Hno.out hb];exact⟨rfl,(St.rowShut hS.swap hn1 hm1 hj1 hl1).swap⟩
def ky(y:Bool)(o:Ord):Int:=cond y (-o.price) o.price
def leK(y:Bool)(a b:Ord):Prop:=ky y a<ky y b\/(ky y a=ky y b/\a.id<=b.id)
theorem FJ7(y:Bool)(a:Ord):leK y a a:=.inr ⟨rfl,Int.le_refl _⟩
theorem CH7{y:Bool}{a b c:Ord}(h1:leK y a b)(h2:leK y b c):leK y a c:=by unfold leK at *;omega
theorem Eg7{y:Bool}{a b:Ord}(ha:a.buy=y)(h:T5 a b=true):leK y a b:=by
 subst ha;unfold T5 at h;unfold leK ky;split at h
 ·rename_i hp
  rw[hp];right;simp only[decide_eq_true_eq]at h;exact⟨rfl,by omega⟩
 ·rename_i hp
  cases hb:a.buy <;> simp[hb]at h ⊢ <;> omega
theorem Dt7{y:Bool}{a b:Ord}(ha:a.buy=y)(h:T5 a b=false):leK y b a:=by
 subst ha;unfold T5 at h;unfold leK ky;split at h
 ·rename_i hp
  rw[hp];right;simp only[decide_eq_false_iff_not]at h;exact⟨rfl,by omega⟩
 ·rename_i hp
  cases hb:a.buy <;> simp[hb]at h ⊢ <;> omega
def at'(xs:List Ord)(k:Nat):Ord:=xs.getD k o0
theorem w5{xs:List Ord}{k:Nat}(h:k<xs.length):at' xs k=xs[k]:=by simp[at',List.getD_eq_getElem?_getD,jG h]
theorem E5(xs:List Ord)(i j:Nat)(hi:i<xs.length)(hj:j<xs.length)(k:Nat):at' (L5 xs i j hi hj) k=if k=j then at' xs i else if k=i then at' xs j else at' xs k:=by
 unfold at' L5;simp only[List.getD_eq_getElem?_getD,List.getElem?_set];by_cases h1:k=j
 ·subst h1;simp[hi,hj]
 ·by_cases h2:k=i
  ·subst h2;simp[h1,Ne.symm h1,hj,hi]
  ·simp[h1,h2,Ne.symm h1,Ne.symm h2]
def di4(y:Bool)(xs:List Ord):Prop:=∀x∈xs,x.buy=y
theorem di4.at{y:Bool}{xs:List Ord}(h:di4 y xs){k:Nat}(hk:k<xs.length):(at' xs k).buy=y:=by rw[w5 hk];exact h _ (jW hk)
theorem di4.perm{y:Bool}{xs ys:List Ord}(h:di4 y xs)(hp:ys.Perm xs):di4 y ys:=fun x hx=>h x (hp.mem_iff.1 hx)
def Hp(y:Bool)(n:Nat)(xs:List Ord):Prop:=∀k,0<k->k<n->leK y (at' xs ((k-1) / 2)) (at' xs k)
structure UpI(y:Bool)(n:Nat)(xs:List Ord)(j:Nat):Prop where
 all:∀k,0<k->k<n->k≠j->leK y (at' xs ((k-1) / 2)) (at' xs k)
 kids:∀k,0<j->k<n->0<k->(k-1) / 2=j->leK y (at' xs ((j-1) / 2)) (at' xs k)
theorem Ko7(y:Bool)(n:Nat):∀(f:Nat) (xs:List Ord) (j:Nat),di4 y xs->n<=xs.length->j<n->j<=f->UpI y n xs j->Hp y n (upF f xs j)
 | 0,xs,j,_,_,_,hf,h=>fun k h0 hk=>h.all k h0 hk (by omega)
 | f+1,xs,j,hs,hn,hj,hf,h=>by
  rw[upF];by_cases hc:0<j/\j<xs.length
  ·rw[dif_pos hc];have hp:(j-1) / 2<xs.length:=by omega
   cases hb:T5 xs[j] xs[(j-1) / 2]
   ·simp only[Bool.false_eq_true,if_false];intro k h0 hk;by_cases hkj:k=j
    ·subst hkj;have:=Dt7 (hs _ (jW hc.2)) hb;rwa [w5 hp,w5 hc.2]
    ·exact h.all k h0 hk hkj
   ·simp only[if_true];have hle:leK y (at' xs j) (at' xs ((j-1) / 2)):=by rw[w5 hp,w5 hc.2];exact Eg7 (hs _ (jW hc.2)) hb
    refine Ko7 y n f _ _ (hs.perm (Ba7 _ _ _ hp hc.2)) (by rw[Ah7];exact hn) (by omega) (by omega) ⟨?_,?_⟩
    ·intro k h0 hk hkp;rw[E5,E5];by_cases h1:k=j
     ·subst h1;rw[if_pos rfl,if_neg (by omega),if_pos rfl];exact hle
     ·rw[if_neg h1,if_neg hkp];by_cases h2:(k-1) / 2=j
      ·rw[if_pos h2];exact h.kids k hc.1 hk h0 h2
      ·rw[if_neg h2];by_cases h3:(k-1) / 2=(j-1) / 2
       ·rw[if_pos h3];refine CH7 hle ?_;rw[<-h3];exact h.all k h0 hk h1
       ·rw[if_neg h3];exact h.all k h0 hk h1
    ·intro k h0 hk hk0 hkp;rw[E5,E5];rw[if_neg (by omega),if_neg (by omega)];have hg:=h.all ((j-1) / 2) h0 (by omega) (by omega);by_cases h1:k=j
     ·rw[if_pos h1];exact hg
     ·rw[if_neg h1,if_neg (by omega)];refine CH7 hg ?_;rw[<-hkp];exact h.all k hk0 hk h1
  ·rw[dif_neg hc];exact fun k h0 hk=>h.all k h0 hk (by omega)
structure DownI(y:Bool)(n:Nat)(xs:List Ord)(i:Nat):Prop where
 all:∀k,0<k->k<n->(k-1) / 2≠i->k≠i->leK y (at' xs ((k-1) / 2)) (at' xs k)
 kids:∀k,0<i->k<n->0<k->(k-1) / 2=i->leK y (at' xs ((i-1) / 2)) (at' xs k)
theorem LC7(y:Bool)(n:Nat)(xs:List Ord)(i:Nat)(hs:di4 y xs)(hn:n<=xs.length)(h1:2*i+1<n)(k:Nat)(hk:k<n)(h0:0<k)(hp:(k-1) / 2=i):leK y (at' xs (kid xs i n hn)) (at' xs k):=by
 have hkk:k=2*i+1\/k=2*i+2:=by omega
 unfold kid;split
 ·rename_i h2
  cases hb:T5 xs[2*i+2] xs[2*i+1]
  ·simp only[Bool.false_eq_true,if_false]
   rcases hkk with rfl|rfl
   ·exact FJ7 _ _
   ·rw[w5 (show 2*i+1<xs.length by omega),w5 (show 2*i+2<xs.length by omega)];exact Dt7 (hs _ (jW _)) hb
  ·simp only[if_true]
   rcases hkk with rfl|rfl
   ·rw[w5 (show 2*i+1<xs.length by omega),w5 (show 2*i+2<xs.length by omega)];exact Eg7 (hs _ (jW _)) hb
   ·exact FJ7 _ _
 ·rcases hkk with rfl|rfl
  ·exact FJ7 _ _
  ·omega
theorem Ok7{xs:List Ord}{i n:Nat}(hn:n<=xs.length):(kid xs i n hn-1) / 2=i:=by
 unfold kid;split
 ·split <;> omega
 ·omega
theorem Gp7(y:Bool)(n:Nat):∀(f:Nat) (xs:List Ord) (i:Nat),di4 y xs->n<=xs.length->n<=f+i->DownI y n xs i->(i=0\/n<=i\/leK y (at' xs ((i-1) / 2)) (at' xs i))->Hp y n (G7 f xs i n).1
 | 0,xs,i,_,_,hf,h,hi=>fun k h0 hk=>h.all k h0 hk (by omega) (by omega)
 | f+1,xs,i,hs,hn,hf,h,hi=>by
  have hstop:(∀k,0<k->k<n->(k-1) / 2=i->leK y (at' xs i) (at' xs k))->Hp y n xs:=fun hh k h0 hk=>by
   by_cases h1:(k-1) / 2=i
   ·rw[h1];exact hh k h0 hk h1
   ·by_cases h2:k=i
    ·subst h2
     rcases hi with h3|h3|h3
     ·omega
     ·omega
     ·exact h3
    ·exact h.all k h0 hk h1 h2
  rw[G7];by_cases hc:2*i+1<n/\n<=xs.length
  ·rw[dif_pos hc];have hk1:=IU7 hn hc.1;have hk2:=IV7 (xs:=xs) (i:=i) (n:=n) hn;have hk3:=Ok7 (xs:=xs) (i:=i) (n:=n) hn;have hbest:=LC7 y n xs i hs hn hc.1;have hjl:(kid xs i n hn)<xs.length:=by omega
   have hil:i<xs.length:=by omega
   cases hb:T5 xs[(kid xs i n hn)] xs[i]
   ·simp only[Bool.false_eq_true,if_false];refine hstop fun k h0 hk hp=>CH7 ?_ (hbest k hk h0 hp)
    rw[w5 hjl,w5 hil];exact Dt7 (hs _ (jW hjl)) hb
   ·simp only[if_true];have hle:leK y (at' xs (kid xs i n hn)) (at' xs i):=by rw[w5 hjl,w5 hil];exact Eg7 (hs _ (jW hjl)) hb
    refine Gp7 y n f _ _ (hs.perm (Ba7 _ _ _ hil hjl)) (by rw[Ah7];exact hn) (by omega) ⟨?_,?_⟩ (.inr (.inr ?_))
    ·intro k h0 hk h1 h2;rw[E5,E5,if_neg h1,if_neg h2];by_cases h3:k=i
     ·rw[if_pos h3,if_neg (by omega)];rw[h3];exact h.kids _ (h3▸h0) hk1 (by omega) hk3
     ·rw[if_neg h3];by_cases h4:(k-1) / 2=i
      ·rw[if_pos h4];exact hbest k hk h0 h4
      ·rw[if_neg h4];exact h.all k h0 hk h4 h3
    ·intro k _ hk h0 hp;rw[E5,E5,hk3,if_neg (by omega),if_pos rfl,if_neg (by omega),if_neg (by omega)];rw[<-hp];exact h.all k h0 hk (by omega) (by omega)
    ·rw[E5,E5,hk3,if_neg (by omega),if_pos rfl,if_pos rfl];exact hle
  ·rw[dif_neg hc];exact hstop fun k h0 hk hp=>by omega
theorem QO7 (y : Bool) (n : Nat) (f : Nat) (xs : List Ord) (i : Nat) (hs : di4 y xs) (hn : n <= xs.length) (hf : n <= f + i) (h : DownI y n xs i) :
    (¬ i < (G7 f xs i n).2 /\ (G7 f xs i n).1 = xs /\ UpI y n xs i) \/ (i < (G7 f xs i n).2 /\ Hp y n (G7 f xs i n).1) := by
  have hstop : (∀ k, 0 < k -> k < n -> (k - 1) / 2 = i -> leK y (at' xs i) (at' xs k)) -> UpI y n xs i := fun hh => ⟨fun k h0 hk hki => by
      by_cases h1 : (k - 1) / 2 = i
      · rw [h1]; exact hh k h0 hk h1
      · exact h.all k h0 hk h1 hki, h.kids⟩
  have hmono : ∀ (f : Nat) (xs : List Ord) (i : Nat), i <= (G7 f xs i n).2 := by
    intro f
    induction f with
    | zero => intro xs i; exact Nat.le_refl _
    | succ f ih =>
      intro xs i;rw [G7];split
      · rename_i hc
        split
        · exact Nat.le_trans (Nat.le_of_lt (IV7 hc.2)) (ih _ _)
        · exact Nat.le_refl _
      · exact Nat.le_refl _
  cases f with
  | zero =>
    left
    exact ⟨Nat.lt_irrefl _, rfl, hstop fun k h0 hk hp => by omega⟩
  | succ f =>
    rw [G7];by_cases hc : 2 * i + 1 < n /\ n <= xs.length
    · rw [dif_pos hc]
      have hk1 := IU7 hn hc.1;have hk2 := IV7 (xs := xs) (i := i) (n := n) hn;have hk3 := Ok7 (xs := xs) (i := i) (n := n) hn;have hbest := LC7 y n xs i hs hn hc.1;have hjl : (kid xs i n hn) < xs.length := by omega
      have hil : i < xs.length := by omega
      cases hb : T5 xs[(kid xs i n hn)] xs[i]
      · simp only [Bool.false_eq_true, if_false]
        left
        refine ⟨Nat.lt_irrefl _, by trivial, hstop fun k h0 hk hp => CH7 ?_ (hbest k hk h0 hp)⟩;rw [w5 hjl, w5 hil];exact Dt7 (hs _ (jW hjl)) hb
      · simp only [if_true]
        have hle : leK y (at' xs (kid xs i n hn)) (at' xs i) := by rw [w5 hjl, w5 hil];exact Eg7 (hs _ (jW hjl)) hb
        right
        refine ⟨Nat.lt_of_lt_of_le hk2 (hmono _ _ _), ?_⟩;refine Gp7 y n f _ _ (hs.perm (Ba7 _ _ _ hil hjl)) (by rw [Ah7]; exact hn) (by omega) ⟨?_, ?_⟩ (.inr (.inr ?_))
        · intro k h0 hk h1 h2
          rw [E5, E5, if_neg h1, if_neg h2];by_cases h3 : k = i
          · rw [if_pos h3, if_neg (by omega)]
            rw [h3];exact h.kids _ (h3 ▸ h0) hk1 (by omega) hk3
          · rw [if_neg h3]
            by_cases h4 : (k - 1) / 2 = i
            · rw [if_pos h4]; exact hbest k hk h0 h4
            · rw [if_neg h4]; exact h.all k h0 hk h4 h3
        · intro k _ hk h0 hp
          rw [E5, E5, hk3, if_neg (by omega), if_pos rfl, if_neg (by omega), if_neg (by omega)];rw [<- hp];exact h.all k h0 hk (by omega) (by omega)
        · rw [E5, E5, hk3, if_neg (by omega), if_pos rfl, if_pos rfl]
          exact hle
    · rw [dif_neg hc]
      left
      exact ⟨Nat.lt_irrefl _, rfl, hstop fun k h0 hk hp => by omega⟩
theorem dI4(xs:List Ord)(n k:Nat)(h:k<n):at' (xs.take n) k=at' xs k:=by unfold at';simp only[List.getD_eq_getElem?_getD,List.getElem?_take,if_pos h]
theorem Hp.take{y:Bool}{n:Nat}{xs:List Ord}(h:Hp y n xs):Hp y n (xs.take n):=fun k h0 hk=>by rw[dI4 _ _ _ hk,dI4 _ _ _ (by omega)];exact h k h0 hk
structure Heap(y:Bool)(xs:List Ord):Prop where
 side:di4 y xs
 hp:Hp y xs.length xs
theorem Heap.nil(y:Bool):Heap y []:=⟨fun _ h=>(by cases h),fun k _ h=>absurd h (Nat.not_lt_zero _)⟩
theorem Heap.top{y:Bool}{x:Ord}{q:List Ord}(h:Heap y (x::q)):∀z∈x::q,leK y x z:=by
 have hk:∀k,k<(x::q).length->leK y x (at' (x::q) k):=by
  intro k
  induction k using Nat.strongRecOn with
  | _ k ih=>
   intro hk;by_cases h0:k=0
   ·subst h0;exact FJ7 _ _
   ·exact CH7 (ih ((k-1) / 2) (by omega) (by omega)) (h.hp k (by omega) hk)
 intro z hz;obtain⟨k,hkl,rfl⟩:=List.mem_iff_getElem.1 hz;have:=hk k hkl;rwa [w5 hkl]at this
theorem Heap.pop{y:Bool}{x:Ord}{q:List Ord}(h:Heap y (x::q)):Heap y (bS4 (x::q)):=by
 have hl:(bS4 (x::q)).length=q.length:=by rw[Cb7];rfl
 refine⟨fun z hz=>h.side z (List.mem_cons_of_mem _ ((Df7 x q).mem_iff.1 hz)),?_⟩;rw[hl];have e:bS4 (x::q)=(bo4 (x::q) q.length rfl).take q.length:=by unfold bS4;rw[dif_pos (by simp)];rfl
 rw[e];refine Hp.take ?_;unfold bo4;have h0:0<(x::q).length:=by simp
 have h1:q.length<(x::q).length:=by simp
 refine Gp7 y q.length _ _ 0 (h.side.perm (Ba7 _ _ _ h0 h1)) (by rw[Ah7];simp) (by omega) ⟨?_,fun k hk=>absurd hk (Nat.lt_irrefl _)⟩ (.inl rfl);intro k hk0 hk h2 _;rw[E5,E5,if_neg (by omega),if_neg h2,if_neg (by omega),if_neg (by omega)];exact h.hp k hk0 (by simp;omega)
theorem Heap.push{y:Bool}{xs:List Ord}{o:Ord}(h:Heap y xs)(ho:o.buy=y):Heap y (ar4 xs o):=by
 have hp:=EZ7 xs o;refine⟨fun z hz=>?_,?_⟩
 ·rcases List.mem_cons.1 (hp.mem_iff.1 hz)with rfl|hz
  ·exact ho
  ·exact h.side z hz
 ·rw[Fv7];unfold ar4;have hap:∀k,k<xs.length->at' (xs++[o]) k=at' xs k:=fun k hk=>by unfold at';rw[List.getD_eq_getElem?_getD,List.getD_eq_getElem?_getD,List.getElem?_append_left hk]
  refine Ko7 y _ _ _ _ ?_ (by simp) (by omega) (Nat.le_refl _) ⟨?_,fun k h0 hk hk0 hp=>by omega⟩
  ·intro z hz
   rcases List.mem_append.1 hz with hz|hz
   ·exact h.side z hz
   ·rw[List.mem_singleton.1 hz];exact ho
  ·intro k h0 hk hkn;rw[hap _ (by omega),hap _ (by omega)];exact h.hp k h0 (by omega)
theorem Heap.rem{y:Bool}{xs:List Ord}{i:Nat}(h:Heap y xs)(hi:i<xs.length):Heap y (cn4 xs i):=by
 have hl:=Gn7 xs i hi;refine⟨fun z hz=>h.side z ((IZ7 xs i hi).mem_iff.1 (List.mem_cons_of_mem _ hz)),?_⟩;rw[hl];unfold cn4;rw[dif_pos hi];obtain⟨n,hn⟩:∃n,xs.length=n+1:=⟨xs.length-1,by omega⟩
 simp only[hn,Nat.add_sub_cancel];refine Hp.take ?_;unfold bC4;split
 ·exact fun k h0 hk=>h.hp k h0 (by omega)
 ·rename_i hin
  have hnl:n<xs.length:=by omega
  have hsd:=h.side.perm (Ba7 xs i n hi hnl)
  have hD:DownI y n (L5 xs i n hi hnl) i:=by
   refine⟨?_,?_⟩
   ·intro k h0 hk h1 h2;rw[E5,E5,if_neg (by omega),if_neg h1,if_neg (by omega),if_neg h2];exact h.hp k h0 (by omega)
   ·intro k h0 hk hk0 hp;rw[E5,E5,if_neg (by omega),if_neg (by omega),if_neg (by omega),if_neg (by omega)];have h1:=h.hp i h0 (by omega);have h2:=h.hp k hk0 (by omega);rw[hp]at h2;exact CH7 h1 h2
  rcases QO7 y n n _ i hsd (by rw[Ah7];omega) (by omega) hD with ⟨h1,h2,h3⟩|⟨h1,h2⟩
  ·rw[if_neg h1,h2];exact Ko7 y n i _ i hsd (by rw[Ah7];omega) (by omega) (Nat.le_refl _) h3
  ·rw[if_pos h1];exact h2
theorem Heap.cnt{y:Bool}{x:Ord}{q:List Ord}(h:Heap y (x::q))(c:Int):Heap y ({ x with cnt:=c }::q):=by
 refine⟨fun z hz=>?_,?_⟩
 ·rcases List.mem_cons.1 hz with rfl|hz
  ·exact h.side x (List.mem_cons_self ..)
  ·exact h.side z (List.mem_cons_of_mem _ hz)
 ·have hk:∀k,ky y (at' ({ x with cnt:=c }::q) k)=ky y (at' (x::q) k)/\(at' ({ x with cnt:=c }::q) k).id=(at' (x::q) k).id:=by
   intro k
   cases k with
   | zero=>exact⟨rfl,rfl⟩
   | succ k=>exact⟨rfl,rfl⟩
  intro k h0 hkl;have:=h.hp k h0 hkl;unfold leK at *;rw[(hk _).1,(hk _).2,(hk k).1,(hk k).2];exact this
section
variable{A B C D E F G H X:HP}{L:List HP}
theorem _root_.Go.Sl.Take.t1:Take (A::X::L) X (A::L):=.tail .head
theorem _root_.Go.Sl.Take.t2:Take (A::B::X::L) X (A::B::L):=.tail .t1
theorem _root_.Go.Sl.Take.t3:Take (A::B::C::X::L) X (A::B::C::L):=.tail .t2
theorem _root_.Go.Sl.Take.t4:Take (A::B::C::D::X::L) X (A::B::C::D::L):=.tail .t3
theorem _root_.Go.Sl.Take.t5:Take (A::B::C::D::E::X::L) X (A::B::C::D::E::L):=.tail .t4
theorem _root_.Go.Sl.Take.t6:Take (A::B::C::D::E::F::X::L) X (A::B::C::D::E::F::L):=.tail .t5
theorem _root_.Go.Sl.Take.t7:Take (A::B::C::D::E::F::G::X::L) X (A::B::C::D::E::F::G::L):=.tail .t6
end
theorem QP7(xs:List Ord)(i:Nat)(hi:i<xs.length)(l:List Value)(T:TypeId)(bb off:Nat)(v:Value)(h63:xs.length<=4294967296)(hl:l[off]? = some v)(W w:World)(L:List HP)
  (hS:St W (blk bb l T::j8 v xs::L) w):
  Calls Tryz.prog 215 #[.iface 273 (.pointer (some ⟨bb,off,none⟩)),.I i] w fun e w'=>∃v',e=.returned (.iface 166 (.agg xs[i].cells.toArray))/\St W (blk bb (l.set off v') T::j8 v' (cn4 xs i)::L) w':=by
 rcases hS.swap.rowOpen with ⟨_,h0,_⟩|⟨g,cap,junk,rfl,hn1,hm1,hj1,hl1,hS1⟩
 ·omega
 ·obtain⟨n,hn⟩:∃n,xs.length=n+1:=⟨xs.length-1,by omega⟩
  have hpt:cn4 xs i=(bC4 xs i n hn (by omega)).take n:=by unfold cn4;rw[dif_pos hi];simp only[hn,Nat.add_sub_cancel]
  have hlast:(bC4 xs i n hn (by omega))[n]? = some xs[i]:=by rw[IY7,jG hi]
  have hrl:=Gn7 xs i hi;rw[hn]at hn1 hl1 hl;refine(Od7 xs _ xs[i] junk l T bb off g i n cap hn (by omega) rfl hlast hn1 hm1 (by omega) hl W w L hS1.swap).mono ?_;rintro e w' ⟨rfl,hS⟩;refine⟨.S g n cap,rfl,?_⟩;unfold j8;rw[hrl,hn,hpt];have e:(bC4 xs i n hn (by omega)).flatMap Ord.cells++junk=((bC4 xs i n hn (by omega)).take n).flatMap Ord.cells++(((bC4 xs i n hn (by omega)).drop n).flatMap Ord.cells++junk):=by rw[<-jS,<-List.flatMap_append,List.take_append_drop]
  rw[e]at hS;refine(St.rowShut hS.swap (by omega) hm1 ?_ ?_).swap
  ·rw[<-e,jA,Ab7 Ord.len,BZ7];rw[jA,Ab7 Ord.len,hn]at hj1;exact hj1
  ·rw[Ab7 Ord.len,jT,BZ7];simp
theorem Gq7{ps:List (List Ord)}{id:Int}{k:Nat}{ks:List Nat}(h:bT4 id (ps.getD k [])<0):aB4 ps id (k::ks)=aB4 ps id ks:=by
 rw[aB4];unfold bT4 at h;split
 ·rename_i i hi;rw[hi]at h;simp at h;omega
 ·rfl
theorem Gr7{ps:List (List Ord)}{id:Int}{k:Nat}{ks:List Nat}{i:Nat}(h:bT4 id (ps.getD k [])=i):aB4 ps id (k::ks)=some (k,i)/\i<(ps.getD k []).length/\((ps.getD k []).getD i o0).id=id:=by
 rw[aB4];unfold bT4 at h;split
 ·rename_i j hj
  rw[hj]at h;simp only at h;obtain rfl:j=i:=by omega
  obtain⟨h1,h2,_⟩:=List.findIdx?_eq_some_iff_getElem.1 hj;refine⟨rfl,h1,?_⟩;rw[List.getD_eq_getElem?_getD,jG h1];simpa using h2
 ·rename_i hj;rw[hj]at h;simp only at h;omega
def fH4(W:World)(L:List HP)(bb:Nat)(b:Bk)(id:Int)(v15:Value)(w:World):Prop:=
 ∃k:Nat,v15=.I k/\k<=8/\aB4 b.ps id bR4=aB4 b.ps id (bR4.drop k)/\St W (D9 bb b::L) w
theorem LD7(bb:Nat)(junk:List Value)(k:Nat)(h:k<8):∃o,o<8/\bR4.drop k=o::bR4.drop (k+1)/\(cW4 bb++junk)[k]? = some (.pointer (some ⟨bb,o,none⟩)):=by
 obtain h|h|h|h|h|h|h|h:k=0\/k=1\/k=2\/k=3\/k=4\/k=5\/k=6\/k=7:=by omega
 all_goals subst h
 all_goals exact⟨_,by decide,rfl,rfl⟩
theorem LE7(b:Bk)(o:Nat)(h:o<8)(hb:b.len<=32):(b.ps.getD o []).length<=32:=Nat.le_trans (Fa7 b o h) hb
theorem Kp7(bb:Nat)(b1:Bk)(id:Int)(hok:b1.len<=32)(W w:World)(L:List HP)(hS:St W (D9 bb b1::L) w):
  Calls Tryz.prog 174 #[.P bb,.I id] w fun e w'=>e=.returned (.tuple #[.agg (ac4 b1 id).o.cells.toArray,.I (ac4 b1 id).errno])/\St W (D9 bb (ac4 b1 id).book::L) w':=by
 have hmf:∀(fn:Fn) (first cap:Array Value) (w:World),(Instr.makeFunc fn first cap).run Tryz.prog w=.ok (.func fn first cap) w:=fun _ _ _ _=>rfl
 have hta:=SB7;go_enter Tryz.func174,Tryz.ntmps174;go_wp2_with(first|(go_at_call 207;refine(EY7 bb W _ _ hS).mono ?_;clear hS;rintro e w ⟨v,rfl,hS⟩;rcases hS.rowOpen with ⟨_,h0,_⟩|⟨g,cap,junk,rfl,hn1,hm1,hj1,hl1,hS'⟩;exfalso;omega;clear hS;have hS:=hS';clear hS';unfold maxLen at hm1)|(with_reducible apply AH7 hS);rfl;rfl;rfl;rfl;clear hS;intro bB w hS;refine frS ?_|refine zl1 hS ?_|refine zlN hS ?_|refine zs1 hS ?_;clear hS;intro w hS|refine zsN hS ?_;clear hS;intro w hS|refine zbx hS ?_;clear hS;intro b w hS|refine zal hS ?_;clear hS;intro b w hS);have hS1:=((hS.perm (List.perm_middle (l₁:=[_,_,_]))).take .t3).swap;clear hS;have hS:=hS1;clear hS1
 go_loopw [15] (fun v wr=>fH4 W (blk bB [.I id] 3::blk g (cW4 bb++junk) 273::blk b [.I 0,.string ⟨#[]⟩,.bool false,.I 0,.I 0,.I 0] 166::L) bb b1 id v wr) (fun v _=>8-(intOf v).toNat)
 case atStart=>exact⟨0,rfl,by omega,rfl,hS⟩
 case round=>
  clear hS;obtain⟨k,rfl,hk,hf,hS⟩:=hrel;by_cases h8:k=8
  ·subst h8;have e1:ac4 b1 id=⟨o0,7,b1⟩:=by unfold ac4;rw[hf];rfl
   have E1:=jH e1;clear hf e1;go_wp2_with(first|refine zl1 hS ?_|refine zlN hS ?_|refine zs1 hS ?_;clear hS;intro w hS|refine zsN hS ?_;clear hS;intro w hS|refine zbx hS ?_;clear hS;intro b w hS|refine zal hS ?_;clear hS;intro b w hS);apply Ac7;rfl;rfl;rfl;rfl;exact hS;decide +kernel;(exact x9);kernel_rfl;rw[E1.out];exact⟨rfl,hS.swap.drop.swap.drop.swap.drop⟩
  ·have hk8:k<8:=by omega
   clear h8 hk;obtain⟨o,ho,hdr,hpt⟩:=LD7 bb junk k hk8;rw[hdr]at hf;obtain⟨vs,h1,h2,hS0⟩:=aq4 hS;clear hS;have ho1:o<vs.length:=by omega
   have ho2:o<b1.ps.length:=by omega
   have hpk:b1.ps[o]=b1.pile o:=by unfold Bk.pile;simp[List.getD_eq_getElem?_getD,jG ho2]
   have hS1:=bx4 o ho1 ho2 hS0.swap;clear hS0;rw[hpk]at hS1;have hl:(vs++[Value.int .i64 b1.last])[o]? = some vs[o]:=by rw[List.getElem?_append_left ho1,jG ho1]
   generalize hvv:vs[o]=v at hl hS1;have hp32:=LE7 b1 o ho hok;have hgd:b1.ps.getD o []=b1.pile o:=rfl;rw[hgd]at hp32;have Hvv:=jH hvv;clear hvv;have hS:=hS1.take .t3;clear hS1
   cases hfi:(b1.pile o).findIdx? (fun x=>x.id==id)with
   | none=>
    have hx:bT4 id (b1.pile o) = -1:=by unfold bT4;rw[hfi]
    rw[Gq7 (by rw[hgd,hx];omega)]at hf;have Hf:=jH hf;clear hf hfi hdr;go_wp2_with(first|refine zl1 hS ?_ (hc:=by exact i9.there (i9.there (i9.there (i9.there (i9.here hpt)))))|refine zl1 hS ?_ (hc:=by exact i9.there (i9.there (i9.there (i9.here hl))))|go_at_call 213;refine(Go7 (b1.pile o) v bB id (by omega) W _ _ hS).mono ?_;clear hS;rw[hx];rintro e w ⟨rfl,hS⟩);have hS3:=(hS.take .t2).take .t2;clear hS;have hS4:=by4 o ho1 ho2 hS3;clear hS3;rw[<-Hvv.out,<-hpk,List.set_getElem_self,List.set_getElem_self]at hS4;have hS5:=R7 h1 h2 (hS4.take .t2);clear hS4;go_roundw
    case rel=>exact⟨k+1,rfl,hk8,Hf.out,hS5⟩
    case measure=>simp[intOf];omega
   | some i=>
    have hx:bT4 id (b1.pile o)=i:=by unfold bT4;rw[hfi]
    obtain⟨hf1,hil,_⟩:=Gr7 (ks:=bR4.drop (k+1)) (hgd.symm▸hx);rw[hgd]at hil;rw[hf1]at hf;have e1:ac4 b1 id=⟨(b1.pile o)[i],0,⟨b1.ps.set o (cn4 (b1.pile o) i),b1.last⟩⟩:=by unfold ac4;rw[hf];simp[List.getD_eq_getElem?_getD,jG hil]
    have E1:=jH e1;clear e1 hf hf1 hfi hdr;generalize hxx:(b1.pile o)[i]=x at E1;have Hxx:=jH hxx;clear hxx;obtain⟨xi,xu,xy,xt,xc,xp⟩:=x;go_wp2_with(first|refine zl1 hS ?_ (hc:=by exact i9.there (i9.there (i9.there (i9.there (i9.here hpt)))))|refine zl1 hS ?_ (hc:=by exact i9.there (i9.there (i9.there (i9.here hl))))|go_at_call 213;refine(Go7 (b1.pile o) v bB id (by omega) W _ _ hS).mono ?_;clear hS;rw[hx];rintro e w ⟨rfl,hS⟩|go_at_call 215;refine(QP7 (b1.pile o) i hil _ _ bb o v (by omega) hl W _ _ (((hS.take .t3).take .t2).swap)).mono ?_;clear hS;rw[Hxx.out];simp only[Ord.cells];rintro e w ⟨v',rfl,hS⟩|refine zl1 hS ?_|refine zlN hS ?_|refine zs1 hS ?_;clear hS;intro w hS|refine zsN hS ?_;clear hS;intro w hS|refine zbx hS ?_;clear hS;intro b w hS|refine zal hS ?_;clear hS;intro b w hS);apply Ac7;rfl;rfl;rfl;rfl;exact hS;decide +kernel;(exact x9);kernel_rfl;rw[E1.out];refine⟨rfl,?_⟩;have hS3:=(hS.take .t3).take .t2;rw[List.set_append_left _ _ ho1]at hS3;have hS4:=R7 (vs:=vs.set o v') (b:=⟨b1.ps.set o (cn4 (b1.pile o) i),b1.last⟩) (by simpa using h1) (by simpa using h2) (by4 o ho1 ho2 hS3).swap;exact hS4.swap.drop.swap.drop.swap.drop
end Go.Proofs.YtlmhakmoioogaaaGreat
end
section
namespace Go.Proofs.YtlmhakmoioogaaaGreat
open Go.Shelf
def Tryz.sortOrd_ren:Go.Shelf.Ren:=⟨fun|6=>211|15=>177|14=>250|28=>224|29=>225|20=>264|21=>265|22=>266|23=>267|24=>268|25=>269|26=>270|27=>271|46=>275|47=>252|48=>253|49=>276|50=>277|57=>278|n=>n,fun|22=>185|24=>166|25=>284|3=>3|39=>195|0=>0|53=>295|55=>194|4=>4|46=>289|45=>288|50=>134|5=>5|9=>9|66=>318|70=>262|76=>332|77=>181|n=>n,fun|n=>n⟩
theorem Tryz.sortOrd:Go.Proofs.SlLaysF0.n6 Tryz.prog Tryz.sortOrd_ren:={
 mixed:=by kernel_rfl
 f6:=⟨Tryz.f211.name,by decide,Tryz.func211.trans (congrArg some (by kernel_rfl))⟩
 f14:=⟨Tryz.f250.name,by decide,Tryz.func250.trans (congrArg some (by kernel_rfl))⟩
 f15:=Tryz.func177.trans (congrArg some (by kernel_rfl))
 f20:=⟨Tryz.f264.name,by decide,Tryz.func264.trans (congrArg some (by kernel_rfl))⟩
 f21:=⟨Tryz.f265.name,by decide,Tryz.func265.trans (congrArg some (by kernel_rfl))⟩
 f22:=⟨Tryz.f266.name,by decide,Tryz.func266.trans (congrArg some (by kernel_rfl))⟩
 f23:=⟨Tryz.f267.name,by decide,Tryz.func267.trans (congrArg some (by kernel_rfl))⟩
 f24:=⟨Tryz.f268.name,by decide,Tryz.func268.trans (congrArg some (by kernel_rfl))⟩
 f25:=⟨Tryz.f269.name,by decide,Tryz.func269.trans (congrArg some (by kernel_rfl))⟩
 f26:=⟨Tryz.f270.name,by decide,Tryz.func270.trans (congrArg some (by kernel_rfl))⟩
 f27:=⟨Tryz.f271.name,by decide,Tryz.func271.trans (congrArg some (by kernel_rfl))⟩
 f28:=Tryz.func224.trans (congrArg some (by kernel_rfl))
 f29:=Tryz.func225.trans (congrArg some (by kernel_rfl))
 f46:=⟨Tryz.f275.name,by decide,Tryz.func275.trans (congrArg some (by kernel_rfl))⟩
 f47:=Tryz.func252.trans (congrArg some (by kernel_rfl))
 f48:=Tryz.func253.trans (congrArg some (by kernel_rfl))
 f49:=⟨Tryz.f276.name,by decide,Tryz.func276.trans (congrArg some (by kernel_rfl))⟩
 f50:=⟨Tryz.f277.name,by decide,Tryz.func277.trans (congrArg some (by kernel_rfl))⟩
 f57:=⟨Tryz.f278.name,by decide,Tryz.func278.trans (congrArg some (by kernel_rfl))⟩
 t0:=Tryz.underlying0
 a0:=Tryz.isAgg0
 z0:=Tryz.sizeOf0
 v0:=Tryz.zeroValue0
 t3:=Tryz.underlying3
 a3:=Tryz.isAgg3
 z3:=Tryz.sizeOf3
 v3:=Tryz.zeroValue3
 t4:=Tryz.underlying4
 a4:=Tryz.isAgg4
 z4:=Tryz.sizeOf4
 v4:=Tryz.zeroValue4
 t5:=Tryz.underlying5
 a5:=Tryz.isAgg5
 z5:=Tryz.sizeOf5
 v5:=Tryz.zeroValue5
 t9:=Tryz.underlying9
 a9:=Tryz.isAgg9
 z9:=Tryz.sizeOf9
 v9:=Tryz.zeroValue9
 t22:=Tryz.underlying185
 a22:=Tryz.isAgg185
 z22:=Tryz.sizeOf185
 v22:=Tryz.zeroValue185
 t25:=Tryz.underlying284
 a25:=Tryz.isAgg284
 z25:=Tryz.sizeOf284
 v25:=Tryz.zeroValue284
 t39:=Tryz.underlying195
 a39:=Tryz.isAgg195
 z39:=Tryz.sizeOf195
 v39:=Tryz.zeroValue195
 t45:=Tryz.underlying288
 a45:=Tryz.isAgg288
 z45:=Tryz.sizeOf288
 v45:=Tryz.zeroValue288
 t46:=Tryz.underlying289
 a46:=Tryz.isAgg289
 z46:=Tryz.sizeOf289
 v46:=Tryz.zeroValue289
 t50:=Tryz.underlying134
 a50:=Tryz.isAgg134
 z50:=Tryz.sizeOf134
 v50:=Tryz.zeroValue134
 t53:=Tryz.underlying295
 a53:=Tryz.isAgg295
 z53:=Tryz.sizeOf295
 v53:=Tryz.zeroValue295
 t55:=Tryz.underlying194
 a55:=Tryz.isAgg194
 z55:=Tryz.sizeOf194
 v55:=Tryz.zeroValue194
 t66:=Tryz.underlying318
 a66:=Tryz.isAgg318
 z66:=Tryz.sizeOf318
 v66:=Tryz.zeroValue318
 t70:=Tryz.underlying262
 a70:=Tryz.isAgg262
 z70:=Tryz.sizeOf262
 v70:=Tryz.zeroValue262
 t76:=Tryz.underlying332
 a76:=Tryz.isAgg332
 z76:=Tryz.sizeOf332
 v76:=Tryz.zeroValue332
 t77:=Tryz.underlying181
 a77:=Tryz.isAgg181
 z77:=Tryz.sizeOf181
 v77:=Tryz.zeroValue181 }
def Tryz.cmpInt_ren:Go.Shelf.Ren:=⟨fun|5=>112|7=>178|n=>n,fun|22=>3|3=>3|4=>4|n=>n,fun|n=>n⟩
theorem Tryz.cmpInt:Go.Proofs.SlLaysC2.n5 Tryz.prog Tryz.cmpInt_ren:={
 mixed:=by kernel_rfl
 f5:=⟨Tryz.f112.name,by decide,Tryz.func112.trans (congrArg some (by kernel_rfl))⟩
 f7:=⟨Tryz.f178.name,by decide,Tryz.func178.trans (congrArg some (by kernel_rfl))⟩
 t3:=Tryz.underlying3
 a3:=Tryz.isAgg3
 z3:=Tryz.sizeOf3
 v3:=Tryz.zeroValue3
 t4:=Tryz.underlying4
 a4:=Tryz.isAgg4
 z4:=Tryz.sizeOf4
 v4:=Tryz.zeroValue4
 t22:=Tryz.underlying3
 a22:=Tryz.isAgg3
 z22:=Tryz.sizeOf3
 v22:=Tryz.zeroValue3 }
def Tryz.bitsLen_ren:Go.Shelf.Ren:=⟨fun|125=>177|128=>224|129=>225|n=>n,fun|46=>195|3=>3|51=>295|53=>194|4=>4|5=>5|9=>9|n=>n,fun|n=>n⟩
theorem Tryz.bitsLen:Go.Proofs.Lays.n125 Tryz.prog Tryz.bitsLen_ren:={
 mixed:=by kernel_rfl
 f125:=Tryz.func177.trans (congrArg some (by kernel_rfl))
 f128:=Tryz.func224.trans (congrArg some (by kernel_rfl))
 f129:=Tryz.func225.trans (congrArg some (by kernel_rfl))
 t3:=Tryz.underlying3
 a3:=Tryz.isAgg3
 z3:=Tryz.sizeOf3
 v3:=Tryz.zeroValue3
 t4:=Tryz.underlying4
 a4:=Tryz.isAgg4
 z4:=Tryz.sizeOf4
 v4:=Tryz.zeroValue4
 t5:=Tryz.underlying5
 a5:=Tryz.isAgg5
 z5:=Tryz.sizeOf5
 v5:=Tryz.zeroValue5
 t9:=Tryz.underlying9
 a9:=Tryz.isAgg9
 z9:=Tryz.sizeOf9
 v9:=Tryz.zeroValue9
 t46:=Tryz.underlying195
 a46:=Tryz.isAgg195
 z46:=Tryz.sizeOf195
 v46:=Tryz.zeroValue195
 t51:=Tryz.underlying295
 a51:=Tryz.isAgg295
 z51:=Tryz.sizeOf295
 v51:=Tryz.zeroValue295
 t53:=Tryz.underlying194
 a53:=Tryz.isAgg194
 z53:=Tryz.sizeOf194
 v53:=Tryz.zeroValue194 }
end Go.Proofs.YtlmhakmoioogaaaGreat
end
