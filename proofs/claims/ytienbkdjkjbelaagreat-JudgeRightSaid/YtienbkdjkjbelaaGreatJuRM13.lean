/-
  Place.
-/
import Derived.Test.YtienbkdjkjbelaaGreatJuRM5
import Derived.Test.YtienbkdjkjbelaaGreatJuRM12
import Derived.OwnWalk
set_option maxHeartbeats 16000000
set_option maxRecDepth 100000
set_option linter.unusedSimpArgs false
set_option linter.unusedVariables false
section
namespace Go.Proofs.YtienbkdjkjbelaaGreat
open Go.RowKit Go.Sl
structure BkOk(b:Bk):Prop where
 n8:b.ps.length=8
 few:b.len<=32
 cnts:∀p∈b.ps, ∀x∈p,1<=x.cnt/\x.cnt<=1048576
 last0:0<=b.last
 last1:b.last<=1099511627776
abbrev tB12a:List Nat:=[0,1,3,7,15,31,63,127,255,511,255,1279,3327,7423,16383,32767,65535]
theorem JM7(bb:Nat)(bk:Bk)(o:Ord)(hok:BkOk bk)(hb:H5 o=false)(W w:World)(L:List HP)
  (hS:St W (s9 bb bk::L) w):
  Calls Tryz.prog 150 #[.P bb,.agg o.cells.toArray] w fun e w'=>e=.returned (.tuple #[.slice none 0 0,.I 0,.I 1])/\St W (s9 bb bk::L) w':=by
 obtain⟨i,u,y,t,c,p⟩:=o;simp only[Ord.cells];go_enter Tryz.func150,Tryz.ntmps150;go_wp2_with(first|refine zbx hS ?_;clear hS;intro b w hS);refine rf3 tB12a (fun _=>false) (fun i=>if i==4 then some (.bool false)else none) [] [none] hS ?_;intro nd
 iterate 3 (refine cR ?_)
 (refine zcN ?_);refine zcv ?_ (hs:=by(intro F w hS;(try clear hS0);exact hb▸CS7 ⟨i,u,y,t,c,p⟩ W w _ hS))
 iterate 3 (refine cR ?_)
 iterate 7 (refine Bg7 (by kernel_rfl) rfl ?_;refine frS ?_)
 iterate 2 (refine cR ?_)
 refine Ad7 ?_;clear hS;intro w hS;have hS:St W [blk _ _ _,sats (s9 bb _::L)] w:=hS;replace hS:=hS.unpack [_];simp only[jK,jN]at hS;go_wp2_with(fail);go_ret3;exact⟨rfl,hS.drop⟩
theorem JN7(bb:Nat)(bk:Bk)(o:Ord)(hok:BkOk bk)(hb:H5 o=true)(hle:o.id<=bk.last)(W w:World)(L:List HP)
  (hS:St W (s9 bb bk::L) w):
  Calls Tryz.prog 150 #[.P bb,.agg o.cells.toArray] w fun e w'=>e=.returned (.tuple #[.slice none 0 0,.I 0,.I 1])/\St W (s9 bb bk::L) w':=by
 obtain⟨i,u,y,t,c,p⟩:=o;simp only[Ord.cells];obtain⟨vs,h1,h2,hS0⟩:=N6 hS;clear hS;have hS:=hS0;clear hS0;have hla:(vs++[.I bk.last])[8]? = some (.I bk.last):=by rw[List.getElem?_append_right (by omega),h1];rfl
 have hle':i<=bk.last:=hle;clear hle;go_enter Tryz.func150,Tryz.ntmps150;go_wp2_with(first|refine zbx hS ?_;clear hS;intro b w hS);refine rf3 tB12a (fun _=>false) (fun i=>if i==4 then some (.bool true)else none) [] [none,none] hS ?_;intro nd
 iterate 3 (refine cR ?_)
 (refine zcN ?_);refine zcv ?_ (hs:=by(intro F w hS;(try clear hS0);exact hb▸CS7 ⟨i,u,y,t,c,p⟩ W w _ hS))
 iterate 4 (refine cR ?_)
 (refine zc1 ?_);refine cR ?_;refine zcn ?_;refine cR ?_;refine zc1 ?_ (hc:=by(intro F;exact i6.there (i6.here hla)))
 iterate 3 (refine cR ?_)
 refine Ad7 ?_;clear hS;intro w hS;have hS:St W [blk _ _ _,blk bb _ _,sats (sats (A5 vs bk.ps)::L)] w:=hS;replace hS:=hS.unpack [_,_];simp only[jK,jN]at hS;go_wp2_with(fail);go_ret3;exact⟨rfl,I6 h1 h2 hS.drop⟩
theorem IN7(bb:Nat)(bk:Bk)(o:Ord)(hok:BkOk bk)(hb:H5 o=true)(hgt:bk.last<o.id)(hfull:32<=bk.len)(W w:World)(L:List HP)
  (hS:St W (s9 bb bk::L) w):
  Calls Tryz.prog 150 #[.P bb,.agg o.cells.toArray] w fun e w'=>e=.returned (.tuple #[.slice none 0 0,.I 0,.I 6])/\St W (s9 bb bk::L) w':=by
 obtain⟨i,u,y,t,c,p⟩:=o;simp only[Ord.cells];have hgt':¬i<=bk.last:=Int.not_le.2 hgt;clear hgt;have hlen:=hok.few;have h32:(32:Int)<=(bk.len:Int):=by omega
 obtain⟨vs,h1,h2,hS0⟩:=N6 hS;clear hS;have hS:=hS0;clear hS0;have hla:(vs++[.I bk.last])[8]? = some (.I bk.last):=by rw[List.getElem?_append_right (by omega),h1];rfl
 go_enter Tryz.func150,Tryz.ntmps150;go_wp2_with(first|refine zbx hS ?_;clear hS;intro b w hS);refine rf3 tB12a (fun _=>false) (fun i=>if i==4 then some (.bool true)else none) [] [none,none] hS ?_;intro nd
 iterate 3 (refine cR ?_)
 (refine zcN ?_);refine zcv ?_ (hs:=by(intro F w hS;(try clear hS0);exact hb▸CS7 ⟨i,u,y,t,c,p⟩ W w _ hS))
 iterate 4 (refine cR ?_)
 (refine zc1 ?_);refine cR ?_;refine zcn ?_;refine cR ?_;refine zc1 ?_ (hc:=by(intro F;exact i6.there (i6.here hla)))
 iterate 3 (refine cR ?_)
 refine Ad7 ?_;clear hS;intro w hS;have hS2:St W [blk _ _ _,blk bb _ _,sats (sats (A5 vs bk.ps)::L)] w:=hS;clear hS;have hS:=hS2.unpack [_,_];clear hS2;simp only[jK,jN]at hS;replace hS:=I6 h1 h2 (hS.perm ((List.Perm.swap _ _ _).trans ((List.Perm.swap _ _ _).cons _)));clear hla h1 h2;go_wp2_with(first|go_at_call 149;refine(Fz7 bb bk (by omega) W _ _ hS).mono ?_;clear hS;rintro e w ⟨rfl,hS⟩);go_ret3;exact⟨rfl,hS.swap.drop⟩
theorem Dz7(b:Bk)(k:Nat)(hk:k<8):(b.pile k).length<=b.len:=by
 unfold Bk.len Bk.pile;obtain h|h|h|h|h|h|h|h:k=0\/k=1\/k=2\/k=3\/k=4\/k=5\/k=6\/k=7:=by omega
 all_goals subst h
 ·exact Nat.le_trans (Nat.le_add_left _ (s6 b.ps 0)) (Ao7 b.ps (k:=1) (by omega))
 ·exact Nat.le_trans (Nat.le_add_left _ (s6 b.ps 2)) (Ao7 b.ps (k:=3) (by omega))
 ·exact Nat.le_trans (Nat.le_add_left _ (s6 b.ps 4)) (Ao7 b.ps (k:=5) (by omega))
 ·exact Nat.le_trans (Nat.le_add_left _ (s6 b.ps 6)) (Ao7 b.ps (k:=7) (by omega))
 ·exact Nat.le_trans (Nat.le_add_left _ (s6 b.ps 1)) (Ao7 b.ps (k:=2) (by omega))
 ·exact Nat.le_trans (Nat.le_add_left _ (s6 b.ps 3)) (Ao7 b.ps (k:=4) (by omega))
 ·exact Nat.le_trans (Nat.le_add_left _ (s6 b.ps 5)) (Ao7 b.ps (k:=6) (by omega))
 ·exact Nat.le_trans (Nat.le_add_left _ (s6 b.ps 7)) (Ao7 b.ps (k:=8) (by omega))
theorem Co7(bb:Nat)(b:Bk)(k:Nat)(hk:k<8)(o:Ord)(h63:(b.pile k).length<=4294967296)(W w:World)(L:List HP)
  (hS:St W (s9 bb b::L) w):
  Calls Tryz.prog 190 #[.iface 253 (.pointer (some ⟨bb,k,none⟩)),.iface 173 (.agg o.cells.toArray)] w fun e w'=>e=.returned (.tuple #[])/\St W (s9 bb ⟨b.ps.set k (N7 (b.pile k) o),b.last⟩::L) w':=by
 obtain⟨vs,h1,h2,hS⟩:=N6 hS;have hk1:k<vs.length:=by omega
 have hk2:k<b.ps.length:=by omega
 have hpk:b.ps[k]=b.pile k:=by unfold Bk.pile;simp[List.getD_eq_getElem?_getD,jG hk2]
 have hS:=ay4 k hk1 hk2 hS.swap;rw[hpk]at hS;have hl:(vs++[Value.int .i64 b.last])[k]? = some vs[k]:=by rw[List.getElem?_append_left hk1,jG hk1]
 refine(JJ7 (b.pile k) o _ _ bb k _ h63 hl W w _ (hS.perm (List.perm_middle (l₁:=[_,_])))).mono ?_;rintro e w' ⟨v',rfl,hS⟩;refine⟨rfl,?_⟩;refine I6 (vs:=vs.set k v') (by simpa using h1) (by simpa using h2) ?_;rw[List.set_append_left _ _ hk1]at hS;exact(az4 k hk1 hk2 (hS.perm (List.perm_middle (l₁:=[_,_]) (a:=_) (l₂:=L)).symm)).swap
theorem bD4{W w:World}{L:List HP}{X Y:HP}{bb k:Nat}{vs:List Value}{ps:List (List Ord)}{v:Value}{q:List Ord}{id:Int}(h1:vs.length=8)(h2:ps.length=8)(hk:k<8)
  (h:St W (X::Y::blk bb (vs.set k v++[.I id]) 279::j6 v q::sats ((A5 vs ps).eraseIdx k)::L) w):St W (s9 bb ⟨ps.set k q,id⟩::X::Y::L) w:=by
 have a1:=(h.perm (List.perm_middle (l₁:=[_,_,_,_]))).perm (List.perm_middle (l₁:=[_,_,_,_]));have a2:=az4 k (by omega) (by omega) a1;have a3:=a2.perm (List.perm_middle (l₁:=[_,_,_]));exact I6 (by simpa using h1) (by simpa using h2) a3
theorem If7(it:Nat)(y:Bool)(h:it<4):l8 it (!y)≠l8 it y:=by unfold l8;cases y <;> simp <;> omega
theorem AR7(it:Nat)(y:Bool)(h:it<4):l8 it y<8:=by unfold l8;cases y <;> simp <;> omega
def eo4(W:World)(L:List HP)(ob bb:Nat)(vs:List Value)(id:Int)(rest:HP)(k:Nat)(i:Int)(u:ByteArray)(y:Bool)(t p:Int)(r:Ord×List Ord×List Trd)(f:Nat)(v7:Value)(w:World):Prop:=
 ∃(c:Int) (q:List Ord) (l:List Trd) (v:Value),H7 f ⟨i,u,y,t,c,p⟩ q l=r/\(q.length<f\/(c=0/\0<f))/\q.length<=32/\l.length+f<=40/\(∀x∈q,1<=x.cnt/\x.cnt<=1048576)/\0<=c/\c<=1048576 /\
  St W (blk ob [.I i,.string u,.bool y,.I t,.I c,.I p] 173::row v7 8 243 l.length (l.flatMap Trd.cells)::blk bb (vs.set k v++[.I id]) 279::j6 v q::rest::L) w
abbrev tB12b:List Nat:=[0,1,3,7,15,31,63,127,255,511,1023,2047,2047,6143,14335,30719,63487,131071,262143]
abbrev tB12c:List Nat:=[0,0,2,0,8,31,63,0,128,511]
theorem LJ7(bb:Nat)(bk:Bk)(o:Ord)(hok:BkOk bk)(hb:H5 o=true)(hgt:bk.last<o.id)(hfew:¬32<=bk.len)(W w:World)(L:List HP)
  (hS:St W (s9 bb bk::L) w):
  Calls Tryz.prog 150 #[.P bb,.agg o.cells.toArray] w fun e w'=>∃v,e=.returned (.tuple #[v,.I (B9 bk o).left,.I 0]) /\
   St W (s9 bb (B9 bk o).book::row v 8 243 (B9 bk o).trades.length ((B9 bk o).trades.flatMap Trd.cells)::L) w':=by
 obtain⟨i,u,y,t,c,p⟩:=o;have hmay:=Aq7.1 hb;obtain⟨it,rfl⟩:∃it:Nat,t=it:=⟨t.toNat,by have:=hmay.item0;simp only at this;omega⟩
 have hit:it<4:=by have:=hmay.item1;simp only at this;omega
 have hit1:aA4 ⟨i,u,y,it,c,p⟩=it:=by simp[aA4]
 have hc0:1<=c:=hmay.cnt0;have hc1:c<=1048576:=hmay.cnt1;have hi0:1<=i:=hmay.id0;have hi1:i<=1099511627776:=hmay.id1;unfold B9;rw[if_neg (by rintro(h|h);(rw[hb]at h;cases h);exact absurd hgt (by simpa using h)),if_neg hfew,hit1];dsimp only;simp only[Ord.cells];have hgt':¬i<=bk.last:=Int.not_le.2 hgt;clear hgt hmay;have hlen:=hok.few;have h32:¬(32:Int)<=(bk.len:Int):=by omega
 generalize hr:H7 ((bk.pile (l8 it (!y))).length+1) ⟨i,u,y,it,c,p⟩ (bk.pile (l8 it (!y))) []=r;generalize hB:(if 0<r.1.cnt then(bk.ps.set (l8 it (!y)) r.2.1).set (l8 it y) (N7 ((bk.ps.set (l8 it (!y)) r.2.1).getD (l8 it y) []) r.1)else bk.ps.set (l8 it (!y)) r.2.1)=ps2;have HB:=jH hB;clear hB;have Hr:=jH hr;clear hr;have Hfew:=jH hfew;clear hfew;obtain⟨vs,h1,h2,hS0⟩:=N6 hS;clear hS;have hS:=hS0;clear hS0;have hla:(vs++[.I bk.last])[8]? = some (.I bk.last):=by rw[List.getElem?_append_right (by omega),h1];rfl
 go_enter Tryz.func150,Tryz.ntmps150;go_wp2_with(first|refine zbx hS ?_;clear hS;intro b w hS);refine rf3 tB12a (fun _=>false) (fun i=>if i==4 then some (.bool true)else none) [] [none,none] hS ?_;intro nd
 iterate 3 (refine cR ?_)
 (refine zcN ?_);refine zcv ?_ (hs:=by(intro F w hS;(try clear hS0);exact hb▸CS7 ⟨i,u,y,(it:Int),c,p⟩ W w _ hS))
 iterate 4 (refine cR ?_)
 (refine zc1 ?_);refine cR ?_;refine zcn ?_;refine cR ?_;refine zc1 ?_ (hc:=by(intro F;exact i6.there (i6.here hla)))
 iterate 3 (refine cR ?_)
 refine Ad7 ?_;clear hS;intro w hS;have hS2:St W [blk _ _ _,blk bb _ _,sats (sats (A5 vs bk.ps)::L)] w:=hS;clear hS;have hS:=hS2.unpack [_,_];clear hS2;simp only[jK,jN]at hS;replace hS:=I6 h1 h2 (hS.perm ((List.Perm.swap _ _ _).trans ((List.Perm.swap _ _ _).cons _)));clear hla h1 h2;go_wp2_with(first|go_at_call 149;refine(Fz7 bb bk (by omega) W _ _ hS).mono ?_;clear hS;rintro e w ⟨rfl,hS⟩;have hS':=N6 hS;clear hS;obtain⟨vs,h1,h2,hS⟩:=hS'|((with_reducible apply EX7 hS);rfl;rfl;rfl;(focus((conv=>lhs;whnf);try rfl));kernel_rfl;rfl;rfl;exact cy4;simp[h1];rfl;clear hS;intro w hS;try(refine frS ?_))|go_at_call 188;refine(BQ7 bb it hit (!y) W _ _ hS).mono ?_;clear hS;rintro e w ⟨rfl,hS⟩|refine zl1 hS ?_);have hset:(vs++[Value.int .i64 bk.last]).set 8 (.I i)=vs++[.I i]:=by rw[List.set_append_right _ _ (by omega),h1];rfl
 rw[hset]at hS;clear hset;have hk:l8 it (!y)<8:=by unfold l8;cases y <;> simp <;> omega
 generalize hkk:l8 it (!y)=k at *;have Hkk:=jH hkk;clear hkk;have hk1:k<vs.length:=by omega
 have hk2:k<bk.ps.length:=by omega
 have hpk:bk.ps[k]=bk.pile k:=by unfold Bk.pile;simp[List.getD_eq_getElem?_getD,jG hk2]
 have hS1:=ay4 k hk1 hk2 hS.swap;clear hS;rw[hpk]at hS1;have hS2:=((hS1.perm (List.perm_middle (l₁:=[_,_]))).rowNil (k:=8) (T:=243)).perm (List.perm_middle (l₁:=[_,_,_,_]));clear hS1;have hS:=hS2;clear hS2;have hp32:(bk.pile k).length<=32:=Nat.le_trans (Dz7 bk k hk) hlen;have hcn:∀x∈bk.pile k,1<=x.cnt/\x.cnt<=1048576:=fun x hx=>hok.cnts _ (hpk▸jW hk2) x hx
 have Hpk:=jH hpk;clear hpk
 go_loopg [7] ((bk.pile k).length+1) (fun f v7 wr=>eo4 W L b bb vs i (sats ((A5 vs bk.ps).eraseIdx k)) k i u y it p r f v7 wr)
 case atStart=>exact⟨c,bk.pile k,[],vs[k],Hr.out,.inl (Nat.lt_succ_self _),hp32,by simp;omega,hcn,by omega,hc1,by rw[List.set_getElem_self];exact hS⟩
 case round=>
  clear hS Hr hcn hp32 hc0 hc1 hb hit1;obtain⟨c,q,l,v,hl,hqf,hq32,hlf,hcnt,hc0,hc1,hS⟩:=hrel;have Hcnt:=jH hcnt;clear hcnt;obtain⟨f,rfl⟩:∃f,gk=f+1:=⟨gk-1,by omega⟩
  have hset:∀v:Value,(vs.set k v++[Value.int .i64 i])[k]? = some v:=fun v=>by rw[List.getElem?_append_left (by simpa using hk1),List.getElem?_set_self hk1]
  have hpl:(Bk.pile ⟨bk.ps.set k q,i⟩ (l8 it y)).length<=4294967296:=by have h6:=Dz7 bk (l8 it y) (AR7 it y hit);unfold Bk.pile at h6 ⊢;rw[List.getD_eq_getElem?_getD,List.getElem?_set_ne (by rw[<-Hkk.out];exact If7 it y hit),<-List.getD_eq_getElem?_getD];omega
  by_cases hcz:0<c
  ·cases q with
   | nil=>
    have Hr:=jH (show r=(⟨i,u,y,it,c,p⟩,[],l)by rw[<-hl];simp[H7]);clear hl;obtain⟨b0,c0,rfl⟩:=hS.drop.drop.drop.rowVal;have hvk:=hset (.slice b0 ([]:List Ord).length c0);clear hset;go_wp2_with fail;refine rf3 tB12b (fun _=>false) (fun _=>none) [] [none,none,none] hS ?_;intro nd;refine cR ?_;refine zc1 ?_
    iterate 2 (refine cR ?_)
    (refine cR ?_);refine zcn ?_;refine zc1 ?_ (hc:=by(intro F;exact i6.there (i6.there (i6.here hvk))))
    iterate 4 (refine cR ?_)
    iterate 7 (refine Bg7 (by kernel_rfl) rfl ?_;refine frS ?_)
    (refine cR ?_);refine Ad7 ?_;clear hS;intro w hS;have hS2:St W [blk b _ _,row _ _ _ _ _,blk bb _ _,sats (j6 (.slice b0 ([]:List Ord).length c0) []::_::L)] w:=hS;clear hS;have hS:=hS2.unpack [_,_,_];clear hS2;simp only[jK,jN]at hS;replace hS:=bD4 h1 h2 hk hS;go_wp2_with(first|refine zl1 hS ?_);refine rf3 tB12c (fun _=>false) (fun i=>if i==5 then some (.pointer (some ⟨bb,l8 it y,none⟩))else if i==9 then some (.tuple #[])else none) [⟨some 9,none,fun _=>s9 bb ⟨(bk.ps.set k []).set (l8 it y) (N7 (Bk.pile ⟨bk.ps.set k [],i⟩ (l8 it y)) ⟨i,u,y,it,c,p⟩),i⟩⟩] [some 9,none,none] hS ?_;intro nd
    iterate 2 (refine cR ?_)
    (refine zc1 ?_);refine cR ?_;refine zc1 ?_;refine zcv ?_ (hs:=by(intro F w hS;(try clear hS0);exact BQ7 bb it hit y W w _ hS));refine cR ?_;refine zcN ?_;refine cR ?_;refine zcv ?_ (hs:=by(intro F w hS;(try clear hS0);exact Co7 bb _ _ (AR7 it y hit) ⟨i,u,y,it,c,p⟩ hpl W w _ hS));refine Ad7 ?_;clear hS;intro w hS;have hS2:St W [s9 bb _,blk b _ _,row _ _ _ _ _,sats L] w:=hS;clear hS;have hS:=hS2.unpack [_,_,_];clear hS2;simp only[jK,jN]at hS;go_wp2_with(fail);refine rf2 [0,0,2,1,15,31] (fun _=>false) [] [none,none,none] hS ?_;intro nd
    iterate 2 (refine cR ?_)
    (refine zc1 ?_)
    iterate 3 (refine cR ?_)
    refine Ad7 ?_;clear hS;intro w hS;go_wp2_with fail;go_ret3;refine⟨u7,by rw[Hr.out];rfl,?_⟩;have hB:=HB.out;rw[Hr.out,if_pos hcz]at hB;rw[Hr.out,<-hB];exact(hS.unpack [_,_,_]).swap.drop
   | cons x q=>
    have hrow:=hS.perm (List.perm_middle (l₁:=[_,_,_]));clear hS
    rcases hrow.rowOpen with ⟨_,h0,_⟩|⟨g,cap,junk,rfl,hn1,hm1,hj1,hl1,hS0⟩
    ·exact absurd h0 (by simp)
    clear hrow;have hS:=hS0.perm (List.perm_middle (l₁:=[_,_,_])).symm;clear hS0;have hvk:=hset (.S g (x::q).length cap);obtain⟨xi,xu,xy,xt,xc,xp⟩:=x;have hfl:∀xc:Int,((⟨xi,xu,xy,xt,xc,xp⟩:Ord)::q).flatMap Ord.cells++junk=.I xi::.string xu::.bool xy::.I xt::.I xc::.I xp::(q.flatMap Ord.cells++junk):=fun _=>rfl
    rw[hfl]at hS;have hxc:=Hcnt.out _ (List.mem_cons_self ..);simp only[jC]at hxc hvk hn1 hq32 hqf;have hm2:cap<=9223372036854775807:=by unfold maxLen at hm1;omega
    generalize htl:q.flatMap Ord.cells++junk=tl at hS;have Htl:=jH htl;have Hfl:=jH hfl;clear htl hfl
    cases hm:ab4 ⟨i,u,y,it,c,p⟩ ⟨xi,xu,xy,xt,xc,xp⟩
    ·have Hr:=jH (show r=(⟨i,u,y,it,c,p⟩,⟨xi,xu,xy,xt,xc,xp⟩::q,l)by rw[<-hl];simp[H7,hm]);clear hl;go_wp2_with fail;refine rf3 tB12b (fun _=>false) (fun i=>if i==17 then some (.bool false)else none) [] [none,none,none,none] hS ?_;intro nd;refine cR ?_;refine zc1 ?_
     iterate 3 (refine cR ?_)
     (refine zcn ?_);refine zc1 ?_ (hc:=by(intro F;exact i6.there (i6.there (i6.here hvk))))
     iterate 4 (refine cR ?_)
     (refine zcN ?_);refine cR ?_;refine zcn ?_;refine zc1 ?_ (hc:=by(intro F;exact i6.there (i6.there (i6.here hvk))));refine cR ?_;refine zcN ?_ (hc:=by(intro F;exact(d8.there (d8.there (d8.there (d8.here (vs:=[.I xi,.string xu,.bool xy,.I xt,.I xc,.I xp]) rfl))))));refine zcv ?_ (hs:=by(intro F w hS;(try clear hS0);exact hm▸El7 ⟨i,u,y,it,c,p⟩ ⟨xi,xu,xy,xt,xc,xp⟩ W w _ hS));refine cR ?_;refine Ad7 ?_;clear hS;intro w hS;have hS2:St W [blk b _ _,row _ _ _ _ _,blk bb _ _,blk g _ _,sats (_::L)] w:=hS;clear hS;have hS:=hS2.unpack [_,_,_,_];clear hS2;simp only[jK,jN]at hS;replace hS:=hS.perm (List.perm_middle (l₁:=[_,_,_]));rw[<-Htl.out,<-Hfl.out]at hS;have hS3:St W (j6 (.S g (q.length+1) cap) (⟨xi,xu,xy,xt,xc,xp⟩::q)::_) w:=St.rowShut hS hn1 hm1 hj1 hl1;clear hS;have hS:=hS3.perm (List.perm_middle (l₁:=[_,_,_])).symm;clear hS3;replace hS:=bD4 h1 h2 hk hS;go_wp2_with(first|refine zl1 hS ?_);refine rf3 tB12c (fun _=>false) (fun i=>if i==5 then some (.pointer (some ⟨bb,l8 it y,none⟩))else if i==9 then some (.tuple #[])else none) [⟨some 9,none,fun _=>s9 bb ⟨(bk.ps.set k (⟨xi,xu,xy,xt,xc,xp⟩::q)).set (l8 it y) (N7 (Bk.pile ⟨bk.ps.set k (⟨xi,xu,xy,xt,xc,xp⟩::q),i⟩ (l8 it y)) ⟨i,u,y,it,c,p⟩),i⟩⟩] [some 9,none,none] hS ?_;intro nd
     iterate 2 (refine cR ?_)
     (refine zc1 ?_);refine cR ?_;refine zc1 ?_;refine zcv ?_ (hs:=by(intro F w hS;(try clear hS0);exact BQ7 bb it hit y W w _ hS));refine cR ?_;refine zcN ?_;refine cR ?_;refine zcv ?_ (hs:=by(intro F w hS;(try clear hS0);exact Co7 bb _ _ (AR7 it y hit) ⟨i,u,y,it,c,p⟩ hpl W w _ hS));refine Ad7 ?_;clear hS;intro w hS;have hS2:St W [s9 bb _,blk b _ _,row _ _ _ _ _,sats L] w:=hS;clear hS;have hS:=hS2.unpack [_,_,_];clear hS2;simp only[jK,jN]at hS;go_wp2_with(fail);refine rf2 [0,0,2,1,15,31] (fun _=>false) [] [none,none,none] hS ?_;intro nd
     iterate 2 (refine cR ?_)
     (refine zc1 ?_)
     iterate 3 (refine cR ?_)
     refine Ad7 ?_;clear hS;intro w hS;go_wp2_with fail;go_ret3;refine⟨u7,by rw[Hr.out];rfl,?_⟩;have hB:=HB.out;rw[Hr.out,if_pos hcz]at hB;rw[Hr.out,<-hB];exact(hS.unpack [_,_,_]).swap.drop
    ·obtain⟨tb,ts,tu,te,tt,tc,tp,td,hT⟩:∃tb ts tu te tt tc tp td,M7 ⟨i,u,y,it,c,p⟩ ⟨xi,xu,xy,xt,xc,xp⟩=⟨tb,ts,tu,te,tt,tc,tp,td⟩:=⟨_,_,_,_,_,_,_,_,rfl⟩
     have htc:tc=K7 c xc:=by have:=congrArg Trd.cnt hT;simp only at this;rw[<-this];unfold M7;split <;> rfl
     have hl':H7 f ⟨i,u,y,it,c-tc,p⟩ (if xc-tc=0 then aQ4 (⟨xi,xu,xy,xt,xc-tc,xp⟩::q)else⟨xi,xu,xy,xt,xc-tc,xp⟩::q) (l++[⟨tb,ts,tu,te,tt,tc,tp,td⟩])=r:=by rw[<-hl,H7,if_pos (⟨hcz,hm⟩:0<c/\ab4 ⟨i,u,y,it,c,p⟩ ⟨xi,xu,xy,xt,xc,xp⟩=true),hT]
     have hq1:q.length<f:=by omega
     clear hl hqf;have Hl:=jH hl';clear hl';have hct:1<=tc/\tc<=c/\tc<=xc/\(xc-tc≠0->c-tc=0):=by rw[htc];unfold K7;split <;> omega
     clear htc;have HT:=jH hT;clear hT;go_wp2_with fail;refine rf3 tB12b (fun _=>false) (fun i=>if i==17 then some (.bool true)else none) [] [none,none,none,none] hS ?_;intro nd;refine cR ?_;refine zc1 ?_
     iterate 3 (refine cR ?_)
     (refine zcn ?_);refine zc1 ?_ (hc:=by(intro F;exact i6.there (i6.there (i6.here hvk))))
     iterate 4 (refine cR ?_)
     (refine zcN ?_);refine cR ?_;refine zcn ?_;refine zc1 ?_ (hc:=by(intro F;exact i6.there (i6.there (i6.here hvk))));refine cR ?_;refine zcN ?_ (hc:=by(intro F;exact(d8.there (d8.there (d8.there (d8.here (vs:=[.I xi,.string xu,.bool xy,.I xt,.I xc,.I xp]) rfl))))));refine zcv ?_ (hs:=by(intro F w hS;(try clear hS0);exact hm▸El7 ⟨i,u,y,it,c,p⟩ ⟨xi,xu,xy,xt,xc,xp⟩ W w _ hS));refine cR ?_;refine Ad7 ?_;clear hS;intro w hS;have hS2:St W [blk b _ _,row _ _ _ _ _,blk bb _ _,blk g _ _,sats (_::L)] w:=hS;clear hS;have hS:=hS2.unpack [_,_,_,_];clear hS2;simp only[jK,jN]at hS;go_wp2_with(first|refine zl1 hS ?_ (hc:=by exact i6.there (i6.there (i6.here hvk))));refine rf3 [0,0,2,6,15,0,63] (fun i=>i==5) (fun i=>if i==4 then some (.agg #[.string tb,.string ts,.I tu,.I te,.I tt,.I tc,.I tp,.I td])else none) [⟨some 5,some 6,fun nd=>i8 (nd 5) [.string ⟨#[]⟩,.string ⟨#[]⟩,.I 0,.I 0,.I 0,.I 0,.I 0,.I 0] 243⟩,⟨some 6,none,fun nd=>i8 (nd 5) [.string tb,.string ts,.I tu,.I te,.I tt,.I tc,.I tp,.I td] 243⟩] [none,none,none,none] hS ?_;intro nd;refine zcN ?_;refine cR ?_;refine zcn ?_;refine zcN ?_ (hc:=by(intro F;exact(d8.there (d8.there (d8.there (d8.here (vs:=[.I xi,.string xu,.bool xy,.I xt,.I xc,.I xp]) rfl))))));refine zcv ?_ (hs:=by(intro F w hS;(try clear hS0);exact(HT.out▸IH7 ⟨i,u,y,it,c,p⟩ ⟨xi,xu,xy,xt,xc,xp⟩ W w _ hS:Calls _ _ _ _ fun e w'=>e=.returned (.agg (Trd.cells ⟨tb,ts,tu,te,tt,tc,tp,td⟩).toArray)/\_)));refine zca ?_;refine zct ?_;refine Ad7 ?_;clear hS;intro w hS;have hS2:St W [i8 (nd 5) _ _,blk b _ _,row _ _ _ _ _,blk bb _ _,blk g _ _,sats (_::L)] w:=hS;clear hS;have hS:=hS2.unpack [_,_,_,_,_];clear hS2;simp only[jK,jN]at hS;generalize nd 5=v5 at *
     have h1:=hS.ptr;clear hS;obtain⟨tb5,rfl,hS⟩:=h1;go_wp2_with(first|refine zbs hS ?_;clear hS;intro bS w hS|refine zap hS ?_ (h63:=by unfold maxLen;omega) (hb:=by omega);clear hS;intro v w hS|refine zl1 hS ?_|refine zlN hS ?_|refine zs1 hS ?_;clear hS;intro w hS);replace hS:=hS.swap.drop;refine rf3 [0,1,3,7,0,16,63,127,255,511] (fun _=>false) (fun _=>none) [⟨some 9,none,fun _=>blk g (.I xi::.string xu::.bool xy::.I xt::.I (xc-tc)::.I xp::tl) 173⟩] [none,none,none,none,some 9] hS ?_;intro nd;refine cR ?_;refine zcn ?_;refine cR ?_;refine zc1 ?_;refine cR ?_;refine zc1 ?_;refine cR ?_;refine zcn ?_;refine cR ?_;refine zcs ?_;refine Ad7 ?_;clear hS;intro w hS;have hS2:St W [blk g _ _,row _ _ _ _ _,blk tb5 _ _,blk b _ _,blk bb _ _,sats (_::L)] w:=hS;clear hS;have hS:=hS2.unpack [_,_,_,_,_];clear hS2;simp only[jK,jN]at hS;have hx1:∀x∈q,1<=x.cnt/\x.cnt<=1048576:=fun x hx=>Hcnt.out x (List.mem_cons_of_mem _ hx)
     have Hx1:=jH hx1;clear hx1;by_cases hz:xc-tc=0
     ·have hlz:=Hl.out;rw[if_pos hz]at hlz;have Hlz:=jH hlz;clear hlz;go_wp2_with(first|refine zl1 hS ?_ (hc:=by exact i6.here rfl)|go_at_call 192;(rw[<-Htl.out,<-Hfl.out (xc-tc)]at hS;have hS3:St W (j6 (.S g (q.length+1) cap) (⟨xi,xu,xy,xt,xc-tc,xp⟩::q)::_) w:=St.rowShut hS hn1 hm1 hj1 hl1;clear hS;have hS:=hS3.perm (List.perm_middle (l₁:=[_,_,_,_]));clear hS3);refine(LI7 (⟨xi,xu,xy,xt,xc-tc,xp⟩::q) (Nat.succ_pos _) _ _ bb k _ (by simp only[jC];omega) hvk W _ _ hS).mono ?_;clear hS;rintro e w ⟨v',rfl,hS⟩);replace hS:=((((hS.perm (List.perm_middle (l₁:=[_,_,_]))).drop).perm (List.perm_middle (l₁:=[_,_]))).perm (List.perm_middle (l₁:=[_,_,_])))
      rw[List.set_append_left _ _ (by simpa using hk1),List.set_set]at hS
      go_roundg f
      case measure=>omega
      case rel=>exact⟨c-tc,aQ4 (⟨xi,xu,xy,xt,xc-tc,xp⟩::q),l++[⟨tb,ts,tu,te,tt,tc,tp,td⟩],v',Hlz.out,.inl (by rw[Bt7];simpa using hq1),by rw[Bt7];simp only[jC];omega,by simp only[jA,jC,List.length_nil];omega,fun x hx=>Hx1.out x ((Ch7 _ _).mem_iff.1 hx),by omega,by omega,by rw[jA,List.flatMap_append];exact hS⟩
     ·have hlz:=Hl.out;rw[if_neg hz]at hlz;have Hlz:=jH hlz;clear hlz;go_wp2_with(first|refine zl1 hS ?_ (hc:=by exact i6.here rfl))
      (rw[<-Htl.out,<-Hfl.out (xc-tc)]at hS;have hS3:St W (j6 (.S g (q.length+1) cap) (⟨xi,xu,xy,xt,xc-tc,xp⟩::q)::_) w:=St.rowShut hS hn1 hm1 hj1 hl1;clear hS;have hS:=hS3.perm (List.perm_middle (l₁:=[_,_,_,_]));clear hS3)
      replace hS:=((((hS.perm (List.perm_middle (l₁:=[_,_,_]))).drop).perm (List.perm_middle (l₁:=[_,_]))).perm (List.perm_middle (l₁:=[_,_,_])))
      go_roundg f
      case measure=>omega
      case rel=>exact⟨c-tc,⟨xi,xu,xy,xt,xc-tc,xp⟩::q,l++[⟨tb,ts,tu,te,tt,tc,tp,td⟩],_,Hlz.out,.inr ⟨by omega,by omega⟩,by simp only[jC];omega,by simp only[jA,jC,List.length_nil];omega,fun x hx=>by
       rcases List.mem_cons.1 hx with rfl|hx
       ·dsimp only;omega
       ·exact Hx1.out x hx,by omega,by omega,by rw[jA,List.flatMap_append];exact hS⟩
  ·have Hr:=jH (show r=(⟨i,u,y,it,c,p⟩,q,l)by rw[<-hl];cases q <;> simp[H7,hcz]);clear hl;obtain rfl:c=0:=by omega
   go_wp2_with fail;refine rf3 tB12b (fun _=>false) (fun _=>none) [] [none,none,none] hS ?_;intro nd;refine cR ?_;refine zc1 ?_
   iterate 2 (refine cR ?_)
   iterate 5 (refine Bg7 (by kernel_rfl) rfl ?_;refine frS ?_)
   iterate 2 (refine cR ?_)
   iterate 7 (refine Bg7 (by kernel_rfl) rfl ?_;refine frS ?_)
   (refine cR ?_);refine Ad7 ?_;clear hS;intro w hS;have hS2:St W [blk b _ _,row _ _ _ _ _,blk bb _ _,sats (j6 v q::_::L)] w:=hS;clear hS;have hS:=hS2.unpack [_,_,_];clear hS2;simp only[jK,jN]at hS;go_wp2_with(first|refine zl1 hS ?_);refine rf2 [0,0,2,1,15,31] (fun _=>false) [] [none,none] hS ?_;intro nd
   iterate 2 (refine cR ?_)
   (refine zc1 ?_)
   iterate 3 (refine cR ?_)
   refine Ad7 ?_;clear hS;intro w hS;go_wp2_with fail;go_ret3;refine⟨u7,by rw[Hr.out];rfl,?_⟩;have hB:=HB.out;rw[Hr.out,if_neg (show ¬(0:Int)<0 by omega)]at hB;rw[Hr.out,<-hB];exact(bD4 h1 h2 hk (hS.unpack [_,_])).swap.drop
end Go.Proofs.YtienbkdjkjbelaaGreat
end
