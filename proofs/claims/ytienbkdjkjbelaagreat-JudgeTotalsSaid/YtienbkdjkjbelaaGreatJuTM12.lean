/-
  Place.
-/
import Derived.Test.YtienbkdjkjbelaaGreatJuTM5
import Derived.Test.YtienbkdjkjbelaaGreatJuTM11
import Derived.OwnWalk
set_option maxHeartbeats 16000000
set_option maxRecDepth 100000
set_option linter.unusedSimpArgs false
set_option linter.unusedVariables false
section
namespace Go.Proofs.YtienbkdjkjbelaaGreat
open Go.RowKit Go.Sl
structure BkOk(b:Bk):Prop where
 n8:b.ps.length=8
 few:b.len<=32
 cnts:∀p∈b.ps, ∀x∈p,1<=x.cnt/\x.cnt<=1048576
 last0:0<=b.last
 last1:b.last<=1099511627776
abbrev tB11a:List Nat:=[0,1,3,7,15,31,63,127,255,511,255,1279,3327,7423,16383,32767,65535]
theorem LI7(bb:Nat)(bk:Bk)(o:Ord)(hok:BkOk bk)(hb:J7 o=false)(W w:World)(L:List HP)
  (hS:St W (w9 bb bk::L) w):
  Calls Tryz.prog 150 #[.P bb,.agg o.cells.toArray] w fun e w'=>e=.returned (.tuple #[.slice none 0 0,.I 0,.I 1])/\St W (w9 bb bk::L) w':=by
 obtain⟨i,u,y,t,c,p⟩:=o;simp only[Ord.cells];go_enter Tryz.func150,Tryz.ntmps150;go_wp2_with(first|refine zbx hS ?_;clear hS;intro b w hS);refine rf3 tB11a (fun _=>false) (fun i=>if i==4 then some (.bool false)else none) [] [none] hS ?_;intro nd
 iterate 3 (refine cR ?_)
 (refine zcN ?_);refine zcv ?_ (hs:=by(intro F w hS;(try clear hS0);exact hb▸Do7 ⟨i,u,y,t,c,p⟩ W w _ hS))
 iterate 3 (refine cR ?_)
 iterate 7 (refine Bk7 (by kernel_rfl) rfl ?_;refine frS ?_)
 iterate 2 (refine cR ?_)
 refine Ad7 ?_;clear hS;intro w hS;have hS:St W [blk _ _ _,sats (w9 bb _::L)] w:=hS;replace hS:=hS.unpack [_];simp only[jK,jN]at hS;go_wp2_with(fail);go_ret3;exact⟨rfl,hS.drop⟩
theorem LJ7(bb:Nat)(bk:Bk)(o:Ord)(hok:BkOk bk)(hb:J7 o=true)(hle:o.id<=bk.last)(W w:World)(L:List HP)
  (hS:St W (w9 bb bk::L) w):
  Calls Tryz.prog 150 #[.P bb,.agg o.cells.toArray] w fun e w'=>e=.returned (.tuple #[.slice none 0 0,.I 0,.I 1])/\St W (w9 bb bk::L) w':=by
 obtain⟨i,u,y,t,c,p⟩:=o;simp only[Ord.cells];obtain⟨vs,h1,h2,hS0⟩:=ae4 hS;clear hS;have hS:=hS0;clear hS0;have hla:(vs++[.I bk.last])[8]? = some (.I bk.last):=by rw[List.getElem?_append_right (by omega),h1];rfl
 have hle':i<=bk.last:=hle;clear hle;go_enter Tryz.func150,Tryz.ntmps150;go_wp2_with(first|refine zbx hS ?_;clear hS;intro b w hS);refine rf3 tB11a (fun _=>false) (fun i=>if i==4 then some (.bool true)else none) [] [none,none] hS ?_;intro nd
 iterate 3 (refine cR ?_)
 (refine zcN ?_);refine zcv ?_ (hs:=by(intro F w hS;(try clear hS0);exact hb▸Do7 ⟨i,u,y,t,c,p⟩ W w _ hS))
 iterate 4 (refine cR ?_)
 (refine zc1 ?_);refine cR ?_;refine zcn ?_;refine cR ?_;refine zc1 ?_ (hc:=by(intro F;exact i6.there (i6.here hla)))
 iterate 3 (refine cR ?_)
 refine Ad7 ?_;clear hS;intro w hS;have hS:St W [blk _ _ _,blk bb _ _,sats (sats (C7 vs bk.ps)::L)] w:=hS;replace hS:=hS.unpack [_,_];simp only[jK,jN]at hS;go_wp2_with(fail);go_ret3;exact⟨rfl,K8 h1 h2 hS.drop⟩
theorem Kl7(bb:Nat)(bk:Bk)(o:Ord)(hok:BkOk bk)(hb:J7 o=true)(hgt:bk.last<o.id)(hfull:32<=bk.len)(W w:World)(L:List HP)
  (hS:St W (w9 bb bk::L) w):
  Calls Tryz.prog 150 #[.P bb,.agg o.cells.toArray] w fun e w'=>e=.returned (.tuple #[.slice none 0 0,.I 0,.I 6])/\St W (w9 bb bk::L) w':=by
 obtain⟨i,u,y,t,c,p⟩:=o;simp only[Ord.cells];have hgt':¬i<=bk.last:=Int.not_le.2 hgt;clear hgt;have hlen:=hok.few;have h32:(32:Int)<=(bk.len:Int):=by omega
 obtain⟨vs,h1,h2,hS0⟩:=ae4 hS;clear hS;have hS:=hS0;clear hS0;have hla:(vs++[.I bk.last])[8]? = some (.I bk.last):=by rw[List.getElem?_append_right (by omega),h1];rfl
 go_enter Tryz.func150,Tryz.ntmps150;go_wp2_with(first|refine zbx hS ?_;clear hS;intro b w hS);refine rf3 tB11a (fun _=>false) (fun i=>if i==4 then some (.bool true)else none) [] [none,none] hS ?_;intro nd
 iterate 3 (refine cR ?_)
 (refine zcN ?_);refine zcv ?_ (hs:=by(intro F w hS;(try clear hS0);exact hb▸Do7 ⟨i,u,y,t,c,p⟩ W w _ hS))
 iterate 4 (refine cR ?_)
 (refine zc1 ?_);refine cR ?_;refine zcn ?_;refine cR ?_;refine zc1 ?_ (hc:=by(intro F;exact i6.there (i6.here hla)))
 iterate 3 (refine cR ?_)
 refine Ad7 ?_;clear hS;intro w hS;have hS2:St W [blk _ _ _,blk bb _ _,sats (sats (C7 vs bk.ps)::L)] w:=hS;clear hS;have hS:=hS2.unpack [_,_];clear hS2;simp only[jK,jN]at hS;replace hS:=K8 h1 h2 (hS.perm ((List.Perm.swap _ _ _).trans ((List.Perm.swap _ _ _).cons _)));clear hla h1 h2;go_wp2_with(first|go_at_call 149;refine(Gp7 bb bk (by omega) W _ _ hS).mono ?_;clear hS;rintro e w ⟨rfl,hS⟩);go_ret3;exact⟨rfl,hS.swap.drop⟩
theorem DZ7(b:Bk)(k:Nat)(hk:k<8):(b.pile k).length<=b.len:=by
 unfold Bk.len Bk.pile;obtain h|h|h|h|h|h|h|h:k=0\/k=1\/k=2\/k=3\/k=4\/k=5\/k=6\/k=7:=by omega
 all_goals subst h
 ·exact Nat.le_trans (Nat.le_add_left _ (t8 b.ps 0)) (As7 b.ps (k:=1) (by omega))
 ·exact Nat.le_trans (Nat.le_add_left _ (t8 b.ps 2)) (As7 b.ps (k:=3) (by omega))
 ·exact Nat.le_trans (Nat.le_add_left _ (t8 b.ps 4)) (As7 b.ps (k:=5) (by omega))
 ·exact Nat.le_trans (Nat.le_add_left _ (t8 b.ps 6)) (As7 b.ps (k:=7) (by omega))
 ·exact Nat.le_trans (Nat.le_add_left _ (t8 b.ps 1)) (As7 b.ps (k:=2) (by omega))
 ·exact Nat.le_trans (Nat.le_add_left _ (t8 b.ps 3)) (As7 b.ps (k:=4) (by omega))
 ·exact Nat.le_trans (Nat.le_add_left _ (t8 b.ps 5)) (As7 b.ps (k:=6) (by omega))
 ·exact Nat.le_trans (Nat.le_add_left _ (t8 b.ps 7)) (As7 b.ps (k:=8) (by omega))
theorem CE7(bb:Nat)(b:Bk)(k:Nat)(hk:k<8)(o:Ord)(h63:(b.pile k).length<=4294967296)(W w:World)(L:List HP)
  (hS:St W (w9 bb b::L) w):
  Calls Tryz.prog 190 #[.iface 253 (.pointer (some ⟨bb,k,none⟩)),.iface 173 (.agg o.cells.toArray)] w fun e w'=>e=.returned (.tuple #[])/\St W (w9 bb ⟨b.ps.set k (af4 (b.pile k) o),b.last⟩::L) w':=by
 obtain⟨vs,h1,h2,hS⟩:=ae4 hS;have hk1:k<vs.length:=by omega
 have hk2:k<b.ps.length:=by omega
 have hpk:b.ps[k]=b.pile k:=by unfold Bk.pile;simp[List.getD_eq_getElem?_getD,jG hk2]
 have hS:=bb4 k hk1 hk2 hS.swap;rw[hpk]at hS;have hl:(vs++[Value.int .i64 b.last])[k]? = some vs[k]:=by rw[List.getElem?_append_left hk1,jG hk1]
 refine(LF7 (b.pile k) o _ _ bb k _ h63 hl W w _ (hS.perm (List.perm_middle (l₁:=[_,_])))).mono ?_;rintro e w' ⟨v',rfl,hS⟩;refine⟨rfl,?_⟩;refine K8 (vs:=vs.set k v') (by simpa using h1) (by simpa using h2) ?_;rw[List.set_append_left _ _ hk1]at hS;exact(bc4 k hk1 hk2 (hS.perm (List.perm_middle (l₁:=[_,_]) (a:=_) (l₂:=L)).symm)).swap
theorem ci4{W w:World}{L:List HP}{X Y:HP}{bb k:Nat}{vs:List Value}{ps:List (List Ord)}{v:Value}{q:List Ord}{id:Int}(h1:vs.length=8)(h2:ps.length=8)(hk:k<8)
  (h:St W (X::Y::blk bb (vs.set k v++[.I id]) 279::j7 v q::sats ((C7 vs ps).eraseIdx k)::L) w):St W (w9 bb ⟨ps.set k q,id⟩::X::Y::L) w:=by
 have a1:=(h.perm (List.perm_middle (l₁:=[_,_,_,_]))).perm (List.perm_middle (l₁:=[_,_,_,_]));have a2:=bc4 k (by omega) (by omega) a1;have a3:=a2.perm (List.perm_middle (l₁:=[_,_,_]));exact K8 (by simpa using h1) (by simpa using h2) a3
theorem Jx7(it:Nat)(y:Bool)(h:it<4):m8 it (!y)≠m8 it y:=by unfold m8;cases y <;> simp <;> omega
theorem AV7(it:Nat)(y:Bool)(h:it<4):m8 it y<8:=by unfold m8;cases y <;> simp <;> omega
def fl4(W:World)(L:List HP)(ob bb:Nat)(vs:List Value)(id:Int)(rest:HP)(k:Nat)(i:Int)(u:ByteArray)(y:Bool)(t p:Int)(r:Ord×List Ord×List Trd)(f:Nat)(v7:Value)(w:World):Prop:=
 ∃(c:Int) (q:List Ord) (l:List Trd) (v:Value),K5 f ⟨i,u,y,t,c,p⟩ q l=r/\(q.length<f\/(c=0/\0<f))/\q.length<=32/\l.length+f<=40/\(∀x∈q,1<=x.cnt/\x.cnt<=1048576)/\0<=c/\c<=1048576 /\
  St W (blk ob [.I i,.string u,.bool y,.I t,.I c,.I p] 173::row v7 8 243 l.length (l.flatMap Trd.cells)::blk bb (vs.set k v++[.I id]) 279::j7 v q::rest::L) w
abbrev tB11b:List Nat:=[0,1,3,7,15,31,63,127,255,511,1023,2047,2047,6143,14335,30719,63487,131071,262143]
abbrev tB11c:List Nat:=[0,0,2,0,8,31,63,0,128,511]
theorem NS7(bb:Nat)(bk:Bk)(o:Ord)(hok:BkOk bk)(hb:J7 o=true)(hgt:bk.last<o.id)(hfew:¬32<=bk.len)(W w:World)(L:List HP)
  (hS:St W (w9 bb bk::L) w):
  Calls Tryz.prog 150 #[.P bb,.agg o.cells.toArray] w fun e w'=>∃v,e=.returned (.tuple #[v,.I (E6 bk o).left,.I 0]) /\
   St W (w9 bb (E6 bk o).book::row v 8 243 (E6 bk o).trades.length ((E6 bk o).trades.flatMap Trd.cells)::L) w':=by
 obtain⟨i,u,y,t,c,p⟩:=o;have hmay:=Ao7.1 hb;obtain⟨it,rfl⟩:∃it:Nat,t=it:=⟨t.toNat,by have:=hmay.item0;simp only at this;omega⟩
 have hit:it<4:=by have:=hmay.item1;simp only at this;omega
 have hit1:bd4 ⟨i,u,y,it,c,p⟩=it:=by simp[bd4]
 have hc0:1<=c:=hmay.cnt0;have hc1:c<=1048576:=hmay.cnt1;have hi0:1<=i:=hmay.id0;have hi1:i<=1099511627776:=hmay.id1;unfold E6;rw[if_neg (by rintro(h|h);(rw[hb]at h;cases h);exact absurd hgt (by simpa using h)),if_neg hfew,hit1];dsimp only;simp only[Ord.cells];have hgt':¬i<=bk.last:=Int.not_le.2 hgt;clear hgt hmay;have hlen:=hok.few;have h32:¬(32:Int)<=(bk.len:Int):=by omega
 generalize hr:K5 ((bk.pile (m8 it (!y))).length+1) ⟨i,u,y,it,c,p⟩ (bk.pile (m8 it (!y))) []=r;generalize hB:(if 0<r.1.cnt then(bk.ps.set (m8 it (!y)) r.2.1).set (m8 it y) (af4 ((bk.ps.set (m8 it (!y)) r.2.1).getD (m8 it y) []) r.1)else bk.ps.set (m8 it (!y)) r.2.1)=ps2;have HB:=jH hB;clear hB;have Hr:=jH hr;clear hr;have Hfew:=jH hfew;clear hfew;obtain⟨vs,h1,h2,hS0⟩:=ae4 hS;clear hS;have hS:=hS0;clear hS0;have hla:(vs++[.I bk.last])[8]? = some (.I bk.last):=by rw[List.getElem?_append_right (by omega),h1];rfl
 go_enter Tryz.func150,Tryz.ntmps150;go_wp2_with(first|refine zbx hS ?_;clear hS;intro b w hS);refine rf3 tB11a (fun _=>false) (fun i=>if i==4 then some (.bool true)else none) [] [none,none] hS ?_;intro nd
 iterate 3 (refine cR ?_)
 (refine zcN ?_);refine zcv ?_ (hs:=by(intro F w hS;(try clear hS0);exact hb▸Do7 ⟨i,u,y,(it:Int),c,p⟩ W w _ hS))
 iterate 4 (refine cR ?_)
 (refine zc1 ?_);refine cR ?_;refine zcn ?_;refine cR ?_;refine zc1 ?_ (hc:=by(intro F;exact i6.there (i6.here hla)))
 iterate 3 (refine cR ?_)
 refine Ad7 ?_;clear hS;intro w hS;have hS2:St W [blk _ _ _,blk bb _ _,sats (sats (C7 vs bk.ps)::L)] w:=hS;clear hS;have hS:=hS2.unpack [_,_];clear hS2;simp only[jK,jN]at hS;replace hS:=K8 h1 h2 (hS.perm ((List.Perm.swap _ _ _).trans ((List.Perm.swap _ _ _).cons _)));clear hla h1 h2;go_wp2_with(first|go_at_call 149;refine(Gp7 bb bk (by omega) W _ _ hS).mono ?_;clear hS;rintro e w ⟨rfl,hS⟩;have hS':=ae4 hS;clear hS;obtain⟨vs,h1,h2,hS⟩:=hS'|((with_reducible apply GN7 hS);rfl;rfl;rfl;(focus((conv=>lhs;whnf);try rfl));kernel_rfl;rfl;rfl;exact cI4;simp[h1];rfl;clear hS;intro w hS;try(refine frS ?_))|go_at_call 188;refine(BY7 bb it hit (!y) W _ _ hS).mono ?_;clear hS;rintro e w ⟨rfl,hS⟩|refine zl1 hS ?_);have hset:(vs++[Value.int .i64 bk.last]).set 8 (.I i)=vs++[.I i]:=by rw[List.set_append_right _ _ (by omega),h1];rfl
 rw[hset]at hS;clear hset;have hk:m8 it (!y)<8:=by unfold m8;cases y <;> simp <;> omega
 generalize hkk:m8 it (!y)=k at *;have Hkk:=jH hkk;clear hkk;have hk1:k<vs.length:=by omega
 have hk2:k<bk.ps.length:=by omega
 have hpk:bk.ps[k]=bk.pile k:=by unfold Bk.pile;simp[List.getD_eq_getElem?_getD,jG hk2]
 have hS1:=bb4 k hk1 hk2 hS.swap;clear hS;rw[hpk]at hS1;have hS2:=((hS1.perm (List.perm_middle (l₁:=[_,_]))).rowNil (k:=8) (T:=243)).perm (List.perm_middle (l₁:=[_,_,_,_]));clear hS1;have hS:=hS2;clear hS2;have hp32:(bk.pile k).length<=32:=Nat.le_trans (DZ7 bk k hk) hlen;have hcn:∀x∈bk.pile k,1<=x.cnt/\x.cnt<=1048576:=fun x hx=>hok.cnts _ (hpk▸jW hk2) x hx
 have Hpk:=jH hpk;clear hpk
 go_loopg [7] ((bk.pile k).length+1) (fun f v7 wr=>fl4 W L b bb vs i (sats ((C7 vs bk.ps).eraseIdx k)) k i u y it p r f v7 wr)
 case atStart=>exact⟨c,bk.pile k,[],vs[k],Hr.out,.inl (Nat.lt_succ_self _),hp32,by simp;omega,hcn,by omega,hc1,by rw[List.set_getElem_self];exact hS⟩
 case round=>
  clear hS Hr hcn hp32 hc0 hc1 hb hit1;obtain⟨c,q,l,v,hl,hqf,hq32,hlf,hcnt,hc0,hc1,hS⟩:=hrel;have Hcnt:=jH hcnt;clear hcnt;obtain⟨f,rfl⟩:∃f,gk=f+1:=⟨gk-1,by omega⟩
  have hset:∀v:Value,(vs.set k v++[Value.int .i64 i])[k]? = some v:=fun v=>by rw[List.getElem?_append_left (by simpa using hk1),List.getElem?_set_self hk1]
  have hpl:(Bk.pile ⟨bk.ps.set k q,i⟩ (m8 it y)).length<=4294967296:=by have h6:=DZ7 bk (m8 it y) (AV7 it y hit);unfold Bk.pile at h6 ⊢;rw[List.getD_eq_getElem?_getD,List.getElem?_set_ne (by rw[<-Hkk.out];exact Jx7 it y hit),<-List.getD_eq_getElem?_getD];omega
  by_cases hcz:0<c
  ·cases q with
   | nil=>
    have Hr:=jH (show r=(⟨i,u,y,it,c,p⟩,[],l)by rw[<-hl];simp[K5]);clear hl;obtain⟨b0,c0,rfl⟩:=hS.drop.drop.drop.rowVal;have hvk:=hset (.slice b0 ([]:List Ord).length c0);clear hset;go_wp2_with fail;refine rf3 tB11b (fun _=>false) (fun _=>none) [] [none,none,none] hS ?_;intro nd;refine cR ?_;refine zc1 ?_
    iterate 2 (refine cR ?_)
    (refine cR ?_);refine zcn ?_;refine zc1 ?_ (hc:=by(intro F;exact i6.there (i6.there (i6.here hvk))))
    iterate 4 (refine cR ?_)
    iterate 7 (refine Bk7 (by kernel_rfl) rfl ?_;refine frS ?_)
    (refine cR ?_);refine Ad7 ?_;clear hS;intro w hS;have hS2:St W [blk b _ _,row _ _ _ _ _,blk bb _ _,sats (j7 (.slice b0 ([]:List Ord).length c0) []::_::L)] w:=hS;clear hS;have hS:=hS2.unpack [_,_,_];clear hS2;simp only[jK,jN]at hS;replace hS:=ci4 h1 h2 hk hS;go_wp2_with(first|refine zl1 hS ?_);refine rf3 tB11c (fun _=>false) (fun i=>if i==5 then some (.pointer (some ⟨bb,m8 it y,none⟩))else if i==9 then some (.tuple #[])else none) [⟨some 9,none,fun _=>w9 bb ⟨(bk.ps.set k []).set (m8 it y) (af4 (Bk.pile ⟨bk.ps.set k [],i⟩ (m8 it y)) ⟨i,u,y,it,c,p⟩),i⟩⟩] [some 9,none,none] hS ?_;intro nd
    iterate 2 (refine cR ?_)
    (refine zc1 ?_);refine cR ?_;refine zc1 ?_;refine zcv ?_ (hs:=by(intro F w hS;(try clear hS0);exact BY7 bb it hit y W w _ hS));refine cR ?_;refine zcN ?_;refine cR ?_;refine zcv ?_ (hs:=by(intro F w hS;(try clear hS0);exact CE7 bb _ _ (AV7 it y hit) ⟨i,u,y,it,c,p⟩ hpl W w _ hS));refine Ad7 ?_;clear hS;intro w hS;have hS2:St W [w9 bb _,blk b _ _,row _ _ _ _ _,sats L] w:=hS;clear hS;have hS:=hS2.unpack [_,_,_];clear hS2;simp only[jK,jN]at hS;go_wp2_with(fail);refine rf2 [0,0,2,1,15,31] (fun _=>false) [] [none,none,none] hS ?_;intro nd
    iterate 2 (refine cR ?_)
    (refine zc1 ?_)
    iterate 3 (refine cR ?_)
    refine Ad7 ?_;clear hS;intro w hS;go_wp2_with fail;go_ret3;refine⟨u7,by rw[Hr.out];rfl,?_⟩;have hB:=HB.out;rw[Hr.out,if_pos hcz]at hB;rw[Hr.out,<-hB];exact(hS.unpack [_,_,_]).swap.drop
   | cons x q=>
    have hrow:=hS.perm (List.perm_middle (l₁:=[_,_,_]));clear hS
    rcases hrow.rowOpen with ⟨_,h0,_⟩|⟨g,cap,junk,rfl,hn1,hm1,hj1,hl1,hS0⟩
    ·exact absurd h0 (by simp)
    clear hrow;have hS:=hS0.perm (List.perm_middle (l₁:=[_,_,_])).symm;clear hS0;have hvk:=hset (.S g (x::q).length cap);obtain⟨xi,xu,xy,xt,xc,xp⟩:=x;have hfl:∀xc:Int,((⟨xi,xu,xy,xt,xc,xp⟩:Ord)::q).flatMap Ord.cells++junk=.I xi::.string xu::.bool xy::.I xt::.I xc::.I xp::(q.flatMap Ord.cells++junk):=fun _=>rfl
    rw[hfl]at hS;have hxc:=Hcnt.out _ (List.mem_cons_self ..);simp only[jC]at hxc hvk hn1 hq32 hqf;have hm2:cap<=9223372036854775807:=by unfold maxLen at hm1;omega
    generalize htl:q.flatMap Ord.cells++junk=tl at hS;have Htl:=jH htl;have Hfl:=jH hfl;clear htl hfl
    cases hm:av4 ⟨i,u,y,it,c,p⟩ ⟨xi,xu,xy,xt,xc,xp⟩
    ·have Hr:=jH (show r=(⟨i,u,y,it,c,p⟩,⟨xi,xu,xy,xt,xc,xp⟩::q,l)by rw[<-hl];simp[K5,hm]);clear hl;go_wp2_with fail;refine rf3 tB11b (fun _=>false) (fun i=>if i==17 then some (.bool false)else none) [] [none,none,none,none] hS ?_;intro nd;refine cR ?_;refine zc1 ?_
     iterate 3 (refine cR ?_)
     (refine zcn ?_);refine zc1 ?_ (hc:=by(intro F;exact i6.there (i6.there (i6.here hvk))))
     iterate 4 (refine cR ?_)
     (refine zcN ?_);refine cR ?_;refine zcn ?_;refine zc1 ?_ (hc:=by(intro F;exact i6.there (i6.there (i6.here hvk))));refine cR ?_;refine zcN ?_ (hc:=by(intro F;exact(d8.there (d8.there (d8.there (d8.here (vs:=[.I xi,.string xu,.bool xy,.I xt,.I xc,.I xp]) rfl))))));refine zcv ?_ (hs:=by(intro F w hS;(try clear hS0);exact hm▸Fa7 ⟨i,u,y,it,c,p⟩ ⟨xi,xu,xy,xt,xc,xp⟩ W w _ hS));refine cR ?_;refine Ad7 ?_;clear hS;intro w hS;have hS2:St W [blk b _ _,row _ _ _ _ _,blk bb _ _,blk g _ _,sats (_::L)] w:=hS;clear hS;have hS:=hS2.unpack [_,_,_,_];clear hS2;simp only[jK,jN]at hS;replace hS:=hS.perm (List.perm_middle (l₁:=[_,_,_]));rw[<-Htl.out,<-Hfl.out]at hS;have hS3:St W (j7 (.S g (q.length+1) cap) (⟨xi,xu,xy,xt,xc,xp⟩::q)::_) w:=St.rowShut hS hn1 hm1 hj1 hl1;clear hS;have hS:=hS3.perm (List.perm_middle (l₁:=[_,_,_])).symm;clear hS3;replace hS:=ci4 h1 h2 hk hS;go_wp2_with(first|refine zl1 hS ?_);refine rf3 tB11c (fun _=>false) (fun i=>if i==5 then some (.pointer (some ⟨bb,m8 it y,none⟩))else if i==9 then some (.tuple #[])else none) [⟨some 9,none,fun _=>w9 bb ⟨(bk.ps.set k (⟨xi,xu,xy,xt,xc,xp⟩::q)).set (m8 it y) (af4 (Bk.pile ⟨bk.ps.set k (⟨xi,xu,xy,xt,xc,xp⟩::q),i⟩ (m8 it y)) ⟨i,u,y,it,c,p⟩),i⟩⟩] [some 9,none,none] hS ?_;intro nd
     iterate 2 (refine cR ?_)
     (refine zc1 ?_);refine cR ?_;refine zc1 ?_;refine zcv ?_ (hs:=by(intro F w hS;(try clear hS0);exact BY7 bb it hit y W w _ hS));refine cR ?_;refine zcN ?_;refine cR ?_;refine zcv ?_ (hs:=by(intro F w hS;(try clear hS0);exact CE7 bb _ _ (AV7 it y hit) ⟨i,u,y,it,c,p⟩ hpl W w _ hS));refine Ad7 ?_;clear hS;intro w hS;have hS2:St W [w9 bb _,blk b _ _,row _ _ _ _ _,sats L] w:=hS;clear hS;have hS:=hS2.unpack [_,_,_];clear hS2;simp only[jK,jN]at hS;go_wp2_with(fail);refine rf2 [0,0,2,1,15,31] (fun _=>false) [] [none,none,none] hS ?_;intro nd
     iterate 2 (refine cR ?_)
     (refine zc1 ?_)
     iterate 3 (refine cR ?_)
     refine Ad7 ?_;clear hS;intro w hS;go_wp2_with fail;go_ret3;refine⟨u7,by rw[Hr.out];rfl,?_⟩;have hB:=HB.out;rw[Hr.out,if_pos hcz]at hB;rw[Hr.out,<-hB];exact(hS.unpack [_,_,_]).swap.drop
    ·obtain⟨tb,ts,tu,te,tt,tc,tp,td,hT⟩:∃tb ts tu te tt tc tp td,P5 ⟨i,u,y,it,c,p⟩ ⟨xi,xu,xy,xt,xc,xp⟩=⟨tb,ts,tu,te,tt,tc,tp,td⟩:=⟨_,_,_,_,_,_,_,_,rfl⟩
     have htc:tc=I6 c xc:=by have:=congrArg Trd.cnt hT;simp only at this;rw[<-this];unfold P5;split <;> rfl
     have hl':K5 f ⟨i,u,y,it,c-tc,p⟩ (if xc-tc=0 then bs4 (⟨xi,xu,xy,xt,xc-tc,xp⟩::q)else⟨xi,xu,xy,xt,xc-tc,xp⟩::q) (l++[⟨tb,ts,tu,te,tt,tc,tp,td⟩])=r:=by rw[<-hl,K5,if_pos (⟨hcz,hm⟩:0<c/\av4 ⟨i,u,y,it,c,p⟩ ⟨xi,xu,xy,xt,xc,xp⟩=true),hT]
     have hq1:q.length<f:=by omega
     clear hl hqf;have Hl:=jH hl';clear hl';have hct:1<=tc/\tc<=c/\tc<=xc/\(xc-tc≠0->c-tc=0):=by rw[htc];unfold I6;split <;> omega
     clear htc;have HT:=jH hT;clear hT;go_wp2_with fail;refine rf3 tB11b (fun _=>false) (fun i=>if i==17 then some (.bool true)else none) [] [none,none,none,none] hS ?_;intro nd;refine cR ?_;refine zc1 ?_
     iterate 3 (refine cR ?_)
     (refine zcn ?_);refine zc1 ?_ (hc:=by(intro F;exact i6.there (i6.there (i6.here hvk))))
     iterate 4 (refine cR ?_)
     (refine zcN ?_);refine cR ?_;refine zcn ?_;refine zc1 ?_ (hc:=by(intro F;exact i6.there (i6.there (i6.here hvk))));refine cR ?_;refine zcN ?_ (hc:=by(intro F;exact(d8.there (d8.there (d8.there (d8.here (vs:=[.I xi,.string xu,.bool xy,.I xt,.I xc,.I xp]) rfl))))));refine zcv ?_ (hs:=by(intro F w hS;(try clear hS0);exact hm▸Fa7 ⟨i,u,y,it,c,p⟩ ⟨xi,xu,xy,xt,xc,xp⟩ W w _ hS));refine cR ?_;refine Ad7 ?_;clear hS;intro w hS;have hS2:St W [blk b _ _,row _ _ _ _ _,blk bb _ _,blk g _ _,sats (_::L)] w:=hS;clear hS;have hS:=hS2.unpack [_,_,_,_];clear hS2;simp only[jK,jN]at hS;go_wp2_with(first|refine zl1 hS ?_ (hc:=by exact i6.there (i6.there (i6.here hvk))));refine rf3 [0,0,2,6,15,0,63] (fun i=>i==5) (fun i=>if i==4 then some (.agg #[.string tb,.string ts,.I tu,.I te,.I tt,.I tc,.I tp,.I td])else none) [⟨some 5,some 6,fun nd=>i8 (nd 5) [.string ⟨#[]⟩,.string ⟨#[]⟩,.I 0,.I 0,.I 0,.I 0,.I 0,.I 0] 243⟩,⟨some 6,none,fun nd=>i8 (nd 5) [.string tb,.string ts,.I tu,.I te,.I tt,.I tc,.I tp,.I td] 243⟩] [none,none,none,none] hS ?_;intro nd;refine zcN ?_;refine cR ?_;refine zcn ?_;refine zcN ?_ (hc:=by(intro F;exact(d8.there (d8.there (d8.there (d8.here (vs:=[.I xi,.string xu,.bool xy,.I xt,.I xc,.I xp]) rfl))))));refine zcv ?_ (hs:=by(intro F w hS;(try clear hS0);exact(HT.out▸Kf7 ⟨i,u,y,it,c,p⟩ ⟨xi,xu,xy,xt,xc,xp⟩ W w _ hS:Calls _ _ _ _ fun e w'=>e=.returned (.agg (Trd.cells ⟨tb,ts,tu,te,tt,tc,tp,td⟩).toArray)/\_)));refine zca ?_;refine zct ?_;refine Ad7 ?_;clear hS;intro w hS;have hS2:St W [i8 (nd 5) _ _,blk b _ _,row _ _ _ _ _,blk bb _ _,blk g _ _,sats (_::L)] w:=hS;clear hS;have hS:=hS2.unpack [_,_,_,_,_];clear hS2;simp only[jK,jN]at hS;generalize nd 5=v5 at *
     have h1:=hS.ptr;clear hS;obtain⟨tb5,rfl,hS⟩:=h1;go_wp2_with(first|refine zbs hS ?_;clear hS;intro bS w hS|refine zap hS ?_ (h63:=by unfold maxLen;omega) (hb:=by omega);clear hS;intro v w hS|refine zl1 hS ?_|refine zlN hS ?_|refine zs1 hS ?_;clear hS;intro w hS);replace hS:=hS.swap.drop;refine rf3 [0,1,3,7,0,16,63,127,255,511] (fun _=>false) (fun _=>none) [⟨some 9,none,fun _=>blk g (.I xi::.string xu::.bool xy::.I xt::.I (xc-tc)::.I xp::tl) 173⟩] [none,none,none,none,some 9] hS ?_;intro nd;refine cR ?_;refine zcn ?_;refine cR ?_;refine zc1 ?_;refine cR ?_;refine zc1 ?_;refine cR ?_;refine zcn ?_;refine cR ?_;refine zcs ?_;refine Ad7 ?_;clear hS;intro w hS;have hS2:St W [blk g _ _,row _ _ _ _ _,blk tb5 _ _,blk b _ _,blk bb _ _,sats (_::L)] w:=hS;clear hS;have hS:=hS2.unpack [_,_,_,_,_];clear hS2;simp only[jK,jN]at hS;have hx1:∀x∈q,1<=x.cnt/\x.cnt<=1048576:=fun x hx=>Hcnt.out x (List.mem_cons_of_mem _ hx)
     have Hx1:=jH hx1;clear hx1;by_cases hz:xc-tc=0
     ·have hlz:=Hl.out;rw[if_pos hz]at hlz;have Hlz:=jH hlz;clear hlz;go_wp2_with(first|refine zl1 hS ?_ (hc:=by exact i6.here rfl)|go_at_call 192;(rw[<-Htl.out,<-Hfl.out (xc-tc)]at hS;have hS3:St W (j7 (.S g (q.length+1) cap) (⟨xi,xu,xy,xt,xc-tc,xp⟩::q)::_) w:=St.rowShut hS hn1 hm1 hj1 hl1;clear hS;have hS:=hS3.perm (List.perm_middle (l₁:=[_,_,_,_]));clear hS3);refine(NR7 (⟨xi,xu,xy,xt,xc-tc,xp⟩::q) (Nat.succ_pos _) _ _ bb k _ (by simp only[jC];omega) hvk W _ _ hS).mono ?_;clear hS;rintro e w ⟨v',rfl,hS⟩);replace hS:=((((hS.perm (List.perm_middle (l₁:=[_,_,_]))).drop).perm (List.perm_middle (l₁:=[_,_]))).perm (List.perm_middle (l₁:=[_,_,_])))
      rw[List.set_append_left _ _ (by simpa using hk1),List.set_set]at hS
      go_roundg f
      case measure=>omega
      case rel=>exact⟨c-tc,bs4 (⟨xi,xu,xy,xt,xc-tc,xp⟩::q),l++[⟨tb,ts,tu,te,tt,tc,tp,td⟩],v',Hlz.out,.inl (by rw[BD7];simpa using hq1),by rw[BD7];simp only[jC];omega,by simp only[jA,jC,List.length_nil];omega,fun x hx=>Hx1.out x ((Cu7 _ _).mem_iff.1 hx),by omega,by omega,by rw[jA,List.flatMap_append];exact hS⟩
     ·have hlz:=Hl.out;rw[if_neg hz]at hlz;have Hlz:=jH hlz;clear hlz;go_wp2_with(first|refine zl1 hS ?_ (hc:=by exact i6.here rfl))
      (rw[<-Htl.out,<-Hfl.out (xc-tc)]at hS;have hS3:St W (j7 (.S g (q.length+1) cap) (⟨xi,xu,xy,xt,xc-tc,xp⟩::q)::_) w:=St.rowShut hS hn1 hm1 hj1 hl1;clear hS;have hS:=hS3.perm (List.perm_middle (l₁:=[_,_,_,_]));clear hS3)
      replace hS:=((((hS.perm (List.perm_middle (l₁:=[_,_,_]))).drop).perm (List.perm_middle (l₁:=[_,_]))).perm (List.perm_middle (l₁:=[_,_,_])))
      go_roundg f
      case measure=>omega
      case rel=>exact⟨c-tc,⟨xi,xu,xy,xt,xc-tc,xp⟩::q,l++[⟨tb,ts,tu,te,tt,tc,tp,td⟩],_,Hlz.out,.inr ⟨by omega,by omega⟩,by simp only[jC];omega,by simp only[jA,jC,List.length_nil];omega,fun x hx=>by
       rcases List.mem_cons.1 hx with rfl|hx
       ·dsimp only;omega
       ·exact Hx1.out x hx,by omega,by omega,by rw[jA,List.flatMap_append];exact hS⟩
  ·have Hr:=jH (show r=(⟨i,u,y,it,c,p⟩,q,l)by rw[<-hl];cases q <;> simp[K5,hcz]);clear hl;obtain rfl:c=0:=by omega
   go_wp2_with fail;refine rf3 tB11b (fun _=>false) (fun _=>none) [] [none,none,none] hS ?_;intro nd;refine cR ?_;refine zc1 ?_
   iterate 2 (refine cR ?_)
   iterate 5 (refine Bk7 (by kernel_rfl) rfl ?_;refine frS ?_)
   iterate 2 (refine cR ?_)
   iterate 7 (refine Bk7 (by kernel_rfl) rfl ?_;refine frS ?_)
   (refine cR ?_);refine Ad7 ?_;clear hS;intro w hS;have hS2:St W [blk b _ _,row _ _ _ _ _,blk bb _ _,sats (j7 v q::_::L)] w:=hS;clear hS;have hS:=hS2.unpack [_,_,_];clear hS2;simp only[jK,jN]at hS;go_wp2_with(first|refine zl1 hS ?_);refine rf2 [0,0,2,1,15,31] (fun _=>false) [] [none,none] hS ?_;intro nd
   iterate 2 (refine cR ?_)
   (refine zc1 ?_)
   iterate 3 (refine cR ?_)
   refine Ad7 ?_;clear hS;intro w hS;go_wp2_with fail;go_ret3;refine⟨u7,by rw[Hr.out];rfl,?_⟩;have hB:=HB.out;rw[Hr.out,if_neg (show ¬(0:Int)<0 by omega)]at hB;rw[Hr.out,<-hB];exact(ci4 h1 h2 hk (hS.unpack [_,_])).swap.drop
def bk0:Bk:=⟨[[],[],[],[],[],[],[],[]],0⟩
theorem Ra7:BkOk bk0:=⟨rfl,by decide,(by intro p hp x hx;simp[bk0]at hp;subst hp;cases hx),by decide,by decide⟩
def ag4(v:Value)(l:List Trd):HP:=row v 8 243 l.length (l.flatMap Trd.cells)
theorem Jy7(W w:World)(L:List HP)(hS:St W L w):
  Calls Tryz.prog 185 #[] w fun e w'=>∃b,e=.returned (.P b)/\St W (w9 b bk0::L) w':=by
 refine(NQ7 W w L hS).mono ?_;rintro e w' ⟨b,rfl,hS⟩;refine⟨b,rfl,?_⟩
 have h1:∀(n:Nat) {L:List HP} {w:World},St W L w->St W (sats (C7 (List.replicate n (.slice none 0 0)) (List.replicate n []))::L) w:=by
  intro n
  induction n with
  | zero=>intro L w h;exact⟨h.os,h.tape,h.output,fun _=>false,trivial,h.sat⟩
  | succ n ih=>intro L w h;exact St.join ((ih h).rowNil (k:=6) (T:=173))
 exact K8 (vs:=List.replicate 8 (.slice none 0 0)) rfl rfl (h1 8 hS).swap
theorem Km7(bb:Nat)(bk:Bk)(o:Ord)(hok:BkOk bk)(W w:World)(L:List HP)(hS:St W (w9 bb bk::L) w):
  Calls Tryz.prog 150 #[.P bb,.agg o.cells.toArray] w fun e w'=>∃v,e=.returned (.tuple #[v,.I (E6 bk o).left,.I (E6 bk o).errno]) /\
   St W (w9 bb (E6 bk o).book::ag4 v (E6 bk o).trades::L) w':=by
 have hnil:∀{w:World},St W (w9 bb bk::L) w->St W (w9 bb bk::ag4 (.slice none 0 0) []::L) w:=fun h=>(h.rowNil (k:=8) (T:=243)).swap
 cases hb:J7 o
 ·have e:E6 bk o=⟨[],0,1,bk⟩:=by unfold E6;rw[if_pos (.inl hb)]
  rw[e];refine(LI7 bb bk o hok hb W w L hS).mono ?_;rintro e w' ⟨rfl,hS⟩;exact⟨_,rfl,hnil hS⟩
 ·by_cases hle:o.id<=bk.last
  ·have e:E6 bk o=⟨[],0,1,bk⟩:=by unfold E6;rw[if_pos (.inr hle)]
   rw[e];refine(LJ7 bb bk o hok hb hle W w L hS).mono ?_;rintro e w' ⟨rfl,hS⟩;exact⟨_,rfl,hnil hS⟩
  ·have hno:¬(J7 o=false\/o.id<=bk.last):=by rintro(h|h);(rw[hb]at h;cases h);exact hle h
   by_cases hf:32<=bk.len
   ·have e:E6 bk o=⟨[],0,6,bk⟩:=by unfold E6;rw[if_neg hno,if_pos hf]
    rw[e];refine(Kl7 bb bk o hok hb (by omega) hf W w L hS).mono ?_;rintro e w' ⟨rfl,hS⟩;exact⟨_,rfl,hnil hS⟩
   ·have e:(E6 bk o).errno=0:=by unfold E6;rw[if_neg hno,if_neg hf]
    rw[e];exact NS7 bb bk o hok hb (by omega) hf W w L hS
def ko1:Ord:=⟨1,⟨#[97]⟩,false,1,3,5⟩
def ko2:Ord:=⟨2,⟨#[98]⟩,true,1,2,7⟩
def kb1:Bk:=⟨[[],[],[],[],[],[ko1],[],[]],1⟩
def kb2:Bk:=⟨[[],[],[],[],[],[⟨1,⟨#[97]⟩,false,1,1,5⟩],[],[]],2⟩
def kt:Trd:=⟨⟨#[98]⟩,⟨#[97]⟩,2,1,1,2,5,7⟩
theorem Ba7(o:Ord)(W w:World)(L:List HP)(hS:St W L w):
  Calls Tryz.prog 134 #[.agg o.cells.toArray] w fun e w'=>e=.returned (.bool (J7 o))/\St W L w':=by
 obtain⟨i,u,y,t,c,p⟩:=o;simp only[Ord.cells];go_enter Tryz.func134,Tryz.ntmps134;go_wp2_with(first|refine zl1 hS ?_|refine zlN hS ?_|refine zs1 hS ?_;clear hS;intro w hS|refine zsN hS ?_;clear hS;intro w hS|refine zbx hS ?_;clear hS;intro b w hS|refine zal hS ?_;clear hS;intro b w hS)
 all_goals go_ret
 all_goals exact⟨by simp[J7, *];try omega,hS.drop⟩
end Go.Proofs.YtienbkdjkjbelaaGreat
end
