/-
  The document's way.
-/
import Derived.Test.YtjcfifkjbaffnaaGreatPkQM5
import Derived.Test.YtjcfifkjbaffnaaGreatPkQM25
set_option maxHeartbeats 16000000
set_option maxRecDepth 100000
set_option linter.unusedSimpArgs false
set_option linter.unusedVariables false
section
namespace Go.Proofs.YtjcfifkjbaffnaaGreat
open Go.RowKit Go.Sl
def MxR(W:World)(R:List HP)(zs:List Zo)(nxt:Int)(v3 v4:Value)(w:World):Prop:=
 ∃i:Nat,v4=.I i/\i<=zs.length/\(∀k (h:k<zs.length),k<i->H6 zs nxt zs[k] k)/\St W (row v3 2 53 i ((zs.take i).flatMap spC)::R) w
theorem Iq7{zs:List Zo}{v:Value}{V:World}{ver nxt:Int}(hv:d6 Zo.cells 9 V v zs)(hl:zs.length<=60)(W w:World)(R:List HP)(hS:St W (Old V::R) w):
  Calls Tryz.prog 20 #[.agg #[.I ver,.I nxt,v]] w fun e w'=>∃r,(r=true↔p7 ⟨ver,nxt,zs⟩)/\e=.returned (.bool r)/\St W (Old V::R) w':=by
 have Hv:=jH hv;obtain⟨a,cap,rfl,h63,hact⟩:=hv;have Hat:=jH hact;clear hact;go_enter Tryz.func20,Tryz.ntmps20;by_cases c1:ver<1
 ·have e1:decide (ver<1)=true:=decide_eq_true c1;have Hno:=jH (show ¬p7 ⟨ver,nxt,zs⟩from fun h=>by have h9:=h.1;simp only at h9;omega);clear c1;go_wp2_with(first|go_big_skip|refine zbx hS ?_;clear hS;intro b1 w hS|refine zl1 hS ?_);go_ret;exact⟨false,⟨fun h=>(by cases h),fun h=>absurd h Hno.out⟩,rfl,hS.s _⟩
 have e1:decide (ver<1)=false:=decide_eq_false c1;by_cases c2:1099511627776<ver
 ·have e2:decide (1099511627776<ver)=true:=decide_eq_true c2;have Hno:=jH (show ¬p7 ⟨ver,nxt,zs⟩from fun h=>by have h9:=h.2.1;simp only at h9;omega);clear c1 c2;go_wp2_with(first|go_big_skip|refine zbx hS ?_;clear hS;intro b1 w hS|refine zl1 hS ?_);go_ret;exact⟨false,⟨fun h=>(by cases h),fun h=>absurd h Hno.out⟩,rfl,hS.s _⟩
 have e2:decide (1099511627776<ver)=false:=decide_eq_false c2;by_cases c3:nxt<1
 ·have e3:decide (nxt<1)=true:=decide_eq_true c3;have Hno:=jH (show ¬p7 ⟨ver,nxt,zs⟩from fun h=>by have h9:=h.2.2.1;simp only at h9;omega);clear c1 c2 c3;go_wp2_with(first|go_big_skip|refine zbx hS ?_;clear hS;intro b1 w hS|refine zl1 hS ?_);go_ret;exact⟨false,⟨fun h=>(by cases h),fun h=>absurd h Hno.out⟩,rfl,hS.s _⟩
 have e3:decide (nxt<1)=false:=decide_eq_false c3;by_cases c4:1099511627776<nxt
 ·have e4:decide (1099511627776<nxt)=true:=decide_eq_true c4;have Hno:=jH (show ¬p7 ⟨ver,nxt,zs⟩from fun h=>by have h9:=h.2.2.2.1;simp only at h9;omega);clear c1 c2 c3 c4;go_wp2_with(first|go_big_skip|refine zbx hS ?_;clear hS;intro b1 w hS|refine zl1 hS ?_);go_ret;exact⟨false,⟨fun h=>(by cases h),fun h=>absurd h Hno.out⟩,rfl,hS.s _⟩
 have e4:decide (1099511627776<nxt)=false:=decide_eq_false c4;by_cases c5:16<zs.length
 ·have e5:decide ((16:Int)<(zs.length:Int))=true:=by simp;omega
  have Hno:=jH (show ¬p7 ⟨ver,nxt,zs⟩from fun h=>by have h9:=h.2.2.2.2.1;simp only at h9;omega);clear c1 c2 c3 c4 c5;go_wp2_with(first|go_big_skip|refine zbx hS ?_;clear hS;intro b1 w hS|refine zl1 hS ?_);go_ret;exact⟨false,⟨fun h=>(by cases h),fun h=>absurd h Hno.out⟩,rfl,hS.s _⟩
 have e5:decide ((16:Int)<(zs.length:Int))=false:=by simp;omega
 have hl16:zs.length<=16:=by omega
 have Hhd:=jH (show(∀i (h:i<zs.length),H6 zs nxt zs[i] i)->C8 zs ⟨#[]⟩ true=true->p7 ⟨ver,nxt,zs⟩from fun h h2=>⟨by show 1<=ver;omega,by show ver<=1099511627776;omega,by show 1<=nxt;omega,by show nxt<=1099511627776;omega,hl16,h,h2⟩);clear c1 c2 c3 c4 c5;go_wp2_with(first|go_big_skip|refine zbx hS ?_;clear hS;intro b1 w hS|refine zl1 hS ?_);have hS1:=(hS.s (blk b1 _ _::Old V::R)).rowNil (k:=2) (T:=53);clear hS
 go_loopw [3,4] (fun v3 v4 wr=>MxR W (blk b1 [.I ver,.I nxt,.slice a zs.length cap] 24::Old V::R) zs nxt v3 v4 wr) (fun _ v4 _=>zs.length-(intOf v4).toNat)
 case atStart=>exact⟨0,rfl,Nat.zero_le _,fun k _ h=>absurd h (Nat.not_lt_zero _),hS1⟩
 case round=>
  clear hS1;obtain⟨i,rfl,hi,hok,hS⟩:=hrel;obtain⟨va,vc,rfl⟩:=hS.rowVal;by_cases hil:i<zs.length
  ·have d1:decide (i<zs.length)=true:=decide_eq_true hil;have hst:(zs.take (i+1)).flatMap spC=(zs.take i).flatMap spC++spC zs[i]:=by rw[List.take_succ_eq_append_getElem hil,List.flatMap_append];simp
   obtain⟨pb,poff,rfl,hall⟩:=Hat.out i hil
   have hnx:H6 zs nxt zs[i] i->∀k (h:k<zs.length),k<i+1->H6 zs nxt zs[k] k:=fun h k hk hlt=>by
    rcases Nat.lt_or_ge k i with h1|h1
    ·exact hok k hk h1
    ·obtain rfl:k=i:=by omega
     exact h
   obtain⟨D,hD⟩:∃D,D=H6 zs nxt zs[i] i:=⟨_,rfl⟩
   have HD:=jH hD;have hbad:p7 ⟨ver,nxt,zs⟩->H6 zs nxt zs[i] i:=fun h=>h.2.2.2.2.2.1 i hil
   rw[<-hD]at hnx hbad;have Hnx:=jH hnx;have Hbad:=jH hbad;clear hD hnx hbad hok hi;generalize hz:zs[i]=z at hst hall;have Hz:=jH hz;clear hz;obtain⟨z0,z1,z2,z3,z4,z5,z6,z7,z8⟩:=z;simp only[Zo.cells]at hall
   have hsp0:∀j u,[Value.string z1,Value.string z2][j]? = some u->V.cell? ⟨pb,poff+i*9+1+j,none⟩=some u:=fun j u hj=>by
    match j,hj with
    | 0,hj=>exact hall 1 u hj
    | 1,hj=>exact hall 2 u hj
    | j+2,hj=>simp at hj
   have Hst:=jH hst;clear hst hall;go_wp2_with(first|go_big_skip|refine zlN hS ?_ (vs:=[.string z1,.string z2]) (hc:=by exact a7.old (by exact b8) hsp0)|refine zlN hS ?_|refine zl1 hS ?_|(go_at_call 47;refine(Hm7 (ver:=ver) (nxt:=nxt) Hv.out hl16 hil W _ _ (hS.s (Old V::row (.slice va i vc) 2 53 i ((zs.take i).flatMap spC)::blk b1 _ _::R))).mono ?_;clear hS;rintro e w ⟨q,hq,rfl,hS⟩;(have Hq:=jH hq;clear hq);cases q)|refine zbs hS ?_;clear hS;intro bS w hS|(with_reducible apply At7 hS);rfl;rfl;rfl;rfl;exact esS;exact rsS;rfl;decide;exact d7;exact Src.mk a7.whole;(focus(try rfl));rfl;(focus(unfold maxLen;omega));(focus(omega));clear hS;intro v w hS;refine frS ?_)
   ·go_ret;exact⟨false,⟨fun h=>(by cases h),fun h=>absurd (Hq.out.2 (HD.out▸Hbad.out h)) Bool.false_ne_true⟩,rfl,hS.s _⟩
   ·have hS1:=hS.s (row v 2 53 (i+1) _::blk b1 _ _::Old V::R);clear hS;go_roundw
    case rel=>exact⟨i+1,rfl,hil,Hnx.out (by rw[HD.out];exact Hq.out.1 (by simp)),by rw[Hst.out];exact hS1⟩
    case measure=>simp[intOf];omega
  ·have d1:decide (i<zs.length)=false:=decide_eq_false hil;have Hok:=jH hok;clear hok;obtain rfl:i=zs.length:=by omega
   rw[List.take_length]at hS;obtain⟨r,hr⟩:∃r,C8 zs ⟨#[]⟩ true=r:=⟨_,rfl⟩
   have Hr:=jH hr;clear hr hi;go_wp2_with(first|go_big_skip|refine zl1 hS ?_|go_at_call 48;refine(Ip7 Hr.out hl W _ _ (hS.s (row (.slice va zs.length vc) 2 53 zs.length (zs.flatMap spC)::Old V::R))).mono ?_;clear hS;rintro e w ⟨rfl,hS⟩);go_ret;exact⟨r,⟨fun h=>Hhd.out (fun k hk=>Hok.out k hk hk) (Hr.out.trans h),fun h=>Hr.out.symm.trans h.2.2.2.2.2.2⟩,rfl,hS.s _⟩
section
variable{W w:World}{L L1 L2:List HP}{A B:HP}
theorem St.take2(h1:Take L A L1)(h2:Take L1 B L2)(h:St W L w):St W (A::B::L2) w:=((h.take h1).take (.tail h2)).swap
theorem St.back2(h1:Take L A L1)(h2:Take L1 B L2)(h:St W (A::B::L2) w):St W L w:=(h.swap.back (.tail h2)).back h1
end
structure De where
 pb:Nat
 ver:Int
 nxt:Int
 zv:Value
 hv:Value
 lv:Value
def dsB(D:De)(nv ov tv:Value)(mvs:Int):HP:=blk D.pb [.I D.ver,.I D.nxt,D.zv,D.hv,D.lv,nv,ov,tv,.I mvs] 69
def dsX(D:De)(nm:List Bool)(out:List Cg)(to:List Int)(mvs:Int)(nv ov tv:Value):List HP:=[dsB D nv ov tv mvs,row nv 1 4 nm.length (nm.map kB),row ov 5 64 out.length (out.flatMap Cg.cells),row tv 1 3 to.length (to.map kI)]
def dsP(D:De)(nm:List Bool)(out:List Cg)(to:List Int)(mvs:Int):HP:=fun f=>∃x:Value×Value×Value,sats (dsX D nm out to mvs x.1 x.2.1 x.2.2) f
section
variable{D:De}{nm:List Bool}{out:List Cg}{to:List Int}{mvs:Int}{W w:World}{R:List HP}
theorem i6(h:St W (dsP D nm out to mvs::R) w):∃nv ov tv,St W (dsB D nv ov tv mvs::row nv 1 4 nm.length (nm.map kB)::row ov 5 64 out.length (out.flatMap Cg.cells)::row tv 1 3 to.length (to.map kI)::R) w:=by obtain⟨⟨nv,ov,tv⟩,h1⟩:=St.ex h;exact⟨nv,ov,tv,St.openP h1⟩
theorem g8{nv ov tv:Value}(h:St W (dsB D nv ov tv mvs::row nv 1 4 nm.length (nm.map kB)::row ov 5 64 out.length (out.flatMap Cg.cells)::row tv 1 3 to.length (to.map kI)::R) w):St W (dsP D nm out to mvs::R) w:=by have h1:St W (sats (dsX D nm out to mvs nv ov tv)::R) w:=St.shutP _ h;exact St.mkEx (nv,ov,tv) h1
end
def RwR(W:World)(R:List HP)(l:List Ro)(n:Int)(x:Ro)(v:Value)(w:World):Prop:=
 ∃i:Nat,v=.I i/\i<=l.length/\C5 (l.drop i) n=x/\St W R w
theorem bF4(w:World):(Instr.build 71 #[]).run Tryz.prog w=.ok (.agg #[.I 0,.I 0,.string bN]) w:=by kernel_rfl
theorem Hn7{D:De}{nm:List Bool}{out:List Cg}{to:List Int}{mvs:Int}{l:List Ro}{V:World}{n:Int}{x:Ro}(hl:d6 Ro.cells 3 V D.lv l)(hll:l.length<=60)(hx:C5 l n=x){W w:World}{R R1 R2:List HP}(ht:Take R (dsP D nm out to mvs) R1)(hm:Take R1 (Old V) R2)(hS:St W R w):
  Calls Tryz.prog 50 #[.pointer (some ⟨D.pb,0,none⟩),.I n] w fun e w'=>e=.returned (.agg x.cells.toArray)/\St W R w':=by
 suffices h:Calls Tryz.prog 50 #[.pointer (some ⟨D.pb,0,none⟩),.I n] w fun e w'=>e=.returned (.agg x.cells.toArray)/\St W (dsP D nm out to mvs::Old V::R2) w' by refine h.mono ?_;rintro e w' ⟨rfl,h2⟩;exact⟨rfl,St.back2 ht hm h2⟩
 obtain⟨nv,ov,tv,hS1⟩:=i6 (St.take2 ht hm hS);clear hS ht hm;have hS:=hS1;clear hS1;have Hsh:=jH (fun w=>g8 (D:=D) (nm:=nm) (out:=out) (to:=to) (mvs:=mvs) (W:=W) (w:=w) (R:=Old V::R2) (nv:=nv) (ov:=ov) (tv:=tv));unfold dsB at hS Hsh;obtain⟨pb,ver,nxt,zv,hv,lv⟩:=D;simp only at hS hl Hsh ⊢;obtain⟨a,cap,rfl,h63,hact⟩:=hl;have Hat:=jH hact;clear hact;go_enter Tryz.func50,Tryz.ntmps50;go_wp2_with(first|go_big_skip|refine zal hS ?_;clear hS;intro b4 w hS)
 go_loopw [5] (fun v5 wr=>RwR W (blk b4 [.I 0,.I 0,.string bN] 71::blk pb [.I ver,.I nxt,zv,hv,.slice a l.length cap,nv,ov,tv,.I mvs] 69::row nv 1 4 nm.length (nm.map kB)::row ov 5 64 out.length (out.flatMap Cg.cells)::row tv 1 3 to.length (to.map kI)::Old V::R2) l n x v5 wr) (fun v5 _=>l.length-(intOf v5).toNat)
 case atStart=>exact⟨0,rfl,Nat.zero_le _,hx,hS⟩
 case round=>
  clear hS hx;obtain⟨i,rfl,hi,hx,hS⟩:=hrel;by_cases hil:i<l.length
  ·have d1:decide (i<l.length)=true:=decide_eq_true hil;obtain⟨pb2,poff,rfl,hall⟩:=Hat.out i hil;rw[List.drop_eq_getElem_cons hil,C5]at hx;generalize l[i]=r at hall hx;obtain⟨r0,r1,r2⟩:=r;simp only[Ro.cells]at hall hx;have hy0:V.cell? ⟨pb2,poff+i*3,none⟩=some (.I r0):=hall 0 _ rfl;by_cases h0:r0=n
   ·have e0:(r0==n)=true:=by simpa using h0
    rw[if_pos h0]at hx;have Hx:=jH hx;clear hx h0 hi;go_wp2_with(first|go_big_skip|refine zl1 hS ?_ (v:=.I r0) (hc:=by exact a8.old (by exact b8) hy0)|refine zlN hS ?_ (vs:=[.I r0,.I r1,.string r2]) (hc:=by exact a7.old (by exact b8) hall)|refine zal hS ?_;clear hS;intro b6 w hS|refine zsN hS ?_;clear hS;intro w hS|refine zl1 hS ?_|refine zlN hS ?_|refine zs1 hS ?_;clear hS;intro w hS);apply Eu7;rfl;rfl;rfl;exact hS;decide +kernel;(exact s9);kernel_rfl;rw[<-Hx.out];exact⟨rfl,Hsh.out _ (hS.s _)⟩
   ·have e0:(r0==n)=false:=by simpa using h0
    rw[if_neg h0]at hx;have Hx:=jH hx;clear hx h0 hi;go_wp2_with(first|go_big_skip|refine zl1 hS ?_|refine zl1 hS ?_ (v:=.I r0) (hc:=by exact a8.old (by exact b8) hy0));go_roundw
    case rel=>exact⟨i+1,rfl,hil,Hx.out,hS⟩
    case measure=>simp[intOf];omega
  ·have d1:decide (i<l.length)=false:=decide_eq_false hil;rw[List.drop_eq_nil_of_le (by omega)]at hx;have Hx:=jH hx;clear hx hi;go_wp2_with(first|go_big_skip|refine zl1 hS ?_|(with_reducible apply Bp7);rfl;rfl;(focus(simp only[fD,fI,fJ,Act.eval,fE,fF,fG,fH,fK];try rfl));intro w;exact bF4 w;refine frS ?_|refine zsN hS ?_;clear hS;intro w hS);apply Eu7;rfl;rfl;rfl;exact hS;decide +kernel;(exact s9);kernel_rfl;rw[<-Hx.out];exact⟨rfl,Hsh.out _ hS.drop⟩
theorem cn4(a b:Int)(c:ByteArray)(w:World):(Instr.field 71 (.agg #[.I a,.I b,.string c]) 1).run Tryz.prog w=.ok (.I b) w:=by kernel_rfl
theorem Ho7{P:Program}{ops:Array Oper}{Q:Exit->Act->World->Prop}{a:Act}{rest:List Oper}{o:Oper}{w:World}{t:TypeId}{x:Operand}{i:Nat}{u v:Value}(ho:o.op=.field t x i)(hg:Region.wanted o (yielded ops a.tmps)=true)(hx:a.eval x=u)(hr:∀w:World,(Instr.field t u i).run P w=.ok v w)
  (h:wpList P ops Q rest (a.put o.dst v) w):wpList P ops Q (o::rest) a w:=by
 refine Al7 hg (v:=v) (w':=w) ?_ h;unfold execOp;simp only[ho,hx,Sem.run_bind,hr,Result.andThen_ok,Sem.run_pure]
theorem Fu7{α:Type}{f:α->Value}{xs:List α}{g c i:Nat}{T:TypeId}{L L':List HP}(hu:Take L (row (.S g xs.length c) 1 T xs.length (xs.map f)) L')(h:i<xs.length):a8 L g i (f xs[i]):=fun W w hS=>by
 have h1:(xs.flatMap fun x=>[f x])=xs.map f:=by
  clear hu h
  induction xs with
  | nil=>rfl
  | cons x xs ih=>simp[ih]
 have h2:=a7.elemM (enc:=fun x=>[f x]) (fun _=>rfl) (by rw[h1];exact hu) h 0 _ rfl W w hS;simpa using h2
section
variable{D:De}{nm:List Bool}{out:List Cg}{to:List Int}{mvs:Int}{l:List Ro}{zs:List Zo}{V:World}
theorem Aq7(hz:d6 Zo.cells 9 V D.zv zs)(hl:d6 Ro.cells 3 V D.lv l)(hll:l.length<=60){i:Nat}(hi:i<zs.length){x:Int}(hx:i9 l zs[i]=x){W w:World}{R R1 R2:List HP}(ht:Take R (dsP D nm out to mvs) R1)(hm:Take R1 (Old V) R2)(hS:St W R w):
  Calls Tryz.prog 55 #[.pointer (some ⟨D.pb,0,none⟩),.I i] w fun e w'=>e=.returned (.I x)/\St W R w':=by
 suffices h:Calls Tryz.prog 55 #[.pointer (some ⟨D.pb,0,none⟩),.I i] w fun e w'=>e=.returned (.I x)/\St W (dsP D nm out to mvs::Old V::R2) w' by refine h.mono ?_;rintro e w' ⟨rfl,h2⟩;exact⟨rfl,St.back2 ht hm h2⟩
 obtain⟨nv,ov,tv,hS1⟩:=i6 (St.take2 ht hm hS);clear hS ht hm;have hS:=hS1;clear hS1;have Hsh:=jH (fun w=>g8 (D:=D) (nm:=nm) (out:=out) (to:=to) (mvs:=mvs) (W:=W) (w:=w) (R:=Old V::R2) (nv:=nv) (ov:=ov) (tv:=tv));have Hl:=jH hl;clear hl;unfold dsB at hS Hsh;obtain⟨pb,ver,nxt,zv,hv,lv⟩:=D;simp only at hS hz Hl Hsh ⊢;obtain⟨a,cap,rfl,h63,hact⟩:=hz;obtain⟨zb,zoff,rfl,hall⟩:=hact i hi;clear hact;generalize zs[i]=z at hall hx;obtain⟨z0,z1,z2,z3,z4,z5,z6,z7,z8⟩:=z;simp only[Zo.cells]at hall;have hy0:V.cell? ⟨zb,zoff+i*9,none⟩=some (.I z0):=hall 0 _ rfl;unfold i9 at hx;simp only at hx;obtain⟨r,hr⟩:∃r,C5 l z0=r:=⟨_,rfl⟩
 rw[hr]at hx;obtain⟨r0,r1,r2⟩:=r;simp only at hx;subst hx;have Hx:=jH hr;clear hr hall;go_enter Tryz.func55,Tryz.ntmps55;go_wp2_with(first|go_big_skip|refine zl1 hS ?_|refine zl1 hS ?_ (v:=.I z0) (hc:=by exact a8.old (by exact b8) hy0)|go_at_call 50;refine(Hn7 (D:=⟨pb,ver,nxt,_,hv,lv⟩) Hl.out hll Hx.out .head .head (Hsh.out _ hS)).mono ?_;clear hS;rintro e w ⟨rfl,hS⟩|(apply Ho7);rfl;rfl;rfl;intro w;exact cn4 _ _ _ w;refine frS ?_);go_ret;exact⟨rfl,hS⟩
theorem Ar7(hz:d6 Zo.cells 9 V D.zv zs)(hn:nm.length=zs.length){i:Nat}(hi:i<zs.length){x:Bool}(hx:(decide (zs[i].pend=0)&&!(nm.getD i false))=x){W w:World}{R R1 R2:List HP}(ht:Take R (dsP D nm out to mvs) R1)(hm:Take R1 (Old V) R2)(hS:St W R w):
  Calls Tryz.prog 52 #[.pointer (some ⟨D.pb,0,none⟩),.I i] w fun e w'=>e=.returned (.bool x)/\St W R w':=by
 suffices h:Calls Tryz.prog 52 #[.pointer (some ⟨D.pb,0,none⟩),.I i] w fun e w'=>e=.returned (.bool x)/\St W (dsP D nm out to mvs::Old V::R2) w' by refine h.mono ?_;rintro e w' ⟨rfl,h2⟩;exact⟨rfl,St.back2 ht hm h2⟩
 obtain⟨nv,ov,tv,hS1⟩:=i6 (St.take2 ht hm hS);clear hS ht hm;have hS:=hS1;clear hS1;have Hsh:=jH (fun w=>g8 (D:=D) (nm:=nm) (out:=out) (to:=to) (mvs:=mvs) (W:=W) (w:=w) (R:=Old V::R2) (nv:=nv) (ov:=ov) (tv:=tv));unfold dsB at hS Hsh;obtain⟨pb,ver,nxt,zv,hv,lv⟩:=D;simp only at hS hz Hsh ⊢;obtain⟨a,cap,rfl,h63,hact⟩:=hz;obtain⟨zb,zoff,rfl,hall⟩:=hact i hi;clear hact;have hn0:0<nm.length:=by omega
 obtain⟨_,_,rfl⟩:=(St.drop hS).rowVal;obtain⟨⟨ng,rfl⟩,_,_⟩:=St.rowAddr hS.drop hn0;have hil:i<nm.length:=by omega
 have hnc:∀{K K':List HP} {c:Nat},Take K (row (.S ng nm.length c) 1 4 nm.length (nm.map kB)) K'->a8 K ng i (kB nm[i]):=fun{K K' c} hu=>Fu7 hu hil
 have hgd:nm.getD i false=nm[i]:=by simp[List.getD,hil]
 rw[hgd]at hx;clear hgd;generalize nm[i]=q at hnc hx;generalize zs[i]=z at hall hx;obtain⟨z0,z1,z2,z3,z4,z5,z6,z7,z8⟩:=z;simp only[Zo.cells]at hall;simp only at hx;have hy5:V.cell? ⟨zb,zoff+i*9+5,none⟩=some (.I z5):=hall 5 _ rfl;clear hall;have e5:decide (z5=0)=(z5==0):=by rw[Bool.eq_iff_iff];simp
 rw[e5]at hx;have Hx:=jH hx;clear hx e5;have hnl:i<nm.length:=hil;go_enter Tryz.func52,Tryz.ntmps52
 cases h5:z5==0 with
 | false=>
  go_wp2_with(first|go_big_skip|refine zl1 hS ?_|refine zl1 hS ?_ (v:=.I z5) (hc:=by exact a8.old (by exact b8) hy5)|refine zl1 hS ?_ (v:=.bool q) (hc:=by exact hnc (by exact d7)));go_ret;rw[<-Hx.out,h5];exact⟨rfl,Hsh.out _ hS⟩
 | true=>
  go_wp2_with(first|go_big_skip|refine zl1 hS ?_|refine zl1 hS ?_ (v:=.I z5) (hc:=by exact a8.old (by exact b8) hy5)|refine zl1 hS ?_ (v:=.bool q) (hc:=by exact hnc (by exact d7)));go_ret;rw[<-Hx.out,h5];exact⟨rfl,Hsh.out _ hS⟩
end
theorem IP7{nm:List Bool}{junk:List Value}{i:Nat}(h:i<nm.length):(nm.map kB++junk).set i (.bool true)=(nm.set i true).map kB++junk:=by rw[List.set_append_left _ _ (by rw[jM];exact h),List.map_set]
theorem Dy7{D:De}{nm:List Bool}{out:List Cg}{to:List Int}{mvs:Int}{zs:List Zo}{V:World}(hz:d6 Zo.cells 9 V D.zv zs)(hn:nm.length=zs.length){i:Nat}(hi:i<zs.length)(c0 c1 c2 c3:Int)(c4:ByteArray)(hl:out.length<=1000)(W w:World)(R:List HP)(hS:St W (dsP D nm out to mvs::Old V::R) w):
  Calls Tryz.prog 53 #[.pointer (some ⟨D.pb,0,none⟩),.I i,.agg #[.I c0,.I c1,.I c2,.I c3,.string c4]] w fun e w'=>e=.returned (.tuple #[])/\St W (dsP D (nm.set i true) (out++[⟨c0,zs[i].id,c2,c3,c4⟩]) to mvs::Old V::R) w':=by
 obtain⟨nv,ov,tv,hS1⟩:=i6 hS;clear hS;have hS:=hS1;clear hS1;have Hsh:=jH (fun w nv ov x=>g8 (D:=D) (nm:=nm.set i true) (out:=out++[⟨c0,x,c2,c3,c4⟩]) (to:=to) (mvs:=mvs) (W:=W) (w:=w) (R:=Old V::R) (nv:=nv) (ov:=ov) (tv:=tv));unfold dsB at hS Hsh;obtain⟨pb,ver,nxt,zv,hv,lv⟩:=D;simp only at hS hz Hsh ⊢;obtain⟨a,cap,rfl,h63,hact⟩:=hz;obtain⟨zb,zoff,rfl,hall⟩:=hact i hi;clear hact;generalize zs[i]=z at hall;obtain⟨z0,z1,z2,z3,z4,z5,z6,z7,z8⟩:=z;simp only[Zo.cells]at hall;have hy0:V.cell? ⟨zb,zoff+i*9,none⟩=some (.I z0):=hall 0 _ rfl;clear hall;have hn0:0<nm.length:=by omega
 have hil:i<nm.length:=by omega
 obtain⟨_,nc,rfl⟩:=(St.drop hS).rowVal;obtain⟨⟨ng,rfl⟩,_,_⟩:=St.rowAddr hS.drop hn0;go_enter Tryz.func53,Tryz.ntmps53;go_wp2_with(first|go_big_skip|refine zbx hS ?_ (v:=.agg #[.I c0,.I c1,.I c2,.I c3,.string c4]) (l:=[.I c0,.I c1,.I c2,.I c3,.string c4]);clear hS;intro b4 w hS|refine zl1 hS ?_ (v:=.I z0) (hc:=by exact a8.old (by exact b8) hy0)|refine zl1 hS ?_|refine zs1 hS ?_;clear hS;intro w hS);have hS1:=hS.s (blk pb [.I ver,.I nxt,.slice (some ⟨zb,zoff,none⟩) zs.length cap,hv,lv,.S ng nm.length nc,ov,tv,.I mvs] 69::row ov 5 64 out.length (out.flatMap Cg.cells)::blk b4 [.I c0,.I z0,.I c2,.I c3,.string c4] 64::row (.S ng nm.length nc) 1 4 nm.length (nm.map kB)::row tv 1 3 to.length (to.map kI)::Old V::R);clear hS;obtain⟨oa,oc,rfl⟩:=hS1.drop.rowVal
 refine rf2 [0,0,2,6,14,0,32,126,255,511,1023] (fun i=>i==6||i==7) [⟨some 6,none,fun nd=>I6 (nd 6) 1 1 [.I c0,.I z0,.I c2,.I c3,.string c4] 64⟩,⟨some 7,none,fun nd=>row (nd 7) 5 64 (out.length+1) (out.flatMap Cg.cells++[.I c0,.I z0,.I c2,.I c3,.string c4])⟩,⟨some 10,none,fun nd=>blk pb [.I ver,.I nxt,.slice (some ⟨zb,zoff,none⟩) zs.length cap,hv,lv,.S ng nm.length nc,nd 7,tv,.I mvs] 69⟩]
  [some 10,some 7,none] hS1 ?_
 intro nd
 repeat(first|refine zc1 ?_|refine zcN ?_|apply ay4;rfl;rfl;rfl;(focus(simp only[fD,fI,fJ,Act.eval,fE,fF,fG,fH,fK];try rfl));exact esS;exact rsS;rfl;rfl;rfl;rfl;intro _;rfl;rfl;intro _;rfl;refine frS ?_|apply Ch7;rfl;rfl;rfl;(focus((conv=>lhs;whnf);try rfl));(focus((conv=>lhs;whnf);try rfl));exact esS;exact rsS;rfl;decide;rfl;intro F w hS;exact Dg7 hS (by exact I7);(focus(try rfl));rfl;(focus(unfold maxLen;omega));(focus(omega));intro _;rfl;intro _;rfl;refine frS ?_|(apply Gj7;rfl;rfl;rfl;rfl;(focus((conv=>lhs;whnf);try rfl));kernel_rfl;rfl;intro F w hS;exact hS.rowOne (by exact I7);(focus(simp));rfl;rfl;try(refine frS ?_))|refine zcn ?_|refine cR ?_)
 refine AC7 ?_;clear hS1;intro w hS0;have hS1:St W [I6 (nd 6) 1 1 _ _,row (nd 7) 5 _ (out.length+1) _,blk pb [.I ver,.I nxt,.slice (some ⟨zb,zoff,none⟩) zs.length cap,hv,lv,.S ng nm.length nc,nd 7,tv,.I mvs] 69,blk b4 [.I c0,.I z0,.I c2,.I c3,.string c4] 64,sats _] w:=hS0;generalize nd 7=v7 at *;have hS2:=hS1.drop.unpack [_,_,_];clear hS0 hS1;simp only[jK,jN]at hS2;have hS3:=hS2.s (row (.S ng nm.length nc) 1 4 nm.length (nm.map kB)::row v7 5 _ (out.length+1) _::blk pb [.I ver,.I nxt,.slice (some ⟨zb,zoff,none⟩) zs.length cap,hv,lv,.S ng nm.length nc,v7,tv,.I mvs] 69::row tv 1 3 to.length (to.map kI)::Old V::R);clear hS2
 rcases hS3.rowOpen with ⟨h9,_,_⟩|⟨g9,cap9,junk,h9,hj1,hj2,hj3,hj4,hS⟩
 ·cases h9
 cases h9
 clear hS3;have hset:=IP7 (junk:=junk) hil;have hlen:i<(nm.map kB++junk).length:=by rw[jA,jM];omega
 have Hset:=jH hset;have Hlen:=jH hlen;clear hset hlen;generalize nm.map kB++junk=cs at *;go_wp2_with(first|go_big_skip|refine zl1 hS ?_|refine zs1 hS ?_ (hl:=by exact Hlen.out) (he:=by exact Hset.out);clear hS;intro w hS);go_end0;have h9:=hS.rowShut (k:=1) (n:=nm.length) (cap:=nc) (cs:=(nm.set i true).map kB) (junk:=junk) hj1 hj2 (by rw[<-Hset.out,List.length_set];exact hj3) (by simp);refine⟨rfl,Hsh.out w (.S ng nm.length nc) v7 z0 ?_⟩;have h10:=h9.s (blk pb [.I ver,.I nxt,.slice (some ⟨zb,zoff,none⟩) zs.length cap,hv,lv,.S ng nm.length nc,v7,tv,.I mvs] 69::row (.S ng nm.length nc) 1 4 nm.length ((nm.set i true).map kB)::row v7 5 _ (out.length+1) _::row tv 1 3 to.length (to.map kI)::Old V::R);rw[jA,List.flatMap_append,List.length_set];exact h10
def NxT(zs:List Zo)(n:Int)(i:Nat)(v:Int):Prop:=(v = -1/\∀j (h:j<zs.length),j<i->zs[j].id<=n)\/∃p:Nat,v=p/\p<i/\∃h:p<zs.length,n<zs[p].id/\∀j (h:j<zs.length),j<i->n<zs[j].id->zs[p].id<=zs[j].id
theorem Jx7{zs:List Zo}{n v:Int}(h:NxT zs n zs.length v):NxI zs n v:=by
 rcases h with ⟨h1,h2⟩|⟨p,h1,_,hp,h2,h3⟩
 ·refine .inl ⟨h1,fun z hz=>?_⟩;obtain⟨j,hj,rfl⟩:=List.getElem_of_mem hz;exact h2 j hj hj
 ·refine .inr ⟨p,h1,hp,h2,fun z hz=>?_⟩;obtain⟨j,hj,rfl⟩:=List.getElem_of_mem hz;exact h3 j hj hj
theorem Ir7{zs:List Zo}{n v:Int}{i:Nat}(h:NxT zs n i v)(hk:∀h:i<zs.length,n<zs[i].id->∃p:Nat,v=p/\∃h:p<zs.length,zs[p].id<=zs[i].id):NxT zs n (i+1) v:=by
 rcases h with ⟨h1,h2⟩|⟨p,h1,hpi,hp,h2,h3⟩
 ·refine .inl ⟨h1,fun j hj hji=>?_⟩
  rcases Nat.lt_or_ge j i with h4|h4
  ·exact h2 j hj h4
  ·obtain rfl:j=i:=by omega
   refine Int.not_lt.1 fun h5=>?_
   obtain⟨p,h6,_⟩:=hk hj h5;omega
 ·refine .inr ⟨p,h1,by omega,hp,h2,fun j hj hji h4=>?_⟩
  rcases Nat.lt_or_ge j i with h5|h5
  ·exact h3 j hj h5 h4
  ·obtain rfl:j=i:=by omega
   obtain⟨p2,h6,_,h7⟩:=hk hj h4;obtain rfl:p2=p:=by omega
   exact h7
theorem Is7{zs:List Zo}{n v:Int}{i:Nat}(h:NxT zs n i v)(hi:i<zs.length)(hn:n<zs[i].id)(hk:∀p:Nat,v=p->∀h:p<zs.length,zs[i].id<=zs[p].id):NxT zs n (i+1) i:=by
 refine .inr ⟨i,rfl,by omega,hi,hn,fun j hj hji h4=>?_⟩
 rcases Nat.lt_or_ge j i with h5|h5
 ·rcases h with ⟨h1,h2⟩|⟨p,h1,hpi,hp,h2,h3⟩
  ·have:=h2 j hj h5;omega
  ·have:=h3 j hj h5 h4;have:=hk p h1 hp;omega
 ·obtain rfl:j=i:=by omega
  exact Int.le_refl _
def NxR(W:World)(R:List HP)(zs:List Zo)(n:Int)(v5 v6:Value)(w:World):Prop:=
 ∃(i:Nat) (v:Int),v5=.I v/\v6=.I i/\i<=zs.length/\NxT zs n i v/\St W R w
theorem Bc7{D:De}{nm:List Bool}{out:List Cg}{to:List Int}{mvs:Int}{zs:List Zo}{V:World}(hz:d6 Zo.cells 9 V D.zv zs)(hzl:zs.length<=60)(n:Int)(W w:World)(R:List HP)(hS:St W (dsP D nm out to mvs::Old V::R) w):
  Calls Tryz.prog 49 #[.pointer (some ⟨D.pb,0,none⟩),.I n] w fun e w'=>∃v,NxI zs n v/\e=.returned (.I v)/\St W (dsP D nm out to mvs::Old V::R) w':=by
 obtain⟨nv,ov,tv,hS1⟩:=i6 hS;clear hS;have hS:=hS1;clear hS1;have Hsh:=jH (fun w=>g8 (D:=D) (nm:=nm) (out:=out) (to:=to) (mvs:=mvs) (W:=W) (w:=w) (R:=Old V::R) (nv:=nv) (ov:=ov) (tv:=tv));unfold dsB at hS Hsh;obtain⟨pb,ver,nxt,zv,hv,lv⟩:=D;simp only at hS hz Hsh ⊢;obtain⟨a,cap,rfl,h63,hact⟩:=hz;have Hat:=jH hact;clear hact;go_enter Tryz.func49,Tryz.ntmps49;go_wp2_with(first|go_big_skip)
 go_loopw [5,6] (fun v5 v6 wr=>NxR W (blk pb [.I ver,.I nxt,.slice a zs.length cap,hv,lv,nv,ov,tv,.I mvs] 69::row nv 1 4 nm.length (nm.map kB)::row ov 5 64 out.length (out.flatMap Cg.cells)::row tv 1 3 to.length (to.map kI)::Old V::R) zs n v5 v6 wr) (fun _ v6 _=>zs.length-(intOf v6).toNat)
 case atStart=>exact⟨0, -1,rfl,rfl,Nat.zero_le _,.inl ⟨rfl,fun j _ h=>absurd h (Nat.not_lt_zero _)⟩,hS⟩
 case round=>
  clear hS;obtain⟨i,v,rfl,rfl,hi,hnx,hS⟩:=hrel;by_cases hil:i<zs.length
  ·have d1:decide (i<zs.length)=true:=decide_eq_true hil;obtain⟨zb,zoff,rfl,hall⟩:=Hat.out i hil;have hx0:V.cell? ⟨zb,zoff+i*9,none⟩=some (.I zs[i].id):=hall 0 _ rfl;clear hall;have hkeep:(n<zs[i].id->∃p:Nat,v=p/\∃h:p<zs.length,zs[p].id<=zs[i].id)->NxT zs n (i+1) v:=fun h=>Ir7 hnx fun _=>h
   have hturn:=Is7 hnx hil;obtain⟨x,hx⟩:∃x,zs[i].id=x:=⟨_,rfl⟩
   rw[hx]at hx0 hkeep hturn;by_cases c1:n<x
   case neg=>
    have e1:decide (n<x)=false:=decide_eq_false c1;have Hk:=jH (hkeep fun h=>absurd h c1);clear hkeep hturn hnx hx c1;go_wp2_with(first|go_big_skip|(fail_if_success (have:=f0));refine zl1 hS ?_ (v:=.I x) (hc:=by exact a8.old (by exact b8) hx0);have f0:Nat:=0|refine zl1 hS ?_);go_roundw
    case rel=>exact⟨i+1,v,rfl,rfl,hil,Hk.out,hS⟩
    case measure=>simp[intOf];omega
   have e1:decide (n<x)=true:=decide_eq_true c1
   rcases hnx with ⟨rfl,_⟩|⟨p,rfl,hpi,hp,_,_⟩
   ·have Hk:=jH (hturn c1 fun p hp=>by omega);clear hkeep hturn hx c1;go_wp2_with(first|go_big_skip|(fail_if_success (have:=f0));refine zl1 hS ?_ (v:=.I x) (hc:=by exact a8.old (by exact b8) hx0);have f0:Nat:=0|refine zl1 hS ?_);go_roundw
    case rel=>exact⟨i+1,i,rfl,rfl,hil,Hk.out,hS⟩
    case measure=>simp[intOf];omega
   ·obtain⟨zb2,zoff2,ea,hall⟩:=Hat.out p hp
    cases ea
    have hp0:V.cell? ⟨zb,zoff+p*9,none⟩=some (.I zs[p].id):=hall 0 _ rfl;clear hall;have hp60:p<=60:=by omega
    have e2:decide ((p:Int)<0)=false:=decide_eq_false (by omega);have hk2:zs[p].id<=x->NxT zs n (i+1) p:=fun h=>hkeep fun _=>⟨p,rfl,hp,h⟩
    have ht2:x<=zs[p].id->NxT zs n (i+1) i:=fun h=>hturn c1 fun q hq _=>by
     obtain rfl:q=p:=by omega
     exact h
    generalize zs[p].id=y at hp0 hk2 ht2;by_cases c2:x<y
    ·have e3:decide (x<y)=true:=decide_eq_true c2;have Hk:=jH (ht2 (by omega));clear hkeep hturn hx c1 c2 hk2 ht2;go_wp2_with(first|go_big_skip|(fail_if_success (have:=f0));refine zl1 hS ?_ (v:=.I x) (hc:=by exact a8.old (by exact b8) hx0);have f0:Nat:=0|(have:=f0);refine zl1 hS ?_ (v:=.I y) (hc:=by exact a8.old (by exact b8) hp0)|refine zl1 hS ?_);go_roundw
     case rel=>exact⟨i+1,i,rfl,rfl,hil,Hk.out,hS⟩
     case measure=>simp[intOf];omega
    ·have e3:decide (x<y)=false:=decide_eq_false c2;have Hk:=jH (hk2 (by omega));clear hkeep hturn hx c1 c2 hk2 ht2;go_wp2_with(first|go_big_skip|(fail_if_success (have:=f0));refine zl1 hS ?_ (v:=.I x) (hc:=by exact a8.old (by exact b8) hx0);have f0:Nat:=0|(have:=f0);refine zl1 hS ?_ (v:=.I y) (hc:=by exact a8.old (by exact b8) hp0)|refine zl1 hS ?_);go_roundw
     case rel=>exact⟨i+1,p,rfl,rfl,hil,Hk.out,hS⟩
     case measure=>simp[intOf];omega
  ·have d1:decide (i<zs.length)=false:=decide_eq_false hil;obtain rfl:i=zs.length:=by omega
   have Hn:=jH (Jx7 hnx);clear hnx hi;go_wp2_with(first|go_big_skip|refine zl1 hS ?_);go_ret;exact⟨v,Hn.out,rfl,Hsh.out _ hS⟩
def ldT(l:List Ro)(zs:List Zo)(to:List Int)(h:Int):Nat->Int
 | 0=>0
 | i+1=>ldT l zs to h i+if to[i]? = some h then(match zs[i]? with | some z=>i9 l z | none=>0)else 0
theorem IQ7{l:List Ro}{zs:List Zo}{to:List Int}{h:Int}{i:Nat}(hi:i<zs.length)(ht:i<to.length):ldT l zs to h (i+1)=ldT l zs to h i+if to[i]=h then i9 l zs[i]else 0:=by
 rw[ldT,jG hi,jG ht]
 congr 1
 by_cases e:to[i]=h
 ·rw[if_pos e,if_pos (by rw[e])]
 ·rw[if_neg e,if_neg (fun f=>e (Option.some.inj f))]
theorem IR7(l:List Ro)(zs:List Zo)(to:List Int)(h:Int):∀i,0<=ldT l zs to h i/\ldT l zs to h i<=i*1099511627776
 | 0=>⟨Int.le_refl _,Int.le_refl _⟩
 | i+1=>by
  have h1:=IR7 l zs to h i;rw[ldT];split
  ·cases zs[i]? with
   | none=>simp only;omega
   | some z=>have:=AA7 l z;simp only;omega
  ·omega
theorem Hp7(l:List Ro)(s:Pn)(zs:List Zo)(h:Int):∀i,i<=zs.length->ldT l zs (zs.map (atZ s)) h i=f9 l s h (zs.take i)
 | 0,_=>by rw[List.take_zero];rfl
 | i+1,hi=>by rw[IQ7 (by omega) (by rw[jM];omega),EZ7 _ _ _ (by omega:i<zs.length),Hp7 l s zs h i (by omega),List.getElem_map]
def LoR(W:World)(R:List HP)(l:List Ro)(zs:List Zo)(to:List Int)(h:Int)(v5 v6:Value)(w:World):Prop:=
 ∃i:Nat,v5=.I (ldT l zs to h i)/\v6=.I i/\i<=zs.length/\St W R w
theorem Ag7{D:De}{nm:List Bool}{out:List Cg}{to:List Int}{mvs:Int}{l:List Ro}{zs:List Zo}{V:World}(hz:d6 Zo.cells 9 V D.zv zs)(hzl:zs.length<=60)(hl:d6 Ro.cells 3 V D.lv l)(hll:l.length<=60)(hto:to.length=zs.length)(h:Int){x:Int}(hx:ldT l zs to h zs.length=x)(W w:World)(R:List HP)(hS:St W (dsP D nm out to mvs::Old V::R) w):
  Calls Tryz.prog 56 #[.pointer (some ⟨D.pb,0,none⟩),.I h] w fun e w'=>e=.returned (.I x)/\St W (dsP D nm out to mvs::Old V::R) w':=by
 subst hx;go_enter Tryz.func56,Tryz.ntmps56;go_wp2_with(first|go_big_skip)
 go_loopw [5,6] (fun v5 v6 wr=>LoR W (dsP D nm out to mvs::Old V::R) l zs to h v5 v6 wr) (fun _ v6 _=>zs.length-(intOf v6).toNat)
 case atStart=>exact⟨0,rfl,rfl,Nat.zero_le _,hS⟩
 case round=>
  clear hS;obtain⟨i,rfl,rfl,hi,hS0⟩:=hrel;obtain⟨nv,ov,tv,hS1⟩:=i6 hS0;clear hS0;have hS:=hS1;clear hS1;have Hz:=jH hz;have Hl:=jH hl;have Hsh:=jH (fun w=>g8 (D:=D) (nm:=nm) (out:=out) (to:=to) (mvs:=mvs) (W:=W) (w:=w) (R:=Old V::R) (nv:=nv) (ov:=ov) (tv:=tv));unfold dsB at hS Hsh;clear hl;obtain⟨pb,ver,nxt,zv,hv,lv⟩:=D;simp only at hS hz Hz Hl Hsh ⊢;obtain⟨a,cap,rfl,h63,_⟩:=hz;obtain⟨lo,hlo⟩:=IR7 l zs to h i;have hi60:i<=60:=by omega
  by_cases hil:i<zs.length
  ·have d1:decide (i<zs.length)=true:=decide_eq_true hil;have hti:i<to.length:=by omega
   have ht0:0<to.length:=by omega
   obtain⟨_,tc,rfl⟩:=(St.drop (St.drop (St.drop hS))).rowVal;obtain⟨⟨tg,rfl⟩,_,_⟩:=St.rowAddr (St.drop (St.drop (St.drop hS))) ht0;have hnx:=IQ7 (l:=l) (h:=h) hil hti;have htc:∀{K K':List HP},Take K (row (.S tg to.length tc) 1 3 to.length (to.map kI)) K'->a8 K tg i (kI to[i]):=fun{K K'} hu=>Fu7 hu hti
   obtain⟨x,hx⟩:∃x,i9 l zs[i]=x:=⟨_,rfl⟩
   have hxi:=AA7 l zs[i];rw[hx]at hnx hxi;obtain⟨x1,x2⟩:=hxi;have Hx:=jH hx;generalize ldT l zs to h i=c at hnx lo hlo;generalize to[i]=t at hnx htc;clear hx;by_cases c1:t=h
   ·have e1:(t==h)=true:=by simpa using c1
    rw[if_pos c1]at hnx;have Hnx:=jH hnx;clear hnx c1 hi;go_wp2_with(first|go_big_skip|refine zl1 hS ?_ (v:=.I t) (hc:=by exact htc (by exact d7))|refine zl1 hS ?_|go_at_call 55;refine(Aq7 (D:=⟨pb,ver,nxt,.slice a zs.length cap,hv,lv⟩) Hz.out Hl.out hll hil Hx.out .head .head (Hsh.out _ hS)).mono ?_;clear hS;rintro e w ⟨rfl,hS0⟩;(have hS:=hS0);clear hS0);go_roundw
    case rel=>exact⟨i+1,by rw[Hnx.out],rfl,hil,hS⟩
    case measure=>simp[intOf];omega
   ·have e1:(t==h)=false:=by simpa using c1
    rw[if_neg c1,Int.add_zero]at hnx;have Hnx:=jH hnx;clear hnx c1 hi;go_wp2_with(first|go_big_skip|refine zl1 hS ?_ (v:=.I t) (hc:=by exact htc (by exact d7))|refine zl1 hS ?_);go_roundw
    case rel=>exact⟨i+1,by rw[Hnx.out],rfl,hil,Hsh.out _ hS⟩
    case measure=>simp[intOf];omega
  ·have d1:decide (i<zs.length)=false:=decide_eq_false hil;have hie:i=zs.length:=by omega
   have Hie:=jH hie;clear hi hie;go_wp2_with(first|go_big_skip|refine zl1 hS ?_);go_ret;exact⟨by rw[Hie.out];rfl,Hsh.out _ hS⟩
end Go.Proofs.YtjcfifkjbaffnaaGreat
end
