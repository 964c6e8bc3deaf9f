/-
  A row that came in appended to one's own.
-/
import Derived.Test.YtjcfifkjbaffnaaGreatPkQM5
import Derived.Test.YtjcfifkjbaffnaaGreatPkQM22
import Derived.Test.YtjcfifkjbaffnaaGreatPkQM30
set_option maxHeartbeats 16000000
set_option maxRecDepth 100000
set_option linter.unusedSimpArgs false
set_option linter.unusedVariables false
section
namespace Go.Sl
open Go.RowKit Go.Proofs Go.Proofs.YtjcfifkjbaffnaaGreat
section
variable{P:Program}{w W:World}
theorem CB7(t ty e:TypeId)(i:TypeInfo)(ht:P.underlying t=some (.slice e))(hi:P.info? e=some i)(b a:Option Addr)(n cap c:Nat)(hn:n<=cap):
  (Builtin.append_ #[t,t] ty #[.slice b n cap,.slice a 0 c]).run P w=.ok (.slice b n cap) w:=by
 cases a with
 | none=>
  cases b with
  | none=>simp[Builtin.append_,run_underlying ht,sizeOf,typeInfo,hi,Builtin.lenOf,hn,Builtin.firstCells]
  | some p=>simp[Builtin.append_,run_underlying ht,sizeOf,typeInfo,hi,Builtin.lenOf,hn,Builtin.firstCells,storeCells]
 | some q=>
  have h0:(loadCells q 0).run P w=.ok #[] w:=run_loadCells_list (P:=P) w q [] (fun j v h=>by simp at h)
  cases b with
  | none=>simp[Builtin.append_,run_underlying ht,sizeOf,typeInfo,hi,Builtin.lenOf,hn,Builtin.firstCells,h0]
  | some p=>simp[Builtin.append_,run_underlying ht,sizeOf,typeInfo,hi,Builtin.lenOf,hn,Builtin.firstCells,storeCells,h0]
section
variable{L R:List HP}{ops:Array Oper}{Q:Exit->Act->World->Prop}{a:Act}{rest:List Oper}{o:Oper}
theorem Dc7{α:Type}{enc:α->List Value}{s x:Operand}{t e:TypeId}{z:Value}{k bytes:Nat}{v xv:Value}{n:Nat}{cs:List Value}{xs:List α}{V:World}(hS:St W L w)(ho:o.op=.call { callee:=.builtin .append,args:=#[s,x],argTypes:=#[t,t] })
  (hg:Region.wanted o (yielded ops a.tmps)=true) (hs:a.eval s=v) (hx:a.eval x=xv) (ht:j5 P t=some e) (hi:k8 P e=some (some z,k,bytes)) (hz:z.cells.size=k) (hk:0<k) (hu:Take L (row v k e n cs) R)
  (hm:Mem (Old V) L) (henc:∀x,(enc x).length=k) (hone:∀x,((enc x).all fun v=>v.oneCell')=true) (hv:d6 enc k V xv xs) (h63:n+xs.length<=maxLen) (hb:(n+xs.length)*bytes<=140737488355328)
  (h:∀v' w',St W (row v' k e (n+xs.length) (cs++xs.flatMap enc)::R) w'->wpList P ops Q rest (a.put o.dst v') w'):wpList P ops Q (o::rest) a w:=by
 have hv9:=hv;obtain⟨xa,xc,rfl,_,hact⟩:=hv9;by_cases h0:xs.length=0
 ·obtain⟨b,c,e1⟩:=(hS.take hu).rowVal;have hxs:xs=[]:=List.eq_nil_of_length_eq_zero h0;subst hxs
  have hnc:n<=c:=by
   rcases(hS.take hu).rowOpen with ⟨h1,h2,_,_⟩|⟨g,cap,junk,h1,h2,_⟩
   ·omega
   ·rw[e1]at h1
    cases h1
    exact h2
  have hi2:=hi;unfold k8 at hi2;obtain⟨i,hi',_⟩:=Option.map_eq_some_iff.1 hi2;have hr:=CB7 (P:=P) (w:=w) t o.type e i (AF7 ht) hi' b xa n c xc hnc;refine Al7 hg (v:=v) (w':=w) ?_ (h v w ?_)
  ·unfold execOp;simp only[ho,resolve,invoke,builtin,Sem.run_bind,Sem.run_pure,Result.andThen_ok,List.map_toArray,List.map_cons,List.map_nil,hs,hx];rw[e1];simp only[List.length_nil]at hr ⊢;simp only[hr,Result.andThen_ok]
  ·have:=hS.take hu;simpa using this
 ·obtain⟨pb,poff,rfl,_⟩:=hact 0 (by omega);exact At7 hS ho hg hs hx ht hi hz hk hu (Src.mk (a7.old hm (fun j u hj=>d6.flat henc (by omega) hv j u hj))) (by rw[Am7 henc]) (Ct7 xs hone) h63 hb h
end
end
end Go.Sl
end
section
namespace Go.Proofs.YtjcfifkjbaffnaaGreat
open Go.RowKit Go.Sl
theorem Ro.one(r:Ro):(r.cells.all fun v=>v.oneCell')=true:=rfl
theorem Zo.eqB_self(z:Zo):z.eqB z=true:=by unfold Zo.eqB;simp
theorem Kk7{zs:List Zo}{v:Value}{V:World}{ver nxt:Int}(hv:d6 Zo.cells 9 V v zs)(hl:zs.length<=1000)(W w:World)(R:List HP)(hS:St W (Old V::R) w):
  Calls Tryz.prog 5 #[.agg #[.I ver,.I nxt,v]] w fun e w'=>∃u,e=.returned (.agg #[.I ver,.I nxt,u])/\St W (row u 9 55 zs.length (zs.flatMap Zo.cells)::Old V::R) w':=by
 have Hv:=jH hv;obtain⟨za,zc,rfl,_,_⟩:=hv;go_enter Tryz.func5,Tryz.ntmps5;go_wp2_with(first|go_big_skip|refine zbx hS ?_;clear hS;intro b1 w hS|refine zal hS ?_;clear hS;intro b2 w hS|(with_reducible apply Ci7 (n:=0) hS);rfl;rfl;(focus(simp only[fD,fI,fJ,Act.eval,fE,fF,fG,fH,fK];try rfl));exact esS;exact rsS;rfl;rfl;rfl;rfl;rfl;decide;clear hS;intro bv w hS;refine frS ?_|(with_reducible apply Dc7 (enc:=Zo.cells) hS);rfl;rfl;rfl;rfl;exact esS;exact rsS;rfl;decide;exact d7;exact b8;exact Zo.len;exact Zo.one;exact Hv.out;(focus(unfold maxLen;omega));(focus(omega));clear hS;intro v w hS;(have hv9:=hS.rowVal;obtain⟨va,vc,rfl⟩:=hv9);refine frS ?_|refine zlN hS ?_|refine zl1 hS ?_|refine zsN hS ?_;clear hS;intro w hS|refine zs1 hS ?_;clear hS;intro w hS);apply Eu7;rfl;rfl;rfl;exact hS;decide +kernel;(exact s9);kernel_rfl;have h8:=hS.s (row (.slice va _ vc) 9 55 _ _::Old V::R);have h9:St W (row (.slice va (0+zs.length) vc) 9 55 (0+zs.length) ([]++zs.flatMap Zo.cells)::Old V::R) _:=h8;refine⟨.slice va (0+zs.length) vc,rfl,?_⟩;rw[jN]at h9;rw[Nat.zero_add]at h9 ⊢;exact h9
def LkR(W:World)(R:List HP)(l:List Ro)(v3 v4:Value)(w:World):Prop:=
 ∃i:Nat,v4=.I i/\i<=l.length/\St W (row v3 3 71 i ((l.take i).flatMap Ro.cells)::R) w
theorem JC7{l:List Ro}{v:Value}{V:World}(hv:d6 Ro.cells 3 V v l)(hl:l.length<=60)(W w:World)(R:List HP)(hS:St W (Old V::R) w):
  Calls Tryz.prog 10 #[v] w fun e w'=>∃u,e=.returned u/\St W (row u 3 71 l.length (l.flatMap Ro.cells)::Old V::R) w':=by
 obtain⟨la,lc,rfl,_,hact⟩:=hv;have Hat:=jH hact;clear hact;go_enter Tryz.func10,Tryz.ntmps10;go_wp2_with(first|go_big_skip);have hS1:=hS.rowNil (k:=3) (T:=71);clear hS
 go_loopw [3,4] (fun v3 v4 wr=>LkR W (Old V::R) l v3 v4 wr) (fun _ v4 _=>l.length-(intOf v4).toNat)
 case atStart=>exact⟨0,rfl,Nat.zero_le _,hS1⟩
 case round=>
  clear hS1;obtain⟨i,rfl,hi,hS⟩:=hrel;obtain⟨ya,yc,rfl⟩:=hS.rowVal;by_cases hil:i<l.length
  ·have d1:decide (i<l.length)=true:=decide_eq_true hil;obtain⟨pb,poff,rfl,hall⟩:=Hat.out i hil;have hst:(l.take (i+1)).flatMap Ro.cells=(l.take i).flatMap Ro.cells++l[i].cells:=by rw[List.take_succ_eq_append_getElem hil,List.flatMap_append];simp
   generalize l[i]=r at hall hst;obtain⟨r0,r1,r2⟩:=r;simp only[Ro.cells]at hall;have Hst:=jH hst;clear hst hi;go_wp2_with(first|go_big_skip|refine zlN hS ?_ (vs:=[.I r0,.I r1,.string r2]) (hc:=by exact a7.old (by exact b8) hall)|refine zbs hS ?_;clear hS;intro bS w hS|(refine zap hS ?_ (h63:=by unfold maxLen;omega) (hb:=by omega));clear hS;intro v w hS);have hS1:=hS.s (row v 3 71 (i+1) _::Old V::R);clear hS;go_roundw
   case rel=>exact⟨i+1,rfl,hil,by rw[Hst.out];exact hS1⟩
   case measure=>simp[intOf];omega
  ·have d1:decide (i<l.length)=false:=decide_eq_false hil;obtain rfl:i=l.length:=by omega
   rw[List.take_length]at hS;clear hi hil;go_wp2_with(first|go_big_skip);go_ret;exact⟨_,rfl,hS⟩
def CmR(W:World)(R:List HP)(n:Nat)(v:Value)(w:World):Prop:=∃i:Nat,v=.I i/\i<=n/\St W R w
theorem JD7{zs:List Zo}{v1 v2:Value}{V:World}{ver nxt:Int}(h1:d6 Zo.cells 9 V v1 zs)(h2:d6 Zo.cells 9 V v2 zs)(hl:zs.length<=1000)(W w:World)(R:List HP)(hS:St W (Old V::R) w):
  Calls Tryz.prog 7 #[.agg #[.I ver,.I nxt,v1],.agg #[.I ver,.I nxt,v2]] w fun e w'=>e=.returned (.bool true)/\St W (Old V::R) w':=by
 obtain⟨a1,c1,rfl,_,hat1⟩:=h1;obtain⟨a2,c2,rfl,_,hat2⟩:=h2;have Hat1:=jH hat1;have Hat2:=jH hat2;clear hat1 hat2;go_enter Tryz.func7,Tryz.ntmps7;go_wp2_with(first|go_big_skip|(fail_if_success (have:=mA1));(refine zbx hS ?_;clear hS;have mA1:Nat:=0;intro bA w hS)|(have:=mA1);refine zbx hS ?_;clear hS;intro bB w hS|refine zl1 hS ?_)
 go_loopw [5] (fun v5 wr=>CmR W (blk bB [.I ver,.I nxt,.slice a2 zs.length c2] 24::blk bA [.I ver,.I nxt,.slice a1 zs.length c1] 24::Old V::R) zs.length v5 wr) (fun v5 _=>zs.length-(intOf v5).toNat)
 case atStart=>exact⟨0,rfl,Nat.zero_le _,hS⟩
 case round=>
  clear hS;obtain⟨i,rfl,hi,hS⟩:=hrel;by_cases hil:i<zs.length
  ·have d1:decide (i<zs.length)=true:=decide_eq_true hil;obtain⟨zb1,zf1,rfl,hall1⟩:=Hat1.out i hil;obtain⟨zb2,zf2,rfl,hall2⟩:=Hat2.out i hil;generalize zs[i]=z at hall1 hall2;obtain⟨z0,z1,z2,z3,z4,z5,z6,z7,z8⟩:=z;simp only[Zo.cells]at hall1 hall2;clear hi;go_wp2_with(first|go_big_skip|refine zl1 hS ?_);refine Aa7 (by kernel_rfl) (by kernel_rfl) hS ?_
   repeat(first|go_big_quiet_skip|refine zq1 ?_|(fail_if_success (have:=g1));refine zqN ?_ (vs:=[.I z0,.string z1,.string z2,.I z3,.I z4,.I z5,.I z6,.string z7,.I z8]) (hc:=by exact a7.old (by exact b8) hall1);have g1:Nat:=0|(have:=g1);refine zqN ?_ (vs:=[.I z0,.string z1,.string z2,.I z3,.I z4,.I z5,.I z6,.string z7,.I z8]) (hc:=by exact a7.old (by exact b8) hall2)|(apply Ec7);rfl;rfl;rfl;rfl;kernel_rfl;exact(Cw7 (z:=⟨z0,z1,z2,z3,z4,z5,z6,z7,z8⟩) (y:=⟨z0,z1,z2,z3,z4,z5,z6,z7,z8⟩) (Zo.eqB_self _));refine frS ?_|refine zqn ?_|refine qR ?_)
   clear hS;intro w hS;go_wp2_with(first|go_big_skip);go_roundw
   case rel=>exact⟨i+1,rfl,hil,hS⟩
   case measure=>simp[intOf];omega
  ·have d1:decide (i<zs.length)=false:=decide_eq_false hil;clear hi;go_wp2_with(first|go_big_skip|refine zl1 hS ?_);go_ret;exact⟨rfl,hS.s _⟩
theorem FY7{cs:List Cg}{v1 v2:Value}{V:World}(h1:d6 Cg.cells 5 V v1 cs)(h2:d6 Cg.cells 5 V v2 cs)(W w:World)(R:List HP)(hS:St W (Old V::R) w):
  Calls Tryz.prog 8 #[v1,v2] w fun e w'=>e=.returned (.bool true)/\St W (Old V::R) w':=by
 obtain⟨a1,c1,rfl,hm1,hat1⟩:=h1;obtain⟨a2,c2,rfl,_,hat2⟩:=h2;have Hat1:=jH hat1;have Hat2:=jH hat2;clear hat1 hat2;go_enter Tryz.func8,Tryz.ntmps8;go_wp2_with(first|go_big_skip)
 go_loopw [5] (fun v5 wr=>CmR W (Old V::R) cs.length v5 wr) (fun v5 _=>cs.length-(intOf v5).toNat)
 case atStart=>exact⟨0,rfl,Nat.zero_le _,hS⟩
 case round=>
  clear hS;obtain⟨i,rfl,hi,hS⟩:=hrel;by_cases hil:i<cs.length
  ·have d1:decide (i<cs.length)=true:=decide_eq_true hil;obtain⟨zb1,zf1,rfl,hall1⟩:=Hat1.out i hil;obtain⟨zb2,zf2,rfl,hall2⟩:=Hat2.out i hil;generalize cs[i]=z at hall1 hall2;obtain⟨k0,k1,k2,k3,k4⟩:=z;simp only[Cg.cells]at hall1 hall2;clear hi;go_wp2_with(first|go_big_skip);refine Aa7 (by kernel_rfl) (by kernel_rfl) hS ?_
   repeat(first|go_big_quiet_skip|(fail_if_success (have:=g1));refine zqN ?_ (vs:=[.I k0,.I k1,.I k2,.I k3,.string k4]) (hc:=by exact a7.old (by exact b8) hall1);have g1:Nat:=0|(have:=g1);refine zqN ?_ (vs:=[.I k0,.I k1,.I k2,.I k3,.string k4]) (hc:=by exact a7.old (by exact b8) hall2)|(apply Ec7);rfl;rfl;rfl;rfl;kernel_rfl;intro w;exact bE4 _ _ _ _ _ w;refine frS ?_|refine zqn ?_|refine qR ?_)
   clear hS;intro w hS;go_wp2_with(first|go_big_skip);go_roundw
   case rel=>exact⟨i+1,rfl,hil,hS⟩
   case measure=>simp[intOf];omega
  ·have d1:decide (i<cs.length)=false:=decide_eq_false hil;clear hi;go_wp2_with(first|go_big_skip);go_ret;exact⟨rfl,hS⟩
theorem cu4(a b:Int)(s:ByteArray)(w:World):(Op.equalIn 10000 34 (.agg #[.I a,.I b,.string s]) (.agg #[.I a,.I b,.string s])).run Tryz.prog w=.ok true w:=by
 have u9:=Tryz.underlying9;have a9:=Tryz.isAgg9;have z9:=Tryz.sizeOf9;have u3:=Tryz.underlying3;have a3:=Tryz.isAgg3;have z3:=Tryz.sizeOf3;have hs:Tryz.prog.stoodInHeld 34=false:=by kernel_rfl
 rw[Op.equalIn];simp only[Sem.run_bind,run_underlying Tryz.underlying34,Result.andThen_ok,run_program,hs,Bool.false_eq_true,if_false];rw[<-Array.forIn_toList];simp only[List.forIn_cons,List.forIn_nil]
 go_simp
 try simp
def HvR(W:World)(R:List HP)(n:Nat)(P:Nat->Prop)(v:Value)(w:World):Prop:=
 ∃i:Nat,v=.I i/\i<=n/\(∀j,j<i->P j)/\St W R w
theorem CC7{ver nxt:Int}{zs:List Zo}{v:Value}{V:World}(hv:d6 Zo.cells 9 V v zs)(W w:World)(Lr:List HP)(hS:St W (Old V::Lr) w):
  Calls Tryz.prog 12 #[.agg #[.I ver,.I nxt,v]] w fun e w'=>(e=.returned (.bool true)/\St W (Old V::Lr) w')\/(e=.returned (.bool false)/\(zs.length<=60/\∀z∈zs,smZ z)/\St W (Old V::Lr) w'):=by
 obtain⟨a,cap,rfl,h63,hact⟩:=hv;have Hat:=jH hact;clear hact;go_enter Tryz.func12,Tryz.ntmps12;by_cases h60:60<zs.length
 ·have d0:((60:Nat):Int)<(zs.length:Int):=by omega
  go_wp2_with(first|go_big_skip|refine zbx hS ?_;clear hS;intro b1 w hS|refine zl1 hS ?_);go_ret;exact .inl ⟨rfl,hS.drop⟩
 have d0:decide ((60:Int)<(zs.length:Int))=false:=by simp;omega
 go_wp2_with(first|go_big_skip|refine zbx hS ?_;clear hS;intro b1 w hS|refine zl1 hS ?_)
 go_loopw [3] (fun v wr=>HvR W (blk b1 [.I ver,.I nxt,.slice a zs.length cap] 24::Old V::Lr) zs.length (fun j=>∀h:j<zs.length,smZ zs[j]) v wr) (fun v _=>zs.length-(intOf v).toNat)
 case atStart=>exact⟨0,rfl,by omega,fun j h=>absurd h (Nat.not_lt_zero _),hS⟩
 case round=>
  clear hS;obtain⟨i,rfl,hi,hsm,hS⟩:=hrel;have Hsm:=jH hsm;clear hsm;by_cases hil:i<zs.length
  case neg=>
   have d1:decide (i<zs.length)=false:=decide_eq_false hil;go_wp2_with(first|go_big_skip|refine zl1 hS ?_);go_ret;exact .inr ⟨rfl,⟨by omega,fun z hz=>by obtain⟨j,hj,rfl⟩:=List.getElem_of_mem hz;exact Hsm.out j (by omega) hj⟩,hS.drop⟩
  have hd1:decide (i<zs.length)=true:=decide_eq_true hil;clear hi;obtain⟨pb,poff,rfl,hall⟩:=Hat.out i hil;obtain⟨x,hx⟩:∃x,x=zs[i]:=⟨_,rfl⟩
  rw[<-hx]at hall;obtain⟨z0,z1,z2,z3,z4,z5,z6,z7,z8⟩:=x;simp only[Zo.cells]at hall;have Hx:=jH hx;clear hx;by_cases h1:60<z1.size
  ·have d1:(60:Int)<(z1.size:Int):=by omega
   go_wp2_with(first|go_big_skip|refine zlN hS ?_ (vs:=[.I z0,.string z1,.string z2,.I z3,.I z4,.I z5,.I z6,.string z7,.I z8]) (hc:=by exact a7.old (by exact b8) hall)|refine zl1 hS ?_|refine zal hS ?_;clear hS;intro bA w hS|refine zsN hS ?_;clear hS;intro w hS);go_ret;exact .inl ⟨rfl,hS.s _⟩
  have d1:decide ((60:Int)<(z1.size:Int))=false:=by simp;omega
  by_cases h2:60<z2.size
  ·have d2:(60:Int)<(z2.size:Int):=by omega
   go_wp2_with(first|go_big_skip|refine zlN hS ?_ (vs:=[.I z0,.string z1,.string z2,.I z3,.I z4,.I z5,.I z6,.string z7,.I z8]) (hc:=by exact a7.old (by exact b8) hall)|refine zl1 hS ?_|refine zal hS ?_;clear hS;intro bA w hS|refine zsN hS ?_;clear hS;intro w hS);go_ret;exact .inl ⟨rfl,hS.s _⟩
  have d2:decide ((60:Int)<(z2.size:Int))=false:=by simp;omega
  by_cases h3:60<z7.size
  ·have d3:(60:Int)<(z7.size:Int):=by omega
   go_wp2_with(first|go_big_skip|refine zlN hS ?_ (vs:=[.I z0,.string z1,.string z2,.I z3,.I z4,.I z5,.I z6,.string z7,.I z8]) (hc:=by exact a7.old (by exact b8) hall)|refine zl1 hS ?_|refine zal hS ?_;clear hS;intro bA w hS|refine zsN hS ?_;clear hS;intro w hS);go_ret;exact .inl ⟨rfl,hS.s _⟩
  have d3:decide ((60:Int)<(z7.size:Int))=false:=by simp;omega
  go_wp2_with(first|go_big_skip|refine zlN hS ?_ (vs:=[.I z0,.string z1,.string z2,.I z3,.I z4,.I z5,.I z6,.string z7,.I z8]) (hc:=by exact a7.old (by exact b8) hall)|refine zl1 hS ?_|refine zal hS ?_;clear hS;intro bA w hS|refine zsN hS ?_;clear hS;intro w hS);go_roundw
  case rel=>
   refine⟨i+1,rfl,hil,fun j hj hjl=>?_,hS.s _⟩;by_cases hji:j<i
   ·exact Hsm.out j hji hjl
   ·obtain rfl:j=i:=by omega
    rw[<-Hx.out];exact⟨by show z1.size<=60;omega,by show z2.size<=60;omega,by show z7.size<=60;omega⟩
  case measure=>simp[intOf];try omega
theorem Ht7{ver nxt:Int}{zs:List Zo}{hs:List Int}{l:List Ro}{v hv rv:Value}{V:World}(hzv:d6 Zo.cells 9 V v zs)(hhv:d6 hC 1 V hv hs)(hrv:d6 Ro.cells 3 V rv l)(W w:World)(Lr:List HP)(hS:St W (Old V::Lr) w):
  Calls Tryz.prog 4 #[.agg #[.I ver,.I nxt,v],hv,rv] w fun e w'=>(e=.returned (.bool true)/\St W (Old V::Lr) w')\/(e=.returned (.bool false)/\(zs.length<=60/\(∀z∈zs,smZ z)/\hs.length<=20/\l.length<=60)/\St W (Old V::Lr) w'):=by
 have hz9:=hzv;obtain⟨va,vc,rfl,_,_⟩:=hz9;obtain⟨ha,hc,rfl,hh63,_⟩:=hhv;obtain⟨ra,rc,rfl,hr63,hact⟩:=hrv;have Hat:=jH hact;have Hv:=jH hzv;clear hact hzv;go_enter Tryz.func4,Tryz.ntmps4;by_cases h20:20<hs.length
 ·have d1:decide ((20:Int)<(hs.length:Int))=true:=by simp;omega
  go_wp2_with(first|go_big_skip|refine zbx hS ?_;clear hS;intro b1 w hS|refine zlN hS ?_|go_at_call 12;refine(CC7 Hv.out W _ _ (hS.s (Old V::blk b1 _ _::Lr))).mono ?_;clear hS;rintro e w (⟨rfl,hS⟩|⟨rfl,hh9,hS⟩) <;> (try(have Hh9:=jH hh9;clear hh9)))
  all_goals
   go_ret;exact .inl ⟨rfl,hS.s _⟩
 have d1:decide ((20:Int)<(hs.length:Int))=false:=by simp;omega
 by_cases h60:60<l.length
 ·have d2:decide ((60:Int)<(l.length:Int))=true:=by simp;omega
  go_wp2_with(first|go_big_skip|refine zbx hS ?_;clear hS;intro b1 w hS|refine zlN hS ?_|go_at_call 12;refine(CC7 Hv.out W _ _ (hS.s (Old V::blk b1 _ _::Lr))).mono ?_;clear hS;rintro e w (⟨rfl,hS⟩|⟨rfl,hh9,hS⟩) <;> (try(have Hh9:=jH hh9;clear hh9)))
  all_goals
   go_ret;exact .inl ⟨rfl,hS.s _⟩
 have d2:decide ((60:Int)<(l.length:Int))=false:=by simp;omega
 go_wp2_with(first|go_big_skip|refine zbx hS ?_;clear hS;intro b1 w hS|refine zlN hS ?_|go_at_call 12;refine(CC7 Hv.out W _ _ (hS.s (Old V::blk b1 _ _::Lr))).mono ?_;clear hS;rintro e w (⟨rfl,hS⟩|⟨rfl,hh9,hS⟩) <;> (try(have Hh9:=jH hh9;clear hh9)))
 ·go_ret;exact .inl ⟨rfl,hS.s _⟩
 have hS1:=hS.s (Old V::Lr);clear hS
 go_loopw [7] (fun v wr=>HvR W (Old V::Lr) l.length (fun _=>True) v wr) (fun v _=>l.length-(intOf v).toNat)
 case atStart=>exact⟨0,rfl,by omega,fun _ _=>trivial,hS1⟩
 case round=>
  clear hS1;obtain⟨i,rfl,hi,_,hS⟩:=hrel;by_cases hil:i<l.length
  case neg=>
   have d3:decide (i<l.length)=false:=decide_eq_false hil;go_wp2_with(first|go_big_skip);go_ret;exact .inr ⟨rfl,⟨Hh9.out.1,Hh9.out.2,by omega,by omega⟩,hS⟩
  have hd3:decide (i<l.length)=true:=decide_eq_true hil;clear hi;obtain⟨pb,poff,rfl,hall⟩:=Hat.out i hil;generalize l[i]=x at hall;obtain⟨x0,x1,x2⟩:=x;simp only[Ro.cells]at hall;have hc2:V.cell? ⟨pb,poff+i*3+2,none⟩=some (.string x2):=hall 2 _ rfl;by_cases h3:60<x2.size
  ·have d4:decide ((60:Int)<(x2.size:Int))=true:=by simp;omega
   go_wp2_with(first|go_big_skip|refine zl1 hS ?_ (v:=.string x2) (hc:=by exact a8.old (by exact b8) hc2));go_ret;exact .inl ⟨rfl,hS⟩
  have d4:decide ((60:Int)<(x2.size:Int))=false:=by simp;omega
  go_wp2_with(first|go_big_skip|refine zl1 hS ?_ (v:=.string x2) (hc:=by exact a8.old (by exact b8) hc2));go_roundw
  case rel=>exact⟨i+1,rfl,hil,fun _ _=>trivial,hS⟩
  case measure=>simp[intOf];try omega
end Go.Proofs.YtjcfifkjbaffnaaGreat
end
section
namespace Go.Sl
open Go.RowKit Go.Proofs Go.Proofs.YtjcfifkjbaffnaaGreat
section
variable{P:Program}{w W:World}{L R:List HP}{ops:Array Oper}{Q:Exit->Act->World->Prop}{a:Act}{rest:List Oper}{o:Oper}
theorem CD7{α:Type}{enc:α->List Value}{s x:Operand}{t e:TypeId}{z:Value}{k bytes:Nat}{v xv:Value}{xs:List α}{V:World}(hS:St W L w)(ho:o.op=.call { callee:=.builtin .append,args:=#[s,x],argTypes:=#[t,t] })
  (hg:Region.wanted o (yielded ops a.tmps)=true) (hs:a.eval s=v) (hx:a.eval x=xv) (ht:j5 P t=some e) (hi:k8 P e=some (some z,k,bytes)) (hz:z.cells.size=k) (hk:0<k) (hu:Take L (row v k e 0 []) R)
  (hm:Mem (Old V) L) (henc:∀x,(enc x).length=k) (hone:∀x,((enc x).all fun v=>v.oneCell')=true) (hv:d6 enc k V xv xs) (h63:0+xs.length<=maxLen) (hb:(0+xs.length)*bytes<=140737488355328)
  (h:∀v' w',St W (row v' k e xs.length (xs.flatMap enc)::R) w'->wpList P ops Q rest (a.put o.dst v') w'):wpList P ops Q (o::rest) a w:=
 Dc7 hS ho hg hs hx ht hi hz hk hu hm henc hone hv h63 hb fun v' w' h1=>h v' w' (by rw[Nat.zero_add,jN]at h1;exact h1)
theorem d6.now{α:Type}{enc:α->List Value}{k:Nat}{V:World}{v:Value}{xs:List α}(h:d6 enc k V v xs)(hm:Mem (Old V) L)(hS:St W L w):d6 enc k w v xs:=by obtain⟨a,c,e,h1,h2⟩:=h;refine⟨a,c,e,h1,fun i hi=>?_⟩;obtain⟨b,off,ea,h3⟩:=h2 i hi;exact⟨b,off,ea,fun j u hj=>hS.oldCell hm (h3 j u hj)⟩
end
end Go.Sl
namespace Go.Proofs.YtjcfifkjbaffnaaGreat
open Go.RowKit Go.Sl
section
variable{W w:World}{R:List HP}
theorem Hu7{zs:List Zo}{v1 v2:Value}{ver nxt:Int}(h1:d6 Zo.cells 9 w v1 zs)(h2:d6 Zo.cells 9 w v2 zs)(hl:zs.length<=1000)(hS:St W R w):
  Calls Tryz.prog 7 #[.agg #[.I ver,.I nxt,v1],.agg #[.I ver,.I nxt,v2]] w fun e w'=>e=.returned (.bool true)/\St W R w':=
 (JD7 h1 h2 hl w w [] (St.start w)).mono fun e w' ⟨he,h⟩=>⟨he,St.rebase (A:=[]) hS h⟩
theorem Er7{cs:List Cg}{v1 v2:Value}(h1:d6 Cg.cells 5 w v1 cs)(h2:d6 Cg.cells 5 w v2 cs)(hS:St W R w):
  Calls Tryz.prog 8 #[v1,v2] w fun e w'=>e=.returned (.bool true)/\St W R w':=
 (FY7 h1 h2 w w [] (St.start w)).mono fun e w' ⟨he,h⟩=>⟨he,St.rebase (A:=[]) hS h⟩
theorem Hv7{l:List Ro}{v:Value}(hv:d6 Ro.cells 3 w v l)(hl:l.length<=60)(hS:St W R w):
  Calls Tryz.prog 10 #[v] w fun e w'=>∃u,e=.returned u/\St W (row u 3 71 l.length (l.flatMap Ro.cells)::R) w':=
 (JC7 hv hl w w [] (St.start w)).mono fun e w' ⟨u,he,h⟩=>⟨u,he,St.rebase (A:=[row u 3 71 l.length (l.flatMap Ro.cells)]) hS h⟩
theorem FZ7{zs:List Zo}{hs:List Int}{l:List Ro}{v hv lv:Value}{ver nxt hot cold:Int}{out:List Cg}(hz:d6 Zo.cells 9 w v zs)(hzl:zs.length<=60)(hh:d6 hC 1 w hv hs)(hhl:hs.length<=1000)(hl:d6 Ro.cells 3 w lv l)(hll:l.length<=60)(hM:L8 ⟨ver,nxt,zs⟩ hs l hot cold out)(hS:St W R w):
  Calls Tryz.prog 9 #[.agg #[.I ver,.I nxt,v],hv,lv,.I hot,.I cold] w fun e w'=>∃u,e=.returned u/\St W (row u 5 64 out.length (out.flatMap Cg.cells)::R) w':=
 (Iz7 hz hzl hh hhl hl hll w w [] (St.start w)).mono fun e w' ⟨u,out2,he,hM2,h⟩=>by obtain rfl:=Fz7 hM2 hM;exact⟨u,he,St.rebase (A:=[row u 5 64 out2.length (out2.flatMap Cg.cells)]) hS h⟩
end
theorem makesL_at{zs:List Zo}{hs:List Int}{l:List Ro}{v hv rv:Value}{V:World}{ver nxt hot cold:Int}(hzv:d6 Zo.cells 9 V v zs)(hhv:d6 hC 1 V hv hs)(hrv:d6 Ro.cells 3 V rv l)(hrg:∀z∈zs,rgZ z)(h1:rgI ver)(h2:rgI nxt)(W w:World)(R:List HP)(hS:St W (Old V::R) w):
  Calls Tryz.prog 3 #[.agg #[.I ver,.I nxt,v],hv,rv,.agg #[.I hot,.I cold]] w fun e w'=>e=.returned (.bool true)/\St W (Old V::R) w':=by
 have hz9:=hzv;obtain⟨za,zc,rfl,_,_⟩:=hz9;have hh9:=hhv;obtain⟨ha,hc,rfl,_,hhat⟩:=hh9;have hr9:=hrv;obtain⟨ra,rc,rfl,_,hrat⟩:=hr9;have Hhat:=jH hhat
 have Hrat:=jH hrat
 have Hv:=jH hzv;have Hh:=jH hhv;have Hr:=jH hrv;have Hrg:=jH hrg;clear hhat hrat hzv hhv hrv hrg;go_enter Tryz.func3,Tryz.ntmps3
 go_wp2_with(first|go_big_skip|(fail_if_success (have:=mB1));(refine zbx hS ?_;clear hS;have mB1:Nat:=0;intro b1 w hS)|(have:=mB1);refine zbx hS ?_;clear hS;intro b2 w hS|refine zlN hS ?_|go_at_call 4;refine(Ht7 Hv.out Hh.out Hr.out W _ _ (hS.s (Old V::blk b1 _ _::blk b2 _ _::R))).mono ?_;clear hS;rintro e w (⟨rfl,hS⟩|⟨rfl,hh9,hS⟩) <;> (try(obtain⟨hz60,hsm9,hh20,hr60⟩:=hh9;have Hsm:=jH hsm9;clear hsm9))|go_at_call 5;refine(Kk7 Hv.out (by omega) W _ _ hS).mono ?_;clear hS;rintro e w ⟨u,rfl,hS⟩;(have hv9:=hS.rowVal;obtain⟨ua,uc,rfl⟩:=hv9)|(with_reducible apply Ci7 (n:=0) (l:=[]) hS);rfl;rfl;(focus(simp only[fD,fI,fJ,Act.eval,fE,fF,fG,fH,fK];try rfl));exact esS;exact rsS;rfl;rfl;rfl;rfl;rfl;decide;clear hS;intro bv w hS;refine frS ?_|(fail_if_success (have:=mH));((with_reducible apply CD7 (enc:=hC) hS);rfl;rfl;rfl;rfl;exact esS;exact rsS;rfl;decide;exact d7;exact b8;exact Cs7;exact IK7;exact Hh.out;(focus(unfold maxLen;omega));(focus(omega));clear hS;intro v w hS;(have hv9:=hS.rowVal));obtain⟨va,vc,rfl⟩:=hv9;(have mH:Nat:=0);refine frS ?_|(have:=mH);((with_reducible apply CD7 (enc:=Ro.cells) hS);rfl;rfl;rfl;rfl;exact esS;exact rsS;rfl;decide;exact d7;exact b8;exact Ro.len;exact Ro.one;exact Hr.out;(focus(unfold maxLen;omega));(focus(omega));clear hS;intro v w hS;(have hv9:=hS.rowVal));obtain⟨xa,xc,rfl⟩:=hv9;refine frS ?_|refine zal hS ?_;clear hS;intro b9 w hS|refine zsN hS ?_;clear hS;intro w hS|go_at_call 6;refine(Ep7 (zs:=zs) (hs:=hs) (l:=l) (St.sliceV Zo.len (hS.take (by(focus((repeat(first|exact .head|apply Take.tail));done))))) (St.sliceV Cs7 (hS.take (by(focus((repeat(first|exact .head|apply Take.tail));done))))) (St.sliceV Ro.len (hS.take (by(focus((repeat(first|exact .head|apply Take.tail));done))))) (fun z hz=>⟨Hsm.out z hz,Hrg.out z hz⟩) hz60 h1 h2 (by omega) hr60 hS).mono ?_;clear hS;rintro e w ⟨y,out,rfl,hmk,hS⟩;(have Hmk:=jH hmk);clear hmk;(have hv9:=hS.rowVal;obtain⟨ya,yc,rfl⟩:=hv9))
 ·go_ret;exact⟨rfl,hS.s _⟩
 go_loopw [13] (fun v13 wr=>CmR W (row (.slice ya out.length yc) 5 64 out.length (out.flatMap Cg.cells)::blk b9 [.I ver,.I nxt,.slice ua zs.length uc] 24::row (.slice xa l.length xc) 3 34 l.length (l.flatMap Ro.cells)::row (.slice va hs.length vc) 1 3 hs.length (hs.flatMap hC)::row (.slice ua zs.length uc) 9 55 zs.length (zs.flatMap Zo.cells)::Old V::blk b1 [.I ver,.I nxt,.slice za zs.length zc] 24::blk b2 [.I hot,.I cold] 28::R) l.length v13 wr) (fun v13 _=>l.length-(intOf v13).toNat)
 case atStart=>exact⟨0,rfl,Nat.zero_le _,hS⟩
 case round=>
  clear hS;obtain⟨i,rfl,hi,hS⟩:=hrel;by_cases hil:i<l.length
  ·have d1:decide (i<l.length)=true:=decide_eq_true hil;obtain⟨⟨xg,rfl⟩,_,_⟩:=St.rowAddr (hS.s (row (.slice xa l.length xc) 3 _ l.length _::Old V::R)) (by omega);obtain⟨rb,rf,rfl,hall2⟩:=Hrat.out i hil;have hcx:∀{K K':List HP},Take K (row (.S xg l.length xc) 3 34 l.length (l.flatMap Ro.cells)) K'->a7 K xg (i*3) (Ro.cells l[i]):=fun{K K'} hu=>a7.elemM (enc:=Ro.cells) Ro.len hu hil
   generalize l[i]=r at hcx hall2;obtain⟨r0,r1,r2⟩:=r;simp only[Ro.cells]at hcx hall2;clear hi;go_wp2_with(first|go_big_skip);refine Aa7 (by kernel_rfl) (by kernel_rfl) hS ?_
   repeat(first|go_big_quiet_skip|(fail_if_success (have:=g1));refine zqN ?_ (vs:=[.I r0,.I r1,.string r2]) (hc:=by exact hcx (by exact d7));have g1:Nat:=0|(have:=g1);refine zqN ?_ (vs:=[.I r0,.I r1,.string r2]) (hc:=by exact a7.old (by exact b8) hall2)|(apply Ec7);rfl;rfl;rfl;rfl;kernel_rfl;intro w;exact cu4 _ _ _ w;refine frS ?_|refine zqn ?_|refine qR ?_)
   clear hS;intro w hS;go_wp2_with(first|go_big_skip);go_roundw
   case rel=>exact⟨i+1,rfl,hil,hS⟩
   case measure=>simp[intOf];omega
  ·have d1:decide (i<l.length)=false:=decide_eq_false hil;clear hi hil;go_wp2_with(first|go_big_skip)
   go_loopw [14] (fun v14 wr=>CmR W (row (.slice ya out.length yc) 5 64 out.length (out.flatMap Cg.cells)::blk b9 [.I ver,.I nxt,.slice ua zs.length uc] 24::row (.slice xa l.length xc) 3 34 l.length (l.flatMap Ro.cells)::row (.slice va hs.length vc) 1 3 hs.length (hs.flatMap hC)::row (.slice ua zs.length uc) 9 55 zs.length (zs.flatMap Zo.cells)::Old V::blk b1 [.I ver,.I nxt,.slice za zs.length zc] 24::blk b2 [.I hot,.I cold] 28::R) hs.length v14 wr) (fun v14 _=>hs.length-(intOf v14).toNat)
   case atStart=>exact⟨0,rfl,Nat.zero_le _,hS⟩
   case round=>
    clear hS;obtain⟨i,rfl,hi,hS⟩:=hrel;by_cases hil:i<hs.length
    ·have d1:decide (i<hs.length)=true:=decide_eq_true hil;obtain⟨⟨vg,rfl⟩,_,_⟩:=St.rowAddr (hS.s (row (.slice va hs.length vc) 1 _ hs.length _::Old V::R)) (by omega);obtain⟨rb,rf,rfl,hall2⟩:=Hhat.out i hil;have hcx:∀{K K':List HP},Take K (row (.S vg hs.length vc) 1 3 hs.length (hs.flatMap hC)) K'->a8 K vg i (.I hs[i]):=fun{K K'} hu W w hS=>by have h9:=a7.elemM (enc:=hC) Cs7 hu hil 0 _ rfl W w hS;rwa [Nat.mul_one,Nat.add_zero]at h9
     have hx0:V.cell? ⟨rb,rf+i,none⟩=some (.I hs[i]):=by have h9:=hall2 0 _ rfl;rwa [Nat.mul_one,Nat.add_zero]at h9
     clear hall2;generalize hs[i]=x at hcx hx0;have e1:(x != x)=false:=by simp
     clear hi;go_wp2_with(first|go_big_skip);refine Aa7 (by kernel_rfl) (by kernel_rfl) hS ?_
     repeat(first|go_big_quiet_skip|(fail_if_success (have:=g1));refine zq1 ?_ (v:=.I x) (hc:=by exact hcx (by exact d7));have g1:Nat:=0|(have:=g1);refine zq1 ?_ (v:=.I x) (hc:=by exact a8.old (by exact b8) hx0)|refine zqn ?_|refine qR ?_)
     clear hS;intro w hS;go_wp2_with(first|go_big_skip);go_roundw
     case rel=>exact⟨i+1,rfl,hil,hS⟩
     case measure=>simp[intOf];omega
    ·have d1:decide (i<hs.length)=false:=decide_eq_false hil;clear hi hil;go_wp2_with(first|go_big_skip);have hS1:=hS.s (Old V::blk b2 [.I hot,.I cold] 28::blk b1 [.I ver,.I nxt,.slice za zs.length zc] 24::blk b9 [.I ver,.I nxt,.slice ua zs.length uc] 24::row (.slice ya out.length yc) 5 64 out.length (out.flatMap Cg.cells)::row (.slice ua zs.length uc) 9 55 zs.length (zs.flatMap Zo.cells)::R);clear hS
     refine rf3 [0,0,3,7,15,15,15,15,143,15,527,15,2063,8175,16383,32767,65535,131071,262143,524287] (fun i=>i==8||i==13) (fun i=>if i==2||i==14||i==17 then some (.bool true)else none) [⟨some 8,none,fun nd=>row (nd 8) 3 71 l.length (l.flatMap Ro.cells)⟩,⟨some 13,none,fun nd=>row (nd 13) 5 64 out.length (out.flatMap Cg.cells)⟩]
      [none,none,none,none,none,none] hS1 ?_
     intro nd
     repeat(first|refine zcv ?_ (hs:=by(intro F w hS;(try clear hS0);exact Hu7 (zs:=zs) (d6.now Hv.out (by first|exact Mem.head|exact Mem.tail Mem.head|exact Mem.tail (Mem.tail Mem.head)) hS) (St.sliceV Zo.len (hS.take (by exact I7))) (by omega) hS))|apply Bz7;rfl;rfl;rfl;decide +kernel;(focus(simp only[fD,fI,fJ,Act.eval,fE,fF,fG,fH,fK];try rfl));intro _;rfl;intro F w hS;exact Hv7 (l:=l) (d6.now Hr.out (by first|exact Mem.head|exact Mem.tail Mem.head|exact Mem.tail (Mem.tail Mem.head)) hS) hr60 hS;refine frS ?_|apply Bz7;rfl;rfl;rfl;decide +kernel;(focus(simp only[fD,fI,fJ,Act.eval,fE,fF,fG,fH,fK];try rfl));intro _;rfl;intro F w hS;exact FZ7 (out:=out) (d6.now Hv.out (by first|exact Mem.head|exact Mem.tail Mem.head|exact Mem.tail (Mem.tail Mem.head)) hS) hz60 (d6.now Hh.out (by first|exact Mem.head|exact Mem.tail Mem.head|exact Mem.tail (Mem.tail Mem.head)) hS) (by omega) (St.sliceV Ro.len (hS.take (by exact I7))) hr60 Hmk.out hS;refine frS ?_|refine zcv ?_ (hs:=by(intro F w hS;(try clear hS0);exact Er7 (cs:=out) (St.sliceV Cg.len (hS.take (by exact I7))) (St.sliceV Cg.len (hS.take (by exact I7))) hS))|refine zcv ?_ (hs:=by(intro F w hS;(try clear hS0);exact In7 W _ _ hS))|refine zc1 ?_|refine zcN ?_|refine zcn ?_|refine cR ?_)
     refine AC7 ?_;clear hS1;intro w hS0;have hS1:St W [row (nd 8) 3 _ l.length _,row (nd 13) 5 _ out.length _,Old V,blk b2 _ _,blk b1 _ _,blk b9 _ _,row _ 5 _ out.length _,row _ 9 _ zs.length _,sats R] w:=hS0;generalize nd 8=v8 at *;generalize nd 13=v13 at *;have hS2:=hS1.unpack [_,_,_,_,_,_,_,_];clear hS0 hS1;simp only[jK,jN]at hS2;have hS:=hS2.s (Old V::R);clear hS2;go_wp2_with(first|go_big_skip);go_ret;exact⟨rfl,hS⟩
end Go.Proofs.YtjcfifkjbaffnaaGreat
end
