/-
  New of hosts.
-/
import Derived.Test.YtjcfifkjbaffnaaPeQM5
import Derived.Test.YtjcfifkjbaffnaaPeQM15
import Derived.Test.YtjcfifkjbaffnaaProg
import Derived.Shelf.SlSortCmp.WholeK
import Derived.Ground.SlsfProg
import Derived.Ground.NamesProg
set_option maxHeartbeats 16000000
set_option maxRecDepth 100000
set_option linter.unusedSimpArgs false
set_option linter.unusedVariables false
section
namespace Go.Proofs.Ytjcfifkjbaffnaa
open Go.RowKit Go.Sl
section
variable{hs:List Int}{v:Value}{V:World}
theorem Hv7(h:¬p7 hs)(hv:c9 hC 1 V v hs)(hl:hs.length<=1000)(W w:World)(R:List HP)(hS:St W (Old V::R) w):
  Calls Try.prog 35 #[v] w fun e w'=>e=.returned (.bool false)/\St W (Old V::R) w':=by
 refine(Cb7 hv hl W w R hS).mono ?_;rintro e w' ⟨r,h1,rfl,h2⟩;have:r=false:=by rw[<-Bool.not_eq_true];exact fun e=>h (h1.1 e)
 subst this;exact⟨rfl,h2⟩
theorem Gt7(h:p7 hs)(hv:c9 hC 1 V v hs)(hl:hs.length<=1000)(W w:World)(R:List HP)(hS:St W (Old V::R) w):
  Calls Try.prog 35 #[v] w fun e w'=>e=.returned (.bool true)/\St W (Old V::R) w':=by
 refine(Cb7 hv hl W w R hS).mono ?_;rintro e w' ⟨r,h1,rfl,h2⟩;have:r=true:=h1.2 h;subst this;exact⟨rfl,h2⟩
theorem Gu7(hv:c9 hC 1 V v hs)(h0:0<hs.length)(hl:hs.length<=1000)(W w:World)(R R':List HP)(ht:Take R (Old V) R')(hS:St W R w):
  Calls Try.prog 36 #[v] w fun e w'=>∃u,e=.returned u/\St W (row u 1 3 hs.length (hs.flatMap hC)::R) w':=by
 refine(Gr7 hv h0 hl W w R' (hS.take ht)).mono ?_;rintro e w' ⟨u,rfl,h⟩;exact⟨u,rfl,h.swap.back (.tail ht)⟩
end
theorem Jg7{hs:List Int}{v:Value}{V:World}(h:¬p7 hs)(hv:c9 hC 1 V v hs)(hl:hs.length<=1000)(W w:World)(R:List HP)(hS:St W (Old V::R) w):
  Calls Try.prog 15 #[v] w fun e w'=>e=.returned (.tuple #[.pointer none,.I 1])/\St W (Old V::R) w':=by
 have H:=jH h;have Hv:=jH hv;clear h hv;go_enter Try.func15,Try.ntmps15;go_wp2_with(first|go_big_skip|go_at_call 35;refine(Hv7 H.out Hv.out hl W _ _ hS).mono ?_;clear hS;rintro e w ⟨rfl,hS⟩);go_ret2;exact⟨rfl,hS⟩
theorem bt4(a:Option Addr)(n c:Nat)(w:World):(Instr.build 26 #[(0,.I 1),(1,.I 2),(2,.slice a n c)]).run Try.prog w=.ok (.agg #[.I 1,.I 2,.slice a n c]) w:=by kernel_rfl
theorem bu4(a b:Option Addr)(n c m d:Nat)(w:World):(Instr.build 82 #[(0,.agg #[.I 1,.I 2,.slice a n c]),(1,.slice b m d)]).run Try.prog w=.ok (.agg #[.I 1,.I 2,.slice a n c,.slice b m d]) w:=by kernel_rfl
theorem Cc7{hs:List Int}{v:Value}{V:World}(h:p7 hs)(hv:c9 hC 1 V v hs)(W w:World)(R:List HP)(hS:St W (Old V::R) w):
  Calls Try.prog 15 #[v] w fun e w'=>∃p,e=.returned (.tuple #[p,.I 0])/\St W (Old V::R) w':=by
 have H:=jH h;have Hv:=jH hv;have hl:hs.length<=1000:=Nat.le_trans h.2.1 (by decide);have hpos:0<hs.length:=h.1;obtain⟨a,cap,rfl,h63,hact⟩:=hv;obtain⟨pb,poff,rfl,hall⟩:=hact 0 hpos;have hx0:V.cell? ⟨pb,poff,none⟩=some (.I hs[0]):=hall 0 _ rfl;generalize hs[0]=x at hx0;clear h hall hact;go_enter Try.func15,Try.ntmps15;go_wp2_with(first|go_big_skip|go_at_call 35;refine(Gt7 H.out Hv.out hl W _ _ hS).mono ?_;clear hS;rintro e w ⟨rfl,hS⟩)
 refine rf2 [0,1,3,7,15,31,0,64,255,511,1023,2047] (fun i=>i==4||i==7||i==9) [⟨some 4,none,fun nd=>L9 (nd 4) 1 1 [.I 1,.string ⟨#[]⟩,.string ⟨#[]⟩,.I x,.I 1,.I 0,.I 0,.string ⟨#[]⟩,.I 0] 32⟩,⟨some 7,none,fun nd=>row (nd 7) 1 3 hs.length (hs.flatMap hC)⟩,⟨some 9,none,fun nd=>d9 (nd 9) [.I 1,.I 2,nd 4,nd 7] 82⟩]
  [none] hS ?_
 intro nd
 repeat(first|refine zc1 ?_ (v:=.I x) (hc:=by(intro F;exact b8.old (by first|exact Mem.head|exact Mem.tail Mem.head|exact Mem.tail (Mem.tail Mem.head)|exact Mem.tail (Mem.tail (Mem.tail Mem.head))) hx0))|apply aG4;rfl;rfl;rfl;(focus(simp only[fD,fI,fJ,Act.eval,fE,fF,fG,fH,fK];try rfl));exact esS;exact rsS;rfl;rfl;rfl;rfl;intro _;rfl;rfl;intro _;rfl;refine frS ?_|apply CG7;rfl;rfl;rfl;decide +kernel;(focus(simp only[fD,fI,fJ,Act.eval,fE,fF,fG,fH,fK];try rfl));intro _;rfl;intro F w hS;exact Gu7 Hv.out hpos hl W w _ _ (by exact ay4) hS;refine frS ?_|apply IN7;rfl;rfl;rfl;rfl;rfl;intro _;rfl;rfl;intro _;rfl;refine frS ?_|apply EM7 (vs:=#[(0,.I 1),(1,.I 2),(2,nd 4)]) (v:=.agg #[.I 1,.I 2,nd 4]);rfl;kernel_rfl;rfl;rfl;(focus(simp only[fD,fI,fJ,Act.eval,fE,fF,fG,fH,fK];try rfl));(intro F w hS;have h9:St W (L9 (nd 4) 1 1 _ _::_) w:=hS;obtain⟨y1,g2,_⟩:=h9.sl;rw[g2];exact bt4 _ _ _ w);refine frS ?_|apply EM7 (vs:=#[(0,.agg #[.I 1,.I 2,nd 4]),(1,nd 7)]) (v:=.agg #[.I 1,.I 2,nd 4,nd 7]);rfl;kernel_rfl;rfl;rfl;(focus(simp only[fD,fI,fJ,Act.eval,fE,fF,fG,fH,fK];try rfl));(intro F w hS;have h9:St W (L9 (nd 4) 1 1 _ _::row (nd 7) 1 _ hs.length _::_) w:=hS;obtain⟨y1,g2,_⟩:=h9.sl;obtain⟨x1,x2,g1⟩:=h9.drop.rowVal;rw[g1,g2];exact bu4 _ _ _ _ _ _ w);refine frS ?_|refine cR ?_)
 refine AA7 ?_;clear hS;intro w hS0;have hS:St W [_,_,_,Old V,sats R] w:=hS0;go_wp2_with(first|go_big_skip);go_ret2;exact⟨⟨_,rfl⟩,(St.unpack [Old V] hS.drop.drop.drop)⟩
def Zo.eqB(z y:Zo):Bool:=decide (z.id=y.id)&&(decide (z.sf.toList=y.sf.toList)&&(decide (z.st.toList=y.st.toList)&&(decide (z.own=y.own)&&(decide (z.ep=y.ep)&&(decide (z.pend=y.pend)&&(decide (z.to=y.to)&&(decide (z.key.toList=y.key.toList)&&decide (z.new=y.new))))))))
theorem Zo.eqB_iff(z y:Zo):z.eqB y=true↔z=y:=by
 obtain⟨z0,z1,z2,z3,z4,z5,z6,z7,z8⟩:=z;obtain⟨y0,y1,y2,y3,y4,y5,y6,y7,y8⟩:=y;unfold Zo.eqB;simp only[jB,decide_eq_true_eq,Lib.toList_data,Zo.mk.injEq];constructor
 ·rintro⟨a,b,c,d,e,f,g,h,i⟩;exact⟨a,AS7 b,AS7 c,d,e,f,g,AS7 h,i⟩
 ·rintro⟨a,b,c,d,e,f,g,h,i⟩;exact⟨a,by rw[b],by rw[c],d,e,f,g,by rw[h],i⟩
theorem bv4(z y:Zo)(w:World):(Op.equalIn 10000 32 (.agg z.cells.toArray) (.agg y.cells.toArray)).run Try.prog w=.ok (z.eqB y) w:=by
 have u9:=Try.underlying9;have a9:=Try.isAgg9;have z9:=Try.sizeOf9;have u3:=Try.underlying3;have a3:=Try.isAgg3;have z3:=Try.sizeOf3;have u5:=Try.underlying30;have a5:=Try.isAgg30;have z5:=Try.sizeOf30;have hp:=fun k u k2 u2 w=>aW4 k u k2 u2 9997 w
 have hs:Try.prog.stoodInHeld 32=false:=by kernel_rfl
 obtain⟨o0,o1,o2,o3,o4,o5,o6,o7,o8⟩:=z;obtain⟨q0,q1,q2,q3,q4,q5,q6,q7,q8⟩:=y;unfold Zo.eqB Zo.cells;dsimp only;rw[Op.equalIn];simp only[Sem.run_bind,run_underlying Try.underlying32,Result.andThen_ok,run_program,hs,Bool.false_eq_true,if_false];rw[<-Array.forIn_toList];simp only[List.forIn_cons,List.forIn_nil]
 go_simp
 by_cases h:o0=q0
 case neg=>simp[h]
 rw[if_pos h,decide_eq_true h,Bool.true_and];clear h;by_cases h:o1.toList=q1.toList
 case neg=>simp[h]
 by_cases h2:o2.toList=q2.toList
 case neg=>simp[h2]
 rw[if_neg (fun f=>f h h2),decide_eq_true h,decide_eq_true h2,Bool.true_and,Bool.true_and];clear h h2;by_cases h:o3=q3
 case neg=>simp[h]
 rw[if_pos h,decide_eq_true h,Bool.true_and];clear h;by_cases h:o4=q4
 case neg=>simp[h]
 rw[if_pos h,decide_eq_true h,Bool.true_and];clear h;by_cases h:o5=q5
 case neg=>simp[h]
 rw[if_pos h,decide_eq_true h,Bool.true_and];clear h;by_cases h:o6=q6
 case neg=>simp[h]
 rw[if_pos h,decide_eq_true h,Bool.true_and];clear h;by_cases h:o7.toList=q7.toList
 case neg=>simp[h]
 rw[if_pos h,decide_eq_true h,Bool.true_and];clear h;by_cases h:o8=q8 <;> simp[h]
theorem DI7{z y:Zo}{r:Bool}(h:z.eqB y=r)(w:World):(Op.equalIn 10000 32 (.agg z.cells.toArray) (.agg y.cells.toArray)).run Try.prog w=.ok r w:=h▸bv4 z y w
def EqR(W:World)(R:List HP)(l zs:List Zo)(v:Value)(w:World):Prop:=
 ∃i:Nat,v=.I i/\i<=l.length/\(∀j (h:j<l.length) (h2:j<zs.length),j<i->l[j]=zs[j])/\St W R w
theorem DJ7{l zs:List Zo}{u v:Value}{V:World}(hv:c9 Zo.cells 9 V v zs)(hl:l.length<=1000)(hl2:zs.length<=1000)(W w:World)(R:List HP)(hS:St W (zoR u l::Old V::R) w):
  Calls Try.prog 16 #[u,v] w fun e w'=>∃r,(r=true↔l=zs)/\e=.returned (.bool r)/\St W (zoR u l::Old V::R) w':=by
 obtain⟨a,cap,rfl,h63,hact⟩:=hv;have Hat:=jH hact;obtain⟨ua,uc,rfl⟩:=hS.rowVal;clear hact;go_enter Try.func16,Try.ntmps16;by_cases h0:l.length=zs.length
 case neg=>
  have d0:((l.length:Int) != (zs.length:Int))=true:=by simp;omega
  have d0':(l.length != zs.length)=true:=by simpa using h0
  have Hno:=jH (show ¬l=zs from fun e=>h0 (by rw[e]));clear h0;go_wp2_with(first|go_big_skip);go_ret;exact⟨false,⟨fun h=>(by cases h),fun h=>absurd h Hno.out⟩,rfl,hS⟩
 have d0:((l.length:Int) != (zs.length:Int))=false:=by simp;omega
 have d0':(l.length != zs.length)=false:=by simpa using h0
 have H0:=jH h0;clear h0;go_wp2_with(first|go_big_skip)
 go_loopw [13] (fun v wr=>EqR W (zoR (.slice ua l.length uc) l::Old V::R) l zs v wr) (fun v _=>l.length-(intOf v).toNat)
 case atStart=>exact⟨0,rfl,Nat.zero_le _,fun j _ _ h=>absurd h (Nat.not_lt_zero _),hS⟩
 case round=>
  clear hS;obtain⟨i,rfl,hi,hok,hS⟩:=hrel;by_cases hil:i<l.length
  ·have d1:decide (i<l.length)=true:=decide_eq_true hil;have hiz:i<zs.length:=by have:=H0.out;omega
   have hnx:l[i]=zs[i]->∀j (h:j<l.length) (h2:j<zs.length),j<i+1->l[j]=zs[j]:=fun h j hj hj2 hlt=>by
    rcases Nat.lt_or_ge j i with h1|h1
    ·exact hok j hj hj2 h1
    ·obtain rfl:j=i:=by omega
     exact h
   have hbad:l[i]≠zs[i]->¬l=zs:=fun h e=>h (by subst e;rfl)
   obtain⟨pb,poff,rfl,hally⟩:=Hat.out i hiz;obtain⟨⟨g,rfl⟩,_,_⟩:=St.rowAddr hS (by omega);have hcx:∀{K:List HP},a7 (zoR (.S g l.length uc) l::K) g (i*9) (Zo.cells l[i]):=a7.elemM (enc:=Zo.cells) Zo.len .head hil;generalize l[i]=z at hcx hnx hbad;generalize zs[i]=y at hally hnx hbad
   cases hb:z.eqB y with
   | true=>
    have Hnx:=jH (hnx ((Zo.eqB_iff z y).1 hb));have Hb:=jH hb;obtain⟨z0,z1,z2,z3,z4,z5,z6,z7,z8⟩:=z;obtain⟨y0,y1,y2,y3,y4,y5,y6,y7,y8⟩:=y;simp only[Zo.cells]at hcx hally;clear hnx hbad hb hok hi;go_wp2_with(first|go_big_skip);refine Aa7 (by kernel_rfl) (by kernel_rfl) hS ?_
    repeat(first|go_big_quiet_skip|refine zqN ?_ (vs:=[.I z0,.string z1,.string z2,.I z3,.I z4,.I z5,.I z6,.string z7,.I z8]) (hc:=by exact hcx)|refine zqN ?_ (vs:=[.I y0,.string y1,.string y2,.I y3,.I y4,.I y5,.I y6,.string y7,.I y8]) (hc:=by exact a7.old (.tail .head) hally)|(apply HL7);rfl;rfl;rfl;rfl;kernel_rfl;exact(DI7 (z:=⟨z0,z1,z2,z3,z4,z5,z6,z7,z8⟩) (y:=⟨y0,y1,y2,y3,y4,y5,y6,y7,y8⟩) Hb.out);refine frS ?_|refine qR ?_)
    clear hS;intro w hS;go_wp2_with(first|go_big_skip);go_roundw
    case rel=>exact⟨i+1,rfl,hil,Hnx.out,hS⟩
    case measure=>simp[intOf];omega
   | false=>
    have Hno:=jH (hbad fun e=>by rw[(Zo.eqB_iff z y).2 e]at hb;cases hb);have Hb:=jH hb;obtain⟨z0,z1,z2,z3,z4,z5,z6,z7,z8⟩:=z;obtain⟨y0,y1,y2,y3,y4,y5,y6,y7,y8⟩:=y;simp only[Zo.cells]at hcx hally;clear hnx hbad hb hok hi;go_wp2_with(first|go_big_skip);refine Aa7 (by kernel_rfl) (by kernel_rfl) hS ?_
    repeat(first|go_big_quiet_skip|refine zqN ?_ (vs:=[.I z0,.string z1,.string z2,.I z3,.I z4,.I z5,.I z6,.string z7,.I z8]) (hc:=by exact hcx)|refine zqN ?_ (vs:=[.I y0,.string y1,.string y2,.I y3,.I y4,.I y5,.I y6,.string y7,.I y8]) (hc:=by exact a7.old (.tail .head) hally)|(apply HL7);rfl;rfl;rfl;rfl;kernel_rfl;exact(DI7 (z:=⟨z0,z1,z2,z3,z4,z5,z6,z7,z8⟩) (y:=⟨y0,y1,y2,y3,y4,y5,y6,y7,y8⟩) Hb.out);refine frS ?_|refine qR ?_)
    clear hS;intro w hS;go_wp2_with(first|go_big_skip);go_ret;exact⟨false,⟨fun h=>(by cases h),fun h=>absurd h Hno.out⟩,rfl,hS⟩
  ·have d1:decide (i<l.length)=false:=decide_eq_false hil;have hyes:l=zs:=List.ext_getElem H0.out fun j h1 h2=>hok j h1 h2 (by omega)
   have Hyes:=jH hyes;clear hyes hok hi;go_wp2_with(first|go_big_skip);go_ret;exact⟨true,⟨fun _=>Hyes.out,fun _=>rfl⟩,rfl,hS⟩
theorem Fp7{l zs:List Zo}{u v:Value}{V:World}(h:l=zs)(hv:c9 Zo.cells 9 V v zs)(hl2:zs.length<=1000)(W w:World)(R R':List HP)(ht:Take R (zoR u l) (Old V::R'))(hS:St W R w):
  Calls Try.prog 16 #[u,v] w fun e w'=>e=.returned (.bool true)/\St W R w':=by
 refine(DJ7 hv (by rw[h];exact hl2) hl2 W w R' (hS.take ht)).mono ?_;rintro e w' ⟨r,h1,rfl,h2⟩;have:r=true:=h1.2 h;subst this;exact⟨rfl,h2.back ht⟩
theorem Gv7{l zs:List Zo}{u v:Value}{V:World}(h:¬l=zs)(hv:c9 Zo.cells 9 V v zs)(hl:l.length<=1000)(hl2:zs.length<=1000)(W w:World)(R R':List HP)(ht:Take R (zoR u l) (Old V::R'))(hS:St W R w):
  Calls Try.prog 16 #[u,v] w fun e w'=>e=.returned (.bool false)/\St W R w':=by
 refine(DJ7 hv hl hl2 W w R' (hS.take ht)).mono ?_;rintro e w' ⟨r,h1,rfl,h2⟩;have:r=false:=by rw[<-Bool.not_eq_true];exact fun e=>h (h1.1 e)
 subst this;exact⟨rfl,h2.back ht⟩
section
variable{R:List HP}{W w:World}
theorem ag4:∀{A:List HP} {h:r9},sep (sats A) (sats R) h->sats (A++R) h
 | [],_,⟨_,_,h2⟩=>AJ7 h2
 | _::_,_,hs=>Au7 (fun _ x=>x) (fun _ x=>ag4 x) (CY7 hs)
theorem Gw7{h:r9}{A:List HP}(hs:sats A h):sep (sats []) (sats A) h:=⟨fun _=>false,trivial,by
 have:d7 (fun _=>false) h=h:=by funext b;rfl
 rw[this];exact hs⟩
theorem ah4:∀{A:List HP} {h:r9},sats (A++R) h->sep (sats A) (sats R) h
 | [],_,hs=>Gw7 hs
 | _::_,_,hs=>Ek7 (Au7 (fun _ x=>x) (fun _ x=>ah4 x) hs)
theorem St.openP{A:List HP}(h:St W (sats A::R) w):St W (A++R) w:=⟨h.os,h.tape,h.output,ag4 h.sat⟩
theorem St.shutP(A:List HP)(h:St W (A++R) w):St W (sats A::R) w:=⟨h.os,h.tape,h.output,ah4 h.sat⟩
end
def aX4(acc:List (Int×Ro))(r:Ro):List (Int×Ro):=if(l6 acc r.zone).isNone=true then(r.zone,⟨r.zone,G9 r.hits,r.mid⟩)::A6 acc r.zone else acc
def H7(l:List Ro):List (Int×Ro):=l.foldl aX4 []
def aA4:List Ro->Int->Option Ro
 | [],_=>none
 | r::l,n=>if r.zone=n then some ⟨r.zone,G9 r.hits,r.mid⟩else aA4 l n
theorem HP7:∀(l:List Ro) (n:Int),(aA4 l n).getD ro0=D5 l n
 | [],_=>rfl
 | r::l,n=>by
  rw[aA4,D5];by_cases h:r.zone=n
  ·rw[if_pos h,if_pos h];rfl
  ·rw[if_neg h,if_neg h];exact HP7 l n
theorem DK7:∀(l:List Ro) (acc:List (Int×Ro)) (n:Int),l6 (l.foldl aX4 acc) n=match l6 acc n with
  | some x=>some x
  | none=>aA4 l n
 | [],acc,n=>by
  rw[List.foldl_nil,aA4]
  cases l6 acc n <;> rfl
 | r::l,acc,n=>by
  rw[List.foldl_cons,DK7 l];unfold aX4;by_cases hc:(l6 acc r.zone).isNone=true
  ·rw[if_pos hc,BZ7,aA4];by_cases h:r.zone=n
   ·subst h;rw[if_pos rfl,if_pos rfl];rw[Option.isNone_iff_eq_none]at hc;rw[hc]
   ·rw[if_neg h,if_neg h]
  ·rw[if_neg hc,aA4];by_cases h:r.zone=n
   ·subst h
    cases hg:l6 acc r.zone with
    | none=>rw[hg]at hc;exact absurd rfl hc
    | some x=>rfl
   ·rw[if_neg h]
theorem Cd7(l:List Ro)(n:Int):(l6 (H7 l) n).getD ro0=D5 l n:=by unfold H7;rw[DK7 l [] n];exact HP7 l n
theorem Hw7{l:List Ro}{i:Nat}(h:i<l.length):H7 (l.take (i+1))=aX4 (H7 (l.take i)) l[i]:=by unfold H7;rw[List.take_succ_eq_append_getElem h,List.foldl_append];rfl
structure Pe where
 pb:Nat
 m1:Nat
 m2:Nat
 m3:Nat
 ver:Int
 nxt:Int
 hot:Int
 cold:Int
 zv:Value
 hv:Value
abbrev kB(b:Bool):Value:=.bool b
abbrev kRo(r:Ro):Value:=.agg r.cells.toArray
theorem tIB:x9 Try.prog 60=some (3,4):=by kernel_rfl
theorem tIR:x9 Try.prog 59=some (3,35):=by kernel_rfl
theorem zB0:s6 Try.prog 4=some (.bool false):=by kernel_rfl
theorem zR0:s6 Try.prog 35=some (.agg #[.I 0,.I 0,.string ⟨#[]⟩]):=by kernel_rfl
theorem Cg.len(c:Cg):c.cells.length=5:=rfl
def NmI(nl:List (Int×Bool))(nm:List Int):Prop:=∀k,(l6 nl k).getD false=decide (k∈nm)
theorem bY4:NmI [] []:=fun _=>rfl
theorem Iz7{nl:List (Int×Bool)}{nm:List Int}(h:NmI nl nm)(x:Int):NmI ((x,true)::A6 nl x) (x::nm):=fun k=>by
 rw[BZ7];by_cases hk:x=k
 ·subst hk;rw[if_pos rfl];simp
 ·rw[if_neg hk,h k];rw[decide_eq_decide];constructor
  ·exact fun h=>List.mem_cons_of_mem _ h
  ·intro h2
   rcases List.mem_cons.1 h2 with e|h2
   ·exact absurd e.symm hk
   ·exact h2
def plB(E:Pe)(ov:Value):HP:=blk E.pb [.I E.ver,.I E.nxt,E.zv,.map (some E.m1),E.hv,.map (some E.m2),.map (some E.m3),.I E.hot,.I E.cold,ov] 63
def plX(E:Pe)(rl:List (Int×Ro))(s:Pn)(nl:List (Int×Bool))(ov:Value):List HP:=[plB E ov,f7 kI kRo E.m1 rl,f7 kI kB E.m2 nl,f7 kI kI E.m3 s.mv,row ov 5 42 s.out.length (s.out.flatMap Cg.cells)]
def plP(E:Pe)(rl:List (Int×Ro))(s:Pn):HP:=fun f=>∃x:List (Int×Bool)×Value,NmI x.1 s.nm/\sats (plX E rl s x.1 x.2) f
section
variable{E:Pe}{rl:List (Int×Ro)}{s:Pn}{W w:World}{R:List HP}
theorem q9(h:St W (plP E rl s::R) w):∃nl ov,NmI nl s.nm/\St W (plB E ov::f7 kI kRo E.m1 rl::f7 kI kB E.m2 nl::f7 kI kI E.m3 s.mv::row ov 5 42 s.out.length (s.out.flatMap Cg.cells)::R) w:=by obtain⟨⟨nl,ov⟩,h1⟩:=St.ex h;obtain⟨h2,h3⟩:=St.and h1;exact⟨nl,ov,h2,St.openP h3⟩
theorem D8{nl:List (Int×Bool)}{ov:Value}(hn:NmI nl s.nm)(h:St W (plB E ov::f7 kI kRo E.m1 rl::f7 kI kB E.m2 nl::f7 kI kI E.m3 s.mv::row ov 5 42 s.out.length (s.out.flatMap Cg.cells)::R) w):St W (plP E rl s::R) w:=by have h1:St W (sats (plX E rl s nl ov)::R) w:=St.shutP _ h;exact St.mkEx (nl,ov) (St.mkAnd hn h1)
end
theorem bw4(a b:Int)(c:ByteArray)(w:World):(Instr.field 35 (.agg #[.I a,.I b,.string c]) 1).run Try.prog w=.ok (.I b) w:=by kernel_rfl
theorem aY4(a b:Int)(c:ByteArray)(w:World):(Instr.field 35 (.agg #[.I a,.I b,.string c]) 2).run Try.prog w=.ok (.string c) w:=by kernel_rfl
section
variable{E:Pe}{rl:List (Int×Ro)}{s:Pn}{z0:Int}{z1 z2:ByteArray}{z3 z4 z5 z6:Int}{z7:ByteArray}{z8:Int}{W w:World}{R R':List HP}
theorem Ak7{r:Bool}(hr:B9 s ⟨z0,z1,z2,z3,z4,z5,z6,z7,z8⟩=r)(ht:Take R (plP E rl s) R')(hS:St W R w):
  Calls Try.prog 42 #[.pointer (some ⟨E.pb,0,none⟩),zV z0 z1 z2 z3 z4 z5 z6 z7 z8] w fun e w'=>e=.returned (.bool r)/\St W R w':=by
 suffices h:Calls Try.prog 42 #[.pointer (some ⟨E.pb,0,none⟩),zV z0 z1 z2 z3 z4 z5 z6 z7 z8] w fun e w'=>e=.returned (.bool r)/\St W (plP E rl s::R') w' by refine h.mono ?_;rintro e w' ⟨rfl,h2⟩;exact⟨rfl,h2.back ht⟩
 obtain⟨nl,ov,hn,hS1⟩:=q9 (hS.take ht);clear hS ht;have hS:=hS1;clear hS1;unfold plB at hS;have hq:=hn z0;unfold B9 at hr;simp only at hr;obtain⟨q,hqe⟩:∃q,q=decide (z0∈s.nm):=⟨_,rfl⟩
 rw[<-hqe]at hq hr;have e5:decide (z5=0)=(z5==0):=by rw[Bool.eq_iff_iff];simp
 rw[e5]at hr;subst hr;have Hn:=jH hn;have Hq:=jH hq;clear hn hq hqe e5;obtain⟨pb,m1,m2,m3,ver,nxt,hot,cold,zv,hv⟩:=E;simp only at hS ⊢;go_enter Try.func42,Try.ntmps42
 cases h5:z5==0 with
 | false=>
  go_wp2_with(first|go_big_skip|refine zbx hS ?_;clear hS;intro bO w hS);refine Aa7 (by kernel_rfl) (by kernel_rfl) hS ?_
  repeat(first|go_big_quiet_skip|refine zq1 ?_|refine zqn ?_|(apply Ad7 (ek:=kI) (ev:=kB) (k:=z0) false q);rfl;rfl;rfl;rfl;exact c7;exact tIB;exact mI;exact zB0;rfl;exact Hq.out;refine frS ?_|(apply Ad7 (ek:=kI) (ev:=kRo) (k:=z0) ro0 ⟨x0,x1,x2⟩);rfl;rfl;rfl;rfl;exact c7;exact tIR;exact mI;exact zR0;rfl;exact Hq.out;refine frS ?_|(apply AB7);rfl;rfl;rfl;exact bw4 _ _ _;refine frS ?_|refine qR ?_)
  clear hS;intro w hS;go_wp2_with(first|go_big_skip);go_ret;exact⟨rfl,D8 Hn.out hS.drop⟩
 | true=>
  go_wp2_with(first|go_big_skip|refine zbx hS ?_;clear hS;intro bO w hS);refine Aa7 (by kernel_rfl) (by kernel_rfl) hS ?_
  repeat(first|go_big_quiet_skip|refine zq1 ?_|refine zqn ?_|(apply Ad7 (ek:=kI) (ev:=kB) (k:=z0) false q);rfl;rfl;rfl;rfl;exact c7;exact tIB;exact mI;exact zB0;rfl;exact Hq.out;refine frS ?_|(apply Ad7 (ek:=kI) (ev:=kRo) (k:=z0) ro0 ⟨x0,x1,x2⟩);rfl;rfl;rfl;rfl;exact c7;exact tIR;exact mI;exact zR0;rfl;exact Hq.out;refine frS ?_|(apply AB7);rfl;rfl;rfl;exact bw4 _ _ _;refine frS ?_|refine qR ?_)
  clear hS;intro w hS;go_wp2_with(first|go_big_skip);go_ret;exact⟨rfl,D8 Hn.out hS.drop⟩
theorem Af7{l:List Ro}{x:Int}(hrl:∀n,(l6 rl n).getD ro0=D5 l n)(hx:i6 l ⟨z0,z1,z2,z3,z4,z5,z6,z7,z8⟩=x)(ht:Take R (plP E rl s) R')(hS:St W R w):
  Calls Try.prog 43 #[.pointer (some ⟨E.pb,0,none⟩),zV z0 z1 z2 z3 z4 z5 z6 z7 z8] w fun e w'=>e=.returned (.I x)/\St W R w':=by
 suffices h:Calls Try.prog 43 #[.pointer (some ⟨E.pb,0,none⟩),zV z0 z1 z2 z3 z4 z5 z6 z7 z8] w fun e w'=>e=.returned (.I x)/\St W (plP E rl s::R') w' by refine h.mono ?_;rintro e w' ⟨rfl,h2⟩;exact⟨rfl,h2.back ht⟩
 obtain⟨nl,ov,hn,hS1⟩:=q9 (hS.take ht);clear hS ht;have hS:=hS1;clear hS1;unfold plB at hS;have hq:=hrl z0;unfold i6 at hx;simp only at hx;generalize D5 l z0=q at hq hx;obtain⟨x0,x1,x2⟩:=q;obtain rfl:x1=x:=hx;have Hn:=jH hn;have Hq:=jH hq;clear hn hq hrl;obtain⟨pb,m1,m2,m3,ver,nxt,hot,cold,zv,hv⟩:=E;simp only at hS ⊢;go_enter Try.func43,Try.ntmps43;go_wp2_with(first|go_big_skip|refine zbx hS ?_;clear hS;intro bO w hS);refine Aa7 (by kernel_rfl) (by kernel_rfl) hS ?_
 repeat(first|go_big_quiet_skip|refine zq1 ?_|refine zqn ?_|(apply Ad7 (ek:=kI) (ev:=kB) (k:=z0) false q);rfl;rfl;rfl;rfl;exact c7;exact tIB;exact mI;exact zB0;rfl;exact Hq.out;refine frS ?_|(apply Ad7 (ek:=kI) (ev:=kRo) (k:=z0) ro0 ⟨x0,x1,x2⟩);rfl;rfl;rfl;rfl;exact c7;exact tIR;exact mI;exact zR0;rfl;exact Hq.out;refine frS ?_|(apply AB7);rfl;rfl;rfl;exact bw4 _ _ _;refine frS ?_|refine qR ?_)
 clear hS;intro w hS;go_wp2_with(first|go_big_skip);go_ret;exact⟨rfl,D8 Hn.out hS.drop⟩
end
def PdR(W:World)(R:List HP)(zs:List Zo)(k:Int)(v5 v14:Value)(w:World):Prop:=
 ∃i:Nat,v14=.I i/\v5=.I (l9 (zs.take i) k)/\i<=zs.length/\St W R w
theorem Hx7{zs:List Zo}{i:Nat}(h:i<zs.length)(k:Int):l9 (zs.take (i+1)) k=l9 (zs.take i) k+if zs[i].pend=k then 1 else 0:=by
 unfold l9;rw[List.take_succ_eq_append_getElem h,List.filter_append,jA]
 congr 1
 by_cases hp:zs[i].pend=k
 ·rw[if_pos hp,List.filter_cons_of_pos (by simpa using hp)];rfl
 ·rw[if_neg hp,List.filter_cons_of_neg (by simpa using hp)];rfl
theorem CU7(zs:List Zo)(k:Int):l9 zs k<=zs.length:=List.length_filter_le ..
theorem CB7{E:Pe}{rl:List (Int×Ro)}{s:Pn}{zs:List Zo}{V:World}(hv:c9 Zo.cells 9 V E.zv zs)(hl:zs.length<=60)(k:Int)(W w:World)(R:List HP)(hS:St W (plP E rl s::Old V::R) w):
  Calls Try.prog 40 #[.pointer (some ⟨E.pb,0,none⟩),.I k] w fun e w'=>e=.returned (.I (l9 zs k))/\St W (plP E rl s::Old V::R) w':=by
 obtain⟨nl,ov,hn,hS1⟩:=q9 hS;clear hS;have hS:=hS1;clear hS1;unfold plB at hS;have Hn:=jH hn;clear hn;have hsh:=fun w=>D8 (E:=E) (rl:=rl) (s:=s) (nl:=nl) (ov:=ov) (W:=W) (w:=w) (R:=Old V::R) Hn.out
 unfold plB at hsh;have Hsh:=jH hsh;clear hsh;obtain⟨pb,m1,m2,m3,ver,nxt,hot,cold,zv,hv0⟩:=E;simp only at hS hv Hsh ⊢;obtain⟨a,cap,rfl,h63,hact⟩:=hv;have Hat:=jH hact;clear hact;go_enter Try.func40,Try.ntmps40;go_wp2_with(first|go_big_skip|refine zl1 hS ?_)
 go_loopw [5,14] (fun v5 v14 wr=>PdR W (blk pb [.I ver,.I nxt,.slice a zs.length cap,.map (some m1),hv0,.map (some m2),.map (some m3),.I hot,.I cold,ov] 63::f7 kI kRo m1 rl::f7 kI kB m2 nl::f7 kI kI m3 s.mv::row ov 5 42 s.out.length (s.out.flatMap Cg.cells)::Old V::R) zs k v5 v14 wr) (fun _ v14 _=>zs.length-(intOf v14).toNat)
 case atStart=>exact⟨0,rfl,rfl,Nat.zero_le _,hS⟩
 case round=>
  clear hS;obtain⟨i,rfl,rfl,hi,hS⟩:=hrel;by_cases hil:i<zs.length
  ·have d1:decide (i<zs.length)=true:=decide_eq_true hil;have hnx:=Hx7 hil k;have hle:l9 (zs.take i) k<=60:=Nat.le_trans (CU7 _ _) (by rw[jT];omega);generalize l9 (zs.take i) k=c at hnx hle;obtain⟨pb2,poff,rfl,hall⟩:=Hat.out i hil;generalize zs[i]=z at hnx hall;obtain⟨z0,z1,z2,z3,z4,z5,z6,z7,z8⟩:=z;simp only[Zo.cells]at hall hnx;have Hnx:=jH hnx;clear hnx hi;by_cases h5:z5=k
   ·have e5:(z5==k)=true:=by simpa using h5
    have hnx:=Hnx.out;rw[if_pos h5]at hnx;have Hn2:=jH hnx;clear hnx h5;go_wp2_with(first|go_big_skip|refine zlN hS ?_ (vs:=[.I z0,.string z1,.string z2,.I z3,.I z4,.I z5,.I z6,.string z7,.I z8]) (hc:=by exact a7.old (by exact f9) hall)|refine zal hS ?_;clear hS;intro b7 w hS|refine zsN hS ?_;clear hS;intro w hS|refine zl1 hS ?_);go_roundw
    case rel=>exact⟨i+1,rfl,by rw[Hn2.out];rfl,hil,hS.s _⟩
    case measure=>simp[intOf];omega
   ·have e5:(z5==k)=false:=by simpa using h5
    have hnx:=Hnx.out;rw[if_neg h5]at hnx;have Hn2:=jH hnx;clear hnx h5;go_wp2_with(first|go_big_skip|refine zlN hS ?_ (vs:=[.I z0,.string z1,.string z2,.I z3,.I z4,.I z5,.I z6,.string z7,.I z8]) (hc:=by exact a7.old (by exact f9) hall)|refine zal hS ?_;clear hS;intro b7 w hS|refine zsN hS ?_;clear hS;intro w hS|refine zl1 hS ?_);go_roundw
    case rel=>exact⟨i+1,rfl,by rw[Hn2.out];rfl,hil,hS.s _⟩
    case measure=>simp[intOf];omega
  ·have d1:decide (i<zs.length)=false:=decide_eq_false hil;have hie:i=zs.length:=by omega
   have Hie:=jH (show zs.take i=zs by rw[hie,List.take_length]);clear hi hie;go_wp2_with(first|go_big_skip);go_ret;exact⟨by rw[Hie.out];first|done|rfl,Hsh.out _ hS⟩
def NaR(W:World)(pre post:List HP)(m2:Nat)(ids nm:List Int)(v10:Value)(w:World):Prop:=
 ∃(i:Nat) (nl:List (Int×Bool)),v10=.I i/\i<=ids.length/\NmI nl ((ids.take i).reverse++nm)/\St W (pre++f7 kI kB m2 nl::post) w
theorem CV7{E:Pe}{rl:List (Int×Ro)}{s:Pn}(c0 c1 c2 c3:Int)(c4:ByteArray)(ids:List Int)(g cap:Nat)(hi:ids.length<=10)(hl:s.out.length<=1000)(W w:World)(R:List HP)(hS:St W (plP E rl s::blk g (ids.map kI) 3::R) w):
  Calls Try.prog 44 #[.pointer (some ⟨E.pb,0,none⟩),.agg #[.I c0,.I c1,.I c2,.I c3,.string c4],.S g ids.length cap] w fun e w'=>e=.returned (.tuple #[])/\St W (plP E rl ⟨ids.reverse++s.nm,s.mv,s.out++[⟨c0,c1,c2,c3,c4⟩]⟩::blk g (ids.map kI) 3::R) w':=by
 obtain⟨nl,ov,hn,hS1⟩:=q9 hS;clear hS;have hS:=hS1;clear hS1;unfold plB at hS;obtain⟨nm,mv,out⟩:=s;have hsh:=fun nl ov w (hn:NmI nl (ids.reverse++nm))=>D8 (E:=E) (rl:=rl) (s:=⟨ids.reverse++nm,mv,out++[⟨c0,c1,c2,c3,c4⟩]⟩) (nl:=nl) (ov:=ov) (W:=W) (w:=w) (R:=blk g (ids.map kI) 3::R) hn
 unfold plB at hsh;have Hsh:=jH hsh;clear hsh;obtain⟨pb,m1,m2,m3,ver,nxt,hot,cold,zv,hv⟩:=E;simp only at hS hl Hsh hn ⊢;have Hn:=jH hn;clear hn;go_enter Try.func44,Try.ntmps44;go_wp2_with(first|go_big_skip|refine zbx hS ?_ (v:=.agg #[.I c0,.I c1,.I c2,.I c3,.string c4]) (l:=[.I c0,.I c1,.I c2,.I c3,.string c4]);clear hS;intro b4 w hS)
 go_loopw [10] (fun v10 wr=>NaR W [blk b4 [.I c0,.I c1,.I c2,.I c3,.string c4] 42,blk pb [.I ver,.I nxt,zv,.map (some m1),hv,.map (some m2),.map (some m3),.I hot,.I cold,ov] 63,f7 kI kRo m1 rl] (f7 kI kI m3 mv::row ov 5 42 out.length (out.flatMap Cg.cells)::blk g (ids.map kI) 3::R) m2 ids nm v10 wr) (fun v10 _=>ids.length-(intOf v10).toNat)
 case atStart=>exact⟨0,nl,rfl,Nat.zero_le _,Hn.out,hS⟩
 case round=>
  clear hS Hn;obtain⟨i,nl,rfl,hil,hn,hS0⟩:=hrel;have hS:St W (blk b4 [.I c0,.I c1,.I c2,.I c3,.string c4] 42::blk pb [.I ver,.I nxt,zv,.map (some m1),hv,.map (some m2),.map (some m3),.I hot,.I cold,ov] 63::f7 kI kRo m1 rl::f7 kI kB m2 nl::f7 kI kI m3 mv::row ov 5 42 out.length (out.flatMap Cg.cells)::blk g (ids.map kI) 3::R) _:=hS0;clear hS0;by_cases hin:i<ids.length
  ·have d1:decide (i<ids.length)=true:=decide_eq_true hin;have hnx:NmI ((ids[i],true)::A6 nl ids[i]) ((ids.take (i+1)).reverse++nm):=by rw[List.take_succ_eq_append_getElem hin,List.reverse_append];exact Iz7 hn _
   have hcx:b8 (blk g (ids.map kI) 3::R) g (0+i) (kI ids[i]):=b8.here (by rw[Nat.zero_add,List.getElem?_map,jG hin];rfl);generalize ids[i]=x at hnx hcx;have Hnx:=jH hnx;clear hnx hn hil;rw[Nat.zero_add]at hcx;go_wp2_with(first|go_big_skip|refine zl1 hS ?_ (v:=.I x) (hc:=by exact .there (.there (.there (.there (.there (.there hcx))))))|refine zl1 hS ?_|((apply CK7 (ek:=kI) (ev:=kB) (k:=x) (u:=true) hS);rfl;rfl;rfl;rfl;exact c7;(focus(rfl));exact tIB;exact mI;clear hS;intro w hS;try(refine frS ?_)));go_roundw
   case rel=>exact⟨i+1,_,rfl,hin,Hnx.out,hS.s (blk b4 [.I c0,.I c1,.I c2,.I c3,.string c4] 42::blk pb [.I ver,.I nxt,zv,.map (some m1),hv,.map (some m2),.map (some m3),.I hot,.I cold,ov] 63::f7 kI kRo m1 rl::f7 kI kB m2 _::f7 kI kI m3 mv::row ov 5 42 out.length (out.flatMap Cg.cells)::blk g (ids.map kI) 3::R)⟩
   case measure=>simp[intOf];omega
  ·have d1:decide (i<ids.length)=false:=decide_eq_false hin;have hie:i=ids.length:=by omega
   rw[hie,List.take_length]at hn;have Hn:=jH hn;clear hn hie hil;go_wp2_with(first|go_big_skip);have hS1:=hS.s (blk pb [.I ver,.I nxt,zv,.map (some m1),hv,.map (some m2),.map (some m3),.I hot,.I cold,ov] 63::row ov 5 42 out.length (out.flatMap Cg.cells)::blk b4 [.I c0,.I c1,.I c2,.I c3,.string c4] 42::f7 kI kRo m1 rl::f7 kI kB m2 nl::f7 kI kI m3 mv::blk g (ids.map kI) 3::R);clear hS;obtain⟨oa,oc,rfl⟩:=hS1.drop.rowVal
   refine rf2 [0,0,2,6,14,0,32,126,255,511,1023] (fun i=>i==6||i==7) [⟨some 6,none,fun nd=>L9 (nd 6) 1 1 [.I c0,.I c1,.I c2,.I c3,.string c4] 42⟩,⟨some 7,none,fun nd=>row (nd 7) 5 42 (out.length+1) (out.flatMap Cg.cells++[.I c0,.I c1,.I c2,.I c3,.string c4])⟩,⟨some 10,none,fun nd=>blk pb [.I ver,.I nxt,zv,.map (some m1),hv,.map (some m2),.map (some m3),.I hot,.I cold,nd 7] 63⟩]
    [some 10,some 7,none] hS1 ?_
   intro nd
   repeat(first|refine zc1 ?_|refine zcN ?_|apply aG4;rfl;rfl;rfl;(focus(simp only[fD,fI,fJ,Act.eval,fE,fF,fG,fH,fK];try rfl));exact esS;exact rsS;rfl;rfl;rfl;rfl;intro _;rfl;rfl;intro _;rfl;refine frS ?_|apply Dm7;rfl;rfl;rfl;(focus((conv=>lhs;whnf);try rfl));(focus((conv=>lhs;whnf);try rfl));exact esS;exact rsS;rfl;decide;rfl;intro F w hS;exact Eu7 hS (by exact ay4);(focus(try rfl));rfl;(focus(unfold maxLen;omega));(focus(omega));intro _;rfl;intro _;rfl;refine frS ?_|(apply HF7;rfl;rfl;rfl;rfl;(focus((conv=>lhs;whnf);try rfl));kernel_rfl;rfl;intro F w hS;exact hS.rowOne (by exact ay4);(focus(simp));rfl;rfl;try(refine frS ?_))|refine zcn ?_|refine cR ?_)
   refine AA7 ?_;clear hS1;intro w hS0;have hS1:St W [L9 (nd 6) 1 1 _ _,row (nd 7) 5 _ (out.length+1) _,blk pb [.I ver,.I nxt,zv,.map (some m1),hv,.map (some m2),.map (some m3),.I hot,.I cold,nd 7] 63,blk b4 [.I c0,.I c1,.I c2,.I c3,.string c4] 42,sats _] w:=hS0;generalize nd 7=v7 at *;have hS:=hS1.drop.unpack [_,_,_];clear hS0 hS1;simp only[jK,jN]at hS;go_wp2_with(first|go_big_skip);go_end0;refine⟨rfl,Hsh.out nl v7 _ Hn.out ?_⟩;have h9:=hS.s (blk pb [.I ver,.I nxt,zv,.map (some m1),hv,.map (some m2),.map (some m3),.I hot,.I cold,v7] 63::f7 kI kRo m1 rl::f7 kI kB m2 nl::f7 kI kI m3 mv::row v7 5 42 (out.length+1) _::blk g (ids.map kI) 3::R);rw[jA,List.flatMap_append];exact h9
end Go.Proofs.Ytjcfifkjbaffnaa
end
section
namespace Go.Proofs.Ytjcfifkjbaffnaa
open Go.Shelf
def Try.sortZ_ren:Go.Shelf.Ren:=⟨fun|6=>38|15=>61|14=>60|28=>77|29=>78|20=>69|21=>70|22=>71|23=>72|24=>73|25=>74|26=>75|27=>76|46=>80|47=>81|48=>82|49=>83|50=>84|57=>85|n=>n,fun|22=>24|24=>32|25=>85|3=>3|39=>28|0=>0|53=>134|55=>106|4=>4|46=>128|45=>127|50=>121|5=>5|9=>9|66=>140|70=>72|76=>147|77=>148|n=>n,fun|n=>n⟩
theorem Try.sortZ:Go.Proofs.SlLaysF0.n6 Try.prog Try.sortZ_ren:={
 mixed:=by kernel_rfl
 f6:=⟨Try.f38.name,by decide,Try.func38.trans (congrArg some (by kernel_rfl))⟩
 f14:=⟨Try.f60.name,by decide,Try.func60.trans (congrArg some (by kernel_rfl))⟩
 f15:=Try.func61.trans (congrArg some (by kernel_rfl))
 f20:=⟨Try.f69.name,by decide,Try.func69.trans (congrArg some (by kernel_rfl))⟩
 f21:=⟨Try.f70.name,by decide,Try.func70.trans (congrArg some (by kernel_rfl))⟩
 f22:=⟨Try.f71.name,by decide,Try.func71.trans (congrArg some (by kernel_rfl))⟩
 f23:=⟨Try.f72.name,by decide,Try.func72.trans (congrArg some (by kernel_rfl))⟩
 f24:=⟨Try.f73.name,by decide,Try.func73.trans (congrArg some (by kernel_rfl))⟩
 f25:=⟨Try.f74.name,by decide,Try.func74.trans (congrArg some (by kernel_rfl))⟩
 f26:=⟨Try.f75.name,by decide,Try.func75.trans (congrArg some (by kernel_rfl))⟩
 f27:=⟨Try.f76.name,by decide,Try.func76.trans (congrArg some (by kernel_rfl))⟩
 f28:=Try.func77.trans (congrArg some (by kernel_rfl))
 f29:=Try.func78.trans (congrArg some (by kernel_rfl))
 f46:=⟨Try.f80.name,by decide,Try.func80.trans (congrArg some (by kernel_rfl))⟩
 f47:=Try.func81.trans (congrArg some (by kernel_rfl))
 f48:=Try.func82.trans (congrArg some (by kernel_rfl))
 f49:=⟨Try.f83.name,by decide,Try.func83.trans (congrArg some (by kernel_rfl))⟩
 f50:=⟨Try.f84.name,by decide,Try.func84.trans (congrArg some (by kernel_rfl))⟩
 f57:=⟨Try.f85.name,by decide,Try.func85.trans (congrArg some (by kernel_rfl))⟩
 t0:=Try.underlying0
 a0:=Try.isAgg0
 z0:=Try.sizeOf0
 v0:=Try.zeroValue0
 t3:=Try.underlying3
 a3:=Try.isAgg3
 z3:=Try.sizeOf3
 v3:=Try.zeroValue3
 t4:=Try.underlying4
 a4:=Try.isAgg4
 z4:=Try.sizeOf4
 v4:=Try.zeroValue4
 t5:=Try.underlying5
 a5:=Try.isAgg5
 z5:=Try.sizeOf5
 v5:=Try.zeroValue5
 t9:=Try.underlying9
 a9:=Try.isAgg9
 z9:=Try.sizeOf9
 v9:=Try.zeroValue9
 t22:=Try.underlying24
 a22:=Try.isAgg24
 z22:=Try.sizeOf24
 v22:=Try.zeroValue24
 t25:=Try.underlying85
 a25:=Try.isAgg85
 z25:=Try.sizeOf85
 v25:=Try.zeroValue85
 t39:=Try.underlying28
 a39:=Try.isAgg28
 z39:=Try.sizeOf28
 v39:=Try.zeroValue28
 t45:=Try.underlying127
 a45:=Try.isAgg127
 z45:=Try.sizeOf127
 v45:=Try.zeroValue127
 t46:=Try.underlying128
 a46:=Try.isAgg128
 z46:=Try.sizeOf128
 v46:=Try.zeroValue128
 t50:=Try.underlying121
 a50:=Try.isAgg121
 z50:=Try.sizeOf121
 v50:=Try.zeroValue121
 t53:=Try.underlying134
 a53:=Try.isAgg134
 z53:=Try.sizeOf134
 v53:=Try.zeroValue134
 t55:=Try.underlying106
 a55:=Try.isAgg106
 z55:=Try.sizeOf106
 v55:=Try.zeroValue106
 t66:=Try.underlying140
 a66:=Try.isAgg140
 z66:=Try.sizeOf140
 v66:=Try.zeroValue140
 t70:=Try.underlying72
 a70:=Try.isAgg72
 z70:=Try.sizeOf72
 v70:=Try.zeroValue72
 t76:=Try.underlying147
 a76:=Try.isAgg147
 z76:=Try.sizeOf147
 v76:=Try.zeroValue147
 t77:=Try.underlying148
 a77:=Try.isAgg148
 z77:=Try.sizeOf148
 v77:=Try.zeroValue148 }
end Go.Proofs.Ytjcfifkjbaffnaa
end
