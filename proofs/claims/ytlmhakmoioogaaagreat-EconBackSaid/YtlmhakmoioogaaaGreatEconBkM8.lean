/-
  The document's book.
-/
import Derived.Test.YtlmhakmoioogaaaGreatEconBkM7
import Derived.Deep.Slices
import Derived.Deep.Fields
import Derived.ChangeSame
set_option maxHeartbeats 16000000
set_option maxRecDepth 100000
set_option linter.unusedSimpArgs false
set_option linter.unusedVariables false
section
namespace Go.Proofs.YtlmhakmoioogaaaGreat
open Go.RowKit Go.Sl
theorem Oq7(L:List Ord)(i j:Nat)(u:Value)(h:((L.take i).flatMap Ord.cells)[j]? = some u):(L.flatMap Ord.cells)[0+j]? = some u:=by
 rw[Nat.zero_add];have e:L.flatMap Ord.cells=(L.take i).flatMap Ord.cells++(L.drop i).flatMap Ord.cells:=by rw[<-List.flatMap_append,List.take_append_drop]
 rw[e,List.getElem?_append_left (List.getElem?_eq_some_iff.1 h).1];exact h
theorem Or7(L:List Ord)(i j:Nat)(u:Value)(hi:i<=L.length)(h:((L.drop i).flatMap Ord.cells)[j]? = some u):(L.flatMap Ord.cells)[i*6+j]? = some u:=by
 have e:L.flatMap Ord.cells=(L.take i).flatMap Ord.cells++(L.drop i).flatMap Ord.cells:=by rw[<-List.flatMap_append,List.take_append_drop]
 have hl:((L.take i).flatMap Ord.cells).length=i*6:=by rw[Ab7 Ord.len,jT,Nat.min_eq_left hi]
 rw[e,List.getElem?_append_right (by omega),hl,Nat.add_sub_cancel_left];exact h
theorem MR7{W w:World}{L:List HP}{R:List HP}{g c c':Nat}{Lo:List Ord}{i:Nat}(hi:i<=Lo.length)(hc:Lo.length<=c)(hS:St W L w)(hu:Take L (j8 (.S g Lo.length c) Lo) R):
  ds4 w (.slice (if c=i then some ⟨g,0,none⟩else some ⟨g,i*6,none⟩) (Lo.length-i) c') (Lo.length-i) ((Lo.drop i).flatMap Ord.cells):=by
 split
 ·have h0:Lo.drop i=[]:=List.drop_eq_nil_of_le (by omega);rw[h0];exact HQ7 hS hu (fun j u h=>by simp at h)
 ·exact HQ7 hS hu (fun j u h=>Or7 Lo i j u hi h)
theorem Ia7(L:List Ord)(i xb:Nat)(last:Int)(v:Value)(hlen:L.length<=32)(hi:i<L.length)(W w:World)(Lr:List HP)(hS:St W (blk xb [v,.I last] 244::j8 v L::Lr) w):
  Calls Tryz.prog 228 #[.P xb,.I i] w fun e w'=>e=.returned (.tuple #[])/\∃v',St W (blk xb [v',.I last] 244::j8 v' (L.eraseIdx i)::Lr) w':=by
 obtain⟨a,cap,rfl⟩:=hS.drop.rowVal;obtain⟨⟨g,rfl⟩,hcap,hcn⟩:=St.rowAddr hS.drop (by omega);have hi1:i<=cap:=by omega
 have hi2:i+1<=L.length:=by omega
 go_enter Tryz.func228,Tryz.ntmps228;refine rf2 [0,0,0,4,12,28,0,124,254,0,512,1536,3584,0,8192,32256,65534,131071,262143,524287] (fun i=>i==1||i==8||i==16) [⟨some 1,some 8,fun nd=>row (nd 1) 6 166 0 []⟩,⟨some 8,some 16,fun nd=>row (nd 8) 6 166 (0+i) ([]++(L.take i).flatMap Ord.cells)⟩,⟨some 16,none,fun nd=>row (nd 16) 6 166 (0+i+(L.length-(i+1))) ([]++(L.take i).flatMap Ord.cells++(L.drop (i+1)).flatMap Ord.cells)⟩,⟨some 19,none,fun nd=>blk xb [nd 16,.I last] 244⟩] [some 19,none] hS ?_;intro nd;refine cR ?_;apply BO7;rfl;rfl;rfl;(focus(simp only[fD,fI,fJ,Act.eval,fE,fF,fG,fH,fK];try rfl));(exact esS);(exact rsS);rfl;rfl;rfl;rfl;rfl;decide;(intro _;rfl);rfl;(intro _;rfl);(refine frS ?_);refine cR ?_;refine zcn ?_;refine cR ?_;refine zc1 ?_;refine cR ?_;refine cR ?_;apply Ai7;rfl;rfl;rfl;(focus((conv=>lhs;whnf);try rfl));(focus((conv=>lhs;whnf);try rfl));(exact esS);(exact rsS);rfl;decide;rfl;(intro F w hS;exact HQ7 hS (by exact j5) (fun j u h=>Oq7 L i j u h));(focus(rw[Ab7 Ord.len,jT,Nat.min_eq_left (by omega)]));(focus(exact FK7 _));(focus(unfold maxLen;omega));(focus(omega));(intro _;rfl);(intro _;rfl);(refine frS ?_);refine cR ?_;refine zcn ?_;refine cR ?_;refine zc1 ?_
 iterate 3 (refine cR ?_)
 (apply Ai7;rfl;rfl;rfl;(focus((conv=>lhs;whnf);try rfl));(focus((conv=>lhs;whnf);try rfl));exact esS;exact rsS;rfl;decide;rfl;intro F w hS;exact MR7 hi2 hcn hS (by exact j5);(focus(rw[Ab7 Ord.len,List.length_drop]));(focus(exact FK7 _));(focus(unfold maxLen;omega));(focus(omega));intro _;rfl;intro _;rfl;refine frS ?_);refine zcn ?_;refine cR ?_;(apply Lr7;rfl;rfl;rfl;rfl;(focus((conv=>lhs;whnf);try rfl));kernel_rfl;rfl;intro F w hS;exact hS.rowOne (by exact D5);(focus(simp));rfl;rfl;try(refine frS ?_));refine Ad7 ?_;clear hS;intro w hS;have hS2:St W [row (nd 16) 6 _ _ _,blk xb _ _,j8 _ _,sats Lr] w:=hS;clear hS;have hS:=hS2.unpack [_,_,_];clear hS2;simp only[jK,jN]at hS;generalize nd 16=v16 at *;have e1:L.eraseIdx i=L.take i++L.drop (i+1):=List.eraseIdx_eq_take_drop_succ L i;have e2:(L.take i++L.drop (i+1)).length=0+i+(L.length-(i+1)):=by rw[jA,jT,List.length_drop,Nat.min_eq_left (by omega)];omega
 have fin:St W (blk xb [v16,.I last] 244::j8 v16 (L.eraseIdx i)::Lr) w:=by have h1:=(hS.take .t2).drop.swap;unfold j8;rw[e1,List.flatMap_append,e2];exact h1
 have Fin:=jH fin;clear fin hS e1 e2;go_wp2_with fail
 all_goals go_end0
 all_goals exact⟨rfl,v16,Fin.out⟩
def gg4(W:World)(Lr:List HP)(L:List Ord)(id:Int)(v6:Value)(w:World):Prop:=
 ∃k:Nat,v6=.I k/\k<=L.length/\(∀j,j<k->(at' L j).id≠id)/\St W Lr w
theorem MS7{L:List Ord}{id:Int}(h:∀j,j<L.length->(at' L j).id≠id):A6 L id=⟨o0,7,L⟩:=by unfold A6;rw[List.findIdx?_eq_none_iff.2];intro x hx;obtain⟨j,hj,rfl⟩:=cu4 hx;simpa using h j hj
theorem Kq7{L:List Ord}{id:Int}{k:Nat}(hk:k<L.length)(h:∀j,j<k->(at' L j).id≠id)(hx:(at' L k).id=id):A6 L id=⟨at' L k,0,L.eraseIdx k⟩:=by unfold A6;rw[List.findIdx?_eq_some_iff_getElem.2 ⟨hk,by rw[<-w5 hk];simpa using hx,fun j hj=>by rw[<-w5 (show j<L.length by omega)];simpa using h j hj⟩]
theorem Hi7(L:List Ord)(id:Int)(xb:Nat)(last:Int)(v:Value)(hlen:L.length<=32)(W w:World)(Lr:List HP)(hS:St W (blk xb [v,.I last] 244::j8 v L::Lr) w):
  Calls Tryz.prog 186 #[.P xb,.I id] w fun e w'=>e=.returned (.tuple #[.agg (A6 L id).o.cells.toArray,.I (A6 L id).errno])/\∃v',St W (blk xb [v',.I last] 244::j8 v' (A6 L id).L::Lr) w':=by
 obtain⟨a,cap,rfl⟩:=hS.drop.rowVal;go_enter Tryz.func186,Tryz.ntmps186;go_wp2_with(first|refine zl1 hS ?_|refine zlN hS ?_|refine zs1 hS ?_;clear hS;intro w hS|refine zsN hS ?_;clear hS;intro w hS|refine zbx hS ?_;clear hS;intro b w hS|refine zal hS ?_;clear hS;intro b w hS)
 go_loopw [6] (fun v6 wr=>gg4 W (blk b [.I 0,.string ⟨#[]⟩,.bool false,.I 0,.I 0,.I 0] 166::blk xb [.slice a L.length cap,.I last] 244::j8 (.slice a L.length cap) L::Lr) L id v6 wr) (fun v _=>L.length-(intOf v).toNat)
 case atStart=>exact⟨0,rfl,by omega,fun j hj=>absurd hj (Nat.not_lt_zero _),hS⟩
 case round=>
  clear hS;obtain⟨k,rfl,hk,hno,hS⟩:=hrel;by_cases hkn:k=L.length
  ·have E:=jH (MS7 (L:=L) (id:=id) (hkn▸hno));subst hkn;clear hno;go_wp2_with(first|refine zl1 hS ?_|refine zlN hS ?_|refine zs1 hS ?_;clear hS;intro w hS|refine zsN hS ?_;clear hS;intro w hS|refine zbx hS ?_;clear hS;intro b w hS|refine zal hS ?_;clear hS;intro b w hS);apply Ac7;rfl;rfl;rfl;rfl;exact hS;decide +kernel;(exact x9);kernel_rfl;rw[E.out];exact⟨rfl,_,hS.drop⟩
  ·have hkl:k<L.length:=by omega
   clear hkn hk;obtain⟨⟨g,rfl⟩,hcap,hcn⟩:=St.rowAddr hS.drop.drop (by omega);have q0:(Ord.cells L[k])[0]? = some (.I L[k].id):=rfl;by_cases hid:L[k].id=id
   ·have E:=jH (Kq7 hkl hno (by rw[w5 hkl];exact hid));rw[hid]at q0;have hxe:L[k]=at' L k:=(w5 hkl).symm;clear hno hid;have hcells:i8 (j8 (.S g L.length cap) L::Lr) g (k*6) (Ord.cells (at' L k)):=by rw[<-hxe];exact i8.rowE Ord.len hkl
    clear hxe;generalize at' L k=x at E hcells;obtain⟨xi,xu,xy,xt,xc,xp⟩:=x;simp only[Ord.cells]at hcells;go_wp2_with(first|refine zl1 hS ?_ (hc:=by exact i9.there (i9.there (i9.rowE Ord.len hkl q0)))|refine zlN hS ?_ (hc:=by exact i8.there (i8.there hcells))|go_at_call 228;refine(Ia7 L k xb last _ hlen hkl W _ _ ((hS.take .t3).take .t3)).mono ?_;clear hS;rintro e w ⟨rfl,v',hS⟩|refine zl1 hS ?_|refine zlN hS ?_|refine zs1 hS ?_;clear hS;intro w hS|refine zsN hS ?_;clear hS;intro w hS|refine zbx hS ?_;clear hS;intro b w hS|refine zal hS ?_;clear hS;intro b w hS);apply Ac7;rfl;rfl;rfl;rfl;exact hS;decide +kernel;(exact x9);kernel_rfl;rw[E.out];exact⟨rfl,v',(((hS.take .t2).drop).take .t2).drop⟩
   ·have hno':∀j,j<k+1->(at' L j).id≠id:=fun j hj=>by
     by_cases hjk:j=k
     ·rw[hjk,w5 hkl];exact hid
     ·exact hno j (by omega)
    have Hno:=jH hno';have hbf:(L[k].id==id)=false:=by simpa using hid
    clear hno hno' hid;generalize L[k].id=qi at q0 hbf;go_wp2_with(first|refine zl1 hS ?_ (hc:=by exact i9.there (i9.there (i9.rowE Ord.len hkl q0)))|refine zl1 hS ?_|refine zlN hS ?_|refine zs1 hS ?_;clear hS;intro w hS|refine zsN hS ?_;clear hS;intro w hS|refine zbx hS ?_;clear hS;intro b w hS|refine zal hS ?_;clear hS;intro b w hS);go_roundw
    case rel=>exact⟨k+1,rfl,hkl,Hno.out,hS⟩
    case measure=>simp[intOf];omega
theorem Ej7{α:Type}{l:List α}{i:Nat}{a:α}(h:l[i]? = some a):l.set i a=l:=by
 apply List.ext_getElem?;intro j;rw[List.getElem?_set];split
 ·rename_i hj
  subst hj;split
  ·exact h.symm
  ·rename_i hlt
   rw[List.getElem?_eq_none (by omega)]at h
   cases h
 ·rfl
theorem LH7(L:List Ord)(junk:List Value)(k:Nat)(hk:k<L.length)(i:Int)(u:ByteArray)(y:Bool)(t c p c':Int)(hx:L[k]=⟨i,u,y,t,c,p⟩):E8 (L.flatMap Ord.cells++junk) (k*6+4) [.I c']=(L.set k ⟨i,u,y,t,c',p⟩).flatMap Ord.cells++junk:=by
 rw[<-HM7 Ord.len L junk k hk ⟨i,u,y,t,c',p⟩];have h:∀j,j<6->(L.flatMap Ord.cells++junk)[k*6+j]? = (Ord.cells ⟨i,u,y,t,c,p⟩)[j]? := fun j hj=>by rw[<-hx];exact CP7 Ord.len L junk k hk j hj
 generalize L.flatMap Ord.cells++junk=l at h;simp only[E8,Ord.cells];have h0:l.set (k*6) (.I i)=l:=Ej7 (h 0 (by omega));have h1:l.set (k*6+1) (.string u)=l:=Ej7 (h 1 (by omega));have h2:l.set (k*6+1+1) (.bool y)=l:=Ej7 (h 2 (by omega));have h3:l.set (k*6+1+1+1) (.I t)=l:=Ej7 (h 3 (by omega));rw[h0,h1,h2,h3];refine(Ej7 (i:=k*6+1+1+1+1+1) ?_).symm;rw[List.getElem?_set_ne (by omega)];exact h 5 (by omega)
theorem Fd7(a b:Int):O9 a b=min a b:=by unfold O9;split <;> omega
theorem Ib7{W w:World}{L R:List HP}{v:Value}{k n:Nat}{T:TypeId}{cs:List Value}(hk:0<k)(hS:St W L w)(hu:Take L (row v k T n cs) R):ds4 w v n cs:=(St.src hk (hS.take hu)).at (hS.take hu)
def fI4(W:World)(Lr:List HP)(ob xb:Nat)(i:Int)(u:ByteArray)(y:Bool)(t p:Int)(r:Ord×List Ord×List Trd)(f:Nat)(v7:Value)(w:World):Prop:=
 ∃(c:Int) (L:List Ord) (ts:List Trd) (v:Value),w6 f ⟨i,u,y,t,c,p⟩ L ts=r/\(L.length<f\/(c=0/\0<f))/\L.length<=32/\ts.length+f<=80/\(∀x∈L,1<=x.cnt/\x.cnt<=1048576)/\0<=c/\c<=1048576 /\
  St W (blk xb [v,.I i] 244::j8 v L::blk ob [.I i,.string u,.bool y,.I t,.I c,.I p] 166::row v7 8 251 ts.length (ts.flatMap Trd.cells)::Lr) w
abbrev tB7a:List Nat:=[0,1,3,7,15,31,15,79,207,463,1023,2047]
abbrev tB7c:List Nat:=[0,1,3,7,0,0,32,0,224,511,1023,2047]
theorem Kr7(L:List Ord)(last:Int)(o:Ord)(xb:Nat)(v:Value)(hb:P9 o=true)(hgt:last<o.id)(hfew:¬32<=L.length)(hcnt:∀x∈L,1<=x.cnt/\x.cnt<=1048576)(W w:World)(Lr:List HP)(hS:St W (blk xb [v,.I last] 244::j8 v L::Lr) w):
  Calls Tryz.prog 184 #[.P xb,.agg o.cells.toArray] w fun e w'=>∃v7 v',e=.returned (.tuple #[v7,.I (L7 L last o).left,.I 0]) /\
   St W (blk xb [v',.I o.id] 244::j8 v' (L7 L last o).L::row v7 8 251 (L7 L last o).trades.length ((L7 L last o).trades.flatMap Trd.cells)::Lr) w':=by
 obtain⟨a,cap,rfl⟩:=hS.drop.rowVal;obtain⟨i,u,y,t,c,p⟩:=o;have hmay:=Ao7.1 hb;have hc0:1<=c:=hmay.cnt0;have hc1:c<=1048576:=hmay.cnt1;unfold L7;rw[if_neg (by rintro(h|h);(rw[hb]at h;cases h);exact absurd hgt (by simpa using h)),if_neg hfew];dsimp only;generalize hr:w6 (L.length+1) ⟨i,u,y,t,c,p⟩ L []=r;have Hr:=jH hr;clear hr hmay;simp only[Ord.cells];have hgt':¬i<=last:=Int.not_le.2 hgt;have hgd:decide (i<=last)=false:=by simpa using hgt
 have hfd:decide ((32:Int)<=(L.length:Int))=false:=by simp;omega
 have hf32:¬(32:Int)<=(L.length:Int):=by omega
 clear hgt;have Hcnt:=jH hcnt;clear hcnt;generalize hPL:(if 0<r.1.cnt then r.2.1++[r.1]else r.2.1)=PL;have HPL:=jH hPL;clear hPL;go_enter Tryz.func184,Tryz.ntmps184;go_wp2_with(first|refine zbx hS ?_;clear hS;intro b w hS);refine rf3 tB7a (fun _=>false) (fun i=>if i==1 then some (.bool true)else none) [] [none,none] hS ?_;intro nd;refine zcN ?_;refine zcv ?_ (hs:=by(intro F w hS;(try clear hS0);exact hb▸By7 ⟨i,u,y,t,c,p⟩ W w _ hS))
 iterate 3 (refine cR ?_)
 (refine zc1 ?_);refine cR ?_;refine zcn ?_;refine cR ?_;refine zc1 ?_
 iterate 2 (refine cR ?_)
 refine Ad7 ?_;clear hS;intro w hS;have hS2:St W [blk b _ _,blk xb _ _,sats (_::Lr)] w:=hS;clear hS;have hS:=hS2.unpack [_,_];clear hS2;simp only[jK,jN]at hS;go_wp2_with(first|refine zl1 hS ?_|refine zs1 hS ?_;clear hS;intro w hS);replace hS:=(((hS.take .t2).take .t2).rowNil (k:=8) (T:=251))
 replace hS:=hS.perm (List.perm_middle (l₁:=[_,_,_])).symm
 go_loopg [7] (L.length+1) (fun f v7 wr=>fI4 W Lr b xb i u y t p r f v7 wr)
 case atStart=>exact⟨c,L,[],_,Hr.out,.inl (Nat.lt_succ_self _),by omega,by simp;omega,Hcnt.out,by omega,hc1,hS⟩
 case round=>
  clear hS Hr Hcnt hc0 hc1 hb hgd hfd hf32 hgt' hfew;obtain⟨c,L,ts,v,hl,hqf,hL32,htf,hcnt,hc0,hc1,hS⟩:=hrel;have Hcnt:=jH hcnt;clear hcnt;obtain⟨f,rfl⟩:∃f,gk=f+1:=⟨gk-1,by omega⟩
  by_cases hcz:0<c
  ·cases hbt:B8 ⟨i,u,y,t,c,p⟩ L L.length with
   | none=>
    have Hr:=jH (show r=(⟨i,u,y,t,c,p⟩,L,ts)by rw[<-hl,w6,if_pos hcz,hbt]);clear hl;have Hbt:=jH hbt;clear hbt;have hk1:kI (none:Option Nat) = -1:=rfl;go_wp2_with(first|go_at_call 227;refine(HZ7 ⟨i,u,y,t,c,p⟩ L xb i _ hL32 W _ _ hS).mono ?_;clear hS;rw[Hbt.out,hk1];rintro e w ⟨rfl,hS⟩|refine zl1 hS ?_|refine zlN hS ?_);refine rf2 [0,0,0,4,12,28,62,0,128,510,1023,2047,4095] (fun i=>i==1||i==6||i==8||i==9) [⟨some 1,some 6,fun nd=>row (nd 1) 6 166 0 []⟩,⟨some 6,some 9,fun nd=>row (nd 6) 6 166 (0+L.length) ([]++L.flatMap Ord.cells)⟩,⟨some 8,none,fun nd=>R5 (nd 8) 1 1 [.I i,.string u,.bool y,.I t,.I c,.I p] 166⟩,⟨some 9,none,fun nd=>row (nd 9) 6 166 (0+L.length+1) ([]++L.flatMap Ord.cells++[.I i,.string u,.bool y,.I t,.I c,.I p])⟩,⟨some 12,none,fun nd=>blk xb [nd 9,.I i] 244⟩] [some 12,none,none] hS ?_;intro nd;refine cR ?_;apply BO7;rfl;rfl;rfl;(focus(simp only[fD,fI,fJ,Act.eval,fE,fF,fG,fH,fK];try rfl));(exact esS);(exact rsS);rfl;rfl;rfl;rfl;rfl;decide;(intro _;rfl);rfl;(intro _;rfl);(refine frS ?_);refine cR ?_;refine zcn ?_;refine cR ?_;refine zc1 ?_;apply Ai7;rfl;rfl;rfl;(focus((conv=>lhs;whnf);try rfl));(focus((conv=>lhs;whnf);try rfl));(exact esS);(exact rsS);rfl;decide;rfl;(intro F w hS;exact Ib7 (k:=6) (by decide) hS (by exact j5));(focus(rw[Ab7 Ord.len]));(focus(exact FK7 _));(focus(unfold maxLen;omega));(focus(omega));(intro _;rfl);(intro _;rfl);(refine frS ?_);refine zcN ?_;apply an4;rfl;rfl;rfl;(focus(simp only[fD,fI,fJ,Act.eval,fE,fF,fG,fH,fK];try rfl));(exact esS);(exact rsS);rfl;rfl;rfl;rfl;(intro _;rfl);rfl;(intro _;rfl);(refine frS ?_)
    (apply Ai7;rfl;rfl;rfl;(focus((conv=>lhs;whnf);try rfl));(focus((conv=>lhs;whnf);try rfl));exact esS;exact rsS;rfl;decide;rfl;intro F w hS;exact AT7 hS (by exact D5);(focus(try rfl));rfl;(focus(unfold maxLen;omega));(focus(omega));intro _;rfl;intro _;rfl;refine frS ?_);refine zcn ?_;refine cR ?_;(apply Lr7;rfl;rfl;rfl;rfl;(focus((conv=>lhs;whnf);try rfl));kernel_rfl;rfl;intro F w hS;exact hS.rowOne (by exact D5);(focus(simp));rfl;rfl;try(refine frS ?_));refine Ad7 ?_;clear hS;intro w hS;have hS2:St W [R5 (nd 8) _ _ _ _,row (nd 9) 6 _ _ _,blk xb _ _,j8 _ _,blk _ _ _,sats _] w:=hS;clear hS;have hS:=hS2.unpack [_,_,_,_,_];clear hS2;simp only[jK,jN]at hS;generalize nd 9=v9 at *;replace hS:=((hS.drop.take .t2).drop).take .t2;go_wp2_with(fail);refine rf2 [0,0,2,1,15,31] (fun _=>false) [] [none,none,none] hS ?_;intro nd
    iterate 2 (refine cR ?_)
    (refine zc1 ?_)
    iterate 3 (refine cR ?_)
    refine Ad7 ?_;clear hS;intro w hS;have hS2:St W [_,_,_,sats _] w:=hS;clear hS;have hS:=hS2.unpack [_,_,_];clear hS2;simp only[jK,jN]at hS;go_wp2_with fail;go_ret3;refine⟨u7,v9,by rw[Hr.out];rfl,?_⟩;have hB:=HPL.out;rw[Hr.out,if_pos hcz]at hB;rw[Hr.out,<-hB];unfold j8;have e2:(L++[Ord.mk i u y t c p]).length=0+L.length+1:=by rw[jA];simp
    have e3:(L++[Ord.mk i u y t c p]).flatMap Ord.cells=L.flatMap Ord.cells++[.I i,.string u,.bool y,.I t,.I c,.I p]:=by rw[List.flatMap_append];rfl
    rw[e2,e3];exact hS.drop.swap
   | some k=>
    obtain⟨hk,_,_⟩:=AK7 hbt;have hxm:=Hcnt.out _ (L8 hk);have hl2:=hl;rw[w6,if_pos (show 0<(Ord.mk i u y t c p).cnt from hcz),hbt]at hl2;simp only at hl2;have hxe:L[k]=at' L k:=(w5 hk).symm;have hbyid:=L8 hk;generalize hx:at' L k=x at hxm hl2 hxe;obtain⟨xi,xu,xy,xt,xc,xp⟩:=x;have Hl:=jH hl2;have Hx:=jH hx;have Hxe:=jH hxe;have Hbt:=jH hbt;clear hl hl2 hx hbt hbyid;simp only at hxm;obtain⟨sa,sc,rfl⟩:=hS.drop.rowVal;obtain⟨⟨g,rfl⟩,hcap,hcn⟩:=St.rowAddr hS.drop (by omega);have hcells:i8 (j8 (.S g L.length sc) L::blk b [.I i,.string u,.bool y,.I t,.I c,.I p] 166::row u7 8 251 ts.length (ts.flatMap Trd.cells)::Lr) g (k*6) [.I xi,.string xu,.bool xy,.I xt,.I xc,.I xp]:=by have:=i8.rowE (g:=g) (c:=sc) (T:=166) (L:=blk b [.I i,.string u,.bool y,.I t,.I c,.I p] 166::row u7 8 251 ts.length (ts.flatMap Trd.cells)::Lr) Ord.len hk;rw[hxe]at this;exact this
    clear hxe;have hk1:kI (some k)=(k:Int):=rfl
    cases y
    ·skip
     go_wp2_with(first|go_at_call 227;refine(HZ7 ⟨i,u,false,t,c,p⟩ L xb i _ hL32 W _ _ hS).mono ?_;clear hS;rw[Hbt.out,hk1];rintro e w ⟨rfl,hS⟩|refine zlN hS ?_ (hc:=by exact i8.there hcells)|refine zbs hS ?_;clear hS;intro bS w hS|refine zap hS ?_ (h63:=by unfold maxLen;omega) (hb:=by omega);clear hS;intro v w hS|refine zl1 hS ?_|refine zlN hS ?_|refine zs1 hS ?_;clear hS;intro w hS|refine zsN hS ?_;clear hS;intro w hS|refine zal hS ?_;clear hS;intro b w hS);rcases(hS.take .t5).rowOpen with ⟨hv0,_⟩|⟨g',cap',junk,hv',hn1,hm1,hj1,hl1,hS0⟩
     ·cases hv0
     injection hv' with e1 e2 e3
     injection e1 with e1
     injection e1 with e1
     subst e1;subst e3;clear hS hcells;have hS:=(((hS0.take .t2).drop).take .t2).drop;clear hS0;refine rf2 tB7c (fun _=>false) [⟨some 11,none,fun _=>blk g ((L.set k ⟨xi,xu,xy,xt,xc-min c xc,xp⟩).flatMap Ord.cells++junk) 166⟩] [some 11,none,none,none,none] hS ?_;intro nd;refine cR ?_;refine zcn ?_;refine cR ?_;refine zc1 ?_
     iterate 2 (refine cR ?_)
     (refine zc1 ?_)
     iterate 4 (refine cR ?_)
     (apply dF4 (vs:=[Value.int .i64 (xc-min c xc)]);rfl;rfl;rfl;rfl;(focus((conv=>lhs;whnf);try rfl));rfl;kernel_rfl;rfl;rfl;simp only[jC,List.length_nil];rw[jA,Ab7 Ord.len];omega;exact LH7 L junk k hk xi xu xy xt xc xp _ Hxe.out;rfl;try(refine frS ?_));refine Ad7 ?_;clear hS;intro w hS;have hS2:St W [blk g _ _,row _ _ _ _ _,blk _ _ _,blk xb _ _,blk _ _ _,sats Lr] w:=hS;clear hS;have hS:=hS2.unpack [_,_,_,_,_];clear hS2;simp only[jK,jN]at hS;have hx1:at' (L.set k ⟨xi,xu,xy,xt,xc-min c xc,xp⟩) k=⟨xi,xu,xy,xt,xc-min c xc,xp⟩:=by rw[w5 (by simpa using hk),List.getElem_set_self]
     have hset:(L.set k ⟨xi,xu,xy,xt,xc-min c xc,xp⟩).eraseIdx k=L.eraseIdx k:=List.eraseIdx_set_eq;have hl3:=Hl.out;rw[Fd7]at hl3;unfold bf4 at hl3;rw[Hx.out]at hl3
     have hcn2:∀z∈L.set k ⟨xi,xu,xy,xt,xc-min c xc,xp⟩,xc-min c xc≠0->1<=z.cnt/\z.cnt<=1048576:=fun z hz hne=>by
      rcases List.mem_or_eq_of_mem_set hz with hz|rfl
      ·exact Hcnt.out z hz
      ·simp only;omega
     generalize hL1:L.set k ⟨xi,xu,xy,xt,xc-min c xc,xp⟩=L1 at *;have hlen1:L.length=L1.length:=by rw[<-hL1,List.length_set]
     have hk2:k<L1.length:=by omega
     have q4:(Ord.cells L1[k])[4]? = some (.I (xc-min c xc)):=by rw[<-w5 hk2,hx1];rfl
     clear hx1;have hfl1:=Ab7 Ord.len L1;have hS3:St W (j8 (.S g L1.length sc) L1::_) w:=St.rowShut hS (by omega) hm1 (by rw[jA,hl1]at hj1;rw[jA,hfl1,<-hlen1];exact hj1) (by rw[hfl1]);clear hS;have hS:=hS3.take .t3;clear hS3;rw[hlen1]at hS;by_cases hz:xc-min c xc=0
     ·rw[if_pos hz]at hl3;have Hl3:=jH hl3;have Hset:=jH hset;have hz2:((xc-min c xc:Int)==0)=true:=by simpa using hz
      clear hl3 hset hL1;go_wp2_with(first|refine zl1 hS ?_ (hc:=by exact i9.there (i9.rowE Ord.len hk2 q4))|go_at_call 228;refine(Ia7 L1 k xb i _ (by omega) hk2 W _ _ hS).mono ?_;clear hS;rintro e w ⟨rfl,v3,hS⟩;rw[Hset.out]at hS|refine zl1 hS ?_)
      go_roundg f
      case measure=>omega
      case rel=>exact⟨c-min c xc,L.eraseIdx k,ts++[L6 ⟨i,u,false,t,c,p⟩ ⟨xi,xu,xy,xt,xc,xp⟩],v3,Hl3.out,.inl (by rw[List.length_eraseIdx];split <;> omega),by rw[List.length_eraseIdx];split <;> omega,by simp only[jA,jC,List.length_nil];omega,fun z hz=>Hcnt.out z (List.mem_of_mem_eraseIdx hz),by omega,by omega,by
       rw[jA,List.flatMap_append];have e:[L6 ⟨i,u,false,t,c,p⟩ ⟨xi,xu,xy,xt,xc,xp⟩].flatMap Trd.cells=[.string xu,.string u,.I xi,.I i,.I t,.I (min c xc),.I xp,.I xp]:=by simp[L6,Trd.cells,Fd7]
       rw[e];exact((hS.take .t3).drop).perm (((List.Perm.swap _ _ _).cons _).cons _)⟩
     ·rw[if_neg hz]at hl3;have Hl3:=jH hl3;have hz2:((xc-min c xc:Int)==0)=false:=by simpa using hz
      have hcn3:=jH fun z hz'=>hcn2 z hz' hz
      clear hl3 hset hL1 hcn2;go_wp2_with(first|refine zl1 hS ?_ (hc:=by exact i9.there (i9.rowE Ord.len hk2 q4))|refine zl1 hS ?_)
      go_roundg f
      case measure=>omega
      case rel=>exact⟨c-min c xc,L1,ts++[L6 ⟨i,u,false,t,c,p⟩ ⟨xi,xu,xy,xt,xc,xp⟩],_,Hl3.out,.inr ⟨by omega,by omega⟩,by omega,by simp only[jA,jC,List.length_nil];omega,hcn3.out,by omega,by omega,by
       rw[jA,List.flatMap_append];have e:[L6 ⟨i,u,false,t,c,p⟩ ⟨xi,xu,xy,xt,xc,xp⟩].flatMap Trd.cells=[.string xu,.string u,.I xi,.I i,.I t,.I (min c xc),.I xp,.I xp]:=by simp[L6,Trd.cells,Fd7]
       rw[e];exact((hS.take .t3).drop).perm (((List.Perm.swap _ _ _).cons _).cons _)⟩
    ·skip
     go_wp2_with(first|go_at_call 227;refine(HZ7 ⟨i,u,true,t,c,p⟩ L xb i _ hL32 W _ _ hS).mono ?_;clear hS;rw[Hbt.out,hk1];rintro e w ⟨rfl,hS⟩|refine zlN hS ?_ (hc:=by exact i8.there hcells)|refine zbs hS ?_;clear hS;intro bS w hS|refine zap hS ?_ (h63:=by unfold maxLen;omega) (hb:=by omega);clear hS;intro v w hS|refine zl1 hS ?_|refine zlN hS ?_|refine zs1 hS ?_;clear hS;intro w hS|refine zsN hS ?_;clear hS;intro w hS|refine zal hS ?_;clear hS;intro b w hS);rcases(hS.take .t5).rowOpen with ⟨hv0,_⟩|⟨g',cap',junk,hv',hn1,hm1,hj1,hl1,hS0⟩
     ·cases hv0
     injection hv' with e1 e2 e3
     injection e1 with e1
     injection e1 with e1
     subst e1;subst e3;clear hS hcells;have hS:=(((hS0.take .t2).drop).take .t2).drop;clear hS0;refine rf2 tB7c (fun _=>false) [⟨some 11,none,fun _=>blk g ((L.set k ⟨xi,xu,xy,xt,xc-min c xc,xp⟩).flatMap Ord.cells++junk) 166⟩] [some 11,none,none,none,none] hS ?_;intro nd;refine cR ?_;refine zcn ?_;refine cR ?_;refine zc1 ?_
     iterate 2 (refine cR ?_)
     (refine zc1 ?_)
     iterate 4 (refine cR ?_)
     (apply dF4 (vs:=[Value.int .i64 (xc-min c xc)]);rfl;rfl;rfl;rfl;(focus((conv=>lhs;whnf);try rfl));rfl;kernel_rfl;rfl;rfl;simp only[jC,List.length_nil];rw[jA,Ab7 Ord.len];omega;exact LH7 L junk k hk xi xu xy xt xc xp _ Hxe.out;rfl;try(refine frS ?_));refine Ad7 ?_;clear hS;intro w hS;have hS2:St W [blk g _ _,row _ _ _ _ _,blk _ _ _,blk xb _ _,blk _ _ _,sats Lr] w:=hS;clear hS;have hS:=hS2.unpack [_,_,_,_,_];clear hS2;simp only[jK,jN]at hS;have hx1:at' (L.set k ⟨xi,xu,xy,xt,xc-min c xc,xp⟩) k=⟨xi,xu,xy,xt,xc-min c xc,xp⟩:=by rw[w5 (by simpa using hk),List.getElem_set_self]
     have hset:(L.set k ⟨xi,xu,xy,xt,xc-min c xc,xp⟩).eraseIdx k=L.eraseIdx k:=List.eraseIdx_set_eq;have hl3:=Hl.out;rw[Fd7]at hl3;unfold bf4 at hl3;rw[Hx.out]at hl3
     have hcn2:∀z∈L.set k ⟨xi,xu,xy,xt,xc-min c xc,xp⟩,xc-min c xc≠0->1<=z.cnt/\z.cnt<=1048576:=fun z hz hne=>by
      rcases List.mem_or_eq_of_mem_set hz with hz|rfl
      ·exact Hcnt.out z hz
      ·simp only;omega
     generalize hL1:L.set k ⟨xi,xu,xy,xt,xc-min c xc,xp⟩=L1 at *;have hlen1:L.length=L1.length:=by rw[<-hL1,List.length_set]
     have hk2:k<L1.length:=by omega
     have q4:(Ord.cells L1[k])[4]? = some (.I (xc-min c xc)):=by rw[<-w5 hk2,hx1];rfl
     clear hx1;have hfl1:=Ab7 Ord.len L1;have hS3:St W (j8 (.S g L1.length sc) L1::_) w:=St.rowShut hS (by omega) hm1 (by rw[jA,hl1]at hj1;rw[jA,hfl1,<-hlen1];exact hj1) (by rw[hfl1]);clear hS;have hS:=hS3.take .t3;clear hS3;rw[hlen1]at hS;by_cases hz:xc-min c xc=0
     ·rw[if_pos hz]at hl3;have Hl3:=jH hl3;have Hset:=jH hset;have hz2:((xc-min c xc:Int)==0)=true:=by simpa using hz
      clear hl3 hset hL1;go_wp2_with(first|refine zl1 hS ?_ (hc:=by exact i9.there (i9.rowE Ord.len hk2 q4))|go_at_call 228;refine(Ia7 L1 k xb i _ (by omega) hk2 W _ _ hS).mono ?_;clear hS;rintro e w ⟨rfl,v3,hS⟩;rw[Hset.out]at hS|refine zl1 hS ?_)
      go_roundg f
      case measure=>omega
      case rel=>exact⟨c-min c xc,L.eraseIdx k,ts++[L6 ⟨i,u,true,t,c,p⟩ ⟨xi,xu,xy,xt,xc,xp⟩],v3,Hl3.out,.inl (by rw[List.length_eraseIdx];split <;> omega),by rw[List.length_eraseIdx];split <;> omega,by simp only[jA,jC,List.length_nil];omega,fun z hz=>Hcnt.out z (List.mem_of_mem_eraseIdx hz),by omega,by omega,by
       rw[jA,List.flatMap_append];have e:[L6 ⟨i,u,true,t,c,p⟩ ⟨xi,xu,xy,xt,xc,xp⟩].flatMap Trd.cells=[.string u,.string xu,.I i,.I xi,.I t,.I (min c xc),.I xp,.I p]:=by simp[L6,Trd.cells,Fd7]
       rw[e];exact((hS.take .t3).drop).perm (((List.Perm.swap _ _ _).cons _).cons _)⟩
     ·rw[if_neg hz]at hl3;have Hl3:=jH hl3;have hz2:((xc-min c xc:Int)==0)=false:=by simpa using hz
      have hcn3:=jH fun z hz'=>hcn2 z hz' hz
      clear hl3 hset hL1 hcn2;go_wp2_with(first|refine zl1 hS ?_ (hc:=by exact i9.there (i9.rowE Ord.len hk2 q4))|refine zl1 hS ?_)
      go_roundg f
      case measure=>omega
      case rel=>exact⟨c-min c xc,L1,ts++[L6 ⟨i,u,true,t,c,p⟩ ⟨xi,xu,xy,xt,xc,xp⟩],_,Hl3.out,.inr ⟨by omega,by omega⟩,by omega,by simp only[jA,jC,List.length_nil];omega,hcn3.out,by omega,by omega,by
       rw[jA,List.flatMap_append];have e:[L6 ⟨i,u,true,t,c,p⟩ ⟨xi,xu,xy,xt,xc,xp⟩].flatMap Trd.cells=[.string u,.string xu,.I i,.I xi,.I t,.I (min c xc),.I xp,.I p]:=by simp[L6,Trd.cells,Fd7]
       rw[e];exact((hS.take .t3).drop).perm (((List.Perm.swap _ _ _).cons _).cons _)⟩
  ·have Hr:=jH (show r=(⟨i,u,y,t,c,p⟩,L,ts)by rw[<-hl,w6,if_neg hcz]);clear hl;obtain rfl:c=0:=by omega
   go_wp2_with(first|refine zl1 hS ?_);refine rf2 [0,0,2,1,15,31] (fun _=>false) [] [none,none,none] hS ?_;intro nd
   iterate 2 (refine cR ?_)
   (refine zc1 ?_)
   iterate 3 (refine cR ?_)
   refine Ad7 ?_;clear hS;intro w hS;have hS2:St W [_,_,_,sats _] w:=hS;clear hS;have hS:=hS2.unpack [_,_,_];clear hS2;simp only[jK,jN]at hS;go_wp2_with fail;go_ret3;refine⟨u7,v,by rw[Hr.out];rfl,?_⟩;have hB:=HPL.out;rw[Hr.out,if_neg (show ¬(0:Int)<0 by omega)]at hB;rw[Hr.out,<-hB];exact(hS.take .t2).drop
end Go.Proofs.YtlmhakmoioogaaaGreat
end
section
namespace Go.Proofs.YtlmhakmoioogaaaGreat
open Go.Joins Go.ChangeShapes Go.WideShapes Go.RowKit Go.Deep Go.Sl
def bU4{α:Type}(enc:α->List Value)(k:Nat)(w:World)(v:Value)(xs:List α):Prop:=
 ∃a cap,v=.slice a xs.length cap/\xs.length<=9223372036854775807/\∀i (h:i<xs.length), ∃b off,a=some ⟨b,off,none⟩/\∀j u,(enc xs[i])[j]? = some u->w.cell? ⟨b,off+i*k+j,none⟩=some u
section
variable{H:Type}{enc:TypeId×Value->H}{P:Program}{w:World}{base:Nat}{spare:Nat->Bool}{held:Bool}
theorem Ks7{α:Type}{r:Reach}{b0:Nat}{t e:TypeId}{k:Nat}{v:Value}{d:DataW H}{p:List MemPlace}(en:α->List Value)(x0:α)(hk:∀x,(en x).length=k)(h0:0<k)(ht:P.underlying t=some (.slice e))(hC:P.cellsOf e=k)
  (hE:∀(n:Nat) (cs:List Value) (y:DataW H×List MemPlace),cs.length=k->DataW.trod enc P w base spare held n e cs=some y->∃x,cs=en x)
  (hv:Value.okWide P w r b0 t v) (h:DataW.Trod enc P w base spare held t v d p):∃xs,bU4 en k w v xs:=by
 obtain⟨a0,len,cap,rfl⟩:=okWide_slice ht hv;obtain⟨fuel,hf⟩:=h
 rcases open_slice ht hf with ⟨hcs,hx⟩|⟨a,len',cap',m,n,D,Pl,hcs,hb,hl,hm,hmm,hx,hi⟩
 ·simp[Value.cells]at hcs;obtain⟨rfl,rfl,rfl⟩:=hcs;exact⟨[],none,0,rfl,by simp,fun i hi=>absurd hi (Nat.not_lt_zero _)⟩
 ·simp[Value.cells]at hcs;obtain⟨rfl,rfl,rfl⟩:=hcs;have hlm:len<=m:=by rw[hmm];split <;> omega
  have hex:∀i, ∃x:α,i<len->∀j u,(en x)[j]? = some u->w.cell? ((a.add (i*k)).add j)=some u:=fun i=>by
   by_cases hil:i<len
   ·obtain⟨cs',hc,ht'⟩:=hi i (by omega);rw[hC]at hc;obtain⟨_,hcl,hat⟩:=World.cells?_some hc;obtain⟨x,rfl⟩:=hE n cs' _ hcl ht';refine⟨x,fun _ j u hj=>?_⟩;have hjk:j<k:=by have:=(List.getElem?_eq_some_iff.1 hj).1;rwa [hk]at this
    rw[hat j hjk];exact hj
   ·exact⟨x0,fun h=>absurd h hil⟩
  obtain⟨f,hf'⟩:=Classical.axiomOfChoice hex;have hll:((List.range len).map f).length=len:=by simp
  refine⟨(List.range len).map f,some a,cap,by rw[hll],by rw[hll];unfold maxLen at hm;omega,fun i hi2=>?_⟩;rw[hll]at hi2;have hspot:a.spot=none:=by have hc:=hf' 0 (by omega);have h1:(en (f 0))[0]? = some ((en (f 0))[0]'(by rw[hk];exact h0)):=jG _;have:=World.cell?_spot (hc 0 _ h1);simpa[Addr.add]using this
  obtain⟨b,off,spot⟩:=a;simp only at hspot;subst hspot;refine⟨b,off,rfl,fun j u hj=>?_⟩;have e1:((List.range len).map f)[i]=f i:=by simp
  rw[e1]at hj;have:=hf' i hi2 j u hj;rwa [Addr.add_lit,Addr.add_lit]at this
end
end Go.Proofs.YtlmhakmoioogaaaGreat
end
section
namespace Go.Proofs.YtlmhakmoioogaaaGreat
open Go.RowKit Go.Sl
def aC4(l:List Ord):Nat->Int
 | 0=>0
 | j+1=>(at' l j).id
def bI4(l:List Ord)(i:Nat):Bool:=!(P9 (at' l i))||(decide ((at' l i).id<=aC4 l i)||(B8 (at' l i) (l.take i) (l.take i).length).isSome)
def dj4(l:List Ord)(i:Nat):Prop:=∀j,j<i->bI4 l j=false
def cv4(l:List Ord):Prop:=32<l.length\/∃i,i<l.length/\bI4 l i=true
theorem dj4.step{l:List Ord}{i:Nat}(h:dj4 l i)(hb:bI4 l i=false):dj4 l (i+1):=fun j hj=>by
 by_cases hji:j=i
 ·rw[hji];exact hb
 ·exact h j (by omega)
theorem Gy7{l:List Ord}(h32:l.length<=32)(h:dj4 l l.length):¬cv4 l:=by
 rintro(h1|⟨i,hi,hb⟩)
 ·omega
 ·rw[h i hi]at hb;cases hb
theorem Os7{l:List Ord}{i:Nat}(hi:i<l.length):l.take (i+1)=l.take i++[at' l i]:=by rw[List.take_succ_eq_append_getElem hi,w5 hi]
def OfR(W:World)(Lr:List HP)(l:List Ord)(xb:Nat)(v:Value)(w:World):Prop:=
 ∃(i:Nat) (vx:Value),v=.I i/\i<=l.length/\dj4 l i/\St W (blk xb [vx,.I (aC4 l i)] 244::j8 vx (l.take i)::Lr) w
theorem MT7{f:Nat}{o:Ord}{q:List Ord}(h:∀y q',q=y::q'->aJ4 o y=false):Q8 f o q []=(o,q,[]):=by
 cases f with
 | zero=>rfl
 | succ f=>
  cases q with
  | nil=>rfl
  | cons y q'=>rw[Q8,if_neg (by rintro⟨_,hm⟩;rw[h y q' rfl]at hm;cases hm)]
theorem Ic7{f:Nat}{o:Ord}{L:List Ord}(h:B8 o L L.length=none):w6 f o L []=(o,L,[]):=by
 cases f with
 | zero=>rfl
 | succ f=>
  rw[w6,h];simp
theorem Tn7{b:Bk}{L:List Ord}(h:Rep b L){o:Ord}(hlen:L.length<32)(hm:P9 o=true)(hid:b.last<o.id)(hb:B8 o L L.length=none):
  Rep ⟨b.ps.set (w9 (bz4 o) o.buy) (ar4 (b.pile (w9 (bz4 o) o.buy)) o),o.id⟩ (L++[o]):=by
 have hp:=(Gw7 h o).2.2.2.2;have hmay:=Ao7.1 hm;have hno:¬(P9 o=false\/o.id<=b.last):=by rintro(h|h);(rw[hm]at h;cases h);omega
 have hbl:b.len=L.length:=by rw[Cr7 _ h.ok.n8,h.perm.length_eq]
 obtain⟨it,hit⟩:∃it:Nat,o.item=it:=⟨o.item.toNat,by have:=hmay.item0;omega⟩
 have h4:it<4:=by have:=hmay.item1;omega
 have hik:bz4 o=it:=by unfold bz4;rw[hit];rfl
 have hsim:=h.sim hit h4
 have hst:∀f,Q8 f o (b.pile (w9 it (!o.buy))) []=(o,b.pile (w9 it (!o.buy)),[]):=fun f=>MT7 fun y q' hq=>by
  cases hmy:aJ4 o y with
  | false=>rfl
  | true=>
   rw[hq]at hsim;obtain⟨k,hk,_⟩:=hsim.best_yes hmy;rw[hb]at hk;cases hk
 have e1:(L7 L b.last o).L=L++[o]:=by unfold L7;rw[if_neg hno,if_neg (by omega),Ic7 hb];exact if_pos (by have:=hmay.cnt0;show(0:Int)<o.cnt;omega)
 have hk8:=Bt7 it (!o.buy) h4
 have e2:(J5 b o).book=⟨b.ps.set (w9 (bz4 o) o.buy) (ar4 (b.pile (w9 (bz4 o) o.buy)) o),o.id⟩:=by
  unfold J5;rw[if_neg hno,if_neg (by omega)];dsimp only;rw[hik,hst];dsimp only;rw[if_pos (by have:=hmay.cnt0;show(0:Int)<o.cnt;omega)];have hset:b.ps.set (w9 it (!o.buy)) (b.pile (w9 it (!o.buy)))=b.ps:=by rw[<-FL7 b h.ok.n8 _ hk8];exact List.set_getElem_self _
  rw[hset];rfl
 rw[e1,e2]at hp;exact hp
def OfB(W:World)(Lr:List HP)(l:List Ord)(bb:Nat)(v:Value)(w:World):Prop:=
 ∃(i:Nat) (b:Bk),v=.I i/\i<=l.length/\dj4 l i/\Rep b (l.take i)/\b.last=aC4 l i/\St W (D9 bb b::Lr) w
theorem Kt7{o:Ord}{r:Bool}(h:P9 o=r)(W w:World)(L:List HP)(hS:St W L w):
  Calls Tryz.prog 203 #[.agg o.cells.toArray] w fun e w'=>e=.returned (.bool r)/\St W L w':=h▸Ef7 o W w L hS
theorem LI7{o s:Ord}{r:Bool}(h:aJ4 o s=r)(W w:World)(L:List HP)(hS:St W L w):
  Calls Tryz.prog 205 #[.agg o.cells.toArray,.agg s.cells.toArray] w fun e w'=>e=.returned (.bool r)/\St W L w':=h▸Gj7 o s W w L hS
abbrev tB7b:List Nat:=[0,1,3,7,15,31,63,63,191,447,959,1983,4095,8191]
abbrev tB7d:List Nat:=[0,0,2,0,8,31,63,0,128,511]
theorem Ot7(l:List Ord)(v:Value)(W w:World)(Lr:List HP)(hl60:l.length<=10000000)(hS:St W (j8 v l::Lr) w):
  Calls Tryz.prog 167 #[v] w fun e w'=>(cv4 l/\e=.returned (.tuple #[.pointer none,.I 1])/\St W Lr w') \/
   (l.length<=32/\dj4 l l.length/\∃bb b,e=.returned (.tuple #[.P bb,.I 0])/\Rep b l/\b.last=aC4 l l.length/\St W (D9 bb b::Lr) w'):=by
 obtain⟨a,cap,rfl⟩:=hS.rowVal;by_cases h32:l.length<=32
 ·have hd32:decide ((32:Int)<(l.length:Int))=false:=by simp;omega
  go_enter Tryz.func167,Tryz.ntmps167;go_wp2_with(first|go_at_call 201;refine(LB7 W _ _ hS).mono ?_;clear hS;rintro e w ⟨bb,rfl,hS⟩)
  go_loopw [14] (fun v wr=>OfB W (j8 (.slice a l.length cap) l::Lr) l bb v wr) (fun v _=>l.length-(intOf v).toNat)
  case atStart=>exact⟨0,bk0,rfl,by omega,fun j hj=>absurd hj (Nat.not_lt_zero _),ge4,rfl,hS⟩
  case round=>
   clear hS;obtain⟨i,b1,rfl,hi,hok,hrep,hlast,hS⟩:=hrel;have Hok:=jH hok;have Hlast:=jH hlast;clear hok hlast;by_cases hin:i=l.length
   ·subst hin;rw[List.take_length]at hrep;have Hr:=jH hrep;clear hrep;go_wp2_with fail;go_ret2;exact .inr ⟨h32,Hok.out,bb,b1,rfl,Hr.out,Hlast.out,hS.swap.drop⟩
   ·have hil:i<l.length:=by omega
    clear hin hi;obtain⟨⟨g,rfl⟩,hcap,hcn⟩:=St.rowAddr hS.drop (by omega);have hxe:l[i]=at' l i:=(w5 hil).symm;have hcells:∀{X:List HP},i8 (j8 (.S g l.length cap) l::X) g (i*6) (Ord.cells (at' l i)):=fun{X}=>by rw[<-hxe];exact i8.rowE Ord.len hil
    have hbad:bI4 l i=(!(P9 (at' l i))||(decide ((at' l i).id<=aC4 l i)||(B8 (at' l i) (l.take i) (l.take i).length).isSome)):=rfl;have hts:=Os7 hil;have hll:aC4 l (i+1)=(at' l i).id:=rfl;clear hxe;generalize at' l i=x at hcells hbad hts hll;obtain⟨xi,xu,xy,xt,xc,xp⟩:=x;simp only[Ord.cells]at hcells;have Hll:=jH hll;have Hts:=jH hts;clear hll hts;have hl32:(l.take i).length<32:=by rw[jT];omega
    obtain⟨vs,h1,h2,hS0⟩:=aq4 hS;clear hS;have hS:=hS0;clear hS0;have hla:(vs++[.I b1.last])[8]? = some (.I b1.last):=by rw[List.getElem?_append_right (by omega),h1];rfl
    have Hrep:=jH hrep;clear hrep;rw[<-Hlast.out]at hbad
    cases hm:P9 ⟨xi,xu,xy,xt,xc,xp⟩
    ·have Hbad:=jH (show bI4 l i=true by rw[hbad,hm];rfl);clear hbad;go_wp2_with(first|refine zlN hS ?_ (hc:=by exact i8.there (i8.there hcells))|refine zsN hS ?_;clear hS;intro w hS|refine zal hS ?_;clear hS;intro b w hS);refine rf3 tB7a (fun _=>false) (fun i=>if i==1 then some (.bool false)else none) [] [none,none] hS ?_;intro nd;refine zcN ?_;refine zcv ?_ (hs:=by(intro F w hS;(try clear hS0);exact Kt7 hm W w _ hS))
     iterate 2 (refine cR ?_)
     iterate 7 (refine BL7 (by kernel_rfl) rfl ?_;refine frS ?_)
     (refine cR ?_);refine Ad7 ?_;clear hS;intro w hS;have hS2:St W [blk b _ _,blk bb _ _,sats _] w:=hS;clear hS;have hS:=hS2.unpack [_,_];clear hS2;simp only[jK,jN]at hS;go_wp2_with(fail);go_ret2
     first|exact⟨.inr ⟨i,hil,Hbad.out⟩,rfl,hS.drop.drop.drop.drop⟩|exact .inl ⟨.inr ⟨i,hil,Hbad.out⟩,rfl,hS.drop.drop.drop.drop⟩
    ·by_cases hle:xi<=b1.last
     ·have Hbad:=jH (show bI4 l i=true by rw[hbad,hm];simp[hle]);have hd:decide (xi<=b1.last)=true:=by simpa using hle
      clear hbad;go_wp2_with(first|refine zlN hS ?_ (hc:=by exact i8.there (i8.there hcells))|refine zsN hS ?_;clear hS;intro w hS|refine zal hS ?_;clear hS;intro b w hS);refine rf3 tB7a (fun _=>false) (fun i=>if i==1 then some (.bool true)else none) [] [none,none] hS ?_;intro nd;refine zcN ?_;refine zcv ?_ (hs:=by(intro F w hS;(try clear hS0);exact Kt7 hm W w _ hS))
      iterate 2 (refine cR ?_)
      iterate 1 (refine cR ?_)
      (refine zc1 ?_);refine cR ?_;refine zcn ?_;refine cR ?_;refine zc1 ?_ (hc:=by(intro F;exact i9.there (i9.here hla)))
      iterate 2 (refine cR ?_)
      refine Ad7 ?_;clear hS;intro w hS;have hS2:St W [blk b _ _,blk bb _ _,sats _] w:=hS;clear hS;have hS:=hS2.unpack [_,_];clear hS2;simp only[jK,jN]at hS;go_wp2_with(fail);go_ret2
      first|exact⟨.inr ⟨i,hil,Hbad.out⟩,rfl,hS.drop.drop.drop.drop⟩|exact .inl ⟨.inr ⟨i,hil,Hbad.out⟩,rfl,hS.drop.drop.drop.drop⟩
     ·have hd:decide (xi<=b1.last)=false:=by simpa using hle
      have hmay:=Ao7.1 hm;obtain⟨it,rfl⟩:∃it:Nat,xt=it:=⟨xt.toNat,by have:=hmay.item0;simp only at this;omega⟩
      have hit4:it<4:=by have:=hmay.item1;simp only at this;omega
      have hik:bz4 ⟨xi,xu,xy,it,xc,xp⟩=it:=rfl;have hsim:=Hrep.out.sim (o:=⟨xi,xu,xy,it,xc,xp⟩) (it:=it) rfl hit4;have hk8:=Bt7 it (!xy) hit4;have hst:B8 ⟨xi,xu,xy,it,xc,xp⟩ (l.take i) (l.take i).length=none->bI4 l i=false/\Rep ⟨b1.ps.set (w9 it xy) (ar4 (b1.pile (w9 it xy)) ⟨xi,xu,xy,it,xc,xp⟩),xi⟩ (l.take (i+1)):=fun hbt=>by refine⟨by rw[hbad,hm,hbt,hd];rfl,?_⟩;rw[Hts.out];exact Tn7 Hrep.out hl32 hm (show b1.last<xi by omega) hbt
      have hbs:∀j,B8 ⟨xi,xu,xy,it,xc,xp⟩ (l.take i) (l.take i).length=some j->bI4 l i=true:=fun j hbt=>by rw[hbad,hbt];simp
      have hpl:(Bk.pile ⟨b1.ps,xi⟩ (w9 it xy)).length<=4294967296:=by have h6:=Fa7 b1 (w9 it xy) (Bt7 it xy hit4);have h7:=Hrep.out.ok.few;exact Nat.le_trans h6 (by omega)
      have hpl2:(b1.pile (w9 it (!xy))).length<=32:=Nat.le_trans (Fa7 b1 _ hk8) Hrep.out.ok.few;clear hmay hbad hle;generalize hkk:w9 it (!xy)=k at hsim hk8 hpl2;have hk1:k<vs.length:=by omega
      have hk2:k<b1.ps.length:=by omega
      have hpk:b1.ps[k]=b1.pile k:=FL7 b1 h2 k hk8;have hvk:(vs++[Value.int .i64 b1.last])[k]? = some vs[k]:=by rw[List.getElem?_append_left hk1,jG hk1]
      have hside:=fun w L hS=>CG7 bb it hit4 (!xy) W w L hS
      rw[hkk]at hside;have Hside:=jH hside;have Hpl:=jH hpl;have Hpk:=jH hpk;clear hside hkk hpl hpk;have hset:(vs++[Value.int .i64 b1.last]).set 8 (.I xi)=vs++[.I xi]:=by rw[List.set_append_right _ _ (by omega),h1];rfl
      have Hset:=jH hset;clear hset;go_wp2_with(first|refine zlN hS ?_ (hc:=by exact i8.there (i8.there hcells))|refine zsN hS ?_;clear hS;intro w hS|refine zal hS ?_;clear hS;intro b w hS);refine rf3 tB7a (fun _=>false) (fun i=>if i==1 then some (.bool true)else none) [] [none,none] hS ?_;intro nd;refine zcN ?_;refine zcv ?_ (hs:=by(intro F w hS;(try clear hS0);exact Kt7 hm W w _ hS))
      iterate 2 (refine cR ?_)
      iterate 1 (refine cR ?_)
      (refine zc1 ?_);refine cR ?_;refine zcn ?_;refine cR ?_;refine zc1 ?_ (hc:=by(intro F;exact i9.there (i9.here hla)))
      iterate 2 (refine cR ?_)
      refine Ad7 ?_;clear hS;intro w hS;have hS2:St W [blk b _ _,blk bb _ _,sats _] w:=hS;clear hS;have hS:=hS2.unpack [_,_];clear hS2;simp only[jK,jN]at hS
      cases hq:b1.pile k with
      | nil=>
       rw[hq]at hsim;obtain⟨hb0,hr0⟩:=hst hsim.best_nil;have Hok2:=jH (Hok.out.step hb0);have Hst:=jH hr0;obtain⟨ba,ca,hvv⟩:=eg4 k hk1 hk2 (hS.take .t2);rw[Hpk.out,hq]at hvv;rw[hvv]at hvk;clear hb0 hr0 hst hbs hsim hvv hq;go_wp2_with(first|go_at_call 204;refine(Hside.out _ _ hS).mono ?_;clear hS;rintro e w ⟨rfl,hS⟩|refine zl1 hS ?_);refine rf2 tB7b (fun _=>false) [] [none,none] hS ?_;intro nd;refine cR ?_;refine zcn ?_;refine zc1 ?_ (hc:=by(intro F;exact i9.there (i9.here hvk)))
       iterate 3 (refine cR ?_)
       iterate 7 (refine BL7 (by kernel_rfl) rfl ?_;refine frS ?_)
       (refine cR ?_);refine Ad7 ?_;clear hS;intro w hS;have hS2:St W [blk b _ _,blk bb _ _,sats _] w:=hS;clear hS;have hS:=hS2.unpack [_,_];clear hS2;simp only[jK,jN]at hS;replace hS:=hS.swap.perm ((List.Perm.swap _ _ _).cons _);go_wp2_with(first|((with_reducible apply Hl7 hS);rfl;rfl;rfl;(focus((conv=>lhs;whnf);try rfl));kernel_rfl;rfl;rfl;exact db4;simp[h1];rfl;clear hS;intro w hS;try(refine frS ?_))|refine zl1 hS ?_);rw[Hset.out]at hS;have hpl:=Hpl.out;replace hS:=R7 (b:=⟨b1.ps,xi⟩) h1 h2 hS;refine rf3 tB7d (fun _=>false) (fun i=>if i==5 then some (.pointer (some ⟨bb,w9 it xy,none⟩))else if i==9 then some (.tuple #[])else none) [⟨some 9,none,fun _=>D9 bb ⟨b1.ps.set (w9 it xy) (ar4 (b1.pile (w9 it xy)) ⟨xi,xu,xy,it,xc,xp⟩),xi⟩⟩] [some 9,none] hS ?_;intro nd
       iterate 2 (refine cR ?_)
       (refine zc1 ?_);refine cR ?_;refine zc1 ?_;refine zcv ?_ (hs:=by(intro F w hS;(try clear hS0);exact CG7 bb it hit4 xy W w _ hS));refine cR ?_;refine zcN ?_;refine cR ?_;refine zcv ?_ (hs:=by(intro F w hS;(try clear hS0);exact Ds7 bb ⟨b1.ps,xi⟩ _ (Bt7 it xy hit4) ⟨xi,xu,xy,it,xc,xp⟩ hpl W w _ hS));refine Ad7 ?_;clear hS;intro w hS;have hS2:St W [D9 bb _,blk b _ _,sats _] w:=hS;clear hS;have hS:=hS2.unpack [_,_];clear hS2;simp only[jK,jN]at hS;go_wp2_with(fail);go_roundw
       case rel=>exact⟨i+1,_,rfl,hil,Hok2.out,Hst.out,rfl.trans Hll.out.symm,hS.swap.drop⟩
       case measure=>simp[intOf];omega
      | cons y q=>
       have hS1:=bx4 k hk1 hk2 (hS.take .t2);clear hS;rw[Hpk.out,hq]at hS1;obtain⟨ga,gc,hvv⟩:=hS1.rowVal;have Hvv:=jH hvv;rw[hvv]at hS1 hvk;obtain⟨⟨g2,rfl⟩,hgc,hgn⟩:=St.rowAddr hS1 (by simp);have hS:=(hS1.take .t2).take .t3;clear hS1 hvv;rw[hq]at hsim;have hy0:0<(y::q).length:=by simp
       have hyc:∀{X:List HP},i8 (j8 (.S g2 (y::q).length gc) (y::q)::X) g2 (0*6) (Ord.cells (y::q)[0]):=fun{X}=>i8.rowE Ord.len hy0
       rw[Nat.zero_mul]at hyc;have hyc:∀{X:List HP},i8 (j8 (.S g2 (y::q).length gc) (y::q)::X) g2 0 (Ord.cells y):=hyc;have hql:(y::q).length<=32:=by rw[<-hq];exact hpl2
       cases hmt:aJ4 ⟨xi,xu,xy,it,xc,xp⟩ y
       ·obtain⟨hb0,hr0⟩:=hst (hsim.best_no hmt);have Hok2:=jH (Hok.out.step hb0);have Hst:=jH hr0;have Hq:=jH hq;clear hb0 hr0 hst hbs hsim hq;generalize hyq:y::q=yq at *;have hy1:0<yq.length:=by rw[<-hyq];simp
        obtain⟨yi,yu,yy,yt,yc,yp⟩:=y;simp only[Ord.cells]at hyc;clear hyq;go_wp2_with(first|go_at_call 204;refine(Hside.out _ _ hS).mono ?_;clear hS;rintro e w ⟨rfl,hS⟩|refine zl1 hS ?_);refine rf3 tB7b (fun _=>false) (fun i=>if i==12 then some (.bool false)else none) [] [none,none,none] hS ?_;intro nd;refine cR ?_;refine zcn ?_;refine zc1 ?_ (hc:=by(intro F;exact i9.here hvk))
        iterate 3 (refine cR ?_)
        (refine zcN ?_);refine cR ?_;refine zcn ?_;refine zc1 ?_ (hc:=by(intro F;exact i9.here hvk));refine cR ?_;refine zcN ?_ (hc:=by(intro F;exact i8.there (i8.there hyc)));refine zcv ?_ (hs:=by(intro F w hS;(try clear hS0);exact LI7 hmt W w _ hS));refine cR ?_;refine Ad7 ?_;clear hS;intro w hS;have hS2:St W [blk bb _ _,blk b _ _,j8 _ _,sats _] w:=hS;clear hS;have hS:=hS2.unpack [_,_,_];clear hS2;simp only[jK,jN]at hS;replace hS:=(hS.take .t3).take .t3;have hS4:=by4 k hk1 hk2 hS;clear hS;rw[<-Hvv.out,<-Hq.out,<-Hpk.out,List.set_getElem_self,List.set_getElem_self]at hS4;have hS:=hS4.swap;clear hS4;go_wp2_with(first|((with_reducible apply Hl7 hS);rfl;rfl;rfl;(focus((conv=>lhs;whnf);try rfl));kernel_rfl;rfl;rfl;exact db4;simp[h1];rfl;clear hS;intro w hS;try(refine frS ?_))|refine zl1 hS ?_);rw[Hset.out]at hS;have hpl:=Hpl.out;replace hS:=R7 (b:=⟨b1.ps,xi⟩) h1 h2 hS;refine rf3 tB7d (fun _=>false) (fun i=>if i==5 then some (.pointer (some ⟨bb,w9 it xy,none⟩))else if i==9 then some (.tuple #[])else none) [⟨some 9,none,fun _=>D9 bb ⟨b1.ps.set (w9 it xy) (ar4 (b1.pile (w9 it xy)) ⟨xi,xu,xy,it,xc,xp⟩),xi⟩⟩] [some 9,none] hS ?_;intro nd
        iterate 2 (refine cR ?_)
        (refine zc1 ?_);refine cR ?_;refine zc1 ?_;refine zcv ?_ (hs:=by(intro F w hS;(try clear hS0);exact CG7 bb it hit4 xy W w _ hS));refine cR ?_;refine zcN ?_;refine cR ?_;refine zcv ?_ (hs:=by(intro F w hS;(try clear hS0);exact Ds7 bb ⟨b1.ps,xi⟩ _ (Bt7 it xy hit4) ⟨xi,xu,xy,it,xc,xp⟩ hpl W w _ hS));refine Ad7 ?_;clear hS;intro w hS;have hS2:St W [D9 bb _,blk b _ _,sats _] w:=hS;clear hS;have hS:=hS2.unpack [_,_];clear hS2;simp only[jK,jN]at hS;go_wp2_with(fail);go_roundw
        case rel=>exact⟨i+1,_,rfl,hil,Hok2.out,Hst.out,rfl.trans Hll.out.symm,hS.swap.drop⟩
        case measure=>simp[intOf];omega
       ·obtain⟨j,hj,_⟩:=hsim.best_yes hmt;have Hbad:=jH (hbs j hj);clear hst hbs hsim hj hq;generalize hyq:y::q=yq at *;have hy1:0<yq.length:=by rw[<-hyq];simp
        obtain⟨yi,yu,yy,yt,yc,yp⟩:=y;simp only[Ord.cells]at hyc;clear hyq;go_wp2_with(first|go_at_call 204;refine(Hside.out _ _ hS).mono ?_;clear hS;rintro e w ⟨rfl,hS⟩|refine zl1 hS ?_);refine rf3 tB7b (fun _=>false) (fun i=>if i==12 then some (.bool true)else none) [] [none,none,none] hS ?_;intro nd;refine cR ?_;refine zcn ?_;refine zc1 ?_ (hc:=by(intro F;exact i9.here hvk))
        iterate 3 (refine cR ?_)
        (refine zcN ?_);refine cR ?_;refine zcn ?_;refine zc1 ?_ (hc:=by(intro F;exact i9.here hvk));refine cR ?_;refine zcN ?_ (hc:=by(intro F;exact i8.there (i8.there hyc)));refine zcv ?_ (hs:=by(intro F w hS;(try clear hS0);exact LI7 hmt W w _ hS));refine cR ?_;refine Ad7 ?_;clear hS;intro w hS;have hS2:St W [blk bb _ _,blk b _ _,j8 _ _,sats _] w:=hS;clear hS;have hS:=hS2.unpack [_,_,_];clear hS2;simp only[jK,jN]at hS;go_wp2_with fail;go_ret2
        first|exact⟨.inr ⟨i,hil,Hbad.out⟩,rfl,hS.drop.drop.drop.drop.drop⟩|exact .inl ⟨.inr ⟨i,hil,Hbad.out⟩,rfl,hS.drop.drop.drop.drop.drop⟩
 ·have h32':(32:Int)<(l.length:Int):=by omega
  go_enter Tryz.func167,Tryz.ntmps167;go_wp2_with fail;go_ret2
  first|exact⟨.inl (by omega),rfl,hS.drop⟩|exact .inl ⟨.inl (by omega),rfl,hS.drop⟩
section
variable{κ ν:Type}[DecidableEq κ]
theorem Gz7{k y:κ}(h:y≠k):∀l:List (κ×ν),m7 (j9 l k) y=m7 l y
 | []=>rfl
 | x::l=>by
  have ih:=Gz7 h l;unfold m7 j9 at ih ⊢;by_cases hx:x.1=k
  ·rw[List.filter_cons,if_neg (by simpa using hx),ih,List.find?_cons_of_neg (by simpa using fun e=>h (e.symm.trans hx))]
  ·rw[List.filter_cons,if_pos (by simpa using hx)];by_cases hy:x.1=y
   ·rw[List.find?_cons_of_pos (by simpa using hy),List.find?_cons_of_pos (by simpa using hy)]
   ·rw[List.find?_cons_of_neg (by simpa using hy),List.find?_cons_of_neg (by simpa using hy),ih]
theorem Ou7(k:κ)(l:List (κ×ν)):m7 (j9 l k) k=none:=HS7 fun x hx=>by have:=(List.mem_filter.1 hx).2;simpa using this
end
theorem SH7{i:It}(h:isZ i=true):i=it0:=by obtain⟨a,b,c,d⟩:=i;simp only[isZ,jB,decide_eq_true_eq]at h;obtain⟨rfl,rfl,rfl,rfl⟩:=h;rfl
theorem Hy7(p:Ps)(k:ByteArray)(i:It):m5 (K7 p k i) k=i:=by
 unfold K7 m5
 cases h:isZ i with
 | true=>rw[if_pos rfl,Ou7,SH7 h];rfl
 | false=>rw[if_neg (by simp)];unfold m7;rw[List.find?_cons_of_pos (by simp)];rfl
theorem Cc7(p:Ps){k y:ByteArray}(h:y≠k)(i:It):m5 (K7 p k i) y=m5 p y:=by
 unfold K7 m5;split
 ·rw[Gz7 h]
 ·have e:m7 ((k,i)::j9 p k) y=m7 (j9 p k) y:=by unfold m7;rw[List.find?_cons_of_neg (by simpa using fun e=>h e.symm)]
  rw[e,Gz7 h]
def N5(p:Ps):Prop:=∀k,x8 (m5 p k)=true
theorem Ek7:N5 []:=fun _=>rfl
theorem El7{p:Ps}(h:N5 p)(k:ByteArray){i:It}(hi:x8 i=true):N5 (K7 p k i):=fun y=>by
 by_cases hy:y=k
 ·rw[hy,Hy7];exact hi
 ·rw[Cc7 p hy];exact h y
theorem To7{a:Int}(h:0<=a):0<=aj4 a/\aj4 a<=1152921504606846976:=by unfold aj4;split <;> omega
theorem Id7{i:It}(h:x8 i=true)(k:Int){n:Int}(hn:0<=n/\n<=1152921504606846976):x8 (aX4 i k n)=true:=by
 have hi:=Af7.1 h;unfold aX4
 repeat' split
 ·exact Af7.2 ⟨hn,hi.2⟩
 ·exact Af7.2 ⟨hi.1,hn,hi.2.2⟩
 ·exact Af7.2 ⟨hi.1,hi.2.1,hn,hi.2.2.2⟩
 ·exact Af7.2 ⟨hi.1,hi.2.1,hi.2.2.1,hn⟩
theorem Fe7{i:It}(h:x8 i=true)(k:Int):0<=A7 i k/\A7 i k<=1152921504606846976:=by
 have hi:=Af7.1 h;unfold A7
 repeat' split
 ·exact hi.1
 ·exact hi.2.1
 ·exact hi.2.2.1
 ·exact hi.2.2.2
theorem An7{p:Ps}(h:N5 p)(who:ByteArray)(k:Int){n:Int}(hn:0<=n):N5 (r8 p who k n):=
 El7 h who (Id7 (h who) k (To7 (by have:=Fe7 (h who) k;omega)))
theorem LJ7{p:Ps}(h:N5 p)(k:ByteArray)(i:It):N5 (M5 p k i):=by
 unfold M5;split
 ·rename_i hc
  cases ha:G5 [m5 p k,i] it0 with
  | none=>exact h
  | some s=>
   refine El7 h k ?_;simp only[G5]at ha;split at ha
   ·split at ha
    ·rename_i h1 h2
     cases ha
     exact h2.2
    ·cases ha
   ·cases ha
 ·exact h
theorem CI7{p:Ps}(h:N5 p)(k:ByteArray)(i:It):N5 (A8 p k i):=by
 unfold A8;split
 ·rename_i hc
  split
  ·rename_i hs
   refine El7 h k ?_;unfold O8 at hs;simp only[jB,Bool.not_eq_true']at hs;obtain⟨⟨h1,h2⟩,h3⟩:=hs;have a:=Af7.1 h1;have b:=Af7.1 h2;simp only[S6,Bool.or_eq_false_iff,decide_eq_false_iff_not]at h3;unfold bH4;exact Af7.2 ⟨⟨by simp only;omega,by simp only;omega⟩,⟨by simp only;omega,by simp only;omega⟩,⟨by simp only;omega,by simp only;omega⟩,by simp only;omega,by simp only;omega⟩
  ·exact h
 ·exact h
def w7(bb:Nat)(L:List Ord)(m:Int):HP:=fun f=>∃b:Bk,(Rep b L/\b.last<m)/\D9 bb b f
section
variable{W w:World}{R:List HP}{bb:Nat}{L:List Ord}{m:Int}
theorem aD4(h:St W (w7 bb L m::R) w):∃b:Bk,Rep b L/\b.last<m/\St W (D9 bb b::R) w:=by obtain⟨b,h⟩:=St.ex h;obtain⟨⟨h1,h2⟩,h⟩:=St.and h;exact⟨b,h1,h2,h⟩
theorem ba4{b:Bk}(h1:Rep b L)(h2:b.last<m)(h:St W (D9 bb b::R) w):St W (w7 bb L m::R) w:=St.mkEx b (St.mkAnd ⟨h1,h2⟩ h)
theorem Cd7(h:St W (w7 bb L m::R) w):L.length<=32:=by obtain⟨b,hr,_,_⟩:=aD4 h;have:=hr.ok.few;rw[Cr7 _ hr.ok.n8,<-hr.perm.length_eq]at this;exact this
theorem Bn7(h:St W (w7 bb L m::R) w):∀x∈L,MayP x/\x.id<m:=by obtain⟨b,hr,hl,_⟩:=aD4 h;exact fun x hx=>⟨(hr.each x hx).1,by have:=(hr.each x hx).2;omega⟩
theorem Em7(hS:St W (w7 bb L m::R) w):
  Calls Tryz.prog 168 #[.P bb] w fun e w'=>e=.returned (.I L.length)/\St W (w7 bb L m::R) w':=by
 obtain⟨b,hr,hl,hS⟩:=aD4 hS;have e:b.len=L.length:=by rw[Cr7 _ hr.ok.n8,hr.perm.length_eq]
 refine(HV7 bb b (by have:=hr.ok.few;omega) W w R hS).mono ?_;rintro e' w' ⟨rfl,hS⟩;exact⟨by rw[e],ba4 hr hl hS⟩
theorem Ov7(hS:St W R w):
  Calls Tryz.prog 201 #[] w fun e w'=>∃b,e=.returned (.P b)/\St W (w7 b [] 1::R) w':=by
 refine(LB7 W w R hS).mono ?_;rintro e w' ⟨b,rfl,hS⟩;exact⟨b,rfl,ba4 ge4 (by decide) hS⟩
end
theorem En7(o:Ord)(hid:o.id=1)(v:Value)(W w:World)(R:List HP)(hS:St W (j8 v [o]::R) w):
  Calls Tryz.prog 167 #[v] w fun e w'=>∃u,e=.returned (.tuple #[u,.I (if P9 o=true then 0 else 1)])/\St W R w':=by
 refine(Ot7 [o] v W w R (by simp) hS).mono ?_
 have hb:bI4 [o] 0=!(P9 o):=by
  have e:at' [o] 0=o:=rfl;unfold bI4;rw[e];show(!(P9 o)||(decide (o.id<=0)||false))=_
  rw[hid];simp
 rintro e w' (⟨hR,rfl,hS⟩|⟨_,hok,bb,b,rfl,_,_,hS⟩)
 ·refine⟨.pointer none,?_,hS⟩
  have:P9 o=false:=by
   rcases hR with h|⟨i,hi,hb2⟩
   ·simp at h
   ·obtain rfl:i=0:=by simp at hi;omega
    rw[hb]at hb2;simpa using hb2
  rw[this];rfl
 ·refine⟨.P bb,?_,hS.drop⟩;have:=hok 0 (by simp);rw[hb]at this;have:P9 o=true:=by simpa using this
  rw[this];rfl
abbrev Tv:TypeId:=176
abbrev B7(vb mb bb:Nat)(p:Ps)(L:List Ord)(n:Int)(R:List HP):List HP:=blk vb [.map (some mb),.P bb,.I n] 176::d8 eS eP mb p::w7 bb L n::R
theorem Jg7(W w:World)(R:List HP)(hS:St W R w):
  Calls Tryz.prog 162 #[] w fun e w'=>∃vb mb bb,e=.returned (.P vb)/\St W (B7 vb mb bb [] [] 1 R) w':=by
 go_enter Tryz.func162,Tryz.ntmps162;go_wp2_with(first|(with_reducible apply Ed7 (t:=173) eS eP hS);rfl;rfl;clear hS;intro mb w hS;simp only[Act.put,fA,fB,fC,Nat.reduceAdd,eP,It.cells]|go_at_call 201;refine(Ov7 hS).mono ?_;clear hS;rintro e w ⟨bb,rfl,hS⟩|refine zl1 hS ?_|refine zlN hS ?_|refine zs1 hS ?_;clear hS;intro w hS|refine zsN hS ?_;clear hS;intro w hS|refine zbx hS ?_;clear hS;intro b w hS|refine zal hS ?_;clear hS;intro b w hS);go_ret;exact⟨b,mb,bb,rfl,hS.s _⟩
end Go.Proofs.YtlmhakmoioogaaaGreat
end
