/-
  The document's row of purses is the program's purses, by names.
-/
import Derived.Test.YtienbkdjkjbelaaGreatJuRM5
import Derived.Test.YtienbkdjkjbelaaGreatJuRM30
set_option maxHeartbeats 16000000
set_option maxRecDepth 100000
set_option linter.unusedSimpArgs false
set_option linter.unusedVariables false
section
namespace Go.Proofs.YtienbkdjkjbelaaGreat
open Go.RowKit Go.Sl
abbrev blt(x y:ByteArray):Prop:=Op.bytesLess x.toList y.toList=true
theorem DL7{x y:ByteArray}:blt x y↔x.data.toList<y.data.toList:=by unfold blt;rw[bytesLess_eq,Lib.toList_data,Lib.toList_data,decide_eq_true_eq]
theorem Dh7{x y z:ByteArray}(h1:blt x y)(h2:blt y z):blt x z:=DL7.2 (List.lt_trans (DL7.1 h1) (DL7.1 h2))
theorem Di7{x y:ByteArray}(h:blt x y):x≠y:=fun e=>by rw[e]at h;exact List.lt_irrefl _ (DL7.1 h)
theorem DU7{x y:ByteArray}(h:blt x y):leB x y=true:=by unfold leB;rw[decide_eq_true_eq];exact List.le_of_lt (DL7.1 h)
theorem Fm7{x k:ByteArray}(h:¬blt x k)(hne:x≠k):blt k x:=by
 refine GJ7 ?_ fun e=>hne e.symm
 unfold leB;rw[decide_eq_true_eq];exact List.not_lt.1 fun hl=>h (DL7.2 hl)
theorem EH7{x y:ByteArray}:(x.toList==y.toList)=true↔x=y:=by
 rw[Lib.toList_data,Lib.toList_data];constructor
 ·intro h;exact Dd7 (by simpa using h)
 ·rintro rfl;simp
def dc4(H:List Hd):Prop:=H.Pairwise fun x y=>blt x.who y.who
theorem FL7:∀(H:List Hd) (k:ByteArray),dc4 H->
  (∀x∈H.take (spI H k),blt x.who k)/\(∀y∈H.drop (if spB H k=true then spI H k+1 else spI H k),blt k y.who)/\(spB H k=true->∃x,H.drop (spI H k)=x::H.drop (spI H k+1)/\x.who=k)
 | [],k,_=>⟨fun x hx=>(by simp at hx),fun y hy=>(by simp[spI,spB]at hy),fun h=>(by cases h)⟩
 | h::H,k,hs=>by
  unfold dc4 at hs;rw[List.pairwise_cons]at hs;obtain⟨hs1,hs2⟩:=hs;rw[spI,spB];by_cases hb:Op.bytesLess h.who.toList k.toList=true
  ·rw[if_pos hb,if_pos hb];obtain⟨i1,i2,i3⟩:=FL7 H k hs2;refine⟨?_,?_,?_⟩
   ·intro x hx;rw[List.take_succ_cons]at hx
    rcases List.mem_cons.1 hx with rfl|hx
    ·exact hb
    ·exact i1 x hx
   ·intro y hy;refine i2 y ?_;split at hy
    ·rename_i h1
     rw[if_pos h1];simpa using hy
    ·rename_i h1
     rw[if_neg h1];simpa using hy
   ·intro h1;obtain⟨x,hx1,hx2⟩:=i3 h1;exact⟨x,by simpa using hx1,hx2⟩
  ·rw[if_neg hb,if_neg hb];refine⟨fun x hx=>(by simp at hx),?_,?_⟩
   ·intro y hy;split at hy
    ·rename_i h1
     have e:=EH7.1 h1;rw[<-e];exact hs1 y (by simpa using hy)
    ·rename_i h1
     have hne:h.who≠k:=fun e=>h1 (EH7.2 e)
     have hkh:=Fm7 hb hne;rw[List.drop_zero]at hy
     rcases List.mem_cons.1 hy with rfl|hy
     ·exact hkh
     ·exact Dh7 hkh (hs1 y hy)
   ·intro h1;exact⟨h,by simp,EH7.1 h1⟩
def cN4(H:List Hd)(k:ByteArray)(i:It):List Hd:=H.take (spI H k)++((if isZ i=true then[]else[⟨k,i⟩])++H.drop (if spB H k=true then spI H k+1 else spI H k))
section
variable{p:Ps}{N:Nat}
theorem HF7(hw:PsW p N):dc4 (hdL p):=by
 refine List.pairwise_iff_getElem.2 fun i j hi hj hij=>?_
 exact(On7 hw hj).2.2 i hij
theorem KD7(p:Ps):(hdL p).map Hd.who=kL p:=by unfold hdL;rw[List.map_map];exact(List.map_congr_left fun _ _=>rfl).trans (List.map_id _)
theorem EI7{x:Hd}(h:x∈hdL p):x.has=j7 p x.who:=by unfold hdL at h;obtain⟨y,_,rfl⟩:=List.mem_map.1 h;rfl
theorem dd4(H:List Hd)(k:ByteArray):H=H.take (spI H k)++((if spB H k=true then(H.drop (spI H k)).take 1 else[])++H.drop (if spB H k=true then spI H k+1 else spI H k)):=by
 split
 ·have e:(H.drop (spI H k)).drop 1=H.drop (spI H k+1):=by rw[List.drop_drop]
  rw[<-e,List.take_append_drop,List.take_append_drop]
 ·rw[jN,List.take_append_drop]
theorem NI7(hw:PsW p N)(k:ByteArray):ds4 (hdL p) k=j7 p k:=by
 obtain⟨h1,h2,h3⟩:=FL7 (hdL p) k (HF7 hw);unfold ds4
 cases hb:spB (hdL p) k with
 | true=>
  obtain⟨x,hx,hk⟩:=h3 hb;rw[if_pos rfl];have hm:x∈hdL p:=List.mem_of_mem_drop (by rw[hx];exact List.mem_cons_self ..)
  have e:(hdL p).getD (spI (hdL p) k) ⟨⟨#[]⟩,it0⟩=x:=by
   have h4:((hdL p).drop (spI (hdL p) k))[0]? = some x:=by rw[hx];rfl
   rw[List.getElem?_drop,Nat.add_zero]at h4;rw[List.getD_eq_getElem?_getD,h4];rfl
  rw[e,EI7 hm,hk]
 | false=>
  rw[hb]at h2;rw[if_neg (by simp)]
  have hno:∀x∈p,x.1≠k:=by
   intro x hx e;have hm:x.1∈(hdL p).map Hd.who:=by rw[KD7];exact(AN7 _).mem_iff.2 (List.mem_map_of_mem hx)
   obtain⟨y,hy,hye⟩:=List.mem_map.1 hm;have hs:=dd4 (hdL p) k;rw[hb]at hs;simp only[Bool.false_eq_true,if_false,jN]at hs h2;rw[hs]at hy
   rcases List.mem_append.1 hy with hy|hy
   ·exact Di7 (h1 y hy) (hye.trans e)
   ·exact Di7 (h2 y hy) (hye.trans e).symm
  unfold j7;rw[Fx7 hno];rfl
theorem NJ7(hw:PsW p N)(k:ByteArray)(i:It):cN4 (hdL p) k i=hdL (E7 p k i):=by
 obtain⟨h1,h2,h3⟩:=FL7 (hdL p) k (HF7 hw);have hsp:=dd4 (hdL p) k;have hsr:=HF7 hw;have hmA:∀x∈(hdL p).take (spI (hdL p) k),x∈hdL p:=fun x hx=>List.mem_of_mem_take hx
 have hmB:∀x∈(hdL p).drop (if spB (hdL p) k=true then spI (hdL p) k+1 else spI (hdL p) k),x∈hdL p:=fun x hx=>List.mem_of_mem_drop hx
 have hmid:∀x∈(if spB (hdL p) k=true then((hdL p).drop (spI (hdL p) k)).take 1 else[]),x.who=k:=by
  intro x hx;split at hx
  ·rename_i hb
   obtain⟨y,hy,hk⟩:=h3 hb;rw[hy]at hx;simp at hx;rw[hx];exact hk
  ·cases hx
 have hsA:dc4 ((hdL p).take (spI (hdL p) k)):=hsr.sublist (List.take_sublist _ _);have hsB:dc4 ((hdL p).drop (if spB (hdL p) k=true then spI (hdL p) k+1 else spI (hdL p) k)):=hsr.sublist (List.drop_sublist _ _)
 have hwho:(kL p).filter (fun y=>decide (y≠k))=((hdL p).take (spI (hdL p) k)).map Hd.who++((hdL p).drop (if spB (hdL p) k=true then spI (hdL p) k+1 else spI (hdL p) k)).map Hd.who:=by
  rw[<-KD7 p]
  conv=>lhs;rw[hsp]
  rw[List.map_append,List.map_append,List.filter_append,List.filter_append];rw[List.filter_eq_self.2 fun y hy=>by obtain⟨x,hx,rfl⟩:=List.mem_map.1 hy;simpa using Di7 (h1 x hx)];rw[List.filter_eq_nil_iff.2 fun y hy=>by obtain⟨x,hx,rfl⟩:=List.mem_map.1 hy;simpa using hmid x hx];rw[jN,List.filter_eq_self.2 fun y hy=>by obtain⟨x,hx,rfl⟩:=List.mem_map.1 hy;simpa using(Di7 (h2 x hx)).symm]
 have hdel:((i9 p k).map (·.1)).Perm (((hdL p).take (spI (hdL p) k)).map Hd.who++((hdL p).drop (if spB (hdL p) k=true then spI (hdL p) k+1 else spI (hdL p) k)).map Hd.who):=by
  rw[<-hwho];have e:(i9 p k).map (·.1)=(p.map (·.1)).filter (fun y=>decide (y≠k)):=by unfold i9;rw[List.filter_map];rfl
  rw[e];have hp:(kL p).Perm (p.map (·.1)):=AN7 _;exact(hp.filter _).symm
 unfold cN4 E7
 cases hz:isZ i with
 | true=>
  rw[if_pos rfl,if_pos rfl,jN];have hk:kL (i9 p k)=((hdL p).take (spI (hdL p) k)).map Hd.who++((hdL p).drop (if spB (hdL p) k=true then spI (hdL p) k+1 else spI (hdL p) k)).map Hd.who:=by refine List.Perm.eq_of_pairwise (le:=fun a b=>leB a b=true) (fun a b _ _ h1 h2=>Iq7 h1 h2) (Ba7 _) ?_ ((AN7 _).trans hdel);refine List.pairwise_append.2 ⟨List.pairwise_map.2 (hsA.imp DU7),List.pairwise_map.2 (hsB.imp DU7),fun a ha b hb=>?_⟩;obtain⟨x,hx,rfl⟩:=List.mem_map.1 ha;obtain⟨y,hy,rfl⟩:=List.mem_map.1 hb;exact DU7 (Dh7 (h1 x hx) (h2 y hy))
  unfold hdL at hk ⊢;rw[hk,List.map_append,List.map_map,List.map_map];refine congr (congrArg _ ?_) ?_
  ·refine((List.map_congr_left fun x hx=>?_).trans (List.map_id _)).symm;have e1:=EI7 (hmA x hx);have e2:=Bu7 p (Di7 (h1 x hx)) i;unfold E7 at e2;rw[hz,if_pos rfl]at e2;show(⟨x.who,j7 (i9 p k) x.who⟩:Hd)=x
   rw[e2,<-e1]
  ·refine((List.map_congr_left fun x hx=>?_).trans (List.map_id _)).symm;have e1:=EI7 (hmB x hx);have e2:=Bu7 p (Di7 (h2 x hx)).symm i;unfold E7 at e2;rw[hz,if_pos rfl]at e2;show(⟨x.who,j7 (i9 p k) x.who⟩:Hd)=x
   rw[e2,<-e1]
 | false=>
  have hft:¬(false=true):=by simp
  rw[if_neg hft,if_neg hft]
  have hk:kL ((k,i)::i9 p k)=((hdL p).take (spI (hdL p) k)).map Hd.who++(k::((hdL p).drop (if spB (hdL p) k=true then spI (hdL p) k+1 else spI (hdL p) k)).map Hd.who):=by
   refine List.Perm.eq_of_pairwise (le:=fun a b=>leB a b=true) (fun a b _ _ h1 h2=>Iq7 h1 h2) (Ba7 _) ?_ ((AN7 _).trans ?_)
   ·refine List.pairwise_append.2 ⟨List.pairwise_map.2 (hsA.imp DU7),List.pairwise_cons.2 ⟨fun b hb=>?_,List.pairwise_map.2 (hsB.imp DU7)⟩,fun a ha b hb=>?_⟩
    ·obtain⟨y,hy,rfl⟩:=List.mem_map.1 hb;exact DU7 (h2 y hy)
    ·obtain⟨x,hx,rfl⟩:=List.mem_map.1 ha
     rcases List.mem_cons.1 hb with rfl|hb
     ·exact DU7 (h1 x hx)
     ·obtain⟨y,hy,rfl⟩:=List.mem_map.1 hb;exact DU7 (Dh7 (h1 x hx) (h2 y hy))
   ·rw[List.map_cons];exact(List.Perm.cons k hdel).trans List.perm_middle.symm
  unfold hdL at hk ⊢;rw[hk,List.map_append,List.map_cons,List.map_map,List.map_map];have es:=Fj7 p k i;unfold E7 at es;rw[hz,if_neg (by simp)]at es;refine congr (congrArg _ ?_) ?_
  ·refine((List.map_congr_left fun x hx=>?_).trans (List.map_id _)).symm;have e1:=EI7 (hmA x hx);have e2:=Bu7 p (Di7 (h1 x hx)) i;unfold E7 at e2;rw[hz,if_neg (by simp)]at e2;show(⟨x.who,j7 ((k,i)::i9 p k) x.who⟩:Hd)=x
   rw[e2,<-e1]
  ·rw[List.singleton_append,es];refine congrArg _ ?_;refine((List.map_congr_left fun x hx=>?_).trans (List.map_id _)).symm;have e1:=EI7 (hmB x hx);have e2:=Bu7 p (Di7 (h2 x hx)).symm i;unfold E7 at e2;rw[hz,if_neg (by simp)]at e2;show(⟨x.who,j7 ((k,i)::i9 p k) x.who⟩:Hd)=x
   rw[e2,<-e1]
end
theorem Dj7:∀L:List Hd,(L.flatMap Hd.cells).all (·.oneCell')=true
 | []=>rfl
 | x::L=>by rw[List.flatMap_cons,List.all_append,Dj7 L];rfl
theorem KE7(H:List Hd)(p q:Nat)(x:Hd)(hp:p<=H.length):(H.take p++x::H.drop q).length=0+p+1+(H.length-q):=by rw[jA,jT,jC,List.length_drop,Nat.min_eq_left hp];omega
theorem Iu7(H:List Hd)(p q:Nat)(x:Hd):(H.take p++x::H.drop q).flatMap Hd.cells=[]++(H.take p).flatMap Hd.cells++Hd.cells x++(H.drop q).flatMap Hd.cells:=by rw[List.flatMap_append,List.flatMap_cons,jN,jS]
theorem KF7(H:List Hd)(p q:Nat)(hp:p<=H.length):(H.take p++H.drop q).length=0+p+(H.length-q):=by rw[jA,jT,List.length_drop,Nat.min_eq_left hp];omega
theorem Iv7(H:List Hd)(p q:Nat):(H.take p++H.drop q).flatMap Hd.cells=[]++(H.take p).flatMap Hd.cells++(H.drop q).flatMap Hd.cells:=by rw[List.flatMap_append,jN]
theorem fC4(H:List Hd)(k:ByteArray)(i:It)(hl:H.length<=1000000)(xb:Nat)(v vB:Value)(n:Int)(W w:World)(R:List HP)(hS:St W (xvL xb v vB n H R) w):
  Calls Tryz.prog 101 #[.P xb,.string k,.agg i.cells.toArray] w fun e w'=>e=.returned (.tuple #[])/\∃v',St W (xvL xb v' vB n (cN4 H k i) R) w':=by
 obtain⟨a,cap,rfl⟩:=hS.drop.rowVal;obtain⟨x0,x1,x2,x3⟩:=i;simp only[It.cells];have hle:=MX7 H k;have hlt:=KB7 H k;have e0:cN4 H k ⟨x0,x1,x2,x3⟩=H.take (spI H k)++((if isZ ⟨x0,x1,x2,x3⟩=true then[]else[⟨k,⟨x0,x1,x2,x3⟩⟩])++H.drop (if spB H k=true then spI H k+1 else spI H k)):=rfl;obtain⟨p,hp⟩:∃p,spI H k=p:=⟨_,rfl⟩
 rw[hp]at hle hlt e0;have Hp:=jH hp;clear hp
 rcases St.rowCase hS.drop with ⟨rfl,h0,rfl,hc0⟩|⟨g,rfl,hcap,hcn⟩
 ·have hH:H=[]:=List.eq_nil_of_length_eq_zero h0;subst hH;have hp0:p=0:=by simp at hle;exact hle
  subst hp0;have Hb:=jH (show spB [] k=false from rfl)
  cases hz:isZ ⟨x0,x1,x2,x3⟩with
  | true=>
   have h4:(x0==0&&(x1==0&&(x2==0&&x3==0)))=true:=hz;rw[hz,if_pos rfl]at e0;have E:=jH (show cN4 [] k ⟨x0,x1,x2,x3⟩=[]from e0);clear e0 hz hlt hle h0;go_enter Tryz.func101,Tryz.ntmps101;go_wp2_with(first|go_at_call 132;refine(Ck7 (H:=[]) Hp.out Hb.out xb _ vB n W _ (blk bA _ _::R) (hS.s _)).mono ?_;clear hS;rintro e w ⟨rfl,hS⟩|(fail_if_success (have:=bA));(with_reducible apply Au7 hS);rfl;rfl;rfl;rfl;clear hS;intro bA w hS;refine frS ?_|(with_reducible apply Bj7 (n:=0) hS);rfl;rfl;(focus(simp only[fD,fI,fJ,Act.eval,fE,fF,fG,fH,fK];try rfl));exact esS;exact rsS;rfl;rfl;rfl;rfl;rfl;decide;clear hS;intro bv w hS;refine frS ?_|(with_reducible apply Ae7 hS);rfl;rfl;rfl;rfl;exact esS;exact rsS;rfl;decide;exact i7;exact .inl ⟨rfl,rfl,rfl⟩;(focus(rfl));exact rfl;(focus(unfold maxLen;omega));(focus(omega));clear hS;intro v w hS;(have hv:=hS.rowVal;obtain⟨va,vc,rfl⟩:=hv);refine frS ?_|(with_reducible apply DP7);rfl;rfl;rfl;rfl;kernel_rfl;exact eqI _ _ _ _ _ _ _ _;rw[h4];simp only[Bool.not_true,Bool.not_false];simp only[Act.put,fA,fB,fC,Nat.reduceAdd,eP,It.cells]|refine zl1 hS ?_|refine zlN hS ?_|refine zs1 hS ?_;clear hS;intro w hS)
   all_goals go_end0
   all_goals refine⟨rfl,.slice va 0 vc,?_⟩
   all_goals rw[E.out]
   all_goals have hS1:St W (hdR (.slice va 0 vc) []::_) w:=hS
   all_goals exact hS1.s _
  | false=>
   have h4:(x0==0&&(x1==0&&(x2==0&&x3==0)))=false:=hz;rw[hz,if_neg (by simp)]at e0;have E:=jH (show cN4 [] k ⟨x0,x1,x2,x3⟩=[⟨k,⟨x0,x1,x2,x3⟩⟩]from e0);clear e0 hz hlt hle h0;go_enter Tryz.func101,Tryz.ntmps101;go_wp2_with(first|go_at_call 132;refine(Ck7 (H:=[]) Hp.out Hb.out xb _ vB n W _ (blk bA _ _::R) (hS.s _)).mono ?_;clear hS;rintro e w ⟨rfl,hS⟩|(fail_if_success (have:=bA));(with_reducible apply Au7 hS);rfl;rfl;rfl;rfl;clear hS;intro bA w hS;refine frS ?_|(with_reducible apply Bj7 (n:=0) hS);rfl;rfl;(focus(simp only[fD,fI,fJ,Act.eval,fE,fF,fG,fH,fK];try rfl));exact esS;exact rsS;rfl;rfl;rfl;rfl;rfl;decide;clear hS;intro bv w hS;refine frS ?_|refine zbs hS ?_;clear hS;intro bS w hS|(with_reducible apply Ae7 hS);rfl;rfl;rfl;rfl;exact esS;exact rsS;rfl;decide;exact i7;exact .inl ⟨rfl,rfl,rfl⟩;(focus(rfl));exact rfl;(focus(unfold maxLen;omega));(focus(omega));clear hS;intro v w hS;(have hv:=hS.rowVal;obtain⟨va,vc,rfl⟩:=hv);refine frS ?_|(with_reducible apply Ae7 hS);rfl;rfl;rfl;rfl;exact esS;exact rsS;rfl;decide;exact i7;exact Src.mk d8.whole;(focus(rfl));exact rfl;(focus(unfold maxLen;omega));(focus(omega));clear hS;intro v w hS;(have hv:=hS.rowVal;obtain⟨va,vc,rfl⟩:=hv);refine frS ?_|(with_reducible apply DP7);rfl;rfl;rfl;rfl;kernel_rfl;exact eqI _ _ _ _ _ _ _ _;rw[h4];simp only[Bool.not_true,Bool.not_false];simp only[Act.put,fA,fB,fC,Nat.reduceAdd,eP,It.cells]|refine zl1 hS ?_|refine zlN hS ?_|refine zs1 hS ?_;clear hS;intro w hS)
   all_goals go_end0
   all_goals refine⟨rfl,.slice va 1 vc,?_⟩
   all_goals rw[E.out]
   all_goals have hS1:St W (hdR (.slice va 1 vc) [⟨k,⟨x0,x1,x2,x3⟩⟩]::_) w:=hS
   all_goals exact hS1.s _
 ·cases hb:spB H k with
  | true=>
   have hl1:=hlt hb;rw[hb,if_pos rfl]at e0;have Hb:=jH hb
   cases hz:isZ ⟨x0,x1,x2,x3⟩with
   | true=>
    have h4:(x0==0&&(x1==0&&(x2==0&&x3==0)))=true:=hz;rw[hz,if_pos rfl,jN]at e0;have E:=jH e0;clear e0 hz hlt hb;go_enter Tryz.func101,Tryz.ntmps101;go_wp2_with(first|go_at_call 132;refine(Ck7 Hp.out Hb.out xb _ vB n W _ (blk bA _ _::R) (hS.s _)).mono ?_;clear hS;rintro e w ⟨rfl,hS⟩|(fail_if_success (have:=bA));(with_reducible apply Au7 hS);rfl;rfl;rfl;rfl;clear hS;intro bA w hS;refine frS ?_|(with_reducible apply Bj7 (n:=0) hS);rfl;rfl;(focus(simp only[fD,fI,fJ,Act.eval,fE,fF,fG,fH,fK];try rfl));exact esS;exact rsS;rfl;rfl;rfl;rfl;rfl;decide;clear hS;intro bv w hS;refine frS ?_|(with_reducible apply Ae7 hS);rfl;rfl;rfl;rfl;exact esS;exact rsS;rfl;decide;exact i7;exact Src.partM (by exact ax4) (x8 H p);(focus(rw[Ab7 Hd.len,jT,Nat.min_eq_left (by omega)]));exact Dj7 _;(focus(unfold maxLen;omega));(focus(omega));clear hS;intro v w hS;(have hv:=hS.rowVal;obtain⟨va,vc,rfl⟩:=hv);refine frS ?_|(with_reducible apply Ae7 hS);rfl;rfl;rfl;rfl;exact esS;exact rsS;rfl;decide;exact i7;exact Src.behindM (by exact ax4) (fun h=>⟨by omega,by rw[List.drop_eq_nil_of_le (by omega)];rfl⟩) (fun j u h=>B7 Hd.len H (p+1) j u (by omega) h);(focus(rw[Ab7 Hd.len,List.length_drop]));exact Dj7 _;(focus(unfold maxLen;omega));(focus(omega));clear hS;intro v w hS;(have hv:=hS.rowVal;obtain⟨va,vc,rfl⟩:=hv);refine frS ?_|(with_reducible apply DP7);rfl;rfl;rfl;rfl;kernel_rfl;exact eqI _ _ _ _ _ _ _ _;rw[h4];simp only[Bool.not_true,Bool.not_false];simp only[Act.put,fA,fB,fC,Nat.reduceAdd,eP,It.cells]|refine zl1 hS ?_|refine zlN hS ?_|refine zs1 hS ?_;clear hS;intro w hS)
    all_goals go_end0
    all_goals refine⟨rfl,.slice va (0+p+(H.length-(p+1))) vc,?_⟩
    all_goals rw[E.out]
    all_goals unfold xvL hdR
    all_goals rw[KF7 H p (p+1) (by omega),Iv7]
    all_goals have hS1:St W (row (.slice va (0+p+(H.length-(p+1))) vc) 5 171 (0+p+(H.length-(p+1))) ([]++(H.take p).flatMap Hd.cells++(H.drop (p+1)).flatMap Hd.cells)::_) w:=hS
    all_goals exact hS1.s _
   | false=>
    have h4:(x0==0&&(x1==0&&(x2==0&&x3==0)))=false:=hz;rw[hz,if_neg (by simp),List.singleton_append]at e0;have E:=jH e0;clear e0 hz hlt hb;go_enter Tryz.func101,Tryz.ntmps101
    go_wp2_with(first|go_at_call 132;refine(Ck7 Hp.out Hb.out xb _ vB n W _ (blk bA _ _::R) (hS.s _)).mono ?_;clear hS;rintro e w ⟨rfl,hS⟩|(fail_if_success (have:=bA));(with_reducible apply Au7 hS);rfl;rfl;rfl;rfl;clear hS;intro bA w hS;refine frS ?_|(with_reducible apply Bj7 (n:=0) hS);rfl;rfl;(focus(simp only[fD,fI,fJ,Act.eval,fE,fF,fG,fH,fK];try rfl));exact esS;exact rsS;rfl;rfl;rfl;rfl;rfl;decide;clear hS;intro bv w hS;refine frS ?_|refine zbs hS ?_;clear hS;intro bS w hS|(with_reducible apply Ae7 hS);rfl;rfl;rfl;rfl;exact esS;exact rsS;rfl;decide;exact i7;exact Src.partM (by exact ax4) (x8 H p);(focus(rw[Ab7 Hd.len,jT,Nat.min_eq_left (by omega)]));exact Dj7 _;(focus(unfold maxLen;omega));(focus(omega));clear hS;intro v w hS;(have hv:=hS.rowVal;obtain⟨va,vc,rfl⟩:=hv);refine frS ?_|(with_reducible apply Ae7 hS);rfl;rfl;rfl;rfl;exact esS;exact rsS;rfl;decide;exact i7;exact Src.mk d8.whole;(focus(rfl));exact rfl;(focus(unfold maxLen;omega));(focus(omega));clear hS;intro v w hS;(have hv:=hS.rowVal;obtain⟨va,vc,rfl⟩:=hv);refine frS ?_|(with_reducible apply Ae7 hS);rfl;rfl;rfl;rfl;exact esS;exact rsS;rfl;decide;exact i7;exact Src.behindM (by exact ax4) (fun h=>⟨by omega,by rw[List.drop_eq_nil_of_le (by omega)];rfl⟩) (fun j u h=>B7 Hd.len H (p+1) j u (by omega) h);(focus(rw[Ab7 Hd.len,List.length_drop]));exact Dj7 _;(focus(unfold maxLen;omega));(focus(omega));clear hS;intro v w hS;(have hv:=hS.rowVal;obtain⟨va,vc,rfl⟩:=hv);refine frS ?_|(with_reducible apply DP7);rfl;rfl;rfl;rfl;kernel_rfl;exact eqI _ _ _ _ _ _ _ _;rw[h4];simp only[Bool.not_true,Bool.not_false];simp only[Act.put,fA,fB,fC,Nat.reduceAdd,eP,It.cells]|refine zl1 hS ?_|refine zlN hS ?_|refine zs1 hS ?_;clear hS;intro w hS)
    all_goals go_end0
    all_goals refine⟨rfl,.slice va (0+p+1+(H.length-(p+1))) vc,?_⟩
    all_goals rw[E.out]
    all_goals unfold xvL hdR
    all_goals rw[KE7 H p (p+1) _ (by omega),Iu7]
    all_goals have hS1:St W (row (.slice va (0+p+1+(H.length-(p+1))) vc) 5 171 (0+p+1+(H.length-(p+1))) ([]++(H.take p).flatMap Hd.cells++Hd.cells ⟨k,⟨x0,x1,x2,x3⟩⟩++(H.drop (p+1)).flatMap Hd.cells)::_) w:=hS
    all_goals exact hS1.s _
  | false=>
   have hft:¬(false=true):=by simp
   rw[hb,if_neg hft]at e0;have Hb:=jH hb
   cases hz:isZ ⟨x0,x1,x2,x3⟩with
   | true=>
    have h4:(x0==0&&(x1==0&&(x2==0&&x3==0)))=true:=hz;rw[hz,if_pos rfl,jN]at e0;have E:=jH e0;clear e0 hz hlt hb;go_enter Tryz.func101,Tryz.ntmps101;go_wp2_with(first|go_at_call 132;refine(Ck7 Hp.out Hb.out xb _ vB n W _ (blk bA _ _::R) (hS.s _)).mono ?_;clear hS;rintro e w ⟨rfl,hS⟩|(fail_if_success (have:=bA));(with_reducible apply Au7 hS);rfl;rfl;rfl;rfl;clear hS;intro bA w hS;refine frS ?_|(with_reducible apply Bj7 (n:=0) hS);rfl;rfl;(focus(simp only[fD,fI,fJ,Act.eval,fE,fF,fG,fH,fK];try rfl));exact esS;exact rsS;rfl;rfl;rfl;rfl;rfl;decide;clear hS;intro bv w hS;refine frS ?_|(with_reducible apply Ae7 hS);rfl;rfl;rfl;rfl;exact esS;exact rsS;rfl;decide;exact i7;exact Src.partM (by exact ax4) (x8 H p);(focus(rw[Ab7 Hd.len,jT,Nat.min_eq_left (by omega)]));exact Dj7 _;(focus(unfold maxLen;omega));(focus(omega));clear hS;intro v w hS;(have hv:=hS.rowVal;obtain⟨va,vc,rfl⟩:=hv);refine frS ?_|(with_reducible apply Ae7 hS);rfl;rfl;rfl;rfl;exact esS;exact rsS;rfl;decide;exact i7;exact Src.behindM (by exact ax4) (fun h=>⟨by omega,by rw[List.drop_eq_nil_of_le (by omega)];rfl⟩) (fun j u h=>B7 Hd.len H p j u (by omega) h);(focus(rw[Ab7 Hd.len,List.length_drop]));exact Dj7 _;(focus(unfold maxLen;omega));(focus(omega));clear hS;intro v w hS;(have hv:=hS.rowVal;obtain⟨va,vc,rfl⟩:=hv);refine frS ?_|(with_reducible apply DP7);rfl;rfl;rfl;rfl;kernel_rfl;exact eqI _ _ _ _ _ _ _ _;rw[h4];simp only[Bool.not_true,Bool.not_false];simp only[Act.put,fA,fB,fC,Nat.reduceAdd,eP,It.cells]|refine zl1 hS ?_|refine zlN hS ?_|refine zs1 hS ?_;clear hS;intro w hS)
    all_goals go_end0
    all_goals refine⟨rfl,.slice va (0+p+(H.length-p)) vc,?_⟩
    all_goals rw[E.out]
    all_goals unfold xvL hdR
    all_goals rw[KF7 H p p (by omega),Iv7]
    all_goals have hS1:St W (row (.slice va (0+p+(H.length-p)) vc) 5 171 (0+p+(H.length-p)) ([]++(H.take p).flatMap Hd.cells++(H.drop p).flatMap Hd.cells)::_) w:=hS
    all_goals exact hS1.s _
   | false=>
    have h4:(x0==0&&(x1==0&&(x2==0&&x3==0)))=false:=hz;rw[hz,if_neg (by simp),List.singleton_append]at e0;have E:=jH e0;clear e0 hz hlt hb;go_enter Tryz.func101,Tryz.ntmps101
    go_wp2_with(first|go_at_call 132;refine(Ck7 Hp.out Hb.out xb _ vB n W _ (blk bA _ _::R) (hS.s _)).mono ?_;clear hS;rintro e w ⟨rfl,hS⟩|(fail_if_success (have:=bA));(with_reducible apply Au7 hS);rfl;rfl;rfl;rfl;clear hS;intro bA w hS;refine frS ?_|(with_reducible apply Bj7 (n:=0) hS);rfl;rfl;(focus(simp only[fD,fI,fJ,Act.eval,fE,fF,fG,fH,fK];try rfl));exact esS;exact rsS;rfl;rfl;rfl;rfl;rfl;decide;clear hS;intro bv w hS;refine frS ?_|refine zbs hS ?_;clear hS;intro bS w hS|(with_reducible apply Ae7 hS);rfl;rfl;rfl;rfl;exact esS;exact rsS;rfl;decide;exact i7;exact Src.partM (by exact ax4) (x8 H p);(focus(rw[Ab7 Hd.len,jT,Nat.min_eq_left (by omega)]));exact Dj7 _;(focus(unfold maxLen;omega));(focus(omega));clear hS;intro v w hS;(have hv:=hS.rowVal;obtain⟨va,vc,rfl⟩:=hv);refine frS ?_|(with_reducible apply Ae7 hS);rfl;rfl;rfl;rfl;exact esS;exact rsS;rfl;decide;exact i7;exact Src.mk d8.whole;(focus(rfl));exact rfl;(focus(unfold maxLen;omega));(focus(omega));clear hS;intro v w hS;(have hv:=hS.rowVal;obtain⟨va,vc,rfl⟩:=hv);refine frS ?_|(with_reducible apply Ae7 hS);rfl;rfl;rfl;rfl;exact esS;exact rsS;rfl;decide;exact i7;exact Src.behindM (by exact ax4) (fun h=>⟨by omega,by rw[List.drop_eq_nil_of_le (by omega)];rfl⟩) (fun j u h=>B7 Hd.len H p j u (by omega) h);(focus(rw[Ab7 Hd.len,List.length_drop]));exact Dj7 _;(focus(unfold maxLen;omega));(focus(omega));clear hS;intro v w hS;(have hv:=hS.rowVal;obtain⟨va,vc,rfl⟩:=hv);refine frS ?_|(with_reducible apply DP7);rfl;rfl;rfl;rfl;kernel_rfl;exact eqI _ _ _ _ _ _ _ _;rw[h4];simp only[Bool.not_true,Bool.not_false];simp only[Act.put,fA,fB,fC,Nat.reduceAdd,eP,It.cells]|refine zl1 hS ?_|refine zlN hS ?_|refine zs1 hS ?_;clear hS;intro w hS)
    all_goals go_end0
    all_goals refine⟨rfl,.slice va (0+p+1+(H.length-p)) vc,?_⟩
    all_goals rw[E.out]
    all_goals unfold xvL hdR
    all_goals rw[KE7 H p p _ (by omega),Iu7]
    all_goals have hS1:St W (row (.slice va (0+p+1+(H.length-p)) vc) 5 171 (0+p+1+(H.length-p)) ([]++(H.take p).flatMap Hd.cells++Hd.cells ⟨k,⟨x0,x1,x2,x3⟩⟩++(H.drop p).flatMap Hd.cells)::_) w:=hS
    all_goals exact hS1.s _
end Go.Proofs.YtienbkdjkjbelaaGreat
end
