/-
  Cut.
-/
import Derived.Test.YtlmhakmoioogaaaGreatEconCuM5
import Derived.Test.YtlmhakmoioogaaaGreatEconCuM49
set_option maxHeartbeats 16000000
set_option maxRecDepth 100000
set_option linter.unusedSimpArgs false
set_option linter.unusedVariables false
section
namespace Go.Sl
open Go.RowKit
section
variable{κ ν:Type}[DecidableEq κ]
theorem Si7{A B:List (κ×ν)}{y:κ×ν}(hn:((A++y::B).map (·.1)).Nodup):j6 (A++y::B) y.1=A++B:=by
 rw[List.map_append,List.map_cons,List.nodup_append]at hn;obtain⟨_,h2,h3⟩:=hn;rw[List.nodup_cons]at h2;have hA:j6 A y.1=A:=Bk7 fun x hx e=>h3 x.1 (List.mem_map_of_mem hx) y.1 (List.mem_cons_self ..) e
 have hB:j6 B y.1=B:=Bk7 fun x hx e=>h2.1 (List.mem_map.2 ⟨x,hx,e⟩)
 unfold j6 at hA hB ⊢;rw[List.filter_append,List.filter_cons,if_neg (by simp),hA,hB]
theorem EW7{p:κ×ν->Bool}{done todo todo' l:List (κ×ν)}{y:κ×ν}(hn:(l.map (·.1)).Nodup)(h:(done++todo).Perm l)(h2:todo.Perm (y::todo')):
  (done++[y]++todo').Perm l/\(∀x∈todo',x.1≠y.1)/\(∀x∈done,x.1≠y.1)/\(p y=true->(j6 (done.filter (fun x=>!p x)++todo) y.1).Perm ((done++[y]).filter (fun x=>!p x)++todo'))/\(p y=false->(done.filter (fun x=>!p x)++todo).Perm ((done++[y]).filter (fun x=>!p x)++todo')):=by
 have h3:(done++[y]++todo').Perm l:=by rw[jS];exact(List.Perm.append_left done h2.symm).trans h
 have hn2:((done++y::todo').map (·.1)).Nodup:=by
  have e:done++[y]++todo'=done++y::todo':=by simp
  rw[<-e];exact(h3.map _).nodup_iff.2 hn
 have hn3:=hn2;rw[List.map_append,List.map_cons,List.nodup_append]at hn3;obtain⟨_,g2,g3⟩:=hn3;rw[List.nodup_cons]at g2;have hpm:(done.filter (fun x=>!p x)++todo).Perm (done.filter (fun x=>!p x)++y::todo'):=List.Perm.append_left _ h2;refine⟨h3,fun x hx e=>g2.1 (List.mem_map.2 ⟨x,hx,e⟩),fun x hx e=>g3 x.1 (List.mem_map_of_mem hx) y.1 (List.mem_cons_self ..) e,fun hy=>?_,fun hy=>?_⟩
 ·refine(CW7 hpm _).trans ?_;rw[Si7]
  ·rw[List.filter_append,List.filter_cons,if_neg (by rw[hy];simp)];simp
  ·refine hn2.sublist ?_;exact(List.Sublist.append List.filter_sublist (List.Sublist.refl _)).map _
 ·refine hpm.trans ?_;rw[List.filter_append,List.filter_cons,if_pos (by rw[hy];simp)];simp
end
end Go.Sl
namespace Go.Proofs.YtlmhakmoioogaaaGreat
open Go.RowKit Go.Sl
def inE(e:Ec)(f t:ByteArray):Ec:=⟨e.vs.filter fun x=>inB f t x.1,e.ss,e.ts.filter fun x=>inB f t x.2.ak,e.ar⟩
def aS4(e:Ec)(f t:ByteArray):Ec:=⟨e.vs.filter fun x=>!inB f t x.1,e.ss,e.ts.filter fun x=>!inB f t x.2.ak,e.ar⟩
theorem eK4{A B:Ev}{W w:World}{R:List HP}(h:St W (j8 (A++B)::R) w):St W (j8 A::j8 B::R) w:=
 St.split (h.imp fun f hf=>ct4 (by have h1:sats ((A++B).map fun x=>H6 x.2.1 x.2.2) f:=hf;rwa [List.map_append]at h1))
theorem fd4{A B:Ev}{W w:World}{R:List HP}(h:St W (j8 A::j8 B::R) w):St W (j8 (A++B)::R) w:=
 (St.join h).imp fun f hf=>by
  have h1:=cs4 hf;show sats ((A++B).map fun x=>H6 x.2.1 x.2.2) f
  rwa [List.map_append]
def ce4{κ ν:Type}(ek:κ->Value)(ev:ν->Value)(v:Value)(l:List (κ×ν)):HP:=fun f=>∃b:Nat,v=.map (some b)/\d8 ek ev b l f
section
variable{κ ν:Type}{ek:κ->Value}{ev:ν->Value}{l:List (κ×ν)}{W w:World}{R:List HP}{v:Value}
theorem cI4(h:St W (ce4 ek ev v l::R) w):∃b,v=.map (some b)/\St W (d8 ek ev b l::R) w:=by obtain⟨b,h⟩:=St.ex h;obtain⟨h1,h⟩:=St.and h;exact⟨b,h1,h⟩
theorem dn4{b:Nat}(h:St W (d8 ek ev b l::R) w):St W (ce4 ek ev (.map (some b)) l::R) w:=St.mkEx b (St.mkAnd rfl h)
end
theorem dJ4{κ ν:Type}{ek:κ->Value}{ev:ν->Value}{l:List (κ×ν)}{W w:World}{L R:List HP}{v:Value}(h:St W L w)(hu:Take L (ce4 ek ev v l) R):v.cells.toList=[v]/\v.oneCell'=true:=by obtain⟨b,rfl,_⟩:=cI4 (h.take hu);exact⟨rfl,rfl⟩
theorem MH7{b:Nat}{l:List (Int×(Int×Rpl))}{W w:World}{L R:List HP}(ht:Take L (d8 eI eSs b l) R)(hS:St W L w):
  Calls Tryz.prog 59 #[.map (some b)] w fun e w'=>∃v,e=.returned v/\St W (ce4 eI eSs v l::L) w':=by
 refine(Jq7 (hS.take ht)).mono ?_;rintro e w' ⟨b',rfl,hS⟩;exact⟨_,rfl,dn4 (hS.swap.back (.tail ht))⟩
theorem MI7{b:Nat}{l:List ((Int×Int)×Unit)}{W w:World}{L R:List HP}(ht:Take L (d8 eW eU b l) R)(hS:St W L w):
  Calls Tryz.prog 60 #[.map (some b)] w fun e w'=>∃v,e=.returned v/\St W (ce4 eW eU v l::L) w':=by
 refine(Jr7 (hS.take ht)).mono ?_;rintro e w' ⟨b',rfl,hS⟩;exact⟨_,rfl,dn4 (hS.swap.back (.tail ht))⟩
theorem QZ7{κ ν:Type}[DecidableEq κ]{p:κ×ν->Bool}{done:List (κ×ν)}{k:κ}{u:ν}(h:∀x∈done,x.1≠k)(hp:p (k,u)=true):((k,u)::j6 (done.filter p) k).Perm ((done++[(k,u)]).filter p):=by rw[Bk7 (fun x hx=>h x (List.mem_filter.1 hx).1),List.filter_append,List.filter_cons,if_pos hp];exact(List.perm_append_singleton _ _).symm
theorem Js7{κ ν:Type}{p:κ×ν->Bool}{done:List (κ×ν)}{y:κ×ν}(hp:p y=false):done.filter p=(done++[y]).filter p:=by rw[List.filter_append,List.filter_cons,if_neg (by rw[hp];simp)];simp
def CuR{κ ν:Type}(W:World)(F:List HP)(ek:κ->Value)(ev:ν->Value)(p:κ×ν->Bool)(l0:List (κ×ν))(m n r:Nat)(w:World):Prop:=
 ∃done todo:List (κ×ν),(done++todo).Perm l0/\St W (itR ek ev r m (done.filter (fun y=>!p y)++todo) todo::d8 ek ev n (done.filter p)::F) w
theorem GD7(E:Ev)(p:ByteArray->Bool):(i7 E).filter (fun y=>p y.1)=i7 (E.filter fun x=>p x.1):=by unfold i7;rw[List.filter_map];rfl
theorem Cq7(E:Ev)(p:ByteArray->Bool):(k8 E).filter (fun y=>p y.1)=k8 (E.filter fun x=>p x.1):=by unfold k8;rw[List.filter_map];rfl
theorem GE7{α:Type}(p:α->Bool)(l:List α):l.Perm (l.filter p++l.filter fun x=>!p x):=(List.filter_append_perm p l).symm
theorem Qr7{eb:Nat}{e:Ec}(f t:ByteArray)(W w:World)(R:List HP)(hS:St W (ecP eb e::R) w):
  Calls Tryz.prog 24 #[.P eb,.agg #[.string f,.string t]] w fun x w'=>∃fb,x=.returned (.P fb)/\St W (ecP eb (aS4 e f t)::ecP fb (inE e f t)::R) w':=by
 go_enter Tryz.func24,Tryz.ntmps24;go_wp2_with(first|refine zbx hS ?_;clear hS;intro bO w hS|go_at_call 15;refine(Gq7 W _ _ hS).mono ?_;clear hS;rintro x w ⟨fb,rfl,hS⟩);obtain⟨n1,n2,n3,n4,F,hpF,hS1⟩:=dM4 hS;have hF:F=[]:=by have:=hpF.length_eq;unfold k8 at this;rw[jM]at this;exact List.eq_nil_of_length_eq_zero this
 subst hF;have hS2:St W (ecP eb e::ebB fb n1 n2 n3 n4::d8 eS eN n1 (i7 [])::j8 []::d8 eI eSs n2 []::d8 eW eTn n3 []::d8 eW eU n4 []::blk bO [.string f,.string t] 54::R) w:=hS1.s _;obtain⟨m1,m2,m3,m4,E,hp,hnd,hS3⟩:=N9 hS2;have hS4:=B9 hS3;clear hS hS1 hS2 hS3 hpF;have hS:=hS4.s (ebB fb n1 n2 n3 n4::d8 eI eSs m2 e.ss::d8 eW eU m4 e.ar::ebB eb m1 m2 m3 m4::d8 eS eN m1 (i7 E)::j8 E::d8 eW eTn m3 e.ts::d8 eS eN n1 (i7 [])::d8 eW eTn n3 []::blk bO [.string f,.string t] 54::R);clear hS4;have Hp:=jH hp;clear hp;refine rf3 [0,0,0,4,12,28,60,0,128,384,896,2044,4093,8189,16381,32767,65535,131071] (fun i=>i==6||i==11) (fun _=>none) [⟨some 6,none,fun nd=>ce4 eI eSs (nd 6) e.ss⟩,⟨some 11,none,fun nd=>ce4 eW eU (nd 11) e.ar⟩,⟨some 14,some 17,fun nd=>blk fb [.map (some n1),nd 6,.map (some n3),.map (some n4)] 84⟩,⟨some 17,none,fun nd=>blk fb [.map (some n1),nd 6,.map (some n3),nd 11] 84⟩] [some 14,none,none,none,none,none,none,none,none,none] hS ?_;intro nd
 iterate 3 (refine cR ?_)
 (refine zcn ?_);refine cR ?_;refine zc1 ?_;apply AA7;rfl;rfl;rfl;decide +kernel;(focus(simp only[fD,fI,fJ,Act.eval,fE,fF,fG,fH,fK];try rfl));(intro _;rfl);(intro F w hS;exact MH7 (by exact r6) hS);(refine frS ?_);refine cR ?_;refine zcn ?_;refine cR ?_;refine zc1 ?_;apply AA7;rfl;rfl;rfl;decide +kernel;(focus(simp only[fD,fI,fJ,Act.eval,fE,fF,fG,fH,fK];try rfl));(intro _;rfl);(intro F w hS;exact MI7 (by exact r6) hS);(refine frS ?_);refine zcn ?_;refine cR ?_;(apply EZ7;rfl;rfl;rfl;rfl;(focus((conv=>lhs;whnf);try rfl));kernel_rfl;rfl;intro F w hS;exact dJ4 (ek:=eI) (ev:=eSs) hS (by exact r6);(focus(simp));rfl;rfl;try(refine frS ?_));refine zcn ?_;refine cR ?_;(apply EZ7;rfl;rfl;rfl;rfl;(focus((conv=>lhs;whnf);try rfl));kernel_rfl;rfl;intro F w hS;exact dJ4 (ek:=eW) (ev:=eU) hS (by exact r6);(focus(simp));rfl;rfl;try(refine frS ?_));refine Ad7 ?_;clear hS;intro w hS;have hS2:St W [ce4 eI eSs (nd 6) e.ss,ce4 eW eU (nd 11) e.ar,blk fb [.map (some n1),nd 6,.map (some n3),nd 11] 84,d8 eI eSs m2 e.ss,d8 eW eU m4 e.ar,ebB eb m1 m2 m3 m4,d8 eS eN m1 (i7 E),j8 E,d8 eW eTn m3 e.ts,d8 eS eN n1 (i7 []),d8 eW eTn n3 [],blk bO [.string f,.string t] 54,sats R] w:=hS;clear hS;have hS3:=hS2.unpack [_,_,_,_,_,_,_,_,_,_,_,_];clear hS2;simp only[jK,jN]at hS3;generalize nd 6=v6 at *;generalize nd 11=v11 at *;obtain⟨b2,rfl,hS4⟩:=cI4 hS3;have hS5:=hS4.s (ce4 eW eU v11 e.ar::d8 eI eSs b2 e.ss::blk fb [.map (some n1),.map (some b2),.map (some n3),v11] 84::d8 eI eSs m2 e.ss::d8 eW eU m4 e.ar::ebB eb m1 m2 m3 m4::d8 eS eN m1 (i7 E)::j8 E::d8 eW eTn m3 e.ts::d8 eS eN n1 (i7 [])::d8 eW eTn n3 []::blk bO [.string f,.string t] 54::R);obtain⟨b4,rfl,hS6⟩:=cI4 hS5
 have hS7:=hS6.s (d8 eS eN m1 (i7 E)::d8 eS eN n1 (i7 [])::blk fb [.map (some n1),.map (some b2),.map (some n3),.map (some b4)] 84::d8 eI eSs b2 e.ss::d8 eW eU b4 e.ar::d8 eI eSs m2 e.ss::d8 eW eU m4 e.ar::ebB eb m1 m2 m3 m4::j8 E::d8 eW eTn m3 e.ts::d8 eW eTn n3 []::blk bO [.string f,.string t] 54::R);have hS:St W (d8 eS eN m1 (i7 E)::d8 eS eN n1 []::ebB fb n1 b2 n3 b4::d8 eI eSs b2 e.ss::d8 eW eU b4 e.ar::d8 eI eSs m2 e.ss::d8 eW eU m4 e.ar::ebB eb m1 m2 m3 m4::j8 E::d8 eW eTn m3 e.ts::d8 eW eTn n3 []::blk bO [.string f,.string t] 54::R) w:=hS7;clear hS7;clear hS3 hS4 hS5 hS6;have hnk:=A5 hS;have Hnk:=jH hnk;clear hnk hnd;go_wp2_with(first|refine zl1 hS ?_|(with_reducible apply Bo7 (ek:=eS) (ev:=eN) hS);rfl;rfl;rfl;exact mV;exact i6;clear hS;intro r w hS;refine frS ?_)
 go_loopw [] (fun wr=>CuR W (ebB fb n1 b2 n3 b4::d8 eI eSs b2 e.ss::d8 eW eU b4 e.ar::d8 eI eSs m2 e.ss::d8 eW eU m4 e.ar::ebB eb m1 m2 m3 m4::j8 E::d8 eW eTn m3 e.ts::d8 eW eTn n3 []::blk bO [.string f,.string t] 54::R) eS eN (fun y=>inB f t y.1) (i7 E) m1 n1 r wr) (fun wr=>aq4 r m1 wr)
 case atStart=>exact⟨[],i7 E,List.Perm.refl _,hS⟩
 case round=>
  clear hS;obtain⟨done,todo,hdt,hS⟩:=hrel;have hm1:=An7 hS;by_cases ht:todo=[]
  ·have Hdt:=jH (show done.Perm (i7 E)by rw[ht,List.append_nil]at hdt;exact hdt);have hde:=Hdt.out;have hA:(done.filter (fun y=>inB f t y.1)).Perm (i7 (E.filter fun x=>inB f t x.1)):=by rw[<-GD7];exact hde.filter _
   have hB:(done.filter (fun y=>!inB f t y.1)++todo).Perm (i7 (E.filter fun x=>!inB f t x.1)):=by rw[ht,List.append_nil,<-GD7 (p:=fun k=>!inB f t k)];exact hde.filter _
   have hpA:(k8 (E.filter fun x=>inB f t x.1)).Perm (inE e f t).vs:=by rw[<-Cq7];exact Hp.out.filter _
   have hpB:(k8 (E.filter fun x=>!inB f t x.1)).Perm (aS4 e f t).vs:=by rw[<-Cq7 (p:=fun k=>!inB f t k)];exact Hp.out.filter _
   have hpE:=GE7 (fun x:ByteArray×(Nat×Vs)=>inB f t x.1) E;clear hdt hde hm1;have h1:=cV4 hB (List.Perm.of_eq ht) hS;have h2:=I7 hA (h1.s (d8 eS eN n1 _::itR eS eN r m1 _ []::ebB fb n1 b2 n3 b4::d8 eI eSs b2 e.ss::d8 eW eU b4 e.ar::d8 eI eSs m2 e.ss::d8 eW eU m4 e.ar::ebB eb m1 m2 m3 m4::j8 E::d8 eW eTn m3 e.ts::d8 eW eTn n3 []::blk bO [.string f,.string t] 54::R));have h3:=eK4 (aE4 hpE (h2.s (j8 E::itR eS eN r m1 _ []::d8 eS eN n1 _::ebB fb n1 b2 n3 b4::d8 eI eSs b2 e.ss::d8 eW eU b4 e.ar::d8 eI eSs m2 e.ss::d8 eW eU m4 e.ar::ebB eb m1 m2 m3 m4::d8 eW eTn m3 e.ts::d8 eW eTn n3 []::blk bO [.string f,.string t] 54::R)));clear hS h1 h2 hA hB hpE;generalize (E.filter fun x=>inB f t x.1)=A at h3 hpA;generalize (E.filter fun x=>!inB f t x.1)=B at h3 hpB;have hS:=h3.s (d8 eW eTn m3 e.ts::d8 eW eTn n3 []::itR eS eN r m1 (i7 B) []::d8 eS eN n1 (i7 A)::j8 A::j8 B::ebB fb n1 b2 n3 b4::ebB eb m1 m2 m3 m4::d8 eI eSs b2 e.ss::d8 eW eU b4 e.ar::d8 eI eSs m2 e.ss::d8 eW eU m4 e.ar::blk bO [.string f,.string t] 54::R);have ht:=rfl (a:=([]:List (ByteArray×Nat)));have HpA:=jH hpA;have HpB:=jH hpB;clear h3 hpA hpB;have hnk2:=A5 hS;have Hnk2:=jH hnk2;clear hnk2;go_wp2_with(first|refine zl1 hS ?_|(with_reducible apply Bq7 (ek:=eS) (ev:=eN) hS);rfl;rfl;rfl;exact i6;exact ht;refine frS ?_|(with_reducible apply Bo7 (ek:=eW) (ev:=eTn) hS);rfl;rfl;rfl;exact mT;exact i6;clear hS;intro r2 w hS;refine frS ?_)
   go_loopw [] (fun wr=>CuR W (itR eS eN r m1 (i7 B) []::d8 eS eN n1 (i7 A)::j8 A::j8 B::ebB fb n1 b2 n3 b4::ebB eb m1 m2 m3 m4::d8 eI eSs b2 e.ss::d8 eW eU b4 e.ar::d8 eI eSs m2 e.ss::d8 eW eU m4 e.ar::blk bO [.string f,.string t] 54::R) eW eTn (fun y=>inB f t y.2.ak) e.ts m3 n3 r2 wr) (fun wr=>aq4 r2 m3 wr)
   case atStart=>exact⟨[],e.ts,List.Perm.refl _,hS⟩
   case round=>
    clear hS;obtain⟨done2,todo2,hdt2,hS⟩:=hrel;have hm2:=An7 hS;by_cases ht2:todo2=[]
    ·have hde2:done2.Perm e.ts:=by rw[ht2,List.append_nil]at hdt2;exact hdt2
     have hA2:(done2.filter (fun y=>inB f t y.2.ak)).Perm (inE e f t).ts:=hde2.filter _;have hB2:(done2.filter (fun y=>!inB f t y.2.ak)++todo2).Perm (aS4 e f t).ts:=by rw[ht2,List.append_nil];exact hde2.filter _
     have HA2:=jH hA2;have HB2:=jH hB2;clear hdt2 hde2 hm2 hA2 hB2;go_wp2_with(first|(with_reducible apply Bq7 (ek:=eW) (ev:=eTn) hS);rfl;rfl;rfl;exact i6;exact ht2;refine frS ?_);go_ret;have h1:=I7 HB2.out (bh4 hS);have h2:=I7 HA2.out (h1.s (d8 eW eTn n3 _::d8 eW eTn m3 _::itR eS eN r m1 (i7 B) []::d8 eS eN n1 (i7 A)::j8 A::j8 B::ebB fb n1 b2 n3 b4::ebB eb m1 m2 m3 m4::d8 eI eSs b2 e.ss::d8 eW eU b4 e.ar::d8 eI eSs m2 e.ss::d8 eW eU m4 e.ar::blk bO [.string f,.string t] 54::R));have h3:=bh4 (h2.s (itR eS eN r m1 (i7 B) []::d8 eW eTn n3 _::d8 eW eTn m3 _::d8 eS eN n1 (i7 A)::j8 A::j8 B::ebB fb n1 b2 n3 b4::ebB eb m1 m2 m3 m4::d8 eI eSs b2 e.ss::d8 eW eU b4 e.ar::d8 eI eSs m2 e.ss::d8 eW eU m4 e.ar::R));have h4:=K9 (e:=aS4 e f t) HpB.out (h3.s (ebB eb m1 m2 m3 m4::d8 eS eN m1 (i7 B)::j8 B::d8 eI eSs m2 e.ss::d8 eW eTn m3 _::d8 eW eU m4 e.ar::d8 eW eTn n3 _::d8 eS eN n1 (i7 A)::j8 A::ebB fb n1 b2 n3 b4::d8 eI eSs b2 e.ss::d8 eW eU b4 e.ar::R));have h5:=K9 (e:=inE e f t) HpA.out (h4.s (ebB fb n1 b2 n3 b4::d8 eS eN n1 (i7 A)::j8 A::d8 eI eSs b2 e.ss::d8 eW eTn n3 _::d8 eW eU b4 e.ar::ecP eb (aS4 e f t)::R));exact⟨fb,rfl,h5.swap⟩
    ·have hcut:∀(y:(Int×Int)×Tns) (todo':List ((Int×Int)×Tns)),todo2.Perm (y::todo')->_:=fun y todo' h=>EW7 (p:=fun y=>inB f t y.2.ak) Hnk2.out hdt2 h
     have Hcut:=jH hcut;have Hm2:=jH hm2;clear hdt2 hm2 hcut;go_wp2_with(first|(with_reducible apply Br7 (ek:=eW) (ev:=eTn) hS);rfl;rfl;rfl;exact i6;exact ht2;clear hS;intro y todo2' hy1 hy2 w hS;obtain⟨⟨kc,kq⟩,⟨t0,t1,t2,t3,t4,t5,t6,t7⟩⟩:=y;have Hy:=jH hy1;clear hy1 hy2;refine frS ?_|(with_reducible apply Bp7 (ek:=eW) (ev:=eTn) hS);rfl;rfl;rfl;exact i6;clear hS;intro hS;refine frS ?_|refine zal hS ?_;clear hS;intro b w hS|refine zsN hS ?_;clear hS;intro w hS|refine zlN hS ?_|refine zl1 hS ?_);obtain⟨c1,c2,c3,c4,c5⟩:=Hcut.out _ _ Hy.out;have Hnt:=jH c2;have hlen:todo2.length=todo2'.length+1:=by have:=Hy.out.length_eq;rwa [jC]at this
     have Hlen:=jH hlen;clear hlen
     cases hb:inB f t t2 with
     | true=>
      refine(LC7 hb W _ _ hS).mono ?_;clear hS;rintro x w ⟨rfl,hS⟩;have H1:=jH c1;have H3:=jH c3;have H4:=jH (c4 hb);have Hb:=jH hb;clear c1 c2 c3 c4 c5 hb;go_wp2_with fail;refine rt 6 hS ?_
      repeat(first|refine zq1 ?_|refine zqN ?_|refine zqn ?_|refine qR ?_)
      clear hS;intro w hS;simp only[jD,List.drop_zero];go_wp2_with(first|((with_reducible apply Bg7 (ek:=eW) (ev:=eTn) (k:=(kc,kq)) (u:=(⟨t0,t1,t2,t3,t4,t5,t6,t7⟩:Tns)) hS);rfl;rfl;rfl;rfl;exact i6;(focus(rfl));exact mT;exact kW;clear hS;intro w hS;try(refine frS ?_)));refine rt 5 hS ?_
      repeat(first|refine zq1 ?_|refine zqN ?_|refine zqn ?_|refine qR ?_)
      clear hS;intro w hS;simp only[jD,List.drop_zero];go_wp2_with(first|((with_reducible apply Ni7 (ek:=eW) (ev:=eTn) (k:=(kc,kq)) hS);rfl;rfl;rfl;rfl;exact i6;exact mT;exact kW;exact Hnt.out;clear hS;intro w hS;try(refine frS ?_)));go_roundw
      case rel=>
       refine⟨done2++[((kc,kq),⟨t0,t1,t2,t3,t4,t5,t6,t7⟩)],todo2',H1.out,?_⟩;have h1:=I7 (QZ7 (p:=fun y:(Int×Int)×Tns=>inB f t y.2.ak) H3.out Hb.out) (hS.s (d8 eW eTn n3 _::itR eW eTn r2 m3 (j6 (done2.filter (fun y=>!inB f t y.2.ak)++todo2) (kc,kq)) todo2'::itR eS eN r m1 (i7 B) []::d8 eS eN n1 (i7 A)::j8 A::j8 B::ebB fb n1 b2 n3 b4::ebB eb m1 m2 m3 m4::d8 eI eSs b2 e.ss::d8 eW eU b4 e.ar::d8 eI eSs m2 e.ss::d8 eW eU m4 e.ar::blk bO [.string f,.string t] 54::R));exact cV4 H4.out (List.Perm.refl _) h1.swap
      case measure=>
       have h3:=An7 (hS.take (by exact i6));have h5:=Hm2.out;have h6:=Hlen.out;omega
     | false=>
      refine(LC7 hb W _ _ hS).mono ?_;clear hS;rintro x w ⟨rfl,hS⟩;have H1:=jH c1;have H5:=jH (c5 hb);have Hb:=jH hb;clear c1 c2 c3 c4 c5 hb;go_wp2_with(fail);go_roundw
      case rel=>
       refine⟨done2++[((kc,kq),⟨t0,t1,t2,t3,t4,t5,t6,t7⟩)],todo2',H1.out,?_⟩;rw[<-Js7 (p:=fun y:(Int×Int)×Tns=>inB f t y.2.ak) Hb.out];exact cV4 H5.out (List.Perm.refl _) (hS.s _)
      case measure=>
       have h3:=An7 (hS.take (by exact i6));have h5:=Hm2.out;have h6:=Hlen.out;omega
  ·have hcut:∀(y:ByteArray×Nat) (todo':List (ByteArray×Nat)),todo.Perm (y::todo')->_:=fun y todo' h=>EW7 (p:=fun y=>inB f t y.1) Hnk.out hdt h
   have Hcut:=jH hcut;have Hm1:=jH hm1;clear hdt hm1 hcut;go_wp2_with(first|(with_reducible apply Br7 (ek:=eS) (ev:=eN) hS);rfl;rfl;rfl;exact i6;exact ht;clear hS;intro y todo' hy1 hy2 w hS;obtain⟨yk,yb⟩:=y;have Hy:=jH hy1;clear hy1 hy2;refine frS ?_|(with_reducible apply Bp7 (ek:=eS) (ev:=eN) hS);rfl;rfl;rfl;exact i6;clear hS;intro hS;refine frS ?_|refine zlN hS ?_);obtain⟨c1,c2,c3,c4,c5⟩:=Hcut.out _ _ Hy.out;have Hnt:=jH c2;have hlen:todo.length=todo'.length+1:=by have:=Hy.out.length_eq;rwa [jC]at this
   have Hlen:=jH hlen;clear hlen
   cases hb:inB f t yk with
   | true=>
    refine(LC7 hb W _ _ hS).mono ?_;clear hS;rintro x w ⟨rfl,hS⟩;have H1:=jH c1;have H3:=jH c3;have H4:=jH (c4 hb);have Hb:=jH hb;clear c1 c2 c3 c4 c5 hb;go_wp2_with(first|refine zl1 hS ?_|((with_reducible apply Bg7 (ek:=eS) (ev:=eN) (k:=yk) (u:=yb) hS);rfl;rfl;rfl;rfl;exact i6;(focus(rfl));exact mV;exact kS;clear hS;intro w hS;try(refine frS ?_))|((with_reducible apply Ni7 (ek:=eS) (ev:=eN) (k:=yk) hS);rfl;rfl;rfl;rfl;exact i6;exact mV;exact kS;exact Hnt.out;clear hS;intro w hS;try(refine frS ?_)));go_roundw
    case rel=>
     refine⟨done++[(yk,yb)],todo',H1.out,?_⟩;have h1:=I7 (QZ7 (p:=fun y:ByteArray×Nat=>inB f t y.1) H3.out Hb.out) (hS.s (d8 eS eN n1 _::itR eS eN r m1 (j6 (done.filter (fun y=>!inB f t y.1)++todo) yk) todo'::ebB fb n1 b2 n3 b4::d8 eI eSs b2 e.ss::d8 eW eU b4 e.ar::d8 eI eSs m2 e.ss::d8 eW eU m4 e.ar::ebB eb m1 m2 m3 m4::j8 E::d8 eW eTn m3 e.ts::d8 eW eTn n3 []::blk bO [.string f,.string t] 54::R));exact cV4 H4.out (List.Perm.refl _) h1.swap
    case measure=>
     have h3:=An7 (hS.take (by exact i6));have h5:=Hm1.out;have h6:=Hlen.out;omega
   | false=>
    refine(LC7 hb W _ _ hS).mono ?_;clear hS;rintro x w ⟨rfl,hS⟩;have H1:=jH c1;have H5:=jH (c5 hb);have Hb:=jH hb;clear c1 c2 c3 c4 c5 hb;go_wp2_with(fail);go_roundw
    case rel=>
     refine⟨done++[(yk,yb)],todo',H1.out,?_⟩;rw[<-Js7 (p:=fun y:ByteArray×Nat=>inB f t y.1) Hb.out];exact cV4 H5.out (List.Perm.refl _) (hS.s _)
    case measure=>
     have h3:=An7 (hS.take (by exact i6));have h5:=Hm1.out;have h6:=Hlen.out;omega
end Go.Proofs.YtlmhakmoioogaaaGreat
end
