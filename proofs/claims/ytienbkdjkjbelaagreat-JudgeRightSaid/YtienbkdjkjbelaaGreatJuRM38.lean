/-
  The document's economy.
-/
import Derived.Test.YtienbkdjkjbelaaGreatJuRM5
import Derived.Test.YtienbkdjkjbelaaGreatJuRM37
set_option maxHeartbeats 16000000
set_option maxRecDepth 100000
set_option linter.unusedSimpArgs false
set_option linter.unusedVariables false
section
namespace Go.Sl
open Go.RowKit
section
variable{P:Program}{ops:Array Oper}{Q:Exit->Act->World->Prop}{a:Act}{w:World}{rest:List Oper}{o:Oper}
theorem Ov7{t:TypeId}{x y:Operand}{u i v:Value}(ho:o.op=.indexAddr t x y)(hg:Region.wanted o (yielded ops a.tmps)=true)(hx:a.eval x=u)(hy:a.eval y=i)(hr:∀w:World,(Instr.indexAt t u i).run P w=.ok v w)
  (h:wpList P ops Q rest (a.put o.dst v) w):wpList P ops Q (o::rest) a w:=by
 refine Ar7 hg (v:=v) (w':=w) ?_ h;unfold execOp;simp only[ho,hx,hy,Sem.run_bind,hr,Result.andThen_ok,Sem.run_pure]
end
end Go.Sl
namespace Go.Proofs.YtienbkdjkjbelaaGreat
open Go.RowKit Go.Sl
theorem bH4{vb xB:Nat}{V:Vs}{W w:World}{R:List HP}(h:St W (xvP vb (.P xB) V.n V.ps::xkP xB V.L V.n::R) w):St W (dvP vb V::R) w:=St.mkEx xB (St.shutS [_,_] h)
theorem di4{vb:Nat}{V:Vs}{W w:World}{R:List HP}(h:St W (dvP vb V::R) w):∃xB,St W (xvR vb xB V.ps V.L V.n R) w:=by obtain⟨xB,h⟩:=St.ex h;exact⟨xB,h.openS⟩
theorem ixR(g c:Nat)(w:World):(Instr.indexAt 81 (.S g 1 c) (.I 0)).run Tryz.prog w=.ok (.P g) w:=by kernel_rfl
theorem HH7:∀l:Ev,(l.flatMap rwC).all (·.oneCell')=true
 | []=>rfl
 | x::l=>by rw[List.flatMap_cons,List.all_append,HH7 l];rfl
theorem Ji7(D:Ev)(k:ByteArray){p:Nat}(hp:plI ltB D k=p)(hb:plB ltB D k=true)(hpl:p<D.length){vb:Nat}{V:Vs}(hx:D[p]=(k,(vb,V)))(xb:Nat)(v1 v2 v3 v4:Value)(W w:World)(R:List HP)(hS:St W (xeB xb v1 v2 v3 v4::xrP v1 D::R) w):
  Calls Tryz.prog 57 #[.P xb,.string k] w fun e w'=>e=.returned (.P vb)/\St W (xeB xb v1 v2 v3 v4::xrP v1 D::R) w':=by
 obtain⟨a,cap,rfl⟩:=hS.drop.rowVal;obtain⟨⟨g,rfl⟩,_,_⟩:=St.rowAddr hS.drop (by omega);have hv:∀{K K':List HP},Take K (xrP (.S g D.length cap) D) K'->i6 K g (p*2+1) (.P vb):=fun hu=>d8.elemM (enc:=rwC) BK7 hu hpl 1 _ (by rw[hx];rfl)
 have Hp:=jH hp;have Hb:=jH hb;clear hx hp hb;go_enter Tryz.func57,Tryz.ntmps57;go_wp2_with(first|go_at_call 97;refine(FN7 Hp.out Hb.out xb _ v2 v3 v4 W _ _ hS).mono ?_;clear hS;rintro e w ⟨rfl,hS⟩|refine zl1 hS ?_|refine zl1 hS ?_ (hc:=by exact hv (by exact i7)));go_ret;exact⟨rfl,hS⟩
theorem KL7(D:Ev)(hD:D.length<=1000000)(k:ByteArray){p:Nat}(hp:plI ltB D k=p)(hb:plB ltB D k=false)(xb:Nat)(v1 v2 v3 v4:Value)(W w:World)(R:List HP)(hS:St W (xeB xb v1 v2 v3 v4::xrP v1 D::R) w):
  Calls Tryz.prog 57 #[.P xb,.string k] w fun e w'=>∃vb r1,e=.returned (.P vb)/\St W (xeB xb r1 v2 v3 v4::xrP r1 (D.take p++(k,(vb,vs0))::D.drop p)::dvP vb vs0::R) w':=by
 obtain⟨a,cap,rfl⟩:=hS.drop.rowVal;have hpl:p<=D.length:=by rw[<-hp];exact GT7 _ _ _
 have Hp:=jH hp;have Hb:=jH hb;clear hp hb;go_enter Tryz.func57,Tryz.ntmps57
 rcases St.rowCase hS.drop with ⟨rfl,h0,rfl,hc0⟩|⟨g,rfl,hcap,hcn⟩
 ·have hH:D=[]:=List.eq_nil_of_length_eq_zero h0;subst hH;obtain rfl:p=0:=Nat.le_zero.1 hpl;have hcel:∀{K K':List HP} {g c vb:Nat},Take K (row (.S g 1 c) 2 137 1 [.string k,.P vb]) K'->i6 K g 1 (.P vb):=fun{K K' g c vb} hu=>d8.elemM (enc:=rwC) (xs:=[(k,(vb,vs0))]) (i:=0) BK7 hu Nat.zero_lt_one 1 _ rfl
  go_wp2_with(first|go_at_call 97;refine(FN7 Hp.out Hb.out xb _ v2 v3 v4 W _ _ hS).mono ?_;clear hS;rintro e w ⟨rfl,hS⟩|refine zl1 hS ?_|(with_reducible apply Bj7 (n:=0) hS);rfl;rfl;(focus(simp only[fD,fI,fJ,Act.eval,fE,fF,fG,fH,fK];try rfl));exact esS;exact rsS;rfl;rfl;rfl;rfl;rfl;decide;clear hS;intro bv w hS;refine frS ?_|(go_at_call 98;refine(eO4 W _ _ hS).mono ?_;clear hS;rintro e w ⟨vb,xB,rfl,hS⟩;replace hS:=bH4 (V:=vs0) hS;try simp only[Nat.zero_add]at hS)|refine zbs hS ?_;clear hS;intro bS w hS|(with_reducible apply Ae7 hS);rfl;rfl;rfl;rfl;exact esS;exact rsS;rfl;decide;exact i7;exact .inl ⟨rfl,rfl,rfl⟩;(focus(rfl));exact rfl;(focus(unfold maxLen;omega));(focus(omega));clear hS;intro v w hS;(have hv:=hS.rowVal;obtain⟨va,vc,rfl⟩:=hv);refine frS ?_|(with_reducible apply Ae7 hS);rfl;rfl;rfl;rfl;exact esS;exact rsS;rfl;decide;exact i7;exact Src.mk d8.whole;(focus(rfl));exact rfl;(focus(unfold maxLen;omega));(focus(omega));clear hS;intro v w hS;(have hv:=hS.rowVal;obtain⟨va,vc,rfl⟩:=hv);refine frS ?_|(refine zs1 hS ?_;clear hS;intro w hS);obtain⟨⟨ga,rfl⟩,hcp,hcm⟩:=St.rowAddr hS (by omega)|(with_reducible apply Ov7);rfl;rfl;rfl;rfl;intro w;exact ixR _ _ w;refine frS ?_|refine zl1 hS ?_ (hc:=by exact hcel (by exact i7)));go_ret;have hS1:St W (xrP (.S ga 1 vc) [(k,(vb,vs0))]::blk bS _ _::dvP vb vs0::blk xb _ _::_::R) _:=hS;have hS2:=hS1.s (xeB xb (.S ga 1 vc) v2 v3 v4::xrP (.S ga 1 vc) [(k,(vb,vs0))]::dvP vb vs0::R);exact⟨vb,.S ga 1 vc,rfl,hS2⟩
 ·have hcel:∀{K K':List HP} {g c vb:Nat},Take K (row (.S g (p+1+(D.length-p)) c) 2 137 (p+1+(D.length-p)) ([]++(D.take p).flatMap rwC++[.string k,.P vb]++(D.drop p).flatMap rwC)) K'->i6 K g (p*2+1) (.P vb):=by
   intro K K' g c vb hu;have e1:(D.take p++(k,(vb,vs0))::D.drop p).length=p+1+(D.length-p):=by have:=AU7 D p p (k,(vb,vs0)) hpl;omega
   have e2:=AJ7 rwC D p p (k,(vb,vs0));have hg:(D.take p++(k,(vb,vs0))::D.drop p)[p]? = some (k,(vb,vs0)):=by rw[List.getElem?_append_right (by rw[jT];omega),jT,Nat.min_eq_left hpl,Nat.sub_self];rfl
   have hu2:Take K (row (.S g (D.take p++(k,(vb,vs0))::D.drop p).length c) 2 137 (D.take p++(k,(vb,vs0))::D.drop p).length ((D.take p++(k,(vb,vs0))::D.drop p).flatMap rwC)) K':=by rw[e1,e2];exact hu
   obtain⟨hp1,hp2⟩:=List.getElem?_eq_some_iff.1 hg;exact d8.elemM (enc:=rwC) BK7 hu2 hp1 1 _ (by rw[hp2];rfl)
  go_wp2_with(first|go_at_call 97;refine(FN7 Hp.out Hb.out xb _ v2 v3 v4 W _ _ hS).mono ?_;clear hS;rintro e w ⟨rfl,hS⟩|refine zl1 hS ?_|(with_reducible apply Bj7 (n:=0) hS);rfl;rfl;(focus(simp only[fD,fI,fJ,Act.eval,fE,fF,fG,fH,fK];try rfl));exact esS;exact rsS;rfl;rfl;rfl;rfl;rfl;decide;clear hS;intro bv w hS;refine frS ?_|(go_at_call 98;refine(eO4 W _ _ hS).mono ?_;clear hS;rintro e w ⟨vb,xB,rfl,hS⟩;replace hS:=bH4 (V:=vs0) hS;try simp only[Nat.zero_add]at hS)|refine zbs hS ?_;clear hS;intro bS w hS|(with_reducible apply Ae7 hS);rfl;rfl;rfl;rfl;exact esS;exact rsS;rfl;decide;exact i7;exact Src.partM (by exact ax4) (x8 D (p));(focus(rw[Ab7 BK7,jT,Nat.min_eq_left (by omega)]));exact HH7 _;(focus(unfold maxLen;omega));(focus(omega));clear hS;intro v w hS;(have hv:=hS.rowVal;obtain⟨va,vc,rfl⟩:=hv);refine frS ?_|(with_reducible apply Ae7 hS);rfl;rfl;rfl;rfl;exact esS;exact rsS;rfl;decide;exact i7;exact Src.mk d8.whole;(focus(rfl));exact rfl;(focus(unfold maxLen;omega));(focus(omega));clear hS;intro v w hS;(have hv:=hS.rowVal;obtain⟨va,vc,rfl⟩:=hv);refine frS ?_|(with_reducible apply Ae7 hS);rfl;rfl;rfl;rfl;exact esS;exact rsS;rfl;decide;exact i7;exact Src.behindM (by exact ax4) (fun h=>⟨by omega,by rw[List.drop_eq_nil_of_le (by omega)];rfl⟩) (fun j u h=>B7 BK7 D (p) j u (by omega) h);(focus(rw[Ab7 BK7,List.length_drop]));exact HH7 _;(focus(unfold maxLen;omega));(focus(omega));clear hS;intro v w hS;(have hv:=hS.rowVal;obtain⟨va,vc,rfl⟩:=hv);refine frS ?_|(refine zs1 hS ?_;clear hS;intro w hS);obtain⟨⟨ga,rfl⟩,hcp,hcm⟩:=St.rowAddr hS (by omega)|refine zl1 hS ?_ (hc:=by exact hcel (by exact i7)))
  all_goals go_ret
  all_goals have e1:(D.take p++(k,(vb,vs0))::D.drop p).length=p+1+(D.length-p):=by have:=AU7 D p p (k,(vb,vs0)) hpl;omega
  all_goals refine⟨vb,rfl,.S ga (p+1+(D.length-p)) vc,?_⟩
  all_goals unfold xrP
  all_goals rw[e1,AJ7]
  all_goals have hS1:St W (row (.S ga (p+1+(D.length-p)) vc) 2 137 (p+1+(D.length-p)) ([]++(D.take p).flatMap rwC++rwC (k,(vb,vs0))++(D.drop p).flatMap rwC)::blk bS _ _::dvP vb vs0::blk xb _ _::_::R) _:=hS
  all_goals exact hS1.s _
def loA(D:Ev)(k:ByteArray):Ev:=D.take (plI ltB D k)
def hiA(D:Ev)(k:ByteArray):Ev:=D.drop (if plB ltB D k=true then plI ltB D k+1 else plI ltB D k)
def L9(xb:Nat)(v2 v3 v4:Value)(D:Ev):HP:=fun f=>∃r1:Value,sats [xeB xb r1 v2 v3 v4,xrP r1 D,C6 D] f
def M8(v:Value)(xb:Nat)(v2 v3 v4:Value)(A:Ev)(k:ByteArray)(V:Vs)(B:Ev):HP:=fun f=>∃vb:Nat,v=.P vb/\(fun f=>∃r1:Value,sats [xeB xb r1 v2 v3 v4,xrP r1 (A++(k,(vb,V))::B),dvP vb V,C6 (A++B)] f) f
section
variable{W w:World}{R:List HP}{xb:Nat}{v2 v3 v4:Value}{D A B:Ev}{k:ByteArray}{V:Vs}{v:Value}
theorem cI4{x:ByteArray×(Nat×Vs)}(h:St W (C6 (A++x::B)::R) w):St W (dvP x.2.1 x.2.2::C6 (A++B)::R) w:=by
 have h1:St W (C6 (x::(A++B))::R) w:=h.imp fun _=>DK7 (List.perm_middle.map _)
 exact St.split h1
theorem cJ4{x:ByteArray×(Nat×Vs)}(h:St W (dvP x.2.1 x.2.2::C6 (A++B)::R) w):St W (C6 (A++x::B)::R) w:=by have h1:St W (C6 (x::(A++B))::R) w:=St.join h;exact h1.imp fun _=>DK7 (List.perm_middle.symm.map _)
theorem aW4(h:St W (L9 xb v2 v3 v4 D::R) w):∃r1,St W (xeB xb r1 v2 v3 v4::xrP r1 D::C6 D::R) w:=by obtain⟨r1,h⟩:=St.ex h;exact⟨r1,h.openS⟩
theorem at4{r1:Value}(h:St W (xeB xb r1 v2 v3 v4::xrP r1 D::C6 D::R) w):St W (L9 xb v2 v3 v4 D::R) w:=St.mkEx r1 (St.shutS [_,_,_] h)
theorem aX4(h:St W (M8 v xb v2 v3 v4 A k V B::R) w):∃vb r1 xB,v=.P vb/\St W (xvR vb xB V.ps V.L V.n (xeB xb r1 v2 v3 v4::xrP r1 (A++(k,(vb,V))::B)::C6 (A++B)::R)) w:=by obtain⟨vb,h⟩:=St.ex h;obtain⟨h1,h⟩:=St.and h;obtain⟨r1,h⟩:=St.ex h;have h2:St W (xeB xb r1 v2 v3 v4::xrP r1 (A++(k,(vb,V))::B)::dvP vb V::C6 (A++B)::R) w:=h.openS;obtain⟨xB,h3⟩:=di4 (h2.s (dvP vb V::xeB xb r1 v2 v3 v4::xrP r1 (A++(k,(vb,V))::B)::C6 (A++B)::R));exact⟨vb,r1,xB,h1,h3⟩
theorem Mm7(vb:Nat)(V V':Vs):(A++(k,(vb,V))::B).flatMap rwC=(A++(k,(vb,V'))::B).flatMap rwC:=by rw[List.flatMap_append,List.flatMap_append,List.flatMap_cons,List.flatMap_cons];rfl
theorem NM7(x y:ByteArray×(Nat×Vs)):(A++x::B).length=(A++y::B).length:=by rw[jA,jA];rfl
theorem bw4{vb xB:Nat}{r1:Value}(V':Vs)(h:St W (xvR vb xB V'.ps V'.L V'.n (xeB xb r1 v2 v3 v4::xrP r1 (A++(k,(vb,V))::B)::C6 (A++B)::R)) w):St W (M8 (.P vb) xb v2 v3 v4 A k V' B::R) w:=by
 have h1:=bH4 h;have h2:St W (xeB xb r1 v2 v3 v4::xrP r1 (A++(k,(vb,V'))::B)::dvP vb V'::C6 (A++B)::R) w:=by unfold xrP;rw[Mm7 vb V' V,NM7 (k,(vb,V')) (k,(vb,V))];exact h1.s _
 exact St.mkEx vb (St.mkAnd rfl (St.mkEx r1 (St.shutS [_,_,_,_] h2)))
theorem bj4(h:St W (M8 v xb v2 v3 v4 A k V B::R) w):∃vb,St W (L9 xb v2 v3 v4 (A++(k,(vb,V))::B)::R) w:=by obtain⟨vb,r1,xB,h1,h2⟩:=aX4 h;have h3:=bH4 h2;have h4:=cJ4 (x:=(k,(vb,V))) (h3.s (dvP vb V::C6 (A++B)::xeB xb r1 v2 v3 v4::xrP r1 (A++(k,(vb,V))::B)::R));exact⟨vb,at4 (h4.s _)⟩
theorem Mn7(hA:Asc ltB D)(hb:plB ltB D k=true):∃(h:plI ltB D k<D.length) (vb:Nat) (V:Vs),D[plI ltB D k]=(k,(vb,V))/\vAt D k=V/\D=loA D k++(k,(vb,V))::hiA D k:=by
 obtain⟨h1,h2⟩:=Kz7 ltB k D hb;have hm:=jW h1;have hd:D=D.take (plI ltB D k)++D[plI ltB D k]::D.drop (plI ltB D k+1):=by rw[<-List.drop_eq_getElem_cons h1,List.take_append_drop]
 generalize hx:D[plI ltB D k]=x at h2 hm hd;obtain⟨k',vb,V⟩:=x;simp only at h2;subst h2;refine⟨h1,vb,V,hx,?_,?_⟩
 ·unfold vAt;rw[Fy7 (Bv7 Bn7 hA) hm];rfl
 ·unfold loA hiA;rw[hb,if_pos rfl];exact hd
theorem Mo7(hA:Asc ltB D)(hb:plB ltB D k=false):vAt D k=vs0:=by
 rw[KA7 Bn7 hA]at hb;unfold vAt
 cases hg:j5 D k with
 | none=>rfl
 | some x=>rw[hg]at hb;cases hb
theorem aF4(hA:Asc ltB D)(hD:D.length<=1000000)(hV:vAt D k=V)(h1:loA D k=A)(h2:hiA D k=B)(hS:St W (L9 xb v2 v3 v4 D::R) w):
  Calls Tryz.prog 57 #[.P xb,.string k] w fun e w'=>∃v,e=.returned v/\St W (M8 v xb v2 v3 v4 A k V B::R) w':=by
 obtain⟨r1,hS⟩:=aW4 hS
 cases hb:plB ltB D k with
 | true=>
  obtain⟨hp,vb,V',hx,hv,hd⟩:=Mn7 hA hb;rw[hV]at hv;subst hv;rw[h1,h2]at hd;refine(Ji7 D k rfl hb hp hx xb r1 v2 v3 v4 W w _ hS).mono ?_;rintro e w' ⟨rfl,hS⟩;rw[hd]at hS;have h3:=cI4 (hS.s (C6 (A++(k,(vb,V))::B)::xeB xb r1 v2 v3 v4::xrP r1 (A++(k,(vb,V))::B)::R));refine⟨_,rfl,St.mkEx vb (St.mkAnd rfl (St.mkEx r1 (St.shutS [_,_,_,_] ?_)))⟩;have h4:St W (dvP vb V::C6 (A++B)::xeB xb r1 v2 v3 v4::xrP r1 (A++(k,(vb,V))::B)::R) w':=h3;have h5:=h4.s (xeB xb r1 v2 v3 v4::xrP r1 (A++(k,(vb,V))::B)::dvP vb V::C6 (A++B)::R);exact h5
 | false=>
  have hv:=Mo7 hA hb;rw[hV]at hv;subst hv;have hd:A++B=D:=by rw[<-h1,<-h2];unfold loA hiA;rw[hb,if_neg (by simp),List.take_append_drop]
  have ha:D.take (plI ltB D k)=A:=h1;have hc:D.drop (plI ltB D k)=B:=by rw[<-h2];unfold hiA;rw[hb,if_neg (by simp)]
  refine(KL7 D hD k rfl hb xb r1 v2 v3 v4 W w _ hS).mono ?_;rintro e w' ⟨vb,r2,rfl,hS⟩;rw[ha,hc,<-hd]at hS;refine⟨_,rfl,St.mkEx vb (St.mkAnd rfl (St.mkEx r2 (St.shutS [_,_,_,_] ?_)))⟩;have h5:=hS.s (xeB xb r2 v2 v3 v4::xrP r2 (A++(k,(vb,vs0))::B)::dvP vb vs0::C6 (A++B)::R);exact h5
theorem dG4{i:Nat}(hok:VOk V.ps V.n i)(hi:100*i<=1000000){who:ByteArray}{x0 x1 x2 x3 r:Int}{q:Ps}(hr:J8 V.ps who ⟨x0,x1,x2,x3⟩=r)(hq:G8 V.ps who ⟨x0,x1,x2,x3⟩=q)(hS:St W (M8 v xb v2 v3 v4 A k V B::R) w):
  Calls Tryz.prog 58 #[v,.string who,.agg #[.I x0,.I x1,.I x2,.I x3]] w fun e w'=>e=.returned (.I r)/\St W (M8 v xb v2 v3 v4 A k ⟨q,V.L,V.n⟩ B::R) w':=by
 obtain⟨vb,r1,xB,rfl,hT⟩:=aX4 hS;refine(fD4 vb _ V.n V.ps _ W w _ hok.w hi who ⟨x0,x1,x2,x3⟩ hT).mono ?_;rw[hr,hq];rintro e w' ⟨rfl,hS⟩;exact⟨rfl,bw4 ⟨q,V.L,V.n⟩ hS⟩
theorem dj4{i:Nat}(hok:VOk V.ps V.n i)(hi:100*i<=1000000){who:ByteArray}{x0 x1 x2 x3 r:Int}{q:Ps}(hr:m9 V.ps who ⟨x0,x1,x2,x3⟩=r)(hq:s5 V.ps who ⟨x0,x1,x2,x3⟩=q)(hS:St W (M8 v xb v2 v3 v4 A k V B::R) w):
  Calls Tryz.prog 103 #[v,.string who,.agg #[.I x0,.I x1,.I x2,.I x3]] w fun e w'=>e=.returned (.I r)/\St W (M8 v xb v2 v3 v4 A k ⟨q,V.L,V.n⟩ B::R) w':=by
 obtain⟨vb,r1,xB,rfl,hT⟩:=aX4 hS;refine(de4 vb _ V.n V.ps _ W w _ hok.w hi who ⟨x0,x1,x2,x3⟩ hT).mono ?_;rw[hr,hq];rintro e w' ⟨rfl,hS⟩;exact⟨rfl,bw4 ⟨q,V.L,V.n⟩ hS⟩
theorem eR4{i:Nat}(hok:VOk V.ps V.n i)(hi:100*i+150<=1000000)(hmay:∀x∈V.L,MayP x){oi ot oc op:Int}{ou:ByteArray}{oy:Bool}{r1 r2:Int}{V2:Vs}(h1:(w9 V ⟨oi,ou,oy,ot,oc,op⟩).1=r1)(h2:(w9 V ⟨oi,ou,oy,ot,oc,op⟩).2.1=r2)(h3:(w9 V ⟨oi,ou,oy,ot,oc,op⟩).2.2=V2)(hS:St W (M8 v xb v2 v3 v4 A k V B::R) w):
  Calls Tryz.prog 105 #[v,.agg #[.I oi,.string ou,.bool oy,.I ot,.I oc,.I op]] w fun e w'=>e=.returned (.tuple #[.I r1,.I r2])/\St W (M8 v xb v2 v3 v4 A k V2 B::R) w':=by
 obtain⟨vb,s1,xB,rfl,hT⟩:=aX4 hS;refine(fE4 vb xB V _ ⟨oi,ou,oy,ot,oc,op⟩ hok.ok hok.w hi hmay hok.n0 W w _ hT).mono ?_;subst h1 h2 h3;rintro e w' ⟨rfl,hS⟩;exact⟨rfl,bw4 _ hS⟩
theorem Ow7(V:Vs)(who:ByteArray)(id:Int):(A6 V who id).2.n=V.n:=by unfold A6;split <;> rfl
theorem eS4{i:Nat}(hok:VOk V.ps V.n i)(hi:100*i+150<=1000000)(hmay:∀x∈V.L,MayP x)(hl32:V.L.length<=32){who:ByteArray}{id r:Int}{V2:Vs}(h1:(A6 V who id).1=r)(h2:(A6 V who id).2=V2)(hS:St W (M8 v xb v2 v3 v4 A k V B::R) w):
  Calls Tryz.prog 106 #[v,.string who,.I id] w fun e w'=>e=.returned (.I r)/\St W (M8 v xb v2 v3 v4 A k V2 B::R) w':=by
 obtain⟨vb,s1,xB,rfl,hT⟩:=aX4 hS;have hn:=Ow7 V who id;obtain⟨p,L,n⟩:=V;refine(du4 vb xB p L n _ who id W w _ hok.ok hok.w hi hmay hl32 hT).mono ?_;subst h1 h2;rintro e w' ⟨rfl,hS⟩;refine⟨rfl,bw4 (V:=⟨p,L,n⟩) (xB:=xB) (r1:=s1) _ ?_⟩;rw[hn];exact hS
theorem eT4{i:Nat}(hok:VOk V.ps V.n i){who:ByteArray}{x0 x1 x2 x3:Int}(hx:j7 V.ps who=⟨x0,x1,x2,x3⟩)(hS:St W (M8 v xb v2 v3 v4 A k V B::R) w):
  Calls Tryz.prog 100 #[v,.string who] w fun e w'=>e=.returned (.agg #[.I x0,.I x1,.I x2,.I x3])/\St W (M8 v xb v2 v3 v4 A k V B::R) w':=by
 obtain⟨vb,s1,xB,rfl,hT⟩:=aX4 hS;refine(bd4 hok.w hx hT).mono ?_;rintro e w' ⟨rfl,hS⟩;exact⟨rfl,bw4 V hS⟩
end
theorem dk4(xb xB:Nat)(V:Vs){r:Bool}(hr:w7 V=r)(W w:World)(R:List HP)(hS:St W (xvR xb xB V.ps V.L V.n R) w):
  Calls Tryz.prog 107 #[.P xb] w fun e w'=>e=.returned (.bool r)/\St W (xvR xb xB V.ps V.L V.n R) w':=by
 obtain⟨p,L,n⟩:=V;obtain⟨xv,hS1⟩:=aE4 hS;obtain⟨la,lc,last,hlast,hS2⟩:=bi4 (hS1.s (xkP xB L n::blk xb _ _::hdR _ (hdL p)::R));clear hS hS1;obtain⟨ha,hc,rfl⟩:=hS2.drop.drop.drop.rowVal;have hS:=hS2;clear hS2;have hlen:=ED7 p;unfold w7 at hr;simp only at hr;rw[<-hlen]at hr;clear hlen;have hback:∀w',St W (blk xB [.slice la L.length lc,.I last] 186::j6 (.slice la L.length lc) L::blk xb [.slice ha (hdL p).length hc,.P xB,.I n] 183::hdR (.slice ha (hdL p).length hc) (hdL p)::R) w'->St W (xvR xb xB p L n R) w':=by intro w' hS;have hS1:=aw4 hlast (hS.s (blk xB _ _::j6 _ L::blk xb _ _::hdR _ (hdL p)::R));exact ag4 (hS1.s (blk xb _ _::hdR _ (hdL p)::xkP xB L n::R))
 have Hback:=jH hback;clear hback;generalize hdL p=H at hS hr Hback;go_enter Tryz.func107,Tryz.ntmps107;by_cases hH:H=[]
 ·subst hH;by_cases hL:L=[]
  ·subst hL;by_cases h3:n=1
   ·have d3:(n==1)=true:=by simpa using h3
    have Hr:=jH (show r=true by rw[<-hr];simp[h3]);clear hr h3;go_wp2_with(first|go_big_skip|refine zl1 hS ?_);go_ret;rw[Hr.out];exact⟨rfl,Hback.out _ hS⟩
   ·have d3:(n==1)=false:=by simpa using h3
    have Hr:=jH (show r=false by rw[<-hr];simp[h3]);clear hr h3;go_wp2_with(first|go_big_skip|refine zl1 hS ?_);go_ret;rw[Hr.out];exact⟨rfl,Hback.out _ hS⟩
  ·have Hr:=jH (show r=false by rw[<-hr];simp[hL]);clear hr;go_wp2_with(first|go_big_skip|refine zl1 hS ?_);go_ret;rw[Hr.out];exact⟨rfl,Hback.out _ hS⟩
 ·have Hr:=jH (show r=false by rw[<-hr];simp[hH]);clear hr;go_wp2_with(first|go_big_skip|refine zl1 hS ?_);go_ret;rw[Hr.out];exact⟨rfl,Hback.out _ hS⟩
def clF(D:Ev):Ev:=D.filter fun x=>!w7 x.2.2
theorem Mp7(D:Ev)(x:ByteArray×(Nat×Vs)):clF (D++[x])=clF D++(if w7 x.2.2=true then[]else[x]):=by
 unfold clF;rw[List.filter_append]
 congr 1
 by_cases h:w7 x.2.2=true
 ·rw[if_pos h,List.filter_cons,if_neg (by simpa using h)];rfl
 ·rw[if_neg h,List.filter_cons,if_pos (by simpa using h)];rfl
theorem Mq7(v:Value)(F:Ev)(x:ByteArray×(Nat×Vs)):xrP v (F++[x])=row v 2 137 (F.length+1) (F.flatMap rwC++rwC x):=by unfold xrP;rw[jA,List.flatMap_append];simp
theorem bV4:∀(D:Ev) {W:World} {R:List HP} {w:World},St W (C6 D::R) w->St W (C6 (clF D)::R) w
 | [],_,_,_,h=>h
 | x::D,W,R,w,h=>by
  have h1:St W (dvP x.2.1 x.2.2::C6 D::R) w:=St.split h;by_cases hn:w7 x.2.2=true
  ·have e:clF (x::D)=clF D:=by unfold clF;rw[List.filter_cons,if_neg (by simpa using hn)]
   rw[e];exact bV4 D h1.drop
  ·have e:clF (x::D)=x::clF D:=by unfold clF;rw[List.filter_cons,if_pos (by simpa using hn)]
   rw[e];exact St.join (bV4 D h1.swap).swap
def ClR(W:World)(R:List HP)(D:Ev)(vm vi:Value)(w:World):Prop:=∃i:Nat,vi=.I i/\i<=D.length/\(clF (D.take i)).length<=i/\St W (xrP vm (clF (D.take i))::R) w
theorem cC4(D:Ev)(hD:D.length<=1000000)(xb:Nat)(v2 v3 v4:Value)(W w:World)(R:List HP)(hS:St W (L9 xb v2 v3 v4 D::R) w):
  Calls Tryz.prog 63 #[.P xb] w fun e w'=>e=.returned (.tuple #[])/\St W (L9 xb v2 v3 v4 (clF D)::R) w':=by
 obtain⟨r1,hT⟩:=aW4 hS;clear hS;obtain⟨a,cap,rfl⟩:=hT.drop.rowVal;have hS:=hT;clear hT;go_enter Tryz.func63,Tryz.ntmps63;go_wp2_with(first|go_big_skip|refine zl1 hS ?_);have hS:=hS.rowNil (k:=2) (T:=137)
 go_loopw [2,3] (fun vm vi wr=>ClR W (xeB xb (.slice a D.length cap) v2 v3 v4::xrP (.slice a D.length cap) D::C6 D::R) D vm vi wr) (fun _ vi _=>D.length-(intOf vi).toNat)
 case atStart=>exact⟨0,rfl,Nat.zero_le _,Nat.le_refl _,hS⟩
 case round=>
  clear hS;obtain⟨i,rfl,hil,hfl,hS⟩:=hrel;obtain⟨ma,mc,rfl⟩:=St.rowVal hS;by_cases hin:i=D.length
  ·have di:decide (i<D.length)=false:=by simp;omega
   have hF2:clF D=clF (D.take i):=by rw[hin,List.take_length]
   clear hin hil;generalize hF:clF (D.take i)=F at *;have HF:=jH hF2;clear hF hF2;go_wp2_with(first|go_big_skip|refine zl1 hS ?_|refine zs1 hS ?_;clear hS;intro w hS);go_end0;have h1:=bV4 D (hS.s (C6 D::xeB xb (.slice ma F.length mc) v2 v3 v4::xrP (.slice ma F.length mc) F::R));rw[HF.out]at h1;rw[HF.out];exact⟨rfl,at4 (h1.s (xeB xb (.slice ma F.length mc) v2 v3 v4::xrP (.slice ma F.length mc) F::C6 F::R))⟩
  ·have hi1:i<D.length:=by omega
   obtain⟨⟨g,rfl⟩,_,_⟩:=St.rowAddr hS.drop.drop (by omega);have di:decide (i<D.length)=true:=by simpa using hi1
   have hsn:=Mp7 (D.take i) D[i];rw[<-List.take_succ_eq_append_getElem hi1]at hsn;have Hsn:=jH hsn;clear hsn;have hk:∀{K K':List HP},Take K (xrP (.S g D.length cap) D) K'->i6 K g (i*2) (.string D[i].1):=fun hu=>d8.elemM (enc:=rwC) BK7 hu hi1 0 _ rfl
   have hv:∀{K K':List HP},Take K (xrP (.S g D.length cap) D) K'->i6 K g (i*2+1) (.pointer (some ⟨D[i].2.1,0,none⟩)):=fun hu=>d8.elemM (enc:=rwC) BK7 hu hi1 1 _ rfl
   have hx:∀{K K':List HP},Take K (xrP (.S g D.length cap) D) K'->d8 K g (i*2) [.string D[i].1,.pointer (some ⟨D[i].2.1,0,none⟩)]:=fun hu=>d8.elemM (enc:=rwC) BK7 hu hi1
   have hd:D=D.take i++D[i]::D.drop (i+1):=by rw[<-List.drop_eq_getElem_cons hi1,List.take_append_drop]
   have h1:=hS.s (C6 D::xrP (.slice ma (clF (D.take i)).length mc) (clF (D.take i))::xeB xb (.S g D.length cap) v2 v3 v4::xrP (.S g D.length cap) D::R);have h2:St W (C6 (D.take i++D[i]::D.drop (i+1))::xrP (.slice ma (clF (D.take i)).length mc) (clF (D.take i))::xeB xb (.S g D.length cap) v2 v3 v4::xrP (.S g D.length cap) D::R) wr:=by rw[<-hd];exact h1
   clear hS h1;have hback:∀w' K,St W (dvP D[i].2.1 D[i].2.2::C6 (D.take i++D.drop (i+1))::K) w'->St W (C6 D::K) w':=by intro w' K h;have h3:=cJ4 (x:=D[i]) h;rw[<-hd]at h3;exact h3
   have Hback:=jH hback;clear hback hd;have h3:=cI4 h2;clear h2;generalize D[i]=x at *;obtain⟨xk,vb,V⟩:=x;simp only at hk hv hx h3;obtain⟨xB,h4⟩:=di4 h3;clear h3;generalize clF (D.take i)=F at *;have hS:St W (xvP vb (.P xB) V.n V.ps::xkP xB V.L V.n::C6 (D.take i++D.drop (i+1))::xrP (.slice ma F.length mc) F::xeB xb (.S g D.length cap) v2 v3 v4::xrP (.S g D.length cap) D::R) wr:=h4;clear h4;by_cases hn:w7 V=true
   ·have Hn:=jH hn;clear hn;go_wp2_with(first|go_big_skip|refine zl1 hS ?_|refine zl1 hS ?_ (hc:=by exact hv (by exact i7))|go_at_call 107;refine(dk4 vb xB V Hn.out W _ _ (hS.s (xvP vb _ V.n V.ps::xkP xB V.L V.n::xrP _ F::xeB xb _ v2 v3 v4::xrP _ D::C6 _::R))).mono ?_;clear hS;rintro e w ⟨rfl,hS⟩);go_roundw
    case rel=>
     refine⟨i+1,rfl,hi1,?_,?_⟩
     ·rw[Hsn.out,if_pos Hn.out,List.append_nil];omega
     ·rw[Hsn.out,if_pos Hn.out,List.append_nil];have h1:=bH4 (V:=V) hS;have h2:=Hback.out _ _ (h1.s (dvP vb V::C6 (D.take i++D.drop (i+1))::xrP (.slice ma F.length mc) F::xeB xb (.S g D.length cap) v2 v3 v4::xrP (.S g D.length cap) D::R));exact h2.s _
    case measure=>simp[intOf];omega
   ·have Hn:=jH (show w7 V=false by simpa using hn);clear hn;go_wp2_with(first|go_big_skip|refine zl1 hS ?_|refine zl1 hS ?_ (hc:=by exact hv (by exact i7))|go_at_call 107;refine(dk4 vb xB V Hn.out W _ _ (hS.s (xvP vb _ V.n V.ps::xkP xB V.L V.n::xrP _ F::xeB xb _ v2 v3 v4::xrP _ D::C6 _::R))).mono ?_;clear hS;rintro e w ⟨rfl,hS⟩|refine zlN hS ?_ (hc:=by exact hx (by exact i7))|refine zbs hS ?_;clear hS;intro bS w hS|(with_reducible apply Ae7 hS);rfl;rfl;rfl;rfl;exact esS;exact rsS;rfl;decide;exact i7;exact(Src.mk d8.whole);rfl;exact rfl;(focus(unfold maxLen;omega));(focus(omega));clear hS;intro v w hS;refine frS ?_);go_roundw
    case rel=>
     refine⟨i+1,rfl,hi1,?_,?_⟩
     ·rw[Hsn.out,if_neg (by rw[Hn.out];exact Bool.noConfusion),jA,List.length_singleton];omega
     ·rw[Hsn.out,if_neg (by rw[Hn.out];exact Bool.noConfusion),Mq7];have h0:St W (row v 2 137 (F.length+1) (F.flatMap rwC++rwC (xk,(vb,V)))::_) w:=hS;have h1:=bH4 (V:=V) (h0.s (xvP vb (.P xB) V.n V.ps::xkP xB V.L V.n::C6 (D.take i++D.drop (i+1))::row v 2 137 (F.length+1) (F.flatMap rwC++rwC (xk,(vb,V)))::xeB xb (.S g D.length cap) v2 v3 v4::xrP (.S g D.length cap) D::R));have h2:=Hback.out _ _ h1;exact h2.s _
    case measure=>simp[intOf];omega
end Go.Proofs.YtienbkdjkjbelaaGreat
end
