/-
  The plan of any map, hosts, table and limits.
-/
import Derived.Test.YtjcfifkjbaffnaaGreatPkQM5
import Derived.Test.YtjcfifkjbaffnaaGreatPkQM21
set_option maxHeartbeats 16000000
set_option maxRecDepth 100000
set_option linter.unusedSimpArgs false
set_option linter.unusedVariables false
section
namespace Go.Sl
open Go.RowKit
section
variable{κ ν:Type}[DecidableEq κ]{P:Program}{t K E:TypeId}{ek:κ->Value}{ev:ν->Value}{W w:World}{b:Nat}{l:List (κ×ν)}{ops:Array Oper}{a:Act}{rest:List Oper}{o:Oper}
theorem En7{tb:List Nat}{toks:List Tok}{fresh:Nat->Bool}{pin:Nat->Option Value}{Qf:Act->Prop}{nd:Nat->Value}{i:Nat}{x y:Operand}{k:κ}{z v:Value}{ok:Bool}(hf:fresh i=false)(hn:x9 toks i=true)(ho:o.op=.lookup t x y ok)(hg:Region.wanted o (yielded ops a.tmps)=true)(hx:a.eval x=.map (some b))(hy:a.eval y=ek k)
  (hu:∀F w,St W (kpL toks tb i nd++F) w->∃R,St W (i5 ek ev b l::R) w) (ht:A7 P t=some (K,E)) (hK:KeyOk P K ek) (hz:w6 P E=some z) (hv:F9 ok z ((m6 l k).map ev)=v) (h:d9 P W ops tb toks fresh pin Qf nd (i+1) rest (a.put o.dst v)):d9 P W ops tb toks fresh pin Qf nd i (o::rest) a:=
 By7 hf hn hg (fun F w hS=>by obtain⟨R,h2⟩:=hu F w hS;unfold execOp;simp[ho,hx,hy,Cj7 h2 ht hK hz,hv]) h
end
end Go.Sl
namespace Go.Proofs.YtjcfifkjbaffnaaGreat
open Go.RowKit Go.Sl
theorem Ro.len(r:Ro):r.cells.length=3:=rfl
theorem Dx7(l:List Ro)(hot:Int):∀(Z:List Zo) (s:Pn×Int),(p9 l hot Z s).1.out.length<=s.1.out.length+Z.length
 | [],s=>by show s.1.out.length<=_;simp
 | z::Z,s=>by have h1:=Dx7 l hot Z (G7 l hot s z);have h2:=(Fp7 l hot s z).1;have e:p9 l hot (z::Z) s=p9 l hot Z (G7 l hot s z):=rfl;rw[e,jC];omega
section
variable{m:Mp}{v:Value}{W w:World}{R:List HP}
theorem Eo7(h:¬p7 (clM m))(hs:∀z∈m.zs,smZ z/\rgZ z)(hl:m.zs.length<=60)(hS:St W (byR v (F6 m)::R) w):
  Calls Tryz.prog 13 #[v] w fun e w'=>e=.returned (.tuple #[.agg #[.I 0,.I 0,.slice none 0 0],.I 3])/\St W R w':=by
 refine(Da7 hs hl (r:=false) ⟨fun h=>(by cases h),fun h2=>absurd h2 h⟩ v W w R hS).mono ?_;rintro e w' (⟨_,h2,h3⟩|⟨h2,_⟩)
 ·exact⟨h2,h3⟩
 ·cases h2
theorem AV7(h:p7 (clM m))(hs:∀z∈m.zs,smZ z/\rgZ z)(hl:m.zs.length<=60)(hS:St W (byR v (F6 m)::R) w):
  Calls Tryz.prog 13 #[v] w fun e w'=>∃zv,e=.returned (.tuple #[.agg #[.I (clN m.ver),.I (clN m.nxt),zv],.I 0])/\St W (zoR zv (m.zs.map clZ)::R) w':=by
 refine(Da7 hs hl (r:=true) ⟨fun _=>h,fun _=>rfl⟩ v W w R hS).mono ?_;rintro e w' (⟨h2,_⟩|⟨_,zv,h2,h3⟩)
 ·cases h2
 ·exact⟨zv,h2,h3⟩
theorem FT7(hs:∀z∈m.zs,smZ z/\rgZ z)(hl:m.zs.length<=60)(hS:St W (byR v (F6 m)::R) w):
  Calls Tryz.prog 13 #[v] w fun e w'=>∃x0 x1 za zn zc er,e=.returned (.tuple #[.agg #[.I x0,.I x1,.slice za zn zc],.I er])/\St W R w':=by
 by_cases h:p7 (clM m)
 ·refine(AV7 h hs hl hS).mono ?_;rintro e w' ⟨zv,h2,h3⟩;obtain⟨za,zc,rfl⟩:=h3.rowVal;exact⟨_,_,_,_,_,_,h2,h3.drop⟩
 ·refine(Eo7 h hs hl hS).mono ?_;rintro e w' ⟨h2,h3⟩;exact⟨_,_,_,_,_,_,h2,h3⟩
end
theorem Jv7{zs:List Zo}{hs:List Int}{l:List Ro}{v hv rv:Value}{V:World}{ver nxt hot cold:Int}(hno:¬(p7 ⟨ver,nxt,zs⟩/\n9 hs))(hzv:d6 Zo.cells 9 V v zs)(hhv:d6 hC 1 V hv hs)(hrv:d6 Ro.cells 3 V rv l)(hsm:∀z∈zs,smZ z/\rgZ z)(hl:zs.length<=60)(h1:rgI ver)(h2:rgI nxt)(hhl:hs.length<=1000)(hrl:l.length<=60)(W w:World)(R:List HP)(hS:St W (Old V::R) w):
  Calls Tryz.prog 6 #[.agg #[.I ver,.I nxt,v],hv,rv,.agg #[.I hot,.I cold]] w fun e w'=>∃u,e=.returned u/\St W (row u 5 64 0 []::Old V::R) w':=by
 have Hv:=jH hzv;have Hh:=jH hhv;have Hr:=jH hrv;have Hs:=jH hsm;have Hno:=jH hno;clear hzv hhv hrv hsm hno;by_cases hH:n9 hs
 case neg=>
  have HH:=jH hH;clear hH;go_enter Tryz.func6,Tryz.ntmps6;go_wp2_with(first|go_big_skip|(fail_if_success (have:=mB1));(refine zbx hS ?_ (v:=.agg #[.I ver,.I nxt,v]) (l:=[.I ver,.I nxt,v]);clear hS;have mB1:Nat:=0;intro bM w hS)|(have:=mB1);(fail_if_success (have:=mB2));(refine zbx hS ?_ (l:=[.I hot,.I cold]);clear hS;have mB2:Nat:=0;intro bL w hS)|refine zlN hS ?_ (vs:=[.I ver,.I nxt,v]) (hc:=by(focus((repeat(first|exact a7.whole|apply a7.there));done)))|go_at_call 14;refine(AG7 Hv.out Hs.out hl h1 h2 W _ _ (hS.s (Old V::blk bM _ _::blk bL _ _::R))).mono ?_;clear hS;rintro e w ⟨eu,rfl,hS⟩|go_at_call 13;refine(FT7 (m:=⟨ver,nxt,zs⟩) Hs.out hl hS).mono ?_;clear hS;rintro e w ⟨x0,x1,za,zn,zc,er,rfl,hS⟩|(fail_if_success (have:=mA9));(refine zal hS ?_;clear hS;have mA9:Nat:=0;intro b9 w hS)|refine zsN hS ?_;clear hS;intro w hS|go_at_call 15;refine(Ke7 HH.out Hh.out hhl W _ _ (hS.s (Old V::blk b9 _ _::blk bM _ _::blk bL _ _::R))).mono ?_;clear hS;rintro e w ⟨rfl,hS⟩);go_ret;exact⟨_,rfl,(hS.s (Old V::R)).rowNil⟩
 have HH:=jH hH;have hhl6:hs.length<=6:=hH.2.1;have hh0:0<hs.length:=hH.1;by_cases hM:p7 (clM ⟨ver,nxt,zs⟩)
 case neg=>
  have HM:=jH hM;clear hH hM;go_enter Tryz.func6,Tryz.ntmps6;go_wp2_with(first|go_big_skip|(fail_if_success (have:=mB1));(refine zbx hS ?_ (v:=.agg #[.I ver,.I nxt,v]) (l:=[.I ver,.I nxt,v]);clear hS;have mB1:Nat:=0;intro bM w hS)|(have:=mB1);(fail_if_success (have:=mB2));(refine zbx hS ?_ (l:=[.I hot,.I cold]);clear hS;have mB2:Nat:=0;intro bL w hS)|refine zlN hS ?_ (vs:=[.I ver,.I nxt,v]) (hc:=by(focus((repeat(first|exact a7.whole|apply a7.there));done)))|go_at_call 14;refine(AG7 Hv.out Hs.out hl h1 h2 W _ _ (hS.s (Old V::blk bM _ _::blk bL _ _::R))).mono ?_;clear hS;rintro e w ⟨eu,rfl,hS⟩|go_at_call 13;refine(Eo7 (m:=⟨ver,nxt,zs⟩) HM.out Hs.out hl hS).mono ?_;clear hS;rintro e w ⟨rfl,hS⟩|(fail_if_success (have:=mA9));(refine zal hS ?_;clear hS;have mA9:Nat:=0;intro b9 w hS)|refine zsN hS ?_;clear hS;intro w hS|go_at_call 15;refine(Cv7 HH.out Hh.out W _ _ (hS.s (Old V::blk b9 _ _::blk bM _ _::blk bL _ _::R))).mono ?_;clear hS;rintro e w ⟨np,rfl,hS⟩);go_ret;exact⟨_,rfl,(hS.s (Old V::R)).rowNil⟩
 have HM:=jH hM;by_cases g1:clN ver=ver
 case neg=>
  have e1:(clN ver != ver)=true:=by simpa using g1
  clear hH hM g1;go_enter Tryz.func6,Tryz.ntmps6;go_wp2_with(first|go_big_skip|(fail_if_success (have:=mB1));(refine zbx hS ?_ (v:=.agg #[.I ver,.I nxt,v]) (l:=[.I ver,.I nxt,v]);clear hS;have mB1:Nat:=0;intro bM w hS)|(have:=mB1);(fail_if_success (have:=mB2));(refine zbx hS ?_ (l:=[.I hot,.I cold]);clear hS;have mB2:Nat:=0;intro bL w hS)|refine zlN hS ?_ (vs:=[.I ver,.I nxt,v]) (hc:=by(focus((repeat(first|exact a7.whole|apply a7.there));done)))|refine zl1 hS ?_|go_at_call 14;refine(AG7 Hv.out Hs.out hl h1 h2 W _ _ (hS.s (Old V::blk bM _ _::blk bL _ _::R))).mono ?_;clear hS;rintro e w ⟨eu,rfl,hS⟩|go_at_call 13;refine(AV7 (m:=⟨ver,nxt,zs⟩) HM.out Hs.out hl hS).mono ?_;clear hS;rintro e w ⟨zv,rfl,hS⟩;(have hv9:=hS.rowVal;obtain⟨za,zc,rfl⟩:=hv9;rw[jM]at hS)|(fail_if_success (have:=mA9));(refine zal hS ?_;clear hS;have mA9:Nat:=0;intro b9 w hS)|refine zsN hS ?_;clear hS;intro w hS|go_at_call 15;refine(Cv7 HH.out Hh.out W _ _ (hS.s (Old V::blk b9 _ _::blk bM _ _::blk bL _ _::R))).mono ?_;clear hS;rintro e w ⟨np,rfl,hS⟩);go_ret;exact⟨_,rfl,(hS.s (Old V::R)).rowNil⟩
 have e1:(clN ver != ver)=false:=by simpa using g1
 by_cases g2:clN nxt=nxt
 case neg=>
  have e2:(clN nxt != nxt)=true:=by simpa using g2
  clear hH hM g1 g2;go_enter Tryz.func6,Tryz.ntmps6;go_wp2_with(first|go_big_skip|(fail_if_success (have:=mB1));(refine zbx hS ?_ (v:=.agg #[.I ver,.I nxt,v]) (l:=[.I ver,.I nxt,v]);clear hS;have mB1:Nat:=0;intro bM w hS)|(have:=mB1);(fail_if_success (have:=mB2));(refine zbx hS ?_ (l:=[.I hot,.I cold]);clear hS;have mB2:Nat:=0;intro bL w hS)|refine zlN hS ?_ (vs:=[.I ver,.I nxt,v]) (hc:=by(focus((repeat(first|exact a7.whole|apply a7.there));done)))|refine zl1 hS ?_|go_at_call 14;refine(AG7 Hv.out Hs.out hl h1 h2 W _ _ (hS.s (Old V::blk bM _ _::blk bL _ _::R))).mono ?_;clear hS;rintro e w ⟨eu,rfl,hS⟩|go_at_call 13;refine(AV7 (m:=⟨ver,nxt,zs⟩) HM.out Hs.out hl hS).mono ?_;clear hS;rintro e w ⟨zv,rfl,hS⟩;(have hv9:=hS.rowVal;obtain⟨za,zc,rfl⟩:=hv9;rw[jM]at hS)|(fail_if_success (have:=mA9));(refine zal hS ?_;clear hS;have mA9:Nat:=0;intro b9 w hS)|refine zsN hS ?_;clear hS;intro w hS|go_at_call 15;refine(Cv7 HH.out Hh.out W _ _ (hS.s (Old V::blk b9 _ _::blk bM _ _::blk bL _ _::R))).mono ?_;clear hS;rintro e w ⟨np,rfl,hS⟩);go_ret;exact⟨_,rfl,(hS.s (Old V::R)).rowNil⟩
 have e2:(clN nxt != nxt)=false:=by simpa using g2
 by_cases g3:zs.map clZ=zs
 case neg=>
  have H3:=jH g3;have hl9:(zs.map clZ).length<=1000:=by rw[jM];omega
  have Hl9:=jH hl9;clear hH hM g1 g2 g3 hl9;go_enter Tryz.func6,Tryz.ntmps6;go_wp2_with(first|go_big_skip|(fail_if_success (have:=mB1));(refine zbx hS ?_ (v:=.agg #[.I ver,.I nxt,v]) (l:=[.I ver,.I nxt,v]);clear hS;have mB1:Nat:=0;intro bM w hS)|(have:=mB1);(fail_if_success (have:=mB2));(refine zbx hS ?_ (l:=[.I hot,.I cold]);clear hS;have mB2:Nat:=0;intro bL w hS)|refine zlN hS ?_ (vs:=[.I ver,.I nxt,v]) (hc:=by(focus((repeat(first|exact a7.whole|apply a7.there));done)))|refine zl1 hS ?_|go_at_call 14;refine(AG7 Hv.out Hs.out hl h1 h2 W _ _ (hS.s (Old V::blk bM _ _::blk bL _ _::R))).mono ?_;clear hS;rintro e w ⟨eu,rfl,hS⟩|go_at_call 13;refine(AV7 (m:=⟨ver,nxt,zs⟩) HM.out Hs.out hl hS).mono ?_;clear hS;rintro e w ⟨zv,rfl,hS⟩;(have hv9:=hS.rowVal;obtain⟨za,zc,rfl⟩:=hv9;rw[jM]at hS)|(fail_if_success (have:=mA9));(refine zal hS ?_;clear hS;have mA9:Nat:=0;intro b9 w hS)|refine zsN hS ?_;clear hS;intro w hS|go_at_call 15;refine(Cv7 HH.out Hh.out W _ _ (hS.s (Old V::zoR _ _::blk b9 _ _::blk bM _ _::blk bL _ _::R))).mono ?_;clear hS;rintro e w ⟨np,rfl,hS⟩|go_at_call 16;refine(Hc7 H3.out Hv.out Hl9.out (by omega) W _ _ (blk b9 _ _::blk bM _ _::blk bL _ _::R) .head (hS.s (zoR _ (zs.map clZ)::Old V::blk b9 _ _::blk bM _ _::blk bL _ _::R))).mono ?_;clear hS;rintro e w ⟨rfl,hS⟩);go_ret;exact⟨_,rfl,(hS.s (Old V::R)).rowNil⟩
 exact absurd ⟨by rw[show(⟨ver,nxt,zs⟩:Mp)=clM ⟨ver,nxt,zs⟩from by unfold clM;simp only;rw[g1,g2,g3]];exact hM,hH⟩ Hno.out
end Go.Proofs.YtjcfifkjbaffnaaGreat
end
section
namespace Go.Sl
open Go.RowKit
theorem Bp7{P:Program}{ops:Array Oper}{Q:Exit->Act->World->Prop}{a:Act}{rest:List Oper}{o:Oper}{w:World}{ty:TypeId}{xs:Array (Nat×Operand)}{vs:Array (Nat×Value)}{v:Value}(ho:o.op=.build ty xs)(hg:Region.wanted o (yielded ops a.tmps)=true)(hx:(xs.map fun(i,x)=>(i,a.eval x))=vs)
  (hv:∀w,(Instr.build ty vs).run P w=.ok v w) (h:wpList P ops Q rest (a.put o.dst v) w):wpList P ops Q (o::rest) a w:=
 Al7 hg (v:=v) (w':=w) (by unfold execOp;simp only[ho,hx,Sem.run_bind,hv w,Result.andThen_ok,Sem.run_pure]) h
end Go.Sl
namespace Go.Proofs.YtjcfifkjbaffnaaGreat
open Go.RowKit Go.Sl
theorem bq4(x y:Int)(a b:Option Addr)(n n2 c c2 m1 m2 m3:Nat)(hot cold:Int)(w:World):(Instr.build 61 #[(0,.agg #[.I x,.I y,.slice a n c]),(1,.map (some m1)),(2,.slice b n2 c2),(3,.map (some m2)),(4,.map (some m3)),(5,.agg #[.I hot,.I cold])]).run Tryz.prog w=.ok (.agg #[.I x,.I y,.slice a n c,.map (some m1),.slice b n2 c2,.map (some m2),.map (some m3),.I hot,.I cold,.slice none 0 0]) w:=by kernel_rfl
def MkR(W:World)(E:Pe)(l:List Ro)(R:List HP)(v67:Value)(w:World):Prop:=
 ∃i:Nat,v67=.I i/\i<=l.length/\St W (plP E (H9 (l.take i)) pn0::R) w
abbrev tB21a:List Nat:=[0,1,3,7,0,16,63,127,255,255,0,1535,4095]
theorem Il7{zs:List Zo}{hs:List Int}{l:List Ro}{v hv rv:Value}{V:World}{ver nxt hot cold:Int}(hM:p7 ⟨ver,nxt,zs⟩)(hH:n9 hs)(hzv:d6 Zo.cells 9 V v zs)(hhv:d6 hC 1 V hv hs)(hrv:d6 Ro.cells 3 V rv l)(hsm:∀z∈zs,smZ z/\rgZ z)(h1:rgI ver)(h2:rgI nxt)(hrl:l.length<=60)(W w:World)(R:List HP)(hS:St W (Old V::R) w):
  Calls Tryz.prog 6 #[.agg #[.I ver,.I nxt,v],hv,rv,.agg #[.I hot,.I cold]] w fun e w'=>∃u out,e=.returned u/\L8 ⟨ver,nxt,zs⟩ hs l hot cold out/\St W (row u 5 64 out.length (out.flatMap Cg.cells)::Old V::R) w':=by
 have hl:zs.length<=16:=hM.2.2.2.2.1;have hhl6:hs.length<=6:=hH.2.1;have hh0:0<hs.length:=hH.1
 have h0:1<=zs.length:=by
  have h9:=hM.2.2.2.2.2.2
  cases zs with
  | nil=>exact absurd (show C8 [] ⟨#[]⟩ true=true from h9) (by decide +kernel)
  | cons a b=>simp
 have hl60:zs.length<=60:=by omega
 have hcl:=JY7 hM;have g1:clN ver=ver:=congrArg Mp.ver hcl;have g2:clN nxt=nxt:=congrArg Mp.nxt hcl;have g3:zs.map clZ=zs:=congrArg Mp.zs hcl;have e1:(clN ver != ver)=false:=by simpa using g1
 have e2:(clN nxt != nxt)=false:=by simpa using g2
 have H3:=jH g3;have HM:=jH (show p7 (clM ⟨ver,nxt,zs⟩)by rw[hcl];exact hM);have HMH:=jH (show p7 ⟨ver,nxt,zs⟩/\n9 hs from⟨hM,hH⟩);have HH:=jH hH;have Hs:=jH hsm;have Hnd:=jH (CQ7 hM);have Hid2:=jH (show ∀z∈zs,1<=z.id/\z.id<=1099511627776 from fun z hz=>by obtain⟨i,hi,rfl⟩:=List.getElem_of_mem hz;have h9:=hM.2.2.2.2.2.1 i hi;have h8:=hM.2.2.2.1;have h7:=h9.1.1;have h6:=h9.1.2.1;simp only at h8 h7 h6;exact⟨h7,by omega⟩);have hz9:=hzv;obtain⟨va,vc,rfl,_,_⟩:=hz9;have hh9:=hhv;obtain⟨ha,hcc,rfl,_,_⟩:=hh9;obtain⟨ra,rc,rfl,hr63,hact⟩:=hrv;have Hat:=jH hact;have Hv:=jH hzv;have Hh:=jH hhv;clear hact hzv hhv hsm hM hH hcl g1 g2 g3;go_enter Tryz.func6,Tryz.ntmps6
 go_wp2_with(first|(with_reducible apply Bp7);rfl;rfl;(focus(simp only[fD,fI,fJ,Act.eval,fE,fF,fG,fH,fK];try rfl));intro w;exact bq4 _ _ _ _ _ _ _ _ _ _ _ _ _ w;refine frS ?_|go_big_skip|(fail_if_success (have:=mB1));(refine zbx hS ?_ (v:=.agg #[.I ver,.I nxt,.slice va zs.length vc]) (l:=[.I ver,.I nxt,.slice va zs.length vc]);clear hS;have mB1:Nat:=0;intro bM w hS)|(have:=mB1);(fail_if_success (have:=mB2));(refine zbx hS ?_ (l:=[.I hot,.I cold]);clear hS;have mB2:Nat:=0;intro bL w hS)|refine zlN hS ?_|refine zl1 hS ?_|go_at_call 14;refine(AG7 Hv.out Hs.out hl60 h1 h2 W _ _ (hS.s (Old V::blk bM _ _::blk bL _ _::R))).mono ?_;clear hS;rintro e w ⟨eu,rfl,hS⟩|go_at_call 13;refine(AV7 (m:=⟨ver,nxt,zs⟩) HM.out Hs.out hl60 hS).mono ?_;clear hS;rintro e w ⟨zv,rfl,hS⟩;(have hv9:=hS.rowVal;obtain⟨za,zc,rfl⟩:=hv9;rw[jM]at hS)|(fail_if_success (have:=mA9));(refine zal hS ?_;clear hS;have mA9:Nat:=0;intro b9 w hS)|refine zsN hS ?_;clear hS;intro w hS|go_at_call 15;refine(Cv7 HH.out Hh.out W _ _ (hS.s (Old V::zoR _ _::blk b9 _ _::blk bM _ _::blk bL _ _::R))).mono ?_;clear hS;rintro e w ⟨np,rfl,hS⟩|go_at_call 16;refine(FO7 H3.out Hv.out (by omega) W _ _ (blk b9 _ _::blk bM _ _::blk bL _ _::R) .head (hS.s (zoR _ (zs.map clZ)::Old V::blk b9 _ _::blk bM _ _::blk bL _ _::R))).mono ?_;clear hS;rintro e w ⟨rfl,hS⟩|(fail_if_success (have:=mK1));(with_reducible apply BX7 kI kRo hS);rfl;rfl;clear hS;have mK1:Nat:=0;intro m1 w hS;refine frS ?_|(have:=mK1);(fail_if_success (have:=mK2));(with_reducible apply BX7 kI kB hS);rfl;rfl;clear hS;have mK2:Nat:=0;intro m2 w hS;refine frS ?_|(have:=mK2);(fail_if_success (have:=mK3));(with_reducible apply BX7 kI kI hS);rfl;rfl;clear hS;have mK3:Nat:=0;intro m3 w hS;refine frS ?_|(have:=mK3);refine zbx hS ?_ (v:=.agg #[.I ver,.I nxt,.slice va zs.length vc,.map (some m1),.slice ha hs.length hcc,.map (some m2),.map (some m3),.I hot,.I cold,.slice none 0 0]) (l:=[.I ver,.I nxt,.slice va zs.length vc,.map (some m1),.slice ha hs.length hcc,.map (some m2),.map (some m3),.I hot,.I cold,.slice none 0 0]);clear hS;intro pb w hS)
 have hS0:=(hS.s (blk pb _ _::i5 kI kRo m1 []::i5 kI kB m2 []::i5 kI kI m3 []::Old V::R)).rowNil (k:=5) (T:=64);clear hS;have hS1:St W (plP (⟨pb,m1,m2,m3,ver,nxt,hot,cold,.slice va zs.length vc,.slice ha hs.length hcc⟩:Pe) [] pn0::Old V::R) w:=E7 (E:=(⟨pb,m1,m2,m3,ver,nxt,hot,cold,.slice va zs.length vc,.slice ha hs.length hcc⟩:Pe)) (rl:=[]) (s:=pn0) (nl:=[]) (ov:=.slice none 0 0) bX4 (R:=Old V::R) (hS0.s (blk pb _ _::i5 kI kRo m1 []::i5 kI kB m2 []::i5 kI kI m3 []::row _ _ _ _ _::Old V::R));clear hS0
 go_loopw [67] (fun v67 wr=>MkR W (⟨pb,m1,m2,m3,ver,nxt,hot,cold,.slice va zs.length vc,.slice ha hs.length hcc⟩:Pe) l (Old V::R) v67 wr) (fun v67 _=>l.length-(intOf v67).toNat)
 case atStart=>exact⟨0,rfl,Nat.zero_le _,hS1⟩
 case round=>
  clear hS1;obtain⟨i,rfl,hi,hS⟩:=hrel;by_cases hil:i<l.length
  ·have d1:decide (i<l.length)=true:=decide_eq_true hil;have hnx:=Ih7 hil;obtain⟨pb2,poff,rfl,hall⟩:=Hat.out i hil;generalize l[i]=r at hnx hall;obtain⟨x0,x1,x2⟩:=r;simp only[Ro.cells]at hall;generalize H9 (l.take i)=q at hnx hS;unfold aV4 at hnx;simp only at hnx;obtain⟨nl,ov,hnm,hS1⟩:=s6 hS;clear hS;unfold plB at hS1;simp only at hS1;have hS:=hS1;clear hS1;have Hnm:=jH hnm;clear hnm hi
   cases hg:m6 q x0 with
   | none=>
    have Hq:=jH (show F9 true (.agg #[.I 0,.I 0,.string ⟨#[]⟩]) ((m6 q x0).map kRo)=.tuple #[.agg #[.I 0,.I 0,.string ⟨#[]⟩],.bool false]by rw[hg];rfl);rw[hg,if_pos (show(none:Option Ro).isNone=true from rfl)]at hnx;have Hnx:=jH hnx;clear hnx hg;go_wp2_with(first|go_big_skip|refine zlN hS ?_ (vs:=[.I x0,.I x1,.string x2]) (hc:=by exact a7.old (by exact b8) hall)|refine zal hS ?_;clear hS;intro b15 w hS|refine zsN hS ?_;clear hS;intro w hS)
    refine rf2 tB21a (fun i=>i==10) [⟨some 10,some 11,fun nd=>f7 (nd 10) [.I 0,.I 0,.string ⟨#[]⟩] 34⟩,⟨some 11,none,fun nd=>f7 (nd 10) [.I 0,.I 0,.string ⟨#[]⟩] 34⟩]
     [none,none,none,none,none,none,none] hS ?_
    intro nd
    repeat(first|refine zc1 ?_|(apply En7 (ek:=kI) (ev:=kRo) (k:=x0) (b:=m1) (l:=q) (v:=(.tuple #[.agg #[.I 0,.I 0,.string ⟨#[]⟩],.bool false])));rfl;rfl;rfl;rfl;rfl;rfl;intro F w h;exact⟨_,h.take (by exact I7)⟩;exact tIR;exact mI;exact zR0;exact Hq.out;refine frS ?_|refine zca ?_|refine zct ?_|refine zcn ?_|refine cR ?_)
    refine AC7 ?_;clear hS;intro w hS0;have hS1:St W [f7 (nd 10) [.I 0,.I 0,.string ⟨#[]⟩] 34,blk b15 _ _,blk pb _ _,i5 kI kRo m1 q,i5 kI kB m2 nl,i5 kI kI m3 pn0.mv,row _ _ _ _ _,Old V,sats R] w:=hS0;generalize nd 10=v10 at *;have hS2:St W (_::_::_::_::_::_::_::_::R) w:=hS1.unpack [_,_,_,_,_,_,_,_];clear hS0 hS1;have hS3:=hS2.ptr;clear hS2;obtain⟨b16,rfl,hS⟩:=hS3;go_wp2_with(first|go_big_skip|refine zl1 hS ?_|refine zs1 hS ?_;clear hS;intro w hS);refine rt 7 hS ?_
    repeat(first|go_big_quiet_skip|refine zq1 ?_|refine zqN ?_|refine zqn ?_|refine qR ?_)
    clear hS;intro w hS;simp only[jD,List.drop_zero];go_wp2_with(first|go_big_skip|((with_reducible apply Dk7 (ek:=kI) (ev:=kRo) (k:=x0) (u:=⟨x0,L7 x1,x2⟩) hS);rfl;rfl;rfl;rfl;exact d7;(focus(rfl));exact tIR;exact mI;clear hS;intro w hS;try(refine frS ?_)));have hS1:=E7 (E:=(⟨pb,m1,m2,m3,ver,nxt,hot,cold,.slice va zs.length vc,.slice ha hs.length hcc⟩:Pe)) (rl:=(x0,⟨x0,L7 x1,x2⟩)::C7 q x0) (s:=pn0) (nl:=nl) (ov:=ov) Hnm.out (R:=Old V::R) (hS.s (blk pb _ _::i5 kI kRo m1 _::i5 kI kB m2 nl::i5 kI kI m3 pn0.mv::row _ _ _ _ _::Old V::R));clear hS;go_roundw
    case rel=>exact⟨i+1,rfl,hil,by rw[Hnx.out];exact hS1⟩
    case measure=>simp[intOf];omega
   | some y=>
    obtain⟨y0,y1,y2⟩:=y;have Hq:=jH (show F9 true (.agg #[.I 0,.I 0,.string ⟨#[]⟩]) ((m6 q x0).map kRo)=.tuple #[.agg #[.I y0,.I y1,.string y2],.bool true]by rw[hg];rfl);rw[hg,if_neg (by simp)]at hnx;have Hnx:=jH hnx;clear hnx hg;go_wp2_with(first|go_big_skip|refine zlN hS ?_ (vs:=[.I x0,.I x1,.string x2]) (hc:=by exact a7.old (by exact b8) hall)|refine zal hS ?_;clear hS;intro b15 w hS|refine zsN hS ?_;clear hS;intro w hS)
    refine rf2 tB21a (fun i=>i==10) [⟨some 10,some 11,fun nd=>f7 (nd 10) [.I 0,.I 0,.string ⟨#[]⟩] 34⟩,⟨some 11,none,fun nd=>f7 (nd 10) [.I y0,.I y1,.string y2] 34⟩]
     [none,none,none,none,none,none,none] hS ?_
    intro nd
    repeat(first|refine zc1 ?_|(apply En7 (ek:=kI) (ev:=kRo) (k:=x0) (b:=m1) (l:=q) (v:=(.tuple #[.agg #[.I y0,.I y1,.string y2],.bool true])));rfl;rfl;rfl;rfl;rfl;rfl;intro F w h;exact⟨_,h.take (by exact I7)⟩;exact tIR;exact mI;exact zR0;exact Hq.out;refine frS ?_|refine zca ?_|refine zct ?_|refine zcn ?_|refine cR ?_)
    refine AC7 ?_;clear hS;intro w hS0;have hS1:St W [f7 (nd 10) [.I y0,.I y1,.string y2] 34,blk b15 _ _,blk pb _ _,i5 kI kRo m1 q,i5 kI kB m2 nl,i5 kI kI m3 pn0.mv,row _ _ _ _ _,Old V,sats R] w:=hS0;generalize nd 10=v10 at *;have hS2:St W (_::_::_::_::_::_::_::_::R) w:=hS1.unpack [_,_,_,_,_,_,_,_];clear hS0 hS1;have hS3:=hS2.ptr;clear hS2;obtain⟨b16,rfl,hS⟩:=hS3;go_wp2_with(first|go_big_skip);have hS1:=E7 (E:=(⟨pb,m1,m2,m3,ver,nxt,hot,cold,.slice va zs.length vc,.slice ha hs.length hcc⟩:Pe)) (rl:=q) (s:=pn0) (nl:=nl) (ov:=ov) Hnm.out (R:=Old V::R) (hS.s (blk pb _ _::i5 kI kRo m1 q::i5 kI kB m2 nl::i5 kI kI m3 pn0.mv::row _ _ _ _ _::Old V::R));go_roundw
    case rel=>exact⟨i+1,rfl,hil,by rw[Hnx.out];exact hS1⟩
    case measure=>simp[intOf];omega
  ·have d1:decide (i<l.length)=false:=decide_eq_false hil;have hie:i=l.length:=by omega
   rw[hie,List.take_length]at hS;clear hie hi;go_wp2_with(first|go_big_skip|go_at_call 17;refine(Hf7 (E:=(⟨pb,m1,m2,m3,ver,nxt,hot,cold,.slice va zs.length vc,.slice ha hs.length hcc⟩:Pe)) (rl:=H9 l) (s:=pn0) Hv.out Hid2.out Hnd.out h0 hl (Cx7 l) (Nat.zero_le _) W _ _ hS).mono ?_;clear hS;rintro e w ⟨rfl,Z,hZp,hZa,hS⟩;(have hso:=Dx7 l hot Z (pn0,16-zs.length-i7 zs 1);rw[hZp.length_eq]at hso;have Hso:=jH hso;have HZp:=jH hZp;have HZa:=jH hZa;clear hso hZp hZa;try simp only at hS)|go_at_call 18;refine(Ik7 (E:=(⟨pb,m1,m2,m3,ver,nxt,hot,cold,.slice va zs.length vc,.slice ha hs.length hcc⟩:Pe)) (rl:=H9 l) Hv.out Hh.out h0 hl hh0 hhl6 (Cx7 l) (Nat.le_trans Hso.out (by show 0+zs.length<=150;omega)) W _ _ hS).mono ?_;clear hS;rintro e w ⟨rfl,t,hmv,hto,hS⟩;(have Hmv:=jH hmv;have Hto:=jH (Nat.le_trans hto (Nat.add_le_add_right Hso.out 2));clear hmv hto)|go_at_call 19;refine(Hh7 (E:=(⟨pb,m1,m2,m3,ver,nxt,hot,cold,.slice va zs.length vc,.slice ha hs.length hcc⟩:Pe)) (rl:=H9 l) (s0:=t) Hv.out h0 hl (Cx7 l) (Nat.le_trans Hto.out (by show 0+zs.length+2<=200;omega)) W _ _ hS).mono ?_;clear hS;rintro e w ⟨rfl,hS⟩;(have hq9:=s6 hS;clear hS;obtain⟨nl,ov,hnm,hS⟩:=hq9;clear hnm;unfold plB at hS;simp only at hS)|refine zl1 hS ?_);go_ret;exact⟨ov,_,rfl,.inr ⟨HMH.out,Z,t,HZp.out,HZa.out,Hmv.out,rfl⟩,hS.s (row ov 5 64 _ _::Old V::R)⟩
theorem Jw7{zs:List Zo}{hs:List Int}{l:List Ro}{v hv rv:Value}{V:World}{ver nxt hot cold:Int}(hzv:d6 Zo.cells 9 V v zs)(hhv:d6 hC 1 V hv hs)(hrv:d6 Ro.cells 3 V rv l)(hsm:∀z∈zs,smZ z/\rgZ z)(hl:zs.length<=60)(h1:rgI ver)(h2:rgI nxt)(hhl:hs.length<=1000)(hrl:l.length<=60)(W w:World)(R:List HP)(hS:St W (Old V::R) w):
  Calls Tryz.prog 6 #[.agg #[.I ver,.I nxt,v],hv,rv,.agg #[.I hot,.I cold]] w fun e w'=>∃u out,e=.returned u/\L8 ⟨ver,nxt,zs⟩ hs l hot cold out/\St W (row u 5 64 out.length (out.flatMap Cg.cells)::Old V::R) w':=by
 by_cases hM:p7 ⟨ver,nxt,zs⟩/\n9 hs
 ·exact Il7 hM.1 hM.2 hzv hhv hrv hsm h1 h2 hrl W w R hS
 ·refine(Jv7 hM hzv hhv hrv hsm hl h1 h2 hhl hrl W w R hS).mono ?_;rintro e w' ⟨u,h,h3⟩;exact⟨u,[],h,.inl ⟨hM,rfl⟩,h3⟩
theorem AP7{f t:ByteArray}{r:Bool}(hr:isB f t=r)(W w:World)(R:List HP)(hS:St W R w):
  Calls Tryz.prog 75 #[.agg #[.string f,.string t]] w fun e w'=>e=.returned (.bool r)/\St W R w':=by
 go_enter Tryz.func75,Tryz.ntmps75;unfold isB at hr
 cases h1:decide ((f.size:Int)<=16)with
 | false=>
  rw[h1]at hr;obtain rfl:false=r:=hr;go_wp2_with(first|go_big_skip|refine zbx hS ?_;clear hS;intro bO w hS|refine zl1 hS ?_);go_ret;exact⟨rfl,hS.drop⟩
 | true=>
  rw[h1]at hr
  cases h2:decide ((t.size:Int)<=16)with
  | false=>
   rw[h2]at hr;obtain rfl:false=r:=hr;go_wp2_with(first|go_big_skip|refine zbx hS ?_;clear hS;intro bO w hS|refine zl1 hS ?_);go_ret;exact⟨rfl,hS.drop⟩
  | true=>
   rw[h2]at hr
   cases h3:t.toList==[]with
   | true=>
    rw[h3]at hr;obtain rfl:true=r:=hr;go_wp2_with(first|go_big_skip|refine zbx hS ?_;clear hS;intro bO w hS|refine zl1 hS ?_);go_ret;exact⟨rfl,hS.drop⟩
   | false=>
    rw[h3]at hr;have hr2:(!ltU t f&&!(t.toList==f.toList))=r:=hr;have Hr:=jH hr2;clear hr hr2;go_wp2_with(first|go_big_skip|refine zbx hS ?_;clear hS;intro bO w hS|refine zl1 hS ?_);go_ret;rw[<-Hr.out];exact⟨rfl,hS.drop⟩
theorem Im7{f t k:ByteArray}{r:Bool}(hr:inB f t k=r)(W w:World)(R:List HP)(hS:St W R w):
  Calls Tryz.prog 76 #[.agg #[.string f,.string t],.string k] w fun e w'=>e=.returned (.bool r)/\St W R w':=by
 go_enter Tryz.func76,Tryz.ntmps76;unfold inB at hr
 cases h1:isB f t with
 | false=>
  rw[h1]at hr;obtain rfl:false=r:=hr;have H1:=jH h1;clear h1;go_wp2_with(first|go_big_skip|refine zbx hS ?_;clear hS;intro bO w hS|refine zlN hS ?_|refine zl1 hS ?_|go_at_call 75;refine(AP7 H1.out W _ _ hS).mono ?_;clear hS;rintro e w ⟨rfl,hS⟩);go_ret;exact⟨rfl,hS.drop⟩
 | true=>
  rw[h1]at hr;have H1:=jH h1;clear h1
  cases h2:decide (1<=(k.size:Int))with
  | false=>
   rw[h2]at hr;obtain rfl:false=r:=hr;go_wp2_with(first|go_big_skip|refine zbx hS ?_;clear hS;intro bO w hS|refine zlN hS ?_|refine zl1 hS ?_|go_at_call 75;refine(AP7 H1.out W _ _ hS).mono ?_;clear hS;rintro e w ⟨rfl,hS⟩);go_ret;exact⟨rfl,hS.drop⟩
  | true=>
   rw[h2]at hr
   cases h3:decide ((k.size:Int)<=16)with
   | false=>
    rw[h3]at hr;obtain rfl:false=r:=hr;go_wp2_with(first|go_big_skip|refine zbx hS ?_;clear hS;intro bO w hS|refine zlN hS ?_|refine zl1 hS ?_|go_at_call 75;refine(AP7 H1.out W _ _ hS).mono ?_;clear hS;rintro e w ⟨rfl,hS⟩);go_ret;exact⟨rfl,hS.drop⟩
   | true=>
    rw[h3]at hr
    cases h4:Op.bytesLess k.toList f.toList with
    | true=>
     rw[show ltU k f=true from h4]at hr;obtain rfl:false=r:=hr;go_wp2_with(first|go_big_skip|refine zbx hS ?_;clear hS;intro bO w hS|refine zlN hS ?_|refine zl1 hS ?_|go_at_call 75;refine(AP7 H1.out W _ _ hS).mono ?_;clear hS;rintro e w ⟨rfl,hS⟩);go_ret;exact⟨rfl,hS.drop⟩
    | false=>
     rw[show ltU k f=false from h4]at hr
     cases h5:t.toList==[]with
     | true=>
      rw[h5]at hr;obtain rfl:true=r:=hr;go_wp2_with(first|go_big_skip|refine zbx hS ?_;clear hS;intro bO w hS|refine zlN hS ?_|refine zl1 hS ?_|go_at_call 75;refine(AP7 H1.out W _ _ hS).mono ?_;clear hS;rintro e w ⟨rfl,hS⟩);go_ret;exact⟨rfl,hS.drop⟩
     | false=>
      rw[h5]at hr;have hr2:ltU k t=r:=hr;have Hr:=jH hr2;clear hr hr2;go_wp2_with(first|go_big_skip|refine zbx hS ?_;clear hS;intro bO w hS|refine zlN hS ?_|refine zl1 hS ?_|go_at_call 75;refine(AP7 H1.out W _ _ hS).mono ?_;clear hS;rintro e w ⟨rfl,hS⟩);go_ret;rw[<-Hr.out];exact⟨rfl,hS.drop⟩
theorem BO7{f t k:ByteArray}{r:Bool}(hr:aa4 f t k=r)(W w:World)(R:List HP)(hS:St W R w):
  Calls Tryz.prog 76 #[.agg #[.string f,.string t],.string k] w fun e w'=>e=.returned (.bool r)/\St W R w':=Im7 ((II7 f t k).trans hr) W w R hS
theorem BP7{α:Type}{enc:α->List Value}{k:Nat}(henc:∀x,(enc x).length=k){xs:List α}{cs:List Value}{b c:Nat}{T:TypeId}{W w:World}{L R:List HP}(h63:xs.length<=9223372036854775807)(ht:Take L (blk b cs T) R)(he:xs.flatMap enc=cs)(hS:St W L w):d6 enc k w (.S b xs.length c) xs:=by
 subst he;refine⟨some ⟨b,0,none⟩,c,rfl,h63,fun i hi=>⟨b,0,rfl,fun j u hj=>?_⟩⟩;have hl:j<k:=by have:=(List.getElem?_eq_some_iff.1 hj).1;rwa [henc]at this
 rw[Nat.zero_add];have h9:=AX7 henc xs [] i hi j hl;rw[List.append_nil]at h9;exact(hS.take ht).cell .head (h9.trans hj)
theorem Ep7{zs:List Zo}{hs:List Int}{l:List Ro}{v hv rv:Value}{ver nxt hot cold:Int}{W w:World}{R:List HP}(hzv:d6 Zo.cells 9 w v zs)(hhv:d6 hC 1 w hv hs)(hrv:d6 Ro.cells 3 w rv l)(hsm:∀z∈zs,smZ z/\rgZ z)(hl:zs.length<=60)(h1:rgI ver)(h2:rgI nxt)(hhl:hs.length<=1000)(hrl:l.length<=60)(hS:St W R w):
  Calls Tryz.prog 6 #[.agg #[.I ver,.I nxt,v],hv,rv,.agg #[.I hot,.I cold]] w fun e w'=>∃u out,e=.returned u/\L8 ⟨ver,nxt,zs⟩ hs l hot cold out/\St W (row u 5 64 out.length (out.flatMap Cg.cells)::R) w':=by
 refine(Jw7 hzv hhv hrv hsm hl h1 h2 hhl hrl w w [] (St.start w)).mono ?_;rintro e w' ⟨u,out,rfl,hm,h2⟩;exact⟨u,out,rfl,hm,St.rebase (A:=[row u 5 64 out.length (out.flatMap Cg.cells)]) hS h2⟩
theorem cb4(s:ByteArray)(w:World):(Instr.build 53 #[(1,.string s)]).run Tryz.prog w=.ok (.agg #[.string bN,.string s]) w:=by kernel_rfl
theorem cc4(s:ByteArray)(w:World):(Instr.build 53 #[(0,.string s)]).run Tryz.prog w=.ok (.agg #[.string s,.string bN]) w:=by kernel_rfl
theorem cd4(w:World):(Instr.build 53 #[]).run Tryz.prog w=.ok (.agg #[.string bN,.string bN]) w:=by kernel_rfl
theorem ce4(a o e:Int)(w:World):(Instr.build 55 #[(0,.I a),(2,.I o),(3,.I e)]).run Tryz.prog w=.ok (.agg #[.I a,.string bN,.string bN,.I o,.I e,.I 0,.I 0,.string bN,.I 0]) w:=by kernel_rfl
theorem cf4(a o e:Int)(s t:ByteArray)(w:World):(Instr.build 55 #[(0,.I a),(1,.agg #[.string s,.string t]),(2,.I o),(3,.I e)]).run Tryz.prog w=.ok (.agg #[.I a,.string s,.string t,.I o,.I e,.I 0,.I 0,.string bN,.I 0]) w:=by kernel_rfl
theorem cg4(x y:Int)(a:Option Addr)(n c:Nat)(w:World):(Instr.build 24 #[(0,.I x),(1,.I y),(2,.slice a n c)]).run Tryz.prog w=.ok (.agg #[.I x,.I y,.slice a n c]) w:=by kernel_rfl
theorem ch4(x y:Int)(w:World):(Instr.build 34 #[(0,.I x),(1,.I y)]).run Tryz.prog w=.ok (.agg #[.I x,.I y,.string bN]) w:=by kernel_rfl
theorem ci4(x y:Int)(s:ByteArray)(w:World):(Instr.build 34 #[(0,.I x),(1,.I y),(2,.string s)]).run Tryz.prog w=.ok (.agg #[.I x,.I y,.string s]) w:=by kernel_rfl
theorem cj4(x:Int)(w:World):(Instr.build 28 #[(0,.I x)]).run Tryz.prog w=.ok (.agg #[.I x,.I 0]) w:=by kernel_rfl
theorem ck4(x y:Int)(w:World):(Instr.build 28 #[(0,.I x),(1,.I y)]).run Tryz.prog w=.ok (.agg #[.I x,.I y]) w:=by kernel_rfl
theorem cl4(x y z:Int)(w:World):(Instr.build 64 #[(0,.I x),(1,.I y),(3,.I z)]).run Tryz.prog w=.ok (.agg #[.I x,.I y,.I 0,.I z,.string bN]) w:=by kernel_rfl
theorem cm4(x y:Int)(s:ByteArray)(w:World):(Instr.build 64 #[(0,.I x),(1,.I y),(4,.string s)]).run Tryz.prog w=.ok (.agg #[.I x,.I y,.I 0,.I 0,.string s]) w:=by kernel_rfl
theorem bE4(a b c d:Int)(s:ByteArray)(w:World):(Op.equalIn 10000 64 (.agg #[.I a,.I b,.I c,.I d,.string s]) (.agg #[.I a,.I b,.I c,.I d,.string s])).run Tryz.prog w=.ok true w:=by
 have u9:=Tryz.underlying9;have a9:=Tryz.isAgg9;have z9:=Tryz.sizeOf9;have u3:=Tryz.underlying3;have a3:=Tryz.isAgg3;have z3:=Tryz.sizeOf3;have hs:Tryz.prog.stoodInHeld 64=false:=by kernel_rfl
 rw[Op.equalIn];simp only[Sem.run_bind,run_underlying Tryz.underlying64,Result.andThen_ok,run_program,hs,Bool.false_eq_true,if_false];rw[<-Array.forIn_toList];simp only[List.forIn_cons,List.forIn_nil]
 go_simp
 try simp
theorem Kf7(o:Int)(ep:Int)(h1:rgI o)(h2:rgI ep):∀z∈twZ o ep,smZ z/\rgZ z:=by
 have r:∀n:Int, -5<=n->n<=5->rgI n:=fun n a b=>by unfold rgI;omega
 have r8:rgI 8:=by unfold rgI;omega
 intro z hz
 rcases List.mem_cons.1 hz with rfl|hz
 ·exact⟨⟨(by decide:(0:Nat)<=60),(by decide:(1:Nat)<=60),(by decide:(0:Nat)<=60)⟩,r 1 (by omega) (by omega),r8,h2,r 0 (by omega) (by omega),r 0 (by omega) (by omega),r 0 (by omega) (by omega)⟩
 ·obtain rfl:=List.mem_singleton.1 hz;exact⟨⟨(by decide:(1:Nat)<=60),(by decide:(0:Nat)<=60),(by decide:(0:Nat)<=60)⟩,r 2 (by omega) (by omega),h1,h2,r 0 (by omega) (by omega),r 0 (by omega) (by omega),r 0 (by omega) (by omega)⟩
theorem In7(W w:World)(R:List HP)(hS:St W R w):Calls Tryz.prog 11 #[] w fun e w'=>e=.returned (.bool true)/\St W R w':=by
 go_enter Tryz.func11,Tryz.ntmps11;go_wp2_with(first|(with_reducible apply Bp7);rfl;rfl;(focus(simp only[fD,fI,fJ,Act.eval,fE,fF,fG,fH,fK];try rfl));(intro w;first|exact cb4 _ w|exact cc4 _ w|exact cd4 w|exact ce4 _ _ _ w|exact cf4 _ _ _ _ _ w|exact cg4 _ _ _ _ _ w|exact ch4 _ _ w|exact ci4 _ _ _ w|exact cj4 _ w|exact ck4 _ _ w|exact cl4 _ _ _ w|exact cm4 _ _ _ w);refine frS ?_|(with_reducible apply IH7 (r:=true));rfl;rfl;rfl;rfl;kernel_rfl;intro w;exact bE4 _ _ _ _ _ w;refine frS ?_|go_big_skip|refine zbs hS ?_;clear hS;intro bS w hS|(fail_if_success (have:=mA9));(refine zal hS ?_;clear hS;have mA9:Nat:=0;intro b9 w hS)|refine zsN hS ?_;clear hS;intro w hS|(fail_if_success (have:=mMK));refine zlN hS ?_|(have:=mMK);refine zlN hS ?_ (vs:=[.I 3,.I 1,.I 0,.I 9,.string bN]) (hc:=by exact a7.elem (enc:=Cg.cells) Cg.len (xs:=[⟨3,1,0,9,bN⟩]) (i:=0) (by simp))|((go_at_call 6;refine(Ep7 (zs:=(twZ 8 2)) (hs:=[8,9]) (l:=[⟨1,5,bN⟩,⟨2,4,bN⟩]) (BP7 Zo.len (by decide) (by(focus((repeat(first|exact .head|apply Take.tail));done))) rfl hS) (BP7 Cs7 (by decide) (by(focus((repeat(first|exact .head|apply Take.tail));done))) rfl hS) (BP7 Ro.len (by decide) (by(focus((repeat(first|exact .head|apply Take.tail));done))) rfl hS) ((Kf7 8 2 (by unfold rgI;omega) (by unfold rgI;omega))) (by decide) (by unfold rgI;omega) (by unfold rgI;omega) (by decide) (by decide) hS).mono ?_;clear hS;rintro e w ⟨u,out,rfl,hmk,hS⟩);have hmk9:=FA7 hmk;clear hmk;subst hmk9;rcases hS.rowOpen with ⟨_,h9,_⟩|⟨g,cap,junk,rfl,_,_,_,_,hS1⟩;(focus(cases h9));clear hS;have hS:=hS1;clear hS1;have mMK:Nat:=0));go_ret;exact⟨rfl,hS.s _⟩
end Go.Proofs.YtjcfifkjbaffnaaGreat
end
