/-
  The document's reader of an economy.
-/
import Derived.Test.YtlmhakmoioogaaaGreatEconDcM4
import Derived.Test.YtlmhakmoioogaaaGreatEconDcM34
set_option maxHeartbeats 16000000
set_option maxRecDepth 100000
set_option linter.unusedSimpArgs false
set_option linter.unusedVariables false
section
namespace Go.Sl
open Go.RowKit
section
variable{P:Program}{W:World}{ops:Array Oper}{t:List Nat}{toks:List Tok}{fresh:Nat->Bool}{pin:Nat->Option Value}{Qf:Act->Prop}{nd:Nat->Value}{i:Nat}{o:Oper}{l:List Oper}{a:Act}
theorem CF7{src dst e:TypeId}{x:Operand}{v0:Value}{ns:List Int}(hf:fresh i=false)(hn:ah4 toks i=true)(ho:o.op=.convert src dst x)(hg:Region.wanted o (yielded ops a.tmps)=true)(hx:a.eval x=v0)
  (hs:P.underlying src=some (.slice e)) (he:P.underlying e=some (.int .u8)) (hd:P.underlying dst=some .string) (hr:∀F, ∃R,Take (kpL toks t i nd++F) (row v0 1 e ns.length (ns.map (Value.int .u8))) R)
  (h:p8 P W ops t toks fresh pin Qf nd (i+1) l (a.put o.dst (.string (x6 ns)))):p8 P W ops t toks fresh pin Qf nd i (o::l) a:=
 Em7 hf hn hg (fun F w hS=>by
  obtain⟨R,hu⟩:=hr F;rcases(hS.take hu).rowOpen with ⟨rfl,h0,_,_⟩|⟨g,cap,junk,rfl,_,_,_,_,hS'⟩
  ·have hn:ns=[]:=List.eq_nil_of_length_eq_zero h0;subst hn;unfold execOp;simp[ho,hx,run_convert_bytes_string w src dst e none 0 0 hs he hd,Conv.bytesToString,x6,Sem.run_pure]
  ·have h1:=run_loadCells_list (P:=P) w ⟨g,0,none⟩ (ns.map (Value.int .u8)) (fun j v hj=>by
    rw[Addr.add_lit,Nat.zero_add];exact hS'.cell .head (by rw[List.getElem?_append_left (List.getElem?_eq_some_iff.1 hj).1];exact hj))
   rw[jM]at h1;have h2:=run_bytesToString (P:=P) w ⟨g,0,none⟩ ns.length cap ns h1;unfold execOp;simp[ho,hx,run_convert_bytes_string w src dst e (jP g) ns.length cap hs he hd,h2,x6]) h
end
end Go.Sl
namespace Go.Proofs.YtlmhakmoioogaaaGreat
open Go.RowKit Go.Sl
theorem ID7{e i x0 x1 x2 x3:Int}{r:Bool}(he:0<=e)(hi:0<=i)(he2:e<=19)(hr:rpM e i x0 x1 x2 x3=r)(W w:World)(R:List HP)(hS:St W R w):
  Calls Tryz.prog 193 #[rV e i x0 x1 x2 x3] w fun x w'=>x=.returned (.bool r)/\St W R w':=by
 have d0:decide (0<=e)=true:=by simpa using he
 have d2:decide (0<=i)=true:=by simpa using hi
 have d1:decide (e<=19)=true:=by simpa using he2
 unfold rpM at hr;rw[d1,Bool.true_and]at hr
 cases d3:decide (i<=1099511627776)with
 | false=>
  rw[d3,Bool.false_and]at hr;subst hr;go_enter Tryz.func193,Tryz.ntmps193;go_wp2_with(first|go_big_skip|refine zbx hS ?_;clear hS;intro bO w hS|refine zl1 hS ?_);go_ret;exact⟨rfl,hS.drop⟩
 | true=>
  rw[d3,Bool.true_and]at hr;have Hi:=jH hr;clear hr;go_enter Tryz.func193,Tryz.ntmps193;go_wp2_with(first|go_big_skip|refine zbx hS ?_;clear hS;intro bO w hS|refine zl1 hS ?_|refine zlN hS ?_ (vs:=[.I x0,.I x1,.I x2,.I x3]) (hc:=by exact d7.here rfl)|go_at_call 116;refine(HJ7 _ _ _ _ W _ _ hS).mono ?_;clear hS;rw[Hi.out];rintro e w ⟨rfl,hS⟩);go_ret;exact⟨rfl,hS.drop⟩
theorem IE7(D:HP)(rb:Nat)(s s5:RS){x0 x1 x2 x3:Int}(hi:B8 s=⟨x0,x1,x2,x3⟩)(h5:(if w8 ⟨x0,x1,x2,x3⟩=true then K8 s else none)=s5)(h:RdOk s)(W w:World)(R R':List HP)(ht:Take R D R')(hS:St W (rdX D rb s::R) w):
  Calls Tryz.prog 200 #[.P rb] w fun e w'=>e=.returned (.agg #[.I x0,.I x1,.I x2,.I x3])/\St W (rdX D rb s5::R) w':=Rx7 D rb s s5 ⟨x0,x1,x2,x3⟩ hi h5 h W w R R' ht hS
theorem Bn7{r0 r1 r2 r3 r4 r5:Int}{rx:List Int}(h:bj4 rx ⟨r0,r1,⟨r2,r3,r4,r5⟩⟩)(v:Value)(W w:World)(R:List HP)(hS:St W (byR v rx::R) w):
  Calls Tryz.prog 160 #[v] w fun x w'=>x=.returned (.tuple #[rV r0 r1 r2 r3 r4 r5,.I 0])/\St W R w':=by
 have hl:=Dx7 ⟨r0,r1,⟨r2,r3,r4,r5⟩⟩;have hby:ByB (rpB ⟨r0,r1,⟨r2,r3,r4,r5⟩⟩):=Ay7 (AG7 Av7 _) (AG7 Av7 _);have hsx:=Gb7 h.1;rw[<-h.2]at hl hby hsx;have hrd:RdOk (some rx):=⟨fun l hl2=>by cases hl2;exact hby,fun l hl2=>by cases hl2;omega⟩
 obtain⟨a,c,rfl,hd⟩:=BF7 hS;obtain⟨⟨e,s1⟩,n1⟩:∃y,d8 (some rx)=y:=⟨_,rfl⟩
 obtain⟨⟨i,s2⟩,n2⟩:∃y,d8 s1=y:=⟨_,rfl⟩
 obtain⟨⟨x0,x1,x2,x3⟩,hit⟩:∃y,B8 s2=y:=⟨_,rfl⟩
 obtain⟨s5,h5⟩:∃s5,(if w8 ⟨x0,x1,x2,x3⟩=true then K8 s2 else none)=s5:=⟨_,rfl⟩
 have h0:=(At7 (some rx)).1;have h1:=(At7 s1).1;rw[n1]at h0;rw[n2]at h1;simp only at h0 h1;have hk1:RdOk s1:=by have:=hrd.num;rw[n1]at this;exact this
 have hk2:RdOk s2:=by have:=hk1.num;rw[n2]at this;exact this
 have hsix:w6 6 (some rx)=([e,i,x0,x1,x2,x3],K8 s2):=by
  have e1:B8 s2=⟨x0,x1,x2,x3⟩:=hit;unfold B8 at e1
  injection e1 with q1 q2 q3 q4
  rw[<-q1,<-q2,<-q3,<-q4];have e2:w6 6 (some rx)=((d8 (some rx)).1::(w6 5 (d8 (some rx)).2).1,(w6 5 (d8 (some rx)).2).2):=rfl;rw[e2,n1];simp only;have e3:w6 5 s1=((d8 s1).1::(w6 4 (d8 s1).2).1,(w6 4 (d8 s1).2).2):=rfl;rw[e3,n2];rfl
 have Hok:=jH hrd;have Hok1:=jH hk1;have Hok2:=jH hk2;have N1:=jH n1;have N2:=jH n2;have Hit:=jH hit;have H5:=jH h5;rw[hsix]at hsx;simp only[Prod.mk.injEq,List.cons.injEq,and_true]at hsx;obtain⟨⟨rfl,rfl,rfl,rfl,rfl,rfl⟩,hend⟩:=hsx;have h2:e<=19:=h.1.e1;have hI:w8 ⟨x0,x1,x2,x3⟩=true:=h.1.has;rw[hI,if_pos rfl,hend]at h5;subst h5;have hr:rpM e i x0 x1 x2 x3=true:=by have i1:i<=1099511627776:=h.1.i1;unfold rpM;rw[hI,decide_eq_true h2,decide_eq_true i1];rfl
 have Hend:=jH (show ar4 (some [])=true from rfl);have Hr:=jH hr;have Hd:=jH hd;have d19:decide (19<e)=false:=by simp;omega
 obtain⟨s5,hs5⟩:∃s5:RS,some []=s5:=⟨_,rfl⟩
 rw[hs5]at H5 Hend;clear h hl hby hrd n1 n2 hk1 hk2 hsix hit hI hr hend hd hs5;go_enter Tryz.func160,Tryz.ntmps160;go_wp2_with(first|go_big_skip|(fail_if_success (have:=a1));(refine zal hS ?_;clear hS;have a1:Nat:=0;intro b0 w hS)|(have:=a1);refine zal hS ?_;clear hS;intro bX w hS|(fail_if_success (have:=a3));(refine zbx hS ?_;clear hS;have a3:Nat:=0;intro rb w hS)|(fail_if_success (have:=a4));(go_at_call 97;refine(Ae7 N1.out Hok.out W _ _ _ (.tail .head) (j7 Hd.out hS)).mono ?_;clear hS;have a4:Nat:=0;rintro ex w ⟨rfl,hS⟩)|(have:=a4);go_at_call 97;refine(Ae7 N2.out Hok1.out W _ _ _ (.tail .head) hS).mono ?_;clear hS;rintro ex w ⟨rfl,hS⟩|go_at_call 200;refine(IE7 _ rb s2 s5 Hit.out H5.out Hok2.out W _ _ _ (.tail .head) (hS.s (rdX _ rb s2::blk b0 _ _::byR _ rx::blk bX _ _::R))).mono ?_;clear hS;rintro ex w ⟨rfl,hS⟩|go_at_call 100;refine(AT7 _ rb s5 W _ _ (hS.s (rdX _ rb s5::blk b0 _ _::byR _ rx::blk bX _ _::R))).mono ?_;clear hS;rw[Hend.out];rintro ex w ⟨rfl,hS⟩|go_at_call 193;refine(ID7 h0 h1 h2 Hr.out W _ _ hS).mono ?_;clear hS;rintro ex w ⟨rfl,hS⟩|refine zsN hS ?_;clear hS;intro w hS|refine zlN hS ?_|refine zs1 hS ?_;clear hS;intro w hS|refine zl1 hS ?_);apply Ab7;rfl;rfl;rfl;rfl;exact hS;decide +kernel;(exact x9);kernel_rfl;exact⟨rfl,hS.s _⟩
theorem Bo7{rx:List Int}(h:∀y,¬bj4 rx y)(hby:ByB rx)(hl:rx.length<=1000000)(v:Value)(W w:World)(R:List HP)(hS:St W (byR v rx::R) w):
  Calls Tryz.prog 160 #[v] w fun x w'=>x=.returned (.tuple #[rV 0 0 0 0 0 0,.I 3])/\St W R w':=by
 have hrd:RdOk (some rx):=⟨fun l hl2=>by cases hl2;exact hby,fun l hl2=>by cases hl2;omega⟩
 obtain⟨a,c,rfl,hd⟩:=BF7 hS;obtain⟨⟨e,s1⟩,n1⟩:∃y,d8 (some rx)=y:=⟨_,rfl⟩
 obtain⟨⟨i,s2⟩,n2⟩:∃y,d8 s1=y:=⟨_,rfl⟩
 obtain⟨⟨x0,x1,x2,x3⟩,hit⟩:∃y,B8 s2=y:=⟨_,rfl⟩
 obtain⟨s5,h5⟩:∃s5,(if w8 ⟨x0,x1,x2,x3⟩=true then K8 s2 else none)=s5:=⟨_,rfl⟩
 have h0:=(At7 (some rx)).1;have h1:=(At7 s1).1;rw[n1]at h0;rw[n2]at h1;simp only at h0 h1;have hk1:RdOk s1:=by have:=hrd.num;rw[n1]at this;exact this
 have hk2:RdOk s2:=by have:=hk1.num;rw[n2]at this;exact this
 have hsix:w6 6 (some rx)=([e,i,x0,x1,x2,x3],K8 s2):=by
  have e1:B8 s2=⟨x0,x1,x2,x3⟩:=hit;unfold B8 at e1
  injection e1 with q1 q2 q3 q4
  rw[<-q1,<-q2,<-q3,<-q4];have e2:w6 6 (some rx)=((d8 (some rx)).1::(w6 5 (d8 (some rx)).2).1,(w6 5 (d8 (some rx)).2).2):=rfl;rw[e2,n1];simp only;have e3:w6 5 s1=((d8 s1).1::(w6 4 (d8 s1).2).1,(w6 4 (d8 s1).2).2):=rfl;rw[e3,n2];rfl
 have Hok:=jH hrd;have Hok1:=jH hk1;have Hok2:=jH hk2;have N1:=jH n1;have N2:=jH n2;have Hit:=jH hit;have H5:=jH h5;have Hd:=jH hd;have hb:=Eg7 6 (s:=some rx) (r:=[]) hrd.b;rw[hsix]at hb;simp only at hb
 cases he:ar4 s5 with
 | false=>
  have Hend:=jH he;clear h hl hby hrd n1 n2 hk1 hk2 hsix hit hd he hb h5;go_enter Tryz.func160,Tryz.ntmps160;go_wp2_with(first|go_big_skip|(fail_if_success (have:=a1));(refine zal hS ?_;clear hS;have a1:Nat:=0;intro b0 w hS)|(have:=a1);refine zal hS ?_;clear hS;intro bX w hS|(fail_if_success (have:=a3));(refine zbx hS ?_;clear hS;have a3:Nat:=0;intro rb w hS)|(fail_if_success (have:=a4));(go_at_call 97;refine(Ae7 N1.out Hok.out W _ _ _ (.tail .head) (j7 Hd.out hS)).mono ?_;clear hS;have a4:Nat:=0;rintro ex w ⟨rfl,hS⟩)|(have:=a4);go_at_call 97;refine(Ae7 N2.out Hok1.out W _ _ _ (.tail .head) hS).mono ?_;clear hS;rintro ex w ⟨rfl,hS⟩|go_at_call 200;refine(IE7 _ rb s2 s5 Hit.out H5.out Hok2.out W _ _ _ (.tail .head) (hS.s (rdX _ rb s2::blk b0 _ _::byR _ rx::blk bX _ _::R))).mono ?_;clear hS;rintro ex w ⟨rfl,hS⟩|go_at_call 100;refine(AT7 _ rb s5 W _ _ (hS.s (rdX _ rb s5::blk b0 _ _::byR _ rx::blk bX _ _::R))).mono ?_;clear hS;rw[Hend.out];rintro ex w ⟨rfl,hS⟩|go_at_call 193;refine(ID7 h0 h1 h2 Hr.out W _ _ hS).mono ?_;clear hS;rintro ex w ⟨rfl,hS⟩|refine zsN hS ?_;clear hS;intro w hS|refine zlN hS ?_|refine zs1 hS ?_;clear hS;intro w hS|refine zl1 hS ?_);apply Ab7;rfl;rfl;rfl;rfl;exact hS;decide +kernel;(exact x9);kernel_rfl;exact⟨rfl,hS.s _⟩
 | true=>
  have Hend:=jH he;by_cases h2:e<=19
  ·have d19:decide (19<e)=false:=by simp;omega
   have hr:rpM e i x0 x1 x2 x3=false:=by
    cases hr:rpM e i x0 x1 x2 x3 with
    | false=>rfl
    | true=>
     have h6:=RC7 h0 h1 hr;refine absurd ⟨h6,?_⟩ (h ⟨e,i,⟨x0,x1,x2,x3⟩⟩);have h7:w8 ⟨x0,x1,x2,x3⟩=true:=h6.has;have h8:=H5.out;rw[h7,if_pos rfl,Fu7 he]at h8;have h9:=Option.some.inj (hb h8);rw[List.append_nil]at h9;rw[He7];exact h9
   have Hr:=jH hr;clear h hl hby hrd n1 n2 hk1 hk2 hsix hit hd he hb hr h5;go_enter Tryz.func160,Tryz.ntmps160;go_wp2_with(first|go_big_skip|(fail_if_success (have:=a1));(refine zal hS ?_;clear hS;have a1:Nat:=0;intro b0 w hS)|(have:=a1);refine zal hS ?_;clear hS;intro bX w hS|(fail_if_success (have:=a3));(refine zbx hS ?_;clear hS;have a3:Nat:=0;intro rb w hS)|(fail_if_success (have:=a4));(go_at_call 97;refine(Ae7 N1.out Hok.out W _ _ _ (.tail .head) (j7 Hd.out hS)).mono ?_;clear hS;have a4:Nat:=0;rintro ex w ⟨rfl,hS⟩)|(have:=a4);go_at_call 97;refine(Ae7 N2.out Hok1.out W _ _ _ (.tail .head) hS).mono ?_;clear hS;rintro ex w ⟨rfl,hS⟩|go_at_call 200;refine(IE7 _ rb s2 s5 Hit.out H5.out Hok2.out W _ _ _ (.tail .head) (hS.s (rdX _ rb s2::blk b0 _ _::byR _ rx::blk bX _ _::R))).mono ?_;clear hS;rintro ex w ⟨rfl,hS⟩|go_at_call 100;refine(AT7 _ rb s5 W _ _ (hS.s (rdX _ rb s5::blk b0 _ _::byR _ rx::blk bX _ _::R))).mono ?_;clear hS;rw[Hend.out];rintro ex w ⟨rfl,hS⟩|go_at_call 193;refine(ID7 h0 h1 h2 Hr.out W _ _ hS).mono ?_;clear hS;rintro ex w ⟨rfl,hS⟩|refine zsN hS ?_;clear hS;intro w hS|refine zlN hS ?_|refine zs1 hS ?_;clear hS;intro w hS|refine zl1 hS ?_);apply Ab7;rfl;rfl;rfl;rfl;exact hS;decide +kernel;(exact x9);kernel_rfl;exact⟨rfl,hS.s _⟩
  ·have d19:decide (19<e)=true:=by simp;omega
   clear h hl hby hrd n1 n2 hk1 hk2 hsix hit hd he hb h5;go_enter Tryz.func160,Tryz.ntmps160;go_wp2_with(first|go_big_skip|(fail_if_success (have:=a1));(refine zal hS ?_;clear hS;have a1:Nat:=0;intro b0 w hS)|(have:=a1);refine zal hS ?_;clear hS;intro bX w hS|(fail_if_success (have:=a3));(refine zbx hS ?_;clear hS;have a3:Nat:=0;intro rb w hS)|(fail_if_success (have:=a4));(go_at_call 97;refine(Ae7 N1.out Hok.out W _ _ _ (.tail .head) (j7 Hd.out hS)).mono ?_;clear hS;have a4:Nat:=0;rintro ex w ⟨rfl,hS⟩)|(have:=a4);go_at_call 97;refine(Ae7 N2.out Hok1.out W _ _ _ (.tail .head) hS).mono ?_;clear hS;rintro ex w ⟨rfl,hS⟩|go_at_call 200;refine(IE7 _ rb s2 s5 Hit.out H5.out Hok2.out W _ _ _ (.tail .head) (hS.s (rdX _ rb s2::blk b0 _ _::byR _ rx::blk bX _ _::R))).mono ?_;clear hS;rintro ex w ⟨rfl,hS⟩|go_at_call 100;refine(AT7 _ rb s5 W _ _ (hS.s (rdX _ rb s5::blk b0 _ _::byR _ rx::blk bX _ _::R))).mono ?_;clear hS;rw[Hend.out];rintro ex w ⟨rfl,hS⟩|go_at_call 193;refine(ID7 h0 h1 h2 Hr.out W _ _ hS).mono ?_;clear hS;rintro ex w ⟨rfl,hS⟩|refine zsN hS ?_;clear hS;intro w hS|refine zlN hS ?_|refine zs1 hS ?_;clear hS;intro w hS|refine zl1 hS ?_);apply Ab7;rfl;rfl;rfl;rfl;exact hS;decide +kernel;(exact x9);kernel_rfl;exact⟨rfl,hS.s _⟩
def RsX(W:World)(D:HP)(xb rb:Nat)(b1:List Int)(n:Nat)(d:Ec)(R:List HP)(v:Value)(w:World):Prop:=
 ∃l m,v=.I (l.length:Nat)/\l.length<=n/\D5 O7 b1 l m/\Asc ltI l/\RdN (some m) 9000/\St W (rdX D rb (some m)::L6 xb ⟨d.vs,l,d.ts,d.ar⟩::R) w
theorem Mt7(v:Value)(l:List (Int×(Int×Rpl)))(x:Int×(Int×Rpl)):xsP v (l++[x])=row v 8 143 (l.length+1) (l.flatMap seC++seC x):=by unfold xsP;rw[jA,List.flatMap_append];simp
theorem JY7(c q:Int):whB c q=true\/c<1\/(1<=c/\1048576<c)\/((1<=c/\c<=1048576)/\q<1)\/((1<=c/\c<=1048576)/\1<=q/\1099511627776<q):=by unfold whB;simp only[jB,decide_eq_true_eq];omega
abbrev tB34a:List Nat:=[0,0,2,6,14,0,32,126,255,511,1023]
theorem Ne7{xb rb:Nat}{D:HP}{s:RS}{d:Ec}(hd:d.ss=[])(h:RdN s 9000)(W w:World)(R R':List HP)(ht:Take R D R')(hS:St W (rdX D rb s::L6 xb d::R) w):
  Calls Tryz.prog 95 #[.P xb,.P rb] w fun x w'=>x=.returned (.tuple #[])/\ew4 ltI O7 W D xb rb s (fun l=>⟨d.vs,l,d.ts,d.ar⟩) R w':=by
 obtain⟨⟨n,s1⟩,h1⟩:∃y,d8 s=y:=⟨_,rfl⟩
 have hr:=At7 s;have hn1:RdN s1 9000:=by have:=h.num;rw[h1]at this;exact this
 have h0:s1=none->n=0:=fun h2=>by have h3:=Bv7 (s:=s) (by rw[h1];exact h2);rw[h1]at h3;exact h3
 rw[h1]at hr;simp only at hr;obtain⟨n,rfl⟩:∃k:Nat,n=k:=⟨n.toNat,by omega⟩
 have hd2:d=⟨d.vs,[],d.ts,d.ar⟩:=by rw[<-hd]
 rw[hd2]at hS;have Hok:=jH (h.ok (by decide));have H1:=jH h1;have Hn1:=jH hn1
 cases s1 with
 | none=>
  have hn0:n=0:=by have:=h0 rfl;omega
  subst hn0;have Hno:=jH (IC7 (lt:=ltI) (S:=O7) h1);clear h h1 hn1 hr h0 hd hd2;go_enter Tryz.func95,Tryz.ntmps95;go_wp2_with(first|go_big_skip|go_at_call 97;refine(Ae7 H1.out Hok.out W _ _ _ (.tail ht) hS).mono ?_;clear hS;rintro x w ⟨rfl,hS⟩)
  go_loopw [5] (fun v wr=>v=.I 0/\St W (rdX D rb none::R) wr) (fun _ _=>0)
  case atStart=>exact⟨rfl,hS.s _⟩
  case round=>
   clear hS;obtain⟨rfl,hS⟩:=hrel;go_wp2_with(first|go_big_skip);go_end0;exact⟨rfl,.inr ⟨Hno.out,hS⟩⟩
 | some b1=>
  clear h h1 hn1 h0 hd hd2;go_enter Tryz.func95,Tryz.ntmps95;go_wp2_with(first|go_big_skip|go_at_call 97;refine(Ae7 H1.out Hok.out W _ _ _ (.tail ht) hS).mono ?_;clear hS;rintro x w ⟨rfl,hS⟩)
  go_loopw [5] (fun v wr=>RsX W D xb rb b1 n d R v wr) (fun v _=>n-(intOf v).toNat)
  case atStart=>exact⟨[],b1,rfl,Nat.zero_le _,rfl,List.Pairwise.nil,Hn1.out,hS⟩
  case round=>
   clear hS;obtain⟨l,m,rfl,hln,hm,ha,hrn,hS⟩:=hrel;by_cases hend:l.length=n
   ·have d1:decide (l.length<n)=false:=by simp;omega
    have H2:=jH (hend▸H1.out);have Hm:=jH hm;have Ha:=jH ha;have Hrn:=jH hrn;clear hm ha hrn hend;go_wp2_with(first|go_big_skip);go_end0;exact⟨rfl,.inl ⟨b1,l,m,H2.out,Hm.out,Ha.out,Hrn.out,hS⟩⟩
   ·have d1:decide (l.length<n)=true:=by simp;omega
    have hlt:l.length<n:=by omega
    obtain⟨v1,v2,v3,v4,C,hC,hS1⟩:=aV4 (hS.s (L6 xb ⟨d.vs,l,d.ts,d.ar⟩::rdX D rb (some m)::R));clear hS;have hS2:=hS1.s (xsP v2 l::rdX D rb (some m)::xeB xb v1 v2 v3 v4::xrP v1 C::w5 C::xtP v3 d.ts::xmP v4 d.ar::R);obtain⟨va,vc,rfl⟩:=hS2.rowVal;have hS3:=hS2.s (rdX D rb (some m)::xeB xb v1 (.slice va l.length vc) v3 v4::xsP (.slice va l.length vc) l::xrP v1 C::w5 C::xtP v3 d.ts::xmP v4 d.ar::R);clear hS1 hS2;have hCb:l.length<=9000:=by obtain⟨e1,_⟩:=Cd7 ET7 (Hn1.out b1 rfl).1 hm;have e2:=AD7 Pn7 l;have e3:=congrArg List.length e1;have e4:=(Hn1.out b1 rfl).2;rw[jA]at e3;omega
    obtain⟨rv,re,hv,hS⟩:=B9 hS3;obtain⟨ra0,rc0,rfl,rfl,Hv⟩:=ad4 hv;clear hv hS3;obtain⟨⟨c,s1⟩,k1⟩:∃y,d8 (some m)=y:=⟨_,rfl⟩
    obtain⟨⟨q,s2⟩,k2⟩:∃y,d8 s1=y:=⟨_,rfl⟩
    obtain⟨⟨rx,s3⟩,k3⟩:∃y,j5 s2=y:=⟨_,rfl⟩
    have hs1:RdN s1 9000:=by have:=hrn.num;rw[k1]at this;exact this
    have hs2:RdN s2 9000:=by have:=hs1.num;rw[k2]at this;exact this
    have hs3:RdN s3 9000:=by have:=hs2.bytes;rw[k3]at this;exact this
    have hrow:ByB rx/\rx.length<=9000:=by have:=hs2.row;rw[k3]at this;exact this
    have hst:∀(y:Int×(Int×Rpl)) (r:List Int),O7 m y r↔(s3=some r/\y.1=c/\y.2.1=q/\whB y.1 y.2.1=true/\bj4 rx y.2.2):=fun y r=>by unfold O7;rw[k1];simp only;rw[k2];simp only;rw[k3]
    have hnb:=Gf7 (lt:=ltI) Cr7 H1.out hlt hm;have Hm:=jH (hrn.ok (by decide));have Hm1:=jH (hs1.ok (by decide));have Hm2:=jH (hs2.ok (by decide));have Hs3:=jH hs3;have Hrow:=jH hrow;have N1:=jH k1;have N2:=jH k2;have N3:=jH k3;have HC:=jH hC;have HM:=jH hm;have Ha:=jH ha;clear hm ha hrn hs1 hs2 hs3 hrow k1 k2 hln hend hC;by_cases hg:∃y,bj4 rx y
    ·obtain⟨⟨r0,r1,⟨r2,r3,r4,r5⟩⟩,hg⟩:=hg;have Hr:=jH hg
     rcases JY7 c q with hw|hw
     ·have c1:decide (c<1)=false:=by have:=(Cq7 hw).1.1;simp only at this;simp;omega
      have c2:decide (1048576<c)=false:=by have:=(Cq7 hw).1.2;simp only at this;simp;omega
      have c3:decide (q<1)=false:=by have:=(Cq7 hw).2.1;simp only at this;simp;omega
      have c4:decide (1099511627776<q)=false:=by have:=(Cq7 hw).2.2;simp only at this;simp;omega
      obtain⟨r,e9⟩:∃r,s3=some r:=by
       cases s3 with
       | some r=>exact⟨r,rfl⟩
       | none=>
        have h4:=DU7 (s:=s2) (by rw[k3]);rw[k3]at h4;have h5:=KN7 ⟨r0,r1,⟨r2,r3,r4,r5⟩⟩;rw[<-hg.2]at h5;simp only at h4;rw[h4]at h5;simp at h5
      have Hyes:=jH ((hst (c,(q,⟨r0,r1,⟨r2,r3,r4,r5⟩⟩)) r).2 ⟨e9,rfl,rfl,hw,hg⟩);have E9:=jH e9;by_cases hz:l.length=0
      ·have hl0:l=[]:=List.eq_nil_of_length_eq_zero hz;have hasc:Asc ltI (l++[(c,(q,(⟨r0,r1,⟨r2,r3,r4,r5⟩⟩:Rpl)))]):=by rw[hl0];exact List.pairwise_singleton _ _
       have Hasc:=jH hasc;have d2:decide (0<l.length)=false:=decide_eq_false (by omega);clear hnb hst hg k3 hl0 hasc e9 hz hw;go_wp2_with(first|go_big_skip|(fail_if_success (have:=a4));(go_at_call 97;refine(Ae7 N1.out Hm.out W _ _ _ (.tail (.tail (.tail (.tail (.tail (.tail ht)))))) (j7 Hv.out hS)).mono ?_;clear hS;have a4:Nat:=0;rintro ex w ⟨rfl,hS⟩)|(have:=a4);go_at_call 97;refine(Ae7 N2.out Hm1.out W _ _ _ (.tail (.tail (.tail (.tail (.tail (.tail ht)))))) hS).mono ?_;clear hS;rintro ex w ⟨rfl,hS⟩|(fail_if_success (have:=a1));(refine zal hS ?_;clear hS;have a1:Nat:=0;intro bM w hS)|(have:=a1);refine zal hS ?_;clear hS;intro bR w hS|go_at_call 158;refine(Ar7 N3.out Hm2.out W _ _ _ (.tail (.tail (.tail (.tail (.tail (.tail (.tail ht))))))) (hS.s (rdX D rb s2::blk bM _ _::xeB xb v1 _ v3 v4::xsP _ l::xrP v1 C::w5 C::xtP v3 d.ts::xmP v4 d.ar::R))).mono ?_;clear hS;rintro x w ⟨v8,rfl,hS⟩|go_at_call 160;refine(Bn7 Hr.out v8 W _ _ hS).mono ?_;clear hS;rintro x w ⟨rfl,hS⟩|go_at_call 160;refine(Bo7 Hr.out Hrow.out.1 (Nat.le_trans Hrow.out.2 (by decide)) v8 W _ _ hS).mono ?_;clear hS;rintro x w ⟨rfl,hS⟩|refine zsN hS ?_;clear hS;intro w hS|refine zlN hS ?_|refine zl1 hS ?_);refine Aa7 (by kernel_rfl) (by kernel_rfl) hS ?_
       repeat(first|go_big_quiet_skip|refine zq1 ?_|apply Am7;rfl;rfl;rfl;decide +kernel;exact hlast (by exact g8);refine frS ?_|refine zqn ?_|refine qR ?_)
       clear hS;intro w hS;go_wp2_with(first|go_big_skip);have hS8:=hS.s (blk bM [.I c,.I q,.I r0,.I r1,.I r2,.I r3,.I r4,.I r5] 143::xeB xb v1 (.slice va l.length vc) v3 v4::xsP (.slice va l.length vc) l::rdX D rb s3::xrP v1 C::w5 C::xtP v3 d.ts::xmP v4 d.ar::R);clear hS;have hS:=hS8;clear hS8;refine rf2 tB34a (fun i=>i==6||i==7) [⟨some 6,none,fun nd=>R5 (nd 6) 1 1 [.I c,.I q,.I r0,.I r1,.I r2,.I r3,.I r4,.I r5] 143⟩,⟨some 7,none,fun nd=>row (nd 7) 8 143 (l.length+1) (l.flatMap seC++[.I c,.I q,.I r0,.I r1,.I r2,.I r3,.I r4,.I r5])⟩,⟨some 10,none,fun nd=>xeB xb v1 (nd 7) v3 v4⟩] [none,some 10,some 7] hS ?_;intro nd
       iterate 2 (refine cR ?_)
       (refine zcn ?_);refine cR ?_;refine zc1 ?_;refine zcN ?_;apply aI4;rfl;rfl;rfl;(focus(simp only[fD,fI,fJ,Act.eval,fE,fF,fG,fH,fK];try rfl));(exact esS);(exact rsS);rfl;rfl;rfl;rfl;(intro _;rfl);rfl;(intro _;rfl);(refine frS ?_);apply AJ7;rfl;rfl;rfl;(focus((conv=>lhs;whnf);try rfl));(focus((conv=>lhs;whnf);try rfl));(exact esS);(exact rsS);rfl;decide;rfl;(intro F w hS;exact Bp7 hS (by exact A9));(focus(try rfl));rfl;(focus(unfold maxLen;omega));(focus omega);(intro _;rfl);(intro _;rfl);(refine frS ?_);refine zcn ?_;refine cR ?_;(apply Fz7;rfl;rfl;rfl;rfl;(focus((conv=>lhs;whnf);try rfl));kernel_rfl;rfl;intro F w hS;exact hS.rowOne (by exact A9);(focus(simp));rfl;rfl;try(refine frS ?_));refine Ac7 ?_;clear hS;intro w hS;have hS2:St W [R5 (nd 6) _ _ _ _,row (nd 7) 8 _ _ _,xeB xb v1 (nd 7) v3 v4,blk bM _ _,sats _] w:=hS;clear hS;have hS:=hS2.unpack [_,_,_,_];clear hS2;simp only[jK,jN]at hS;generalize nd 7=v9 at *;have e9:=E9.out;clear E9;subst e9;go_wp2_with(first|go_big_skip);go_roundw
       case rel=>
        have h0:St W (row v9 8 143 (l.length+1) (l.flatMap seC++seC (c,(q,⟨r0,r1,⟨r2,r3,r4,r5⟩⟩)))::_) w:=hS.drop;rw[<-Mt7]at h0;have h3:=N9 (d:=⟨d.vs,l++[(c,(q,⟨r0,r1,⟨r2,r3,r4,r5⟩⟩))],d.ts,d.ar⟩) (D:=C) HC.out (h0.s (xeB xb v1 v9 v3 v4::xrP v1 C::w5 C::xsP v9 (l++[(c,(q,⟨r0,r1,⟨r2,r3,r4,r5⟩⟩))])::xtP v3 d.ts::xmP v4 d.ar::rdX D rb (some r)::R));exact⟨l++[(c,(q,⟨r0,r1,⟨r2,r3,r4,r5⟩⟩))],r,by rw[jA];rfl,by rw[jA];exact hlt,Bd7 HM.out Hyes.out,Hasc.out,Hs3.out,h3.swap⟩
       case measure=>simp[intOf];omega
      ·have hpos:0<l.length:=by omega
       obtain⟨⟨g,rfl⟩,_,_⟩:=St.rowAddr hS.drop.drop hpos;have hlast:∀{K K':List HP},Take K (xsP (.S g l.length vc) l) K'->e8 K g ((l.length-1)*8) (.I (l[l.length-1]'(by omega)).1):=fun hu=>d7.elemM (enc:=seC) Ir7 hu (by omega) 0 _ rfl
       obtain⟨yk,hyk⟩:∃y,(l[l.length-1]'(by omega)).1=y:=⟨_,rfl⟩
       rw[hyk]at hlast;by_cases hb:yk<c
       ·have hasc:Asc ltI (l++[(c,(q,(⟨r0,r1,⟨r2,r3,r4,r5⟩⟩:Rpl)))]):=Gd7 EC7 Ha.out (by
         rw[Ge7 hpos];simp only[Option.all_some];rw[hyk];exact decide_eq_true hb)
        have Hasc:=jH hasc;have d3:decide (c<=yk)=false:=by simp;omega
        clear hnb hst hg k3 hasc e9 hz hw hyk;go_wp2_with(first|go_big_skip|(fail_if_success (have:=a4));(go_at_call 97;refine(Ae7 N1.out Hm.out W _ _ _ (.tail (.tail (.tail (.tail (.tail (.tail ht)))))) (j7 Hv.out hS)).mono ?_;clear hS;have a4:Nat:=0;rintro ex w ⟨rfl,hS⟩)|(have:=a4);go_at_call 97;refine(Ae7 N2.out Hm1.out W _ _ _ (.tail (.tail (.tail (.tail (.tail (.tail ht)))))) hS).mono ?_;clear hS;rintro ex w ⟨rfl,hS⟩|(fail_if_success (have:=a1));(refine zal hS ?_;clear hS;have a1:Nat:=0;intro bM w hS)|(have:=a1);refine zal hS ?_;clear hS;intro bR w hS|go_at_call 158;refine(Ar7 N3.out Hm2.out W _ _ _ (.tail (.tail (.tail (.tail (.tail (.tail (.tail ht))))))) (hS.s (rdX D rb s2::blk bM _ _::xeB xb v1 _ v3 v4::xsP _ l::xrP v1 C::w5 C::xtP v3 d.ts::xmP v4 d.ar::R))).mono ?_;clear hS;rintro x w ⟨v8,rfl,hS⟩|go_at_call 160;refine(Bn7 Hr.out v8 W _ _ hS).mono ?_;clear hS;rintro x w ⟨rfl,hS⟩|go_at_call 160;refine(Bo7 Hr.out Hrow.out.1 (Nat.le_trans Hrow.out.2 (by decide)) v8 W _ _ hS).mono ?_;clear hS;rintro x w ⟨rfl,hS⟩|refine zsN hS ?_;clear hS;intro w hS|refine zlN hS ?_|refine zl1 hS ?_);refine Aa7 (by kernel_rfl) (by kernel_rfl) hS ?_
        repeat(first|go_big_quiet_skip|refine zq1 ?_|apply Am7;rfl;rfl;rfl;decide +kernel;exact hlast (by exact g8);refine frS ?_|refine zqn ?_|refine qR ?_)
        clear hS;intro w hS;go_wp2_with(first|go_big_skip);have hS8:=hS.s (blk bM [.I c,.I q,.I r0,.I r1,.I r2,.I r3,.I r4,.I r5] 143::xeB xb v1 (.S g l.length vc) v3 v4::xsP (.S g l.length vc) l::rdX D rb s3::xrP v1 C::w5 C::xtP v3 d.ts::xmP v4 d.ar::R);clear hS;have hS:=hS8;clear hS8;refine rf2 tB34a (fun i=>i==6||i==7) [⟨some 6,none,fun nd=>R5 (nd 6) 1 1 [.I c,.I q,.I r0,.I r1,.I r2,.I r3,.I r4,.I r5] 143⟩,⟨some 7,none,fun nd=>row (nd 7) 8 143 (l.length+1) (l.flatMap seC++[.I c,.I q,.I r0,.I r1,.I r2,.I r3,.I r4,.I r5])⟩,⟨some 10,none,fun nd=>xeB xb v1 (nd 7) v3 v4⟩] [none,some 10,some 7] hS ?_;intro nd
        iterate 2 (refine cR ?_)
        (refine zcn ?_);refine cR ?_;refine zc1 ?_;refine zcN ?_;apply aI4;rfl;rfl;rfl;(focus(simp only[fD,fI,fJ,Act.eval,fE,fF,fG,fH,fK];try rfl));(exact esS);(exact rsS);rfl;rfl;rfl;rfl;(intro _;rfl);rfl;(intro _;rfl);(refine frS ?_);apply AJ7;rfl;rfl;rfl;(focus((conv=>lhs;whnf);try rfl));(focus((conv=>lhs;whnf);try rfl));(exact esS);(exact rsS);rfl;decide;rfl;(intro F w hS;exact Bp7 hS (by exact A9));(focus(try rfl));rfl;(focus(unfold maxLen;omega));(focus omega);(intro _;rfl);(intro _;rfl);(refine frS ?_);refine zcn ?_;refine cR ?_;(apply Fz7;rfl;rfl;rfl;rfl;(focus((conv=>lhs;whnf);try rfl));kernel_rfl;rfl;intro F w hS;exact hS.rowOne (by exact A9);(focus(simp));rfl;rfl;try(refine frS ?_));refine Ac7 ?_;clear hS;intro w hS;have hS2:St W [R5 (nd 6) _ _ _ _,row (nd 7) 8 _ _ _,xeB xb v1 (nd 7) v3 v4,blk bM _ _,sats _] w:=hS;clear hS;have hS:=hS2.unpack [_,_,_,_];clear hS2;simp only[jK,jN]at hS;generalize nd 7=v9 at *;have e9:=E9.out;clear E9;subst e9;go_wp2_with(first|go_big_skip);go_roundw
        case rel=>
         have h0:St W (row v9 8 143 (l.length+1) (l.flatMap seC++seC (c,(q,⟨r0,r1,⟨r2,r3,r4,r5⟩⟩)))::_) w:=hS.drop;rw[<-Mt7]at h0;have h3:=N9 (d:=⟨d.vs,l++[(c,(q,⟨r0,r1,⟨r2,r3,r4,r5⟩⟩))],d.ts,d.ar⟩) (D:=C) HC.out (h0.s (xeB xb v1 v9 v3 v4::xrP v1 C::w5 C::xsP v9 (l++[(c,(q,⟨r0,r1,⟨r2,r3,r4,r5⟩⟩))])::xtP v3 d.ts::xmP v4 d.ar::rdX D rb (some r)::R));exact⟨l++[(c,(q,⟨r0,r1,⟨r2,r3,r4,r5⟩⟩))],r,by rw[jA];rfl,by rw[jA];exact hlt,Bd7 HM.out Hyes.out,Hasc.out,Hs3.out,h3.swap⟩
        case measure=>simp[intOf];omega
       ·have Hno:=jH (hnb fun y r hy=>⟨hpos,fun h0=>by
         obtain⟨_,e2,_⟩:=(hst y r).1 hy;rw[hyk,e2];exact decide_eq_false hb⟩)
        have d3:decide (c<=yk)=true:=by simp;omega
        clear hnb hst hg k3 hb e9 hz hw hyk;go_wp2_with(first|go_big_skip|(fail_if_success (have:=a4));(go_at_call 97;refine(Ae7 N1.out Hm.out W _ _ _ (.tail (.tail (.tail (.tail (.tail (.tail ht)))))) (j7 Hv.out hS)).mono ?_;clear hS;have a4:Nat:=0;rintro ex w ⟨rfl,hS⟩)|(have:=a4);go_at_call 97;refine(Ae7 N2.out Hm1.out W _ _ _ (.tail (.tail (.tail (.tail (.tail (.tail ht)))))) hS).mono ?_;clear hS;rintro ex w ⟨rfl,hS⟩|(fail_if_success (have:=a1));(refine zal hS ?_;clear hS;have a1:Nat:=0;intro bM w hS)|(have:=a1);refine zal hS ?_;clear hS;intro bR w hS|go_at_call 158;refine(Ar7 N3.out Hm2.out W _ _ _ (.tail (.tail (.tail (.tail (.tail (.tail (.tail ht))))))) (hS.s (rdX D rb s2::blk bM _ _::xeB xb v1 _ v3 v4::xsP _ l::xrP v1 C::w5 C::xtP v3 d.ts::xmP v4 d.ar::R))).mono ?_;clear hS;rintro x w ⟨v8,rfl,hS⟩|go_at_call 160;refine(Bn7 Hr.out v8 W _ _ hS).mono ?_;clear hS;rintro x w ⟨rfl,hS⟩|go_at_call 160;refine(Bo7 Hr.out Hrow.out.1 (Nat.le_trans Hrow.out.2 (by decide)) v8 W _ _ hS).mono ?_;clear hS;rintro x w ⟨rfl,hS⟩|refine zsN hS ?_;clear hS;intro w hS|refine zlN hS ?_|refine zl1 hS ?_);refine Aa7 (by kernel_rfl) (by kernel_rfl) hS ?_
        repeat(first|go_big_quiet_skip|refine zq1 ?_|apply Am7;rfl;rfl;rfl;decide +kernel;exact hlast (by exact g8);refine frS ?_|refine zqn ?_|refine qR ?_)
        clear hS;intro w hS;go_wp2_with(first|go_big_skip|go_at_call 99;refine(D7 D rb s3 W _ _ (hS.s (rdX D rb s3::R))).mono ?_;clear hS;rintro x w ⟨rfl,hS⟩);refine bodyPost_ret (results_none rfl _ _ _) rfl ?_;exact⟨rfl,.inr ⟨Hno.out,hS⟩⟩
     ·have Hno:=jH (hnb fun y r hy=>by
       obtain⟨_,e2,e3,e4,_⟩:=(hst y r).1 hy;rw[e2,e3]at e4;have e5:=Cq7 e4;obtain⟨⟨q1,q2⟩,q3,q4⟩:=e5;simp only at q1 q2 q3 q4;omega)
      clear hnb hst hg k3
      rcases hw with hw|⟨hw1,hw2⟩|⟨⟨hw1,hw2⟩,hw3⟩|⟨⟨hw1,hw2⟩,hw3,hw4⟩
      ·have c1:decide (c<1)=true:=by simpa using hw
       go_wp2_with(first|go_big_skip|(fail_if_success (have:=a4));(go_at_call 97;refine(Ae7 N1.out Hm.out W _ _ _ (.tail (.tail (.tail (.tail (.tail (.tail ht)))))) (j7 Hv.out hS)).mono ?_;clear hS;have a4:Nat:=0;rintro ex w ⟨rfl,hS⟩)|(have:=a4);go_at_call 97;refine(Ae7 N2.out Hm1.out W _ _ _ (.tail (.tail (.tail (.tail (.tail (.tail ht)))))) hS).mono ?_;clear hS;rintro ex w ⟨rfl,hS⟩|(fail_if_success (have:=a1));(refine zal hS ?_;clear hS;have a1:Nat:=0;intro bM w hS)|(have:=a1);refine zal hS ?_;clear hS;intro bR w hS|go_at_call 158;refine(Ar7 N3.out Hm2.out W _ _ _ (.tail (.tail (.tail (.tail (.tail (.tail (.tail ht))))))) (hS.s (rdX D rb s2::blk bM _ _::xeB xb v1 _ v3 v4::xsP _ l::xrP v1 C::w5 C::xtP v3 d.ts::xmP v4 d.ar::R))).mono ?_;clear hS;rintro x w ⟨v8,rfl,hS⟩|go_at_call 160;refine(Bn7 Hr.out v8 W _ _ hS).mono ?_;clear hS;rintro x w ⟨rfl,hS⟩|go_at_call 160;refine(Bo7 Hr.out Hrow.out.1 (Nat.le_trans Hrow.out.2 (by decide)) v8 W _ _ hS).mono ?_;clear hS;rintro x w ⟨rfl,hS⟩|refine zsN hS ?_;clear hS;intro w hS|refine zlN hS ?_|refine zl1 hS ?_);refine Aa7 (by kernel_rfl) (by kernel_rfl) hS ?_
       repeat(first|go_big_quiet_skip|refine zq1 ?_|apply Am7;rfl;rfl;rfl;decide +kernel;exact hlast (by exact g8);refine frS ?_|refine zqn ?_|refine qR ?_)
       clear hS;intro w hS;go_wp2_with(first|go_big_skip|go_at_call 99;refine(D7 D rb s3 W _ _ (hS.s (rdX D rb s3::R))).mono ?_;clear hS;rintro x w ⟨rfl,hS⟩);refine bodyPost_ret (results_none rfl _ _ _) rfl ?_;exact⟨rfl,.inr ⟨Hno.out,hS⟩⟩
      ·have c1:decide (c<1)=false:=by simp;omega
       have c2:decide (1048576<c)=true:=by simpa using hw2
       go_wp2_with(first|go_big_skip|(fail_if_success (have:=a4));(go_at_call 97;refine(Ae7 N1.out Hm.out W _ _ _ (.tail (.tail (.tail (.tail (.tail (.tail ht)))))) (j7 Hv.out hS)).mono ?_;clear hS;have a4:Nat:=0;rintro ex w ⟨rfl,hS⟩)|(have:=a4);go_at_call 97;refine(Ae7 N2.out Hm1.out W _ _ _ (.tail (.tail (.tail (.tail (.tail (.tail ht)))))) hS).mono ?_;clear hS;rintro ex w ⟨rfl,hS⟩|(fail_if_success (have:=a1));(refine zal hS ?_;clear hS;have a1:Nat:=0;intro bM w hS)|(have:=a1);refine zal hS ?_;clear hS;intro bR w hS|go_at_call 158;refine(Ar7 N3.out Hm2.out W _ _ _ (.tail (.tail (.tail (.tail (.tail (.tail (.tail ht))))))) (hS.s (rdX D rb s2::blk bM _ _::xeB xb v1 _ v3 v4::xsP _ l::xrP v1 C::w5 C::xtP v3 d.ts::xmP v4 d.ar::R))).mono ?_;clear hS;rintro x w ⟨v8,rfl,hS⟩|go_at_call 160;refine(Bn7 Hr.out v8 W _ _ hS).mono ?_;clear hS;rintro x w ⟨rfl,hS⟩|go_at_call 160;refine(Bo7 Hr.out Hrow.out.1 (Nat.le_trans Hrow.out.2 (by decide)) v8 W _ _ hS).mono ?_;clear hS;rintro x w ⟨rfl,hS⟩|refine zsN hS ?_;clear hS;intro w hS|refine zlN hS ?_|refine zl1 hS ?_);refine Aa7 (by kernel_rfl) (by kernel_rfl) hS ?_
       repeat(first|go_big_quiet_skip|refine zq1 ?_|apply Am7;rfl;rfl;rfl;decide +kernel;exact hlast (by exact g8);refine frS ?_|refine zqn ?_|refine qR ?_)
       clear hS;intro w hS;go_wp2_with(first|go_big_skip|go_at_call 99;refine(D7 D rb s3 W _ _ (hS.s (rdX D rb s3::R))).mono ?_;clear hS;rintro x w ⟨rfl,hS⟩);refine bodyPost_ret (results_none rfl _ _ _) rfl ?_;exact⟨rfl,.inr ⟨Hno.out,hS⟩⟩
      ·have c1:decide (c<1)=false:=by simp;omega
       have c2:decide (1048576<c)=false:=by simp;omega
       have c3:decide (q<1)=true:=by simpa using hw3
       go_wp2_with(first|go_big_skip|(fail_if_success (have:=a4));(go_at_call 97;refine(Ae7 N1.out Hm.out W _ _ _ (.tail (.tail (.tail (.tail (.tail (.tail ht)))))) (j7 Hv.out hS)).mono ?_;clear hS;have a4:Nat:=0;rintro ex w ⟨rfl,hS⟩)|(have:=a4);go_at_call 97;refine(Ae7 N2.out Hm1.out W _ _ _ (.tail (.tail (.tail (.tail (.tail (.tail ht)))))) hS).mono ?_;clear hS;rintro ex w ⟨rfl,hS⟩|(fail_if_success (have:=a1));(refine zal hS ?_;clear hS;have a1:Nat:=0;intro bM w hS)|(have:=a1);refine zal hS ?_;clear hS;intro bR w hS|go_at_call 158;refine(Ar7 N3.out Hm2.out W _ _ _ (.tail (.tail (.tail (.tail (.tail (.tail (.tail ht))))))) (hS.s (rdX D rb s2::blk bM _ _::xeB xb v1 _ v3 v4::xsP _ l::xrP v1 C::w5 C::xtP v3 d.ts::xmP v4 d.ar::R))).mono ?_;clear hS;rintro x w ⟨v8,rfl,hS⟩|go_at_call 160;refine(Bn7 Hr.out v8 W _ _ hS).mono ?_;clear hS;rintro x w ⟨rfl,hS⟩|go_at_call 160;refine(Bo7 Hr.out Hrow.out.1 (Nat.le_trans Hrow.out.2 (by decide)) v8 W _ _ hS).mono ?_;clear hS;rintro x w ⟨rfl,hS⟩|refine zsN hS ?_;clear hS;intro w hS|refine zlN hS ?_|refine zl1 hS ?_);refine Aa7 (by kernel_rfl) (by kernel_rfl) hS ?_
       repeat(first|go_big_quiet_skip|refine zq1 ?_|apply Am7;rfl;rfl;rfl;decide +kernel;exact hlast (by exact g8);refine frS ?_|refine zqn ?_|refine qR ?_)
       clear hS;intro w hS;go_wp2_with(first|go_big_skip|go_at_call 99;refine(D7 D rb s3 W _ _ (hS.s (rdX D rb s3::R))).mono ?_;clear hS;rintro x w ⟨rfl,hS⟩);refine bodyPost_ret (results_none rfl _ _ _) rfl ?_;exact⟨rfl,.inr ⟨Hno.out,hS⟩⟩
      ·have c1:decide (c<1)=false:=by simp;omega
       have c2:decide (1048576<c)=false:=by simp;omega
       have c3:decide (q<1)=false:=by simp;omega
       have c4:decide (1099511627776<q)=true:=by simpa using hw4
       go_wp2_with(first|go_big_skip|(fail_if_success (have:=a4));(go_at_call 97;refine(Ae7 N1.out Hm.out W _ _ _ (.tail (.tail (.tail (.tail (.tail (.tail ht)))))) (j7 Hv.out hS)).mono ?_;clear hS;have a4:Nat:=0;rintro ex w ⟨rfl,hS⟩)|(have:=a4);go_at_call 97;refine(Ae7 N2.out Hm1.out W _ _ _ (.tail (.tail (.tail (.tail (.tail (.tail ht)))))) hS).mono ?_;clear hS;rintro ex w ⟨rfl,hS⟩|(fail_if_success (have:=a1));(refine zal hS ?_;clear hS;have a1:Nat:=0;intro bM w hS)|(have:=a1);refine zal hS ?_;clear hS;intro bR w hS|go_at_call 158;refine(Ar7 N3.out Hm2.out W _ _ _ (.tail (.tail (.tail (.tail (.tail (.tail (.tail ht))))))) (hS.s (rdX D rb s2::blk bM _ _::xeB xb v1 _ v3 v4::xsP _ l::xrP v1 C::w5 C::xtP v3 d.ts::xmP v4 d.ar::R))).mono ?_;clear hS;rintro x w ⟨v8,rfl,hS⟩|go_at_call 160;refine(Bn7 Hr.out v8 W _ _ hS).mono ?_;clear hS;rintro x w ⟨rfl,hS⟩|go_at_call 160;refine(Bo7 Hr.out Hrow.out.1 (Nat.le_trans Hrow.out.2 (by decide)) v8 W _ _ hS).mono ?_;clear hS;rintro x w ⟨rfl,hS⟩|refine zsN hS ?_;clear hS;intro w hS|refine zlN hS ?_|refine zl1 hS ?_);refine Aa7 (by kernel_rfl) (by kernel_rfl) hS ?_
       repeat(first|go_big_quiet_skip|refine zq1 ?_|apply Am7;rfl;rfl;rfl;decide +kernel;exact hlast (by exact g8);refine frS ?_|refine zqn ?_|refine qR ?_)
       clear hS;intro w hS;go_wp2_with(first|go_big_skip|go_at_call 99;refine(D7 D rb s3 W _ _ (hS.s (rdX D rb s3::R))).mono ?_;clear hS;rintro x w ⟨rfl,hS⟩);refine bodyPost_ret (results_none rfl _ _ _) rfl ?_;exact⟨rfl,.inr ⟨Hno.out,hS⟩⟩
    ·have hg2:∀y,¬bj4 rx y:=fun y h=>hg ⟨y,h⟩
     have Hno:=jH (hnb fun y r hy=>by obtain⟨_,_,_,_,e5⟩:=(hst y r).1 hy;exact absurd e5 (hg2 _));have Hr:=jH hg2;clear hnb hst hg hg2 k3;go_wp2_with(first|go_big_skip|(fail_if_success (have:=a4));(go_at_call 97;refine(Ae7 N1.out Hm.out W _ _ _ (.tail (.tail (.tail (.tail (.tail (.tail ht)))))) (j7 Hv.out hS)).mono ?_;clear hS;have a4:Nat:=0;rintro ex w ⟨rfl,hS⟩)|(have:=a4);go_at_call 97;refine(Ae7 N2.out Hm1.out W _ _ _ (.tail (.tail (.tail (.tail (.tail (.tail ht)))))) hS).mono ?_;clear hS;rintro ex w ⟨rfl,hS⟩|(fail_if_success (have:=a1));(refine zal hS ?_;clear hS;have a1:Nat:=0;intro bM w hS)|(have:=a1);refine zal hS ?_;clear hS;intro bR w hS|go_at_call 158;refine(Ar7 N3.out Hm2.out W _ _ _ (.tail (.tail (.tail (.tail (.tail (.tail (.tail ht))))))) (hS.s (rdX D rb s2::blk bM _ _::xeB xb v1 _ v3 v4::xsP _ l::xrP v1 C::w5 C::xtP v3 d.ts::xmP v4 d.ar::R))).mono ?_;clear hS;rintro x w ⟨v8,rfl,hS⟩|go_at_call 160;refine(Bn7 Hr.out v8 W _ _ hS).mono ?_;clear hS;rintro x w ⟨rfl,hS⟩|go_at_call 160;refine(Bo7 Hr.out Hrow.out.1 (Nat.le_trans Hrow.out.2 (by decide)) v8 W _ _ hS).mono ?_;clear hS;rintro x w ⟨rfl,hS⟩|refine zsN hS ?_;clear hS;intro w hS|refine zlN hS ?_|refine zl1 hS ?_);refine Aa7 (by kernel_rfl) (by kernel_rfl) hS ?_
     repeat(first|go_big_quiet_skip|refine zq1 ?_|apply Am7;rfl;rfl;rfl;decide +kernel;exact hlast (by exact g8);refine frS ?_|refine zqn ?_|refine qR ?_)
     clear hS;intro w hS;go_wp2_with(first|go_big_skip|go_at_call 99;refine(D7 D rb s3 W _ _ (hS.s (rdX D rb s3::R))).mono ?_;clear hS;rintro x w ⟨rfl,hS⟩);refine bodyPost_ret (results_none rfl _ _ _) rfl ?_;exact⟨rfl,.inr ⟨Hno.out,hS⟩⟩
end Go.Proofs.YtlmhakmoioogaaaGreat
end
