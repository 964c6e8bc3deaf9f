/-
  The program's Total of an economy. For every economy.
  What a request changes of all that an economy has. The plain law: no program in sight.
  EconTotal: the walk. For every row of requests.
  The library's contracts laid at this program: written by the kit's tool lay-plain.
  slices.Sorted(maps.Keys(m)) of maps by numbers: a row of the keys, sorted. For every map.
-/
import Derived.Test.YtlmhakmoioogaaaGreatEconPlaysM5
import Derived.Test.YtlmhakmoioogaaaGreatEconPlaysM26
import Derived.Test.YtlmhakmoioogaaaGreatEconPlaysM37
import Derived.Test.YtlmhakmoioogaaaGreatEconPlaysM38
import Derived.Test.YtlmhakmoioogaaaGreatEconPlaysM39
import Derived.Test.YtlmhakmoioogaaaGreatEconPlaysM46
import Derived.Test.YtlmhakmoioogaaaGreatEconPlaysM48
import Derived.Test.YtlmhakmoioogaaaGreatProg
import Derived.Shelf.Sort.Plain
import Derived.Ground.NamesProg
set_option maxHeartbeats 16000000
set_option maxRecDepth 100000
set_option linter.unusedSimpArgs false
set_option linter.unusedVariables false
section
namespace Go.Proofs.YtlmhakmoioogaaaGreat
open Go.RowKit Go.Sl
def TeR(W:World)(R:List HP)(E:Ev)(m1 r:Nat)(v4:Value)(w:World):Prop:=
 ∃done todo:List (ByteArray×Nat),(done++todo).Perm (ptrsE E)∧St W (itsR v4 (done.map fun y=>totI (vAt E y.1))::itR eS eN r m1 (ptrsE E) todo::vauP E::R) w
theorem OG7{eb:Nat}{e:Ec}{i:Nat}(hE:EOk e i)(hi:i≤1000000)(hl:e.vs.length≤1000000)(hv:∀x∈e.vs,addL (allV x.2) it0=some (totI x.2)){t0 t1 t2 t3:Int}(ht:∀l:List It,l.Perm (e.vs.map fun x=>totI x.2)→addL l it0=some ⟨t0,t1,t2,t3⟩)(W w:World)(R:List HP)(hS:St W (ecP eb e::R) w):
  Calls Tryz.prog 22 #[.pointer (some ⟨eb,0,none⟩)] w fun x w'=>x=.returned (.tuple #[.agg #[.int .i64 t0,.int .i64 t1,.int .i64 t2,.int .i64 t3],.bool true])∧St W (ecP eb e::R) w':=by
 obtain⟨m1,m2,m3,m4,E,hp,hn,hS0⟩:=ecOpenR hS
 have hS1:=evOpen hS0
 clear hS hS0
 have hEl:(ptrsE E).length≤1000000:=by
  have h1:=hp.length_eq
  unfold stripE at h1
  unfold ptrsE
  rw[List.length_map]at h1 ⊢
  omega
 have hm:∀(y:ByteArray×Nat) (todo':List (ByteArray×Nat)) {done todo:List (ByteArray×Nat)},(done++todo).Perm (ptrsE E)→todo.Perm (y::todo')→∃V,E.Perm ((y.1,(y.2,V))::delL E y.1)∧vAt E y.1=V∧PsW V.ps (100*i)∧addL (allV ⟨V.ps,V.L,V.n⟩) it0=some ⟨totV V 0,totV V 1,totV V 2,totV V 3⟩:=by
  intro y todo' done todo h1 h2
  have h3:y∈ptrsE E:=h1.mem_iff.1 (List.mem_append_right _ (h2.mem_iff.2 (List.mem_cons_self ..)))
  obtain⟨x,hx,rfl⟩:=List.mem_map.1 h3
  have h4:getL E x.1=some x.2:=Bh7 hn hx
  have h5:(x.1,x.2.2)∈e.vs:=hp.mem_iff.1 (List.mem_map.2 ⟨x,hx,rfl⟩)
  refine⟨x.2.2,Bl7 hn h4,?_,(hE _ h5).w,hv _ h5⟩
  unfold vAt
  rw[h4];rfl
 have hend:∀done:List (ByteArray×Nat),done.Perm (ptrsE E)→addL (done.map fun y=>totI (vAt E y.1)) it0=some ⟨t0,t1,t2,t3⟩:=by
  intro done h1
  refine ht _ ((h1.map _).trans ?_)
  refine List.Perm.trans ?_ (hp.map _)
  unfold ptrsE stripE
  rw[List.map_map,List.map_map]
  refine List.Perm.of_eq (List.map_congr_left fun x hx=>?_)
  show totI (vAt E x.1)=totI x.2.2
  unfold vAt
  rw[Bh7 (v:=x.2) hn hx];rfl
 have Hend:=Lib.hid hend
 have Hp:=Lib.hid hp
 clear hend hp hv ht hE
 have hS:=hS1
 clear hS1
 go_enter Tryz.func22,Tryz.ntmps22
 go_wp2_with(first|((fail_if_success (have:=gA));(refine zal hS ?_;clear hS;have gA:Nat:=0;intro b0 w hS))|(refine zl1 hS ?_)|((with_reducible apply LP7 (ek:=eS) (ev:=eN) hS);(with_reducible rfl);rfl;rfl;exact mV;(exact takeS);clear hS;intro r w hS;(refine frS ?_)))
 have hS1:=hS.rowNil (k:=4) (T:=29)
 clear hS
 have hS:=hS1
 clear hS1
 go_loopw [4] (fun v4 wr=>TeR W (blk eb [.map (some m1),.map (some m2),.map (some m3),.map (some m4)] 84::blk b0 [.int .i64 0,.int .i64 0,.int .i64 0,.int .i64 0] 29::amap eI eSs m2 e.ss::amap eW eTn m3 e.ts::amap eW eU m4 e.ar::R) E m1 r v4 wr) (fun _ wr=>itLeft r m1 wr)
 case atStart=>
  refine⟨[],ptrsE E,List.Perm.refl _,?_⟩
  have h0:St W (itsR (.slice none 0 0) ([]:List It)::_) _:=hS
  show St W (itsR (.slice none 0 0) ([]:List It)::_) _
  exact h0.s _
 case round=>
  clear hS
  obtain⟨done,todo,hdt,hS⟩:=hrel
  have hm1:=Bp7 hS.drop
  have hdl:done.length≤1000000:=by
   have:=hdt.length_eq
   rw[List.length_append]at this
   omega
  by_cases ht:todo=[]
  ·have hall:=Hend.out done (by rw[ht,List.append_nil]at hdt;exact hdt)
   have Hall:=Lib.hid hall
   clear hall hdt hm1 hm
   generalize (done.map fun y=>totI (vAt E y.1))=acc at hS Hall
   go_wp2_with(first|((with_reducible apply LR7 (ek:=eS) (ev:=eN) hS);(with_reducible rfl);rfl;rfl;(exact takeS);exact ht;(refine frS ?_))|(go_at_call 58;refine(GF7 Hall.out _ W _ _ hS).mono ?_;clear hS;rintro ex w ⟨rfl,hS⟩)|(refine zsN hS ?_;clear hS;intro w hS))
   (apply Ac7;rfl;rfl;rfl;rfl;exact hS;decide +kernel;(exact cesS);kernel_rfl)
   have h1:=itEnd (hS.s (itR eS eN r m1 (ptrsE E) todo::vauP E::blk eb _ _::amap eI eSs m2 e.ss::amap eW eTn m3 e.ts::amap eW eU m4 e.ar::R))
   exact⟨rfl,ecShut Hp.out (h1.s _)⟩
  ·have hm':∀(y:ByteArray×Nat) (todo':List (ByteArray×Nat)),todo.Perm (y::todo')→∃V,E.Perm ((y.1,(y.2,V))::delL E y.1)∧vAt E y.1=V∧PsW V.ps (100*i)∧addL (allV ⟨V.ps,V.L,V.n⟩) it0=some ⟨totV V 0,totV V 1,totV V 2,totV V 3⟩:=fun y todo' h=>hm y todo' hdt h
   have hnx:∀(y:ByteArray×Nat) (todo':List (ByteArray×Nat)),todo.Perm (y::todo')→(done++[y]++todo').Perm (ptrsE E):=fun y todo' h=>by
    rw[List.append_assoc]
    exact(List.Perm.append_left done h.symm).trans hdt
   have Hm:=Lib.hid hm'
   have Hnx:=Lib.hid hnx
   have Hm1:=Lib.hid hm1
   clear hm hm' hnx hdt hm1
   obtain⟨accj,hacc⟩:∃l,(done.map fun y=>totI (vAt E y.1))=l:=⟨_,rfl⟩
   have hal:accj.length≤1000000:=by rw[←hacc,List.length_map];exact hdl
   rw[hacc]at hS
   have Hacc:=Lib.hid hacc
   clear hacc
   go_wp2_with(first|((with_reducible apply LS7 (ek:=eS) (ev:=eN) hS);(with_reducible rfl);rfl;rfl;(exact takeS);exact ht;clear hS;intro y todo' hy1 hy2 w hS;obtain⟨yk,yb⟩:=y;have Hy:=Lib.hid hy1;clear hy1 hy2;(refine frS ?_))|((with_reducible apply LQ7 (ek:=eS) (ev:=eN) hS);(with_reducible rfl);rfl;rfl;(exact takeS);clear hS;intro hS;(refine frS ?_))|(go_at_call 57;obtain⟨V,hp,hv,hw,hadd⟩:=Hm.out (yk,yb) todo' Hy.out;have h1:=vauOpen (vauPerm hp (hS.s (vauP E::itR eS eN r m1 (ptrsE E) todo'::itsR _ accj::blk eb _ _::blk b0 _ _::amap eI eSs m2 e.ss::amap eW eTn m3 e.ts::amap eW eU m4 e.ar::R)));obtain⟨mb,bb,h2⟩:=vaultOpen h1;clear hS h1;refine(Jd7 yb mb bb V.ps V.L V.n hw (by omega) hadd W _ _ h2).mono ?_;clear h2;rintro ex w ⟨rfl,h3⟩;have hS:=vauPerm hp.symm (vauShut (x:=(yk,(yb,V))) (vaultShut h3));have Hv:=Lib.hid hv;clear h3 hp hv hw hadd)|((have:=gA);(refine zal hS ?_;clear hS;intro bt w hS))|(refine zsN hS ?_;clear hS;intro w hS)|(refine zlN hS ?_)|(refine zbs hS ?_;clear hS;intro bS w hS)|(refine zap hS ?_ (h63:=by unfold maxLen;omega) (hb:=by omega);clear hS;intro v w hS))
   go_roundw
   case rel=>
    refine⟨done++[(yk,yb)],todo',Hnx.out _ _ Hy.out,?_⟩
    rw[List.map_append,Hacc.out]
    show St W (itsR _ (accj++[totI (vAt E yk)])::_) w
    rw[Hv.out]
    unfold itsR
    rw[CZ7,List.length_append,List.length_singleton]
    have h0:St W (row v 4 29 (accj.length+1) (accj.flatMap It.cells++It.cells (totI V))::_) w:=hS
    exact h0.s _
   case measure=>
    have h3:=Bp7 (hS.take (by exact takeS))
    have h4:=Hy.out.length_eq
    rw[List.length_cons]at h4
    have h5:=Hm1.out
    omega
def sumVs(k:Int):List (ByteArray×Vs)→Int
 | []=>0
 | x::l=>totV x.2 k+sumVs k l
def totE(e:Ec)(k:Int):Int:=sumVs k e.vs
theorem Lq7{l l':List (ByteArray×Vs)}(h:l.Perm l')(k:Int):sumVs k l=sumVs k l':=by
 induction h with
 | nil=>rfl
 | cons x _ ih=>rw[sumVs,sumVs,ih]
 | swap x y l=>rw[sumVs,sumVs,sumVs,sumVs];omega
 | trans _ _ h1 h2=>rw[h1,h2]
theorem Ju7(k:Int):totV vs0 k=0:=rfl
theorem Nl7{l:List (ByteArray×Vs)}(hn:(l.map (·.1)).Nodup)(u:ByteArray)(k:Int):sumVs k l=totV ((getL l u).getD vs0) k+sumVs k (delL l u):=by
 cases hg:getL l u with
 | none=>rw[BG7 (BH7 hg)];show _=totV vs0 k+_;rw[Ju7];omega
 | some V=>rw[Lq7 (Bl7 hn hg) k];rfl
theorem OH7{e:Ec}(hn:(e.vs.map (·.1)).Nodup)(u:ByteArray)(V:Vs)(k:Int):sumVs k (setV e u V).vs=totE e k-totV (atV e u) k+totV V k:=by
 have h:=Nl7 hn u k
 unfold totE
 rw[h]
 unfold atV
 show sumVs k (if noneV V=true then delL e.vs u else(u,V)::delL e.vs u)=_
 split
 ·rename_i hv
  rw[GV7 hv,Ju7]
  omega
 ·show totV V k+sumVs k (delL e.vs u)=_
  omega
def EachV(e:Ec):Prop:=∀x∈e.vs,(∀o∈x.2.L,MayP o)∧x.2.L.length≤32
theorem vOk_k{p:Ps}{n:Int}{i:Nat}(h:VOk p n i):PsK p:=⟨h.w.nd,h.ok⟩
theorem Rc7{V:Vs}(hp:PsK V.ps)(hL:∀x∈V.L,MayP x)(k:Int):0≤totV V k:=by
 have h1:=hp.pos k
 have h2:=ES7 hL k
 unfold totV
 omega
theorem Kz7{k:Int}:∀{l:List (ByteArray×Vs)},(∀x∈l,0≤totV x.2 k)→0≤sumVs k l
 | [],_=>Int.le_refl _
 | x::l,h=>by
  have h1:=h x (List.mem_cons_self ..)
  have h2:=Kz7 fun y hy=>h y (List.mem_cons_of_mem x hy)
  rw[sumVs]
  omega
theorem Fa7{k:Int}:∀{l:List (ByteArray×Vs)},(∀x∈l,0≤totV x.2 k)→∀x∈l,totV x.2 k≤sumVs k l
 | [],_,_,hx=>by cases hx
 | y::l,h,x,hx=>by
  have h1:=h y (List.mem_cons_self ..)
  have h2:=Kz7 fun y hy=>h y (List.mem_cons_of_mem _ hy)
  rw[sumVs]
  rcases List.mem_cons.1 hx with rfl|hx
  ·omega
  ·have:=Fa7 (fun y hy=>h y (List.mem_cons_of_mem _ hy)) x hx
   omega
theorem EOk.nn{e:Ec}{n:Nat}(h:EOk e n)(he:EachV e)(k:Int):∀x∈e.vs,0≤totV x.2 k:=fun x hx=>Rc7 (vOk_k (h x hx)) (he x hx).1 k
def addK(o:Opn)(r:Rpl)(b:Bool)(k:Int):Int:=
 if b=true∧r.err=0 then(if o.kind=1∨o.kind=6 then(if k=o.item then o.cnt else 0)else if o.kind=2 then -(if k=o.item then o.cnt else 0)else 0)else 0
theorem DZ7{it ct k:Int}(hi:Kx it)(hk:Kx k):getK (oneI it ct) k=if k=it then ct else 0:=by
 unfold oneI
 rw[GR7 it0 hi hk,Bz7]
section
variable{e:Ec}{o:Opn}{n:Nat}
theorem Gv7(hm:mayO o=true)(h:o.kind=1∨o.kind=2∨o.kind=6):Kx o.item∧1≤o.cnt∧o.cnt≤1048576∧whoB o.aw=true:=by
 unfold mayO headB plcB at hm
 simp only[Bool.and_eq_true]at hm
 obtain⟨⟨_,_,_,_,_,hw⟩,hk⟩:=hm
 have hc:cntB o=true:=by
  unfold kindB at hk
  rcases h with h|h|h
  ·rw[if_pos h]at hk
   unfold countsB at hk
   simp only[Bool.and_eq_true]at hk
   exact hk.1
  ·rw[if_neg (by omega),if_pos h]at hk
   unfold sendsB at hk
   simp only[Bool.and_eq_true]at hk
   exact hk.2.1
  ·rw[if_neg (by omega),if_neg (by omega),if_neg (by omega),if_neg (by omega),if_neg (by omega),if_pos h]at hk
   unfold countsB at hk
   simp only[Bool.and_eq_true]at hk
   exact hk.1
 obtain⟨h0,h4,c0,c1⟩:=CL7 hc
 exact⟨⟨h0,by omega⟩,c0,c1,hw⟩
theorem Rd7{it ct:Int}(hi:Kx it)(h0:0≤ct)(h1:ct≤1048576):isIt (oneI it ct)=true:=Jc7 fun k hk=>by
 rw[DZ7 hi hk]
 split <;> omega
theorem Qu7{p:Ps}{u:ByteArray}{it ct:Int}(hp:PsK p)(hu:whoB u=true)(hi:Kx it)(h0:0≤ct)(h1:ct≤1048576)(hb:∀k,Kx k→sumW k p≤1000000000000):putE p u (oneI it ct)=0:=by
 have h3:=Rd7 hi h0 h1
 have h4:=hp.ok u
 have h2:(addL [purseA p u,oneI it ct] it0).isSome=true:=by
  rw[ET7 [purseA p u,oneI it ct] (s:=it0) (t:=addIt (purseA p u) (oneI it ct)) (fun i hi=>by
   rcases List.mem_cons.1 hi with rfl|hi
   ·exact h4
   ·rw[List.mem_singleton.1 hi];exact h3) GS7 (fun k hk=>by
    rw[CY7,Bz7]
    simp[sumI]) (fun k hk=>by
    rw[CY7,DZ7 hi hk]
    have:=hp.le u k
    have:=hb k hk
    split <;> omega)]
  rfl
 unfold putE
 rw[if_pos ⟨hu,h3⟩,if_pos h2]
theorem Qv7(hn:(e.vs.map (·.1)).Nodup)(hE:EOk e n)(he:EachV e)(he2:EachV (appE e o).2.2)(hb:∀k,Kx k→totE e k≤500000000){k:Int}(hk:Kx k):
  totE (appE e o).2.2 k=totE e k+addK o (appE e o).1 (appE e o).2.1 k:=by
 cases hp:peekE e o with
 | mk r b=>
 cases b with
 | true=>
  rw[Db7 hp]
  unfold addK
  rw[if_neg (by simp)]
  show totE e k=totE e k+0
  omega
 | false=>
  obtain⟨rfl,hm⟩:=BB7 hp
  rw[Dc7 hp]at he2 ⊢
  dsimp only at he2 ⊢
  obtain⟨V,hV⟩:∃V,atV e o.ak=V:=⟨_,rfl⟩
  rw[hV]at he2 ⊢
  have hVf:PsK V.ps∧(∀x∈V.L,MayP x)∧∀k,Kx k→totV V k≤500000000:=by
   rw[←hV]
   unfold atV
   cases hg:getL e.vs o.ak with
   | none=>exact⟨⟨List.nodup_nil,EN7⟩,fun x hx=>(by cases hx),fun k _=>by show totV vs0 k≤_;rw[Ju7];omega⟩
   | some U=>
    have hu:=AK7 hg
    exact⟨vOk_k (hE _ hu),(he _ hu).1,fun k hk=>Int.le_trans (Fa7 (hE.nn he k) _ hu) (hb k hk)⟩
  obtain⟨hpk,hmay,hvb⟩:=hVf
  have hset:totE ⟨(setV e o.ak (doV V o).2).vs,doS e o (doV V o).1,doT e o (doV V o).1,doA e o⟩ k=totE e k-totV V k+totV (doV V o).2 k:=by
   have:=OH7 hn o.ak (doV V o).2 k
   rw[hV]at this
   exact this
  rw[hset]
  have hL2:∀x∈(doV V o).2.L,MayP x:=by
   by_cases hz:noneV (doV V o).2=true
   ·rw[GV7 hz];exact fun x hx=>(by cases hx)
   ·refine(he2 (o.ak,(doV V o).2) ?_).1
    show _∈(if noneV (doV V o).2=true then delL e.vs o.ak else(o.ak,(doV V o).2)::delL e.vs o.ak)
    rw[if_neg hz]
    exact List.mem_cons_self ..
  have hwl:∀k,Kx k→sumW k V.ps≤500000000:=fun k hk=>by
   have h1:=hvb k hk
   have h2:=ES7 hmay k
   unfold totV at h1
   omega
  have hgoal:totV (doV V o).2 k=totV V k+addK o (doV V o).1 true k:=by
   by_cases h1:o.kind=1
   ·obtain⟨hi,c0,c1,hw⟩:=Gv7 hm (.inl h1)
    have e1:doV V o=(⟨putE V.ps o.aw (oneI o.item o.cnt),0,it0⟩, { V with ps:=putP V.ps o.aw (oneI o.item o.cnt) }):=by unfold doV;rw[if_pos h1]
    rw[e1]
    have h2:=(HY7 (V:=V) (k:=o.aw) (i:=oneI o.item o.cnt) hpk k).1
    dsimp only at h2 ⊢
    rw[h2,DZ7 hi hk]
    unfold addK
    simp[h1]
   by_cases h2:o.kind=2
   ·obtain⟨hi,c0,c1,hw⟩:=Gv7 hm (.inr (.inl h2))
    have e1:doV V o=(⟨takeE V.ps o.aw (oneI o.item o.cnt),0,it0⟩, { V with ps:=takeP V.ps o.aw (oneI o.item o.cnt) }):=by unfold doV;rw[if_neg h1,if_pos h2]
    rw[e1]
    have h3:=(Ld7 (V:=V) (k:=o.aw) (i:=oneI o.item o.cnt) hpk k).1
    dsimp only at h3 ⊢
    rw[h3,DZ7 hi hk]
    unfold addK
    simp[h2]
    split <;> omega
   by_cases h3:o.kind=3
   ·have e1:doV V o=(⟨(ordV V (ordOf o)).2.1,(ordV V (ordOf o)).1,it0⟩,(ordV V (ordOf o)).2.2):=by unfold doV;rw[if_neg h1,if_neg h2,if_pos h3]
    rw[e1]at hL2 ⊢
    have h4:=Lb7 (o:=ordOf o) hpk hmay hL2 (fun k hk=>by have:=hvb k hk;omega) hk
    dsimp only at h4 ⊢
    rw[h4]
    unfold addK
    simp[h3]
   by_cases h4:o.kind=4
   ·have e1:doV V o=(⟨(canV V o.aw o.id).1,0,it0⟩,(canV V o.aw o.id).2):=by unfold doV;rw[if_neg h1,if_neg h2,if_neg h3,if_pos h4]
    rw[e1]
    have h5:=Lc7 (V:=V) (who:=o.aw) (id:=o.id) hpk hmay (fun k hk=>by have:=hvb k hk;omega) hk
    dsimp only at h5 ⊢
    rw[h5]
    unfold addK
    simp[h4]
   by_cases h6:o.kind=6
   ·obtain⟨hi,c0,c1,hw⟩:=Gv7 hm (.inr (.inr h6))
    have e1:doV V o=(rp0, { V with ps:=putP V.ps o.aw (oneI o.item o.cnt) }):=by unfold doV;rw[if_neg h1,if_neg h2,if_neg h3,if_neg h4,if_neg (by omega),if_pos h6]
    rw[e1]
    have h7:=(HY7 (V:=V) (k:=o.aw) (i:=oneI o.item o.cnt) hpk k).1
    rw[if_pos (Qu7 hpk hw hi (by omega) c1 (fun k hk=>by have:=hwl k hk;omega)),DZ7 hi hk]at h7
    dsimp only at h7 ⊢
    rw[h7]
    unfold addK
    simp[h6]
   ·have e1:(doV V o).2=V:=by
     unfold doV
     rw[if_neg h1,if_neg h2,if_neg h3,if_neg h4]
     repeat' split
     all_goals first|rfl|exact absurd ‹_› h6
    rw[e1]
    unfold addK
    rw[if_neg (show ¬(o.kind=1∨o.kind=6)by omega),if_neg h2]
    split <;> omega
  rw[hgoal]
  omega
theorem Qw7(hm:mayO o=true)(r:Rpl)(b:Bool)(k:Int):addK o r b k≤1048576:=by
 unfold addK
 split
 ·split
  ·rename_i h
   have:=Gv7 hm (by omega)
   split <;> omega
  ·split
   ·rename_i h
    have:=Gv7 hm (.inr (.inl h))
    split <;> omega
   ·omega
 ·omega
theorem Re7(r:Rpl)(k:Int):addK o r (appE e o).2.1 k≤1048576:=by
 cases hp:peekE e o with
 | mk r2 c=>
 cases c with
 | true=>
  rw[Db7 hp]
  unfold addK
  rw[if_neg (by simp)]
  omega
 | false=>exact Qw7 (BB7 hp).2 _ _ _
end
theorem Rf7{e:Ec}{n:Nat}(hE:EOk e n)(he:EachV e)(hb:∀k,Kx k→totE e k≤500000000):∀x∈e.vs,addL (allV x.2) it0=some (totI x.2):=fun x hx=>
 PP7 (vOk_k (hE x hx)) (he x hx).1 fun k hk=>by
  have h1:=Fa7 (hE.nn he k) x hx
  have h2:=hb k hk
  unfold totE at h2
  omega
theorem KA7{k:Int}(hk:Kx k):∀l:List (ByteArray×Vs),sumI k (l.map fun x=>totI x.2)=sumVs k l
 | []=>rfl
 | x::l=>by
  have ih:=KA7 hk l
  show getK (totI x.2) k+sumI k (l.map fun x=>totI x.2)=_
  rw[ih,EU7 _ hk]
  rfl
theorem Ix7(f:Int→Int){k:Int}(hk:Kx k):getK ⟨f 0,f 1,f 2,f 3⟩ k=f k:=by
 obtain⟨h0,h3⟩:=hk
 have h:k=0∨k=1∨k=2∨k=3:=by omega
 rcases h with rfl|rfl|rfl|rfl <;> rfl
theorem Rg7{e:Ec}{n:Nat}(hE:EOk e n)(he:EachV e)(hb:∀k,Kx k→totE e k≤500000000):∀l:List It,l.Perm (e.vs.map fun x=>totI x.2)→addL l it0=some ⟨totE e 0,totE e 1,totE e 2,totE e 3⟩:=fun l hl=>by
 refine ET7 l ?_ GS7 (fun k hk=>?_) (fun k hk=>?_)
 ·intro i hi
  obtain⟨x,hx,rfl⟩:=List.mem_map.1 (hl.mem_iff.1 hi)
  refine Jc7 fun k hk=>?_
  have h1:=Fa7 (hE.nn he k) x hx
  have h2:=hb k hk
  have h3:=hE.nn he k x hx
  unfold totE at h2
  rw[EU7 _ hk]
  omega
 ·rw[Ix7 (totE e) hk,Bz7,HZ7 hl,KA7 hk]
  show totE e k=0+totE e k
  omega
 ·rw[Ix7 (totE e) hk]
  have:=hb k hk
  omega
theorem xec0{W w:World}{R:List HP}{xb:Nat}(h:St W (xeB xb (.slice none 0 0) (.slice none 0 0) (.slice none 0 0) (.slice none 0 0)::R) w):St W (xecP xb ec0::R) w:=by
 have h1:=h.rowNil (k:=2) (T:=140)
 have h2:=h1.rowNil (k:=8) (T:=40)
 have h3:=h2.rowNil (k:=8) (T:=143)
 have h4:St W (sats []::_) w:=St.shutS [] h3
 have h5:=h4.rowNil (k:=2) (T:=137)
 have h6:St W (xrP (.slice none 0 0) []::dvaP []::xsP (.slice none 0 0) []::xtP (.slice none 0 0) []::xmP (.slice none 0 0) []::xeB xb (.slice none 0 0) (.slice none 0 0) (.slice none 0 0) (.slice none 0 0)::R) w:=h5
 exact xecShut (D:=[]) (d:=ec0) rfl (h6.s _)
abbrev sumR(b:Nat)(s0 s1 s2 s3:Int):HP:=blk b [.int .i64 s0,.int .i64 s1,.int .i64 s2,.int .i64 s3] 28
def TlR(W:World)(Lr:List HP)(eb xb sb:Nat)(xs:List Opn)(v:Value)(w:World):Prop:=
 ∃i:Nat,v=.int .i64 i∧i≤xs.length∧GOk (runD (xs.take i) ec0) (runE (xs.take i) ec0) i∧(∀k,Kx k→totE (runE (xs.take i) ec0) k≤i*1048576) ∧
  St W (ecP eb (runE (xs.take i) ec0)::xecP xb (runD (xs.take i) ec0)::sumR sb (totE (runE (xs.take i) ec0) 0) (totE (runE (xs.take i) ec0) 1) (totE (runE (xs.take i) ec0) 2) (totE (runE (xs.take i) ec0) 3)::Lr) w
end Go.Proofs.YtlmhakmoioogaaaGreat
end
section
namespace Go.Proofs.YtlmhakmoioogaaaGreat
open Go.Shelf
def Tryz.sortInts_ren:Go.Shelf.Ren:=⟨fun|189=>134|125=>177|257=>191|128=>224|129=>225|294=>239|295=>240|296=>241|297=>242|298=>243|299=>244|216=>245|300=>246|301=>247|328=>261|329=>252|330=>253|331=>262|332=>263|215=>178|343=>274|n=>n,fun|28=>62|3=>3|46=>195|0=>0|51=>295|53=>194|4=>4|183=>289|182=>288|131=>134|5=>5|9=>9|218=>318|222=>262|228=>332|229=>181|n=>n,fun|n=>n⟩
theorem Tryz.sortInts:Go.Proofs.Lays.n189 Tryz.prog Tryz.sortInts_ren:={
 mixed:=by kernel_rfl
 f125:=Tryz.func177.trans (congrArg some (by kernel_rfl))
 f128:=Tryz.func224.trans (congrArg some (by kernel_rfl))
 f129:=Tryz.func225.trans (congrArg some (by kernel_rfl))
 f189:=Tryz.func134.trans (congrArg some (by kernel_rfl))
 f215:=Tryz.func178.trans (congrArg some (by kernel_rfl))
 f216:=Tryz.func245.trans (congrArg some (by kernel_rfl))
 f257:=Tryz.func191.trans (congrArg some (by kernel_rfl))
 f294:=Tryz.func239.trans (congrArg some (by kernel_rfl))
 f295:=Tryz.func240.trans (congrArg some (by kernel_rfl))
 f296:=Tryz.func241.trans (congrArg some (by kernel_rfl))
 f297:=Tryz.func242.trans (congrArg some (by kernel_rfl))
 f298:=Tryz.func243.trans (congrArg some (by kernel_rfl))
 f299:=Tryz.func244.trans (congrArg some (by kernel_rfl))
 f300:=Tryz.func246.trans (congrArg some (by kernel_rfl))
 f301:=Tryz.func247.trans (congrArg some (by kernel_rfl))
 f328:=Tryz.func261.trans (congrArg some (by kernel_rfl))
 f329:=Tryz.func252.trans (congrArg some (by kernel_rfl))
 f330:=Tryz.func253.trans (congrArg some (by kernel_rfl))
 f331:=Tryz.func262.trans (congrArg some (by kernel_rfl))
 f332:=Tryz.func263.trans (congrArg some (by kernel_rfl))
 f343:=Tryz.func274.trans (congrArg some (by kernel_rfl))
 t0:=Tryz.underlying0
 a0:=Tryz.isAgg0
 z0:=Tryz.sizeOf0
 v0:=Tryz.zeroValue0
 t3:=Tryz.underlying3
 a3:=Tryz.isAgg3
 z3:=Tryz.sizeOf3
 v3:=Tryz.zeroValue3
 t4:=Tryz.underlying4
 a4:=Tryz.isAgg4
 z4:=Tryz.sizeOf4
 v4:=Tryz.zeroValue4
 t5:=Tryz.underlying5
 a5:=Tryz.isAgg5
 z5:=Tryz.sizeOf5
 v5:=Tryz.zeroValue5
 t9:=Tryz.underlying9
 a9:=Tryz.isAgg9
 z9:=Tryz.sizeOf9
 v9:=Tryz.zeroValue9
 t28:=Tryz.underlying62
 a28:=Tryz.isAgg62
 z28:=Tryz.sizeOf62
 v28:=Tryz.zeroValue62
 t46:=Tryz.underlying195
 a46:=Tryz.isAgg195
 z46:=Tryz.sizeOf195
 v46:=Tryz.zeroValue195
 t51:=Tryz.underlying295
 a51:=Tryz.isAgg295
 z51:=Tryz.sizeOf295
 v51:=Tryz.zeroValue295
 t53:=Tryz.underlying194
 a53:=Tryz.isAgg194
 z53:=Tryz.sizeOf194
 v53:=Tryz.zeroValue194
 t131:=Tryz.underlying134
 a131:=Tryz.isAgg134
 z131:=Tryz.sizeOf134
 v131:=Tryz.zeroValue134
 t182:=Tryz.underlying288
 a182:=Tryz.isAgg288
 z182:=Tryz.sizeOf288
 v182:=Tryz.zeroValue288
 t183:=Tryz.underlying289
 a183:=Tryz.isAgg289
 z183:=Tryz.sizeOf289
 v183:=Tryz.zeroValue289
 t218:=Tryz.underlying318
 a218:=Tryz.isAgg318
 z218:=Tryz.sizeOf318
 v218:=Tryz.zeroValue318
 t222:=Tryz.underlying262
 a222:=Tryz.isAgg262
 z222:=Tryz.sizeOf262
 v222:=Tryz.zeroValue262
 t228:=Tryz.underlying332
 a228:=Tryz.isAgg332
 z228:=Tryz.sizeOf332
 v228:=Tryz.zeroValue332
 t229:=Tryz.underlying181
 a229:=Tryz.isAgg181
 z229:=Tryz.sizeOf181
 v229:=Tryz.zeroValue181 }
end Go.Proofs.YtlmhakmoioogaaaGreat
end
section
namespace Go.Proofs.YtlmhakmoioogaaaGreat
open Go.Shelf Go.RowKit Go.Lib Go.Sort Go.Sl
abbrev eZ(z:Int):Value:=.int .i64 z
def KzR{ν:Type}(W:World)(ev:ν→Value)(X:List Int→HP)(r b:Nat)(l:List (Int×ν))(L:List HP)(w:World):Prop:=
 ∃(ss:List Int) (todo:List (Int×ν)),(ss++todo.map (·.1)).Perm (l.map (·.1))∧St W (itR eZ ev r b l todo::X ss::L) w
theorem mSs':tyMap Tryz.prog 80=some (3,90):=by kernel_rfl
theorem OI7{ν:Type}{ev:ν→Value}{m lp g b:Nat}{l:List (Int×ν)}{X:List Int→HP}{W w:World}{L:List HP}(hY:Takes Tryz.prog eZ l.length lp W X)(hS:St W (X []::blk g [.map (some b)] 80::amap eZ ev b l::L) w):
  CallsIn Fence.wide m Tryz.prog 135 #[.func (.yield lp) #[] #[],.pointer (some ⟨g,0,none⟩)] w fun e w'=>(∃v,e=.returned v)∧∃ss,ss.Perm (l.map (·.1))∧St W (X ss::blk g [.map (some b)] 80::amap eZ ev b l::L) w':=by
 refine callsIn_of_wp Tryz.func135 rfl trivial ?_ rfl
 simp only[Tryz.ntmps135,List.size_toArray,List.length_cons,List.length_nil,Nat.reduceAdd,Nat.reduceSub,Array.replicate_succ,Array.replicate_zero,List.push_toArray,List.append_toArray,List.nil_append,List.cons_append]
 gi_wp2_with (first|((with_reducible apply Dj7 allF hS);(with_reducible rfl);rfl;rfl;decide +kernel;(exact celS);go_frame)|(gi_at_range;refine Eu7 (ek:=eZ) (ev:=ev) hS rfl rfl rfl mSs' (by exact takeS) ?_;clear hS;intro r w hS;go_frame)|gi_in)
 gi_loopw [] (fun wr=>KzR W ev X r b l (blk g [.map (some b)] 80::L) wr) (fun wr=>itLeft r b wr)
 case atStart=>exact⟨[],l,by simp,hS⟩
 case round=>
  clear hS
  obtain⟨ss,todo,hp,hS⟩:=hrel
  have hm:=Bp7 hS
  gi_wp2_with (first|(gi_at_next;refine FL7 (ek:=eZ) (ev:=ev) hS rfl rfl rfl ?_ ?_)|gi_in)
  ·intro h0
   subst h0
   gi_wp2
   go_end0
   exact⟨⟨_,rfl⟩,ss,by simpa using hp,(itEnd hS).s _⟩
  ·intro y1 yv todo' w2 hp2 hy hS2 hen
   have hlen:=hp.length_eq
   have hlen2:=hp2.length_eq
   simp only[List.length_append,List.length_map,List.length_cons]at hlen hlen2
   have hp3:(ss++[y1]++todo'.map (·.1)).Perm (l.map (·.1)):=by
    rw[List.append_assoc]
    refine List.Perm.trans ?_ hp
    exact List.Perm.append_left ss (show(((y1,yv)::todo').map (fun x=>x.1)).Perm (todo.map (fun x=>x.1))from(hp2.map (fun x=>x.1)).symm)
   clear hS hy hp hp2
   have hS:=hS2
   clear hS2
   gi_wp2_with (first|((with_reducible apply FO7 (k:=y1) (pre:=ss) hY hS);(with_reducible rfl);rfl;rfl;rfl;omega;(exact takeS);clear hS;intro w hS;go_frame)|gi_in)
   go_roundw
   case rel=>exact⟨ss++[y1],todo',hp3,hS.s _⟩
   case measure=>
    have hm2:=Bp7 (hS.s (itR eZ ev r b l todo'::X (ss++[y1])::blk g [.map (some b)] 80::L))
    omega
def apZ(bB:Nat)(ss:List Int):HP:=fun f=>∃v,sep (blk bB [v] 62) (row v 1 3 ss.length (ss.map eZ)) f
theorem appendZ{gf:Nat}{lb:Array Value}{S:List Int→Prop}{N:Nat}{W w:World}{R:List HP}(hN:N≤1000000000)(hseq0:Gives Tryz.prog eZ N gf lb S W R)(eg:∀args w,(callFunc gf args).run Tryz.prog w=.ok (.enter gf args) w)(hS:St W R w):
  Calls Tryz.prog 190 #[.slice none 0 0,.func (.func gf) #[] lb] w fun e w'=>∃v ss,e=.returned v∧S ss∧St W (row v 1 3 ss.length (ss.map eZ)::R) w':=by
 refine(callsIn_wide (n:=5)).1 ?_
 refine callsIn_of_wp_marks Tryz.func190 rfl trivial ?_ rfl
 simp only[Tryz.ntmps190,List.size_toArray,List.length_cons,List.length_nil,Nat.reduceAdd,Nat.reduceSub,Array.replicate_succ,Array.replicate_zero,List.push_toArray,List.append_toArray,List.nil_append,List.cons_append]
 gi_wp2_with (first|((with_reducible apply MU7 allF hS);(with_reducible rfl);rfl;rfl;rfl;clear hS;intro bB w hS;go_frame)|gi_in)
 have h0:St W (apZ bB []::R) w:=St.mkEx (.slice none 0 0) (St.join (St.swap (hS.rowNil (k:=1) (T:=3))))
 clear hS
 refine rangeF rfl eg hseq0 h0 ?_ ?_
 ·clear hseq0 h0 eg
  intro l m pre x L w hlt hS0
  obtain⟨v,hS1⟩:=St.ex hS0
  have hS:=St.split hS1
  clear hS0 hS1
  simp only[fA,fB,fC,Nat.reduceAdd]
  gi_wp2_with (first|gi_in)
  refine⟨_,St.join hS,?_⟩
  clear hS
  intro L2 w2 hS2
  have hS:=St.split hS2
  clear hS2
  gi_wp2_with (first|((with_reducible apply Dj7 (allR _) hS);(with_reducible rfl);rfl;rfl;decide +kernel;(exact celS);go_frame)|((with_reducible apply Po7 (allR _) hS);(with_reducible rfl);rfl;(focus(simp only[fD,fI,fJ,Act.eval,fE,fF,fG,fH,fK];try rfl));(exact esS);(exact rsS);rfl;rfl;rfl;rfl;clear hS;intro bS w hS;go_frame)|((with_reducible apply Gt7 hS);(with_reducible rfl);rfl;rfl;rfl;(exact esS);(exact rsS);rfl;decide;(exact takeS);(exact(Src.mk Cells.whole).at hS);rfl;rfl;(unfold maxLen;omega);omega;clear hS;intro v w hS;(have hv:=hS.rowVal;obtain⟨va,vc,rfl⟩:=hv);go_frame)|((with_reducible apply MV7 (allR _) hS);(with_reducible rfl);rfl;rfl;(focus((conv=>lhs;whnf);try rfl));kernel_rfl;rfl;rfl;(exact updS);(simp only[List.length_cons,List.length_nil];omega);((simp only[List.set_cons_zero,List.set_cons_succ,setAll]);rfl);clear hS;intro w hS;go_frame)|gi_in)
  have e1:(pre++[x]).length=pre.length+1:=by simp
  have e2:(pre++[x]).map eZ=pre.map eZ++[.int .i64 x]:=by rw[List.map_append];rfl
  have hS1:=hS.s (blk bB [_] _::row _ 1 _ _ _::L2)
  have hS2:St W (blk bB [.slice va (pre.length+1) vc] 62::row (.slice va (pre.length+1) vc) 1 3 (pre.length+1) (pre.map eZ++[.int .i64 x])::L2) w:=hS1
  rw[←e2]at hS2
  rw[←e1]at hS2
  exact St.mkEx _ (St.join hS2)
 ·clear hseq0 h0 eg
  intro D ss w hs hS0
  obtain⟨v,hS1⟩:=St.ex hS0
  have hS:=St.split hS1
  clear hS0 hS1
  have hK:=hS.get (b:=D) (.tail (.tail .head))
  gi_wp2_with (first|((with_reducible apply Dj7 allF hS);(with_reducible rfl);rfl;rfl;decide +kernel;(exact celS);go_frame)|gi_in)
  refine⟨by simp,.inl ⟨_,_,rfl,run_takeDeferred hK,?_⟩⟩
  have hS2:=(hS.s (blkO D (.deferred (some []))::row v 1 3 ss.length (ss.map eZ)::R)).putObj (.deferred none)
  exact⟨_,results_tmp rfl _ _ _,v,ss,rfl,hs,hS2.drop⟩
theorem collectZ{gf:Nat}{lb:Array Value}{S:List Int→Prop}{N:Nat}{W w:World}{R:List HP}(hN:N≤1000000000)(hseq:Gives Tryz.prog eZ N gf lb S W R)(eg:∀args w,(callFunc gf args).run Tryz.prog w=.ok (.enter gf args) w)(hS:St W R w):
  Calls Tryz.prog 133 #[.func (.func gf) #[] lb] w fun e w'=>∃v ss,e=.returned v∧S ss∧St W (row v 1 3 ss.length (ss.map eZ)::R) w':=by
 go_enter Tryz.func133,Tryz.ntmps133
 go_wp2_with(go_at_call 190;refine(appendZ hN hseq eg hS).mono ?_;clear hS;rintro e w ⟨v,ss,rfl,hs,hS⟩)
 go_ret
 exact⟨v,ss,rfl,hs,hS⟩
def srtI(l:List Int):List Int:=l.mergeSort fun x y=>decide (x≤y)
theorem CN7(l:List Int):(srtI l).Perm l:=List.mergeSort_perm _ _
theorem Fb7(l:List Int):(srtI l).length=l.length:=(CN7 l).length_eq
theorem Nm7(l:List Int)(g cap:Nat)(junk:List Value)(h62:l.length<4611686018427387904)(W w:World)(L:List HP)(hS:St W (blk g (l.map eZ++junk) 3::L) w):
  Calls Tryz.prog 134 #[.slice (some ⟨g,0,none⟩) l.length cap] w fun e w'=>e=.returned (.tuple #[])∧St W (blk g ((srtI l).map eZ++junk) 3::L) w':=by
 have hgt:=hS.get (b:=g) .head
 have hblk:g<w.heap.size:=(Array.getElem?_eq_some_iff.1 hgt).1
 have hH:Holds (Value.int .i64) w g 0 l.toArray:=by
  intro j hj
  have hj2:j<l.length:=by simpa using hj
  refine⟨hS.cell .head ?_,hS.free .head⟩
  rw[Nat.zero_add,List.getElem?_append_left (by simpa using hj2),List.getElem?_map,List.getElem?_eq_getElem hj2]
  simp[hj2]
 have hcon:=Any.slices_Sort_int Tryz.sortInts g 0 cap l w hH hblk h62
 change Calls Tryz.prog 134 _ _ _ at hcon
 refine hcon.mono ?_
 rintro e w' ⟨rfl,n,os,rfl⟩
 refine⟨rfl,?_⟩
 refine St.grow ?_ os
 have hSd:St W (blk g (l.map eZ++junk) 3::L) (Sort.ahead w n):=⟨hS.os,hS.tape,hS.output,hS.sat⟩
 refine hSd.putO (w':=putRow (Value.int .i64) (Sort.ahead w n) g 0 (srtI l).toArray) (o':=.cells ((srtI l).map eZ++junk).toArray 3 (0,0)) .head rfl rfl rfl fun k=>?_
 show((Sort.ahead w n).heap.modify g _)[k]? = _
 rw[Array.getElem?_modify]
 by_cases hk:k=g
 ·subst hk
  rw[if_pos rfl,if_pos rfl]
  have hgt':(Sort.ahead w n).heap[k]? = some (.cells (l.map eZ++junk).toArray 3 (0,0)):=hgt
  rw[hgt']
  simp only[Option.map_some,Sort.onCells]
  congr 2
  have hsl:=Fb7 l
  apply Array.ext_getElem?
  intro t
  unfold Sort.putCells
  simp only[Array.getElem?_mapIdx,List.getElem?_toArray,List.size_toArray,Nat.zero_le,true_and,Nat.zero_add,Nat.sub_zero]
  by_cases ht:t<l.length
  ·have ht2:t<(srtI l).length:=by omega
   rw[List.getElem?_append_left (by simpa using ht),List.getElem?_append_left (by simpa using ht2),List.getElem?_map,List.getElem?_map,List.getElem?_eq_getElem ht,List.getElem?_eq_getElem ht2]
   simp[ht2]
  ·have h2:(l.map eZ++junk)[t]? = ((srtI l).map eZ++junk)[t]? := by
    rw[List.getElem?_append_right (by simpa using ht),List.getElem?_append_right (by rw[List.length_map];omega),List.length_map,List.length_map,hsl]
   rw[←h2]
   have ht3:¬t<(srtI l).length:=by omega
   simp[ht3]
 ·rw[if_neg (fun h=>hk h.symm),if_neg hk]
theorem Jv7(W w:World)(L:List HP)(hS:St W L w):
  Calls Tryz.prog 239 #[.slice none 0 0,.int .i64 0,.int .i64 0] w fun e w'=>e=.returned (.tuple #[])∧St W L w':=by
 go_enter Tryz.func239,Tryz.ntmps239
 go_wp2_with fail
 go_loopw [6] (fun v wr=>v=.int .i64 1∧St W L wr) (fun _ _=>0)
 case atStart=>exact⟨rfl,hS⟩
 case round=>
  clear hS
  obtain⟨rfl,hS⟩:=hrel
  go_wp2_with fail
  go_end0
  exact⟨rfl,hS⟩
theorem OJ7(n:Int)(W w:World)(L:List HP)(hS:St W L w):
  Calls Tryz.prog 191 #[.slice none 0 0,.int .i64 0,.int .i64 0,.int .i64 n] w fun e w'=>e=.returned (.tuple #[])∧St W L w':=by
 go_enter Tryz.func191,Tryz.ntmps191
 go_wp2_with fail
 go_loopw [1,2] (fun v1 v2 wr=>v1=.int .i64 0∧v2=.int .i64 0∧St W L wr) (fun _ _ _=>0)
 case atStart=>exact⟨rfl,rfl,hS⟩
 case round=>
  clear hS
  obtain⟨rfl,rfl,hS⟩:=hrel
  go_wp2_with(first|(go_at_call 239;refine(Jv7 W _ _ hS).mono ?_;clear hS;rintro e w ⟨rfl,hS⟩))
  refine bodyPost_ret (results_none rfl _ _ _) rfl ?_
  exact⟨rfl,hS⟩
theorem Nn7(W w:World)(L:List HP)(hS:St W L w):
  Calls Tryz.prog 134 #[.slice none 0 0] w fun e w'=>e=.returned (.tuple #[])∧St W L w':=by
 have hl:∀w:World,Calls Tryz.prog 177 #[.int .u64 0] w fun e w'=>(∃l:Int,e=.returned (.int .i64 l))∧w'=w:=fun w=>
  (Any.bits_Len Tryz.bitsLenW 0 w (by omega) (by omega)).mono fun _ _ ⟨he,hw⟩=>⟨⟨_,he⟩,hw⟩
 go_enter Tryz.func134,Tryz.ntmps134
 go_wp2_with(first|(go_at_call 177;refine(hl _).mono ?_;rintro e w ⟨⟨l,rfl⟩,rfl⟩)|(go_at_call 191;refine(OJ7 _ W _ _ hS).mono ?_;clear hS;rintro e w ⟨rfl,hS⟩))
 go_end0
 exact⟨rfl,hS⟩
theorem Gw7{l l':List Int}(h:l.Perm l'):srtI l=srtI l':=by
 have hp:∀m:List Int,(srtI m).Pairwise fun x y=>decide (x≤y)=true:=fun m=>List.pairwise_mergeSort (fun a b c h1 h2=>by simp only[decide_eq_true_eq]at *;omega) (fun a b=>by simp only[Bool.or_eq_true,decide_eq_true_eq];omega) m
 exact List.Perm.eq_of_pairwise (fun a b _ _ h1 h2=>by simp only[decide_eq_true_eq]at h1 h2;omega) (hp l) (hp l') (((CN7 l).trans h).trans (CN7 l').symm)
theorem sortedZ{gf:Nat}{lb:Array Value}{K:List Int}{W w:World}{R:List HP}(hN:K.length≤1000000000)(hseq:Gives Tryz.prog eZ K.length gf lb (fun ss=>ss.Perm K) W R)(eg:∀args w,(callFunc gf args).run Tryz.prog w=.ok (.enter gf args) w)(hS:St W R w):
  Calls Tryz.prog 68 #[.func (.func gf) #[] lb] w fun e w'=>∃v,e=.returned v∧St W (row v 1 3 K.length ((srtI K).map eZ)::R) w':=by
 go_enter Tryz.func68,Tryz.ntmps68
 go_wp2_with(go_at_call 133;refine(collectZ hN hseq eg hS).mono ?_;clear hS;rintro e w ⟨v,ss,rfl,hp,hS⟩)
 rcases hS.rowOpen with ⟨rfl,h0,hc,hS1⟩|⟨g,cap,junk,rfl,hn1,hm1,hj,hl,hS1⟩
 ·refine(Nn7 W _ _ hS1).mono ?_
  clear hS
  rintro e w ⟨rfl,hS⟩
  go_wp2_with fail
  go_ret
  obtain rfl:ss=[]:=List.eq_nil_of_length_eq_zero h0
  obtain rfl:K=[]:=List.Perm.eq_nil hp.symm
  have e:srtI []=[]:=by unfold srtI;simp
  refine⟨.slice none 0 0,rfl,?_⟩
  rw[e]
  exact hS.rowNil
 ·refine(Nm7 ss g cap junk (by rw[hp.length_eq];omega) W _ _ hS1).mono ?_
  clear hS hS1
  rintro e w ⟨rfl,hS⟩
  have hl2:=Fb7 ss
  have hf:((srtI ss).map eZ).length=(ss.map eZ).length:=by rw[List.length_map,List.length_map,hl2]
  have hS1:=hS.rowShut (k:=1) (n:=ss.length) (cap:=cap) hn1 hm1 (by rw[List.length_append,hf,←List.length_append];exact hj) (by rw[hf];exact hl)
  have hk:K.length=ss.length:=hp.length_eq.symm
  have hfin:St W (row (.slice (some ⟨g,0,none⟩) ss.length cap) 1 3 K.length ((srtI K).map eZ)::R) w:=by rw[hk,←Gw7 hp];exact hS1
  have Hfin:=Lib.hid hfin
  clear hp hl2 hf hn1 hm1 hj hl hk hfin hS hS1
  go_wp2_with fail
  go_ret
  exact⟨_,rfl,Hfin.out⟩
theorem Lr7(mb:Option Nat)(W w:World)(L:List HP)(hS:St W L w):
  Calls Tryz.prog 69 #[.map mb] w fun e w'=>∃g,e=.returned (.func (.func 135) #[] #[.pointer (some ⟨g,0,none⟩)])∧St W (blk g [.map mb] 80::L) w':=by
 go_enter Tryz.func69,Tryz.ntmps69
 go_wp2_with(refine zbx hS ?_;clear hS;intro b w hS)
 go_ret
 exact⟨b,rfl,hS⟩
theorem Iy7:∀args w,(callFunc 135 args).run Tryz.prog w=.ok (.enter 135 args) w:=enters_of Tryz.func135 (by kernel_rfl) rfl
theorem Jw7{ν:Type}{ev:ν→Value}{g b:Nat}{l:List (Int×ν)}{W:World}{R:List HP}:
  Gives Tryz.prog eZ (l.map (·.1)).length 135 #[.pointer (some ⟨g,0,none⟩)] (fun ss=>ss.Perm (l.map (·.1))) W (blk g [.map (some b)] 80::amap eZ ev b l::R):=
 fun lp m X w hT hS=>OI7 (by rw[List.length_map]at hT;exact hT) hS
end Go.Proofs.YtlmhakmoioogaaaGreat
end
