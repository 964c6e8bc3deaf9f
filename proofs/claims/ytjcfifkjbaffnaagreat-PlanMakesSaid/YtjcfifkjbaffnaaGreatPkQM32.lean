/-
  Maps, hosts, tables and limits that come in.
-/
import Derived.Test.YtjcfifkjbaffnaaGreatPkQM6
import Derived.Test.YtjcfifkjbaffnaaGreatPkQM31
import Derived.SizedLaws
set_option maxHeartbeats 16000000
set_option maxRecDepth 100000
set_option linter.unusedSimpArgs false
set_option linter.unusedVariables false
section
namespace Go.Proofs.YtjcfifkjbaffnaaGreat
open Go.Joins Go.ChangeShapes Go.WideShapes Go.RowKit Go.Deep Go.Sl
theorem M6{n:Int}(h:(Lit.int .i64 n).wf=true):rgI n:=by have e1:IntKind.i64.min = -9223372036854775808:=rfl;have e2:IntKind.i64.max=9223372036854775807:=rfl;unfold rgI;simp only[Lit.wf,jB,decide_eq_true_eq,e1,e2]at h;exact h
section
variable{H:Type}{enc:TypeId×Value->H}{w:World}{base:Nat}{spare:Nat->Bool}{held:Bool}
theorem EK7{n:Nat}{cs:List Value}{y:DataW H×List MemPlace}(h:DataW.trod enc Tryz.prog w base spare held n 53 cs=some y):∃k u:ByteArray,cs=[.string k,.string u]:=by
 obtain⟨xs,n',rfl,hx,hlen,hxl,hg⟩:=DataW.trod_struct Tryz.underlying53 h;have hlen':cs.length=2:=hlen.trans (by kernel_rfl)
 match cs,hlen' with
 | [c0,c1],_=>
  match xs,hxl with
  | [y0,y1],_=>
   have g0:=hg 0 _ rfl;have g1:=hg 1 _ rfl;obtain⟨k,e0,_⟩:=DataW.trod_string Tryz.underlying9 (show DataW.trod enc Tryz.prog w base spare held n' 9 [c0]=some y0 from g0);obtain⟨u,e1,_⟩:=DataW.trod_string Tryz.underlying9 (show DataW.trod enc Tryz.prog w base spare held n' 9 [c1]=some y1 from g1);simp only[List.cons.injEq,and_true]at e0 e1;subst e0 e1;exact⟨k,u,rfl⟩
theorem EL7{n:Nat}{cs:List Value}{y:DataW H×List MemPlace}(h:DataW.trod enc Tryz.prog w base spare held n 55 cs=some y):∃z:{z:Zo // rgZ z},cs=z.1.cells:=by
 obtain⟨xs,n',rfl,hx,hlen,hxl,hg⟩:=DataW.trod_struct Tryz.underlying55 h;have hlen':cs.length=9:=hlen.trans (by kernel_rfl)
 match cs,hlen' with
 | [c0,c1,c2,c3,c4,c5,c6,c7,c8],_=>
  match xs,hxl with
  | [y0,y1,y2,y3,y4,y5,y6,y7],_=>
   have g0:=hg 0 _ rfl;have g1:=hg 1 _ rfl;have g2:=hg 2 _ rfl;have g3:=hg 3 _ rfl;have g4:=hg 4 _ rfl;have g5:=hg 5 _ rfl;have g6:=hg 6 _ rfl;have g7:=hg 7 _ rfl;obtain⟨z0,e0,_,w0⟩:=DataW.trod_int Tryz.underlying3 (show DataW.trod enc Tryz.prog w base spare held n' 3 [c0]=some y0 from g0);obtain⟨ak,au,e1⟩:=EK7 (show DataW.trod enc Tryz.prog w base spare held n' 53 [c1,c2]=some y1 from g1);obtain⟨z2,e2,_,w2⟩:=DataW.trod_int Tryz.underlying3 (show DataW.trod enc Tryz.prog w base spare held n' 3 [c3]=some y2 from g2);obtain⟨z3,e3,_,w3⟩:=DataW.trod_int Tryz.underlying3 (show DataW.trod enc Tryz.prog w base spare held n' 3 [c4]=some y3 from g3);obtain⟨z4,e4,_,w4⟩:=DataW.trod_int Tryz.underlying3 (show DataW.trod enc Tryz.prog w base spare held n' 3 [c5]=some y4 from g4);obtain⟨z5,e5,_,w5⟩:=DataW.trod_int Tryz.underlying3 (show DataW.trod enc Tryz.prog w base spare held n' 3 [c6]=some y5 from g5);obtain⟨z6,e6,_⟩:=DataW.trod_string Tryz.underlying9 (show DataW.trod enc Tryz.prog w base spare held n' 9 [c7]=some y6 from g6);obtain⟨z7,e7,_,w7⟩:=DataW.trod_int Tryz.underlying3 (show DataW.trod enc Tryz.prog w base spare held n' 3 [c8]=some y7 from g7);simp only[List.cons.injEq,and_true]at e0 e1 e2 e3 e4 e5 e6 e7;obtain⟨e1,e1'⟩:=e1;subst e0 e1 e1' e2 e3 e4 e5 e6 e7;exact⟨⟨⟨z0,ak,au,z2,z3,z4,z5,z6,z7⟩,M6 w0,M6 w2,M6 w3,M6 w4,M6 w5,M6 w7⟩,rfl⟩
theorem Ga7{P:Zo->Prop}{w:World}{v:Value}{xs:List {z:Zo // P z}}(h:d6 (fun z:{z:Zo // P z}=>z.1.cells) 9 w v xs):d6 Zo.cells 9 w v (xs.map (·.1)):=by obtain⟨a,cap,e,h1,h2⟩:=h;refine⟨a,cap,by rw[jM];exact e,by rw[jM];exact h1,fun i hi=>?_⟩;rw[jM]at hi;obtain⟨b,off,ea,hc⟩:=h2 i hi;exact⟨b,off,ea,fun j u hj=>hc j u (by simpa using hj)⟩
theorem Gb7{n:Nat}{cs:List Value}{y:DataW H×List MemPlace}(h:DataW.trod enc Tryz.prog w base spare held n 34 cs=some y):∃z:Ro,cs=z.cells:=by
 obtain⟨xs,n',rfl,hx,hlen,hxl,hg⟩:=DataW.trod_struct Tryz.underlying34 h;have hlen':cs.length=3:=hlen.trans (by kernel_rfl)
 match cs,hlen' with
 | [c0,c1,c2],_=>
  match xs,hxl with
  | [y0,y1,y2],_=>
   have g0:=hg 0 _ rfl;have g1:=hg 1 _ rfl;have g2:=hg 2 _ rfl;obtain⟨z0,e0,_⟩:=DataW.trod_int Tryz.underlying3 (show DataW.trod enc Tryz.prog w base spare held n' 3 [c0]=some y0 from g0);obtain⟨z1,e1,_⟩:=DataW.trod_int Tryz.underlying3 (show DataW.trod enc Tryz.prog w base spare held n' 3 [c1]=some y1 from g1);obtain⟨z2,e2,_⟩:=DataW.trod_string Tryz.underlying9 (show DataW.trod enc Tryz.prog w base spare held n' 9 [c2]=some y2 from g2);simp only[List.cons.injEq,and_true]at e0 e1 e2;subst e0 e1 e2;exact⟨⟨z0,z1,z2⟩,rfl⟩
theorem open_rowsP{r:Reach}{b0:Nat}{v:Value}{d:DataW H}{p:List MemPlace}(hv:Value.okWide Tryz.prog w r b0 26 v)(h:DataW.Trod enc Tryz.prog w base spare held 26 v d p):∃xs,d6 Ro.cells 3 w v xs:=
 Ck7 Ro.cells ro0 Ro.len (by decide) Tryz.underlying26 (by kernel_rfl) (fun n cs y _ h => Gb7 h) hv h
theorem open_intsP{r:Reach}{b0:Nat}{v:Value}{d:DataW H}{p:List MemPlace}(hv:Value.okWide Tryz.prog w r b0 25 v)(h:DataW.Trod enc Tryz.prog w base spare held 25 v d p):∃xs,d6 hC 1 w v xs:=
 Ck7 hC 0 Cs7 (by decide) Tryz.underlying25 (by kernel_rfl) (fun n cs y _ h => by obtain⟨k,e,_⟩:=DataW.trod_int Tryz.underlying3 h;exact⟨k,e⟩) hv h
theorem rg0:rgZ ⟨0,⟨#[]⟩,⟨#[]⟩,0,0,0,0,⟨#[]⟩,0⟩:=by unfold rgZ rgI;simp
end
section
variable{H:Type}{enc:TypeId×Value->H}{P:Program}{w:World}{base:Nat}{spare:Nat->Bool}{held:Bool}
theorem CE7{e:TypeId}:∀{ds:List (DataW H)} {i:Nat} (h:i<ds.length) {n:Nat},n∈ds[i].weights P e->n∈DataW.weightsAll P e ds
 | d::ds,0,_,n,hn=>by rw[DataW.weightsAll];exact List.mem_append_left _ hn
 | d::ds,i+1,h,n,hn=>by rw[DataW.weightsAll];exact List.mem_append_right _ (CE7 (i:=i) (Nat.lt_of_succ_lt_succ h) hn)
theorem EM7{α:Type}{t e:TypeId}{k fuel:Nat}{cs:List Value}{y:DataW H×List MemPlace}(en:α->List Value)(x0:α)(Q:α->DataW H->Prop)(hk:∀x,(en x).length=k)(h0:0<k)(ht:P.underlying t=some (.slice e))(hC:P.cellsOf e=k)
  (hE:∀(n:Nat) (cs:List Value) (y:DataW H×List MemPlace),cs.length=k->DataW.trod enc P w base spare held n e cs=some y->∃x,cs=en x/\Q x y.1)
  (hf:DataW.trod enc P w base spare held fuel t cs=some y):∃v xs,cs=[v]/\d6 en k w v xs/\((∀n∈y.1.weights P t,n<=reachBytes)->xs.length*P.bytesOf e<=reachBytes)/\∀x∈xs, ∃d,Q x d/\((∀n∈y.1.weights P t,n<=reachBytes)->∀n∈d.weights P e,n<=reachBytes):=by
 rcases open_slice ht hf with ⟨rfl,hx⟩|⟨a,len,cap,m,n,D,Pl,rfl,hb,hl,hm,hmm,hx,hi⟩
 ·exact⟨_,[],rfl,⟨none,0,rfl,by simp,fun i hi=>absurd hi (Nat.not_lt_zero _)⟩,fun _=>by simp,fun x hx=>(by cases hx)⟩
 ·have hlm:len<=m:=by rw[hmm];split <;> omega
  have hex:∀i, ∃x:α,i<len->Q x (D i)/\∀j u,(en x)[j]? = some u->w.cell? ((a.add (i*k)).add j)=some u:=fun i=>by
   by_cases hil:i<len
   ·obtain⟨cs',hc,ht'⟩:=hi i (by omega);rw[hC]at hc;obtain⟨_,hcl,hat⟩:=World.cells?_some hc;obtain⟨x,rfl,hq⟩:=hE n cs' _ hcl ht';refine⟨x,fun _=>⟨hq,fun j u hj=>?_⟩⟩;have hjk:j<k:=by have:=(List.getElem?_eq_some_iff.1 hj).1;rwa [hk]at this
    rw[hat j hjk];exact hj
   ·exact⟨x0,fun h=>absurd h hil⟩
  obtain⟨f,hf'⟩:=Classical.axiomOfChoice hex;have hll:((List.range len).map f).length=len:=by simp
  have hy:y.1=.slice ((List.range len).map D) ((List.range (m-len)).map fun j=>D (len+j)):=by rw[hx]
  have hwt:y.1.weights P t=(((List.range len).map D).length+((List.range (m-len)).map fun j=>D (len+j)).length)*P.bytesOf e::(DataW.weightsAll P e ((List.range len).map D)++DataW.weightsAll P e ((List.range (m-len)).map fun j=>D (len+j))):=by rw[hy];simp[DataW.weights,ht]
  refine⟨_,(List.range len).map f,rfl,⟨some a,cap,by rw[hll],by rw[hll];unfold maxLen at hm;omega,fun i hi2=>?_⟩,fun hB=>?_,fun x hx=>?_⟩
  ·rw[hll]at hi2;have hspot:a.spot=none:=by have hc:=(hf' 0 (by omega)).2;have h1:(en (f 0))[0]? = some ((en (f 0))[0]'(by rw[hk];exact h0)):=jG _;have:=World.cell?_spot (hc 0 _ h1);simpa[Addr.add]using this
   obtain⟨b,off,spot⟩:=a;simp only at hspot;subst hspot;refine⟨b,off,rfl,fun j u hj=>?_⟩;have e1:((List.range len).map f)[i]=f i:=by simp
   rw[e1]at hj;have:=(hf' i hi2).2 j u hj;rwa [Addr.add_lit,Addr.add_lit]at this
  ·rw[hwt]at hB;have:=hB _ (List.mem_cons_self ..);rw[hll];refine Nat.le_trans (Nat.mul_le_mul_right _ ?_) this;simp
  ·obtain⟨i,hi,rfl⟩:=List.mem_map.1 hx;have hil:=List.mem_range.1 hi;refine⟨D i,(hf' i hil).1,fun hB n hn=>?_⟩;rw[hwt]at hB;refine hB n (List.mem_cons_of_mem _ (List.mem_append_left _ (CE7 (i:=i) (by simpa using hil) ?_)));simpa using hn
end
section
variable{H:Type}{enc:TypeId×Value->H}{w:World}{base:Nat}{spare:Nat->Bool}{held:Bool}
theorem open_mapP{r:Reach}{b0:Nat}{v:Value}{d:DataW H}{p:List MemPlace}
  (hv:Value.okWide Tryz.prog w r b0 24 v) (h:DataW.Trod enc Tryz.prog w base spare held 24 v d p):∃(ver nxt:Int) (zv:Value) (zs:List Zo),v=.agg #[.I ver,.I nxt,zv]/\d6 Zo.cells 9 w zv zs/\(∀z∈zs,rgZ z)/\rgI ver/\rgI nxt:=by
 obtain⟨cs,rfl,_⟩:=okWide_struct Tryz.underlying24 hv;obtain⟨l⟩:=cs;obtain⟨n,hf⟩:=h;obtain⟨xs,n',rfl,hx,hlen,hxl,hg⟩:=DataW.trod_struct Tryz.underlying24 hf;have hlen':l.length=3:=hlen.trans (by kernel_rfl)
 match l,hlen' with
 | [c0,c1,c2],_=>
  match xs,hxl with
  | [y0,y1,y2],_=>
   have g0:=hg 0 _ rfl;have g1:=hg 1 _ rfl;have g2:=hg 2 _ rfl;obtain⟨k,e0,_,w0⟩:=DataW.trod_int Tryz.underlying3 (show DataW.trod enc Tryz.prog w base spare held n' 3 [c0]=some y0 from g0);obtain⟨u,e1,_,w1⟩:=DataW.trod_int Tryz.underlying3 (show DataW.trod enc Tryz.prog w base spare held n' 3 [c1]=some y1 from g1);obtain⟨zv,zs,e2,hz,_⟩:=EM7 (fun z:{z:Zo // rgZ z}=>z.1.cells) ⟨⟨0,⟨#[]⟩,⟨#[]⟩,0,0,0,0,⟨#[]⟩,0⟩,rg0⟩ (fun _ _=>True) (fun z=>Zo.len z.1) (by decide) Tryz.underlying22 (by kernel_rfl) (fun n cs y _ h=>by obtain⟨a,e⟩:=EL7 h;exact⟨a,e,trivial⟩) (show DataW.trod enc Tryz.prog w base spare held n' 22 [c2]=some y2 from g2);simp only[List.cons.injEq,and_true]at e0 e1 e2;subst e0 e1 e2;exact⟨k,u,c2,zs.map (·.1),rfl,Ga7 hz,fun z hz=>by obtain⟨y,_,rfl⟩:=List.mem_map.1 hz;exact y.2,M6 w0,M6 w1⟩
theorem open_limP{r:Reach}{b0:Nat}{v:Value}{d:DataW H}{p:List MemPlace}(hv:Value.okWide Tryz.prog w r b0 28 v)(h:DataW.Trod enc Tryz.prog w base spare held 28 v d p):∃x y:Int,v=.agg #[.I x,.I y]:=by
 obtain⟨cs,rfl,_⟩:=okWide_struct Tryz.underlying28 hv;obtain⟨l⟩:=cs;obtain⟨n,hf⟩:=h;obtain⟨xs,n',rfl,hx,hlen,hxl,hg⟩:=DataW.trod_struct Tryz.underlying28 hf;have hlen':l.length=2:=hlen.trans (by kernel_rfl)
 match l,hlen' with
 | [c0,c1],_=>
  match xs,hxl with
  | [y0,y1],_=>
   have g0:=hg 0 _ rfl;have g1:=hg 1 _ rfl;obtain⟨k,e0,_⟩:=DataW.trod_int Tryz.underlying3 (show DataW.trod enc Tryz.prog w base spare held n' 3 [c0]=some y0 from g0);obtain⟨u,e1,_⟩:=DataW.trod_int Tryz.underlying3 (show DataW.trod enc Tryz.prog w base spare held n' 3 [c1]=some y1 from g1);simp only[List.cons.injEq,and_true]at e0 e1;subst e0 e1;exact⟨k,u,rfl⟩
end
end Go.Proofs.YtjcfifkjbaffnaaGreat
end
