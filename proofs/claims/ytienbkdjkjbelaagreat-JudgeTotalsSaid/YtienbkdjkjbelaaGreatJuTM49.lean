/-
  Maps that come in.
-/
import Derived.Test.YtienbkdjkjbelaaGreatJuTM44
import Derived.Test.YtienbkdjkjbelaaGreatJuTM48
set_option maxHeartbeats 16000000
set_option maxRecDepth 100000
set_option linter.unusedSimpArgs false
set_option linter.unusedVariables false
section
namespace Go.Proofs.YtienbkdjkjbelaaGreat
open Go.Joins Go.ChangeShapes Go.WideShapes Go.RowKit Go.Deep Go.Sl
section
variable{H:Type}{enc:TypeId×Value->H}{w:World}{base:Nat}{spare:Nat->Bool}{held:Bool}
theorem Lb7{n:Nat}{cs:List Value}{y:DataW H×List MemPlace}(h:DataW.trod enc Tryz.prog w base spare held n 90 cs=some y):∃k u:ByteArray,cs=[.string k,.string u]:=by
 obtain⟨xs,n',rfl,hx,hlen,hxl,hg⟩:=DataW.trod_struct Tryz.underlying90 h;have hlen':cs.length=2:=hlen.trans (by kernel_rfl)
 match cs,hlen' with
 | [c0,c1],_=>
  match xs,hxl with
  | [y0,y1],_=>
   have g0:=hg 0 _ rfl;have g1:=hg 1 _ rfl;obtain⟨k,e0,_⟩:=DataW.trod_string Tryz.underlying9 (show DataW.trod enc Tryz.prog w base spare held n' 9 [c0]=some y0 from g0);obtain⟨u,e1,_⟩:=DataW.trod_string Tryz.underlying9 (show DataW.trod enc Tryz.prog w base spare held n' 9 [c1]=some y1 from g1);simp only[List.cons.injEq,and_true]at e0 e1;subst e0 e1;exact⟨k,u,rfl⟩
theorem Lc7{n:Nat}{cs:List Value}{y:DataW H×List MemPlace}(h:DataW.trod enc Tryz.prog w base spare held n 92 cs=some y):∃z:Zj,cs=z.cells:=by
 obtain⟨xs,n',rfl,hx,hlen,hxl,hg⟩:=DataW.trod_struct Tryz.underlying92 h;have hlen':cs.length=9:=hlen.trans (by kernel_rfl)
 match cs,hlen' with
 | [c0,c1,c2,c3,c4,c5,c6,c7,c8],_=>
  match xs,hxl with
  | [y0,y1,y2,y3,y4,y5,y6,y7],_=>
   have g0:=hg 0 _ rfl;have g1:=hg 1 _ rfl;have g2:=hg 2 _ rfl;have g3:=hg 3 _ rfl;have g4:=hg 4 _ rfl;have g5:=hg 5 _ rfl;have g6:=hg 6 _ rfl;have g7:=hg 7 _ rfl;obtain⟨z0,e0,_⟩:=DataW.trod_int Tryz.underlying3 (show DataW.trod enc Tryz.prog w base spare held n' 3 [c0]=some y0 from g0);obtain⟨ak,au,e1⟩:=Lb7 (show DataW.trod enc Tryz.prog w base spare held n' 90 [c1,c2]=some y1 from g1);obtain⟨z2,e2,_⟩:=DataW.trod_int Tryz.underlying3 (show DataW.trod enc Tryz.prog w base spare held n' 3 [c3]=some y2 from g2);obtain⟨z3,e3,_⟩:=DataW.trod_int Tryz.underlying3 (show DataW.trod enc Tryz.prog w base spare held n' 3 [c4]=some y3 from g3);obtain⟨z4,e4,_⟩:=DataW.trod_int Tryz.underlying3 (show DataW.trod enc Tryz.prog w base spare held n' 3 [c5]=some y4 from g4);obtain⟨z5,e5,_⟩:=DataW.trod_int Tryz.underlying3 (show DataW.trod enc Tryz.prog w base spare held n' 3 [c6]=some y5 from g5);obtain⟨z6,e6,_⟩:=DataW.trod_string Tryz.underlying9 (show DataW.trod enc Tryz.prog w base spare held n' 9 [c7]=some y6 from g6);obtain⟨z7,e7,_⟩:=DataW.trod_int Tryz.underlying3 (show DataW.trod enc Tryz.prog w base spare held n' 3 [c8]=some y7 from g7);simp only[List.cons.injEq,and_true]at e0 e1 e2 e3 e4 e5 e6 e7;obtain⟨e1,e1'⟩:=e1;subst e0 e1 e1' e2 e3 e4 e5 e6 e7;exact⟨⟨z0,ak,au,z2,z3,z4,z5,z6,z7⟩,rfl⟩
theorem open_map{r:Reach}{b0:Nat}{v:Value}{d:DataW H}{p:List MemPlace}
  (hv:Value.okWide Tryz.prog w r b0 58 v) (h:DataW.Trod enc Tryz.prog w base spare held 58 v d p):∃(ver nxt:Int) (zv:Value) (zs:List Zj),v=.agg #[.I ver,.I nxt,zv]/\C8 Zj.cells 9 w zv zs:=by
 obtain⟨cs,rfl,_⟩:=okWide_struct Tryz.underlying58 hv;obtain⟨l⟩:=cs;obtain⟨n,hf⟩:=h;obtain⟨xs,n',rfl,hx,hlen,hxl,hg⟩:=DataW.trod_struct Tryz.underlying58 hf;have hlen':l.length=3:=hlen.trans (by kernel_rfl)
 match l,hlen' with
 | [c0,c1,c2],_=>
  match xs,hxl with
  | [y0,y1,y2],_=>
   have g0:=hg 0 _ rfl;have g1:=hg 1 _ rfl;have g2:=hg 2 _ rfl;obtain⟨k,e0,_⟩:=DataW.trod_int Tryz.underlying3 (show DataW.trod enc Tryz.prog w base spare held n' 3 [c0]=some y0 from g0);obtain⟨u,e1,_⟩:=DataW.trod_int Tryz.underlying3 (show DataW.trod enc Tryz.prog w base spare held n' 3 [c1]=some y1 from g1);obtain⟨zv,zs,e2,hz,_⟩:=Da7 Zj.cells ⟨0,⟨#[]⟩,⟨#[]⟩,0,0,0,0,⟨#[]⟩,0⟩ (fun _ _=>True) Zj.len (by decide) Tryz.underlying56 (by kernel_rfl) (fun n cs y _ h=>by obtain⟨a,e⟩:=Lc7 h;exact⟨a,e,trivial⟩) (show DataW.trod enc Tryz.prog w base spare held n' 56 [c2]=some y2 from g2);simp only[List.cons.injEq,and_true]at e0 e1 e2;subst e0 e1 e2;exact⟨k,u,c2,zs,rfl,hz⟩
end
end Go.Proofs.YtienbkdjkjbelaaGreat
end
