/-
  A vault out of bytes.
-/
import Derived.Test.YtlmhakmoioogaaaGreatEconDcM4
import Derived.Test.YtlmhakmoioogaaaGreatEconDcM12
import Derived.Test.YtlmhakmoioogaaaGreatEconDcM13
import Derived.Test.YtlmhakmoioogaaaGreatEconDcM28
import Derived.Test.YtlmhakmoioogaaaGreatEconDcM29
set_option maxHeartbeats 16000000
set_option maxRecDepth 100000
set_option linter.unusedSimpArgs false
set_option linter.unusedVariables false
section
namespace Go.Proofs.YtlmhakmoioogaaaGreat
open Go.RowKit Go.Sl
def B8(s:RS):It:=⟨(d8 s).1,(d8 (d8 s).2).1,(d8 (d8 (d8 s).2).2).1,(d8 (d8 (d8 (d8 s).2).2).2).1⟩
def K8(s:RS):RS:=(d8 (d8 (d8 (d8 s).2).2).2).2
def rdH(s:RS):Hd:=⟨x6 (j5 s).1,B8 (j5 s).2⟩
def bi4(s:RS):RS:=K8 (j5 s).2
def okH(l:List Hd)(h:Hd):Bool:=y5 h.who&&(w8 h.has&&(!(isZ h.has)&&(l.getLast?).all fun y=>Op.bytesLess y.who.toList h.who.toList))
def cc4:Nat->List Hd->RS->List Hd×RS
 | 0,l,s=>(l,s)
 | _+1,l,none=>(l,none)
 | n+1,l,some b=>cc4 n (l++[rdH (some b)]) (if okH l (rdH (some b))=true then bi4 (some b)else none)
def cd4:Nat->Ps->RS->Option (Ps×RS)
 | 0,p,s=>some (p,s)
 | _+1,p,none=>some (p,none)
 | n+1,p,some b=>if(y5 (rdH (some b)).who&&w8 (rdH (some b)).has)=true then cd4 n (M7 p (rdH (some b)).who (rdH (some b)).has) (bi4 (some b))else none
def S9(s:RS):RS:=(j5 (d8 s).2).2
def rdO(s:RS):Ord:=⟨(d8 s).1,x6 (j5 (d8 s).2).1,decide ((B8 (S9 s)).x0=1),(B8 (S9 s)).x1,(B8 (S9 s)).x2,(B8 (S9 s)).x3⟩
def bE4(s:RS):RS:=K8 (S9 s)
def ce4:Nat->List Ord->RS->List Ord×RS
 | 0,l,s=>(l,s)
 | _+1,l,none=>(l,none)
 | n+1,l,some b=>ce4 n (l++[rdO (some b)]) (if(B8 (S9 (some b))).x0<=1/\l.length<32 then bE4 (some b)else none)
def cY4:Nat->List Ord->RS->List Ord×RS
 | 0,l,s=>(l,s)
 | _+1,l,none=>(l,none)
 | n+1,l,some b=>cY4 n (l++[rdO (some b)]) (bE4 (some b))
theorem Aq7{s:RS}{r:List Int}(h:(d8 s).2=some r):∃l,s=some l:=by
 cases s with
 | none=>cases h
 | some l=>exact⟨l,rfl⟩
theorem AO7{s:RS}{r:List Int}(h:(j5 s).2=some r):∃l,s=some l:=by
 cases s with
 | none=>cases h
 | some l=>exact⟨l,rfl⟩
theorem Bm7(n:Int):1<=(j9 n).length:=EK7 n
theorem AW7{s:RS}{r:List Int}(hb:BS s)(h:(d8 s).2=some r):s=some (j9 (d8 s).1++r)/\0<=(d8 s).1/\(d8 s).1<=4611686018427387904/\ByB r:=by obtain⟨l,rfl⟩:=Aq7 h;obtain⟨h1,h2,h3,h4⟩:=CT7 (hb l rfl) (show d8 (some l)=((d8 (some l)).1,some r)by rw[<-h]);exact⟨by rw[<-h1],h2,h3,h4⟩
theorem OV7{s:RS}{r:List Int}(hb:BS s)(h:K8 s=some r):s=some (l9 [(B8 s).x0,(B8 s).x1,(B8 s).x2,(B8 s).x3]++r)/\ByB r/\(0<=(B8 s).x0):=by
 unfold K8 at h;obtain⟨l3,e3⟩:=Aq7 h;obtain⟨l2,e2⟩:=Aq7 e3;obtain⟨l1,e1⟩:=Aq7 e2;obtain⟨a1,a2,a3,a4⟩:=AW7 hb e1;have hb1:BS (d8 s).2:=fun l hl=>by rw[e1]at hl;cases hl;exact a4
 obtain⟨b1,b2,b3,b4⟩:=AW7 hb1 e2;have hb2:BS (d8 (d8 s).2).2:=fun l hl=>by rw[e2]at hl;cases hl;exact b4
 obtain⟨c1,c2,c3,c4⟩:=AW7 hb2 e3;have hb3:BS (d8 (d8 (d8 s).2).2).2:=fun l hl=>by rw[e3]at hl;cases hl;exact c4
 obtain⟨d1,d2,d3,d4⟩:=AW7 hb3 h;refine⟨?_,d4,a2⟩;rw[e1]at b1;rw[e2]at c1;rw[e3]at d1;simp only[Option.some.injEq]at b1 c1 d1;rw[<-e1]at b1;rw[<-e2]at c1;rw[<-e3]at d1;unfold l9 B8;simp only[List.flatMap_cons,List.flatMap_nil,List.append_nil,jS];rw[<-d1,<-c1,<-b1];exact a1
theorem Ci7{s:RS}{r:List Int}(hb:BS s)(h:(j5 s).2=some r):s=some (y8 (x6 (j5 s).1)++r)/\ByB r:=by obtain⟨l,rfl⟩:=AO7 h;obtain⟨h1,h2,h3⟩:=FJ7 (hb l rfl) (show j5 (some l)=((j5 (some l)).1,some r)by rw[<-h]);exact⟨by rw[<-h1],h3⟩
theorem JQ7{s:RS}{r:List Int}(h:K8 s=some r):∃l,s=some l:=by unfold K8 at h;obtain⟨l3,e3⟩:=Aq7 h;obtain⟨l2,e2⟩:=Aq7 e3;obtain⟨l1,e1⟩:=Aq7 e2;exact Aq7 e1
theorem OW7{b r:List Int}(hb:ByB b)(h:bi4 (some b)=some r):b=af4 (rdH (some b))++r/\ByB r:=by
 have hbs:BS (some b):=fun l hl=>by cases hl;exact hb
 unfold bi4 at h;obtain⟨l1,e1⟩:=JQ7 h;obtain⟨a1,a2⟩:=Ci7 hbs e1;have hb1:BS (j5 (some b)).2:=fun l hl=>by rw[e1]at hl;cases hl;exact a2
 obtain⟨c1,c2,_⟩:=OV7 hb1 h;refine⟨?_,c2⟩;rw[e1]at c1;simp only[Option.some.injEq]at a1 c1;rw[<-e1]at c1;unfold af4 rdH;simp only[jS];rw[<-c1];exact a1
theorem TB7{b r:List Int}(hb:ByB b)(h:bE4 (some b)=some r)(hx:(B8 (S9 (some b))).x0<=1):b=P5 (rdO (some b))++r/\ByB r:=by
 have hbs:BS (some b):=fun l hl=>by cases hl;exact hb
 unfold bE4 at h;obtain⟨l2,e2⟩:=JQ7 h;unfold S9 at e2;obtain⟨l1,e1⟩:=AO7 e2;obtain⟨a1,a2,a3,a4⟩:=AW7 hbs e1;have hb1:BS (d8 (some b)).2:=fun l hl=>by rw[e1]at hl;cases hl;exact a4
 obtain⟨c1,c2⟩:=Ci7 hb1 e2;have hb2:BS (S9 (some b)):=fun l hl=>by unfold S9 at hl;rw[e2]at hl;cases hl;exact c2
 obtain⟨d1,d2,d3⟩:=OV7 hb2 h;refine⟨?_,d2⟩;have e3:S9 (some b)=some l2:=e2;rw[e1]at c1;rw[e3]at d1;simp only[Option.some.injEq]at a1 c1 d1;rw[<-e1]at c1;rw[<-e3]at d1
 have hbuy:bp4 (decide ((B8 (S9 (some b))).x0=1))=(B8 (S9 (some b))).x0:=by
  unfold bp4;by_cases h1:(B8 (S9 (some b))).x0=1
  ·rw[h1];rfl
  ·rw[if_neg (by simpa using h1)];omega
 unfold P5 rdO;simp only[hbuy,jS];rw[<-d1,<-c1];exact a1
theorem QO7(h:Hd):1<=(af4 h).length:=by unfold af4 y8;have:=Bm7 h.who.size;simp only[jA];omega
theorem KV7{b r:List Int}(hb:ByB b)(h:bi4 (some b)=some r):r.length+1<=b.length:=by obtain⟨h1,_⟩:=OW7 hb h;have:=QO7 (rdH (some b));rw[h1,jA];omega
theorem Dy7{s:RS}{r:List Int}(hb:BS s)(h:(d8 s).2=some r){l:List Int}(hl:s=some l):r.length+1<=l.length:=by obtain⟨h1,_⟩:=AW7 hb h;have:=Bm7 (d8 s).1;rw[hl]at h1;simp only[Option.some.injEq]at h1;have h2:=congrArg List.length h1;rw[jA,<-hl]at h2;omega
theorem EN7(n:Nat)(l:List Hd):cc4 n l none=(l,none):=by cases n <;> rfl
theorem EO7(n:Nat)(l:List Ord):ce4 n l none=(l,none):=by cases n <;> rfl
theorem Rw7:∀(H:List Hd) (k:ByteArray),(∀x∈H,blt x.who k)->spI H k=H.length/\spB H k=false
 | [],k,_=>⟨rfl,rfl⟩
 | h::H,k,hl=>by
  have h1:=hl h (List.mem_cons_self ..);obtain⟨i1,i2⟩:=Rw7 H k fun x hx=>hl x (List.mem_cons_of_mem _ hx)
  rw[spI,spB,if_pos h1,if_pos h1,i1,i2];exact⟨rfl,rfl⟩
theorem QP7{H:List Hd}{h:Hd}(hl:∀x∈H,blt x.who h.who)(hz:isZ h.has=false):eD4 H h.who h.has=H++[h]:=by obtain⟨h1,h2⟩:=Rw7 H h.who hl;unfold eD4;rw[h1,h2,hz];simp
theorem QQ7{H:List Hd}{k:ByteArray}(hs:dv4 H)(h:(H.getLast?).all (fun y=>Op.bytesLess y.who.toList k.toList)=true):∀x∈H,blt x.who k:=by
 intro x hx
 cases hl:H.getLast? with
 | none=>rw[List.getLast?_eq_none_iff.1 hl]at hx;cases hx
 | some y=>
  rw[hl]at h;have hy:blt y.who k:=h;obtain⟨ys,rfl⟩:=List.getLast?_eq_some_iff.1 hl
  rcases List.mem_append.1 hx with hx|hx
  ·exact Dt7 ((List.pairwise_append.1 hs).2.2 x hx y (List.mem_singleton.2 rfl)) hy
  ·rw[List.mem_singleton.1 hx];exact hy
structure PuI(p:Ps)(N:Nat):Prop where
 ok:P8 p
 w:PsW p N
 who:∀x∈p,y5 x.1=true
theorem OX7(N:Nat):PuI [] N:=⟨LG7,Oc7 N,fun _ h=>(by cases h)⟩
theorem OY7{p:Ps}{N:Nat}(h:PuI p N){k:ByteArray}{i:It}(hk:y5 k=true)(hi:w8 i=true):PuI (M7 p k i) (N+1):=by
 refine⟨Ev7 h.ok k hi,Il7 h.w hk i,?_⟩;unfold M7;split
 ·exact fun x hx=>h.who x (Cx7 hx).1
 ·intro x hx
  rcases List.mem_cons.1 hx with rfl|hx
  ·exact hk
  ·exact h.who x (Cx7 hx).1
theorem FX7{p:Ps}{N M:Nat}(h:PuI p N)(hm:N<=M):PuI p M:=⟨h.ok,AI7 h.w hm,h.who⟩
theorem QR7{p:Ps}{N:Nat}(h:PuI p N):∀x∈hdL p,y5 x.who=true/\w8 x.has=true/\isZ x.has=false:=by
 intro x hx;have hk:x.who∈kL p:=by rw[<-GT7];exact List.mem_map_of_mem hx
 obtain⟨y,hy,e⟩:=Ju7 hk;refine⟨e▸h.who y hy,by rw[Du7 hx];exact h.ok _,by rw[Du7 hx];exact eQ4 h.w hk⟩
theorem JR7:∀(n:Nat) (l:List Hd) (b:List Int) (L:List Hd) (r:List Int) (p:Ps) (N:Nat),ByB b->hdL p=l->PuI p N->cc4 n l (some b)=(L,some r)->
  ∃p',cd4 n p (some b)=some (p',some r)/\hdL p'=L/\PuI p' (N+n)/\ByB r/\∃l2,L=l++l2/\l2.length=n/\b=l2.flatMap af4++r
 | 0,l,b,L,r,p,N,hb,hl,hp,h=>by rw[cc4]at h;simp only[Prod.mk.injEq,Option.some.injEq]at h;obtain⟨rfl,rfl⟩:=h;exact⟨p,rfl,hl,hp,hb,[],by simp,rfl,rfl⟩
 | n+1,l,b,L,r,p,N,hb,hl,hp,h=>by
  rw[cc4]at h;by_cases hok:okH l (rdH (some b))=true
  ·rw[if_pos hok]at h
   cases hs:bi4 (some b)with
   | none=>rw[hs,EN7]at h;cases h
   | some b2=>
    rw[hs]at h;obtain⟨h1,h2⟩:=OW7 hb hs;have hok2:=hok;unfold okH at hok2;simp only[jB,Bool.not_eq_true']at hok2;obtain⟨k1,k2,k3,k4⟩:=hok2;have hall:=QQ7 (hl▸Iq7 hp.w) k4;have hl2:hdL (M7 p (rdH (some b)).who (rdH (some b)).has)=l++[rdH (some b)]:=by rw[<-Sl7 hp.w,hl];exact QP7 hall k3
    obtain⟨p',i1,i2,i3,i4,l2,i5,i6,i7⟩:=JR7 n _ b2 L r _ (N+1) h2 hl2 (OY7 hp k1 k2) h;refine⟨p',?_,i2,FX7 i3 (by omega),i4,rdH (some b)::l2,by rw[i5];simp,by simp[i6],?_⟩
    ·rw[cd4,if_pos (by rw[k1,k2];rfl),hs];exact i1
    ·rw[List.flatMap_cons,jS,<-i7];exact h1
  ·rw[if_neg hok,EN7]at h
   cases h
theorem OZ7:∀(n:Nat) (p:Ps) (s:RS) (p':Ps) (s':RS) (N:Nat),BS s->PuI p N->cd4 n p s=some (p',s')->PuI p' (N+(match s with|none=>0|some b=>b.length+1))/\BS s'
 | 0,p,s,p',s',N,hb,hp,h=>by rw[cd4]at h;simp only[Option.some.injEq,Prod.mk.injEq]at h;obtain⟨rfl,rfl⟩:=h;exact⟨FX7 hp (by omega),hb⟩
 | n+1,p,none,p',s',N,hb,hp,h=>by rw[cd4]at h;simp only[Option.some.injEq,Prod.mk.injEq]at h;obtain⟨rfl,rfl⟩:=h;exact⟨hp,hb⟩
 | n+1,p,some b,p',s',N,hb,hp,h=>by
  rw[cd4]at h;by_cases hc:(y5 (rdH (some b)).who&&w8 (rdH (some b)).has)=true
  ·rw[if_pos hc]at h;rw[jB]at hc;have hbb:=hb b rfl;have hb2:BS (bi4 (some b)):=fun l hl=>(OW7 hbb hl).2
   have ih:=OZ7 n _ _ _ _ (N+1) hb2 (OY7 hp hc.1 hc.2) h;refine⟨FX7 ih.1 ?_,ih.2⟩
   cases hs:bi4 (some b)with
   | none=>simp only;omega
   | some r=>
    have:=KV7 hbb hs;simp only;omega
  ·rw[if_neg hc]at h
   cases h
theorem QS7{k:ByteArray}(h:y5 k=true):k.size<=16:=Ds7 h
theorem Mi7{i:It}(hi:w8 i=true)(r:List Int):B8 (some (l9 [i.x0,i.x1,i.x2,i.x3]++r))=i/\K8 (some (l9 [i.x0,i.x1,i.x2,i.x3]++r))=some r:=by
 obtain⟨a0,a1,a2,a3⟩:=Ai7.1 hi;have e:l9 [i.x0,i.x1,i.x2,i.x3]++r=j9 i.x0++(j9 i.x1++(j9 i.x2++(j9 i.x3++r))):=by unfold l9;simp
 rw[e];unfold B8 K8;rw[As7 (by omega) (by omega)];dsimp only;rw[As7 (by omega) (by omega)];dsimp only;rw[As7 (by omega) (by omega)];dsimp only;rw[As7 (by omega) (by omega)];exact⟨rfl,rfl⟩
theorem Sw7{h:Hd}(h1:h.who.size<=16)(h2:w8 h.has=true)(r:List Int):rdH (some (af4 h++r))=h/\bi4 (some (af4 h++r))=some r:=by unfold rdH bi4 af4;rw[jS,Bx7 h.who (by omega)];dsimp only;obtain⟨e1,e2⟩:=Mi7 h2 r;rw[e1,e2,EM7];exact⟨rfl,rfl⟩
theorem Mj7:∀(l2 l:List Hd) (r:List Int),(∀h∈l2,y5 h.who=true/\w8 h.has=true/\isZ h.has=false)->dv4 (l++l2)->cc4 l2.length l (some (l2.flatMap af4++r))=(l++l2,some r)
 | [],l,r,_,_=>by rw[List.append_nil];rfl
 | h::l2,l,r,hh,hs=>by
  obtain⟨k1,k2,k3⟩:=hh h (List.mem_cons_self ..);obtain⟨e1,e2⟩:=Sw7 (QS7 k1) k2 (l2.flatMap af4++r);rw[jC,List.flatMap_cons,jS,cc4,e1,e2]
  have hok:okH l h=true:=by
   unfold okH;rw[k1,k2,k3];simp only[Bool.true_and,Bool.not_false]
   cases hl:l.getLast? with
   | none=>rfl
   | some y=>
    obtain⟨ys,rfl⟩:=List.getLast?_eq_some_iff.1 hl;exact(List.pairwise_append.1 hs).2.2 y (List.mem_append_right _ (List.mem_singleton.2 rfl)) h (List.mem_cons_self ..)
  rw[if_pos hok,Mj7 l2 (l++[h]) r (fun x hx=>hh x (List.mem_cons_of_mem _ hx)) (by rw[jS];exact hs)];rw[jS];rfl
theorem JS7:∀(n:Nat) (l:List Ord) (b:List Int) (L:List Ord) (r:List Int),ByB b->ce4 n l (some b)=(L,some r)->
  cY4 n l (some b)=(L,some r)/\ByB r/\∃l2,L=l++l2/\l2.length=n/\b=l2.flatMap P5++r
 | 0,l,b,L,r,hb,h=>by rw[ce4]at h;simp only[Prod.mk.injEq,Option.some.injEq]at h;obtain⟨rfl,rfl⟩:=h;exact⟨rfl,hb,[],by simp,rfl,rfl⟩
 | n+1,l,b,L,r,hb,h=>by
  rw[ce4]at h;by_cases hok:(B8 (S9 (some b))).x0<=1/\l.length<32
  ·rw[if_pos hok]at h
   cases hs:bE4 (some b)with
   | none=>rw[hs,EO7]at h;cases h
   | some b2=>
    rw[hs]at h;obtain⟨h1,h2⟩:=TB7 hb hs hok.1;obtain⟨i1,i4,l2,i5,i6,i7⟩:=JS7 n _ b2 L r h2 h;refine⟨?_,i4,rdO (some b)::l2,by rw[i5];simp,by simp[i6],?_⟩
    ·rw[cY4,hs];exact i1
    ·rw[List.flatMap_cons,jS,<-i7];exact h1
  ·rw[if_neg hok,EO7]at h
   cases h
theorem Sx7{o:Ord}(h:MayP o)(r:List Int):rdO (some (P5 o++r))=o/\bE4 (some (P5 o++r))=some r/\(B8 (S9 (some (P5 o++r)))).x0<=1:=by
 obtain⟨oi,ou,oy,ot,oc,op⟩:=o;have i0:1<=oi:=h.id0;have i1:oi<=1099511627776:=h.id1;have w1:ou.size<=16:=h.who1;have t0:1<=ot:=h.item0;have t1:ot<=3:=h.item1;have c0:1<=oc:=h.cnt0;have c1:oc<=1048576:=h.cnt1;have p0:1<=op:=h.price0;have p1:op<=1024:=h.price1
 have hit:w8 ⟨bp4 oy,ot,oc,op⟩=true:=by
  refine Ai7.2 ⟨?_,⟨by simp only;omega,by simp only;omega⟩,⟨by simp only;omega,by simp only;omega⟩,by simp only;omega,by simp only;omega⟩;unfold bp4
  cases oy <;> simp
 obtain⟨e1,e2⟩:=Mi7 hit r;simp only at e1 e2;have e0:S9 (some (P5 ⟨oi,ou,oy,ot,oc,op⟩++r))=some (l9 [bp4 oy,ot,oc,op]++r):=by unfold S9 P5;simp only[jS];rw[As7 (by omega) (by omega)];dsimp only;rw[Bx7 ou (by omega)]
 refine⟨?_,?_,?_⟩
 ·unfold rdO;rw[e0,e1];unfold P5;simp only[jS];rw[As7 (by omega) (by omega)];dsimp only;rw[Bx7 ou (by omega)];dsimp only;rw[EM7]
  cases oy <;> rfl
 ·unfold bE4;rw[e0,e2]
 ·rw[e0,e1];show bp4 oy<=1
  cases oy <;> decide
theorem Mk7:∀(l2 l:List Ord) (r:List Int),(∀o∈l2,MayP o)->(l++l2).length<=32->ce4 l2.length l (some (l2.flatMap P5++r))=(l++l2,some r)
 | [],l,r,_,_=>by rw[List.append_nil];rfl
 | o::l2,l,r,hh,hs=>by
  obtain⟨e1,e2,e3⟩:=Sx7 (hh o (List.mem_cons_self ..)) (l2.flatMap P5++r);rw[jC,List.flatMap_cons,jS,ce4,e1,e2];have hlen:l.length<32:=by rw[jA,jC]at hs;omega
  rw[if_pos ⟨e3,hlen⟩,Mk7 l2 (l++[o]) r (fun x hx=>hh x (List.mem_cons_of_mem _ hx)) (by rw[jS];exact hs)];rw[jS];rfl
def dP(b:List Int):List Hd×RS:=cc4 (d8 (some b)).1.toNat [] (d8 (some b)).2
def dO(b:List Int):List Ord×RS:=ce4 (d8 (dP b).2).1.toNat [] (d8 (dP b).2).2
def dN(b:List Int):Int×RS:=d8 (dO b).2
structure OkN(l:List Ord)(n:Int):Prop where
 few:l.length<=32
 ok:bX4 l l.length
 last:I8 l l.length<n
 n0:1<=n
 n1:n<=1099511627777
def VDk(b:List Int):Prop:=(dN b).2=some []/\OkN (dO b).1 (dN b).1
def gP(b:List Int):Option (Ps×RS):=cd4 (d8 (some b)).1.toNat [] (d8 (some b)).2
def gO(s:RS):List Ord×RS:=cY4 (d8 s).1.toNat [] (d8 s).2
def gN(s:RS):Int×RS:=d8 (gO s).2
theorem QT7{l:List Ord}(h:bX4 l l.length):∀o∈l,MayP o:=by intro o ho;obtain⟨i,hi,rfl⟩:=List.mem_iff_getElem.1 ho;have h1:=h i hi;unfold aL4 at h1;rw[x7 hi]at h1;simp only[Bool.or_eq_false_iff,Bool.not_eq_false']at h1;exact AZ7.1 h1.1
theorem QU7{b:List Int}(hb:ByB b)(h:VDk b):∃p s,gP b=some (p,s)/\hdL p=(dP b).1/\gO s=dO b/\I9 p (dO b).1 (dN b).1=b:=by
 obtain⟨h1,h2⟩:=h;have hbs:BS (some b):=fun l hl=>by cases hl;exact hb
 obtain⟨b4,e4⟩:=Aq7 h1
 have hO:∃b3,(d8 (dP b).2).2=some b3:=by
  cases hs:(d8 (dP b).2).2 with
  | none=>unfold dO at e4;rw[hs,EO7]at e4;cases e4
  | some b3=>exact⟨b3,rfl⟩
 obtain⟨b3,e3⟩:=hO;obtain⟨b2,e2⟩:=Aq7 e3
 have hP:∃b1,(d8 (some b)).2=some b1:=by
  cases hs:(d8 (some b)).2 with
  | none=>unfold dP at e2;rw[hs,EN7]at e2;cases e2
  | some b1=>exact⟨b1,rfl⟩
 obtain⟨b1,e1⟩:=hP;obtain⟨a1,a2,a3,a4⟩:=AW7 hbs e1
 have hp:cc4 (d8 (some b)).1.toNat [] (some b1)=((dP b).1,some b2):=by
  have:dP b=((dP b).1,some b2):=by rw[<-e2]
  rw[<-this];unfold dP;rw[e1]
 obtain⟨p,c1,c2,c3,c4,l2,c5,c6,c7⟩:=JR7 _ [] b1 _ b2 [] 0 a4 (List.eq_nil_of_length_eq_zero (BW7 [])) (OX7 0) hp;have hb2:BS (dP b).2:=fun l hl=>by rw[e2]at hl;cases hl;exact c4
 obtain⟨d1,d2,d3,d4⟩:=AW7 hb2 e3
 have ho:ce4 (d8 (dP b).2).1.toNat [] (some b3)=((dO b).1,some b4):=by
  have:dO b=((dO b).1,some b4):=by rw[<-e4]
  rw[<-this];unfold dO;rw[e3]
 obtain⟨f1,f2,l3,f5,f6,f7⟩:=JS7 _ [] b3 _ b4 d4 ho;have hb4:BS (dO b).2:=fun l hl=>by rw[e4]at hl;cases hl;exact f2
 have h1':(d8 (dO b).2).2=some []:=h1;obtain⟨g1,g2,g3,g4⟩:=AW7 hb4 h1';refine⟨p,(dP b).2,?_,c2,?_,?_⟩
 ·unfold gP;rw[e1,c1,e2]
 ·unfold gO;rw[e3,f1,<-e4]
 ·rw[jN]at c5 f5;unfold I9;rw[c2,c5,f5];rw[e2]at d1;rw[e4]at g1;simp only[Option.some.injEq]at a1 d1 g1;rw[List.append_nil]at g1;have k1:((l2.length:Nat):Int)=(d8 (some b)).1:=by rw[c6];omega
  have k2:((l3.length:Nat):Int)=(d8 (dP b).2).1:=by rw[f6];omega
  rw[k1,k2];have g1':b4=j9 (dN b).1:=by rw[<-e4]at g1;exact g1
  rw[<-g1',jS,jS,jS,<-f7];rw[<-e2]at d1;rw[<-d1,<-c7];exact a1.symm
theorem et4{b:List Int}(hb:ByB b){p:Ps}{s:RS}(hg:gP b=some (p,s)):PuI p (b.length+1)/\BS s:=by
 have hbs:BS (some b):=fun l hl=>by cases hl;exact hb
 have hb1:BS (d8 (some b)).2:=fun l hl=>(AW7 hbs hl).2.2.2
 obtain⟨h1,h2⟩:=OZ7 _ [] _ p s 0 hb1 (OX7 0) hg;refine⟨FX7 h1 ?_,h2⟩
 cases hs:(d8 (some b)).2 with
 | none=>simp only;omega
 | some r=>
  have:=Dy7 hbs hs rfl;simp only;omega
theorem QV7{b:List Int}{p:Ps}{N:Nat}(hpi:PuI p N)(hB:N<=4611686018427387904){l:List Ord}{n:Int}(hn:OkN l n)(he:I9 p l n=b):VDk b/\(dP b).1=hdL p/\(dO b).1=l/\(dN b).1=n:=by
 have hlen:((hdL p).length:Int)<=4611686018427387904:=by have h2:=hpi.w.len;rw[BW7];omega
 have hmay:=QT7 hn.ok;have hn0:=hn.n0;have hn1:=hn.n1;have hl32:=hn.few;have he2:b=j9 (hdL p).length++((hdL p).flatMap af4++(j9 l.length++(l.flatMap P5++(j9 n++[])))):=by rw[<-he];unfold I9;simp
 have e1:d8 (some b)=(((hdL p).length:Int),some ((hdL p).flatMap af4++(j9 l.length++(l.flatMap P5++(j9 n++[]))))):=by rw[he2];exact As7 (by omega) hlen _
 have e2:dP b=(hdL p,some (j9 l.length++(l.flatMap P5++(j9 n++[])))):=by unfold dP;rw[e1];exact Mj7 (hdL p) [] _ (QR7 hpi) (Iq7 hpi.w)
 have e3:dO b=(l,some (j9 n++[])):=by unfold dO;rw[e2];dsimp only;rw[As7 (by omega) (by omega)];exact Mk7 l [] _ hmay hl32
 have e4:dN b=(n,some []):=by unfold dN;rw[e3];exact As7 (by omega) (by omega) _
 refine⟨⟨by rw[e4],?_⟩,by rw[e2],by rw[e3],by rw[e4]⟩;rw[e3,e4];exact hn
theorem Pa7{b:List Int}(hb:ByB b){p:Ps}{s:RS}(hg:gP b=some (p,s))(hB:b.length<=1000000)(hn:OkN (gO s).1 (gN s).1)(he:I9 p (gO s).1 (gN s).1=b):VDk b/\(dP b).1=hdL p/\(dO b).1=(gO s).1/\(dN b).1=(gN s).1:=
 QV7 (et4 hb hg).1 (by omega) hn he
theorem Ae7{D:HP}{rb:Nat}{s s2:RS}{n:Int}(hn:d8 s=(n,s2))(h:RdOk s)(W w:World)(R R':List HP)(ht:Take R D R')(hS:St W (rdX D rb s::R) w):
  Calls Tryz.prog 97 #[.P rb] w fun e w'=>e=.returned (.I n)/\St W (rdX D rb s2::R) w':=by
 have h1:=cL4 D rb s h W w R R' ht hS;rw[hn]at h1;exact h1
theorem Sy7(D:HP)(rb:Nat)(s:RS)(h:RdOk s)(W w:World)(R R':List HP)(ht:Take R D R')(hS:St W (rdX D rb s::R) w):
  Calls Tryz.prog 158 #[.P rb] w fun e w'=>∃v,e=.returned v/\St W (byR v (j5 s).1::rdX D rb (j5 s).2::R) w':=by
 have hr:=At7 s;have h2:=h.num;unfold j5;obtain⟨⟨n,s2⟩,hn⟩:∃y,d8 s=y:=⟨_,rfl⟩
 rw[hn]at hr h2;rw[hn];have hr1 : -9223372036854775808<=n/\n<=9223372036854775807:=⟨Int.le_trans (by decide) hr.1,Int.le_trans hr.2 (by decide)⟩
 have H1:=jH h;have H2:=jH h2;have Hn:=jH hn;clear h h2 hn
 cases s2 with
 | none=>
  go_enter Tryz.func158,Tryz.ntmps158;go_wp2_with(first|go_big_skip|go_at_call 97;refine(Ae7 Hn.out H1.out W _ _ _ ht hS).mono ?_;clear hS;rintro e w ⟨rfl,hS0⟩;obtain⟨v1,e1,⟨rfl,rfl⟩,hS⟩:=B9 hS0;clear hS0|refine zl1 hS ?_);go_ret;exact⟨_,rfl,St.rowNil (j7 ⟨rfl,rfl⟩ hS)⟩
 | some l=>
  go_enter Tryz.func158,Tryz.ntmps158;go_wp2_with(first|go_big_skip|go_at_call 97;refine(Ae7 Hn.out H1.out W _ _ _ ht hS).mono ?_;clear hS;rintro e w ⟨rfl,hS0⟩;obtain⟨v1,e1,hv,hS⟩:=B9 hS0;clear hS0;obtain⟨a1,c1,rfl,rfl,Hv⟩:=ad4 hv;clear hv|refine zl1 hS ?_|go_at_call 161;refine(dG4 D rb (some l) n hr1 H2.out.l W _ _ _ ht (j7 Hv.out hS)).mono ?_;clear hS;rintro e w ⟨v,rfl,hS⟩);go_ret;exact⟨_,rfl,hS⟩
def ReR(W:World)(D:HP)(rb bX b0:Nat)(L:List HP)(s:RS)(v:Value)(w:World):Prop:=
 (v=.I 0/\St W (rdX D rb s::blk bX [.I 0,.I 0,.I 0,.I 0] 29::blk b0 [.I 0,.I 0,.I 0,.I 0] 29::L) w) \/
 (v=.I 1/\St W (rdX D rb (d8 s).2::blk bX [.I (B8 s).x0,.I 0,.I 0,.I 0] 29::blk b0 [.I 0,.I 0,.I 0,.I 0] 29::L) w) \/
 (v=.I 2/\St W (rdX D rb (d8 (d8 s).2).2::blk bX [.I (B8 s).x0,.I (B8 s).x1,.I 0,.I 0] 29::blk b0 [.I 0,.I 0,.I 0,.I 0] 29::L) w) \/
 (v=.I 3/\St W (rdX D rb (d8 (d8 (d8 s).2).2).2::blk bX [.I (B8 s).x0,.I (B8 s).x1,.I (B8 s).x2,.I 0] 29::blk b0 [.I 0,.I 0,.I 0,.I 0] 29::L) w) \/
 (v=.I 4/\St W (rdX D rb (K8 s)::blk bX [.I (B8 s).x0,.I (B8 s).x1,.I (B8 s).x2,.I (B8 s).x3] 29::blk b0 [.I 0,.I 0,.I 0,.I 0] 29::L) w)
theorem Rx7(D:HP)(rb:Nat)(s s5:RS)(i:It)(hi:B8 s=i)(h5:(if w8 i=true then K8 s else none)=s5)(h:RdOk s)(W w:World)(R R':List HP)(ht:Take R D R')(hS:St W (rdX D rb s::R) w):
  Calls Tryz.prog 200 #[.P rb] w fun e w'=>e=.returned (.agg i.cells.toArray)/\St W (rdX D rb s5::R) w':=by
 have H5:=jH h5;have Hi:=jH hi;clear h5 hi;have H0:=jH h;have H1:=jH h.num;have H2:=jH h.num.num;have H3:=jH h.num.num.num;clear h;go_enter Tryz.func200,Tryz.ntmps200;go_wp2_with(first|go_big_skip|(fail_if_success (have:=b0));(with_reducible apply Ao7 hS);rfl;rfl;exact zsS;clear hS;intro b0 w hS;refine frS ?_|(have:=b0);(with_reducible apply Ao7 hS);rfl;rfl;exact zsS;clear hS;intro bX w hS;refine frS ?_);have hS2:=hS.s (rdX D rb s::blk bX _ _::blk b0 _ _::R);clear hS
 go_loopw [4] (fun v wr=>ReR W D rb bX b0 R s v wr) (fun v _=>4-(intOf v).toNat)
 case atStart=>exact .inl ⟨rfl,hS2⟩
 case round=>
  clear hS2
  rcases hrel with ⟨rfl,hS⟩|⟨rfl,hS⟩|⟨rfl,hS⟩|⟨rfl,hS⟩|⟨rfl,hS⟩
  ·go_wp2_with(first|go_big_skip|go_at_call 97;refine(cL4 D rb _ H0.out W _ _ _ (.tail (.tail ht)) hS).mono ?_;clear hS;rintro e w ⟨rfl,hS⟩|refine zs1 hS ?_;clear hS;intro w hS);go_roundw
   case rel=>exact .inr (.inl ⟨rfl,hS⟩)
   case measure=>simp[intOf]
  ·go_wp2_with(first|go_big_skip|go_at_call 97;refine(cL4 D rb _ H1.out W _ _ _ (.tail (.tail ht)) hS).mono ?_;clear hS;rintro e w ⟨rfl,hS⟩|refine zs1 hS ?_;clear hS;intro w hS);go_roundw
   case rel=>exact .inr (.inr (.inl ⟨rfl,hS⟩))
   case measure=>simp[intOf]
  ·go_wp2_with(first|go_big_skip|go_at_call 97;refine(cL4 D rb _ H2.out W _ _ _ (.tail (.tail ht)) hS).mono ?_;clear hS;rintro e w ⟨rfl,hS⟩|refine zs1 hS ?_;clear hS;intro w hS);go_roundw
   case rel=>exact .inr (.inr (.inr (.inl ⟨rfl,hS⟩)))
   case measure=>simp[intOf]
  ·go_wp2_with(first|go_big_skip|go_at_call 97;refine(cL4 D rb _ H3.out W _ _ _ (.tail (.tail ht)) hS).mono ?_;clear hS;rintro e w ⟨rfl,hS⟩|refine zs1 hS ?_;clear hS;intro w hS);go_roundw
   case rel=>exact .inr (.inr (.inr (.inr ⟨rfl,hS⟩)))
   case measure=>simp[intOf]
  ·rw[Hi.out]at hS;obtain⟨x0,x1,x2,x3⟩:=i;simp only at hS
   cases hit:w8 ⟨x0,x1,x2,x3⟩with
   | true=>
    have h6:=H5.out;rw[hit,if_pos rfl]at h6;have Hit:=jH hit;have H6:=jH h6;clear hit h6;go_wp2_with(first|go_big_skip|refine zlN hS ?_|refine zl1 hS ?_|refine zsN hS ?_;clear hS;intro w hS|go_at_call 116;refine(HJ7 x0 x1 x2 x3 W _ _ hS).mono ?_;clear hS;rw[Hit.out];rintro e w ⟨rfl,hS⟩);apply AH7;rfl;rfl;rfl;exact hS;decide +kernel;(exact x9);kernel_rfl;rw[H6.out]at hS;exact⟨rfl,hS.s _⟩
   | false=>
    have h6:=H5.out;rw[hit,if_neg (by simp)]at h6;subst h6;have Hit:=jH hit;clear hit;go_wp2_with(first|go_big_skip|refine zlN hS ?_|refine zl1 hS ?_|refine zsN hS ?_;clear hS;intro w hS|go_at_call 116;refine(HJ7 x0 x1 x2 x3 W _ _ hS).mono ?_;clear hS;rw[Hit.out];rintro e w ⟨rfl,hS⟩|go_at_call 99;refine(D7 D rb _ W _ _ hS).mono ?_;clear hS;rintro e w ⟨rfl,hS⟩);apply AH7;rfl;rfl;rfl;exact hS;decide +kernel;(exact x9);kernel_rfl;exact⟨rfl,hS.s _⟩
theorem Ar7{D:HP}{rb:Nat}{s s1:RS}{x:List Int}(hn:j5 s=(x,s1))(h:RdOk s)(W w:World)(R R':List HP)(ht:Take R D R')(hS:St W (rdX D rb s::R) w):
  Calls Tryz.prog 158 #[.P rb] w fun e w'=>∃v,e=.returned v/\St W (byR v x::rdX D rb s1::R) w':=by
 have h1:=Sy7 D rb s h W w R R' ht hS;rw[hn]at h1;exact h1
theorem JT7{k:ByteArray}{r:Bool}(h:y5 k=r)(W w:World)(R:List HP)(hS:St W R w):
  Calls Tryz.prog 115 #[.string k] w fun e w'=>e=.returned (.bool r)/\St W R w':=h▸gv4 k W w R hS
def szR(s:RS)(n N:Nat):Prop:=match s with
 | none=>n<=N+1
 | some b=>n+b.length<=N
theorem RdOk.it{s:RS}(h:RdOk s):RdOk (K8 s):=h.num.num.num.num
theorem RdOk.hs{s:RS}(h:RdOk s):RdOk (bi4 s):=h.bytes.it
theorem AL7:RdOk none:=⟨fun l hl=>(by cases hl),fun l hl=>(by cases hl)⟩
theorem RdOk.cond{s:RS}(h:RdOk s)(c:Prop)[Decidable c]:RdOk (if c then s else none):=by
 split
 ·exact h
 ·exact AL7
theorem TC7{b:List Int}{n N:Nat}(hb:RdOk (some b))(h:szR (some b) n N)(c:Prop)[Decidable c]:szR (if c then bi4 (some b)else none) (n+1) N:=by
 have h1:n+b.length<=N:=h;split
 ·cases hs:bi4 (some b)with
  | none=>show n+1<=N+1;omega
  | some r=>
   have:=KV7 (hb.b b rfl) hs;show n+1+r.length<=N
   omega
 ·show n+1<=N+1
  omega
def di4(l:List Hd)(k:ByteArray):Bool:=(l.getLast?).all fun y=>Op.bytesLess y.who.toList k.toList
theorem Sz7(k:ByteArray):di4 [] k=true:=rfl
theorem QW7{l:List Hd}(h:0<l.length)(k:ByteArray):di4 l k=Op.bytesLess (l[l.length-1]).who.toList k.toList:=by unfold di4;rw[List.getLast?_eq_getElem?,jG (by omega)];rfl
theorem fW4(l:List Hd)(u:ByteArray)(i:It)(s4:RS):(if okH l ⟨u,i⟩=true then s4 else none)=(if(y5 u&&(!(isZ i)&&di4 l u))=true then(if w8 i=true then s4 else none)else none):=by
 unfold okH di4;simp only
 cases y5 u <;> cases w8 i <;> cases isZ i <;> simp
def PuX(W:World)(D:HP)(rb:Nat)(L:List HP)(n N:Nat)(T:List Hd×RS)(v3 v5:Value)(w:World):Prop:=
 ∃(l:List Hd) (s:RS),v5=.I l.length/\l.length<=n/\RdOk s/\szR s l.length N/\cc4 (n-l.length) l s=T/\St W (rdX D rb s::hdR v3 l::L) w
theorem Hd7{W w:World}{v:Value}{l:List Hd}{u:ByteArray}{x0 x1 x2 x3:Int}{R:List HP}(h:St W (row v 5 189 (l.length+1) (l.flatMap Hd.cells++[.string u,.I x0,.I x1,.I x2,.I x3])::R) w):St W (hdR v (l++[⟨u,⟨x0,x1,x2,x3⟩⟩])::R) w:=by unfold hdR;rw[jA,List.flatMap_append];exact h
theorem QX7(D:HP)(rb:Nat)(s s0:RS)(n:Int)(hn:d8 s=(n,s0))(h:RdOk s)(N:Nat)(hN:N<=100000)(hsz:szR s0 0 N)(T:List Hd×RS)(hT:cc4 n.toNat [] s0=T)(W w:World)(R R':List HP)(ht:Take R D R')(hS:St W (rdX D rb s::R) w):
  Calls Tryz.prog 198 #[.P rb] w fun e w'=>∃v,e=.returned v/\T.1.length<=N+1/\RdOk T.2/\St W (rdX D rb T.2::hdR v T.1::R) w':=by
 have hr:=At7 s;rw[hn]at hr;obtain⟨m,rfl⟩:∃m:Nat,n=m:=⟨n.toNat,by omega⟩
 have hm:m<=4611686018427387904:=by simp only at hr;omega
 have h0:=h.num;rw[hn]at h0;have H0:=jH h;have Hn:=jH hn;have Hok0:=jH h0;have Hsz0:=jH hsz;have HT:=jH hT;clear h hn hr h0 hsz hT;go_enter Tryz.func198,Tryz.ntmps198;go_wp2_with(first|go_big_skip|go_at_call 97;refine(Ae7 Hn.out H0.out W _ _ _ ht hS).mono ?_;clear hS;rintro e w ⟨rfl,hS⟩);have hS1:=(hS.rowNil (k:=5) (T:=189)).swap;clear hS;have hS:=hS1;clear hS1
 go_loopw [3,5] (fun v3 v5 wr=>PuX W D rb R m N T v3 v5 wr) (fun _ v5 _=>m-(intOf v5).toNat)
 case atStart=>exact⟨[],s0,rfl,Nat.zero_le _,Hok0.out,Hsz0.out,HT.out,hS⟩
 case round=>
  clear hS;obtain⟨l,s,rfl,hlm,hok,hsz,hT,hS⟩:=hrel;obtain⟨va,vc,rfl⟩:=hS.drop.rowVal;have Hok:=jH hok;have Hsz:=jH hsz;have HT2:=jH hT;clear hok hsz hT
  have hlN:l.length<=N+1:=by
   have h1:=Hsz.out
   cases s with
   | none=>exact h1
   | some b=>have h2:l.length+b.length<=N:=h1;omega
  by_cases hin:l.length=m
  ·have hT3:=HT2.out;rw[hin,Nat.sub_self,cc4]at hT3;have HT3:=jH hT3;have hd1:decide (l.length<m)=false:=by simp;omega
   clear hT3 hin hlm;go_wp2_with(first|go_big_skip);go_ret;refine⟨_,rfl,?_⟩;rw[<-HT3.out];exact⟨hlN,Hok.out,hS⟩
  ·have hlt:l.length<m:=by omega
   have hd1:decide ((l.length:Int)<(m:Int))=true:=by simp;omega
   cases s with
   | none=>
    obtain⟨v1,e1,⟨rfl,rfl⟩,hS1⟩:=B9 hS;clear hS;have hS:=hS1;clear hS1;have hT3:=HT2.out;rw[EN7]at hT3;have HT3:=jH hT3;clear hT3 hin;go_wp2_with(first|go_big_skip|refine zl1 hS ?_);go_ret;refine⟨_,rfl,?_⟩;rw[<-HT3.out];exact⟨hlN,AL7,j7 ⟨rfl,rfl⟩ hS⟩
   | some b=>
    obtain⟨v1,e1,hv,hS1⟩:=B9 hS;clear hS;have hS:=hS1;clear hS1;obtain⟨a1,c1,rfl,rfl,Hv⟩:=ad4 hv;clear hv;obtain⟨y,hy⟩:∃y,j5 (some b)=y:=⟨_,rfl⟩
    obtain⟨x,s1⟩:=y;have h1:=Hok.out.bytes;rw[hy]at h1;obtain⟨i,hi⟩:∃i,B8 s1=i:=⟨_,rfl⟩
    obtain⟨s5,h5⟩:∃s5,(if w8 i=true then K8 s1 else none)=s5:=⟨_,rfl⟩
    obtain⟨u,hu⟩:∃u,x6 x=u:=⟨_,rfl⟩
    have e1:rdH (some b)=⟨u,i⟩:=by unfold rdH;rw[hy];simp only;rw[hu,hi]
    have e2:bi4 (some b)=K8 s1:=by unfold bi4;rw[hy]
    have hT3:=HT2.out;have e3:m-l.length=(m-(l.length+1))+1:=by omega
    rw[e3,cc4,e1,e2,fW4,h5]at hT3;have hok6:RdOk (if(y5 u&&(!(isZ i)&&di4 l u))=true then s5 else none):=by rw[<-h5];exact(h1.it.cond _).cond _
    have hsz6:szR (if(y5 u&&(!(isZ i)&&di4 l u))=true then s5 else none) (l.length+1) N:=by
     rw[<-h5,<-e2];have h7:l.length+b.length<=N:=Hsz.out;split
     ·exact TC7 Hok.out Hsz.out _
     ·show l.length+1<=N+1
      omega
    obtain⟨s6,h6⟩:∃s6,(if(y5 u&&(!(isZ i)&&di4 l u))=true then s5 else none)=s6:=⟨_,rfl⟩
    rw[h6]at hT3 hok6 hsz6;obtain⟨x0,x1,x2,x3⟩:=i;have Hx:=jH hy;have H1:=jH h1;have Hi:=jH hi;have H5:=jH h5;have Hu:=jH hu;have HT3:=jH hT3;have H6:=jH h6;have Hok6:=jH hok6;have Hsz6:=jH hsz6;clear hy h1 hi h5 hu e1 e2 e3 hT3 h6 hok6 hsz6 hin;go_wp2_with(first|go_big_skip|refine zl1 hS ?_|go_at_call 158;refine(Ar7 Hx.out Hok.out W _ _ _ ht.tail (j7 Hv.out hS)).mono ?_;clear hS;rintro e w ⟨v,rfl,hS⟩|(with_reducible apply Af7 (ns:=x) hS);rfl;rfl;rfl;exact Tryz.underlying63;exact Tryz.underlying5;exact Tryz.underlying9;exact g8;rw[Hu.out];refine frS ?_|(with_reducible apply Ao7 hS);rfl;rfl;exact zsS;clear hS;intro bH w hS;refine frS ?_|go_at_call 200;refine(Rx7 D rb s1 s5 ⟨x0,x1,x2,x3⟩ Hi.out H5.out H1.out W _ _ _ ht.tail.tail (hS.s (rdX D rb s1::blk bH _ _::hdR _ l::R))).mono ?_;clear hS;simp only[It.cells];rintro e w ⟨rfl,hS⟩|refine zsN hS ?_;clear hS;intro w hS);have hS2:=hS.s (blk bH _ _::rdX D rb s5::hdR (.slice va l.length vc) l::R);clear hS;have hS:=hS2;clear hS2
    cases hk:y5 u with
    | false=>
     have h7:=H6.out;rw[hk,if_neg (by simp)]at h7;subst h7;have Hk:=jH hk;clear hk;refine Aa7 (by kernel_rfl) (by kernel_rfl) hS ?_
     repeat(first|go_big_quiet_skip|refine zq1 ?_|apply Fx7;rfl;rfl;rfl;decide +kernel;exact d7.here (vs:=[.I x0,.I x1,.I x2,.I x3]) rfl;kernel_rfl;refine frS ?_|refine zqn ?_|apply Ag7;rfl;intro w;apply Ad7;rfl;decide +kernel;(focus(simp only[fD,fI,fJ,Act.eval,fE,fF,fG,fH,fK];try rfl));intro w hS;exact JT7 Hk.out W w _ hS;refine frS ?_|(with_reducible apply GJ7);rfl;rfl;rfl;rfl;kernel_rfl;exact eqI _ _ _ _ _ _ _ _;rw[heq];refine frS ?_|refine qR ?_)
     clear hS;intro w hS;go_wp2_with(first|go_big_skip|go_at_call 99;refine(D7 D rb _ W _ _ (hS.s (rdX D rb s5::blk bH _ _::hdR _ l::R))).mono ?_;clear hS;rintro e w ⟨rfl,hS⟩|refine zlN hS ?_|refine zbs hS ?_;clear hS;intro bS w hS|refine zap hS ?_ (h63:=by unfold maxLen;omega) (hb:=by omega);clear hS;intro v w hS);have hS3:=hS.s (row v 5 189 (l.length+1) _::rdX D rb none::R);go_roundw
     case rel=>exact⟨l++[⟨u,⟨x0,x1,x2,x3⟩⟩],none,by rw[jA];rfl,by rw[jA];exact hlt,Hok6.out,by rw[jA];exact Hsz6.out,by rw[jA];exact HT3.out,(Hd7 hS3).swap⟩
     case measure=>simp[intOf];omega
    | true=>
     have Hk:=jH hk
     cases hz:isZ ⟨x0,x1,x2,x3⟩with
     | true=>
      have h7:=H6.out;rw[hk,hz,if_neg (by simp)]at h7;subst h7;have heq:(x0==0&&(x1==0&&(x2==0&&x3==0)))=true:=hz;clear hk hz;refine Aa7 (by kernel_rfl) (by kernel_rfl) hS ?_
      repeat(first|go_big_quiet_skip|refine zq1 ?_|apply Fx7;rfl;rfl;rfl;decide +kernel;exact d7.here (vs:=[.I x0,.I x1,.I x2,.I x3]) rfl;kernel_rfl;refine frS ?_|refine zqn ?_|apply Ag7;rfl;intro w;apply Ad7;rfl;decide +kernel;(focus(simp only[fD,fI,fJ,Act.eval,fE,fF,fG,fH,fK];try rfl));intro w hS;exact JT7 Hk.out W w _ hS;refine frS ?_|(with_reducible apply GJ7);rfl;rfl;rfl;rfl;kernel_rfl;exact eqI _ _ _ _ _ _ _ _;rw[heq];refine frS ?_|refine qR ?_)
      clear hS;intro w hS;go_wp2_with(first|go_big_skip|go_at_call 99;refine(D7 D rb _ W _ _ (hS.s (rdX D rb s5::blk bH _ _::hdR _ l::R))).mono ?_;clear hS;rintro e w ⟨rfl,hS⟩|refine zlN hS ?_|refine zbs hS ?_;clear hS;intro bS w hS|refine zap hS ?_ (h63:=by unfold maxLen;omega) (hb:=by omega);clear hS;intro v w hS);have hS3:=hS.s (row v 5 189 (l.length+1) _::rdX D rb none::R);go_roundw
      case rel=>exact⟨l++[⟨u,⟨x0,x1,x2,x3⟩⟩],none,by rw[jA];rfl,by rw[jA];exact hlt,Hok6.out,by rw[jA];exact Hsz6.out,by rw[jA];exact HT3.out,(Hd7 hS3).swap⟩
      case measure=>simp[intOf];omega
     | false=>
      have heq:(x0==0&&(x1==0&&(x2==0&&x3==0)))=false:=hz;by_cases h0:l.length=0
      ·have hl0:l=[]:=List.eq_nil_of_length_eq_zero h0;subst hl0;have h7:=H6.out;rw[hk,hz,Sz7,if_pos (by rfl)]at h7;subst h7;clear hk hz h0;refine Aa7 (by kernel_rfl) (by kernel_rfl) hS ?_
       repeat(first|go_big_quiet_skip|refine zq1 ?_|apply Fx7;rfl;rfl;rfl;decide +kernel;exact d7.here (vs:=[.I x0,.I x1,.I x2,.I x3]) rfl;kernel_rfl;refine frS ?_|refine zqn ?_|apply Ag7;rfl;intro w;apply Ad7;rfl;decide +kernel;(focus(simp only[fD,fI,fJ,Act.eval,fE,fF,fG,fH,fK];try rfl));intro w hS;exact JT7 Hk.out W w _ hS;refine frS ?_|(with_reducible apply GJ7);rfl;rfl;rfl;rfl;kernel_rfl;exact eqI _ _ _ _ _ _ _ _;rw[heq];refine frS ?_|refine qR ?_)
       clear hS;intro w hS;go_wp2_with(first|go_big_skip|refine zlN hS ?_|refine zbs hS ?_;clear hS;intro bS w hS|refine zap hS ?_ (h63:=by unfold maxLen;omega) (hb:=by omega);clear hS;intro v w hS);have hS3:=hS.s (row v 5 189 _ _::rdX D rb s5::R);go_roundw
       case rel=>exact⟨[]++[⟨u,⟨x0,x1,x2,x3⟩⟩],s5,by rw[jA];rfl,by rw[jA];exact hlt,Hok6.out,by rw[jA];exact Hsz6.out,by rw[jA];exact HT3.out,(Hd7 (l:=[]) hS3).swap⟩
       case measure=>simp[intOf];omega
      ·have hpos:0<l.length:=by omega
       obtain⟨⟨g,rfl⟩,_,_⟩:=St.rowAddr hS.drop.drop hpos;have hlast:∀{K K':List HP},Take K (hdR (.S g l.length vc) l) K'->e8 K g ((l.length-1)*5) (.string (l[l.length-1]'(by omega)).who):=fun hu=>d7.elemM (enc:=Hd.cells) Hd.len hu (by omega) 0 _ rfl
       have haft:=QW7 hpos u;generalize (l[l.length-1]'(by omega)).who=yw at hlast haft
       cases hb:Op.bytesLess yw.toList u.toList with
       | true=>
        have h7:=H6.out;rw[hk,hz,haft,hb,if_pos (by rfl)]at h7;subst h7;clear hk hz h0 haft;refine Aa7 (by kernel_rfl) (by kernel_rfl) hS ?_
        repeat(first|go_big_quiet_skip|refine zq1 ?_|apply Fx7;rfl;rfl;rfl;decide +kernel;exact d7.here (vs:=[.I x0,.I x1,.I x2,.I x3]) rfl;kernel_rfl;refine frS ?_|apply Am7;rfl;rfl;rfl;decide +kernel;exact hlast (.tail (.tail .head));refine frS ?_|refine zqn ?_|apply Ag7;rfl;intro w;apply Ad7;rfl;decide +kernel;(focus(simp only[fD,fI,fJ,Act.eval,fE,fF,fG,fH,fK];try rfl));intro w hS;exact JT7 Hk.out W w _ hS;refine frS ?_|(with_reducible apply GJ7);rfl;rfl;rfl;rfl;kernel_rfl;exact eqI _ _ _ _ _ _ _ _;rw[heq];refine frS ?_|refine qR ?_)
        clear hS;intro w hS;go_wp2_with(first|go_big_skip|refine zlN hS ?_|refine zbs hS ?_;clear hS;intro bS w hS|refine zap hS ?_ (h63:=by unfold maxLen;omega) (hb:=by omega);clear hS;intro v w hS);have hS3:=hS.s (row v 5 189 (l.length+1) _::rdX D rb s5::R);go_roundw
        case rel=>exact⟨l++[⟨u,⟨x0,x1,x2,x3⟩⟩],s5,by rw[jA];rfl,by rw[jA];exact hlt,Hok6.out,by rw[jA];exact Hsz6.out,by rw[jA];exact HT3.out,(Hd7 hS3).swap⟩
        case measure=>simp[intOf];omega
       | false=>
        have h7:=H6.out;rw[hk,hz,haft,hb,if_neg (by simp)]at h7;subst h7;clear hk hz h0 haft;refine Aa7 (by kernel_rfl) (by kernel_rfl) hS ?_
        repeat(first|go_big_quiet_skip|refine zq1 ?_|apply Fx7;rfl;rfl;rfl;decide +kernel;exact d7.here (vs:=[.I x0,.I x1,.I x2,.I x3]) rfl;kernel_rfl;refine frS ?_|apply Am7;rfl;rfl;rfl;decide +kernel;exact hlast (.tail (.tail .head));refine frS ?_|refine zqn ?_|apply Ag7;rfl;intro w;apply Ad7;rfl;decide +kernel;(focus(simp only[fD,fI,fJ,Act.eval,fE,fF,fG,fH,fK];try rfl));intro w hS;exact JT7 Hk.out W w _ hS;refine frS ?_|(with_reducible apply GJ7);rfl;rfl;rfl;rfl;kernel_rfl;exact eqI _ _ _ _ _ _ _ _;rw[heq];refine frS ?_|refine qR ?_)
        clear hS;intro w hS;go_wp2_with(first|go_big_skip|go_at_call 99;refine(D7 D rb _ W _ _ (hS.s (rdX D rb s5::blk bH _ _::hdR _ l::R))).mono ?_;clear hS;rintro e w ⟨rfl,hS⟩|refine zlN hS ?_|refine zbs hS ?_;clear hS;intro bS w hS|refine zap hS ?_ (h63:=by unfold maxLen;omega) (hb:=by omega);clear hS;intro v w hS);have hS3:=hS.s (row v 5 189 (l.length+1) _::rdX D rb none::R);go_roundw
        case rel=>exact⟨l++[⟨u,⟨x0,x1,x2,x3⟩⟩],none,by rw[jA];rfl,by rw[jA];exact hlt,Hok6.out,by rw[jA];exact Hsz6.out,by rw[jA];exact HT3.out,(Hd7 hS3).swap⟩
        case measure=>simp[intOf];omega
theorem Pb7{W w:World}{v:Value}{l:List Ord}{R:List HP}(hS:St W (i9 v l::R) w):dW4 Ord.cells 6 w v l:=by
 rcases hS.rowOpen with ⟨rfl,h0,_,_⟩|⟨g,cap,junk,rfl,hn,hm,hj,hcl,hS'⟩
 ·have hl:l=[]:=List.eq_nil_of_length_eq_zero h0;subst hl;exact⟨none,0,rfl,by simp,fun i hi=>absurd hi (Nat.not_lt_zero _)⟩
 ·refine⟨_,_,rfl,by unfold maxLen at hm;omega,fun i hi=>⟨g,0,rfl,fun j u hj=>?_⟩⟩;have h1:=d7.elem (enc:=Ord.cells) Ord.len (xs:=l) (junk:=junk) (g:=g) (T:=166) (L:=R) hi j u hj W w hS';rw[Nat.zero_add];exact h1
theorem JU7(l:List Ord)(v:Value)(W w:World)(R:List HP)(hS:St W (i9 v l::R) w):
  Calls Tryz.prog 199 #[v] w fun e w'=>(ap4 l/\e=.returned (.tuple #[.pointer none,.I 1])/\St W (i9 v l::R) w') \/
   (l.length<=32/\bX4 l l.length/\∃xb vx,e=.returned (.tuple #[.P xb,.I 0])/\St W (blk xb [vx,.I (I8 l l.length)] 244::i9 vx l::i9 v l::R) w'):=by
 refine(MM7 l v w (Pb7 hS) w w [] (St.start w)).mono ?_;rintro e w' (⟨h1,h2,h3⟩|⟨h1,h2,xb,vx,h3,h4⟩)
 ·exact .inl ⟨h1,h2,St.framed hS [] h3⟩
 ·exact .inr ⟨h1,h2,xb,vx,h3,St.framed hS [blk xb _ _,i9 vx l] h4⟩
theorem SA7{s:RS}(hb:BS s){l r:List Int}(hl:s=some l)(hr:(j5 s).2=some r):r.length<=l.length:=by have h:=(Ci7 hb hr).1;rw[hl]at h;simp only[Option.some.injEq]at h;have h2:=congrArg List.length h;rw[jA]at h2;omega
theorem SB7{b r:List Int}(hb:RdOk (some b))(h:bE4 (some b)=some r):r.length+1<=b.length:=by unfold bE4 K8 at h;obtain⟨l4,e4⟩:=Aq7 h;obtain⟨l3,e3⟩:=Aq7 e4;obtain⟨l2,e2⟩:=Aq7 e3;have e1:∃l1,S9 (some b)=some l1:=Aq7 e2;obtain⟨l1,e1⟩:=e1;have hB:(j5 (d8 (some b)).2).2=some l1:=e1;obtain⟨l0,e0⟩:=AO7 hB;have k0:=Dy7 hb.b e0 rfl;have k1:=SA7 hb.num.b e0 hB;have hok1:RdOk (S9 (some b)):=hb.num.bytes;have k2:=DR7 hok1.b e1 e2;have k3:=DR7 hok1.num.b e2 e3;have k4:=DR7 hok1.num.num.b e3 e4;have k5:=DR7 hok1.num.num.num.b e4 h;omega
theorem Ry7{b:List Int}{n N:Nat}(hb:RdOk (some b))(h:szR (some b) n N)(c:Prop)[Decidable c]:szR (if c then bE4 (some b)else none) (n+1) N:=by
 have h1:n+b.length<=N:=h;split
 ·cases hs:bE4 (some b)with
  | none=>show n+1<=N+1;omega
  | some r=>
   have:=SB7 hb hs;show n+1+r.length<=N
   omega
 ·show n+1<=N+1
  omega
theorem RdOk.os{s:RS}(h:RdOk s):RdOk (bE4 s):=h.num.bytes.it
def OdR(W:World)(D:HP)(rb:Nat)(L:List HP)(n N:Nat)(T:List Ord×RS)(v7 v8:Value)(w:World):Prop:=
 ∃(l:List Ord) (s:RS),v8=.I l.length/\l.length<=n/\RdOk s/\szR s l.length N/\ce4 (n-l.length) l s=T/\St W (rdX D rb s::i9 v7 l::L) w
theorem FY7{W w:World}{v:Value}{l:List Ord}{oi ot oc op:Int}{ou:ByteArray}{oy:Bool}{R:List HP}(h:St W (row v 6 166 (l.length+1) (l.flatMap Ord.cells++[.I oi,.string ou,.bool oy,.I ot,.I oc,.I op])::R) w):St W (i9 v (l++[⟨oi,ou,oy,ot,oc,op⟩])::R) w:=by unfold i9;rw[jA,List.flatMap_append];exact h
end Go.Proofs.YtlmhakmoioogaaaGreat
end
