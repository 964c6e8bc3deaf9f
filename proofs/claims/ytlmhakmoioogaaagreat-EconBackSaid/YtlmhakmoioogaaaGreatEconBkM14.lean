/-
  The program's Reader.
-/
import Derived.Test.YtlmhakmoioogaaaGreatEconBkM13
set_option maxHeartbeats 16000000
set_option maxRecDepth 100000
set_option linter.unusedSimpArgs false
set_option linter.unusedVariables false
section
namespace Go.Proofs.YtlmhakmoioogaaaGreat
open Go.RowKit Go.Sl
theorem Rn7{s:RS}(hb:BS s):BS (j7 s).2:=by
 cases s with
 | none=>exact hb
 | some l=>
  intro r hr;exact(CM7 (hb l rfl) (show j7 (some l)=((j7 (some l)).1,some r)by rw[<-hr])).2.2.2
theorem DD7{s:RS}(hb:BS s){l r:List Int}(hl:s=some l)(hr:(j7 s).2=some r):r.length<=l.length:=by subst hl;have h:=(CM7 (hb l rfl) (show j7 (some l)=((j7 (some l)).1,some r)by rw[<-hr])).1;have h2:=congrArg List.length h;rw[jA]at h2;omega
theorem Cg7(s:RS):0<=(j7 s).1/\(j7 s).1<=4611686018427387904:=by
 cases s with
 | none=>exact⟨Int.le_refl _,by decide⟩
 | some l=>
  unfold j7;simp only
  cases h:cz4 l with
  | none=>exact⟨Int.le_refl _,by decide⟩
  | some x=>
   obtain⟨u,r⟩:=x;unfold cz4 at h;split at h
   ·cases h
   ·split at h
    ·cases h
     exact⟨by simp,by simp only;omega⟩
    ·cases h
structure RdOk(s:RS):Prop where
 b:BS s
 l:∀l,s=some l->l.length<=100000000
theorem RdOk.num{s:RS}(h:RdOk s):RdOk (j7 s).2:=⟨Rn7 h.b,fun r hr=>by
 cases s with
 | none=>cases hr
 | some l=>exact Nat.le_trans (DD7 h.b rfl hr) (h.l l rfl)⟩
theorem RdOk.raw{s:RS}(h:RdOk s)(n:Int):RdOk (aW4 n s).2:=by
 cases s with
 | none=>exact h
 | some l=>
  unfold aW4;simp only;split
  ·refine⟨fun r hr=>?_,fun r hr=>?_⟩
   ·cases hr;exact Il7 (h.b l rfl) _
   ·cases hr
    have:=h.l l rfl;rw[List.length_drop];omega
  ·exact⟨fun r hr=>(by cases hr),fun r hr=>(by cases hr)⟩
theorem RdOk.bytes{s:RS}(h:RdOk s):RdOk (m8 s).2:=h.num.raw _
theorem Ro7(D:HP)(rb:Nat)(s:RS)(h:RdOk s)(W w:World)(R R':List HP)(ht:Take R D R')(hS:St W (rdG D rb s::R) w):
  Calls Tryz.prog 151 #[.P rb] w fun e w'=>∃v,e=.returned v/\St W (byR v (m8 s).1::rdG D rb (m8 s).2::R) w':=by
 have hr:=Cg7 s;have H1:=jH h;clear h;go_enter Tryz.func151,Tryz.ntmps151;go_wp2_with(first|go_at_call 154;refine(ej4 D rb s H1.out.b H1.out.l W _ _ _ ht hS).mono ?_;clear hS;rintro e w ⟨rfl,hS⟩|go_at_call 195;refine(UV7 D rb (j7 s).2 (j7 s).1 ⟨by omega,by omega⟩ H1.out.num.l W _ _ _ ht hS).mono ?_;clear hS;rintro e w ⟨v,rfl,hS⟩);go_ret;exact⟨_,rfl,hS⟩
structure Into(F:List Int->List HP)(D:HP)(ps:List (Nat×Nat)):Prop where
 st:∀(xs:List Int) (x:Int), ∀h:xs.length<ps.length, ∃l T,l.length<=100/\(ps[xs.length]).2<l.length/\Upd (F xs) (blk (ps[xs.length]).1 l T) (blk (ps[xs.length]).1 (l.set (ps[xs.length]).2 (.I x)) T) (F (xs++[x]))
 dat:∀xs, ∃R',Take (F xs) D R'
theorem HD7:∀(k:Nat) (s:RS),(I6 k s).1.length=k
 | 0,_=>rfl
 | k+1,s=>by rw[I6,jC,HD7]
theorem GG7:∀(k:Nat) (s:RS),I6 (k+1) s=((I6 k s).1++[(j7 (I6 k s).2).1],(j7 (I6 k s).2).2)
 | 0,s=>rfl
 | k+1,s=>by rw[I6,GG7 k];rfl
theorem RdOk.nums:∀(k:Nat) {s:RS},RdOk s->RdOk (I6 k s).2
 | 0,_,h=>h
 | k+1,_,h=>RdOk.nums k h.num
def pV(p:Nat×Nat):Value:=.pointer (some ⟨p.1,p.2,none⟩)
def NpR(W:World)(F:List Int->List HP)(D:HP)(rb:Nat)(s:RS)(n:Nat)(v:Value)(w:World):Prop:=
 ∃i:Nat,v=.I i/\i<=n/\St W (rdG D rb (I6 i s).2::F (I6 i s).1) w
theorem LZ7(D:HP)(rb:Nat)(s:RS)(hr:RdOk s)(ps:List (Nat×Nat))(hl:ps.length<=100)(g c:Nat)(F:List Int->List HP)(hF:Into F D ps)(hg:∀xs i, ∀h:i<ps.length,i9 (F xs) g i (pV ps[i]))(W w:World)(hS:St W (rdG D rb s::F []) w):
  Calls Tryz.prog 196 #[.P rb,.S g ps.length c] w fun e w'=>e=.returned (.tuple #[])/\St W (rdG D rb (I6 ps.length s).2::F (I6 ps.length s).1) w':=by
 have HR:=jH hr;have HF:=jH hF;have HG:=jH hg;clear hr hF hg;go_enter Tryz.func196,Tryz.ntmps196;go_wp2_with(fail)
 go_loopw [9] (fun v wr=>NpR W F D rb s ps.length v wr) (fun v _=>ps.length-(intOf v).toNat)
 case atStart=>exact⟨0,rfl,Nat.zero_le _,hS⟩
 case round=>
  clear hS;obtain⟨i,rfl,hil,hS⟩:=hrel;by_cases hin:i=ps.length
  ·have Hi:=jH hin;clear hil;go_wp2_with(fail);go_end0;refine⟨rfl,?_⟩;rw[<-Hi.out];exact hS
  ·have hi1:i<ps.length:=by omega
   have hlen:(I6 i s).1.length=i:=HD7 i s;have hpx:=HG.out (I6 i s).1 i hi1;obtain⟨R',ht⟩:=HF.out.dat (I6 i s).1;obtain⟨l,T,h100,hoff,hup⟩:=HF.out.st (I6 i s).1 (j7 (I6 i s).2).1 (by rw[hlen];exact hi1);simp only[hlen]at hoff hup;have hst:=GG7 i s;have hr2:=HR.out.nums i;generalize I6 i s=q at *;obtain⟨xs,s2⟩:=q;simp only at hlen hpx ht hup hst hr2 hS;generalize ps[i]=p at hpx hoff hup;obtain⟨pb,poff⟩:=p;unfold pV at hpx;simp only at hpx hoff hup;have Hst:=jH hst;clear hst hin hil;go_wp2_with(first|refine zl1 hS ?_ (hc:=by exact i9.there hpx)|go_at_call 154;refine(ej4 D rb s2 hr2.b hr2.l W _ _ _ ht hS).mono ?_;clear hS;rintro e w ⟨rfl,hS⟩|((with_reducible apply Hl7 hS);rfl;rfl;rfl;rfl;kernel_rfl;rfl;rfl;exact Upd.tail hup;(focus omega);rfl;clear hS;intro w hS;try(refine frS ?_)));go_roundw
   case rel=>exact⟨i+1,rfl,hi1,by rw[Hst.out];exact hS⟩
   case measure=>simp[intOf];omega
abbrev rdX:=rdR 156
def NxR(W:World)(D:HP)(rb:Nat)(L:List HP)(l:List Int)(v3 v4:Value)(w:World):Prop:=
 ∃(k u:Nat),v3=.int .u64 u/\v4=.I k/\k<=l.length/\k<=9/\u<2^(7*k)/\cz4 l=bd4 k u (l.drop k)/\St W (rdX D rb (some (l.drop k))::L) w
def J8(s:RS):It:=⟨(j7 s).1,(j7 (j7 s).2).1,(j7 (j7 (j7 s).2).2).1,(j7 (j7 (j7 (j7 s).2).2).2).1⟩
def ag4(s:RS):RS:=(j7 (j7 (j7 (j7 s).2).2).2).2
def rdH(s:RS):Hd:=⟨E7 (m8 s).1,J8 (m8 s).2⟩
def ce4(s:RS):RS:=ag4 (m8 s).2
def okH(l:List Hd)(h:Hd):Bool:=C8 h.who&&(x8 h.has&&(!(isZ h.has)&&(l.getLast?).all fun y=>Op.bytesLess y.who.toList h.who.toList))
def dk4:Nat->List Hd->RS->List Hd×RS
 | 0,l,s=>(l,s)
 | _+1,l,none=>(l,none)
 | n+1,l,some b=>dk4 n (l++[rdH (some b)]) (if okH l (rdH (some b))=true then ce4 (some b)else none)
def cM4:Nat->Ps->RS->Option (Ps×RS)
 | 0,p,s=>some (p,s)
 | _+1,p,none=>some (p,none)
 | n+1,p,some b=>if(C8 (rdH (some b)).who&&x8 (rdH (some b)).has)=true then cM4 n (K7 p (rdH (some b)).who (rdH (some b)).has) (ce4 (some b))else none
def aO4(s:RS):RS:=(m8 (j7 s).2).2
def rdO(s:RS):Ord:=⟨(j7 s).1,E7 (m8 (j7 s).2).1,decide ((J8 (aO4 s)).x0=1),(J8 (aO4 s)).x1,(J8 (aO4 s)).x2,(J8 (aO4 s)).x3⟩
def cA4(s:RS):RS:=ag4 (aO4 s)
def dl4:Nat->List Ord->RS->List Ord×RS
 | 0,l,s=>(l,s)
 | _+1,l,none=>(l,none)
 | n+1,l,some b=>dl4 n (l++[rdO (some b)]) (if(J8 (aO4 (some b))).x0<=1/\l.length<32 then cA4 (some b)else none)
def dA4:Nat->List Ord->RS->List Ord×RS
 | 0,l,s=>(l,s)
 | _+1,l,none=>(l,none)
 | n+1,l,some b=>dA4 n (l++[rdO (some b)]) (cA4 (some b))
theorem Ar7{s:RS}{r:List Int}(h:(j7 s).2=some r):∃l,s=some l:=by
 cases s with
 | none=>cases h
 | some l=>exact⟨l,rfl⟩
theorem AG7{s:RS}{r:List Int}(h:(m8 s).2=some r):∃l,s=some l:=by
 cases s with
 | none=>cases h
 | some l=>exact⟨l,rfl⟩
theorem Jv7(n:Int):1<=(m6 n).length:=Ex7 n
theorem AQ7{s:RS}{r:List Int}(hb:BS s)(h:(j7 s).2=some r):s=some (m6 (j7 s).1++r)/\0<=(j7 s).1/\(j7 s).1<=4611686018427387904/\ByB r:=by obtain⟨l,rfl⟩:=Ar7 h;obtain⟨h1,h2,h3,h4⟩:=CM7 (hb l rfl) (show j7 (some l)=((j7 (some l)).1,some r)by rw[<-h]);exact⟨by rw[<-h1],h2,h3,h4⟩
theorem OY7{s:RS}{r:List Int}(hb:BS s)(h:ag4 s=some r):s=some (r7 [(J8 s).x0,(J8 s).x1,(J8 s).x2,(J8 s).x3]++r)/\ByB r/\(0<=(J8 s).x0):=by
 unfold ag4 at h;obtain⟨l3,e3⟩:=Ar7 h;obtain⟨l2,e2⟩:=Ar7 e3;obtain⟨l1,e1⟩:=Ar7 e2;obtain⟨a1,a2,a3,a4⟩:=AQ7 hb e1;have hb1:BS (j7 s).2:=fun l hl=>by rw[e1]at hl;cases hl;exact a4
 obtain⟨b1,b2,b3,b4⟩:=AQ7 hb1 e2;have hb2:BS (j7 (j7 s).2).2:=fun l hl=>by rw[e2]at hl;cases hl;exact b4
 obtain⟨c1,c2,c3,c4⟩:=AQ7 hb2 e3;have hb3:BS (j7 (j7 (j7 s).2).2).2:=fun l hl=>by rw[e3]at hl;cases hl;exact c4
 obtain⟨d1,d2,d3,d4⟩:=AQ7 hb3 h;refine⟨?_,d4,a2⟩;rw[e1]at b1;rw[e2]at c1;rw[e3]at d1;simp only[Option.some.injEq]at b1 c1 d1;rw[<-e1]at b1;rw[<-e2]at c1;rw[<-e3]at d1;unfold r7 J8;simp only[List.flatMap_cons,List.flatMap_nil,List.append_nil,jS];rw[<-d1,<-c1,<-b1];exact a1
theorem BX7{s:RS}{r:List Int}(hb:BS s)(h:(m8 s).2=some r):s=some (C9 (E7 (m8 s).1)++r)/\ByB r:=by obtain⟨l,rfl⟩:=AG7 h;obtain⟨h1,h2,h3⟩:=Fy7 (hb l rfl) (show m8 (some l)=((m8 (some l)).1,some r)by rw[<-h]);exact⟨by rw[<-h1],h3⟩
theorem Jw7{s:RS}{r:List Int}(h:ag4 s=some r):∃l,s=some l:=by unfold ag4 at h;obtain⟨l3,e3⟩:=Ar7 h;obtain⟨l2,e2⟩:=Ar7 e3;obtain⟨l1,e1⟩:=Ar7 e2;exact Ar7 e1
theorem OZ7{b r:List Int}(hb:ByB b)(h:ce4 (some b)=some r):b=T7 (rdH (some b))++r/\ByB r:=by
 have hbs:BS (some b):=fun l hl=>by cases hl;exact hb
 unfold ce4 at h;obtain⟨l1,e1⟩:=Jw7 h;obtain⟨a1,a2⟩:=BX7 hbs e1;have hb1:BS (m8 (some b)).2:=fun l hl=>by rw[e1]at hl;cases hl;exact a2
 obtain⟨c1,c2,_⟩:=OY7 hb1 h;refine⟨?_,c2⟩;rw[e1]at c1;simp only[Option.some.injEq]at a1 c1;rw[<-e1]at c1;unfold T7 rdH;simp only[jS];rw[<-c1];exact a1
theorem UW7{b r:List Int}(hb:ByB b)(h:cA4 (some b)=some r)(hx:(J8 (aO4 (some b))).x0<=1):b=S5 (rdO (some b))++r/\ByB r:=by
 have hbs:BS (some b):=fun l hl=>by cases hl;exact hb
 unfold cA4 at h;obtain⟨l2,e2⟩:=Jw7 h;unfold aO4 at e2;obtain⟨l1,e1⟩:=AG7 e2;obtain⟨a1,a2,a3,a4⟩:=AQ7 hbs e1;have hb1:BS (j7 (some b)).2:=fun l hl=>by rw[e1]at hl;cases hl;exact a4
 obtain⟨c1,c2⟩:=BX7 hb1 e2;have hb2:BS (aO4 (some b)):=fun l hl=>by unfold aO4 at hl;rw[e2]at hl;cases hl;exact c2
 obtain⟨d1,d2,d3⟩:=OY7 hb2 h;refine⟨?_,d2⟩;have e3:aO4 (some b)=some l2:=e2;rw[e1]at c1;rw[e3]at d1;simp only[Option.some.injEq]at a1 c1 d1;rw[<-e1]at c1;rw[<-e3]at d1
 have hbuy:bJ4 (decide ((J8 (aO4 (some b))).x0=1))=(J8 (aO4 (some b))).x0:=by
  unfold bJ4;by_cases h1:(J8 (aO4 (some b))).x0=1
  ·rw[h1];rfl
  ·rw[if_neg (by simpa using h1)];omega
 unfold S5 rdO;simp only[hbuy,jS];rw[<-d1,<-c1];exact a1
theorem Rp7(h:Hd):1<=(T7 h).length:=by unfold T7 C9;have:=Jv7 h.who.size;simp only[jA];omega
theorem Pa7{b r:List Int}(hb:ByB b)(h:ce4 (some b)=some r):r.length+1<=b.length:=by obtain⟨h1,_⟩:=OZ7 hb h;have:=Rp7 (rdH (some b));rw[h1,jA];omega
theorem EA7{s:RS}{r:List Int}(hb:BS s)(h:(j7 s).2=some r){l:List Int}(hl:s=some l):r.length+1<=l.length:=by obtain⟨h1,_⟩:=AQ7 hb h;have:=Jv7 (j7 s).1;rw[hl]at h1;simp only[Option.some.injEq]at h1;have h2:=congrArg List.length h1;rw[jA,<-hl]at h2;omega
theorem GH7(n:Nat)(l:List Hd):dk4 n l none=(l,none):=by cases n <;> rfl
theorem GI7(n:Nat)(l:List Ord):dl4 n l none=(l,none):=by cases n <;> rfl
theorem SP7:∀(H:List Hd) (k:ByteArray),(∀x∈H,blt x.who k)->spI H k=H.length/\spB H k=false
 | [],k,_=>⟨rfl,rfl⟩
 | h::H,k,hl=>by
  have h1:=hl h (List.mem_cons_self ..);obtain⟨i1,i2⟩:=SP7 H k fun x hx=>hl x (List.mem_cons_of_mem _ hx)
  rw[spI,spB,if_pos h1,if_pos h1,i1,i2];exact⟨rfl,rfl⟩
theorem Rq7{H:List Hd}{h:Hd}(hl:∀x∈H,blt x.who h.who)(hz:isZ h.has=false):dL4 H h.who h.has=H++[h]:=by obtain⟨h1,h2⟩:=SP7 H h.who hl;unfold dL4;rw[h1,h2,hz];simp
theorem Rr7{H:List Hd}{k:ByteArray}(hs:dU4 H)(h:(H.getLast?).all (fun y=>Op.bytesLess y.who.toList k.toList)=true):∀x∈H,blt x.who k:=by
 intro x hx
 cases hl:H.getLast? with
 | none=>rw[List.getLast?_eq_none_iff.1 hl]at hx;cases hx
 | some y=>
  rw[hl]at h;have hy:blt y.who k:=h;obtain⟨ys,rfl⟩:=List.getLast?_eq_some_iff.1 hl
  rcases List.mem_append.1 hx with hx|hx
  ·exact Dj7 ((List.pairwise_append.1 hs).2.2 x hx y (List.mem_singleton.2 rfl)) hy
  ·rw[List.mem_singleton.1 hx];exact hy
structure PuI(p:Ps)(N:Nat):Prop where
 ok:N5 p
 w:PsW p N
 who:∀x∈p,C8 x.1=true
theorem Pb7(N:Nat):PuI [] N:=⟨Ek7,Ky7 N,fun _ h=>(by cases h)⟩
theorem Pc7{p:Ps}{N:Nat}(h:PuI p N){k:ByteArray}{i:It}(hk:C8 k=true)(hi:x8 i=true):PuI (K7 p k i) (N+1):=by
 refine⟨El7 h.ok k hi,Ie7 h.w hk i,?_⟩;unfold K7;split
 ·exact fun x hx=>h.who x (Cs7 hx).1
 ·intro x hx
  rcases List.mem_cons.1 hx with rfl|hx
  ·exact hk
  ·exact h.who x (Cs7 hx).1
theorem FT7{p:Ps}{N M:Nat}(h:PuI p N)(hm:N<=M):PuI p M:=⟨h.ok,Ap7 h.w hm,h.who⟩
theorem Rs7{p:Ps}{N:Nat}(h:PuI p N):∀x∈hdL p,C8 x.who=true/\x8 x.has=true/\isZ x.has=false:=by
 intro x hx;have hk:x.who∈kL p:=by rw[<-DN7];exact List.mem_map_of_mem hx
 obtain⟨y,hy,e⟩:=Hz7 hk;refine⟨e▸h.who y hy,by rw[CS7 hx];exact h.ok _,by rw[CS7 hx];exact fr4 h.w hk⟩
theorem Jx7:∀(n:Nat) (l:List Hd) (b:List Int) (L:List Hd) (r:List Int) (p:Ps) (N:Nat),ByB b->hdL p=l->PuI p N->dk4 n l (some b)=(L,some r)->
  ∃p',cM4 n p (some b)=some (p',some r)/\hdL p'=L/\PuI p' (N+n)/\ByB r/\∃l2,L=l++l2/\l2.length=n/\b=l2.flatMap T7++r
 | 0,l,b,L,r,p,N,hb,hl,hp,h=>by rw[dk4]at h;simp only[Prod.mk.injEq,Option.some.injEq]at h;obtain⟨rfl,rfl⟩:=h;exact⟨p,rfl,hl,hp,hb,[],by simp,rfl,rfl⟩
 | n+1,l,b,L,r,p,N,hb,hl,hp,h=>by
  rw[dk4]at h;by_cases hok:okH l (rdH (some b))=true
  ·rw[if_pos hok]at h
   cases hs:ce4 (some b)with
   | none=>rw[hs,GH7]at h;cases h
   | some b2=>
    rw[hs]at h;obtain⟨h1,h2⟩:=OZ7 hb hs;have hok2:=hok;unfold okH at hok2;simp only[jB,Bool.not_eq_true']at hok2;obtain⟨k1,k2,k3,k4⟩:=hok2;have hall:=Rr7 (hl▸GB7 hp.w) k4;have hl2:hdL (K7 p (rdH (some b)).who (rdH (some b)).has)=l++[rdH (some b)]:=by rw[<-OF7 hp.w,hl];exact Rq7 hall k3
    obtain⟨p',i1,i2,i3,i4,l2,i5,i6,i7⟩:=Jx7 n _ b2 L r _ (N+1) h2 hl2 (Pc7 hp k1 k2) h;refine⟨p',?_,i2,FT7 i3 (by omega),i4,rdH (some b)::l2,by rw[i5];simp,by simp[i6],?_⟩
    ·rw[cM4,if_pos (by rw[k1,k2];rfl),hs];exact i1
    ·rw[List.flatMap_cons,jS,<-i7];exact h1
  ·rw[if_neg hok,GH7]at h
   cases h
theorem Pd7:∀(n:Nat) (p:Ps) (s:RS) (p':Ps) (s':RS) (N:Nat),BS s->PuI p N->cM4 n p s=some (p',s')->PuI p' (N+(match s with|none=>0|some b=>b.length+1))/\BS s'
 | 0,p,s,p',s',N,hb,hp,h=>by rw[cM4]at h;simp only[Option.some.injEq,Prod.mk.injEq]at h;obtain⟨rfl,rfl⟩:=h;exact⟨FT7 hp (by omega),hb⟩
 | n+1,p,none,p',s',N,hb,hp,h=>by rw[cM4]at h;simp only[Option.some.injEq,Prod.mk.injEq]at h;obtain⟨rfl,rfl⟩:=h;exact⟨hp,hb⟩
 | n+1,p,some b,p',s',N,hb,hp,h=>by
  rw[cM4]at h;by_cases hc:(C8 (rdH (some b)).who&&x8 (rdH (some b)).has)=true
  ·rw[if_pos hc]at h;rw[jB]at hc;have hbb:=hb b rfl;have hb2:BS (ce4 (some b)):=fun l hl=>(OZ7 hbb hl).2
   have ih:=Pd7 n _ _ _ _ (N+1) hb2 (Pc7 hp hc.1 hc.2) h;refine⟨FT7 ih.1 ?_,ih.2⟩
   cases hs:ce4 (some b)with
   | none=>simp only;omega
   | some r=>
    have:=Pa7 hbb hs;simp only;omega
  ·rw[if_neg hc]at h
   cases h
theorem Rt7{k:ByteArray}(h:C8 k=true):k.size<=16:=Dh7 h
theorem Ma7{i:It}(hi:x8 i=true)(r:List Int):J8 (some (r7 [i.x0,i.x1,i.x2,i.x3]++r))=i/\ag4 (some (r7 [i.x0,i.x1,i.x2,i.x3]++r))=some r:=by
 obtain⟨a0,a1,a2,a3⟩:=Af7.1 hi;have e:r7 [i.x0,i.x1,i.x2,i.x3]++r=m6 i.x0++(m6 i.x1++(m6 i.x2++(m6 i.x3++r))):=by unfold r7;simp
 rw[e];unfold J8 ag4;rw[Aq7 (by omega) (by omega)];dsimp only;rw[Aq7 (by omega) (by omega)];dsimp only;rw[Aq7 (by omega) (by omega)];dsimp only;rw[Aq7 (by omega) (by omega)];exact⟨rfl,rfl⟩
theorem TI7{h:Hd}(h1:h.who.size<=16)(h2:x8 h.has=true)(r:List Int):rdH (some (T7 h++r))=h/\ce4 (some (T7 h++r))=some r:=by unfold rdH ce4 T7;rw[jS,Bf7 h.who (by omega)];dsimp only;obtain⟨e1,e2⟩:=Ma7 h2 r;rw[e1,e2,Ez7];exact⟨rfl,rfl⟩
theorem Mb7:∀(l2 l:List Hd) (r:List Int),(∀h∈l2,C8 h.who=true/\x8 h.has=true/\isZ h.has=false)->dU4 (l++l2)->dk4 l2.length l (some (l2.flatMap T7++r))=(l++l2,some r)
 | [],l,r,_,_=>by rw[List.append_nil];rfl
 | h::l2,l,r,hh,hs=>by
  obtain⟨k1,k2,k3⟩:=hh h (List.mem_cons_self ..);obtain⟨e1,e2⟩:=TI7 (Rt7 k1) k2 (l2.flatMap T7++r);rw[jC,List.flatMap_cons,jS,dk4,e1,e2]
  have hok:okH l h=true:=by
   unfold okH;rw[k1,k2,k3];simp only[Bool.true_and,Bool.not_false]
   cases hl:l.getLast? with
   | none=>rfl
   | some y=>
    obtain⟨ys,rfl⟩:=List.getLast?_eq_some_iff.1 hl;exact(List.pairwise_append.1 hs).2.2 y (List.mem_append_right _ (List.mem_singleton.2 rfl)) h (List.mem_cons_self ..)
  rw[if_pos hok,Mb7 l2 (l++[h]) r (fun x hx=>hh x (List.mem_cons_of_mem _ hx)) (by rw[jS];exact hs)];rw[jS];rfl
theorem Jy7:∀(n:Nat) (l:List Ord) (b:List Int) (L:List Ord) (r:List Int),ByB b->dl4 n l (some b)=(L,some r)->
  dA4 n l (some b)=(L,some r)/\ByB r/\∃l2,L=l++l2/\l2.length=n/\b=l2.flatMap S5++r
 | 0,l,b,L,r,hb,h=>by rw[dl4]at h;simp only[Prod.mk.injEq,Option.some.injEq]at h;obtain⟨rfl,rfl⟩:=h;exact⟨rfl,hb,[],by simp,rfl,rfl⟩
 | n+1,l,b,L,r,hb,h=>by
  rw[dl4]at h;by_cases hok:(J8 (aO4 (some b))).x0<=1/\l.length<32
  ·rw[if_pos hok]at h
   cases hs:cA4 (some b)with
   | none=>rw[hs,GI7]at h;cases h
   | some b2=>
    rw[hs]at h;obtain⟨h1,h2⟩:=UW7 hb hs hok.1;obtain⟨i1,i4,l2,i5,i6,i7⟩:=Jy7 n _ b2 L r h2 h;refine⟨?_,i4,rdO (some b)::l2,by rw[i5];simp,by simp[i6],?_⟩
    ·rw[dA4,hs];exact i1
    ·rw[List.flatMap_cons,jS,<-i7];exact h1
  ·rw[if_neg hok,GI7]at h
   cases h
theorem TJ7{o:Ord}(h:MayP o)(r:List Int):rdO (some (S5 o++r))=o/\cA4 (some (S5 o++r))=some r/\(J8 (aO4 (some (S5 o++r)))).x0<=1:=by
 obtain⟨oi,ou,oy,ot,oc,op⟩:=o;have i0:1<=oi:=h.id0;have i1:oi<=1099511627776:=h.id1;have w1:ou.size<=16:=h.who1;have t0:1<=ot:=h.item0;have t1:ot<=3:=h.item1;have c0:1<=oc:=h.cnt0;have c1:oc<=1048576:=h.cnt1;have p0:1<=op:=h.price0;have p1:op<=1024:=h.price1
 have hit:x8 ⟨bJ4 oy,ot,oc,op⟩=true:=by
  refine Af7.2 ⟨?_,⟨by simp only;omega,by simp only;omega⟩,⟨by simp only;omega,by simp only;omega⟩,by simp only;omega,by simp only;omega⟩;unfold bJ4
  cases oy <;> simp
 obtain⟨e1,e2⟩:=Ma7 hit r;simp only at e1 e2;have e0:aO4 (some (S5 ⟨oi,ou,oy,ot,oc,op⟩++r))=some (r7 [bJ4 oy,ot,oc,op]++r):=by unfold aO4 S5;simp only[jS];rw[Aq7 (by omega) (by omega)];dsimp only;rw[Bf7 ou (by omega)]
 refine⟨?_,?_,?_⟩
 ·unfold rdO;rw[e0,e1];unfold S5;simp only[jS];rw[Aq7 (by omega) (by omega)];dsimp only;rw[Bf7 ou (by omega)];dsimp only;rw[Ez7]
  cases oy <;> rfl
 ·unfold cA4;rw[e0,e2]
 ·rw[e0,e1];show bJ4 oy<=1
  cases oy <;> decide
theorem Mc7:∀(l2 l:List Ord) (r:List Int),(∀o∈l2,MayP o)->(l++l2).length<=32->dl4 l2.length l (some (l2.flatMap S5++r))=(l++l2,some r)
 | [],l,r,_,_=>by rw[List.append_nil];rfl
 | o::l2,l,r,hh,hs=>by
  obtain⟨e1,e2,e3⟩:=TJ7 (hh o (List.mem_cons_self ..)) (l2.flatMap S5++r);rw[jC,List.flatMap_cons,jS,dl4,e1,e2];have hlen:l.length<32:=by rw[jA,jC]at hs;omega
  rw[if_pos ⟨e3,hlen⟩,Mc7 l2 (l++[o]) r (fun x hx=>hh x (List.mem_cons_of_mem _ hx)) (by rw[jS];exact hs)];rw[jS];rfl
def dP(b:List Int):List Hd×RS:=dk4 (j7 (some b)).1.toNat [] (j7 (some b)).2
def dO(b:List Int):List Ord×RS:=dl4 (j7 (dP b).2).1.toNat [] (j7 (dP b).2).2
def dN(b:List Int):Int×RS:=j7 (dO b).2
structure OkN(l:List Ord)(n:Int):Prop where
 few:l.length<=32
 ok:dj4 l l.length
 last:aC4 l l.length<n
 n0:1<=n
 n1:n<=1099511627777
def VDk(b:List Int):Prop:=(dN b).2=some []/\OkN (dO b).1 (dN b).1
def gP(b:List Int):Option (Ps×RS):=cM4 (j7 (some b)).1.toNat [] (j7 (some b)).2
def gO(s:RS):List Ord×RS:=dA4 (j7 s).1.toNat [] (j7 s).2
def gN(s:RS):Int×RS:=j7 (gO s).2
theorem Ru7{l:List Ord}(h:dj4 l l.length):∀o∈l,MayP o:=by intro o ho;obtain⟨i,hi,rfl⟩:=List.mem_iff_getElem.1 ho;have h1:=h i hi;unfold bI4 at h1;rw[w5 hi]at h1;simp only[Bool.or_eq_false_iff,Bool.not_eq_false']at h1;exact Ao7.1 h1.1
theorem Rv7{b:List Int}(hb:ByB b)(h:VDk b):∃p s,gP b=some (p,s)/\hdL p=(dP b).1/\gO s=dO b/\I5 p (dO b).1 (dN b).1=b:=by
 obtain⟨h1,h2⟩:=h;have hbs:BS (some b):=fun l hl=>by cases hl;exact hb
 obtain⟨b4,e4⟩:=Ar7 h1
 have hO:∃b3,(j7 (dP b).2).2=some b3:=by
  cases hs:(j7 (dP b).2).2 with
  | none=>unfold dO at e4;rw[hs,GI7]at e4;cases e4
  | some b3=>exact⟨b3,rfl⟩
 obtain⟨b3,e3⟩:=hO;obtain⟨b2,e2⟩:=Ar7 e3
 have hP:∃b1,(j7 (some b)).2=some b1:=by
  cases hs:(j7 (some b)).2 with
  | none=>unfold dP at e2;rw[hs,GH7]at e2;cases e2
  | some b1=>exact⟨b1,rfl⟩
 obtain⟨b1,e1⟩:=hP;obtain⟨a1,a2,a3,a4⟩:=AQ7 hbs e1
 have hp:dk4 (j7 (some b)).1.toNat [] (some b1)=((dP b).1,some b2):=by
  have:dP b=((dP b).1,some b2):=by rw[<-e2]
  rw[<-this];unfold dP;rw[e1]
 obtain⟨p,c1,c2,c3,c4,l2,c5,c6,c7⟩:=Jx7 _ [] b1 _ b2 [] 0 a4 (List.eq_nil_of_length_eq_zero (Bl7 [])) (Pb7 0) hp;have hb2:BS (dP b).2:=fun l hl=>by rw[e2]at hl;cases hl;exact c4
 obtain⟨d1,d2,d3,d4⟩:=AQ7 hb2 e3
 have ho:dl4 (j7 (dP b).2).1.toNat [] (some b3)=((dO b).1,some b4):=by
  have:dO b=((dO b).1,some b4):=by rw[<-e4]
  rw[<-this];unfold dO;rw[e3]
 obtain⟨f1,f2,l3,f5,f6,f7⟩:=Jy7 _ [] b3 _ b4 d4 ho;have hb4:BS (dO b).2:=fun l hl=>by rw[e4]at hl;cases hl;exact f2
 have h1':(j7 (dO b).2).2=some []:=h1;obtain⟨g1,g2,g3,g4⟩:=AQ7 hb4 h1';refine⟨p,(dP b).2,?_,c2,?_,?_⟩
 ·unfold gP;rw[e1,c1,e2]
 ·unfold gO;rw[e3,f1,<-e4]
 ·rw[jN]at c5 f5;unfold I5;rw[c2,c5,f5];rw[e2]at d1;rw[e4]at g1;simp only[Option.some.injEq]at a1 d1 g1;rw[List.append_nil]at g1;have k1:((l2.length:Nat):Int)=(j7 (some b)).1:=by rw[c6];omega
  have k2:((l3.length:Nat):Int)=(j7 (dP b).2).1:=by rw[f6];omega
  rw[k1,k2];have g1':b4=m6 (dN b).1:=by rw[<-e4]at g1;exact g1
  rw[<-g1',jS,jS,jS,<-f7];rw[<-e2]at d1;rw[<-d1,<-c7];exact a1.symm
theorem ft4{b:List Int}(hb:ByB b){p:Ps}{s:RS}(hg:gP b=some (p,s)):PuI p (b.length+1)/\BS s:=by
 have hbs:BS (some b):=fun l hl=>by cases hl;exact hb
 have hb1:BS (j7 (some b)).2:=fun l hl=>(AQ7 hbs hl).2.2.2
 obtain⟨h1,h2⟩:=Pd7 _ [] _ p s 0 hb1 (Pb7 0) hg;refine⟨FT7 h1 ?_,h2⟩
 cases hs:(j7 (some b)).2 with
 | none=>simp only;omega
 | some r=>
  have:=EA7 hbs hs rfl;simp only;omega
theorem Rw7{b:List Int}{p:Ps}{N:Nat}(hpi:PuI p N)(hB:N<=4611686018427387904){l:List Ord}{n:Int}(hn:OkN l n)(he:I5 p l n=b):VDk b/\(dP b).1=hdL p/\(dO b).1=l/\(dN b).1=n:=by
 have hlen:((hdL p).length:Int)<=4611686018427387904:=by have h2:=hpi.w.len;rw[Bl7];omega
 have hmay:=Ru7 hn.ok;have hn0:=hn.n0;have hn1:=hn.n1;have hl32:=hn.few;have he2:b=m6 (hdL p).length++((hdL p).flatMap T7++(m6 l.length++(l.flatMap S5++(m6 n++[])))):=by rw[<-he];unfold I5;simp
 have e1:j7 (some b)=(((hdL p).length:Int),some ((hdL p).flatMap T7++(m6 l.length++(l.flatMap S5++(m6 n++[]))))):=by rw[he2];exact Aq7 (by omega) hlen _
 have e2:dP b=(hdL p,some (m6 l.length++(l.flatMap S5++(m6 n++[])))):=by unfold dP;rw[e1];exact Mb7 (hdL p) [] _ (Rs7 hpi) (GB7 hpi.w)
 have e3:dO b=(l,some (m6 n++[])):=by unfold dO;rw[e2];dsimp only;rw[Aq7 (by omega) (by omega)];exact Mc7 l [] _ hmay hl32
 have e4:dN b=(n,some []):=by unfold dN;rw[e3];exact Aq7 (by omega) (by omega) _
 refine⟨⟨by rw[e4],?_⟩,by rw[e2],by rw[e3],by rw[e4]⟩;rw[e3,e4];exact hn
def ReR(W:World)(D:HP)(rb bX b0:Nat)(L:List HP)(s:RS)(v:Value)(w:World):Prop:=
 (v=.I 0/\St W (rdX D rb s::blk bX [.I 0,.I 0,.I 0,.I 0] 29::blk b0 [.I 0,.I 0,.I 0,.I 0] 29::L) w) \/
 (v=.I 1/\St W (rdX D rb (j7 s).2::blk bX [.I (J8 s).x0,.I 0,.I 0,.I 0] 29::blk b0 [.I 0,.I 0,.I 0,.I 0] 29::L) w) \/
 (v=.I 2/\St W (rdX D rb (j7 (j7 s).2).2::blk bX [.I (J8 s).x0,.I (J8 s).x1,.I 0,.I 0] 29::blk b0 [.I 0,.I 0,.I 0,.I 0] 29::L) w) \/
 (v=.I 3/\St W (rdX D rb (j7 (j7 (j7 s).2).2).2::blk bX [.I (J8 s).x0,.I (J8 s).x1,.I (J8 s).x2,.I 0] 29::blk b0 [.I 0,.I 0,.I 0,.I 0] 29::L) w) \/
 (v=.I 4/\St W (rdX D rb (ag4 s)::blk bX [.I (J8 s).x0,.I (J8 s).x1,.I (J8 s).x2,.I (J8 s).x3] 29::blk b0 [.I 0,.I 0,.I 0,.I 0] 29::L) w)
def szR(s:RS)(n N:Nat):Prop:=match s with
 | none=>n<=N+1
 | some b=>n+b.length<=N
theorem RdOk.it{s:RS}(h:RdOk s):RdOk (ag4 s):=h.num.num.num.num
theorem RdOk.hs{s:RS}(h:RdOk s):RdOk (ce4 s):=h.bytes.it
theorem Pe7:RdOk none:=⟨fun l hl=>(by cases hl),fun l hl=>(by cases hl)⟩
theorem RdOk.cond{s:RS}(h:RdOk s)(c:Prop)[Decidable c]:RdOk (if c then s else none):=by
 split
 ·exact h
 ·exact Pe7
def ig4(l:List Hd)(k:ByteArray):Bool:=(l.getLast?).all fun y=>Op.bytesLess y.who.toList k.toList
def PuX(W:World)(D:HP)(rb:Nat)(L:List HP)(n N:Nat)(T:List Hd×RS)(v3 v5:Value)(w:World):Prop:=
 ∃(l:List Hd) (s:RS),v5=.I l.length/\l.length<=n/\RdOk s/\szR s l.length N/\dk4 (n-l.length) l s=T/\St W (rdX D rb s::hdR v3 l::L) w
theorem TK7{s:RS}(hb:BS s){l r:List Int}(hl:s=some l)(hr:(m8 s).2=some r):r.length<=l.length:=by have h:=(BX7 hb hr).1;rw[hl]at h;simp only[Option.some.injEq]at h;have h2:=congrArg List.length h;rw[jA]at h2;omega
theorem TL7{b r:List Int}(hb:RdOk (some b))(h:cA4 (some b)=some r):r.length+1<=b.length:=by unfold cA4 ag4 at h;obtain⟨l4,e4⟩:=Ar7 h;obtain⟨l3,e3⟩:=Ar7 e4;obtain⟨l2,e2⟩:=Ar7 e3;have e1:∃l1,aO4 (some b)=some l1:=Ar7 e2;obtain⟨l1,e1⟩:=e1;have hB:(m8 (j7 (some b)).2).2=some l1:=e1;obtain⟨l0,e0⟩:=AG7 hB;have k0:=EA7 hb.b e0 rfl;have k1:=TK7 hb.num.b e0 hB;have hok1:RdOk (aO4 (some b)):=hb.num.bytes;have k2:=DD7 hok1.b e1 e2;have k3:=DD7 hok1.num.b e2 e3;have k4:=DD7 hok1.num.num.b e3 e4;have k5:=DD7 hok1.num.num.num.b e4 h;omega
theorem UX7{b:List Int}{n N:Nat}(hb:RdOk (some b))(h:szR (some b) n N)(c:Prop)[Decidable c]:szR (if c then cA4 (some b)else none) (n+1) N:=by
 have h1:n+b.length<=N:=h;split
 ·cases hs:cA4 (some b)with
  | none=>show n+1<=N+1;omega
  | some r=>
   have:=TL7 hb hs;show n+1+r.length<=N
   omega
 ·show n+1<=N+1
  omega
theorem RdOk.os{s:RS}(h:RdOk s):RdOk (cA4 s):=h.num.bytes.it
def OdR(W:World)(D:HP)(rb:Nat)(L:List HP)(n N:Nat)(T:List Ord×RS)(v7 v8:Value)(w:World):Prop:=
 ∃(l:List Ord) (s:RS),v8=.I l.length/\l.length<=n/\RdOk s/\szR s l.length N/\dl4 (n-l.length) l s=T/\St W (rdX D rb s::j8 v7 l::L) w
theorem Rx7{W w:World}{v:Value}{l:List Ord}{oi ot oc op:Int}{ou:ByteArray}{oy:Bool}{R:List HP}(h:St W (row v 6 166 (l.length+1) (l.flatMap Ord.cells++[.I oi,.string ou,.bool oy,.I ot,.I oc,.I op])::R) w):St W (j8 v (l++[⟨oi,ou,oy,ot,oc,op⟩])::R) w:=by unfold j8;rw[jA,List.flatMap_append];exact h
theorem UY7{s:RS}(h:cV4 s=false):s≠some []:=by
 rintro rfl
 cases h
theorem TM7{s:RS}(h:cV4 s=true):s=some []:=by
 cases s with
 | none=>cases h
 | some l=>
  cases l with
  | nil=>rfl
  | cons x t=>cases h
end Go.Proofs.YtlmhakmoioogaaaGreat
end
section
namespace Go.Sl
open Go.RowKit
section
variable{P:Program}{ops:Array Oper}{Q:Exit->Act->World->Prop}{a:Act}{w:World}{W:World}{L R:List HP}{rest:List Oper}{o:Oper}
theorem Fz7{src dst e:TypeId}{x:Operand}{p:Option Addr}{c:Nat}(ho:o.op=.convert src dst x)(hg:Region.wanted o (yielded ops a.tmps)=true)(hx:a.eval x=.slice p 0 c)
  (hp:p=none->c=0) (hs:P.underlying src=some (.slice e)) (he:P.underlying e=some (.int .u8)) (hd:P.underlying dst=some .string)
  (h:wpList P ops Q rest (a.put o.dst (.string (E7 []))) w):wpList P ops Q (o::rest) a w:=by
 refine Aj7 hg (v:=.string (E7 [])) (w':=w) ?_ h
 cases p with
 | none=>
  obtain rfl:=hp rfl;unfold execOp;simp[ho,hx,run_convert_bytes_string w src dst e none 0 0 hs he hd,Conv.bytesToString,E7,Sem.run_pure]
 | some p=>
  have h1:(loadCells p 0).run P w=.ok (([]:List Int).map (Value.int .u8)).toArray w:=by simp[loadCells,loadCellsFrom]
  have h2:=run_bytesToString (P:=P) w p 0 c [] h1;unfold execOp;simp[ho,hx,run_convert_bytes_string w src dst e (some p) 0 c hs he hd,h2,E7]
theorem Jz7{src dst e:TypeId}{x:Operand}{b off n c:Nat}{ns:List Int}(hS:St W L w)(ho:o.op=.convert src dst x)(hg:Region.wanted o (yielded ops a.tmps)=true)(hx:a.eval x=.slice (some ⟨b,off,none⟩) n c)
  (hs:P.underlying src=some (.slice e)) (he:P.underlying e=some (.int .u8)) (hd:P.underlying dst=some .string) (hc:i8 L b off (ns.map (Value.int .u8))) (hn:n=ns.length)
  (h:wpList P ops Q rest (a.put o.dst (.string (E7 ns))) w):wpList P ops Q (o::rest) a w:=by
 refine Aj7 hg (v:=.string (E7 ns)) (w':=w) ?_ h;have h1:=run_loadCells_list (P:=P) w ⟨b,off,none⟩ (ns.map (Value.int .u8)) (fun j v hj=>by rw[Addr.add_lit];exact hc j v hj W w hS);rw[jM,<-hn]at h1;have h2:=run_bytesToString (P:=P) w ⟨b,off,none⟩ n c ns h1;unfold execOp;simp[ho,hx,run_convert_bytes_string w src dst e (some ⟨b,off,none⟩) n c hs he hd,h2,E7]
end
end Go.Sl
namespace Go.Proofs.YtlmhakmoioogaaaGreat
open Go.RowKit Go.Sl
section
variable{D:HP}{rb bI bS bB bO c:Nat}{s:RS}{W w:World}{R R':List HP}
theorem TN7(h:RdOk s)(ht:Take R D R')(hS:St W (rdG D rb s::blk bI [.I 0,.I 0,.I 0,.I 0] 29::blk bS [.P bI,.pointer (some ⟨bI,1,none⟩),.pointer (some ⟨bI,2,none⟩),.pointer (some ⟨bI,3,none⟩)] 262::R) w):
  Calls Tryz.prog 196 #[.P rb,.S bS 4 c] w fun e w'=>e=.returned (.tuple #[])/\St W (rdG D rb (ag4 s)::blk bI [.I (J8 s).x0,.I (J8 s).x1,.I (J8 s).x2,.I (J8 s).x3] 29::R) w':=by
 refine(LZ7 D rb s h [(bI,0),(bI,1),(bI,2),(bI,3)] (by simp) bS c (fun xs=>blk bI [.I (xs.getD 0 0),.I (xs.getD 1 0),.I (xs.getD 2 0),.I (xs.getD 3 0)] 29::blk bS [.P bI,.pointer (some ⟨bI,1,none⟩),.pointer (some ⟨bI,2,none⟩),.pointer (some ⟨bI,3,none⟩)] 262::R) ⟨?_,fun xs=>⟨_,.tail (.tail ht)⟩⟩ ?_ W w hS).mono ?_
 ·intro xs x hx
  match xs,hx with
  | [],_=>exact⟨_,_,by simp,by simp,.head⟩
  | [_],_=>exact⟨_,_,by simp,by simp,.head⟩
  | [_,_],_=>exact⟨_,_,by simp,by simp,.head⟩
  | [_,_,_],_=>exact⟨_,_,by simp,by simp,.head⟩
  | _::_::_::_::_,hx=>simp at hx;omega
 ·intro xs i hi
  match i,hi with
  | 0,_=>exact .there (.here rfl)
  | 1,_=>exact .there (.here rfl)
  | 2,_=>exact .there (.here rfl)
  | 3,_=>exact .there (.here rfl)
  | i+4,hi=>simp at hi;omega
 ·rintro e w' ⟨rfl,hS⟩;have hS2:St W (rdG D rb (ag4 s)::blk bI [.I (J8 s).x0,.I (J8 s).x1,.I (J8 s).x2,.I (J8 s).x3] 29::blk bS _ _::R) w':=hS;exact⟨rfl,hS2.s _⟩
theorem hv4(h:RdOk s)(ht:Take R D R')(hS:St W (rdG D rb s::blk bO [.I 0,.string ⟨#[]⟩,.bool false,.I 0,.I 0,.I 0] 166::blk bS [.P bO] 262::R) w):
  Calls Tryz.prog 196 #[.P rb,.S bS 1 c] w fun e w'=>e=.returned (.tuple #[])/\St W (rdG D rb (j7 s).2::blk bO [.I (j7 s).1,.string ⟨#[]⟩,.bool false,.I 0,.I 0,.I 0] 166::R) w':=by
 refine(LZ7 D rb s h [(bO,0)] (by simp) bS c (fun xs=>blk bO [.I (xs.getD 0 0),.string ⟨#[]⟩,.bool false,.I 0,.I 0,.I 0] 166::blk bS [.P bO] 262::R) ⟨?_,fun xs=>⟨_,.tail (.tail ht)⟩⟩ ?_ W w hS).mono ?_
 ·intro xs x hx
  match xs,hx with
  | [],_=>exact⟨_,_,by simp,by simp,.head⟩
  | _::_,hx=>simp at hx
 ·intro xs i hi
  match i,hi with
  | 0,_=>exact .there (.here rfl)
  | i+1,hi=>simp at hi
 ·rintro e w' ⟨rfl,hS⟩;have hS2:St W (rdG D rb (j7 s).2::blk bO [.I (j7 s).1,.string ⟨#[]⟩,.bool false,.I 0,.I 0,.I 0] 166::blk bS _ _::R) w':=hS;exact⟨rfl,hS2.s _⟩
theorem UZ7{oi:Int}{ou:ByteArray}(h:RdOk s)(ht:Take R D R')(hS:St W (rdG D rb s::blk bB [.I 0] 3::blk bO [.I oi,.string ou,.bool false,.I 0,.I 0,.I 0] 166::blk bS [.P bB,.pointer (some ⟨bO,3,none⟩),.pointer (some ⟨bO,4,none⟩),.pointer (some ⟨bO,5,none⟩)] 262::R) w):
  Calls Tryz.prog 196 #[.P rb,.S bS 4 c] w fun e w'=>e=.returned (.tuple #[])/\St W (rdG D rb (ag4 s)::blk bB [.I (J8 s).x0] 3::blk bO [.I oi,.string ou,.bool false,.I (J8 s).x1,.I (J8 s).x2,.I (J8 s).x3] 166::R) w':=by
 refine(LZ7 D rb s h [(bB,0),(bO,3),(bO,4),(bO,5)] (by simp) bS c (fun xs=>blk bB [.I (xs.getD 0 0)] 3::blk bO [.I oi,.string ou,.bool false,.I (xs.getD 1 0),.I (xs.getD 2 0),.I (xs.getD 3 0)] 166::blk bS [.P bB,.pointer (some ⟨bO,3,none⟩),.pointer (some ⟨bO,4,none⟩),.pointer (some ⟨bO,5,none⟩)] 262::R) ⟨?_,fun xs=>⟨_,.tail (.tail (.tail ht))⟩⟩ ?_ W w hS).mono ?_
 ·intro xs x hx
  match xs,hx with
  | [],_=>exact⟨_,_,by simp,by simp,.head⟩
  | [_],_=>exact⟨_,_,by simp,by simp,.tail .head⟩
  | [_,_],_=>exact⟨_,_,by simp,by simp,.tail .head⟩
  | [_,_,_],_=>exact⟨_,_,by simp,by simp,.tail .head⟩
  | _::_::_::_::_,hx=>simp at hx;omega
 ·intro xs i hi
  match i,hi with
  | 0,_=>exact .there (.there (.here rfl))
  | 1,_=>exact .there (.there (.here rfl))
  | 2,_=>exact .there (.there (.here rfl))
  | 3,_=>exact .there (.there (.here rfl))
  | i+4,hi=>simp at hi;omega
 ·rintro e w' ⟨rfl,hS⟩;have hS2:St W (rdG D rb (ag4 s)::blk bB [.I (J8 s).x0] 3::blk bO [.I oi,.string ou,.bool false,.I (J8 s).x1,.I (J8 s).x2,.I (J8 s).x3] 166::blk bS _ _::R) w':=hS;exact⟨rfl,hS2.s _⟩
end
theorem TO7{x y:List Int}(hx:ByB x)(hy:ByB y):((E7 x).toList==(E7 y).toList)=decide (x=y):=by
 by_cases h:x=y
 ·subst h;rw[Ce7.2 rfl];simp
 ·rw[show decide (x=y)=false by simpa using h];rw[<-Bool.not_eq_true,Ce7];intro e;exact h (by rw[<-BI7 hx,<-BI7 hy,e])
theorem KI7(D:HP)(a:Option Addr)(c:Nat)(b xs:List Int)(v:Value)(hat:At D a c b){r:Bool}(hr:((E7 xs).toList==(E7 b).toList)=r)(W w:World)(R R' R2:List HP)(ht:Take R D R')(hx:Take R (byR v xs) R2)(hS:St W R w):
  Calls Tryz.prog 93 #[v,.slice a b.length c] w fun e w'=>e=.returned (.bool r)/\St W R w':=by
 subst hr
 rcases hat with ⟨rfl,rfl,rfl⟩|⟨rfl,p,rfl⟩|⟨g,off,rfl,hD⟩
 ·go_enter Tryz.func93,Tryz.ntmps93;go_wp2_with(first|(with_reducible apply Fz7);rfl;rfl;rfl;(first|(intro _;rfl)|(intro h;cases h));exact Tryz.underlying63;exact Tryz.underlying5;exact Tryz.underlying9;refine frS ?_|(with_reducible apply AF7 (ns:=xs) hS);rfl;rfl;rfl;exact Tryz.underlying63;exact Tryz.underlying5;exact Tryz.underlying9;exact hx;refine frS ?_);go_ret;exact⟨rfl,hS⟩
 ·go_enter Tryz.func93,Tryz.ntmps93;go_wp2_with(first|(with_reducible apply Fz7);rfl;rfl;rfl;(first|(intro _;rfl)|(intro h;cases h));exact Tryz.underlying63;exact Tryz.underlying5;exact Tryz.underlying9;refine frS ?_|(with_reducible apply AF7 (ns:=xs) hS);rfl;rfl;rfl;exact Tryz.underlying63;exact Tryz.underlying5;exact Tryz.underlying9;exact hx;refine frS ?_);go_ret;exact⟨rfl,hS⟩
 ·go_enter Tryz.func93,Tryz.ntmps93;go_wp2_with(first|(with_reducible apply Jz7 (ns:=b) hS);rfl;rfl;rfl;exact Tryz.underlying63;exact Tryz.underlying5;exact Tryz.underlying9;exact hD _ _ ht;exact rfl;refine frS ?_|(with_reducible apply AF7 (ns:=xs) hS);rfl;rfl;rfl;exact Tryz.underlying63;exact Tryz.underlying5;exact Tryz.underlying9;exact hx;refine frS ?_);go_ret;exact⟨rfl,hS⟩
theorem Ch7{D:HP}{rb:Nat}{s s2:RS}{n:Int}(hn:j7 s=(n,s2))(h:RdOk s)(W w:World)(R R':List HP)(ht:Take R D R')(hS:St W (rdG D rb s::R) w):
  Calls Tryz.prog 154 #[.P rb] w fun e w'=>e=.returned (.I n)/\St W (rdG D rb s2::R) w':=by
 have h1:=ej4 D rb s h.b h.l W w R R' ht hS;rw[hn]at h1;exact h1
theorem BT7{D:HP}{rb:Nat}{s s1:RS}{x:List Int}(hn:m8 s=(x,s1))(h:RdOk s)(W w:World)(R R':List HP)(ht:Take R D R')(hS:St W (rdG D rb s::R) w):
  Calls Tryz.prog 151 #[.P rb] w fun e w'=>∃v,e=.returned v/\St W (byR v x::rdG D rb s1::R) w':=by
 have h1:=Ro7 D rb s h W w R R' ht hS;rw[hn]at h1;exact h1
theorem Va7{k:ByteArray}{r:Bool}(h:C8 k=r)(W w:World)(R:List HP)(hS:St W R w):
  Calls Tryz.prog 163 #[.string k] w fun e w'=>e=.returned (.bool r)/\St W R w':=h▸BQ7 k W w R hS
theorem Vb7{x0 x1 x2 x3:Int}{r:Bool}(h:x8 ⟨x0,x1,x2,x3⟩=r)(W w:World)(R:List HP)(hS:St W R w):
  Calls Tryz.prog 126 #[.agg #[.I x0,.I x1,.I x2,.I x3]] w fun e w'=>e=.returned (.bool r)/\St W R w':=h▸NM7 ⟨x0,x1,x2,x3⟩ W w R hS
theorem TP7(vb mb:Nat)(p:Ps)(k:ByteArray)(u1 u2:Value)(W w:World)(R:List HP)(x0 x1 x2 x3:Int)(hS:St W (blk vb [.map (some mb),u1,u2] 176::d8 eS eP mb p::R) w):
  Calls Tryz.prog 164 #[.P vb,.string k,.agg #[.I x0,.I x1,.I x2,.I x3]] w fun e w'=>e=.returned (.tuple #[])/\St W (blk vb [.map (some mb),u1,u2] 176::d8 eS eP mb (K7 p k ⟨x0,x1,x2,x3⟩)::R) w':=
 Bc7 vb mb p k u1 u2 W w R ⟨x0,x1,x2,x3⟩ hS
def VGk(b:List Int)(p:Ps)(l:List Ord)(n:Int):Prop:=∃s,gP b=some (p,s)/\(gO s).1=l/\gN s=(n,some [])/\OkN l n/\I5 p l n=b
def PgR(W:World)(D:HP)(rb vb mb bb:Nat)(L:List HP)(T:Option (Ps×RS))(v:Value)(w:World):Prop:=
 ∃(k:Nat) (p:Ps) (s:RS),v=.I k/\k<=4611686018427387904/\RdOk s/\szR s 0 990000/\cM4 k p s=T/\St W (rdG D rb s::blk vb [.map (some mb),.P bb,.I 1] 176::d8 eS eP mb p::L) w
theorem TQ7{b r:List Int}(h:RdOk (some b))(hs:szR (some b) 0 990000)(hr:ce4 (some b)=some r):szR (some r) 0 990000:=by
 have h1:=Pa7 (h.b b rfl) hr;have h2:0+b.length<=990000:=hs;show 0+r.length<=990000
 omega
theorem gr4{b:List Int}(h:RdOk (some b))(hs:szR (some b) 0 990000):szR (ce4 (some b)) 0 990000:=by
 cases hr:ce4 (some b)with
 | none=>exact Nat.zero_le _
 | some r=>exact TQ7 h hs hr
theorem DE7{D:HP}{rb:Nat}{l:List Int}(W w:World)(R:List HP)(hS:St W (rdG D rb (some l)::R) w):
  Calls Tryz.prog 157 #[.P rb] w fun e w'=>e=.returned (.bool true)/\St W (rdG D rb (some l)::R) w':=LW7 D rb (some l) W w R hS
theorem FU7{D:HP}{rb:Nat}{s:RS}{r:Bool}(h:cV4 s=r)(W w:World)(R:List HP)(hS:St W (rdG D rb s::R) w):
  Calls Tryz.prog 92 #[.P rb] w fun e w'=>e=.returned (.bool r)/\St W (rdG D rb s::R) w':=h▸TD7 D rb s W w R hS
def OgR(W:World)(D:HP)(rb:Nat)(L:List HP)(T:List Ord×RS)(v9 v10:Value)(w:World):Prop:=
 ∃(k:Nat) (l:List Ord) (s:RS),v10=.I k/\k<=4611686018427387904/\RdOk s/\szR s l.length 990000/\dA4 k l s=T/\St W (rdG D rb s::j8 v9 l::L) w
theorem Md7{b:List Int}{p:Ps}{s:RS}(h:gP b=some (p,s))(h2:(gO s).2=none):∀p l n,¬VGk b p l n:=by
 rintro p2 l n ⟨s2,h3,_,h5,_⟩;rw[h]at h3
 cases h3
 unfold gN at h5;rw[h2]at h5
 cases h5
theorem Me7:∀f u,u<128^(f+1)->ByB (aU4 f u)
 | 0,u,hu=>by intro c hc;rw[show aU4 0 u=[(u:Int)]from rfl,List.mem_singleton]at hc;subst hc;simp at hu;omega
 | f+1,u,hu=>by
  rw[aU4];split
  ·intro c hc
   rcases List.mem_cons.1 hc with rfl|hc
   ·omega
   ·exact Me7 f (u / 128) (Nat.div_lt_of_lt_mul (by rw[Nat.pow_succ]at hu;omega)) c hc
  ·intro c hc;rw[List.mem_singleton]at hc;omega
theorem AC7{s t:List Int}(h:ByB s)(h2:ByB t):ByB (s++t):=fun c hc=>(List.mem_append.1 hc).elim (h c) (h2 c)
theorem Az7(n:Int):ByB (m6 n):=Me7 _ _ (Fm7 (Ij7 n))
theorem AD7{α:Type}{f:α->List Int}(h:∀x,ByB (f x)):∀l:List α,ByB (l.flatMap f)
 | []=>fun c hc=>(by cases hc)
 | x::l=>by rw[List.flatMap_cons];exact AC7 (h x) (AD7 h l)
theorem Mf7(u:ByteArray):ByB (C9 u):=AC7 (Az7 _) (DC7 u)
theorem DF7(p:Ps)(l:List Ord)(n:Int):ByB (I5 p l n):=AC7 (AC7 (AC7 (AC7 (Az7 _) (AD7 (fun h=>AC7 (Mf7 _) (AD7 Az7 _)) _)) (Az7 _)) (AD7 (fun o=>AC7 (AC7 (Az7 _) (Mf7 _)) (AD7 Az7 _)) _)) (Az7 _)
theorem Pf7{b:List Int}(h:gP b=none):∀p l n,¬VGk b p l n:=by
 rintro p2 l n ⟨s2,h3,_⟩;rw[h]at h3
 cases h3
theorem Cz7{b:List Int}{p p2:Ps}{l l2:List Ord}{n n2:Int}{s s9:RS}(h:VGk b p2 l2 n2)(hg:gP b=some (p,s))(ho:(gO s).1=l)(hn:gN s=(n,s9)):s9=some []/\OkN l n/\I5 p l n=b:=by
 obtain⟨s2,h1,h2,h3,h4,h5⟩:=h;rw[hg]at h1
 cases h1
 rw[ho]at h2;subst h2;rw[hn]at h3
 cases h3
 exact⟨rfl,h4,h5⟩
theorem Pg7{l:List Ord}{n:Int}(h:¬cv4 l)(hl:l.length<=10000000)(hla:aC4 l l.length<n)(v:Value)(W w:World)(R:List HP)(hS:St W (j8 v l::R) w):
  Calls Tryz.prog 167 #[v] w fun e w'=>∃bb,e=.returned (.tuple #[.P bb,.I 0])/\(l.length<=32/\dj4 l l.length)/\St W (w7 bb l n::R) w':=by
 refine(Ot7 l v W w R hl hS).mono ?_;rintro e w' (⟨h1,_⟩|⟨h1,h2,bb,b,h3,h4,h5,h6⟩)
 ·exact absurd h1 h
 ·exact⟨bb,h3,⟨h1,h2⟩,ba4 h4 (by rw[h5];exact hla) h6⟩
theorem Ry7(l:List Ord):∀k,0<k->aC4 l k=(at' l (k-1)).id
 | _+1,_=>rfl
theorem Ph7{l:List Ord}(h:0<l.length):aC4 l l.length=(l[l.length-1]).id:=by rw[Ry7 l _ h,w5 (by omega)]
theorem Pi7(k:Nat)(l:List Ord):dA4 k l none=(l,none):=by cases k <;> rfl
theorem Pj7(k:Nat)(p:Ps):cM4 k p none=some (p,none):=by cases k <;> rfl
theorem TR7:gO none=([],none):=rfl
end Go.Proofs.YtlmhakmoioogaaaGreat
end
section
namespace Go.Proofs.YtlmhakmoioogaaaGreat
open Go.Joins Go.ChangeShapes Go.WideShapes Go.RowKit Go.Deep Go.Sl
def hw4(w:World)(v:Value)(zs:List Int):Prop:=
 ByB zs/\∃a c,v=.slice a zs.length c/\zs.length<=c/\c<=9223372036854775807/\At (Old w) a c zs
end Go.Proofs.YtlmhakmoioogaaaGreat
end
section
namespace Go.Proofs.YtlmhakmoioogaaaGreat
open Go.RowKit Go.Sl
theorem Rz7{b:List Int}{p p2:Ps}{l l2:List Ord}{n n2:Int}(h:VGk b p l n)(h2:VGk b p2 l2 n2):p2=p/\l2=l/\n2=n:=by
 obtain⟨s,a1,a2,a3,a4,a5⟩:=h;obtain⟨s2,b1,b2,b3,b4,b5⟩:=h2;rw[a1]at b1
 cases b1
 rw[a2]at b2;rw[a3]at b3
 cases b3
 exact⟨rfl,b2.symm,rfl⟩
section
variable{D0:HP}{a:Option Addr}{c:Nat}{b:List Int}{W w:World}{R R':List HP}
end
theorem RA7(D0:HP)(a:Option Addr)(c:Nat)(b:List Int)(hat:At D0 a c b)(hb:ByB b)(hN:b.length<=990000)(hG:∃p l n,VGk b p l n)(W w:World)(R R':List HP)(ht:Take R D0 R')(hS:St W R w):
  Calls Tryz.prog 152 #[.slice a b.length c] w fun e w'=>∃p l n,VGk b p l n/\∃vb mb bb,e=.returned (.tuple #[.P vb,.I 0])/\St W (B7 vb mb bb p l n R) w':=by
 have hok:RdOk (some b):=⟨fun l hl=>by cases hl;exact hb,fun l hl=>by cases hl;omega⟩
 have HG:=jH hG;clear hG;have Hok:=jH hok;clear hok;go_enter Tryz.func152,Tryz.ntmps152;go_wp2_with(first|go_at_call 162;refine(Jg7 W _ _ hS).mono ?_;clear hS;rintro e w ⟨vb,mb,bb,rfl,hS⟩|go_at_call 86;refine(OU7 D0 a c b hat (by omega) W _ _ _ (by(focus((repeat(first|exact ht|apply Take.tail));done))) hS).mono ?_;clear hS;rintro e w ⟨dv,rb,rfl,hS⟩;(have hv:=hS.drop.rowVal;obtain⟨da,dc,rfl⟩:=hv)|(fail_if_success (have:=m1));go_at_call 154;refine(ej4 _ rb (some b) Hok.out.b Hok.out.l W _ _ _ (.tail (.tail (.tail .head))) (hS.s (rdG _ rb (some b)::blk vb _ _::d8 eS eP mb []::w7 bb [] 1::byR _ b::R))).mono ?_;clear hS;have m1:Nat:=0;rintro e w ⟨rfl,hS⟩);have hr:=Cg7 (some b);have hT0:cM4 (j7 (some b)).1.toNat [] (j7 (some b)).2=gP b:=rfl;have hok2:=Hok.out.num
 have hsz2:szR (j7 (some b)).2 0 990000:=by
  cases hs:(j7 (some b)).2 with
  | none=>exact Nat.zero_le _
  | some r=>
   have:=EA7 Hok.out.b hs rfl;show 0+r.length<=990000
   omega
 generalize j7 (some b)=q at hS hr hT0 hok2 hsz2 ⊢;obtain⟨n2,s2⟩:=q;simp only at hS hr hT0 hok2 hsz2;obtain⟨m,rfl⟩:∃m:Nat,n2=m:=⟨n2.toNat,by omega⟩
 have hm:m<=4611686018427387904:=by omega
 obtain⟨D,hD⟩:∃D,D=byR (.slice da b.length dc) b:=⟨_,rfl⟩
 rw[<-hD]at hS;have hS1:=hS.s (rdG D rb s2::blk vb _ _::d8 eS eP mb []::D::R);clear hS;have hS:=hS1;have HT0:=jH hT0;have Hok2:=jH hok2;have Hsz2:=jH hsz2;clear hr hT0 hok2 hsz2 hS1 hD
 go_loopw [6] (fun v wr=>PgR W D rb vb mb bb (D::R) (gP b) v wr) (fun v _=>(intOf v).toNat)
 case atStart=>exact⟨m,[],s2,rfl,hm,Hok2.out,Hsz2.out,HT0.out,hS⟩
 case round=>
  clear hS Hok2 HT0 Hsz2 hm;obtain⟨k,p,s,rfl,hk,hok,hsz,hT,hS⟩:=hrel;have Hsz:=jH hsz;have Hok1:=jH hok;have HT:=jH hT;clear hok hT hsz
  cases s with
  | none=>
   have hT2:=HT.out;rw[Pj7]at hT2;have Hno:=jH (Md7 hT2.symm (by rw[TR7]));obtain⟨p9,l9,n9,h9⟩:=HG.out;exact absurd h9 (Hno.out p9 l9 n9)
  | some b2=>
   by_cases hk0:k=0
   ·subst hk0;have hg:=HT.out;rw[cM4]at hg;have Hg:=jH hg.symm;have hr:=Cg7 (some b2);have hT0:dA4 (j7 (some b2)).1.toNat [] (j7 (some b2)).2=gO (some b2):=rfl;have hok2:=Hok1.out.num
    have hsz2:szR (j7 (some b2)).2 0 990000:=by
     have h9:0+b2.length<=990000:=Hsz.out
     cases hs:(j7 (some b2)).2 with
     | none=>exact Nat.zero_le _
     | some r=>
      have:=EA7 Hok1.out.b hs rfl;show 0+r.length<=990000
      omega
    obtain⟨⟨n2,s2⟩,q2⟩:∃y,j7 (some b2)=y:=⟨_,rfl⟩
    rw[q2]at hr hT0 hok2 hsz2;simp only at hr hT0 hok2 hsz2;obtain⟨m,rfl⟩:∃m:Nat,n2=m:=⟨n2.toNat,by omega⟩
    have hm:m<=4611686018427387904:=by omega
    have E2:=jH q2;have K0:=jH Hok1.out;have HT0:=jH hT0;have Hok2:=jH hok2;have Hsz2:=jH hsz2;generalize hTT:gO (some b2)=T at HT0;have HTT:=jH hTT;clear hr hT0 hok2 hsz2 q2 hg hTT;go_wp2_with(first|go_at_call 154;refine(Ch7 E2.out K0.out W _ _ _ (by(focus((repeat(first|exact .head|apply Take.tail));done))) hS).mono ?_;clear hS;rintro e w ⟨rfl,hS⟩);have hS1:=(hS.rowNil (k:=6) (T:=166)).swap;clear hS;have hS:=hS1;clear hS1
    go_loopw [9,10] (fun v9 v10 wr=>OgR W D rb (blk vb [.map (some mb),.P bb,.I 1] 176::d8 eS eP mb p::D::R) T v9 v10 wr) (fun _ v10 _=>(intOf v10).toNat)
    case atStart=>exact⟨m,[],s2,rfl,hm,Hok2.out,Hsz2.out,HT0.out,hS⟩
    case round=>
     clear hS K0 E2 HT0 Hok2 Hsz2 hm;obtain⟨k,l,s,rfl,hk,hok,hsz,hT,hS⟩:=hrel;unfold j8 at hS;obtain⟨va,vc,rfl⟩:=hS.drop.rowVal;have hS1:St W (rdG D rb s::j8 (.slice va l.length vc) l::_) _:=hS;clear hS;have hS:=hS1;clear hS1;have K0:=jH hok;have Hsz3:=jH hsz;have HT3:=jH hT
     have hl1:l.length<=990001:=by
      cases s with
      | none=>exact hsz
      | some b3=>have h9:l.length+b3.length<=990000:=hsz;omega
     clear hok hsz hT
     cases s with
     | none=>
      have hT4:=HT3.out;rw[Pi7]at hT4;have Hno:=jH (Md7 Hg.out (by rw[HTT.out,<-hT4]));obtain⟨p9,l9,n9,h9⟩:=HG.out;exact absurd h9 (Hno.out p9 l9 n9)
     | some b3=>
      by_cases hk0:k=0
      ·subst hk0;have hT4:=HT3.out;rw[dA4]at hT4;obtain⟨⟨n,s9⟩,q9⟩:∃y,j7 (some b3)=y:=⟨_,rfl⟩
       have Hgn:=jH (show gN (some b2)=(n,s9)by unfold gN;rw[HTT.out,<-hT4];exact q9);have Hgo:=jH (show(gO (some b2)).1=l by rw[HTT.out,<-hT4]);have E9:=jH q9;have Hpi:=jH (ft4 hb Hg.out).1;clear hT4 q9
       cases he:cV4 s9 with
       | false=>
        have Hno:=jH (fun p l n h=>UY7 he (Cz7 h Hg.out Hgo.out Hgn.out).1:∀p l n,¬VGk b p l n);obtain⟨p9,l9,n9,h9⟩:=HG.out;exact absurd h9 (Hno.out p9 l9 n9)
       | true=>
        obtain rfl:=TM7 he;have He:=jH he;clear he;by_cases c1:n<1
        ·have hd5:decide (n<1)=true:=by simpa using c1
         have Hno:=jH (fun p l n h=>absurd (Cz7 h Hg.out Hgo.out Hgn.out).2.1.n0 (by omega):∀p l n,¬VGk b p l n);obtain⟨p9,l9,n9,h9⟩:=HG.out;exact absurd h9 (Hno.out p9 l9 n9)
        ·have hd5:decide (n<1)=false:=by simpa using c1
         by_cases c2:1099511627777<n
         ·have hd6:decide (1099511627777<n)=true:=by simpa using c2
          have Hno:=jH (fun p l n h=>absurd (Cz7 h Hg.out Hgo.out Hgn.out).2.1.n1 (by omega):∀p l n,¬VGk b p l n);obtain⟨p9,l9,n9,h9⟩:=HG.out;exact absurd h9 (Hno.out p9 l9 n9)
         ·have hd6:decide (1099511627777<n)=false:=by simpa using c2
          by_cases c3:l.length=0
          ·have hd7:decide (0<l.length)=false:=by rw[c3];rfl
           have Hla:=jH (show aC4 l l.length<n by rw[c3];show(0:Int)<n;omega);clear c3;go_wp2_with(first|go_at_call 154;refine(Ch7 E9.out K0.out W _ _ _ (by(focus((repeat(first|exact .head|apply Take.tail));done))) hS).mono ?_;clear hS;rintro e w ⟨rfl,hS⟩|refine zs1 hS ?_;clear hS;intro w hS);refine Aa7 (by kernel_rfl) (by kernel_rfl) hS ?_
           repeat(first|go_big_quiet_skip|refine zq1 ?_|refine zqn ?_|apply At7;rfl;intro w;apply Ag7;rfl;decide +kernel;(focus(simp only[fD,fI,fJ,Act.eval,fE,fF,fG,fH,fK];try rfl));intro w hS;exact FU7 He.out W w _ hS;refine frS ?_|refine qR ?_)
           clear hS;intro w hS;by_cases hR:cv4 l
           ·have HR:=jH hR;have Hno:=jH (fun p l n h=>Gy7 (Cz7 h Hg.out Hgo.out Hgn.out).2.1.few (Cz7 h Hg.out Hgo.out Hgn.out).2.1.ok hR:∀p l n,¬VGk b p l n);obtain⟨p9,l9,n9,h9⟩:=HG.out;exact absurd h9 (Hno.out p9 l9 n9)
           ·have HR:=jH hR;clear hR;by_cases hE:I5 p l n=b
            ·have Heq:=jH (show((E7 (I5 p l n)).toList==(E7 b).toList)=true by rw[hE];exact Ce7.2 rfl);have HE:=jH hE;clear hE;go_wp2_with(first|go_at_call 167;refine(Pg7 HR.out (by omega) Hla.out _ W _ _ (hS.s (j8 _ l::blk vb _ _::d8 eS eP mb p::R))).mono ?_;clear hS;rintro e w ⟨bk,rfl,hok9,hS⟩;have Hok9:=jH hok9;clear hok9|refine zs1 hS ?_;clear hS;intro w hS|go_at_call 67;refine(dy4 vb mb bk p l n Hpi.out.ok Hpi.out.w (by omega) (by omega) (by omega) W _ _ (hS.s (blk vb _ _::d8 eS eP mb p::w7 bk l n::R))).mono ?_;clear hS;rintro e w ⟨ev,rfl,hS⟩|go_at_call 93;refine(KI7 D0 a c b (I5 p l n) ev hat Heq.out W _ _ _ _ (.tail (.tail (.tail (.tail ht)))) .head hS).mono ?_;clear hS;rintro e w ⟨rfl,hS⟩);go_ret2;exact⟨p,l,n,⟨_,Hg.out,Hgo.out,Hgn.out,⟨Hok9.out.1,Hok9.out.2,Hla.out,by omega,by omega⟩,HE.out⟩,vb,mb,bk,rfl,hS.drop⟩
            ·have Heq:=jH (show((E7 (I5 p l n)).toList==(E7 b).toList)=false by rw[<-Bool.not_eq_true,Ce7];intro e;exact hE (by rw[<-BI7 (DF7 p l n),<-BI7 hb,e]));have Hno:=jH (fun p l n h=>hE (Cz7 h Hg.out Hgo.out Hgn.out).2.2:∀p l n,¬VGk b p l n);obtain⟨p9,l9,n9,h9⟩:=HG.out;exact absurd h9 (Hno.out p9 l9 n9)
          ·have hpos:0<l.length:=by omega
           have hd7:decide (0<l.length)=true:=by simpa using hpos
           obtain⟨⟨g,rfl⟩,_,_⟩:=St.rowAddr (show St W (row (.slice va l.length vc) 6 166 l.length (l.flatMap Ord.cells)::_) _ from hS.drop) hpos;have hlast:∀{K K':List HP},Take K (j8 (.S g l.length vc) l) K'->i9 K g ((l.length-1)*6) (.I (l[l.length-1]'(by omega)).id):=fun hu=>i8.elemM (enc:=Ord.cells) Ord.len hu (by omega) 0 _ rfl
           have hla:=Ph7 hpos;generalize (l[l.length-1]'(by omega)).id=la at hlast hla;by_cases c4:n<=la
           ·have hd8:decide (n<=la)=true:=by simpa using c4
            have Hno:=jH (fun p l n h=>absurd (Cz7 h Hg.out Hgo.out Hgn.out).2.1.last (by rw[hla];omega):∀p l n,¬VGk b p l n);obtain⟨p9,l9,n9,h9⟩:=HG.out;exact absurd h9 (Hno.out p9 l9 n9)
           ·have hd8:decide (n<=la)=false:=by simpa using c4
            have Hla:=jH (show aC4 l l.length<n by rw[hla];omega);clear hla;go_wp2_with(first|go_at_call 154;refine(Ch7 E9.out K0.out W _ _ _ (by(focus((repeat(first|exact .head|apply Take.tail));done))) hS).mono ?_;clear hS;rintro e w ⟨rfl,hS⟩|refine zs1 hS ?_;clear hS;intro w hS);refine Aa7 (by kernel_rfl) (by kernel_rfl) hS ?_
            repeat(first|refine zq1 ?_|apply As7;rfl;rfl;rfl;decide +kernel;exact hlast (.tail .head);refine frS ?_|refine zqn ?_|apply At7;rfl;intro w;apply Ag7;rfl;decide +kernel;(focus(simp only[fD,fI,fJ,Act.eval,fE,fF,fG,fH,fK];try rfl));intro w hS;exact FU7 He.out W w _ hS;refine frS ?_|refine qR ?_)
            clear hS;intro w hS;by_cases hR:cv4 l
            ·have HR:=jH hR;have Hno:=jH (fun p l n h=>Gy7 (Cz7 h Hg.out Hgo.out Hgn.out).2.1.few (Cz7 h Hg.out Hgo.out Hgn.out).2.1.ok hR:∀p l n,¬VGk b p l n);obtain⟨p9,l9,n9,h9⟩:=HG.out;exact absurd h9 (Hno.out p9 l9 n9)
            ·have HR:=jH hR;clear hR;by_cases hE:I5 p l n=b
             ·have Heq:=jH (show((E7 (I5 p l n)).toList==(E7 b).toList)=true by rw[hE];exact Ce7.2 rfl);have HE:=jH hE;clear hE;go_wp2_with(first|go_at_call 167;refine(Pg7 HR.out (by omega) Hla.out _ W _ _ (hS.s (j8 _ l::blk vb _ _::d8 eS eP mb p::R))).mono ?_;clear hS;rintro e w ⟨bk,rfl,hok9,hS⟩;have Hok9:=jH hok9;clear hok9|refine zs1 hS ?_;clear hS;intro w hS|go_at_call 67;refine(dy4 vb mb bk p l n Hpi.out.ok Hpi.out.w (by omega) (by omega) (by omega) W _ _ (hS.s (blk vb _ _::d8 eS eP mb p::w7 bk l n::R))).mono ?_;clear hS;rintro e w ⟨ev,rfl,hS⟩|go_at_call 93;refine(KI7 D0 a c b (I5 p l n) ev hat Heq.out W _ _ _ _ (.tail (.tail (.tail (.tail ht)))) .head hS).mono ?_;clear hS;rintro e w ⟨rfl,hS⟩);go_ret2;exact⟨p,l,n,⟨_,Hg.out,Hgo.out,Hgn.out,⟨Hok9.out.1,Hok9.out.2,Hla.out,by omega,by omega⟩,HE.out⟩,vb,mb,bk,rfl,hS.drop⟩
             ·have Heq:=jH (show((E7 (I5 p l n)).toList==(E7 b).toList)=false by rw[<-Bool.not_eq_true,Ce7];intro e;exact hE (by rw[<-BI7 (DF7 p l n),<-BI7 hb,e]));have Hno:=jH (fun p l n h=>hE (Cz7 h Hg.out Hgo.out Hgn.out).2.2:∀p l n,¬VGk b p l n);obtain⟨p9,l9,n9,h9⟩:=HG.out;exact absurd h9 (Hno.out p9 l9 n9)
      ·obtain⟨k,rfl⟩:∃k',k=k'+1:=⟨k-1,by omega⟩
       have hT4:=HT3.out;rw[dA4]at hT4;have k1:=K0.out.num;have hst:=UX7 K0.out Hsz3.out True;rw[if_pos trivial]at hst;have k9:=K0.out.os;have hq1:rdO (some b3)=⟨(j7 (some b3)).1,E7 (m8 (j7 (some b3)).2).1,decide ((J8 (aO4 (some b3))).x0=1),(J8 (aO4 (some b3))).x1,(J8 (aO4 (some b3))).x2,(J8 (aO4 (some b3))).x3⟩:=rfl;obtain⟨⟨oi,s1⟩,q1⟩:∃y,j7 (some b3)=y:=⟨_,rfl⟩
       obtain⟨⟨x,s2⟩,q2⟩:∃y,m8 s1=y:=⟨_,rfl⟩
       obtain⟨i,hi⟩:∃i,J8 s2=i:=⟨_,rfl⟩
       obtain⟨u,hu⟩:∃u,E7 x=u:=⟨_,rfl⟩
       have o1:aO4 (some b3)=s2:=by unfold aO4;rw[q1];simp only;rw[q2]
       have o3:cA4 (some b3)=ag4 s2:=by unfold cA4;rw[o1]
       have o4:rdO (some b3)=⟨oi,u,decide (i.x0=1),i.x1,i.x2,i.x3⟩:=by rw[hq1,o1,hi,q1];simp only;rw[q2];simp only;rw[hu]
       rw[o4,o3]at hT4;rw[o3]at hst k9;rw[q1]at k1;have k2:RdOk s2:=by have:=RdOk.bytes k1;rw[q2]at this;exact this
       obtain⟨y0,y1,y2,y3⟩:=i;simp only at hT4;have E1:=jH q1;have E2:=jH q2;have Hi:=jH hi;have Hu:=jH hu;have K1:=jH k1;have K2:=jH k2;have K9:=jH k9;have Hst:=jH hst;have HT4:=jH hT4;clear q1 q2 hi hu k1 k2 k9 hst hT4 o1 o3 o4 hq1 hk0;go_wp2_with(first|go_at_call 157;refine(DE7 W _ _ hS).mono ?_;clear hS;rintro e w ⟨rfl,hS⟩|(fail_if_success (have:=mO));(with_reducible apply Al7 hS);rfl;rfl;exact zsS;clear hS;have mO:Nat:=0;intro bO w hS;refine frS ?_|(have:=mO);(with_reducible apply Al7 hS);rfl;rfl;exact zsS;clear hS;intro bB w hS;refine frS ?_|refine zbs hS ?_;clear hS;intro bS w hS|(fail_if_success (have:=mI));go_at_call 196;have hS2:=hS.s (rdG D rb (some b3)::blk bO _ _::blk bS _ _::blk bB _ _::j8 _ l::blk vb _ _::d8 eS eP mb p::D::R);refine(hv4 K0.out (by(focus((repeat(first|exact .head|apply Take.tail));done))) hS2).mono ?_;clear hS hS2;rw[E1.out];have mI:Nat:=0;rintro e w ⟨rfl,hS⟩|go_at_call 151;refine(BT7 E2.out K1.out W _ _ _ (by(focus((repeat(first|exact .head|apply Take.tail));done))) hS).mono ?_;clear hS;rintro e w ⟨v,rfl,hS⟩|(with_reducible apply AF7 (ns:=x) hS);rfl;rfl;rfl;exact Tryz.underlying63;exact Tryz.underlying5;exact Tryz.underlying9;exact j5;rw[Hu.out];refine frS ?_|(have:=mI);go_at_call 196;have hS2:=hS.s (rdG D rb s2::blk bB _ _::blk bO _ _::blk bS _ _::j8 _ l::blk vb _ _::d8 eS eP mb p::D::R);refine(UZ7 K2.out (by(focus((repeat(first|exact .head|apply Take.tail));done))) hS2).mono ?_;clear hS hS2;rw[Hi.out];rintro e w ⟨rfl,hS⟩|refine zl1 hS ?_|refine zlN hS ?_|refine zs1 hS ?_;clear hS;intro w hS|(with_reducible apply Ae7 hS);rfl;rfl;rfl;rfl;exact esS;exact rsS;rfl;decide;exact j5;exact Src.mk i8.whole;(focus(try rfl));rfl;(focus(unfold maxLen;omega));(focus(omega));clear hS;intro v w hS;refine frS ?_)
       have hS3:=hS.s (row v 6 166 (l.length+1) _::rdG D rb (ag4 s2)::blk vb _ _::d8 eS eP mb p::D::R);go_roundw
       case rel=>exact⟨k,l++[⟨oi,u,decide (y0=1),y1,y2,y3⟩],ag4 s2,by simp,by omega,K9.out,by rw[jA];exact Hst.out,HT4.out,(Rx7 hS3).swap⟩
       case measure=>simp[intOf]
   ·obtain⟨k,rfl⟩:∃k',k=k'+1:=⟨k-1,by omega⟩
    have hT2:=HT.out;rw[cM4]at hT2;have hst:=gr4 Hok1.out Hsz.out;have k0:=Hok1.out;have k1:=Hok1.out.bytes;have k9:=Hok1.out.hs;obtain⟨⟨x,s1⟩,q2⟩:∃y,m8 (some b2)=y:=⟨_,rfl⟩
    rw[q2]at k1;obtain⟨i,hi⟩:∃i,J8 s1=i:=⟨_,rfl⟩
    obtain⟨u,hu⟩:∃u,E7 x=u:=⟨_,rfl⟩
    have e1:rdH (some b2)=⟨u,i⟩:=by unfold rdH;rw[q2];simp only;rw[hu,hi]
    have e2:ce4 (some b2)=ag4 s1:=by unfold ce4;rw[q2]
    rw[e1,e2]at hT2;rw[e2]at hst k9;obtain⟨x0,x1,x2,x3⟩:=i;simp only at hT2;have E2:=jH q2;have K0:=jH k0;have K1:=jH k1;have K9:=jH k9;have Hi:=jH hi;have Hu:=jH hu;have HT2:=jH hT2;have Hst:=jH hst;clear q2 k0 k1 k9 hi hu hT2 hst e1 e2 hk0
    cases hw:C8 u with
    | false=>
     have h7:=HT2.out;rw[hw,if_neg (by simp)]at h7;have Hno:=jH (Pf7 h7.symm);obtain⟨p9,l9,n9,h9⟩:=HG.out;exact absurd h9 (Hno.out p9 l9 n9)
    | true=>
     cases hit:x8 ⟨x0,x1,x2,x3⟩with
     | false=>
      have h7:=HT2.out;rw[hw,hit,if_neg (by simp)]at h7;have Hno:=jH (Pf7 h7.symm);obtain⟨p9,l9,n9,h9⟩:=HG.out;exact absurd h9 (Hno.out p9 l9 n9)
     | true=>
      have h7:=HT2.out;rw[hw,hit,if_pos (by rfl)]at h7;have H7:=jH h7;have Hk:=jH hw;have Hit:=jH hit;clear h7 hw hit;go_wp2_with(first|go_at_call 157;refine(DE7 W _ _ hS).mono ?_;clear hS;rintro e w ⟨rfl,hS⟩|go_at_call 151;refine(BT7 E2.out K0.out W _ _ _ (by(focus((repeat(first|exact .head|apply Take.tail));done))) hS).mono ?_;clear hS;rintro e w ⟨v,rfl,hS⟩|(with_reducible apply AF7 (ns:=x) hS);rfl;rfl;rfl;exact Tryz.underlying63;exact Tryz.underlying5;exact Tryz.underlying9;exact j5;rw[Hu.out];refine frS ?_|(with_reducible apply Al7 hS);rfl;rfl;exact zsS;clear hS;intro bI w hS;refine frS ?_|refine zbs hS ?_;clear hS;intro bS w hS|go_at_call 196;have hS2:=hS.s (rdG D rb s1::blk bI _ _::blk bS _ _::blk vb _ _::d8 eS eP mb p::D::R);refine(TN7 K1.out (by(focus((repeat(first|exact .head|apply Take.tail));done))) hS2).mono ?_;clear hS hS2;rw[Hi.out];rintro e w ⟨rfl,hS⟩|go_at_call 163;refine(Va7 Hk.out W _ _ hS).mono ?_;clear hS;rintro e w ⟨rfl,hS⟩|refine zlN hS ?_|go_at_call 126;refine(Vb7 Hit.out W _ _ hS).mono ?_;clear hS;rintro e w ⟨rfl,hS⟩|go_at_call 164;refine(TP7 vb mb p u _ _ W _ _ x0 x1 x2 x3 (hS.s (blk vb _ _::d8 eS eP mb p::rdG D rb _::D::R))).mono ?_;clear hS;rintro e w ⟨rfl,hS⟩);go_roundw
      case rel=>exact⟨k,K7 p u ⟨x0,x1,x2,x3⟩,ag4 s1,by simp,by omega,K9.out,Hst.out,H7.out,hS.s _⟩
      case measure=>simp[intOf]
theorem Vc7{D0:HP}{a:Option Addr}{c:Nat}{b:List Int}{W w:World}{R R':List HP}{p:Ps}{l:List Ord}{n:Int}(h:VGk b p l n)(hat:At D0 a c b)(hb:ByB b)(hN:b.length<=990000)(ht:Take R D0 R')(hS:St W R w):
  Calls Tryz.prog 152 #[.slice a b.length c] w fun e w'=>∃vb mb bb,e=.returned (.tuple #[.P vb,.I 0])/\St W (B7 vb mb bb p l n R) w':=by
 refine(RA7 D0 a c b hat hb hN ⟨p,l,n,h⟩ W w R R' ht hS).mono ?_;rintro e w' ⟨p2,l2,n2,h2,vb,mb,bb,h3,h4⟩;obtain⟨rfl,rfl,rfl⟩:=Rz7 h h2;exact⟨vb,mb,bb,h3,h4⟩
section
variable{κ ν:Type}[DecidableEq κ]
theorem EB7(k:κ)(v:ν)(l:List (κ×ν))(x:κ):m7 ((k,v)::l) x=if k=x then some v else m7 l x:=by
 unfold m7;rw[List.find?_cons];by_cases h:k=x
 ·rw[if_pos h];simp[h]
 ·rw[if_neg h];simp[h]
theorem RB7(l:List (κ×ν))(k x:κ):m7 (j9 l k) x=if x=k then none else m7 l x:=by
 by_cases h:x=k
 ·rw[if_pos h];refine HS7 fun y hy=>?_
  have:=(List.mem_filter.1 hy).2;rw[h];simpa using this
 ·rw[if_neg h]
  induction l with
  | nil=>rfl
  | cons y l ih=>
   obtain⟨a,b⟩:=y;have e:j9 ((a,b)::l) k=if a=k then j9 l k else(a,b)::j9 l k:=by unfold j9;rw[List.filter_cons];by_cases hk:a=k <;> simp[hk]
   rw[e,EB7];by_cases hk:a=k
   ·rw[if_pos hk,ih,if_neg (fun e=>h (e.symm.trans hk))]
   ·rw[if_neg hk,EB7,ih]
theorem RC7(l:List (κ×ν))(k x:κ)(v:ν):m7 ((k,v)::j9 l k) x=if k=x then some v else m7 l x:=by
 rw[EB7,RB7];by_cases h:k=x
 ·rw[if_pos h,if_pos h]
 ·rw[if_neg h,if_neg h,if_neg (fun e=>h e.symm)]
end
theorem In7{V:Vs}(h:C6 V=true):V=vs0:=by obtain⟨p,L,n⟩:=V;unfold C6 at h;simp only[jB,decide_eq_true_eq]at h;obtain⟨h1,h2,h3⟩:=h;rw[List.eq_nil_of_length_eq_zero h1,List.eq_nil_of_length_eq_zero h2,h3]
structure AlkE(C:Int->Prop)(k:ByteArray)(e f:Ec):Prop where
 v:atV e k=atV f k
 s:∀c,C c->m7 e.ss c=m7 f.ss c
 t:∀c q,C c->m7 e.ts (c,q)=m7 f.ts (c,q)
 a:∀c q,C c->m7 e.ar (c,q)=m7 f.ar (c,q)
def br4(l:List Opn)(e:Ec):Ec:=l.foldl (fun e o=>(M8 e o).2.2) e
def ia4(k:ByteArray)(l:List Opn):List Opn:=l.filter fun o=>decide (o.ak=k)
end Go.Proofs.YtlmhakmoioogaaaGreat
end
section
namespace Go.Sl
open Go.RowKit
section
variable{κ:Type}[DecidableEq κ]{P:Program}{K:TypeId}{kd:TypeDesc}{ek:κ->Value}
theorem DL7(heq:∀a b w,(Op.equal K (ek a) (ek b)).run P w=.ok (decide (a=b)) w)(k:κ):∀(l:List (κ×Value×Nat)) (i:Nat) (w:World),(Instr.findAsking K (ek k) (l.map (Q7 ek)) i).run P w=.ok (bQ4 k l i) w
 | [],_,_=>rfl
 | x::l,i,w=>by
  have e:(Q7 ek x).key=ek x.1:=rfl;rw[List.map_cons,Instr.findAsking,e,bQ4];simp only[Sem.run_bind,heq,Result.andThen_ok];by_cases hk:k=x.1
  ·rw[if_pos hk];simp[hk,Q7]
  ·rw[if_neg hk];simp[hk];exact DL7 heq k l (i+1) w
theorem KeyOk.deep(hK:P.underlying K=some kd)(hsn:∀a b,Instr.sameNow kd (ek a) (ek b)=none)(hchk:∀e k w,(Instr.checkKey e 10000 K (ek k)).run P w=.ok () w)(heq:∀a b w,(Op.equal K (ek a) (ek b)).run P w=.ok (decide (a=b)) w)
  (hb:∀k,Instr.sameBits 10000 (ek k) (ek k)=true):KeyOk P K ek:=
 ⟨hchk,fun k l w=>by
  unfold Instr.findKey;simp only[Sem.run_bind,run_underlying hK,Result.andThen_ok]
  cases l with
  | nil=>rfl
  | cons x l=>
   have e:Instr.findNow kd (ek k) ((x::l).map (Q7 ek)) 0=none:=by rw[List.map_cons,Instr.findNow];have:(Q7 ek x).key=ek x.1:=rfl;rw[this,hsn]
   rw[e];exact DL7 heq k (x::l) 0 w,hb⟩
end
end Go.Sl
end
