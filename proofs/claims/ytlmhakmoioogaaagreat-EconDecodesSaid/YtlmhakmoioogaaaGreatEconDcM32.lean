/-
  The program's Decode.
-/
import Derived.Test.YtlmhakmoioogaaaGreatEconDcM4
import Derived.Test.YtlmhakmoioogaaaGreatEconDcM31
import Derived.Test.YtlmhakmoioogaaaGreatRows
import Derived.Lib.SmallJoins
import Derived.ChangeArms
import Derived.ProofKit
set_option maxHeartbeats 16000000
set_option maxRecDepth 100000
set_option linter.unusedSimpArgs false
set_option linter.unusedVariables false
section
namespace Go.Proofs.YtlmhakmoioogaaaGreat
open Go.RowKit Go.Sl
theorem AE7{D:HP}{rb:Nat}{s s2:RS}{n:Int}(hn:d8 s=(n,s2))(h:RdOk s)(W w:World)(R R':List HP)(ht:Take R D R')(hS:St W (rdG D rb s::R) w):
  Calls Tryz.prog 154 #[.P rb] w fun e w'=>e=.returned (.I n)/\St W (rdG D rb s2::R) w':=by
 have h1:=dF4 D rb s h.b h.l W w R R' ht hS;rw[hn]at h1;exact h1
theorem AA7{D:HP}{rb:Nat}{s s1:RS}{x:List Int}(hn:j5 s=(x,s1))(h:RdOk s)(W w:World)(R R':List HP)(ht:Take R D R')(hS:St W (rdG D rb s::R) w):
  Calls Tryz.prog 151 #[.P rb] w fun e w'=>∃v,e=.returned v/\St W (byR v x::rdG D rb s1::R) w':=by
 have h1:=QK7 D rb s h W w R R' ht hS;rw[hn]at h1;exact h1
theorem Pd7{k:ByteArray}{r:Bool}(h:y5 k=r)(W w:World)(R:List HP)(hS:St W R w):
  Calls Tryz.prog 163 #[.string k] w fun e w'=>e=.returned (.bool r)/\St W R w':=h▸Cb7 k W w R hS
theorem RA7{x0 x1 x2 x3:Int}{r:Bool}(h:w8 ⟨x0,x1,x2,x3⟩=r)(W w:World)(R:List HP)(hS:St W R w):
  Calls Tryz.prog 126 #[.agg #[.I x0,.I x1,.I x2,.I x3]] w fun e w'=>e=.returned (.bool r)/\St W R w':=h▸Np7 ⟨x0,x1,x2,x3⟩ W w R hS
theorem SD7(vb mb:Nat)(p:Ps)(k:ByteArray)(u1 u2:Value)(W w:World)(R:List HP)(x0 x1 x2 x3:Int)(hS:St W (blk vb [.map (some mb),u1,u2] 176::c8 eS eP mb p::R) w):
  Calls Tryz.prog 164 #[.P vb,.string k,.agg #[.I x0,.I x1,.I x2,.I x3]] w fun e w'=>e=.returned (.tuple #[])/\St W (blk vb [.map (some mb),u1,u2] 176::c8 eS eP mb (M7 p k ⟨x0,x1,x2,x3⟩)::R) w':=
 Bi7 vb mb p k u1 u2 W w R ⟨x0,x1,x2,x3⟩ hS
def VGk(b:List Int)(p:Ps)(l:List Ord)(n:Int):Prop:=∃s,gP b=some (p,s)/\(gO s).1=l/\gN s=(n,some [])/\OkN l n/\I9 p l n=b
def PgR(W:World)(D:HP)(rb vb mb bb:Nat)(L:List HP)(T:Option (Ps×RS))(v:Value)(w:World):Prop:=
 ∃(k:Nat) (p:Ps) (s:RS),v=.I k/\k<=4611686018427387904/\RdOk s/\szR s 0 990000/\cd4 k p s=T/\St W (rdG D rb s::blk vb [.map (some mb),.P bb,.I 1] 176::c8 eS eP mb p::L) w
theorem SE7{b r:List Int}(h:RdOk (some b))(hs:szR (some b) 0 990000)(hr:bi4 (some b)=some r):szR (some r) 0 990000:=by
 have h1:=KV7 (h.b b rfl) hr;have h2:0+b.length<=990000:=hs;show 0+r.length<=990000
 omega
theorem fX4{b:List Int}(h:RdOk (some b))(hs:szR (some b) 0 990000):szR (bi4 (some b)) 0 990000:=by
 cases hr:bi4 (some b)with
 | none=>exact Nat.zero_le _
 | some r=>exact SE7 h hs hr
theorem Dz7{D:HP}{rb:Nat}(W w:World)(R:List HP)(hS:St W (rdG D rb none::R) w):
  Calls Tryz.prog 157 #[.P rb] w fun e w'=>e=.returned (.bool false)/\St W (rdG D rb none::R) w':=JN7 D rb none W w R hS
theorem CD7{D:HP}{rb:Nat}{l:List Int}(W w:World)(R:List HP)(hS:St W (rdG D rb (some l)::R) w):
  Calls Tryz.prog 157 #[.P rb] w fun e w'=>e=.returned (.bool true)/\St W (rdG D rb (some l)::R) w':=JN7 D rb (some l) W w R hS
theorem AX7{D:HP}{rb:Nat}{s:RS}{r:Bool}(h:ar4 s=r)(W w:World)(R:List HP)(hS:St W (rdG D rb s::R) w):
  Calls Tryz.prog 92 #[.P rb] w fun e w'=>e=.returned (.bool r)/\St W (rdG D rb s::R) w':=h▸St7 D rb s W w R hS
def OgR(W:World)(D:HP)(rb:Nat)(L:List HP)(T:List Ord×RS)(v9 v10:Value)(w:World):Prop:=
 ∃(k:Nat) (l:List Ord) (s:RS),v10=.I k/\k<=4611686018427387904/\RdOk s/\szR s l.length 990000/\cY4 k l s=T/\St W (rdG D rb s::i9 v9 l::L) w
theorem Mm7{b:List Int}{p:Ps}{s:RS}(h:gP b=some (p,s))(h2:(gO s).2=none):∀p l n,¬VGk b p l n:=by
 rintro p2 l n ⟨s2,h3,_,h5,_⟩;rw[h]at h3
 cases h3
 unfold gN at h5;rw[h2]at h5
 cases h5
theorem Mn7:∀f u,u<128^(f+1)->ByB (aH4 f u)
 | 0,u,hu=>by intro c hc;rw[show aH4 0 u=[(u:Int)]from rfl,List.mem_singleton]at hc;subst hc;simp at hu;omega
 | f+1,u,hu=>by
  rw[aH4];split
  ·intro c hc
   rcases List.mem_cons.1 hc with rfl|hc
   ·omega
   ·exact Mn7 f (u / 128) (Nat.div_lt_of_lt_mul (by rw[Nat.pow_succ]at hu;omega)) c hc
  ·intro c hc;rw[List.mem_singleton]at hc;omega
theorem Ay7{s t:List Int}(h:ByB s)(h2:ByB t):ByB (s++t):=fun c hc=>(List.mem_append.1 hc).elim (h c) (h2 c)
theorem Av7(n:Int):ByB (j9 n):=Mn7 _ _ (Fr7 (Iu7 n))
theorem AG7{α:Type}{f:α->List Int}(h:∀x,ByB (f x)):∀l:List α,ByB (l.flatMap f)
 | []=>fun c hc=>(by cases hc)
 | x::l=>by rw[List.flatMap_cons];exact Ay7 (h x) (AG7 h l)
theorem Mo7(u:ByteArray):ByB (y8 u):=Ay7 (Av7 _) (Dd7 u)
theorem EQ7(p:Ps)(l:List Ord)(n:Int):ByB (I9 p l n):=Ay7 (Ay7 (Ay7 (Ay7 (Av7 _) (AG7 (fun h=>Ay7 (Mo7 _) (AG7 Av7 _)) _)) (Av7 _)) (AG7 (fun o=>Ay7 (Ay7 (Av7 _) (Mo7 _)) (AG7 Av7 _)) _)) (Av7 _)
theorem Pe7{b:List Int}(h:gP b=none):∀p l n,¬VGk b p l n:=by
 rintro p2 l n ⟨s2,h3,_⟩;rw[h]at h3
 cases h3
theorem CJ7{b:List Int}{p p2:Ps}{l l2:List Ord}{n n2:Int}{s s9:RS}(h:VGk b p2 l2 n2)(hg:gP b=some (p,s))(ho:(gO s).1=l)(hn:gN s=(n,s9)):s9=some []/\OkN l n/\I9 p l n=b:=by
 obtain⟨s2,h1,h2,h3,h4,h5⟩:=h;rw[hg]at h1
 cases h1
 rw[ho]at h2;subst h2;rw[hn]at h3
 cases h3
 exact⟨rfl,h4,h5⟩
theorem RB7{l:List Ord}(h:ap4 l)(hl:l.length<=10000000)(v:Value)(W w:World)(R:List HP)(hS:St W (i9 v l::R) w):
  Calls Tryz.prog 167 #[v] w fun e w'=>e=.returned (.tuple #[.pointer none,.I 1])/\St W R w':=by
 refine(Kr7 l v W w R hl hS).mono ?_;rintro e w' (⟨h1,h2,h3⟩|⟨h1,h2,_⟩)
 ·exact⟨h2,h3⟩
 ·exact absurd h (Cn7 h1 h2)
theorem IA7{l:List Ord}{n:Int}(h:¬ap4 l)(hl:l.length<=10000000)(hla:I8 l l.length<n)(v:Value)(W w:World)(R:List HP)(hS:St W (i9 v l::R) w):
  Calls Tryz.prog 167 #[v] w fun e w'=>∃bb,e=.returned (.tuple #[.P bb,.I 0])/\(l.length<=32/\bX4 l l.length)/\St W (r7 bb l n::R) w':=by
 refine(Kr7 l v W w R hl hS).mono ?_;rintro e w' (⟨h1,_⟩|⟨h1,h2,bb,b,h3,h4,h5,h6⟩)
 ·exact absurd h1 h
 ·exact⟨bb,h3,⟨h1,h2⟩,aQ4 h4 (by rw[h5];exact hla) h6⟩
theorem QZ7(l:List Ord):∀k,0<k->I8 l k=(at' l (k-1)).id
 | _+1,_=>rfl
theorem SF7{l:List Ord}(h:0<l.length):I8 l l.length=(l[l.length-1]).id:=by rw[QZ7 l _ h,x7 (by omega)]
theorem Pf7(k:Nat)(l:List Ord):cY4 k l none=(l,none):=by cases k <;> rfl
theorem Pg7(k:Nat)(p:Ps):cd4 k p none=some (p,none):=by cases k <;> rfl
theorem SG7:gO none=([],none):=rfl
theorem Mp7(D0:HP)(a:Option Addr)(c:Nat)(b:List Int)(hat:At D0 a c b)(hb:ByB b)(hN:b.length<=990000)(W w:World)(R R':List HP)(ht:Take R D0 R')(hS:St W R w):
  Calls Tryz.prog 152 #[.slice a b.length c] w fun e w'=>((∀p l n,¬VGk b p l n)/\e=.returned (.tuple #[.pointer none,.I 3])/\St W R w') \/
   (∃p l n,VGk b p l n/\∃vb mb bb,e=.returned (.tuple #[.P vb,.I 0])/\St W (t8 vb mb bb p l n R) w'):=by
 have hok:RdOk (some b):=⟨fun l hl=>by cases hl;exact hb,fun l hl=>by cases hl;omega⟩
 have Hok:=jH hok;clear hok;go_enter Tryz.func152,Tryz.ntmps152;go_wp2_with(first|go_big_skip|go_at_call 162;refine(Jq7 W _ _ hS).mono ?_;clear hS;rintro e w ⟨vb,mb,bb,rfl,hS⟩|go_at_call 86;refine(JO7 D0 a c b hat (by omega) W _ _ _ (by(focus((repeat(first|exact ht|apply Take.tail));done))) hS).mono ?_;clear hS;rintro e w ⟨dv,rb,rfl,hS⟩;(have hv:=hS.drop.rowVal;obtain⟨da,dc,rfl⟩:=hv)|(fail_if_success (have:=m1));go_at_call 154;refine(dF4 _ rb (some b) Hok.out.b Hok.out.l W _ _ _ (.tail (.tail (.tail .head))) (hS.s (rdG _ rb (some b)::blk vb _ _::c8 eS eP mb []::r7 bb [] 1::byR _ b::R))).mono ?_;clear hS;have m1:Nat:=0;rintro e w ⟨rfl,hS⟩);have hr:=At7 (some b);have hT0:cd4 (d8 (some b)).1.toNat [] (d8 (some b)).2=gP b:=rfl;have hok2:=Hok.out.num
 have hsz2:szR (d8 (some b)).2 0 990000:=by
  cases hs:(d8 (some b)).2 with
  | none=>exact Nat.zero_le _
  | some r=>
   have:=Dy7 Hok.out.b hs rfl;show 0+r.length<=990000
   omega
 generalize d8 (some b)=q at hS hr hT0 hok2 hsz2 ⊢;obtain⟨n2,s2⟩:=q;simp only at hS hr hT0 hok2 hsz2;obtain⟨m,rfl⟩:∃m:Nat,n2=m:=⟨n2.toNat,by omega⟩
 have hm:m<=4611686018427387904:=by omega
 obtain⟨D,hD⟩:∃D,D=byR (.slice da b.length dc) b:=⟨_,rfl⟩
 rw[<-hD]at hS;have hS1:=hS.s (rdG D rb s2::blk vb _ _::c8 eS eP mb []::D::R);clear hS;have hS:=hS1;have HT0:=jH hT0;have Hok2:=jH hok2;have Hsz2:=jH hsz2;clear hr hT0 hok2 hsz2 hS1 hD
 go_loopw [6] (fun v wr=>PgR W D rb vb mb bb (D::R) (gP b) v wr) (fun v _=>(intOf v).toNat)
 case atStart=>exact⟨m,[],s2,rfl,hm,Hok2.out,Hsz2.out,HT0.out,hS⟩
 case round=>
  clear hS Hok2 HT0 Hsz2 hm;obtain⟨k,p,s,rfl,hk,hok,hsz,hT,hS⟩:=hrel;have Hsz:=jH hsz;have Hok1:=jH hok;have HT:=jH hT;clear hok hT hsz
  cases s with
  | none=>
   have hT2:=HT.out;rw[Pg7]at hT2;have Hno:=jH (Mm7 hT2.symm (by rw[SG7]));clear hT2;by_cases hk0:k=0
   ·subst hk0;go_wp2_with(first|go_big_skip|go_at_call 154;refine(AE7 Ax7 AL7 W _ _ _ (by(focus((repeat(first|exact .head|apply Take.tail));done))) hS).mono ?_;clear hS;rintro e w ⟨rfl,hS⟩);have hS1:=(hS.rowNil (k:=6) (T:=166)).swap;clear hS;have hS:=hS1;clear hS1
    go_loopw [9,10] (fun v9 v10 wr=>v9=.slice none 0 0/\v10=.I 0/\St W (rdG D rb none::row (.slice none 0 0) 6 166 0 []::blk vb [.map (some mb),.P bb,.I 1] 176::c8 eS eP mb p::D::R) wr) (fun _ _ _=>0)
    case atStart=>exact⟨rfl,rfl,hS⟩
    case round=>
     clear hS;obtain⟨rfl,rfl,hS⟩:=hrel;go_wp2_with(first|go_big_skip|go_at_call 157;refine(Dz7 W _ _ hS).mono ?_;clear hS;rintro e w ⟨rfl,hS⟩|go_at_call 154;refine(AE7 Ax7 AL7 W _ _ _ (by(focus((repeat(first|exact .head|apply Take.tail));done))) hS).mono ?_;clear hS;rintro e w ⟨rfl,hS⟩|refine zs1 hS ?_;clear hS;intro w hS);have He:=jH (show ar4 none=false from rfl);refine Aa7 (by kernel_rfl) (by kernel_rfl) hS ?_
     repeat(first|go_big_quiet_skip|refine zq1 ?_|apply Am7;rfl;rfl;rfl;decide +kernel;exact hlast (.tail .head);refine frS ?_|refine zqn ?_|apply Ag7;rfl;intro w;apply Ad7;rfl;decide +kernel;(focus(simp only[fD,fI,fJ,Act.eval,fE,fF,fG,fH,fK];try rfl));intro w hS;exact AX7 He.out W w _ hS;refine frS ?_|refine qR ?_)
     clear hS;intro w hS;go_wp2_with(first|go_big_skip);go_ret2;exact .inl ⟨Hno.out,rfl,hS.drop.drop.drop.drop.drop⟩
   ·have hd1:decide (0<k)=true:=by simp;omega
    have hk1:0<k:=by omega
    go_wp2_with(first|go_big_skip|go_at_call 157;refine(Dz7 W _ _ hS).mono ?_;clear hS;rintro e w ⟨rfl,hS⟩|go_at_call 154;refine(AE7 Ax7 AL7 W _ _ _ (by(focus((repeat(first|exact .head|apply Take.tail));done))) hS).mono ?_;clear hS;rintro e w ⟨rfl,hS⟩);have hS1:=(hS.rowNil (k:=6) (T:=166)).swap;clear hS;have hS:=hS1;clear hS1
    go_loopw [9,10] (fun v9 v10 wr=>v9=.slice none 0 0/\v10=.I 0/\St W (rdG D rb none::row (.slice none 0 0) 6 166 0 []::blk vb [.map (some mb),.P bb,.I 1] 176::c8 eS eP mb p::D::R) wr) (fun _ _ _=>0)
    case atStart=>exact⟨rfl,rfl,hS⟩
    case round=>
     clear hS;obtain⟨rfl,rfl,hS⟩:=hrel;go_wp2_with(first|go_big_skip|go_at_call 157;refine(Dz7 W _ _ hS).mono ?_;clear hS;rintro e w ⟨rfl,hS⟩|go_at_call 154;refine(AE7 Ax7 AL7 W _ _ _ (by(focus((repeat(first|exact .head|apply Take.tail));done))) hS).mono ?_;clear hS;rintro e w ⟨rfl,hS⟩|refine zs1 hS ?_;clear hS;intro w hS);have He:=jH (show ar4 none=false from rfl);refine Aa7 (by kernel_rfl) (by kernel_rfl) hS ?_
     repeat(first|go_big_quiet_skip|refine zq1 ?_|apply Am7;rfl;rfl;rfl;decide +kernel;exact hlast (.tail .head);refine frS ?_|refine zqn ?_|apply Ag7;rfl;intro w;apply Ad7;rfl;decide +kernel;(focus(simp only[fD,fI,fJ,Act.eval,fE,fF,fG,fH,fK];try rfl));intro w hS;exact AX7 He.out W w _ hS;refine frS ?_|refine qR ?_)
     clear hS;intro w hS;go_wp2_with(first|go_big_skip);go_ret2;exact .inl ⟨Hno.out,rfl,hS.drop.drop.drop.drop.drop⟩
  | some b2=>
   by_cases hk0:k=0
   ·subst hk0;have hg:=HT.out;rw[cd4]at hg;have Hg:=jH hg.symm;have hr:=At7 (some b2);have hT0:cY4 (d8 (some b2)).1.toNat [] (d8 (some b2)).2=gO (some b2):=rfl;have hok2:=Hok1.out.num
    have hsz2:szR (d8 (some b2)).2 0 990000:=by
     have h9:0+b2.length<=990000:=Hsz.out
     cases hs:(d8 (some b2)).2 with
     | none=>exact Nat.zero_le _
     | some r=>
      have:=Dy7 Hok1.out.b hs rfl;show 0+r.length<=990000
      omega
    obtain⟨⟨n2,s2⟩,q2⟩:∃y,d8 (some b2)=y:=⟨_,rfl⟩
    rw[q2]at hr hT0 hok2 hsz2;simp only at hr hT0 hok2 hsz2;obtain⟨m,rfl⟩:∃m:Nat,n2=m:=⟨n2.toNat,by omega⟩
    have hm:m<=4611686018427387904:=by omega
    have E2:=jH q2;have K0:=jH Hok1.out;have HT0:=jH hT0;have Hok2:=jH hok2;have Hsz2:=jH hsz2;generalize hTT:gO (some b2)=T at HT0;have HTT:=jH hTT;clear hr hT0 hok2 hsz2 q2 hg hTT;go_wp2_with(first|go_big_skip|go_at_call 154;refine(AE7 E2.out K0.out W _ _ _ (by(focus((repeat(first|exact .head|apply Take.tail));done))) hS).mono ?_;clear hS;rintro e w ⟨rfl,hS⟩);have hS1:=(hS.rowNil (k:=6) (T:=166)).swap;clear hS;have hS:=hS1;clear hS1
    go_loopw [9,10] (fun v9 v10 wr=>OgR W D rb (blk vb [.map (some mb),.P bb,.I 1] 176::c8 eS eP mb p::D::R) T v9 v10 wr) (fun _ v10 _=>(intOf v10).toNat)
    case atStart=>exact⟨m,[],s2,rfl,hm,Hok2.out,Hsz2.out,HT0.out,hS⟩
    case round=>
     clear hS K0 E2 HT0 Hok2 Hsz2 hm;obtain⟨k,l,s,rfl,hk,hok,hsz,hT,hS⟩:=hrel;unfold i9 at hS;obtain⟨va,vc,rfl⟩:=hS.drop.rowVal;have hS1:St W (rdG D rb s::i9 (.slice va l.length vc) l::_) _:=hS;clear hS;have hS:=hS1;clear hS1;have K0:=jH hok;have Hsz3:=jH hsz;have HT3:=jH hT
     have hl1:l.length<=990001:=by
      cases s with
      | none=>exact hsz
      | some b3=>have h9:l.length+b3.length<=990000:=hsz;omega
     clear hok hsz hT
     cases s with
     | none=>
      have hT4:=HT3.out;rw[Pf7]at hT4;have Hno:=jH (Mm7 Hg.out (by rw[HTT.out,<-hT4]));have He:=jH (show ar4 none=false from rfl);clear hT4;by_cases hk0:k=0
      ·subst hk0;go_wp2_with(first|go_big_skip|go_at_call 154;refine(AE7 Ax7 AL7 W _ _ _ (by(focus((repeat(first|exact .head|apply Take.tail));done))) hS).mono ?_;clear hS;rintro e w ⟨rfl,hS⟩|refine zs1 hS ?_;clear hS;intro w hS);refine Aa7 (by kernel_rfl) (by kernel_rfl) hS ?_
       repeat(first|go_big_quiet_skip|refine zq1 ?_|apply Am7;rfl;rfl;rfl;decide +kernel;exact hlast (.tail .head);refine frS ?_|refine zqn ?_|apply Ag7;rfl;intro w;apply Ad7;rfl;decide +kernel;(focus(simp only[fD,fI,fJ,Act.eval,fE,fF,fG,fH,fK];try rfl));intro w hS;exact AX7 He.out W w _ hS;refine frS ?_|refine qR ?_)
       clear hS;intro w hS;go_wp2_with(first|go_big_skip);go_ret2;exact .inl ⟨Hno.out,rfl,hS.drop.drop.drop.drop.drop⟩
      ·have hk1:0<k:=by omega
       go_wp2_with(first|go_big_skip|go_at_call 157;refine(Dz7 W _ _ hS).mono ?_;clear hS;rintro e w ⟨rfl,hS⟩|go_at_call 154;refine(AE7 Ax7 AL7 W _ _ _ (by(focus((repeat(first|exact .head|apply Take.tail));done))) hS).mono ?_;clear hS;rintro e w ⟨rfl,hS⟩|refine zs1 hS ?_;clear hS;intro w hS);refine Aa7 (by kernel_rfl) (by kernel_rfl) hS ?_
       repeat(first|go_big_quiet_skip|refine zq1 ?_|apply Am7;rfl;rfl;rfl;decide +kernel;exact hlast (.tail .head);refine frS ?_|refine zqn ?_|apply Ag7;rfl;intro w;apply Ad7;rfl;decide +kernel;(focus(simp only[fD,fI,fJ,Act.eval,fE,fF,fG,fH,fK];try rfl));intro w hS;exact AX7 He.out W w _ hS;refine frS ?_|refine qR ?_)
       clear hS;intro w hS;go_wp2_with(first|go_big_skip);go_ret2;exact .inl ⟨Hno.out,rfl,hS.drop.drop.drop.drop.drop⟩
     | some b3=>
      by_cases hk0:k=0
      ·subst hk0;have hT4:=HT3.out;rw[cY4]at hT4;obtain⟨⟨n,s9⟩,q9⟩:∃y,d8 (some b3)=y:=⟨_,rfl⟩
       have Hgn:=jH (show gN (some b2)=(n,s9)by unfold gN;rw[HTT.out,<-hT4];exact q9);have Hgo:=jH (show(gO (some b2)).1=l by rw[HTT.out,<-hT4]);have E9:=jH q9;have Hpi:=jH (et4 hb Hg.out).1;clear hT4 q9
       cases he:ar4 s9 with
       | false=>
        have Hno:=jH (fun p l n h=>Rz7 he (CJ7 h Hg.out Hgo.out Hgn.out).1:∀p l n,¬VGk b p l n);have He:=jH he;clear he;go_wp2_with(first|go_big_skip|go_at_call 154;refine(AE7 E9.out K0.out W _ _ _ (by(focus((repeat(first|exact .head|apply Take.tail));done))) hS).mono ?_;clear hS;rintro e w ⟨rfl,hS⟩|refine zs1 hS ?_;clear hS;intro w hS);refine Aa7 (by kernel_rfl) (by kernel_rfl) hS ?_
        repeat(first|go_big_quiet_skip|refine zq1 ?_|apply Am7;rfl;rfl;rfl;decide +kernel;exact hlast (.tail .head);refine frS ?_|refine zqn ?_|apply Ag7;rfl;intro w;apply Ad7;rfl;decide +kernel;(focus(simp only[fD,fI,fJ,Act.eval,fE,fF,fG,fH,fK];try rfl));intro w hS;exact AX7 He.out W w _ hS;refine frS ?_|refine qR ?_)
        clear hS;intro w hS;go_wp2_with(first|go_big_skip);go_ret2;exact .inl ⟨Hno.out,rfl,hS.drop.drop.drop.drop.drop⟩
       | true=>
        obtain rfl:=Fu7 he;have He:=jH he;clear he;by_cases c1:n<1
        ·have hd5:decide (n<1)=true:=by simpa using c1
         have Hno:=jH (fun p l n h=>absurd (CJ7 h Hg.out Hgo.out Hgn.out).2.1.n0 (by omega):∀p l n,¬VGk b p l n);go_wp2_with(first|go_big_skip|go_at_call 154;refine(AE7 E9.out K0.out W _ _ _ (by(focus((repeat(first|exact .head|apply Take.tail));done))) hS).mono ?_;clear hS;rintro e w ⟨rfl,hS⟩|refine zs1 hS ?_;clear hS;intro w hS);refine Aa7 (by kernel_rfl) (by kernel_rfl) hS ?_
         repeat(first|go_big_quiet_skip|refine zq1 ?_|apply Am7;rfl;rfl;rfl;decide +kernel;exact hlast (.tail .head);refine frS ?_|refine zqn ?_|apply Ag7;rfl;intro w;apply Ad7;rfl;decide +kernel;(focus(simp only[fD,fI,fJ,Act.eval,fE,fF,fG,fH,fK];try rfl));intro w hS;exact AX7 He.out W w _ hS;refine frS ?_|refine qR ?_)
         clear hS;intro w hS;go_wp2_with(first|go_big_skip);go_ret2;exact .inl ⟨Hno.out,rfl,hS.drop.drop.drop.drop.drop⟩
        ·have hd5:decide (n<1)=false:=by simpa using c1
         by_cases c2:1099511627777<n
         ·have hd6:decide (1099511627777<n)=true:=by simpa using c2
          have Hno:=jH (fun p l n h=>absurd (CJ7 h Hg.out Hgo.out Hgn.out).2.1.n1 (by omega):∀p l n,¬VGk b p l n);go_wp2_with(first|go_big_skip|go_at_call 154;refine(AE7 E9.out K0.out W _ _ _ (by(focus((repeat(first|exact .head|apply Take.tail));done))) hS).mono ?_;clear hS;rintro e w ⟨rfl,hS⟩|refine zs1 hS ?_;clear hS;intro w hS);refine Aa7 (by kernel_rfl) (by kernel_rfl) hS ?_
          repeat(first|go_big_quiet_skip|refine zq1 ?_|apply Am7;rfl;rfl;rfl;decide +kernel;exact hlast (.tail .head);refine frS ?_|refine zqn ?_|apply Ag7;rfl;intro w;apply Ad7;rfl;decide +kernel;(focus(simp only[fD,fI,fJ,Act.eval,fE,fF,fG,fH,fK];try rfl));intro w hS;exact AX7 He.out W w _ hS;refine frS ?_|refine qR ?_)
          clear hS;intro w hS;go_wp2_with(first|go_big_skip);go_ret2;exact .inl ⟨Hno.out,rfl,hS.drop.drop.drop.drop.drop⟩
         ·have hd6:decide (1099511627777<n)=false:=by simpa using c2
          by_cases c3:l.length=0
          ·have hd7:decide (0<l.length)=false:=by rw[c3];rfl
           have Hla:=jH (show I8 l l.length<n by rw[c3];show(0:Int)<n;omega);clear c3;go_wp2_with(first|go_big_skip|go_at_call 154;refine(AE7 E9.out K0.out W _ _ _ (by(focus((repeat(first|exact .head|apply Take.tail));done))) hS).mono ?_;clear hS;rintro e w ⟨rfl,hS⟩|refine zs1 hS ?_;clear hS;intro w hS);refine Aa7 (by kernel_rfl) (by kernel_rfl) hS ?_
           repeat(first|go_big_quiet_skip|refine zq1 ?_|apply Am7;rfl;rfl;rfl;decide +kernel;exact hlast (.tail .head);refine frS ?_|refine zqn ?_|apply Ag7;rfl;intro w;apply Ad7;rfl;decide +kernel;(focus(simp only[fD,fI,fJ,Act.eval,fE,fF,fG,fH,fK];try rfl));intro w hS;exact AX7 He.out W w _ hS;refine frS ?_|refine qR ?_)
           clear hS;intro w hS;by_cases hR:ap4 l
           ·have HR:=jH hR;have Hno:=jH (fun p l n h=>Cn7 (CJ7 h Hg.out Hgo.out Hgn.out).2.1.few (CJ7 h Hg.out Hgo.out Hgn.out).2.1.ok hR:∀p l n,¬VGk b p l n);clear hR;go_wp2_with(first|go_big_skip|go_at_call 167;refine(RB7 HR.out (by omega) _ W _ _ (hS.s (i9 _ l::blk vb _ _::R))).mono ?_;clear hS;rintro e w ⟨rfl,hS⟩|refine zs1 hS ?_;clear hS;intro w hS);go_ret2;exact .inl ⟨Hno.out,rfl,hS.drop⟩
           ·have HR:=jH hR;clear hR;by_cases hE:I9 p l n=b
            ·have Heq:=jH (show((x6 (I9 p l n)).toList==(x6 b).toList)=true by rw[hE];exact CZ7.2 rfl);have HE:=jH hE;clear hE;go_wp2_with(first|go_big_skip|go_at_call 167;refine(IA7 HR.out (by omega) Hla.out _ W _ _ (hS.s (i9 _ l::blk vb _ _::c8 eS eP mb p::R))).mono ?_;clear hS;rintro e w ⟨bk,rfl,hok9,hS⟩;have Hok9:=jH hok9;clear hok9|refine zs1 hS ?_;clear hS;intro w hS|go_at_call 67;refine(bS4 vb mb bk p l n Hpi.out.ok Hpi.out.w (by omega) (by omega) (by omega) W _ _ (hS.s (blk vb _ _::c8 eS eP mb p::r7 bk l n::R))).mono ?_;clear hS;rintro e w ⟨ev,rfl,hS⟩|go_at_call 93;refine(Fv7 D0 a c b (I9 p l n) ev hat Heq.out W _ _ _ _ (.tail (.tail (.tail (.tail ht)))) .head hS).mono ?_;clear hS;rintro e w ⟨rfl,hS⟩);go_ret2;exact .inr ⟨p,l,n,⟨_,Hg.out,Hgo.out,Hgn.out,⟨Hok9.out.1,Hok9.out.2,Hla.out,by omega,by omega⟩,HE.out⟩,vb,mb,bk,rfl,hS.drop⟩
            ·have Heq:=jH (show((x6 (I9 p l n)).toList==(x6 b).toList)=false by rw[<-Bool.not_eq_true,CZ7];intro e;exact hE (by rw[<-BU7 (EQ7 p l n),<-BU7 hb,e]));have Hno:=jH (fun p l n h=>hE (CJ7 h Hg.out Hgo.out Hgn.out).2.2:∀p l n,¬VGk b p l n);clear hE;go_wp2_with(first|go_big_skip|go_at_call 167;refine(IA7 HR.out (by omega) Hla.out _ W _ _ (hS.s (i9 _ l::blk vb _ _::c8 eS eP mb p::R))).mono ?_;clear hS;rintro e w ⟨bk,rfl,hok9,hS⟩;have Hok9:=jH hok9;clear hok9|refine zs1 hS ?_;clear hS;intro w hS|go_at_call 67;refine(bS4 vb mb bk p l n Hpi.out.ok Hpi.out.w (by omega) (by omega) (by omega) W _ _ (hS.s (blk vb _ _::c8 eS eP mb p::r7 bk l n::R))).mono ?_;clear hS;rintro e w ⟨ev,rfl,hS⟩|go_at_call 93;refine(Fv7 D0 a c b (I9 p l n) ev hat Heq.out W _ _ _ _ (.tail (.tail (.tail (.tail ht)))) .head hS).mono ?_;clear hS;rintro e w ⟨rfl,hS⟩);go_ret2;exact .inl ⟨Hno.out,rfl,hS.drop.drop.drop.drop⟩
          ·have hpos:0<l.length:=by omega
           have hd7:decide (0<l.length)=true:=by simpa using hpos
           obtain⟨⟨g,rfl⟩,_,_⟩:=St.rowAddr (show St W (row (.slice va l.length vc) 6 166 l.length (l.flatMap Ord.cells)::_) _ from hS.drop) hpos;have hlast:∀{K K':List HP},Take K (i9 (.S g l.length vc) l) K'->e8 K g ((l.length-1)*6) (.I (l[l.length-1]'(by omega)).id):=fun hu=>d7.elemM (enc:=Ord.cells) Ord.len hu (by omega) 0 _ rfl
           have hla:=SF7 hpos;generalize (l[l.length-1]'(by omega)).id=la at hlast hla;by_cases c4:n<=la
           ·have hd8:decide (n<=la)=true:=by simpa using c4
            have Hno:=jH (fun p l n h=>absurd (CJ7 h Hg.out Hgo.out Hgn.out).2.1.last (by rw[hla];omega):∀p l n,¬VGk b p l n);clear hla;go_wp2_with(first|go_big_skip|go_at_call 154;refine(AE7 E9.out K0.out W _ _ _ (by(focus((repeat(first|exact .head|apply Take.tail));done))) hS).mono ?_;clear hS;rintro e w ⟨rfl,hS⟩|refine zs1 hS ?_;clear hS;intro w hS);refine Aa7 (by kernel_rfl) (by kernel_rfl) hS ?_
            repeat(first|go_big_quiet_skip|refine zq1 ?_|apply Am7;rfl;rfl;rfl;decide +kernel;exact hlast (.tail .head);refine frS ?_|refine zqn ?_|apply Ag7;rfl;intro w;apply Ad7;rfl;decide +kernel;(focus(simp only[fD,fI,fJ,Act.eval,fE,fF,fG,fH,fK];try rfl));intro w hS;exact AX7 He.out W w _ hS;refine frS ?_|refine qR ?_)
            clear hS;intro w hS;go_wp2_with(first|go_big_skip);go_ret2;exact .inl ⟨Hno.out,rfl,hS.drop.drop.drop.drop.drop⟩
           ·have hd8:decide (n<=la)=false:=by simpa using c4
            have Hla:=jH (show I8 l l.length<n by rw[hla];omega);clear hla;go_wp2_with(first|go_big_skip|go_at_call 154;refine(AE7 E9.out K0.out W _ _ _ (by(focus((repeat(first|exact .head|apply Take.tail));done))) hS).mono ?_;clear hS;rintro e w ⟨rfl,hS⟩|refine zs1 hS ?_;clear hS;intro w hS);refine Aa7 (by kernel_rfl) (by kernel_rfl) hS ?_
            repeat(first|go_big_quiet_skip|refine zq1 ?_|apply Am7;rfl;rfl;rfl;decide +kernel;exact hlast (.tail .head);refine frS ?_|refine zqn ?_|apply Ag7;rfl;intro w;apply Ad7;rfl;decide +kernel;(focus(simp only[fD,fI,fJ,Act.eval,fE,fF,fG,fH,fK];try rfl));intro w hS;exact AX7 He.out W w _ hS;refine frS ?_|refine qR ?_)
            clear hS;intro w hS;by_cases hR:ap4 l
            ·have HR:=jH hR;have Hno:=jH (fun p l n h=>Cn7 (CJ7 h Hg.out Hgo.out Hgn.out).2.1.few (CJ7 h Hg.out Hgo.out Hgn.out).2.1.ok hR:∀p l n,¬VGk b p l n);clear hR;go_wp2_with(first|go_big_skip|go_at_call 167;refine(RB7 HR.out (by omega) _ W _ _ (hS.s (i9 _ l::blk vb _ _::R))).mono ?_;clear hS;rintro e w ⟨rfl,hS⟩|refine zs1 hS ?_;clear hS;intro w hS);go_ret2;exact .inl ⟨Hno.out,rfl,hS.drop⟩
            ·have HR:=jH hR;clear hR;by_cases hE:I9 p l n=b
             ·have Heq:=jH (show((x6 (I9 p l n)).toList==(x6 b).toList)=true by rw[hE];exact CZ7.2 rfl);have HE:=jH hE;clear hE;go_wp2_with(first|go_big_skip|go_at_call 167;refine(IA7 HR.out (by omega) Hla.out _ W _ _ (hS.s (i9 _ l::blk vb _ _::c8 eS eP mb p::R))).mono ?_;clear hS;rintro e w ⟨bk,rfl,hok9,hS⟩;have Hok9:=jH hok9;clear hok9|refine zs1 hS ?_;clear hS;intro w hS|go_at_call 67;refine(bS4 vb mb bk p l n Hpi.out.ok Hpi.out.w (by omega) (by omega) (by omega) W _ _ (hS.s (blk vb _ _::c8 eS eP mb p::r7 bk l n::R))).mono ?_;clear hS;rintro e w ⟨ev,rfl,hS⟩|go_at_call 93;refine(Fv7 D0 a c b (I9 p l n) ev hat Heq.out W _ _ _ _ (.tail (.tail (.tail (.tail ht)))) .head hS).mono ?_;clear hS;rintro e w ⟨rfl,hS⟩);go_ret2;exact .inr ⟨p,l,n,⟨_,Hg.out,Hgo.out,Hgn.out,⟨Hok9.out.1,Hok9.out.2,Hla.out,by omega,by omega⟩,HE.out⟩,vb,mb,bk,rfl,hS.drop⟩
             ·have Heq:=jH (show((x6 (I9 p l n)).toList==(x6 b).toList)=false by rw[<-Bool.not_eq_true,CZ7];intro e;exact hE (by rw[<-BU7 (EQ7 p l n),<-BU7 hb,e]));have Hno:=jH (fun p l n h=>hE (CJ7 h Hg.out Hgo.out Hgn.out).2.2:∀p l n,¬VGk b p l n);clear hE;go_wp2_with(first|go_big_skip|go_at_call 167;refine(IA7 HR.out (by omega) Hla.out _ W _ _ (hS.s (i9 _ l::blk vb _ _::c8 eS eP mb p::R))).mono ?_;clear hS;rintro e w ⟨bk,rfl,hok9,hS⟩;have Hok9:=jH hok9;clear hok9|refine zs1 hS ?_;clear hS;intro w hS|go_at_call 67;refine(bS4 vb mb bk p l n Hpi.out.ok Hpi.out.w (by omega) (by omega) (by omega) W _ _ (hS.s (blk vb _ _::c8 eS eP mb p::r7 bk l n::R))).mono ?_;clear hS;rintro e w ⟨ev,rfl,hS⟩|go_at_call 93;refine(Fv7 D0 a c b (I9 p l n) ev hat Heq.out W _ _ _ _ (.tail (.tail (.tail (.tail ht)))) .head hS).mono ?_;clear hS;rintro e w ⟨rfl,hS⟩);go_ret2;exact .inl ⟨Hno.out,rfl,hS.drop.drop.drop.drop⟩
      ·obtain⟨k,rfl⟩:∃k',k=k'+1:=⟨k-1,by omega⟩
       have hT4:=HT3.out;rw[cY4]at hT4;have k1:=K0.out.num;have hst:=Ry7 K0.out Hsz3.out True;rw[if_pos trivial]at hst;have k9:=K0.out.os;have hq1:rdO (some b3)=⟨(d8 (some b3)).1,x6 (j5 (d8 (some b3)).2).1,decide ((B8 (S9 (some b3))).x0=1),(B8 (S9 (some b3))).x1,(B8 (S9 (some b3))).x2,(B8 (S9 (some b3))).x3⟩:=rfl;obtain⟨⟨oi,s1⟩,q1⟩:∃y,d8 (some b3)=y:=⟨_,rfl⟩
       obtain⟨⟨x,s2⟩,q2⟩:∃y,j5 s1=y:=⟨_,rfl⟩
       obtain⟨i,hi⟩:∃i,B8 s2=i:=⟨_,rfl⟩
       obtain⟨u,hu⟩:∃u,x6 x=u:=⟨_,rfl⟩
       have o1:S9 (some b3)=s2:=by unfold S9;rw[q1];simp only;rw[q2]
       have o3:bE4 (some b3)=K8 s2:=by unfold bE4;rw[o1]
       have o4:rdO (some b3)=⟨oi,u,decide (i.x0=1),i.x1,i.x2,i.x3⟩:=by rw[hq1,o1,hi,q1];simp only;rw[q2];simp only;rw[hu]
       rw[o4,o3]at hT4;rw[o3]at hst k9;rw[q1]at k1;have k2:RdOk s2:=by have:=RdOk.bytes k1;rw[q2]at this;exact this
       obtain⟨y0,y1,y2,y3⟩:=i;simp only at hT4;have E1:=jH q1;have E2:=jH q2;have Hi:=jH hi;have Hu:=jH hu;have K1:=jH k1;have K2:=jH k2;have K9:=jH k9;have Hst:=jH hst;have HT4:=jH hT4;clear q1 q2 hi hu k1 k2 k9 hst hT4 o1 o3 o4 hq1 hk0;go_wp2_with(first|go_big_skip|go_at_call 157;refine(CD7 W _ _ hS).mono ?_;clear hS;rintro e w ⟨rfl,hS⟩|(fail_if_success (have:=mO));(with_reducible apply Ao7 hS);rfl;rfl;exact zsS;clear hS;have mO:Nat:=0;intro bO w hS;refine frS ?_|(have:=mO);(with_reducible apply Ao7 hS);rfl;rfl;exact zsS;clear hS;intro bB w hS;refine frS ?_|refine zbs hS ?_;clear hS;intro bS w hS|(fail_if_success (have:=mI));go_at_call 196;have hS2:=hS.s (rdG D rb (some b3)::blk bO _ _::blk bS _ _::blk bB _ _::i9 _ l::blk vb _ _::c8 eS eP mb p::D::R);refine(gD4 K0.out (by(focus((repeat(first|exact .head|apply Take.tail));done))) hS2).mono ?_;clear hS hS2;rw[E1.out];have mI:Nat:=0;rintro e w ⟨rfl,hS⟩|go_at_call 151;refine(AA7 E2.out K1.out W _ _ _ (by(focus((repeat(first|exact .head|apply Take.tail));done))) hS).mono ?_;clear hS;rintro e w ⟨v,rfl,hS⟩|(with_reducible apply Af7 (ns:=x) hS);rfl;rfl;rfl;exact Tryz.underlying63;exact Tryz.underlying5;exact Tryz.underlying9;exact g8;rw[Hu.out];refine frS ?_|(have:=mI);go_at_call 196;have hS2:=hS.s (rdG D rb s2::blk bB _ _::blk bO _ _::blk bS _ _::i9 _ l::blk vb _ _::c8 eS eP mb p::D::R);refine(TD7 K2.out (by(focus((repeat(first|exact .head|apply Take.tail));done))) hS2).mono ?_;clear hS hS2;rw[Hi.out];rintro e w ⟨rfl,hS⟩|refine zl1 hS ?_|refine zlN hS ?_|refine zs1 hS ?_;clear hS;intro w hS|(with_reducible apply Aj7 hS);rfl;rfl;rfl;rfl;exact esS;exact rsS;rfl;decide;exact g8;exact Src.mk d7.whole;(focus(try rfl));rfl;(focus(unfold maxLen;omega));(focus(omega));clear hS;intro v w hS;refine frS ?_)
       have hS3:=hS.s (row v 6 166 (l.length+1) _::rdG D rb (K8 s2)::blk vb _ _::c8 eS eP mb p::D::R);go_roundw
       case rel=>exact⟨k,l++[⟨oi,u,decide (y0=1),y1,y2,y3⟩],K8 s2,by simp,by omega,K9.out,by rw[jA];exact Hst.out,HT4.out,(FY7 hS3).swap⟩
       case measure=>simp[intOf]
   ·obtain⟨k,rfl⟩:∃k',k=k'+1:=⟨k-1,by omega⟩
    have hT2:=HT.out;rw[cd4]at hT2;have hst:=fX4 Hok1.out Hsz.out;have k0:=Hok1.out;have k1:=Hok1.out.bytes;have k9:=Hok1.out.hs;obtain⟨⟨x,s1⟩,q2⟩:∃y,j5 (some b2)=y:=⟨_,rfl⟩
    rw[q2]at k1;obtain⟨i,hi⟩:∃i,B8 s1=i:=⟨_,rfl⟩
    obtain⟨u,hu⟩:∃u,x6 x=u:=⟨_,rfl⟩
    have e1:rdH (some b2)=⟨u,i⟩:=by unfold rdH;rw[q2];simp only;rw[hu,hi]
    have e2:bi4 (some b2)=K8 s1:=by unfold bi4;rw[q2]
    rw[e1,e2]at hT2;rw[e2]at hst k9;obtain⟨x0,x1,x2,x3⟩:=i;simp only at hT2;have E2:=jH q2;have K0:=jH k0;have K1:=jH k1;have K9:=jH k9;have Hi:=jH hi;have Hu:=jH hu;have HT2:=jH hT2;have Hst:=jH hst;clear q2 k0 k1 k9 hi hu hT2 hst e1 e2 hk0
    cases hw:y5 u with
    | false=>
     have h7:=HT2.out;rw[hw,if_neg (by simp)]at h7;have Hno:=jH (Pe7 h7.symm);have Hk:=jH hw;clear h7 hw;go_wp2_with(first|go_big_skip|go_at_call 157;refine(CD7 W _ _ hS).mono ?_;clear hS;rintro e w ⟨rfl,hS⟩|go_at_call 151;refine(AA7 E2.out K0.out W _ _ _ (by(focus((repeat(first|exact .head|apply Take.tail));done))) hS).mono ?_;clear hS;rintro e w ⟨v,rfl,hS⟩|(with_reducible apply Af7 (ns:=x) hS);rfl;rfl;rfl;exact Tryz.underlying63;exact Tryz.underlying5;exact Tryz.underlying9;exact g8;rw[Hu.out];refine frS ?_|(with_reducible apply Ao7 hS);rfl;rfl;exact zsS;clear hS;intro bI w hS;refine frS ?_|refine zbs hS ?_;clear hS;intro bS w hS|go_at_call 196;have hS2:=hS.s (rdG D rb s1::blk bI _ _::blk bS _ _::blk vb _ _::c8 eS eP mb p::D::R);refine(KW7 K1.out (by(focus((repeat(first|exact .head|apply Take.tail));done))) hS2).mono ?_;clear hS hS2;rw[Hi.out];rintro e w ⟨rfl,hS⟩|go_at_call 163;refine(Pd7 Hk.out W _ _ hS).mono ?_;clear hS;rintro e w ⟨rfl,hS⟩);go_ret2;exact .inl ⟨Hno.out,rfl,hS.s _⟩
    | true=>
     cases hit:w8 ⟨x0,x1,x2,x3⟩with
     | false=>
      have h7:=HT2.out;rw[hw,hit,if_neg (by simp)]at h7;have Hno:=jH (Pe7 h7.symm);have Hk:=jH hw;have Hit:=jH hit;clear h7 hw hit;go_wp2_with(first|go_big_skip|go_at_call 157;refine(CD7 W _ _ hS).mono ?_;clear hS;rintro e w ⟨rfl,hS⟩|go_at_call 151;refine(AA7 E2.out K0.out W _ _ _ (by(focus((repeat(first|exact .head|apply Take.tail));done))) hS).mono ?_;clear hS;rintro e w ⟨v,rfl,hS⟩|(with_reducible apply Af7 (ns:=x) hS);rfl;rfl;rfl;exact Tryz.underlying63;exact Tryz.underlying5;exact Tryz.underlying9;exact g8;rw[Hu.out];refine frS ?_|(with_reducible apply Ao7 hS);rfl;rfl;exact zsS;clear hS;intro bI w hS;refine frS ?_|refine zbs hS ?_;clear hS;intro bS w hS|go_at_call 196;have hS2:=hS.s (rdG D rb s1::blk bI _ _::blk bS _ _::blk vb _ _::c8 eS eP mb p::D::R);refine(KW7 K1.out (by(focus((repeat(first|exact .head|apply Take.tail));done))) hS2).mono ?_;clear hS hS2;rw[Hi.out];rintro e w ⟨rfl,hS⟩|go_at_call 163;refine(Pd7 Hk.out W _ _ hS).mono ?_;clear hS;rintro e w ⟨rfl,hS⟩|refine zlN hS ?_|go_at_call 126;refine(RA7 Hit.out W _ _ hS).mono ?_;clear hS;rintro e w ⟨rfl,hS⟩);go_ret2;exact .inl ⟨Hno.out,rfl,hS.s _⟩
     | true=>
      have h7:=HT2.out;rw[hw,hit,if_pos (by rfl)]at h7;have H7:=jH h7;have Hk:=jH hw;have Hit:=jH hit;clear h7 hw hit;go_wp2_with(first|go_big_skip|go_at_call 157;refine(CD7 W _ _ hS).mono ?_;clear hS;rintro e w ⟨rfl,hS⟩|go_at_call 151;refine(AA7 E2.out K0.out W _ _ _ (by(focus((repeat(first|exact .head|apply Take.tail));done))) hS).mono ?_;clear hS;rintro e w ⟨v,rfl,hS⟩|(with_reducible apply Af7 (ns:=x) hS);rfl;rfl;rfl;exact Tryz.underlying63;exact Tryz.underlying5;exact Tryz.underlying9;exact g8;rw[Hu.out];refine frS ?_|(with_reducible apply Ao7 hS);rfl;rfl;exact zsS;clear hS;intro bI w hS;refine frS ?_|refine zbs hS ?_;clear hS;intro bS w hS|go_at_call 196;have hS2:=hS.s (rdG D rb s1::blk bI _ _::blk bS _ _::blk vb _ _::c8 eS eP mb p::D::R);refine(KW7 K1.out (by(focus((repeat(first|exact .head|apply Take.tail));done))) hS2).mono ?_;clear hS hS2;rw[Hi.out];rintro e w ⟨rfl,hS⟩|go_at_call 163;refine(Pd7 Hk.out W _ _ hS).mono ?_;clear hS;rintro e w ⟨rfl,hS⟩|refine zlN hS ?_|go_at_call 126;refine(RA7 Hit.out W _ _ hS).mono ?_;clear hS;rintro e w ⟨rfl,hS⟩|go_at_call 164;refine(SD7 vb mb p u _ _ W _ _ x0 x1 x2 x3 (hS.s (blk vb _ _::c8 eS eP mb p::rdG D rb _::D::R))).mono ?_;clear hS;rintro e w ⟨rfl,hS⟩);go_roundw
      case rel=>exact⟨k,M7 p u ⟨x0,x1,x2,x3⟩,K8 s1,by simp,by omega,K9.out,Hst.out,H7.out,hS.s _⟩
      case measure=>simp[intOf]
end Go.Proofs.YtlmhakmoioogaaaGreat
end
section
namespace Go.Proofs.YtlmhakmoioogaaaGreat
open Go.Joins Go.ChangeShapes Go.WideShapes Go.RowKit Go.Deep Go.Sl
theorem HX7{P:Program}{ops:Array Oper}{Q:Exit->Act->World->Prop}{a:Act}{w W:World}{L R L':List HP}{rest:List Oper}{o:Oper}{D:HP}{s x:Operand}{t e:TypeId}{z:Value}{bytes:Nat}{v:Value}{ad:Option Addr}{c:Nat}{zs:List Int}(hS:St W L w)(ho:o.op=.call { callee:=.builtin .append,args:=#[s,x],argTypes:=#[t,t] })
  (hg:Region.wanted o (yielded ops a.tmps)=true) (hs:a.eval s=v) (hx:a.eval x=.slice ad zs.length c) (ht:y6 P t=some e) (hi:C9 P e=some (some z,1,bytes)) (hz:z.cells.size=1) (hu:Take L (row v 1 e 0 []) R) (hat:At D ad c zs) (hD:Take L D L')
  (h63:zs.length<=maxLen) (hb:zs.length*bytes<=140737488355328) (h:∀v' w',St W (row v' 1 e zs.length (u8s zs)::R) w'->wpList P ops Q rest (a.put o.dst v') w'):wpList P ops Q (o::rest) a w:=by
 rcases hat with ⟨rfl,rfl,rfl⟩|⟨rfl,p,rfl⟩|⟨g,off,rfl,hDat⟩
 ·exact Aj7 hS ho hg hs hx ht hi hz (by decide) hu (.inl ⟨rfl,rfl,rfl⟩) rfl rfl (by simp) (by simp) h
 ·exact DQ7 hS ho hg hs hx ht hi hu (h _ _ (hS.take hu))
 ·refine Aj7 hS ho hg hs hx ht hi hz (by decide) hu (Src.mk (hDat _ _ hD)) (by rw[AS7,Nat.mul_one]) (Be7 _) (by omega) (by rw[Nat.zero_add];exact hb) fun v' w' h1=>h v' w' ?_
  rw[Nat.zero_add,jN]at h1;exact h1
def eu4(w:World)(v:Value)(zs:List Int):Prop:=
 ByB zs/\∃a c,v=.slice a zs.length c/\zs.length<=c/\c<=9223372036854775807/\At (Old w) a c zs
theorem open_bytesV{H:Type}{enc:TypeId×Value->H}{w:World}{base:Nat}{spare:Nat->Bool}{held:Bool}{r:Reach}{b0:Nat}{v:Value}{d:DataW H}{p:List MemPlace}
  (hv:Value.okWide Tryz.prog w r b0 63 v) (h:DataW.Trod enc Tryz.prog w base spare held 63 v d p):∃zs,eu4 w v zs:=by
 obtain⟨a0,len,cap,rfl⟩:=okWide_slice Tryz.underlying63 hv;obtain⟨fuel,hf⟩:=h
 rcases open_ints Tryz.underlying63 Tryz.underlying5 (by kernel_rfl) hf with ⟨hcs,hx⟩|⟨a,len',cap',zs,hcs,_,hl,hm,hz,hx,hcell,hwz⟩
 ·simp[Value.cells]at hcs;obtain⟨rfl,rfl,rfl⟩:=hcs;exact⟨[],fun c hc=>(by cases hc),none,0,rfl,Nat.le_refl _,by decide,.inl ⟨rfl,rfl,rfl⟩⟩
 ·simp[Value.cells]at hcs;obtain⟨rfl,rfl,rfl⟩:=hcs;have hmc:cap<=9223372036854775807:=by unfold maxLen at hm;omega
  by_cases h0:len=0
  ·subst h0;exact⟨[],fun c hc=>(by cases hc),some a,cap,rfl,Nat.zero_le _,hmc,.inr (.inl ⟨rfl,a,rfl⟩)⟩
  ·have hzl:len<=zs.length:=by rw[hz];split <;> omega
   obtain⟨b,off,spot⟩:=a;have hspot:spot=none:=by simpa[Addr.add]using World.cell?_spot (hcell 0 (by omega))
   subst hspot;have hlen:(zs.take len).length=len:=by rw[jT,Nat.min_eq_left hzl]
   refine⟨zs.take len,?_,some ⟨b,off,none⟩,cap,by rw[hlen],by rw[hlen];exact hl,hmc,.inr (.inr ⟨b,off,rfl,Dat.old ?_⟩)⟩
   ·intro c hc;have h1:=hwz c (List.mem_of_mem_take hc);have e1:IntKind.u8.min=0:=rfl;have e2:IntKind.u8.max=255:=rfl;simp only[Lit.wf,e1,e2,jB,decide_eq_true_eq]at h1;exact h1
   ·intro j u hj;unfold u8s at hj;rw[List.getElem?_map,List.getElem?_take]at hj;split at hj
    ·rename_i hjl
     have h1:=hcell j (by omega);rw[Addr.add_lit]at h1;rw[jG (by omega)]at hj;simp only[Option.map_some,Option.some.injEq]at hj;rw[h1,<-hj,List.getD_eq_getElem?_getD,jG (by omega)];rfl
    ·cases hj
end Go.Proofs.YtlmhakmoioogaaaGreat
end
section
namespace Go.Proofs.YtlmhakmoioogaaaGreat
open Go.RowKit Go.Sl
theorem FZ7{b:List Int}{p p2:Ps}{l l2:List Ord}{n n2:Int}(h:VGk b p l n)(h2:VGk b p2 l2 n2):p2=p/\l2=l/\n2=n:=by
 obtain⟨s,a1,a2,a3,a4,a5⟩:=h;obtain⟨s2,b1,b2,b3,b4,b5⟩:=h2;rw[a1]at b1
 cases b1
 rw[a2]at b2;rw[a3]at b3
 cases b3
 exact⟨rfl,b2.symm,rfl⟩
theorem SH7{b:List Int}(hb:ByB b)(h:VDk b):∃p l n,VGk b p l n:=by obtain⟨p,s,h1,h2,h3,h4⟩:=QU7 hb h;refine⟨p,(dO b).1,(dN b).1,s,h1,by rw[h3],?_,h.2,h4⟩;unfold gN;rw[h3];have h5:=h.1;unfold dN at h5 ⊢;rw[<-h5]
theorem SI7{b:List Int}(hb:ByB b)(hN:b.length<=9000){p:Ps}{l:List Ord}{n:Int}(h:VGk b p l n):VDk b/\(dP b).1=hdL p/\(dO b).1=l/\(dN b).1=n:=by
 obtain⟨s,a1,a2,a3,a4,a5⟩:=h;have e:(gN s).1=n:=by rw[a3]
 have h1:=Pa7 hb a1 (by omega) (by rw[a2,e];exact a4) (by rw[a2,e];exact a5);rw[a2,e]at h1;exact h1
section
variable{D0:HP}{a:Option Addr}{c:Nat}{b:List Int}{W w:World}{R R':List HP}
theorem SJ7(hno:∀p l n,¬VGk b p l n)(hat:At D0 a c b)(hb:ByB b)(hN:b.length<=990000)(ht:Take R D0 R')(hS:St W R w):
  Calls Tryz.prog 152 #[.slice a b.length c] w fun e w'=>e=.returned (.tuple #[.pointer none,.I 3])/\St W R w':=by
 refine(Mp7 D0 a c b hat hb hN W w R R' ht hS).mono ?_;rintro e w' (⟨_,h2,h3⟩|⟨p,l,n,h,_⟩)
 ·exact⟨h2,h3⟩
 ·exact absurd h (hno p l n)
theorem Ga7{p:Ps}{l:List Ord}{n:Int}(h:VGk b p l n)(hat:At D0 a c b)(hb:ByB b)(hN:b.length<=990000)(ht:Take R D0 R')(hS:St W R w):
  Calls Tryz.prog 152 #[.slice a b.length c] w fun e w'=>∃vb mb bb,e=.returned (.tuple #[.P vb,.I 0])/\St W (t8 vb mb bb p l n R) w':=by
 refine(Mp7 D0 a c b hat hb hN W w R R' ht hS).mono ?_;rintro e w' (⟨h1,_⟩|⟨p2,l2,n2,h2,vb,mb,bb,h3,h4⟩)
 ·exact absurd h (h1 p l n)
 ·obtain⟨rfl,rfl,rfl⟩:=FZ7 h h2;exact⟨vb,mb,bb,h3,h4⟩
theorem Fw7(hno:∀p l n,¬VGk b p l n)(hat:At D0 a c b)(hcap:b.length<=c/\c<=9223372036854775807)(hb:ByB b)(hN:b.length<=9000)(ht:Take R D0 R')(hS:St W R w):
  Calls Tryz.prog 159 #[.slice a b.length c] w fun e w'=>e=.returned (.tuple #[.pointer none,.I 3])/\St W R w':=by
 refine(Ml7 D0 a c b hat hcap hb hN W w R R' ht hS).mono ?_;rintro e w' (⟨_,h2,h3⟩|⟨h1,_⟩)
 ·exact⟨h2,h3⟩
 ·obtain⟨p,l,n,h⟩:=SH7 hb h1;exact absurd h (hno p l n)
theorem DS7{p:Ps}{l:List Ord}{n:Int}(h:VGk b p l n)(hat:At D0 a c b)(hcap:b.length<=c/\c<=9223372036854775807)(hb:ByB b)(hN:b.length<=9000)(ht:Take R D0 R')(hS:St W R w):
  Calls Tryz.prog 159 #[.slice a b.length c] w fun e w'=>∃xb xB,e=.returned (.tuple #[.P xb,.I 0])/\St W (xvR xb xB p l n R) w':=by
 obtain⟨h1,h2,h3,h4⟩:=SI7 hb hN h;refine(Ml7 D0 a c b hat hcap hb hN W w R R' ht hS).mono ?_;rw[h2,h3,h4];rintro e w' (⟨h5,_⟩|⟨_,xb,xB,v,h6,h7⟩)
 ·exact absurd h1 h5
 ·exact⟨xb,xB,h6,cw4 h7⟩
end
end Go.Proofs.YtlmhakmoioogaaaGreat
end
