/-
  The document's purses together.
-/
import Derived.Test.YtienbkdjkjbelaaGreatJuRM5
import Derived.Test.YtienbkdjkjbelaaGreatJuRM30
import Derived.Test.YtienbkdjkjbelaaGreatJuRM31
set_option maxHeartbeats 16000000
set_option maxRecDepth 100000
set_option linter.unusedSimpArgs false
set_option linter.unusedVariables false
section
namespace Go.Proofs.YtienbkdjkjbelaaGreat
open Go.RowKit Go.Sl
def Ad8(W:World)(F:It->List HP)(i j:It)(v:Value)(w:World):Prop:=
 (v=.I 0/\St W (F i) w)\/(v=.I 1/\i.x0+j.x0<=1152921504606846976/\St W (F ⟨i.x0+j.x0,i.x1,i.x2,i.x3⟩) w)\/(v=.I 2/\(i.x0+j.x0<=1152921504606846976/\i.x1+j.x1<=1152921504606846976)/\St W (F ⟨i.x0+j.x0,i.x1+j.x1,i.x2,i.x3⟩) w) \/
  (v=.I 3/\(i.x0+j.x0<=1152921504606846976/\i.x1+j.x1<=1152921504606846976/\i.x2+j.x2<=1152921504606846976)/\St W (F ⟨i.x0+j.x0,i.x1+j.x1,i.x2+j.x2,i.x3⟩) w)\/(v=.I 4/\(i.x0+j.x0<=1152921504606846976/\i.x1+j.x1<=1152921504606846976/\i.x2+j.x2<=1152921504606846976/\i.x3+j.x3<=1152921504606846976)/\St W (F (ac4 i j)) w)
theorem eL4(l:List It)(v:Value)(W w:World)(R:List HP)(hS:St W (row v 4 34 l.length (l.flatMap It.cells)::R) w):
  Calls Tryz.prog 36 #[v] w fun e w'=>e=.returned (.tuple #[.agg (bg4 l).cells.toArray,.bool (J7 l it0).isSome])/\St W (row v 4 34 l.length (l.flatMap It.cells)::R) w':=by
 obtain⟨a,cap,rfl⟩:=hS.rowVal
 have h63:l.length<=9223372036854775807:=by
  rcases St.rowCase hS with ⟨_,h0,_⟩|⟨_,_,h1,h2⟩
  ·omega
  ·omega
 go_enter Tryz.func36,Tryz.ntmps36;go_wp2_with(first|(fail_if_success (have:=bA));(with_reducible apply Ap7 hS);rfl;rfl;exact zsS;clear hS;intro bA w hS;refine frS ?_|(have:=bA);(with_reducible apply Ap7 hS);rfl;rfl;exact zsS;clear hS;intro bB w hS;refine frS ?_)
 go_loopw [5] (fun v wr=>AdR W (fun q=>[blk bB [.I q.x0,.I q.x1,.I q.x2,.I q.x3] 34,blk bA [.I 0,.I 0,.I 0,.I 0] 34,row (.slice a l.length cap) 4 34 l.length (l.flatMap It.cells)]++R) l v wr) (fun v _=>l.length-(intOf v).toNat)
 case atStart=>exact⟨0,it0,rfl,Nat.zero_le _,rfl,rfl,hS⟩
 case round=>
  clear hS;obtain⟨n,s,rfl,hnl,hs,he,hS⟩:=hrel;simp only[jK,jN]at hS;obtain⟨s0,s1,s2,s3⟩:=s;simp only at hS;by_cases hn:n=l.length
  ·subst hn;rw[List.drop_length]at he;have E:=jH he;clear he;go_wp2_with(first|refine zlN hS ?_|refine zsN hS ?_;clear hS;intro w hS);apply Ac7;rfl;rfl;rfl;rfl;exact hS;decide +kernel;(exact m8);kernel_rfl;unfold bg4;rw[E.out];exact⟨rfl,hS.drop.drop⟩
  ·have hn1:n<l.length:=by omega
   obtain⟨⟨g,rfl⟩,hcap,hcn⟩:=St.rowAddr hS.drop.drop (by omega);have hx:∀{K K':List HP},Take K (row (.S g l.length cap) 4 34 l.length (l.flatMap It.cells)) K'->d8 K g (n*4) (It.cells l[n]):=fun hu=>d8.elemM (enc:=It.cells) It.len hu hn1
   have hdr:l.drop n=l[n]::l.drop (n+1):=List.drop_eq_getElem_cons hn1;rw[hdr]at he;clear hdr;generalize l[n]=x at hx he;obtain⟨x0,x1,x2,x3⟩:=x;simp only[It.cells]at hx
   cases hi:s8 ⟨x0,x1,x2,x3⟩with
   | false=>
    have E:=jH (show J7 l it0=none by rw[he,J7,if_neg (fun h=>by rw[hi]at h;cases h.1)]);clear he;go_wp2_with(first|refine zlN hS ?_ (hc:=by exact hx (by exact i7))|go_at_call 77;refine(Cb7 _ _ _ _ W _ _ hS).mono ?_;clear hS;rw[hi];rintro e w ⟨rfl,hS⟩|refine zsN hS ?_;clear hS;intro w hS);apply Ac7;rfl;rfl;rfl;rfl;exact hS;decide +kernel;(exact m8);kernel_rfl;unfold bg4;rw[E.out];exact⟨rfl,hS.s _⟩
   | true=>
    have he2:J7 l it0=if s8 (ac4 ⟨s0,s1,s2,s3⟩ ⟨x0,x1,x2,x3⟩)=true then J7 (l.drop (n+1)) (ac4 ⟨s0,s1,s2,s3⟩ ⟨x0,x1,x2,x3⟩)else none:=by rw[he,J7];simp[hi]
    have E2:=jH he2;clear he he2;obtain⟨a0,a1,a2,a3⟩:=Ah7.1 hi;obtain⟨b0,b1,b2,b3⟩:=Ah7.1 hs;simp only at a0 a1 a2 a3 b0 b1 b2 b3;go_wp2_with(first|refine zlN hS ?_ (hc:=by exact hx (by exact i7))|go_at_call 77;refine(Cb7 _ _ _ _ W _ _ hS).mono ?_;clear hS;rw[hi];rintro e w ⟨rfl,hS⟩)
    go_loopw [6] (fun v wr=>Ad8 W (fun q=>[blk bB [.I q.x0,.I q.x1,.I q.x2,.I q.x3] 34,blk bA [.I 0,.I 0,.I 0,.I 0] 34,row (.S g l.length cap) 4 34 l.length (l.flatMap It.cells)]++R) ⟨s0,s1,s2,s3⟩ ⟨x0,x1,x2,x3⟩ v wr) (fun v _=>4-(intOf v).toNat)
    case atStart=>exact .inl ⟨rfl,hS⟩
    case round=>
     clear hS hs hi;simp only[Ad8,ac4,jK,jN]at hrel
     rcases hrel with ⟨rfl,hS⟩|⟨rfl,c0,hS⟩|⟨rfl,⟨c0,c1⟩,hS⟩|⟨rfl,⟨c0,c1,c2⟩,hS⟩|⟨rfl,⟨c0,c1,c2,c3⟩,hS⟩
     ·skip
      by_cases h1:1152921504606846976-s0<x0
      ·have E:=jH (show J7 l it0=none by rw[E2.out,if_neg (fun h=>by obtain⟨p0,p1,p2,p3⟩:=Ah7.1 h;simp only[ac4]at p0 p1 p2 p3;omega)]);go_wp2_with(fail);refine Aa7 (by kernel_rfl) (by kernel_rfl) hS ?_
       iterate 5 (refine qR ?_)
       (apply An7;rfl;rfl;rfl;decide +kernel;exact hx (by exact i7) 0 _ rfl;refine frS ?_)
       iterate 2 (refine qR ?_)
       (refine zq1 ?_)
       iterate 2 (refine qR ?_)
       clear hS;intro w hS;go_wp2_with(first|refine zsN hS ?_;clear hS;intro w hS);apply Ac7;rfl;rfl;rfl;rfl;exact hS;decide +kernel;(exact m8);kernel_rfl;unfold bg4;rw[E.out];exact⟨rfl,hS.s _⟩
      ·have d1:decide (1152921504606846976-s0<x0)=false:=by simpa using h1
       go_wp2_with(fail);refine Aa7 (by kernel_rfl) (by kernel_rfl) hS ?_
       iterate 5 (refine qR ?_)
       (apply An7;rfl;rfl;rfl;decide +kernel;exact hx (by exact i7) 0 _ rfl;refine frS ?_)
       iterate 2 (refine qR ?_)
       (refine zq1 ?_)
       iterate 2 (refine qR ?_)
       clear hS;intro w hS;go_wp2_with(fail);refine rt 12 hS ?_
       iterate 3 (refine qR ?_)
       (refine zq1 ?_)
       iterate 5 (refine qR ?_)
       (apply An7;rfl;rfl;rfl;decide +kernel;exact hx (by exact i7) 0 _ rfl;refine frS ?_)
       iterate 2 (refine qR ?_)
       clear hS;intro w hS;simp only[jD,List.drop_zero];go_wp2_with(first|refine zs1 hS ?_;clear hS;intro w hS);go_roundw
       case rel=>exact .inr (.inl ⟨rfl,by simp only;omega,hS⟩)
       case measure=>simp[intOf]
     ·skip
      by_cases h1:1152921504606846976-s1<x1
      ·have E:=jH (show J7 l it0=none by rw[E2.out,if_neg (fun h=>by obtain⟨p0,p1,p2,p3⟩:=Ah7.1 h;simp only[ac4]at p0 p1 p2 p3;omega)]);go_wp2_with(fail);refine Aa7 (by kernel_rfl) (by kernel_rfl) hS ?_
       iterate 5 (refine qR ?_)
       (apply An7;rfl;rfl;rfl;decide +kernel;exact hx (by exact i7) 1 _ rfl;refine frS ?_)
       iterate 2 (refine qR ?_)
       (refine zq1 ?_)
       iterate 2 (refine qR ?_)
       clear hS;intro w hS;go_wp2_with(first|refine zsN hS ?_;clear hS;intro w hS);apply Ac7;rfl;rfl;rfl;rfl;exact hS;decide +kernel;(exact m8);kernel_rfl;unfold bg4;rw[E.out];exact⟨rfl,hS.s _⟩
      ·have d1:decide (1152921504606846976-s1<x1)=false:=by simpa using h1
       go_wp2_with(fail);refine Aa7 (by kernel_rfl) (by kernel_rfl) hS ?_
       iterate 5 (refine qR ?_)
       (apply An7;rfl;rfl;rfl;decide +kernel;exact hx (by exact i7) 1 _ rfl;refine frS ?_)
       iterate 2 (refine qR ?_)
       (refine zq1 ?_)
       iterate 2 (refine qR ?_)
       clear hS;intro w hS;go_wp2_with(fail);refine rt 12 hS ?_
       iterate 3 (refine qR ?_)
       (refine zq1 ?_)
       iterate 5 (refine qR ?_)
       (apply An7;rfl;rfl;rfl;decide +kernel;exact hx (by exact i7) 1 _ rfl;refine frS ?_)
       iterate 2 (refine qR ?_)
       clear hS;intro w hS;simp only[jD,List.drop_zero];go_wp2_with(first|refine zs1 hS ?_;clear hS;intro w hS);go_roundw
       case rel=>exact .inr (.inr (.inl ⟨rfl,⟨c0,by simp only;omega⟩,hS⟩))
       case measure=>simp[intOf]
     ·skip
      by_cases h1:1152921504606846976-s2<x2
      ·have E:=jH (show J7 l it0=none by rw[E2.out,if_neg (fun h=>by obtain⟨p0,p1,p2,p3⟩:=Ah7.1 h;simp only[ac4]at p0 p1 p2 p3;omega)]);go_wp2_with(fail);refine Aa7 (by kernel_rfl) (by kernel_rfl) hS ?_
       iterate 5 (refine qR ?_)
       (apply An7;rfl;rfl;rfl;decide +kernel;exact hx (by exact i7) 2 _ rfl;refine frS ?_)
       iterate 2 (refine qR ?_)
       (refine zq1 ?_)
       iterate 2 (refine qR ?_)
       clear hS;intro w hS;go_wp2_with(first|refine zsN hS ?_;clear hS;intro w hS);apply Ac7;rfl;rfl;rfl;rfl;exact hS;decide +kernel;(exact m8);kernel_rfl;unfold bg4;rw[E.out];exact⟨rfl,hS.s _⟩
      ·have d1:decide (1152921504606846976-s2<x2)=false:=by simpa using h1
       go_wp2_with(fail);refine Aa7 (by kernel_rfl) (by kernel_rfl) hS ?_
       iterate 5 (refine qR ?_)
       (apply An7;rfl;rfl;rfl;decide +kernel;exact hx (by exact i7) 2 _ rfl;refine frS ?_)
       iterate 2 (refine qR ?_)
       (refine zq1 ?_)
       iterate 2 (refine qR ?_)
       clear hS;intro w hS;go_wp2_with(fail);refine rt 12 hS ?_
       iterate 3 (refine qR ?_)
       (refine zq1 ?_)
       iterate 5 (refine qR ?_)
       (apply An7;rfl;rfl;rfl;decide +kernel;exact hx (by exact i7) 2 _ rfl;refine frS ?_)
       iterate 2 (refine qR ?_)
       clear hS;intro w hS;simp only[jD,List.drop_zero];go_wp2_with(first|refine zs1 hS ?_;clear hS;intro w hS);go_roundw
       case rel=>exact .inr (.inr (.inr (.inl ⟨rfl,⟨c0,c1,by simp only;omega⟩,hS⟩)))
       case measure=>simp[intOf]
     ·skip
      by_cases h1:1152921504606846976-s3<x3
      ·have E:=jH (show J7 l it0=none by rw[E2.out,if_neg (fun h=>by obtain⟨p0,p1,p2,p3⟩:=Ah7.1 h;simp only[ac4]at p0 p1 p2 p3;omega)]);go_wp2_with(fail);refine Aa7 (by kernel_rfl) (by kernel_rfl) hS ?_
       iterate 5 (refine qR ?_)
       (apply An7;rfl;rfl;rfl;decide +kernel;exact hx (by exact i7) 3 _ rfl;refine frS ?_)
       iterate 2 (refine qR ?_)
       (refine zq1 ?_)
       iterate 2 (refine qR ?_)
       clear hS;intro w hS;go_wp2_with(first|refine zsN hS ?_;clear hS;intro w hS);apply Ac7;rfl;rfl;rfl;rfl;exact hS;decide +kernel;(exact m8);kernel_rfl;unfold bg4;rw[E.out];exact⟨rfl,hS.s _⟩
      ·have d1:decide (1152921504606846976-s3<x3)=false:=by simpa using h1
       go_wp2_with(fail);refine Aa7 (by kernel_rfl) (by kernel_rfl) hS ?_
       iterate 5 (refine qR ?_)
       (apply An7;rfl;rfl;rfl;decide +kernel;exact hx (by exact i7) 3 _ rfl;refine frS ?_)
       iterate 2 (refine qR ?_)
       (refine zq1 ?_)
       iterate 2 (refine qR ?_)
       clear hS;intro w hS;go_wp2_with(fail);refine rt 12 hS ?_
       iterate 3 (refine qR ?_)
       (refine zq1 ?_)
       iterate 5 (refine qR ?_)
       (apply An7;rfl;rfl;rfl;decide +kernel;exact hx (by exact i7) 3 _ rfl;refine frS ?_)
       iterate 2 (refine qR ?_)
       clear hS;intro w hS;simp only[jD,List.drop_zero];go_wp2_with(first|refine zs1 hS ?_;clear hS;intro w hS);go_roundw
       case rel=>exact .inr (.inr (.inr (.inr ⟨rfl,⟨c0,c1,c2,by simp only;omega⟩,hS⟩)))
       case measure=>simp[intOf]
     ·have hq:s8 ⟨s0+x0,s1+x1,s2+x2,s3+x3⟩=true:=Ah7.2 ⟨⟨by simp only;omega,c0⟩,⟨by simp only;omega,c1⟩,⟨by simp only;omega,c2⟩,by simp only;omega,c3⟩;have E:=jH (show J7 l it0=J7 (l.drop (n+1)) ⟨s0+x0,s1+x1,s2+x2,s3+x3⟩by rw[E2.out,ac4];simp[hq]);have Hq:=jH hq;clear E2 hq;go_wp2_with(fail);go_roundw
      case rel=>exact⟨n+1,_,rfl,hn1,Hq.out,E.out,hS.s _⟩
      case measure=>simp[intOf];omega
def xvP(xb:Nat)(vB:Value)(n:Int)(p:Ps):HP:=fun f=>∃v:Value,sats [blk xb [v,vB,.I n] 183,hdR v (hdL p)] f
section
variable{W w:World}{xb:Nat}{vB:Value}{n:Int}{p:Ps}{R:List HP}{N:Nat}
theorem aE4(h:St W (xvP xb vB n p::R) w):∃v,St W (xvL xb v vB n (hdL p) R) w:=by obtain⟨v,h⟩:=St.ex h;exact⟨v,(St.split (St.split h).swap).swap.drop.swap⟩
theorem ag4{v:Value}(h:St W (xvL xb v vB n (hdL p) R) w):St W (xvP xb vB n p::R) w:=by refine St.mkEx v ?_;refine St.join ?_;refine St.swap (St.imp h.swap ?_);intro f hf;exact⟨fun _=>true,hf,trivial⟩
theorem bd4(hw:PsW p N){k:ByteArray}{x0 x1 x2 x3:Int}(hx:j7 p k=⟨x0,x1,x2,x3⟩)(hS:St W (xvP xb vB n p::R) w):
  Calls Tryz.prog 100 #[.P xb,.string k] w fun e w'=>e=.returned (.agg #[.I x0,.I x1,.I x2,.I x3])/\St W (xvP xb vB n p::R) w':=by
 obtain⟨v,hS⟩:=aE4 hS;refine(fB4 (hdL p) k xb v vB n W w R hS).mono ?_;rw[NI7 hw,hx];rintro e w' ⟨rfl,hS⟩;exact⟨rfl,ag4 hS⟩
theorem Dk7(hw:PsW p N){k:ByteArray}{x0 x1 x2 x3:Int}(hx:j7 p k=⟨x0,x1,x2,x3⟩){L1 R1:List HP}(hS:St W L1 w)(ht:Take L1 (xvP xb vB n p) R1):
  Calls Tryz.prog 100 #[.P xb,.string k] w fun e w'=>e=.returned (.agg #[.I x0,.I x1,.I x2,.I x3])/\St W L1 w':=by
 refine(bd4 hw hx (hS.take ht)).mono ?_;rintro e w' ⟨rfl,hS⟩;exact⟨rfl,hS.back ht⟩
theorem be4(hw:PsW p N)(hN:N<=1000000)(k:ByteArray)(i:It)(hS:St W (xvP xb vB n p::R) w):
  Calls Tryz.prog 101 #[.P xb,.string k,.agg i.cells.toArray] w fun e w'=>e=.returned (.tuple #[])/\St W (xvP xb vB n (E7 p k i)::R) w':=by
 obtain⟨v,hS⟩:=aE4 hS;have hl:=hw.len;refine(fC4 (hdL p) k i (by rw[ED7];omega) xb v vB n W w R hS).mono ?_;rw[NJ7 hw];rintro e w' ⟨rfl,v',hS⟩;exact⟨rfl,ag4 hS⟩
theorem KG7{l:List It}{s0 s1 s2 s3:Int}(h:J7 l it0=some ⟨s0,s1,s2,s3⟩)(v:Value)(W w:World)(R:List HP)(hS:St W (row v 4 34 l.length (l.flatMap It.cells)::R) w):
  Calls Tryz.prog 36 #[v] w fun e w'=>e=.returned (.tuple #[.agg #[.I s0,.I s1,.I s2,.I s3],.bool true])/\St W R w':=
 (eL4 l v W w R hS).mono fun e w' ⟨he,hS⟩=>⟨by rw[he,bg4,h];rfl,hS.drop⟩
theorem KH7{l:List It}(h:J7 l it0=none)(v:Value)(W w:World)(R:List HP)(hS:St W (row v 4 34 l.length (l.flatMap It.cells)::R) w):
  Calls Tryz.prog 36 #[v] w fun e w'=>e=.returned (.tuple #[.agg #[.I 0,.I 0,.I 0,.I 0],.bool false])/\St W R w':=
 (eL4 l v W w R hS).mono fun e w' ⟨he,hS⟩=>⟨by rw[he,bg4,h];rfl,hS.drop⟩
theorem Mk7{x0 x1 x2 x3 y0 y1 y2 y3:Int}(h:G6 ⟨x0,x1,x2,x3⟩ ⟨y0,y1,y2,y3⟩=true)(W w:World)(R:List HP)(hS:St W R w):
  Calls Tryz.prog 133 #[.agg #[.I x0,.I x1,.I x2,.I x3],.agg #[.I y0,.I y1,.I y2,.I y3]] w fun e w'=>e=.returned (.tuple #[.agg #[.I (x0-y0),.I (x1-y1),.I (x2-y2),.I (x3-y3)],.bool true])/\St W R w':=
 (eK4 ⟨x0,x1,x2,x3⟩ ⟨y0,y1,y2,y3⟩ W w R hS).mono fun e w' ⟨he,hS⟩=>⟨by rw[he,bo4,h];rfl,hS⟩
theorem NK7{x0 x1 x2 x3 y0 y1 y2 y3:Int}(h:G6 ⟨x0,x1,x2,x3⟩ ⟨y0,y1,y2,y3⟩=false)(W w:World)(R:List HP)(hS:St W R w):
  Calls Tryz.prog 133 #[.agg #[.I x0,.I x1,.I x2,.I x3],.agg #[.I y0,.I y1,.I y2,.I y3]] w fun e w'=>e=.returned (.tuple #[.agg #[.I 0,.I 0,.I 0,.I 0],.bool false])/\St W R w':=
 (eK4 ⟨x0,x1,x2,x3⟩ ⟨y0,y1,y2,y3⟩ W w R hS).mono fun e w' ⟨he,hS⟩=>⟨by rw[he,bo4,h];rfl,hS⟩
end
section
variable(xb:Nat)(vB:Value)(n:Int)(p:Ps)(N:Nat)(W w:World)(R:List HP)
theorem bU4(hw:PsW p N)(hN:N<=1000000)(who:ByteArray)(k m:Int)(hx:s8 (j7 p who)=true)(hk:0<=k/\k<=3)(hm:0<=m/\m<=1152921504606846976)(hS:St W (xvP xb vB n p::R) w):
  Calls Tryz.prog 136 #[.P xb,.string who,.I k,.I m] w fun e w'=>e=.returned (.tuple #[])/\St W (xvP xb vB n (k9 p who k m)::R) w':=by
 obtain⟨px,hp⟩:∃x,j7 p who=x:=⟨_,rfl⟩
 rw[hp]at hx;obtain⟨p0,p1,p2,p3⟩:=px;have Hx:=jH hp;have Hw:=jH hw;clear hp hw;obtain⟨a0,a1,a2,a3⟩:=Ah7.1 hx;simp only at a0 a1 a2 a3;clear hx;have hk4:k=0\/k=1\/k=2\/k=3:=by omega
 rcases hk4 with rfl|rfl|rfl|rfl
 ·skip
  by_cases hc:p0+m<1152921504606846976
  ·have hcap:O5 (p0+m)=p0+m:=by unfold O5;rw[if_neg (by omega)]
   have hmin:min (1152921504606846976:Int) (p0+m)=p0+m:=by omega
   have e:k9 p who 0 m=E7 p who ⟨p0+m,p1,p2,p3⟩:=by unfold k9 ad4;rw[Hx.out];simp[ap4,H8,hcap]
   rw[e];clear e hcap;go_enter Tryz.func136,Tryz.ntmps136;go_wp2_with(first|go_at_call 100;refine(bd4 Hw.out Hx.out hS).mono ?_;clear hS;rintro e w ⟨rfl,hS⟩|go_at_call 101;refine(be4 Hw.out hN who ⟨p0+m,p1,p2,p3⟩ (hS.s (xvP xb vB n p::blk b8 _ _::R))).mono ?_;clear hS;rintro e w ⟨rfl,hS⟩|(with_reducible apply Ap7 hS);rfl;rfl;exact zsS;clear hS;intro b8 w hS;refine frS ?_|refine zsN hS ?_;clear hS;intro w hS|refine zlN hS ?_|refine zl1 hS ?_|refine zs1 hS ?_;clear hS;intro w hS);go_end0;exact⟨rfl,hS.s _⟩
  ·have hcap:O5 (p0+m)=1152921504606846976:=by unfold O5;split <;> omega
   have hmin:min (1152921504606846976:Int) (p0+m)=1152921504606846976:=by omega
   have e:k9 p who 0 m=E7 p who ⟨1152921504606846976,p1,p2,p3⟩:=by unfold k9 ad4;rw[Hx.out];simp[ap4,H8,hcap]
   rw[e];clear e hcap;go_enter Tryz.func136,Tryz.ntmps136;go_wp2_with(first|go_at_call 100;refine(bd4 Hw.out Hx.out hS).mono ?_;clear hS;rintro e w ⟨rfl,hS⟩|go_at_call 101;refine(be4 Hw.out hN who ⟨1152921504606846976,p1,p2,p3⟩ (hS.s (xvP xb vB n p::blk b8 _ _::R))).mono ?_;clear hS;rintro e w ⟨rfl,hS⟩|(with_reducible apply Ap7 hS);rfl;rfl;exact zsS;clear hS;intro b8 w hS;refine frS ?_|refine zsN hS ?_;clear hS;intro w hS|refine zlN hS ?_|refine zl1 hS ?_|refine zs1 hS ?_;clear hS;intro w hS);go_end0;exact⟨rfl,hS.s _⟩
 ·skip
  by_cases hc:p1+m<1152921504606846976
  ·have hcap:O5 (p1+m)=p1+m:=by unfold O5;rw[if_neg (by omega)]
   have hmin:min (1152921504606846976:Int) (p1+m)=p1+m:=by omega
   have e:k9 p who 1 m=E7 p who ⟨p0,p1+m,p2,p3⟩:=by unfold k9 ad4;rw[Hx.out];simp[ap4,H8,hcap]
   rw[e];clear e hcap;go_enter Tryz.func136,Tryz.ntmps136;go_wp2_with(first|go_at_call 100;refine(bd4 Hw.out Hx.out hS).mono ?_;clear hS;rintro e w ⟨rfl,hS⟩|go_at_call 101;refine(be4 Hw.out hN who ⟨p0,p1+m,p2,p3⟩ (hS.s (xvP xb vB n p::blk b8 _ _::R))).mono ?_;clear hS;rintro e w ⟨rfl,hS⟩|(with_reducible apply Ap7 hS);rfl;rfl;exact zsS;clear hS;intro b8 w hS;refine frS ?_|refine zsN hS ?_;clear hS;intro w hS|refine zlN hS ?_|refine zl1 hS ?_|refine zs1 hS ?_;clear hS;intro w hS);go_end0;exact⟨rfl,hS.s _⟩
  ·have hcap:O5 (p1+m)=1152921504606846976:=by unfold O5;split <;> omega
   have hmin:min (1152921504606846976:Int) (p1+m)=1152921504606846976:=by omega
   have e:k9 p who 1 m=E7 p who ⟨p0,1152921504606846976,p2,p3⟩:=by unfold k9 ad4;rw[Hx.out];simp[ap4,H8,hcap]
   rw[e];clear e hcap;go_enter Tryz.func136,Tryz.ntmps136;go_wp2_with(first|go_at_call 100;refine(bd4 Hw.out Hx.out hS).mono ?_;clear hS;rintro e w ⟨rfl,hS⟩|go_at_call 101;refine(be4 Hw.out hN who ⟨p0,1152921504606846976,p2,p3⟩ (hS.s (xvP xb vB n p::blk b8 _ _::R))).mono ?_;clear hS;rintro e w ⟨rfl,hS⟩|(with_reducible apply Ap7 hS);rfl;rfl;exact zsS;clear hS;intro b8 w hS;refine frS ?_|refine zsN hS ?_;clear hS;intro w hS|refine zlN hS ?_|refine zl1 hS ?_|refine zs1 hS ?_;clear hS;intro w hS);go_end0;exact⟨rfl,hS.s _⟩
 ·skip
  by_cases hc:p2+m<1152921504606846976
  ·have hcap:O5 (p2+m)=p2+m:=by unfold O5;rw[if_neg (by omega)]
   have hmin:min (1152921504606846976:Int) (p2+m)=p2+m:=by omega
   have e:k9 p who 2 m=E7 p who ⟨p0,p1,p2+m,p3⟩:=by unfold k9 ad4;rw[Hx.out];simp[ap4,H8,hcap]
   rw[e];clear e hcap;go_enter Tryz.func136,Tryz.ntmps136;go_wp2_with(first|go_at_call 100;refine(bd4 Hw.out Hx.out hS).mono ?_;clear hS;rintro e w ⟨rfl,hS⟩|go_at_call 101;refine(be4 Hw.out hN who ⟨p0,p1,p2+m,p3⟩ (hS.s (xvP xb vB n p::blk b8 _ _::R))).mono ?_;clear hS;rintro e w ⟨rfl,hS⟩|(with_reducible apply Ap7 hS);rfl;rfl;exact zsS;clear hS;intro b8 w hS;refine frS ?_|refine zsN hS ?_;clear hS;intro w hS|refine zlN hS ?_|refine zl1 hS ?_|refine zs1 hS ?_;clear hS;intro w hS);go_end0;exact⟨rfl,hS.s _⟩
  ·have hcap:O5 (p2+m)=1152921504606846976:=by unfold O5;split <;> omega
   have hmin:min (1152921504606846976:Int) (p2+m)=1152921504606846976:=by omega
   have e:k9 p who 2 m=E7 p who ⟨p0,p1,1152921504606846976,p3⟩:=by unfold k9 ad4;rw[Hx.out];simp[ap4,H8,hcap]
   rw[e];clear e hcap;go_enter Tryz.func136,Tryz.ntmps136;go_wp2_with(first|go_at_call 100;refine(bd4 Hw.out Hx.out hS).mono ?_;clear hS;rintro e w ⟨rfl,hS⟩|go_at_call 101;refine(be4 Hw.out hN who ⟨p0,p1,1152921504606846976,p3⟩ (hS.s (xvP xb vB n p::blk b8 _ _::R))).mono ?_;clear hS;rintro e w ⟨rfl,hS⟩|(with_reducible apply Ap7 hS);rfl;rfl;exact zsS;clear hS;intro b8 w hS;refine frS ?_|refine zsN hS ?_;clear hS;intro w hS|refine zlN hS ?_|refine zl1 hS ?_|refine zs1 hS ?_;clear hS;intro w hS);go_end0;exact⟨rfl,hS.s _⟩
 ·skip
  by_cases hc:p3+m<1152921504606846976
  ·have hcap:O5 (p3+m)=p3+m:=by unfold O5;rw[if_neg (by omega)]
   have hmin:min (1152921504606846976:Int) (p3+m)=p3+m:=by omega
   have e:k9 p who 3 m=E7 p who ⟨p0,p1,p2,p3+m⟩:=by unfold k9 ad4;rw[Hx.out];simp[ap4,H8,hcap]
   rw[e];clear e hcap;go_enter Tryz.func136,Tryz.ntmps136;go_wp2_with(first|go_at_call 100;refine(bd4 Hw.out Hx.out hS).mono ?_;clear hS;rintro e w ⟨rfl,hS⟩|go_at_call 101;refine(be4 Hw.out hN who ⟨p0,p1,p2,p3+m⟩ (hS.s (xvP xb vB n p::blk b8 _ _::R))).mono ?_;clear hS;rintro e w ⟨rfl,hS⟩|(with_reducible apply Ap7 hS);rfl;rfl;exact zsS;clear hS;intro b8 w hS;refine frS ?_|refine zsN hS ?_;clear hS;intro w hS|refine zlN hS ?_|refine zl1 hS ?_|refine zs1 hS ?_;clear hS;intro w hS);go_end0;exact⟨rfl,hS.s _⟩
  ·have hcap:O5 (p3+m)=1152921504606846976:=by unfold O5;split <;> omega
   have hmin:min (1152921504606846976:Int) (p3+m)=1152921504606846976:=by omega
   have e:k9 p who 3 m=E7 p who ⟨p0,p1,p2,1152921504606846976⟩:=by unfold k9 ad4;rw[Hx.out];simp[ap4,H8,hcap]
   rw[e];clear e hcap;go_enter Tryz.func136,Tryz.ntmps136;go_wp2_with(first|go_at_call 100;refine(bd4 Hw.out Hx.out hS).mono ?_;clear hS;rintro e w ⟨rfl,hS⟩|go_at_call 101;refine(be4 Hw.out hN who ⟨p0,p1,p2,1152921504606846976⟩ (hS.s (xvP xb vB n p::blk b8 _ _::R))).mono ?_;clear hS;rintro e w ⟨rfl,hS⟩|(with_reducible apply Ap7 hS);rfl;rfl;exact zsS;clear hS;intro b8 w hS;refine frS ?_|refine zsN hS ?_;clear hS;intro w hS|refine zlN hS ?_|refine zl1 hS ?_|refine zs1 hS ?_;clear hS;intro w hS);go_end0;exact⟨rfl,hS.s _⟩
end
end Go.Proofs.YtienbkdjkjbelaaGreat
end
