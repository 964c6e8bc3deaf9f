/-
  The document's purses together.
-/
import Derived.Test.YtlmhakmoioogaaaGreatEconBkM10
set_option maxHeartbeats 16000000
set_option maxRecDepth 100000
set_option linter.unusedSimpArgs false
set_option linter.unusedVariables false
section
namespace Go.Proofs.YtlmhakmoioogaaaGreat
open Go.RowKit Go.Sl
def Ad8(W:World)(F:It->List HP)(i j:It)(v:Value)(w:World):Prop:=
 (v=.I 0/\St W (F i) w)\/(v=.I 1/\i.x0+j.x0<=1152921504606846976/\St W (F ⟨i.x0+j.x0,i.x1,i.x2,i.x3⟩) w)\/(v=.I 2/\(i.x0+j.x0<=1152921504606846976/\i.x1+j.x1<=1152921504606846976)/\St W (F ⟨i.x0+j.x0,i.x1+j.x1,i.x2,i.x3⟩) w) \/
  (v=.I 3/\(i.x0+j.x0<=1152921504606846976/\i.x1+j.x1<=1152921504606846976/\i.x2+j.x2<=1152921504606846976)/\St W (F ⟨i.x0+j.x0,i.x1+j.x1,i.x2+j.x2,i.x3⟩) w)\/(v=.I 4/\(i.x0+j.x0<=1152921504606846976/\i.x1+j.x1<=1152921504606846976/\i.x2+j.x2<=1152921504606846976/\i.x3+j.x3<=1152921504606846976)/\St W (F (S7 i j)) w)
theorem fP4(l:List It)(v:Value)(W w:World)(R:List HP)(hS:St W (row v 4 29 l.length (l.flatMap It.cells)::R) w):
  Calls Tryz.prog 117 #[v] w fun e w'=>e=.returned (.tuple #[.agg (bK4 l).cells.toArray,.bool (G5 l it0).isSome])/\St W (row v 4 29 l.length (l.flatMap It.cells)::R) w':=by
 obtain⟨a,cap,rfl⟩:=hS.rowVal
 have h63:l.length<=9223372036854775807:=by
  rcases St.rowCase hS with ⟨_,h0,_⟩|⟨_,_,h1,h2⟩
  ·omega
  ·omega
 go_enter Tryz.func117,Tryz.ntmps117;go_wp2_with(first|(fail_if_success (have:=bA));(with_reducible apply Al7 hS);rfl;rfl;exact zsS;clear hS;intro bA w hS;refine frS ?_|(have:=bA);(with_reducible apply Al7 hS);rfl;rfl;exact zsS;clear hS;intro bB w hS;refine frS ?_)
 go_loopw [5] (fun v wr=>AdR W (fun q=>[blk bB [.I q.x0,.I q.x1,.I q.x2,.I q.x3] 29,blk bA [.I 0,.I 0,.I 0,.I 0] 29,row (.slice a l.length cap) 4 29 l.length (l.flatMap It.cells)]++R) l v wr) (fun v _=>l.length-(intOf v).toNat)
 case atStart=>exact⟨0,it0,rfl,Nat.zero_le _,rfl,rfl,hS⟩
 case round=>
  clear hS;obtain⟨n,s,rfl,hnl,hs,he,hS⟩:=hrel;simp only[jK,jN]at hS;obtain⟨s0,s1,s2,s3⟩:=s;simp only at hS;by_cases hn:n=l.length
  ·subst hn;rw[List.drop_length]at he;have E:=jH he;clear he;go_wp2_with(first|refine zlN hS ?_|refine zsN hS ?_;clear hS;intro w hS);apply Ac7;rfl;rfl;rfl;rfl;exact hS;decide +kernel;(exact x9);kernel_rfl;unfold bK4;rw[E.out];exact⟨rfl,hS.drop.drop⟩
  ·have hn1:n<l.length:=by omega
   obtain⟨⟨g,rfl⟩,hcap,hcn⟩:=St.rowAddr hS.drop.drop (by omega);have hx:∀{K K':List HP},Take K (row (.S g l.length cap) 4 29 l.length (l.flatMap It.cells)) K'->i8 K g (n*4) (It.cells l[n]):=fun hu=>i8.elemM (enc:=It.cells) It.len hu hn1
   have hdr:l.drop n=l[n]::l.drop (n+1):=List.drop_eq_getElem_cons hn1;rw[hdr]at he;clear hdr;generalize l[n]=x at hx he;obtain⟨x0,x1,x2,x3⟩:=x;simp only[It.cells]at hx
   cases hi:x8 ⟨x0,x1,x2,x3⟩with
   | false=>
    have E:=jH (show G5 l it0=none by rw[he,G5,if_neg (fun h=>by rw[hi]at h;cases h.1)]);clear he;go_wp2_with(first|refine zlN hS ?_ (hc:=by exact hx (by exact j5))|go_at_call 116;refine(CJ7 _ _ _ _ W _ _ hS).mono ?_;clear hS;rw[hi];rintro e w ⟨rfl,hS⟩|refine zsN hS ?_;clear hS;intro w hS);apply Ac7;rfl;rfl;rfl;rfl;exact hS;decide +kernel;(exact x9);kernel_rfl;unfold bK4;rw[E.out];exact⟨rfl,hS.s _⟩
   | true=>
    have he2:G5 l it0=if x8 (S7 ⟨s0,s1,s2,s3⟩ ⟨x0,x1,x2,x3⟩)=true then G5 (l.drop (n+1)) (S7 ⟨s0,s1,s2,s3⟩ ⟨x0,x1,x2,x3⟩)else none:=by rw[he,G5];simp[hi]
    have E2:=jH he2;clear he he2;obtain⟨a0,a1,a2,a3⟩:=Af7.1 hi;obtain⟨b0,b1,b2,b3⟩:=Af7.1 hs;simp only at a0 a1 a2 a3 b0 b1 b2 b3;go_wp2_with(first|refine zlN hS ?_ (hc:=by exact hx (by exact j5))|go_at_call 116;refine(CJ7 _ _ _ _ W _ _ hS).mono ?_;clear hS;rw[hi];rintro e w ⟨rfl,hS⟩)
    go_loopw [6] (fun v wr=>Ad8 W (fun q=>[blk bB [.I q.x0,.I q.x1,.I q.x2,.I q.x3] 29,blk bA [.I 0,.I 0,.I 0,.I 0] 29,row (.S g l.length cap) 4 29 l.length (l.flatMap It.cells)]++R) ⟨s0,s1,s2,s3⟩ ⟨x0,x1,x2,x3⟩ v wr) (fun v _=>4-(intOf v).toNat)
    case atStart=>exact .inl ⟨rfl,hS⟩
    case round=>
     clear hS hs hi;simp only[Ad8,S7,jK,jN]at hrel
     rcases hrel with ⟨rfl,hS⟩|⟨rfl,c0,hS⟩|⟨rfl,⟨c0,c1⟩,hS⟩|⟨rfl,⟨c0,c1,c2⟩,hS⟩|⟨rfl,⟨c0,c1,c2,c3⟩,hS⟩
     ·skip
      by_cases h1:1152921504606846976-s0<x0
      ·have E:=jH (show G5 l it0=none by rw[E2.out,if_neg (fun h=>by obtain⟨p0,p1,p2,p3⟩:=Af7.1 h;simp only[S7]at p0 p1 p2 p3;omega)]);go_wp2_with(fail);refine Aa7 (by kernel_rfl) (by kernel_rfl) hS ?_
       iterate 5 (refine qR ?_)
       (apply As7;rfl;rfl;rfl;decide +kernel;exact hx (by exact j5) 0 _ rfl;refine frS ?_)
       iterate 2 (refine qR ?_)
       (refine zq1 ?_)
       iterate 2 (refine qR ?_)
       clear hS;intro w hS;go_wp2_with(first|refine zsN hS ?_;clear hS;intro w hS);apply Ac7;rfl;rfl;rfl;rfl;exact hS;decide +kernel;(exact x9);kernel_rfl;unfold bK4;rw[E.out];exact⟨rfl,hS.s _⟩
      ·have d1:decide (1152921504606846976-s0<x0)=false:=by simpa using h1
       go_wp2_with(fail);refine Aa7 (by kernel_rfl) (by kernel_rfl) hS ?_
       iterate 5 (refine qR ?_)
       (apply As7;rfl;rfl;rfl;decide +kernel;exact hx (by exact j5) 0 _ rfl;refine frS ?_)
       iterate 2 (refine qR ?_)
       (refine zq1 ?_)
       iterate 2 (refine qR ?_)
       clear hS;intro w hS;go_wp2_with(fail);refine rt 12 hS ?_
       iterate 3 (refine qR ?_)
       (refine zq1 ?_)
       iterate 5 (refine qR ?_)
       (apply As7;rfl;rfl;rfl;decide +kernel;exact hx (by exact j5) 0 _ rfl;refine frS ?_)
       iterate 2 (refine qR ?_)
       clear hS;intro w hS;simp only[jD,List.drop_zero];go_wp2_with(first|refine zs1 hS ?_;clear hS;intro w hS);go_roundw
       case rel=>exact .inr (.inl ⟨rfl,by simp only;omega,hS⟩)
       case measure=>simp[intOf]
     ·skip
      by_cases h1:1152921504606846976-s1<x1
      ·have E:=jH (show G5 l it0=none by rw[E2.out,if_neg (fun h=>by obtain⟨p0,p1,p2,p3⟩:=Af7.1 h;simp only[S7]at p0 p1 p2 p3;omega)]);go_wp2_with(fail);refine Aa7 (by kernel_rfl) (by kernel_rfl) hS ?_
       iterate 5 (refine qR ?_)
       (apply As7;rfl;rfl;rfl;decide +kernel;exact hx (by exact j5) 1 _ rfl;refine frS ?_)
       iterate 2 (refine qR ?_)
       (refine zq1 ?_)
       iterate 2 (refine qR ?_)
       clear hS;intro w hS;go_wp2_with(first|refine zsN hS ?_;clear hS;intro w hS);apply Ac7;rfl;rfl;rfl;rfl;exact hS;decide +kernel;(exact x9);kernel_rfl;unfold bK4;rw[E.out];exact⟨rfl,hS.s _⟩
      ·have d1:decide (1152921504606846976-s1<x1)=false:=by simpa using h1
       go_wp2_with(fail);refine Aa7 (by kernel_rfl) (by kernel_rfl) hS ?_
       iterate 5 (refine qR ?_)
       (apply As7;rfl;rfl;rfl;decide +kernel;exact hx (by exact j5) 1 _ rfl;refine frS ?_)
       iterate 2 (refine qR ?_)
       (refine zq1 ?_)
       iterate 2 (refine qR ?_)
       clear hS;intro w hS;go_wp2_with(fail);refine rt 12 hS ?_
       iterate 3 (refine qR ?_)
       (refine zq1 ?_)
       iterate 5 (refine qR ?_)
       (apply As7;rfl;rfl;rfl;decide +kernel;exact hx (by exact j5) 1 _ rfl;refine frS ?_)
       iterate 2 (refine qR ?_)
       clear hS;intro w hS;simp only[jD,List.drop_zero];go_wp2_with(first|refine zs1 hS ?_;clear hS;intro w hS);go_roundw
       case rel=>exact .inr (.inr (.inl ⟨rfl,⟨c0,by simp only;omega⟩,hS⟩))
       case measure=>simp[intOf]
     ·skip
      by_cases h1:1152921504606846976-s2<x2
      ·have E:=jH (show G5 l it0=none by rw[E2.out,if_neg (fun h=>by obtain⟨p0,p1,p2,p3⟩:=Af7.1 h;simp only[S7]at p0 p1 p2 p3;omega)]);go_wp2_with(fail);refine Aa7 (by kernel_rfl) (by kernel_rfl) hS ?_
       iterate 5 (refine qR ?_)
       (apply As7;rfl;rfl;rfl;decide +kernel;exact hx (by exact j5) 2 _ rfl;refine frS ?_)
       iterate 2 (refine qR ?_)
       (refine zq1 ?_)
       iterate 2 (refine qR ?_)
       clear hS;intro w hS;go_wp2_with(first|refine zsN hS ?_;clear hS;intro w hS);apply Ac7;rfl;rfl;rfl;rfl;exact hS;decide +kernel;(exact x9);kernel_rfl;unfold bK4;rw[E.out];exact⟨rfl,hS.s _⟩
      ·have d1:decide (1152921504606846976-s2<x2)=false:=by simpa using h1
       go_wp2_with(fail);refine Aa7 (by kernel_rfl) (by kernel_rfl) hS ?_
       iterate 5 (refine qR ?_)
       (apply As7;rfl;rfl;rfl;decide +kernel;exact hx (by exact j5) 2 _ rfl;refine frS ?_)
       iterate 2 (refine qR ?_)
       (refine zq1 ?_)
       iterate 2 (refine qR ?_)
       clear hS;intro w hS;go_wp2_with(fail);refine rt 12 hS ?_
       iterate 3 (refine qR ?_)
       (refine zq1 ?_)
       iterate 5 (refine qR ?_)
       (apply As7;rfl;rfl;rfl;decide +kernel;exact hx (by exact j5) 2 _ rfl;refine frS ?_)
       iterate 2 (refine qR ?_)
       clear hS;intro w hS;simp only[jD,List.drop_zero];go_wp2_with(first|refine zs1 hS ?_;clear hS;intro w hS);go_roundw
       case rel=>exact .inr (.inr (.inr (.inl ⟨rfl,⟨c0,c1,by simp only;omega⟩,hS⟩)))
       case measure=>simp[intOf]
     ·skip
      by_cases h1:1152921504606846976-s3<x3
      ·have E:=jH (show G5 l it0=none by rw[E2.out,if_neg (fun h=>by obtain⟨p0,p1,p2,p3⟩:=Af7.1 h;simp only[S7]at p0 p1 p2 p3;omega)]);go_wp2_with(fail);refine Aa7 (by kernel_rfl) (by kernel_rfl) hS ?_
       iterate 5 (refine qR ?_)
       (apply As7;rfl;rfl;rfl;decide +kernel;exact hx (by exact j5) 3 _ rfl;refine frS ?_)
       iterate 2 (refine qR ?_)
       (refine zq1 ?_)
       iterate 2 (refine qR ?_)
       clear hS;intro w hS;go_wp2_with(first|refine zsN hS ?_;clear hS;intro w hS);apply Ac7;rfl;rfl;rfl;rfl;exact hS;decide +kernel;(exact x9);kernel_rfl;unfold bK4;rw[E.out];exact⟨rfl,hS.s _⟩
      ·have d1:decide (1152921504606846976-s3<x3)=false:=by simpa using h1
       go_wp2_with(fail);refine Aa7 (by kernel_rfl) (by kernel_rfl) hS ?_
       iterate 5 (refine qR ?_)
       (apply As7;rfl;rfl;rfl;decide +kernel;exact hx (by exact j5) 3 _ rfl;refine frS ?_)
       iterate 2 (refine qR ?_)
       (refine zq1 ?_)
       iterate 2 (refine qR ?_)
       clear hS;intro w hS;go_wp2_with(fail);refine rt 12 hS ?_
       iterate 3 (refine qR ?_)
       (refine zq1 ?_)
       iterate 5 (refine qR ?_)
       (apply As7;rfl;rfl;rfl;decide +kernel;exact hx (by exact j5) 3 _ rfl;refine frS ?_)
       iterate 2 (refine qR ?_)
       clear hS;intro w hS;simp only[jD,List.drop_zero];go_wp2_with(first|refine zs1 hS ?_;clear hS;intro w hS);go_roundw
       case rel=>exact .inr (.inr (.inr (.inr ⟨rfl,⟨c0,c1,c2,by simp only;omega⟩,hS⟩)))
       case measure=>simp[intOf]
     ·have hq:x8 ⟨s0+x0,s1+x1,s2+x2,s3+x3⟩=true:=Af7.2 ⟨⟨by simp only;omega,c0⟩,⟨by simp only;omega,c1⟩,⟨by simp only;omega,c2⟩,by simp only;omega,c3⟩;have E:=jH (show G5 l it0=G5 (l.drop (n+1)) ⟨s0+x0,s1+x1,s2+x2,s3+x3⟩by rw[E2.out,S7];simp[hq]);have Hq:=jH hq;clear E2 hq;go_wp2_with(fail);go_roundw
      case rel=>exact⟨n+1,_,rfl,hn1,Hq.out,E.out,hS.s _⟩
      case measure=>simp[intOf];omega
def xvP(xb:Nat)(vB:Value)(n:Int)(p:Ps):HP:=fun f=>∃v:Value,sats [blk xb [v,vB,.I n] 246,hdR v (hdL p)] f
section
variable{W w:World}{xb:Nat}{vB:Value}{n:Int}{p:Ps}{R:List HP}{N:Nat}
theorem bc4(h:St W (xvP xb vB n p::R) w):∃v,St W (xvL xb v vB n (hdL p) R) w:=by obtain⟨v,h⟩:=St.ex h;exact⟨v,(St.split (St.split h).swap).swap.drop.swap⟩
theorem au4{v:Value}(h:St W (xvL xb v vB n (hdL p) R) w):St W (xvP xb vB n p::R) w:=by refine St.mkEx v ?_;refine St.join ?_;refine St.swap (St.imp h.swap ?_);intro f hf;exact⟨fun _=>true,hf,trivial⟩
theorem bV4(hw:PsW p N){k:ByteArray}{x0 x1 x2 x3:Int}(hx:m5 p k=⟨x0,x1,x2,x3⟩)(hS:St W (xvP xb vB n p::R) w):
  Calls Tryz.prog 118 #[.P xb,.string k] w fun e w'=>e=.returned (.agg #[.I x0,.I x1,.I x2,.I x3])/\St W (xvP xb vB n p::R) w':=by
 obtain⟨v,hS⟩:=bc4 hS;refine(hm4 (hdL p) k xb v vB n W w R hS).mono ?_;rw[Tx7 hw,hx];rintro e w' ⟨rfl,hS⟩;exact⟨rfl,au4 hS⟩
theorem Et7(hw:PsW p N){k:ByteArray}{x0 x1 x2 x3:Int}(hx:m5 p k=⟨x0,x1,x2,x3⟩){L1 R1:List HP}(hS:St W L1 w)(ht:Take L1 (xvP xb vB n p) R1):
  Calls Tryz.prog 118 #[.P xb,.string k] w fun e w'=>e=.returned (.agg #[.I x0,.I x1,.I x2,.I x3])/\St W L1 w':=by
 refine(bV4 hw hx (hS.take ht)).mono ?_;rintro e w' ⟨rfl,hS⟩;exact⟨rfl,hS.back ht⟩
theorem ci4(hw:PsW p N)(hN:N<=1000000)(k:ByteArray)(i:It)(hS:St W (xvP xb vB n p::R) w):
  Calls Tryz.prog 119 #[.P xb,.string k,.agg i.cells.toArray] w fun e w'=>e=.returned (.tuple #[])/\St W (xvP xb vB n (K7 p k i)::R) w':=by
 obtain⟨v,hS⟩:=bc4 hS;have hl:=hw.len;refine(ho4 (hdL p) k i (by rw[Bl7];omega) xb v vB n W w R hS).mono ?_;rw[OF7 hw];rintro e w' ⟨rfl,v',hS⟩;exact⟨rfl,au4 hS⟩
theorem Jl7{l:List It}{s0 s1 s2 s3:Int}(h:G5 l it0=some ⟨s0,s1,s2,s3⟩)(v:Value)(W w:World)(R:List HP)(hS:St W (row v 4 29 l.length (l.flatMap It.cells)::R) w):
  Calls Tryz.prog 117 #[v] w fun e w'=>e=.returned (.tuple #[.agg #[.I s0,.I s1,.I s2,.I s3],.bool true])/\St W R w':=
 (fP4 l v W w R hS).mono fun e w' ⟨he,hS⟩=>⟨by rw[he,bK4,h];rfl,hS.drop⟩
theorem OI7{l:List It}(h:G5 l it0=none)(v:Value)(W w:World)(R:List HP)(hS:St W (row v 4 29 l.length (l.flatMap It.cells)::R) w):
  Calls Tryz.prog 117 #[v] w fun e w'=>e=.returned (.tuple #[.agg #[.I 0,.I 0,.I 0,.I 0],.bool false])/\St W R w':=
 (fP4 l v W w R hS).mono fun e w' ⟨he,hS⟩=>⟨by rw[he,bK4,h];rfl,hS.drop⟩
theorem Ra7{x0 x1 x2 x3 y0 y1 y2 y3:Int}(h:O8 ⟨x0,x1,x2,x3⟩ ⟨y0,y1,y2,y3⟩=true)(W w:World)(R:List HP)(hS:St W R w):
  Calls Tryz.prog 181 #[.agg #[.I x0,.I x1,.I x2,.I x3],.agg #[.I y0,.I y1,.I y2,.I y3]] w fun e w'=>e=.returned (.tuple #[.agg #[.I (x0-y0),.I (x1-y1),.I (x2-y2),.I (x3-y3)],.bool true])/\St W R w':=
 (gl4 ⟨x0,x1,x2,x3⟩ ⟨y0,y1,y2,y3⟩ W w R hS).mono fun e w' ⟨he,hS⟩=>⟨by rw[he,cs4,h];rfl,hS⟩
theorem Ty7{x0 x1 x2 x3 y0 y1 y2 y3:Int}(h:O8 ⟨x0,x1,x2,x3⟩ ⟨y0,y1,y2,y3⟩=false)(W w:World)(R:List HP)(hS:St W R w):
  Calls Tryz.prog 181 #[.agg #[.I x0,.I x1,.I x2,.I x3],.agg #[.I y0,.I y1,.I y2,.I y3]] w fun e w'=>e=.returned (.tuple #[.agg #[.I 0,.I 0,.I 0,.I 0],.bool false])/\St W R w':=
 (gl4 ⟨x0,x1,x2,x3⟩ ⟨y0,y1,y2,y3⟩ W w R hS).mono fun e w' ⟨he,hS⟩=>⟨by rw[he,cs4,h];rfl,hS⟩
end
section
variable(xb:Nat)(vB:Value)(n:Int)(p:Ps)(N:Nat)(W w:World)(R:List HP)
theorem dd4(hw:PsW p N)(hN:N<=1000000)(who:ByteArray)(k m:Int)(hx:x8 (m5 p who)=true)(hk:0<=k/\k<=3)(hm:0<=m/\m<=1152921504606846976)(hS:St W (xvP xb vB n p::R) w):
  Calls Tryz.prog 185 #[.P xb,.string who,.I k,.I m] w fun e w'=>e=.returned (.tuple #[])/\St W (xvP xb vB n (r8 p who k m)::R) w':=by
 obtain⟨px,hp⟩:∃x,m5 p who=x:=⟨_,rfl⟩
 rw[hp]at hx;obtain⟨p0,p1,p2,p3⟩:=px;have Hx:=jH hp;have Hw:=jH hw;clear hp hw;obtain⟨a0,a1,a2,a3⟩:=Af7.1 hx;simp only at a0 a1 a2 a3;clear hx;have hk4:k=0\/k=1\/k=2\/k=3:=by omega
 rcases hk4 with rfl|rfl|rfl|rfl
 ·skip
  by_cases hc:p0+m<1152921504606846976
  ·have hcap:aj4 (p0+m)=p0+m:=by unfold aj4;rw[if_neg (by omega)]
   have hmin:min (1152921504606846976:Int) (p0+m)=p0+m:=by omega
   have e:r8 p who 0 m=K7 p who ⟨p0+m,p1,p2,p3⟩:=by unfold r8 az4;rw[Hx.out];simp[aX4,A7,hcap]
   rw[e];clear e hcap;go_enter Tryz.func185,Tryz.ntmps185;go_wp2_with(first|go_at_call 118;refine(bV4 Hw.out Hx.out hS).mono ?_;clear hS;rintro e w ⟨rfl,hS⟩|go_at_call 119;refine(ci4 Hw.out hN who ⟨p0+m,p1,p2,p3⟩ (hS.s (xvP xb vB n p::blk b8 _ _::R))).mono ?_;clear hS;rintro e w ⟨rfl,hS⟩|(with_reducible apply Al7 hS);rfl;rfl;exact zsS;clear hS;intro b8 w hS;refine frS ?_|refine zsN hS ?_;clear hS;intro w hS|refine zlN hS ?_|refine zl1 hS ?_|refine zs1 hS ?_;clear hS;intro w hS);go_end0;exact⟨rfl,hS.s _⟩
  ·have hcap:aj4 (p0+m)=1152921504606846976:=by unfold aj4;split <;> omega
   have hmin:min (1152921504606846976:Int) (p0+m)=1152921504606846976:=by omega
   have e:r8 p who 0 m=K7 p who ⟨1152921504606846976,p1,p2,p3⟩:=by unfold r8 az4;rw[Hx.out];simp[aX4,A7,hcap]
   rw[e];clear e hcap;go_enter Tryz.func185,Tryz.ntmps185;go_wp2_with(first|go_at_call 118;refine(bV4 Hw.out Hx.out hS).mono ?_;clear hS;rintro e w ⟨rfl,hS⟩|go_at_call 119;refine(ci4 Hw.out hN who ⟨1152921504606846976,p1,p2,p3⟩ (hS.s (xvP xb vB n p::blk b8 _ _::R))).mono ?_;clear hS;rintro e w ⟨rfl,hS⟩|(with_reducible apply Al7 hS);rfl;rfl;exact zsS;clear hS;intro b8 w hS;refine frS ?_|refine zsN hS ?_;clear hS;intro w hS|refine zlN hS ?_|refine zl1 hS ?_|refine zs1 hS ?_;clear hS;intro w hS);go_end0;exact⟨rfl,hS.s _⟩
 ·skip
  by_cases hc:p1+m<1152921504606846976
  ·have hcap:aj4 (p1+m)=p1+m:=by unfold aj4;rw[if_neg (by omega)]
   have hmin:min (1152921504606846976:Int) (p1+m)=p1+m:=by omega
   have e:r8 p who 1 m=K7 p who ⟨p0,p1+m,p2,p3⟩:=by unfold r8 az4;rw[Hx.out];simp[aX4,A7,hcap]
   rw[e];clear e hcap;go_enter Tryz.func185,Tryz.ntmps185;go_wp2_with(first|go_at_call 118;refine(bV4 Hw.out Hx.out hS).mono ?_;clear hS;rintro e w ⟨rfl,hS⟩|go_at_call 119;refine(ci4 Hw.out hN who ⟨p0,p1+m,p2,p3⟩ (hS.s (xvP xb vB n p::blk b8 _ _::R))).mono ?_;clear hS;rintro e w ⟨rfl,hS⟩|(with_reducible apply Al7 hS);rfl;rfl;exact zsS;clear hS;intro b8 w hS;refine frS ?_|refine zsN hS ?_;clear hS;intro w hS|refine zlN hS ?_|refine zl1 hS ?_|refine zs1 hS ?_;clear hS;intro w hS);go_end0;exact⟨rfl,hS.s _⟩
  ·have hcap:aj4 (p1+m)=1152921504606846976:=by unfold aj4;split <;> omega
   have hmin:min (1152921504606846976:Int) (p1+m)=1152921504606846976:=by omega
   have e:r8 p who 1 m=K7 p who ⟨p0,1152921504606846976,p2,p3⟩:=by unfold r8 az4;rw[Hx.out];simp[aX4,A7,hcap]
   rw[e];clear e hcap;go_enter Tryz.func185,Tryz.ntmps185;go_wp2_with(first|go_at_call 118;refine(bV4 Hw.out Hx.out hS).mono ?_;clear hS;rintro e w ⟨rfl,hS⟩|go_at_call 119;refine(ci4 Hw.out hN who ⟨p0,1152921504606846976,p2,p3⟩ (hS.s (xvP xb vB n p::blk b8 _ _::R))).mono ?_;clear hS;rintro e w ⟨rfl,hS⟩|(with_reducible apply Al7 hS);rfl;rfl;exact zsS;clear hS;intro b8 w hS;refine frS ?_|refine zsN hS ?_;clear hS;intro w hS|refine zlN hS ?_|refine zl1 hS ?_|refine zs1 hS ?_;clear hS;intro w hS);go_end0;exact⟨rfl,hS.s _⟩
 ·skip
  by_cases hc:p2+m<1152921504606846976
  ·have hcap:aj4 (p2+m)=p2+m:=by unfold aj4;rw[if_neg (by omega)]
   have hmin:min (1152921504606846976:Int) (p2+m)=p2+m:=by omega
   have e:r8 p who 2 m=K7 p who ⟨p0,p1,p2+m,p3⟩:=by unfold r8 az4;rw[Hx.out];simp[aX4,A7,hcap]
   rw[e];clear e hcap;go_enter Tryz.func185,Tryz.ntmps185;go_wp2_with(first|go_at_call 118;refine(bV4 Hw.out Hx.out hS).mono ?_;clear hS;rintro e w ⟨rfl,hS⟩|go_at_call 119;refine(ci4 Hw.out hN who ⟨p0,p1,p2+m,p3⟩ (hS.s (xvP xb vB n p::blk b8 _ _::R))).mono ?_;clear hS;rintro e w ⟨rfl,hS⟩|(with_reducible apply Al7 hS);rfl;rfl;exact zsS;clear hS;intro b8 w hS;refine frS ?_|refine zsN hS ?_;clear hS;intro w hS|refine zlN hS ?_|refine zl1 hS ?_|refine zs1 hS ?_;clear hS;intro w hS);go_end0;exact⟨rfl,hS.s _⟩
  ·have hcap:aj4 (p2+m)=1152921504606846976:=by unfold aj4;split <;> omega
   have hmin:min (1152921504606846976:Int) (p2+m)=1152921504606846976:=by omega
   have e:r8 p who 2 m=K7 p who ⟨p0,p1,1152921504606846976,p3⟩:=by unfold r8 az4;rw[Hx.out];simp[aX4,A7,hcap]
   rw[e];clear e hcap;go_enter Tryz.func185,Tryz.ntmps185;go_wp2_with(first|go_at_call 118;refine(bV4 Hw.out Hx.out hS).mono ?_;clear hS;rintro e w ⟨rfl,hS⟩|go_at_call 119;refine(ci4 Hw.out hN who ⟨p0,p1,1152921504606846976,p3⟩ (hS.s (xvP xb vB n p::blk b8 _ _::R))).mono ?_;clear hS;rintro e w ⟨rfl,hS⟩|(with_reducible apply Al7 hS);rfl;rfl;exact zsS;clear hS;intro b8 w hS;refine frS ?_|refine zsN hS ?_;clear hS;intro w hS|refine zlN hS ?_|refine zl1 hS ?_|refine zs1 hS ?_;clear hS;intro w hS);go_end0;exact⟨rfl,hS.s _⟩
 ·skip
  by_cases hc:p3+m<1152921504606846976
  ·have hcap:aj4 (p3+m)=p3+m:=by unfold aj4;rw[if_neg (by omega)]
   have hmin:min (1152921504606846976:Int) (p3+m)=p3+m:=by omega
   have e:r8 p who 3 m=K7 p who ⟨p0,p1,p2,p3+m⟩:=by unfold r8 az4;rw[Hx.out];simp[aX4,A7,hcap]
   rw[e];clear e hcap;go_enter Tryz.func185,Tryz.ntmps185;go_wp2_with(first|go_at_call 118;refine(bV4 Hw.out Hx.out hS).mono ?_;clear hS;rintro e w ⟨rfl,hS⟩|go_at_call 119;refine(ci4 Hw.out hN who ⟨p0,p1,p2,p3+m⟩ (hS.s (xvP xb vB n p::blk b8 _ _::R))).mono ?_;clear hS;rintro e w ⟨rfl,hS⟩|(with_reducible apply Al7 hS);rfl;rfl;exact zsS;clear hS;intro b8 w hS;refine frS ?_|refine zsN hS ?_;clear hS;intro w hS|refine zlN hS ?_|refine zl1 hS ?_|refine zs1 hS ?_;clear hS;intro w hS);go_end0;exact⟨rfl,hS.s _⟩
  ·have hcap:aj4 (p3+m)=1152921504606846976:=by unfold aj4;split <;> omega
   have hmin:min (1152921504606846976:Int) (p3+m)=1152921504606846976:=by omega
   have e:r8 p who 3 m=K7 p who ⟨p0,p1,p2,1152921504606846976⟩:=by unfold r8 az4;rw[Hx.out];simp[aX4,A7,hcap]
   rw[e];clear e hcap;go_enter Tryz.func185,Tryz.ntmps185;go_wp2_with(first|go_at_call 118;refine(bV4 Hw.out Hx.out hS).mono ?_;clear hS;rintro e w ⟨rfl,hS⟩|go_at_call 119;refine(ci4 Hw.out hN who ⟨p0,p1,p2,1152921504606846976⟩ (hS.s (xvP xb vB n p::blk b8 _ _::R))).mono ?_;clear hS;rintro e w ⟨rfl,hS⟩|(with_reducible apply Al7 hS);rfl;rfl;exact zsS;clear hS;intro b8 w hS;refine frS ?_|refine zsN hS ?_;clear hS;intro w hS|refine zlN hS ?_|refine zl1 hS ?_|refine zs1 hS ?_;clear hS;intro w hS);go_end0;exact⟨rfl,hS.s _⟩
end
section
variable(xb:Nat)(vB:Value)(n:Int)(p:Ps)(N:Nat)(W w:World)(R:List HP)
abbrev tB10a:List Nat:=[0,0,3,0,15,31,63,127,127,0,767,2047]
theorem hp4(hw:PsW p N)(hN:N<=1000000)(k:ByteArray)(i:It)(hS:St W (xvP xb vB n p::R) w):
  Calls Tryz.prog 51 #[.P xb,.string k,.agg i.cells.toArray] w fun e w'=>e=.returned (.I (Q5 p k i))/\St W (xvP xb vB n (M5 p k i)::R) w':=by
 obtain⟨x0,x1,x2,x3⟩:=i;have Hw:=jH hw;clear hw
 cases hk:C8 k with
 | false=>
  have e1:Q5 p k ⟨x0,x1,x2,x3⟩=1:=by simp[Q5,hk]
  have e2:M5 p k ⟨x0,x1,x2,x3⟩=p:=by simp[M5,hk]
  rw[e1,e2];clear e1 e2;simp only[It.cells];go_enter Tryz.func51,Tryz.ntmps51;go_wp2_with(first|go_big_skip|go_at_call 115;refine(dK4 k W _ _ hS).mono ?_;clear hS;rw[hk];rintro e w ⟨rfl,hS⟩|refine zbx hS ?_;clear hS;intro b w hS);go_ret;exact⟨rfl,hS.drop⟩
 | true=>
  cases hi:x8 ⟨x0,x1,x2,x3⟩with
  | false=>
   have e1:Q5 p k ⟨x0,x1,x2,x3⟩=1:=by simp[Q5,hk,hi]
   have e2:M5 p k ⟨x0,x1,x2,x3⟩=p:=by simp[M5,hk,hi]
   rw[e1,e2];clear e1 e2;simp only[It.cells];go_enter Tryz.func51,Tryz.ntmps51;go_wp2_with(first|go_at_call 115;refine(dK4 k W _ _ hS).mono ?_;clear hS;rw[hk];rintro e w ⟨rfl,hS⟩|go_at_call 116;refine(CJ7 _ _ _ _ W _ _ hS).mono ?_;clear hS;rw[hi];rintro e w ⟨rfl,hS⟩|refine zbx hS ?_;clear hS;intro b w hS|refine zlN hS ?_);go_ret;exact⟨rfl,hS.drop⟩
  | true=>
   obtain⟨px,hx⟩:∃x,m5 p k=x:=⟨_,rfl⟩
   obtain⟨p0,p1,p2,p3⟩:=px
   cases ha:G5 [⟨p0,p1,p2,p3⟩,⟨x0,x1,x2,x3⟩] it0 with
   | none=>
    have e1:Q5 p k ⟨x0,x1,x2,x3⟩=6:=by simp[Q5,hk,hi,hx,ha]
    have e2:M5 p k ⟨x0,x1,x2,x3⟩=p:=by simp[M5,hk,hi,hx,ha]
    rw[e1,e2];have Hx:=jH hx;have Ha:=jH ha;clear ha hx e1 e2;simp only[It.cells];go_enter Tryz.func51,Tryz.ntmps51;go_wp2_with(first|go_at_call 115;refine(dK4 k W _ _ hS).mono ?_;clear hS;rw[hk];rintro e w ⟨rfl,hS⟩|go_at_call 116;refine(CJ7 _ _ _ _ W _ _ hS).mono ?_;clear hS;rw[hi];rintro e w ⟨rfl,hS⟩|refine zbx hS ?_;clear hS;intro b w hS|refine zlN hS ?_);refine rf3 tB10a (fun i=>i==4||i==9) (fun i=>if i==2 then some (.agg #[.I p0,.I p1,.I p2,.I p3])else if i==5 then some (.tuple #[.agg #[.I 0,.I 0,.I 0,.I 0],.bool false])else none) [⟨some 4,some 5,fun nd=>row (nd 4) 4 29 2 ([(⟨p0,p1,p2,p3⟩:It),⟨x0,x1,x2,x3⟩].flatMap It.cells)⟩,⟨some 9,some 10,fun nd=>k8 (nd 9) [.I 0,.I 0,.I 0,.I 0] 29⟩,⟨some 10,none,fun nd=>k8 (nd 9) [.I 0,.I 0,.I 0,.I 0] 29⟩] [none,none] hS ?_;intro nd
    iterate 2 (refine cR ?_)
    (refine zcv ?_ (hs:=by(intro F w hS;(try clear hS0);exact Et7 Hw.out Hx.out hS (by exact D5))));refine zcN ?_;apply BO7;rfl;rfl;rfl;(focus(simp only[fD,fI,fJ,Act.eval,fE,fF,fG,fH,fK];try rfl));(exact esS);(exact rsS);rfl;rfl;rfl;rfl;rfl;decide;(intro _;rfl);rfl;(intro _;rfl);(refine frS ?_);refine zcv ?_ (hs:=by(intro F w hS;(try clear hS0);exact OI7 Ha.out _ W w _ hS))
    iterate 3 (refine cR ?_)
    (refine zca ?_);refine zct ?_;refine cR ?_;refine Ad7 ?_;clear hS;intro w hS;have hS2:St W [k8 (nd 9) _ _,blk b _ _,xvP xb vB n p,sats R] w:=hS;clear hS;have hS:=hS2.unpack [_,_,_];clear hS2;simp only[jK,jN]at hS;generalize nd 9=v12 at *;have h1:=hS.ptr;clear hS;obtain⟨b2,rfl,hS⟩:=h1;go_wp2_with(fail);go_ret;exact⟨rfl,hS.s _⟩
   | some s=>
    obtain⟨s0,s1,s2,s3⟩:=s;have e1:Q5 p k ⟨x0,x1,x2,x3⟩=0:=by simp[Q5,hk,hi,hx,ha]
    have e2:M5 p k ⟨x0,x1,x2,x3⟩=K7 p k ⟨s0,s1,s2,s3⟩:=by simp[M5,hk,hi,hx,ha,bH4]
    rw[e1,e2];have Hx:=jH hx;have Ha:=jH ha;clear ha hx e1 e2;simp only[It.cells];go_enter Tryz.func51,Tryz.ntmps51;go_wp2_with(first|go_at_call 115;refine(dK4 k W _ _ hS).mono ?_;clear hS;rw[hk];rintro e w ⟨rfl,hS⟩|go_at_call 116;refine(CJ7 _ _ _ _ W _ _ hS).mono ?_;clear hS;rw[hi];rintro e w ⟨rfl,hS⟩|refine zbx hS ?_;clear hS;intro b w hS|refine zlN hS ?_);refine rf3 tB10a (fun i=>i==4||i==9) (fun i=>if i==2 then some (.agg #[.I p0,.I p1,.I p2,.I p3])else if i==5 then some (.tuple #[.agg #[.I s0,.I s1,.I s2,.I s3],.bool true])else none) [⟨some 4,some 5,fun nd=>row (nd 4) 4 29 2 ([(⟨p0,p1,p2,p3⟩:It),⟨x0,x1,x2,x3⟩].flatMap It.cells)⟩,⟨some 9,some 10,fun nd=>k8 (nd 9) [.I 0,.I 0,.I 0,.I 0] 29⟩,⟨some 10,none,fun nd=>k8 (nd 9) [.I s0,.I s1,.I s2,.I s3] 29⟩] [none,none] hS ?_;intro nd
    iterate 2 (refine cR ?_)
    (refine zcv ?_ (hs:=by(intro F w hS;(try clear hS0);exact Et7 Hw.out Hx.out hS (by exact D5))));refine zcN ?_;apply BO7;rfl;rfl;rfl;(focus(simp only[fD,fI,fJ,Act.eval,fE,fF,fG,fH,fK];try rfl));(exact esS);(exact rsS);rfl;rfl;rfl;rfl;rfl;decide;(intro _;rfl);rfl;(intro _;rfl);(refine frS ?_);refine zcv ?_ (hs:=by(intro F w hS;(try clear hS0);exact Jl7 Ha.out _ W w _ hS))
    iterate 3 (refine cR ?_)
    (refine zca ?_);refine zct ?_;refine cR ?_;refine Ad7 ?_;clear hS;intro w hS;have hS2:St W [k8 (nd 9) _ _,blk b _ _,xvP xb vB n p,sats R] w:=hS;clear hS;have hS:=hS2.unpack [_,_,_];clear hS2;simp only[jK,jN]at hS;generalize nd 9=v12 at *;have h1:=hS.ptr;clear hS;obtain⟨b2,rfl,hS⟩:=h1;go_wp2_with(first|go_at_call 119;refine(ci4 Hw.out hN k ⟨s0,s1,s2,s3⟩ (hS.s (xvP xb vB n p::R))).mono ?_;clear hS;rintro e w ⟨rfl,hS⟩|refine zlN hS ?_);go_ret;exact⟨rfl,hS⟩
abbrev tB10b:List Nat:=[0,0,3,0,15,31,63,63,0,383,1023]
theorem eG4(hw:PsW p N)(hN:N<=1000000)(k:ByteArray)(i:It)(hS:St W (xvP xb vB n p::R) w):
  Calls Tryz.prog 120 #[.P xb,.string k,.agg i.cells.toArray] w fun e w'=>e=.returned (.I (A5 p k i))/\St W (xvP xb vB n (A8 p k i)::R) w':=by
 obtain⟨x0,x1,x2,x3⟩:=i;have Hw:=jH hw;clear hw
 cases hk:C8 k with
 | false=>
  have e1:A5 p k ⟨x0,x1,x2,x3⟩=1:=by simp[A5,hk]
  have e2:A8 p k ⟨x0,x1,x2,x3⟩=p:=by simp[A8,hk]
  rw[e1,e2];clear e1 e2;simp only[It.cells];go_enter Tryz.func120,Tryz.ntmps120;go_wp2_with(first|go_big_skip|go_at_call 115;refine(dK4 k W _ _ hS).mono ?_;clear hS;rw[hk];rintro e w ⟨rfl,hS⟩|refine zbx hS ?_;clear hS;intro b w hS);go_ret;exact⟨rfl,hS.drop⟩
 | true=>
  cases hi:x8 ⟨x0,x1,x2,x3⟩with
  | false=>
   have e1:A5 p k ⟨x0,x1,x2,x3⟩=1:=by simp[A5,hk,hi]
   have e2:A8 p k ⟨x0,x1,x2,x3⟩=p:=by simp[A8,hk,hi]
   rw[e1,e2];clear e1 e2;simp only[It.cells];go_enter Tryz.func120,Tryz.ntmps120;go_wp2_with(first|go_at_call 115;refine(dK4 k W _ _ hS).mono ?_;clear hS;rw[hk];rintro e w ⟨rfl,hS⟩|go_at_call 116;refine(CJ7 _ _ _ _ W _ _ hS).mono ?_;clear hS;rw[hi];rintro e w ⟨rfl,hS⟩|refine zbx hS ?_;clear hS;intro b w hS|refine zlN hS ?_);go_ret;exact⟨rfl,hS.drop⟩
  | true=>
   obtain⟨px,hx⟩:∃x,m5 p k=x:=⟨_,rfl⟩
   obtain⟨p0,p1,p2,p3⟩:=px
   cases ha:O8 ⟨p0,p1,p2,p3⟩ ⟨x0,x1,x2,x3⟩with
   | false=>
    have e1:A5 p k ⟨x0,x1,x2,x3⟩=14:=by simp[A5,hk,hi,hx,ha]
    have e2:A8 p k ⟨x0,x1,x2,x3⟩=p:=by simp[A8,hk,hi,hx,ha]
    rw[e1,e2];have Hx:=jH hx;have Ha:=jH ha;clear ha hx e1 e2;simp only[It.cells];go_enter Tryz.func120,Tryz.ntmps120;go_wp2_with(first|go_at_call 115;refine(dK4 k W _ _ hS).mono ?_;clear hS;rw[hk];rintro e w ⟨rfl,hS⟩|go_at_call 116;refine(CJ7 _ _ _ _ W _ _ hS).mono ?_;clear hS;rw[hi];rintro e w ⟨rfl,hS⟩|refine zbx hS ?_;clear hS;intro b w hS|refine zlN hS ?_);refine rf3 tB10b (fun i=>i==8) (fun i=>if i==2 then some (.agg #[.I p0,.I p1,.I p2,.I p3])else if i==4 then some (.tuple #[.agg #[.I (0),.I (0),.I (0),.I (0)],.bool false])else none) [⟨some 8,some 9,fun nd=>k8 (nd 8) [.I 0,.I 0,.I 0,.I 0] 29⟩,⟨some 9,none,fun nd=>k8 (nd 8) [.I (0),.I (0),.I (0),.I (0)] 29⟩] [none,none] hS ?_;intro nd
    iterate 2 (refine cR ?_)
    (refine zcv ?_ (hs:=by(intro F w hS;(try clear hS0);exact Et7 Hw.out Hx.out hS (by exact D5))));refine zcN ?_;refine zcv ?_ (hs:=by(intro F w hS;(try clear hS0);exact Ty7 Ha.out W w _ hS))
    iterate 3 (refine cR ?_)
    (refine zca ?_);refine zct ?_;refine cR ?_;refine Ad7 ?_;clear hS;intro w hS;have hS2:St W [k8 (nd 8) _ _,blk b _ _,xvP xb vB n p,sats R] w:=hS;clear hS;have hS:=hS2.unpack [_,_,_];clear hS2;simp only[jK,jN]at hS;generalize nd 8=v12 at *;have h1:=hS.ptr;clear hS;obtain⟨b2,rfl,hS⟩:=h1;go_wp2_with(fail);go_ret;exact⟨rfl,hS.s _⟩
   | true=>
    have e1:A5 p k ⟨x0,x1,x2,x3⟩=0:=by simp[A5,hk,hi,hx,ha]
    have e2:A8 p k ⟨x0,x1,x2,x3⟩=K7 p k ⟨p0-x0,p1-x1,p2-x2,p3-x3⟩:=by simp[A8,hk,hi,hx,ha,bH4]
    rw[e1,e2];have Hx:=jH hx;have Ha:=jH ha;clear ha hx e1 e2;simp only[It.cells];go_enter Tryz.func120,Tryz.ntmps120;go_wp2_with(first|go_at_call 115;refine(dK4 k W _ _ hS).mono ?_;clear hS;rw[hk];rintro e w ⟨rfl,hS⟩|go_at_call 116;refine(CJ7 _ _ _ _ W _ _ hS).mono ?_;clear hS;rw[hi];rintro e w ⟨rfl,hS⟩|refine zbx hS ?_;clear hS;intro b w hS|refine zlN hS ?_);refine rf3 tB10b (fun i=>i==8) (fun i=>if i==2 then some (.agg #[.I p0,.I p1,.I p2,.I p3])else if i==4 then some (.tuple #[.agg #[.I (p0-x0),.I (p1-x1),.I (p2-x2),.I (p3-x3)],.bool true])else none) [⟨some 8,some 9,fun nd=>k8 (nd 8) [.I 0,.I 0,.I 0,.I 0] 29⟩,⟨some 9,none,fun nd=>k8 (nd 8) [.I (p0-x0),.I (p1-x1),.I (p2-x2),.I (p3-x3)] 29⟩] [none,none] hS ?_;intro nd
    iterate 2 (refine cR ?_)
    (refine zcv ?_ (hs:=by(intro F w hS;(try clear hS0);exact Et7 Hw.out Hx.out hS (by exact D5))));refine zcN ?_;refine zcv ?_ (hs:=by(intro F w hS;(try clear hS0);exact Ra7 Ha.out W w _ hS))
    iterate 3 (refine cR ?_)
    (refine zca ?_);refine zct ?_;refine cR ?_;refine Ad7 ?_;clear hS;intro w hS;have hS2:St W [k8 (nd 8) _ _,blk b _ _,xvP xb vB n p,sats R] w:=hS;clear hS;have hS:=hS2.unpack [_,_,_];clear hS2;simp only[jK,jN]at hS;generalize nd 8=v12 at *;have h1:=hS.ptr;clear hS;obtain⟨b2,rfl,hS⟩:=h1;go_wp2_with(first|go_at_call 119;refine(ci4 Hw.out hN k ⟨p0-x0,p1-x1,p2-x2,p3-x3⟩ (hS.s (xvP xb vB n p::R))).mono ?_;clear hS;rintro e w ⟨rfl,hS⟩|refine zlN hS ?_);go_ret;exact⟨rfl,hS⟩
end
def xkP(xB:Nat)(L:List Ord)(n:Int):HP:=fun f=>∃(v:Value) (last:Int),last<n/\sats [blk xB [v,.I last] 244,j8 v L] f
section
variable{W w:World}{xB:Nat}{L:List Ord}{n:Int}{R:List HP}
theorem bD4(h:St W (xkP xB L n::R) w):∃a c last,last<n/\St W (blk xB [.slice a L.length c,.I last] 244::j8 (.slice a L.length c) L::R) w:=by obtain⟨v,h⟩:=St.ex h;obtain⟨last,h⟩:=St.ex h;obtain⟨h1,h⟩:=St.and h;have hS:=(St.split (St.split h).swap).swap.drop.swap;obtain⟨a,c,rfl⟩:=hS.drop.rowVal;exact⟨a,c,last,h1,hS⟩
theorem aT4{v:Value}{last:Int}(hl:last<n)(h:St W (blk xB [v,.I last] 244::j8 v L::R) w):St W (xkP xB L n::R) w:=by refine St.mkEx v (St.mkEx last (St.mkAnd hl ?_));refine St.join ?_;refine St.swap (St.imp h.swap ?_);intro f hf;exact⟨fun _=>true,hf,trivial⟩
end
abbrev xvR(xb xB:Nat)(p:Ps)(L:List Ord)(n:Int)(R:List HP):List HP:=xvP xb (.P xB) n p::xkP xB L n::R
section
variable(xb xB:Nat)(p:Ps)(L:List Ord)(n:Int)(N:Nat)(o:Ord)(W w:World)(R:List HP)
theorem MX7(h:bA4 o=false)(hS:St W (xvR xb xB p L n R) w):
  Calls Tryz.prog 121 #[.P xb,.agg o.cells.toArray] w fun e w'=>e=.returned (.tuple #[.I 0,.I 1])/\St W (xvR xb xB p L n R) w':=by
 obtain⟨i,u,y,t,c,pr⟩:=o;have hm:P9 ⟨1,u,y,t,c,pr⟩=false:=h;clear h;simp only[Ord.cells];obtain⟨xv,hS1⟩:=bc4 hS;obtain⟨la,lc,last,hlast,hS2⟩:=bD4 (hS1.s (xkP xB L n::blk xb _ _::hdR _ (hdL p)::R));clear hS hS1;have hS:=hS2;clear hS2;go_enter Tryz.func121,Tryz.ntmps121;go_wp2_with(first|go_at_call 182;refine(By7 ⟨1,u,y,t,c,pr⟩ W _ _ hS).mono ?_;clear hS;rw[hm];rintro e w ⟨rfl,hS⟩|(with_reducible apply AH7 hS);rfl;rfl;rfl;rfl;clear hS;intro b3 w hS;refine frS ?_|(with_reducible apply Al7 hS);rfl;rfl;exact zsS;clear hS;intro b6 w hS;refine frS ?_|refine zl1 hS ?_|refine zlN hS ?_|refine zs1 hS ?_;clear hS;intro w hS|refine zsN hS ?_;clear hS;intro w hS);go_ret2;have hS1:=aT4 hlast (hS.s (blk xB _ _::j8 _ L::blk xb _ _::hdR _ (hdL p)::R));exact⟨rfl,au4 (hS1.s (blk xb _ _::hdR _ (hdL p)::xkP xB L n::R))⟩
theorem KA7(h:bA4 o=true)(hf:32<=L.length\/1099511627776<n)(hS:St W (xvR xb xB p L n R) w):
  Calls Tryz.prog 121 #[.P xb,.agg o.cells.toArray] w fun e w'=>e=.returned (.tuple #[.I 0,.I 6])/\St W (xvR xb xB p L n R) w':=by
 obtain⟨i,u,y,t,c,pr⟩:=o;have hm:P9 ⟨1,u,y,t,c,pr⟩=true:=h;clear h;simp only[Ord.cells];obtain⟨xv,hS1⟩:=bc4 hS;obtain⟨la,lc,last,hlast,hS2⟩:=bD4 (hS1.s (xkP xB L n::blk xb _ _::hdR _ (hdL p)::R));clear hS hS1;have hS:=hS2;clear hS2;by_cases hl:32<=L.length
 ·have d1:(32:Int)<=(L.length:Int):=by omega
  clear hf;go_enter Tryz.func121,Tryz.ntmps121;go_wp2_with(first|go_at_call 182;refine(By7 ⟨1,u,y,t,c,pr⟩ W _ _ hS).mono ?_;clear hS;rw[hm];rintro e w ⟨rfl,hS⟩|(with_reducible apply AH7 hS);rfl;rfl;rfl;rfl;clear hS;intro b3 w hS;refine frS ?_|(with_reducible apply Al7 hS);rfl;rfl;exact zsS;clear hS;intro b6 w hS;refine frS ?_|refine zl1 hS ?_|refine zlN hS ?_|refine zs1 hS ?_;clear hS;intro w hS|refine zsN hS ?_;clear hS;intro w hS);go_ret2;have hS1:=aT4 hlast (hS.s (blk xB _ _::j8 _ L::blk xb _ _::hdR _ (hdL p)::R));exact⟨rfl,au4 (hS1.s (blk xb _ _::hdR _ (hdL p)::xkP xB L n::R))⟩
 ·have d1:decide ((32:Int)<=(L.length:Int))=false:=by simp;omega
  have d2:1099511627776<n:=hf.resolve_left hl;clear hf hl;go_enter Tryz.func121,Tryz.ntmps121;go_wp2_with(first|go_at_call 182;refine(By7 ⟨1,u,y,t,c,pr⟩ W _ _ hS).mono ?_;clear hS;rw[hm];rintro e w ⟨rfl,hS⟩|(with_reducible apply AH7 hS);rfl;rfl;rfl;rfl;clear hS;intro b3 w hS;refine frS ?_|(with_reducible apply Al7 hS);rfl;rfl;exact zsS;clear hS;intro b6 w hS;refine frS ?_|refine zl1 hS ?_|refine zlN hS ?_|refine zs1 hS ?_;clear hS;intro w hS|refine zsN hS ?_;clear hS;intro w hS);go_ret2;have hS1:=aT4 hlast (hS.s (blk xB _ _::j8 _ L::blk xb _ _::hdR _ (hdL p)::R));exact⟨rfl,au4 (hS1.s (blk xb _ _::hdR _ (hdL p)::xkP xB L n::R))⟩
theorem Eu7{o:Ord}{h0 h1 h2 h3:Int}(hm:MayP o)(h:l8 o=⟨h0,h1,h2,h3⟩)(W w:World)(R:List HP)(hS:St W R w):
  Calls Tryz.prog 183 #[.agg o.cells.toArray] w fun e w'=>e=.returned (.agg #[.I h0,.I h1,.I h2,.I h3])/\St W R w':=
 (fO4 o hm W w R hS).mono fun e w' ⟨he,hS⟩=>⟨by rw[he,h];rfl,hS⟩
theorem Jm7(hw:PsW p N)(hN:N<=1000000)(h:bA4 o=true)(hL:L.length<32)(hn0:1<=n)(hn:n<=1099511627776)(ht:A5 p o.who (l8 o)=14)(hS:St W (xvR xb xB p L n R) w):
  Calls Tryz.prog 121 #[.P xb,.agg o.cells.toArray] w fun e w'=>e=.returned (.tuple #[.I 0,.I 14])/\St W (xvR xb xB p L n R) w':=by
 obtain⟨i,u,y,t,c,pr⟩:=o;have hm:P9 ⟨1,u,y,t,c,pr⟩=true:=h;have hm1:=Ao7.1 hm;have hm2:MayP ⟨n,u,y,t,c,pr⟩:=⟨hn0,hn,hm1.who0,hm1.who1,hm1.item0,hm1.item1,hm1.cnt0,hm1.cnt1,hm1.price0,hm1.price1⟩
 have ht':A5 p u (l8 ⟨n,u,y,t,c,pr⟩)=14:=ht
 have hp':A8 p u (l8 ⟨n,u,y,t,c,pr⟩)=p:=by
  unfold A5 at ht';unfold A8;split at ht'
  ·rename_i hc
   rw[if_pos hc];split at ht'
   ·cases ht'
   ·rename_i hs;rw[if_neg hs]
  ·cases ht'
 have Hm2:=jH hm2;have Hw:=jH hw;clear h ht hm1 hm2 hw;have d1:decide ((32:Int)<=(L.length:Int))=false:=by simp;omega
 have d2:decide ((1099511627776:Int)<n)=false:=by simp;omega
 simp only[Ord.cells];obtain⟨it,hit⟩:∃x,l8 ⟨n,u,y,t,c,pr⟩=x:=⟨_,rfl⟩
 rw[hit]at ht' hp';obtain⟨h0,h1,h2,h3⟩:=it;have Hit:=jH hit;have Hte:=jH ht';have Htp:=jH hp';clear hit ht' hp';obtain⟨xv,hS1⟩:=bc4 hS;obtain⟨la,lc,last,hlast,hS2⟩:=bD4 (hS1.s (xkP xB L n::blk xb _ _::hdR _ (hdL p)::R));clear hS hS1;have hS:=hS2;clear hS2;go_enter Tryz.func121,Tryz.ntmps121;go_wp2_with(first|go_at_call 182;refine(By7 ⟨1,u,y,t,c,pr⟩ W _ _ hS).mono ?_;clear hS;rw[hm];rintro e w ⟨rfl,hS⟩|(with_reducible apply AH7 hS);rfl;rfl;rfl;rfl;clear hS;intro b3 w hS;refine frS ?_|(with_reducible apply Al7 hS);rfl;rfl;exact zsS;clear hS;intro b6 w hS;refine frS ?_|refine zl1 hS ?_|refine zlN hS ?_|refine zs1 hS ?_;clear hS;intro w hS|refine zsN hS ?_;clear hS;intro w hS);refine rt 5 hS ?_
 iterate 2 (refine qR ?_)
 (refine zq1 ?_);refine zqN ?_;apply At7;rfl;(intro w;apply Ag7;rfl;decide +kernel;(focus(simp only[fD,fI,fJ,Act.eval,fE,fF,fG,fH,fK];try rfl)));(intro w hS;exact Eu7 (o:=⟨n,u,y,t,c,pr⟩) Hm2.out Hit.out W w _ hS);(refine frS ?_);clear hS;intro w hS;simp only[jD,List.drop_zero];go_wp2_with(first|go_at_call 120;refine(eG4 xb _ n p N W _ _ Hw.out hN u ⟨h0,h1,h2,h3⟩ (au4 (hS.s (blk xb _ _::hdR _ (hdL p)::blk xB _ _::j8 _ L::blk b6 _ _::blk b3 _ _::R)))).mono ?_;clear hS;rw[Hte.out,Htp.out];rintro e w ⟨rfl,hS⟩);go_ret2;have hS1:=aT4 hlast (hS.s (blk xB _ _::j8 _ L::xvP xb _ n p::R));exact⟨rfl,hS1.s _⟩
end
def pxR(xB:Nat)(L:List Ord)(m:Int)(ts:List Trd)(v:Value):HP:=fun f=>∃(a:Option Addr) (c:Nat) (left:Int),v=.tuple #[.slice a ts.length c,.I left,.I 0]/\sats [xkP xB L m,row (.slice a ts.length c) 8 251 ts.length (ts.flatMap Trd.cells)] f
section
variable{W w:World}{xB:Nat}{L:List Ord}{m n:Int}{ts:List Trd}{v:Value}{R:List HP}
theorem eH4(h:St W (pxR xB L m ts v::R) w):∃a c left,v=.tuple #[.slice a ts.length c,.I left,.I 0]/\St W (xkP xB L m::row (.slice a ts.length c) 8 251 ts.length (ts.flatMap Trd.cells)::R) w:=by obtain⟨a,h⟩:=St.ex h;obtain⟨c,h⟩:=St.ex h;obtain⟨left,h⟩:=St.ex h;obtain⟨h1,h⟩:=St.and h;refine⟨a,c,left,h1,?_⟩;exact(St.split (St.split h).swap).swap.drop.swap
theorem fQ4{a:Option Addr}{c:Nat}{left:Int}(hv:v=.tuple #[.slice a ts.length c,.I left,.I 0])(h:St W (xkP xB L m::row (.slice a ts.length c) 8 251 ts.length (ts.flatMap Trd.cells)::R) w):St W (pxR xB L m ts v::R) w:=by refine St.mkEx a (St.mkEx c (St.mkEx left (St.mkAnd hv ?_)));refine St.join ?_;refine St.swap (St.imp h.swap ?_);intro f hf;exact⟨fun _=>true,hf,trivial⟩
theorem eI4{L1 R1:List HP}(hS:St W L1 w)(hu:Take L1 (pxR xB L m ts v) R1):∃vs:Array Value,v=.tuple vs/\vs.size=3:=by obtain⟨a,c,left,h,_⟩:=eH4 (hS.take hu);exact⟨_,h,rfl⟩
theorem fb4{o:Ord}{L2:List Ord}(hm:MayP o)(hid:o.id=n)(hL:L.length<32)(hmay:∀x∈L,MayP x)(h1:cJ4 L o=L2)(h2:bg4 L o=ts)(hS:St W (xkP xB L n::R) w):
  Calls Tryz.prog 184 #[.P xB,.agg o.cells.toArray] w fun e w'=>∃v,e=.returned v/\St W (pxR xB L2 (n+1) ts v::R) w':=by
 subst h1 h2;obtain⟨a,c,last,hlast,hS⟩:=bD4 hS;have hno:¬(P9 o=false\/o.id<=last):=by rintro(h|h);(rw[Ao7.2 hm]at h;cases h);omega
 have ht:(L7 L last o).trades=bg4 L o:=by unfold L7;rw[if_neg hno,if_neg (by omega)];rfl
 have hl:(L7 L last o).L=cJ4 L o:=by unfold L7;rw[if_neg hno,if_neg (by omega)];rfl
 refine(Kr7 L last o xB _ (Ao7.2 hm) (by omega) (by omega) (fun x hx=>⟨(hmay x hx).cnt0,(hmay x hx).cnt1⟩) W w R hS).mono ?_;rw[ht,hl];rintro e w' ⟨v7,v',rfl,hS⟩;obtain⟨a7,c7,rfl⟩:=hS.drop.drop.rowVal;exact⟨_,rfl,fQ4 rfl (aT4 (by omega) hS)⟩
end
def OxR(W:World)(F:Ps->List HP)(p:Ps)(ts:List Trd)(v:Value)(w:World):Prop:=
 ∃(k:Nat),v=.I k/\k<=ts.length/\St W (F ((ts.take k).foldl aL4 p)) w
section
variable(xb xB:Nat)(p:Ps)(L:List Ord)(n:Int)(N:Nat)(o:Ord)(W w:World)(R:List HP)
theorem OJ7(hp:N5 p)(hw:PsW p N)(hN:N+150<=1000000)(hmay:∀x∈L,MayP x)(h:bA4 o=true)(hn0:1<=n)(hn:n<=1099511627776)(hL:L.length<32)(ht:A5 p o.who (l8 o)=0)(hS:St W (xvR xb xB p L n R) w):
  Calls Tryz.prog 121 #[.P xb,.agg o.cells.toArray] w fun e w'=>e=.returned (.tuple #[.I n,.I 0]) /\
   St W (xvR xb xB ((bg4 L { o with id:=n }).foldl aL4 (A8 p o.who (l8 o))) (cJ4 L { o with id:=n }) (n+1) R) w':=by
 obtain⟨i,u,y,t,c,pr⟩:=o;have hm:P9 ⟨1,u,y,t,c,pr⟩=true:=h;have hm1:=Ao7.1 hm;have hm2:MayP ⟨n,u,y,t,c,pr⟩:=⟨hn0,hn,hm1.who0,hm1.who1,hm1.item0,hm1.item1,hm1.cnt0,hm1.cnt1,hm1.price0,hm1.price1⟩
 have eh:l8 ⟨i,u,y,t,c,pr⟩=l8 ⟨n,u,y,t,c,pr⟩:=rfl;have ht':A5 p u (l8 ⟨n,u,y,t,c,pr⟩)=0:=ht;have c0':1<=c:=hm2.cnt0;have c1':c<=1048576:=hm2.cnt1;have htr:∀x∈bg4 L ⟨n,u,y,t,c,pr⟩,TrB x:=Dg7 _ _ _ _ hmay ⟨show 0<=c by omega,c1',hm2.item0,hm2.item1,hm2.price1⟩ fun t ht=>(by cases ht)
 have htw:∀x∈bg4 L ⟨n,u,y,t,c,pr⟩,C8 x.buyer=true/\C8 x.seller=true:=Fk7 _ _ _ _ (fun x hx=>Fi7 (hmay x hx)) (Fi7 hm2) fun t ht=>(by cases ht)
 have htl:(bg4 L ⟨n,u,y,t,c,pr⟩).length<=33:=by have:=Fj7 (L.length+1) ⟨n,u,y,t,c,pr⟩ L [];unfold bg4;rw[List.length_nil]at this;omega
 have hok1:N5 (A8 p u (l8 ⟨n,u,y,t,c,pr⟩)):=CI7 hp _ _;have hw1:PsW (A8 p u (l8 ⟨n,u,y,t,c,pr⟩)) (N+1):=FO7 hw _ _;simp only[eh];obtain⟨p1,hp1⟩:∃x,A8 p u (l8 ⟨n,u,y,t,c,pr⟩)=x:=⟨_,rfl⟩
 rw[hp1]at hok1 hw1;simp only[hp1];obtain⟨it,hit⟩:∃x,l8 ⟨n,u,y,t,c,pr⟩=x:=⟨_,rfl⟩
 rw[hit]at ht' hp1;obtain⟨h0,h1,h2,h3⟩:=it;obtain⟨ts,hts⟩:∃x,bg4 L ⟨n,u,y,t,c,pr⟩=x:=⟨_,rfl⟩
 obtain⟨L2,hL2⟩:∃x,cJ4 L ⟨n,u,y,t,c,pr⟩=x:=⟨_,rfl⟩
 simp only[hts,hL2];rw[hts]at htr htw htl;have Hts:=jH hts;have HL2:=jH hL2;clear hts hL2;have Hm2:=jH hm2;have Hit:=jH hit;have Hte:=jH ht';have Htp:=jH hp1;have Hok:=jH hok1;have Hw:=jH hw;have Hw1:=jH hw1;have Htr:=jH htr;have Htw:=jH htw;have Hmay:=jH hmay;have hN':=hN;have hN:N<=1000000:=by omega
 have d1:decide ((32:Int)<=(L.length:Int))=false:=by simp;omega
 have d2:decide ((1099511627776:Int)<n)=false:=by simp;omega
 clear hit ht' hp1 h ht eh hok1 htr htw hmay hm1 hm2 hp hw hw1;simp only[Ord.cells];obtain⟨xv,hS1⟩:=bc4 hS;obtain⟨la,lc,last,hlast,hS2⟩:=bD4 (hS1.s (xkP xB L n::blk xb _ _::hdR _ (hdL p)::R));clear hS hS1;have hS:=hS2;clear hS2;go_enter Tryz.func121,Tryz.ntmps121;go_wp2_with(first|go_at_call 182;refine(By7 ⟨1,u,y,t,c,pr⟩ W _ _ hS).mono ?_;clear hS;rw[hm];rintro e w ⟨rfl,hS⟩|(with_reducible apply AH7 hS);rfl;rfl;rfl;rfl;clear hS;intro b3 w hS;refine frS ?_|(with_reducible apply Al7 hS);rfl;rfl;exact zsS;clear hS;intro b6 w hS;refine frS ?_|refine zl1 hS ?_|refine zlN hS ?_|refine zs1 hS ?_;clear hS;intro w hS|refine zsN hS ?_;clear hS;intro w hS);refine rt 5 hS ?_
 iterate 2 (refine qR ?_)
 (refine zq1 ?_);refine zqN ?_;apply At7;rfl;(intro w;apply Ag7;rfl;decide +kernel;(focus(simp only[fD,fI,fJ,Act.eval,fE,fF,fG,fH,fK];try rfl)));(intro w hS;exact Eu7 (o:=⟨n,u,y,t,c,pr⟩) Hm2.out Hit.out W w _ hS);(refine frS ?_);clear hS;intro w hS;simp only[jD,List.drop_zero];go_wp2_with(first|go_at_call 120;refine(eG4 xb _ n p N W _ _ Hw.out hN u ⟨h0,h1,h2,h3⟩ (au4 (hS.s (blk xb _ _::hdR _ (hdL p)::blk xB _ _::j8 _ L::blk b6 _ _::blk b3 _ _::R)))).mono ?_;clear hS;rw[Hte.out,Htp.out];rintro e w ⟨rfl,hS⟩;(have hS1:=bc4 hS);clear hS;obtain⟨xv2,hS⟩:=hS1|refine zl1 hS ?_|refine zs1 hS ?_;clear hS;intro w hS);have hSk:=aT4 hlast (hS.s (blk xB _ _::j8 _ L::blk b3 _ _::blk xb _ _::hdR _ (hdL p1)::R));clear hS;refine rf3 [0,1,3,7,0,31,63,127,127,127,255,1535,4095] (fun i=>i==5) (fun _=>none) [⟨some 5,none,fun nd=>pxR xB L2 (n+1) ts (nd 5)⟩] [some 5,none,none,none] hSk ?_;clear hSk;intro nd;refine cR ?_;refine zcn ?_;refine cR ?_;refine zc1 ?_;refine zcN ?_;apply AP7;rfl;rfl;rfl;decide +kernel;(focus(simp only[fD,fI,fJ,Act.eval,fE,fF,fG,fH,fK];try rfl));(intro _;rfl);(intro F w hS;exact fb4 (o:=⟨n,u,y,t,c,pr⟩) Hm2.out rfl hL Hmay.out HL2.out Hts.out hS);(refine frS ?_);refine cR ?_;apply Ff7 (v:=nd 5);rfl;kernel_rfl;rfl;rfl;rfl;(intro F w hS;exact eI4 hS (by exact D5));decide;(refine frS ?_);apply Ff7 (v:=nd 5);rfl;kernel_rfl;rfl;rfl;rfl;(intro F w hS;exact eI4 hS (by exact D5));decide;(refine frS ?_);apply Ff7 (v:=nd 5);rfl;kernel_rfl;rfl;rfl;rfl;(intro F w hS;exact eI4 hS (by exact D5));decide;(refine frS ?_)
 iterate 3 (refine cR ?_)
 refine Ad7 ?_;intro w hS;have hS2:St W [pxR xB _ _ _ (nd 5),blk b3 _ _,blk xb _ _,hdR _ (hdL p1),sats R] w:=hS;clear hS;have hS:=hS2.unpack [_,_,_,_];clear hS2;simp only[jK,jN]at hS;generalize nd 5=v5 at *;obtain⟨ta,tc,left,hv5,hS5⟩:=eH4 hS;clear hS;subst hv5;have hS:=au4 (hS5.s (blk xb _ _::hdR _ (hdL p1)::xkP xB L2 (n+1)::row (.slice ta ts.length tc) 8 _ _ _::blk b3 _ _::R));clear hS5;simp only[eh4,Array.getD_eq_getD_getElem?,List.getElem?_toArray,List.getElem?_cons_zero,List.getElem?_cons_succ,Option.getD_some];go_wp2_with(fail)
 go_loopw [11] (fun v wr=>OxR W (fun q=>[xvP xb (.P xB) (n+1) q,xkP xB L2 (n+1),row (.slice ta ts.length tc) 8 251 ts.length (ts.flatMap Trd.cells),blk b3 [.I n,.string u,.bool y,.I t,.I c,.I pr] 166]++R) p1 ts v wr) (fun v _=>ts.length-(intOf v).toNat)
 case atStart=>exact⟨0,rfl,Nat.zero_le _,hS⟩
 case round=>
  clear hS;obtain⟨k,rfl,hk,hS⟩:=hrel;simp only[jK,jN]at hS;by_cases hkn:k=ts.length
  ·subst hkn;rw[List.take_length]at hS;go_wp2_with(first|refine zl1 hS ?_);go_ret2;exact⟨rfl,hS.s _⟩
  ·have hk1:k<ts.length:=by omega
   clear hkn hk;obtain⟨⟨g,rfl⟩,hcap,hcn⟩:=St.rowAddr hS.drop.drop (by omega);have hcells:∀{K K':List HP},Take K (row (.S g ts.length tc) 8 251 ts.length (ts.flatMap Trd.cells)) K'->i8 K g (k*8) (Trd.cells ts[k]):=fun hu=>i8.elemM (enc:=Trd.cells) Trd.len hu hk1
   have hq:N5 ((ts.take k).foldl aL4 p1):=Eo7 _ Hok.out fun x hx=>Htr.out x (List.mem_of_mem_take hx)
   have hqw:PsW ((ts.take k).foldl aL4 p1) (N+110):=Ap7 (If7 _ Hw1.out fun x hx=>Htw.out x (List.mem_of_mem_take hx)) (by rw[jT];omega);have hstep:(ts.take (k+1)).foldl aL4 p1=aL4 ((ts.take k).foldl aL4 p1) ts[k]:=by rw[List.take_succ_eq_append_getElem hk1,List.foldl_append];rfl
   have hb:=Htr.out _ (jW hk1);have hb2:=Htw.out _ (jW hk1);have Hstep:=jH hstep;have Hq:=jH hq;have Hqw:=jH hqw;clear hstep hq hqw;generalize (ts.take k).foldl aL4 p1=q at hS Hstep Hq Hqw;generalize ts[k]=x at hcells Hstep hb hb2;obtain⟨ub,us,xi,xj,xt,xc,xp,xd⟩:=x;obtain⟨⟨c0,c1⟩,⟨t0,t1⟩,⟨p0,p1'⟩,⟨b0,b1⟩⟩:=hb;simp only at c0 c1 t0 t1 p0 p1' b0 b1 hb2;have m1:=Cp7 c0 c1 b0 b1;have m2:=Cp7 c0 c1 p0 p1';have n1:xc*(xd-xp)<=9223372036854775807:=by omega
   have n2 : -9223372036854775808<=xc*(xd-xp):=by omega
   have n3:xc*xp<=9223372036854775807:=by omega
   have n4 : -9223372036854775808<=xc*xp:=by omega
   simp only[Trd.cells]at hcells;have G1:=jH (show ∀y,x8 (m5 q y)=true from Hq.out);have G2:=jH (show ∀y,x8 (m5 (r8 q ub xt xc) y)=true from An7 Hq.out _ _ c0);have G3:=jH (show ∀y,x8 (m5 (r8 (r8 q ub xt xc) ub 0 (xc*(xd-xp))) y)=true from An7 (An7 Hq.out _ _ c0) _ _ m1.1);have W1:=jH (show PsW q 1000000 from Ap7 Hqw.out (by omega));have W2:=jH (show PsW (r8 q ub xt xc) 1000000 from Ap7 (AU7 Hqw.out hb2.1 _ _) (by omega));have W3:=jH (show PsW (r8 (r8 q ub xt xc) ub 0 (xc*(xd-xp))) 1000000 from Ap7 (AU7 (AU7 Hqw.out hb2.1 _ _) hb2.1 _ _) (by omega));clear hb2;go_wp2_with(fail);refine rt 16 hS ?_
   iterate 5 (refine qR ?_)
   (apply As7;rfl;rfl;rfl;decide +kernel;exact hcells (by exact j5) 0 _ rfl;refine frS ?_)
   iterate 4 (refine qR ?_)
   (apply As7;rfl;rfl;rfl;decide +kernel;exact hcells (by exact j5) 4 _ rfl;refine frS ?_)
   iterate 4 (refine qR ?_)
   (apply As7;rfl;rfl;rfl;decide +kernel;exact hcells (by exact j5) 5 _ rfl;refine frS ?_);clear hS;intro w hS;simp only[jD,List.drop_zero];go_wp2_with(first|go_at_call 185;refine(dd4 xb _ (n+1) _ 1000000 W _ _ W1.out (Nat.le_refl _) _ _ _ (G1.out _) ⟨by omega,by omega⟩ ⟨by omega,by omega⟩ hS).mono ?_;clear hS;rintro e w ⟨rfl,hS⟩);refine rt 23 hS ?_
   iterate 5 (refine qR ?_)
   (apply As7;rfl;rfl;rfl;decide +kernel;exact hcells (by exact j5) 0 _ rfl;refine frS ?_)
   iterate 4 (refine qR ?_)
   (apply As7;rfl;rfl;rfl;decide +kernel;exact hcells (by exact j5) 5 _ rfl;refine frS ?_)
   iterate 4 (refine qR ?_)
   (apply As7;rfl;rfl;rfl;decide +kernel;exact hcells (by exact j5) 7 _ rfl;refine frS ?_)
   iterate 4 (refine qR ?_)
   (apply As7;rfl;rfl;rfl;decide +kernel;exact hcells (by exact j5) 6 _ rfl;refine frS ?_)
   iterate 2 (refine qR ?_)
   clear hS;intro w hS;simp only[jD,List.drop_zero];go_wp2_with(first|go_at_call 185;refine(dd4 xb _ (n+1) _ 1000000 W _ _ W2.out (Nat.le_refl _) _ _ _ (G2.out _) ⟨by omega,by omega⟩ ⟨by omega,by omega⟩ hS).mono ?_;clear hS;rintro e w ⟨rfl,hS⟩);refine rt 17 hS ?_
   iterate 5 (refine qR ?_)
   (apply As7;rfl;rfl;rfl;decide +kernel;exact hcells (by exact j5) 1 _ rfl;refine frS ?_)
   iterate 4 (refine qR ?_)
   (apply As7;rfl;rfl;rfl;decide +kernel;exact hcells (by exact j5) 5 _ rfl;refine frS ?_)
   iterate 4 (refine qR ?_)
   (apply As7;rfl;rfl;rfl;decide +kernel;exact hcells (by exact j5) 6 _ rfl;refine frS ?_);refine qR ?_;clear hS;intro w hS;simp only[jD,List.drop_zero];go_wp2_with(first|go_at_call 185;refine(dd4 xb _ (n+1) _ 1000000 W _ _ W3.out (Nat.le_refl _) _ _ _ (G3.out _) ⟨by omega,by omega⟩ ⟨by omega,by omega⟩ hS).mono ?_;clear hS;rintro e w ⟨rfl,hS⟩);go_roundw
   case rel=>exact⟨k+1,rfl,hk1,by rw[Hstep.out];exact hS⟩
   case measure=>simp[intOf];omega
end
theorem hq4(xb xB:Nat)(V:Vs)(N:Nat)(o:Ord)(hp:N5 V.ps)(hw:PsW V.ps N)(hN:N+150<=1000000)(hmay:∀x∈V.L,MayP x)(hn:1<=V.n)(W w:World)(R:List HP)(hS:St W (xvR xb xB V.ps V.L V.n R) w):
  Calls Tryz.prog 121 #[.P xb,.agg o.cells.toArray] w fun e w'=>e=.returned (.tuple #[.I (E6 V o).1,.I (E6 V o).2.1]) /\
   St W (xvR xb xB (E6 V o).2.2.ps (E6 V o).2.2.L (E6 V o).2.2.n R) w':=by
 unfold E6;by_cases h1:bA4 o=false
 ·rw[if_pos h1];exact MX7 xb xB V.ps V.L V.n o W w R h1 hS
 ·rw[if_neg h1];have h1':bA4 o=true:=by simpa using h1
  by_cases h2:32<=V.L.length\/1099511627776<V.n
  ·rw[if_pos h2];exact KA7 xb xB V.ps V.L V.n o W w R h1' h2 hS
  ·rw[if_neg h2];by_cases h3:A5 V.ps o.who (l8 o)=0
   ·rw[if_pos h3];exact OJ7 xb xB V.ps V.L V.n N o W w R hp hw hN hmay h1' hn (by omega) (by omega) h3 hS
   ·rw[if_neg h3]
    have h14:A5 V.ps o.who (l8 o)=14:=by
     have hh:=CR7 h1';unfold A5 at h3 ⊢;rw[if_pos hh]at h3 ⊢;split
     ·rename_i hs;rw[if_pos hs]at h3;exact absurd rfl h3
     ·rfl
    exact Jm7 xb xB V.ps V.L V.n N o W w R hw (by omega) h1' (by omega) hn (by omega) h14 hS
def CaR(W:World)(F:List HP)(L:List Ord)(id:Int)(who:ByteArray)(v:Value)(w:World):Prop:=
 ∃i:Nat,v=.I i/\i<=L.length/\(∀x∈L.take i,aE4 id who x=false)/\St W F w
section
variable(xb xB:Nat)(p:Ps)(L:List Ord)(n:Int)(N:Nat)(who:ByteArray)(id:Int)(W w:World)(R:List HP)
theorem fc4(hp:N5 p)(hw:PsW p N)(hN:N+150<=1000000)(hmay:∀x∈L,MayP x)(hl32:L.length<=32)(hS:St W (xvR xb xB p L n R) w):
  Calls Tryz.prog 122 #[.P xb,.string who,.I id] w fun e w'=>e=.returned (.I (F6 ⟨p,L,n⟩ who id).1)/\St W (xvR xb xB (F6 ⟨p,L,n⟩ who id).2.ps (F6 ⟨p,L,n⟩ who id).2.L n R) w':=by
 have Hp:=jH hp;have Hw:=jH hw;have Hmay:=jH hmay;clear hp hw hmay;obtain⟨xv,hS1⟩:=bc4 hS;obtain⟨la,lc,last,hlast,hS2⟩:=bD4 (hS1.s (xkP xB L n::blk xb _ _::hdR _ (hdL p)::R));clear hS hS1;have hS:=hS2;clear hS2;go_enter Tryz.func122,Tryz.ntmps122;go_wp2_with fail
 go_loopw [7] (fun v wr=>CaR W (blk xB [.slice la L.length lc,.I last] 244::j8 (.slice la L.length lc) L::blk xb [xv,.P xB,.I n] 246::hdR xv (hdL p)::R) L id who v wr) (fun v _=>L.length-(intOf v).toNat)
 case atStart=>exact⟨0,rfl,Nat.zero_le _,fun x hx=>(by simp at hx),hS⟩
 case round=>
  clear hS;obtain⟨i,rfl,hil,hno,hS⟩:=hrel;by_cases hin:i=L.length
  ·rw[hin,List.take_length]at hno;have hany:L.any (aE4 id who)=false:=by rw[List.any_eq_false];intro x hx;rw[hno x hx];simp
   have E:=jH (show F6 ⟨p,L,n⟩ who id=(7,⟨p,L,n⟩)by unfold F6;rw[if_neg (by rw[hany];simp)]);subst hin;clear hno hany;go_wp2_with(first|refine zl1 hS ?_);go_ret;rw[E.out];have hS1:=aT4 hlast (hS.s (blk xB _ _::j8 _ L::blk xb _ _::hdR _ (hdL p)::R));exact⟨rfl,au4 (hS1.s (blk xb _ _::hdR _ (hdL p)::xkP xB L n::R))⟩
  ·have hi1:i<L.length:=by omega
   obtain⟨⟨g,rfl⟩,hcap,hcn⟩:=St.rowAddr hS.drop (by omega);have q0:(Ord.cells L[i])[0]? = some (.I L[i].id):=rfl;have q1:(Ord.cells L[i])[1]? = some (.string L[i].who):=rfl
   have hstep:aE4 id who L[i]=false->∀x∈L.take (i+1),aE4 id who x=false:=fun h x hx=>by
    rw[List.take_succ_eq_append_getElem hi1]at hx
    rcases List.mem_append.1 hx with hx|hx
    ·exact hno x hx
    ·rw[List.mem_singleton.1 hx];exact h
   have hyes:aE4 id who L[i]=true->L.any (aE4 id who)=true:=fun h=>List.any_eq_true.2 ⟨_,jW hi1,h⟩
   have hd:aE4 id who L[i]=((L[i].id==id)&&(L[i].who.toList==who.toList)):=rfl;generalize hx:L[i]=x at q0 q1 hstep hyes hd;have Hx:=jH hx;clear hx hno hin;obtain⟨xi,xu,xy,xt,xc,xp⟩:=x;simp only at q0 q1 hd;have c0:∀{K K':List HP},Take K (j8 (.S g L.length lc) L) K'->i9 K g (i*6) (.I xi):=fun hu=>i8.elemM (enc:=Ord.cells) Ord.len hu hi1 0 _ (by rw[Hx.out];rfl)
   have c1:∀{K K':List HP},Take K (j8 (.S g L.length lc) L) K'->i9 K g (i*6+1) (.string xu):=fun hu=>i8.elemM (enc:=Ord.cells) Ord.len hu hi1 1 _ (by rw[Hx.out];rfl)
   cases h1:xi==id with
   | false=>
    rw[h1,Bool.false_and]at hd;have Hs:=jH (hstep hd);clear hstep hyes hd q0 q1;go_wp2_with(first|refine zl1 hS ?_|refine zl1 hS ?_ (hc:=by exact c0 (by exact j5)));go_roundw
    case rel=>exact⟨i+1,rfl,hi1,Hs.out,hS⟩
    case measure=>simp[intOf];omega
   | true=>
    cases h2:xu.toList==who.toList with
    | false=>
     rw[h1,h2,Bool.and_false]at hd;have Hs:=jH (hstep hd);clear hstep hyes hd q0 q1;go_wp2_with(first|refine zl1 hS ?_|refine zl1 hS ?_ (hc:=by exact c0 (by exact j5))|refine zl1 hS ?_ (hc:=by exact c1 (by exact j5)));go_roundw
     case rel=>exact⟨i+1,rfl,hi1,Hs.out,hS⟩
     case measure=>simp[intOf];omega
    | true=>
     rw[h1,h2,Bool.and_true]at hd;have hany:=hyes hd;obtain⟨he0,hmem⟩:=Dx7 hany;have hmz:=Hmay.out _ hmem;have e:F6 ⟨p,L,n⟩ who id=(0,⟨cw4 p who (l8 (A6 L id).o),(A6 L id).L,n⟩):=by unfold F6;rw[if_pos hany]
     generalize hCR:A6 L id=CR at he0 hmz e;obtain⟨⟨zi,zu,zy,zt,zc,zp⟩,en,L2⟩:=CR;simp only at he0 hmz e;subst he0;obtain⟨it,hit⟩:∃y,l8 ⟨zi,zu,zy,zt,zc,zp⟩=y:=⟨_,rfl⟩
     have hii:x8 it=true:=by rw[<-hit];exact(CR7 (o:=⟨zi,zu,zy,zt,zc,zp⟩) (Ao7.2 ⟨show(1:Int)<=1 by decide,show(1:Int)<=1099511627776 by decide,hmz.who0,hmz.who1,hmz.item0,hmz.item1,hmz.cnt0,hmz.cnt1,hmz.price0,hmz.price1⟩)).2
     have hwho:C8 who=true:=by
      have hxw:(⟨xi,xu,xy,xt,xc,xp⟩:Ord)∈L:=by rw[<-Hx.out];exact jW hi1
      have e1:xu=who:=Ep7 (by rw[Lib.toList_data,Lib.toList_data]at h2;simpa using h2);rw[<-e1];exact Fi7 (Hmay.out _ hxw)
     rw[hit]at e;obtain⟨h0,h1',h2',h3'⟩:=it;obtain⟨a0,a1,a2,a3⟩:=Af7.1 hii;simp only at a0 a1 a2 a3;have HCR:=jH hCR;have Hmz:=jH hmz;have Hit:=jH hit;have E:=jH e;clear hCR hmz hit e hii hstep hyes hd q0 q1 hany hmem;have G1:=jH (show ∀y,x8 (m5 p y)=true from Hp.out);have G2:=jH (show ∀y,x8 (m5 (r8 p who 0 h0) y)=true from An7 Hp.out _ _ a0.1);have G3:=jH (show ∀y,x8 (m5 (r8 (r8 p who 0 h0) who 1 h1') y)=true from An7 (An7 Hp.out _ _ a0.1) _ _ a1.1);have G4:=jH (show ∀y,x8 (m5 (r8 (r8 (r8 p who 0 h0) who 1 h1') who 2 h2') y)=true from An7 (An7 (An7 Hp.out _ _ a0.1) _ _ a1.1) _ _ a2.1);have W1:=jH (show PsW p 1000000 from Ap7 Hw.out (by omega));have W2:=jH (show PsW (r8 p who 0 h0) 1000000 from Ap7 (AU7 Hw.out hwho _ _) (by omega));have W3:=jH (show PsW (r8 (r8 p who 0 h0) who 1 h1') 1000000 from Ap7 (AU7 (AU7 Hw.out hwho _ _) hwho _ _) (by omega));have W4:=jH (show PsW (r8 (r8 (r8 p who 0 h0) who 1 h1') who 2 h2') 1000000 from Ap7 (AU7 (AU7 (AU7 Hw.out hwho _ _) hwho _ _) hwho _ _) (by omega));clear hwho;go_wp2_with(first|refine zl1 hS ?_|refine zl1 hS ?_ (hc:=by exact c0 (by exact j5))|refine zl1 hS ?_ (hc:=by exact c1 (by exact j5))|go_at_call 186;refine(Hi7 L id xB last _ hl32 W _ _ (hS.s (blk xB _ _::j8 _ L::blk xb _ _::hdR _ (hdL p)::R))).mono ?_;clear hS;rw[HCR.out];simp only[Ord.cells];rintro e w ⟨rfl,v9,hS⟩|go_at_call 183;refine(Eu7 (o:=⟨zi,zu,zy,zt,zc,zp⟩) Hmz.out Hit.out W _ _ hS).mono ?_;clear hS;rintro e w ⟨rfl,hS⟩|(fail_if_success (have:=b8));((with_reducible apply Al7 hS);rfl;rfl;exact zsS;clear hS;intro b8 w hS;refine frS ?_)|(have:=b8);(with_reducible apply Al7 hS);rfl;rfl;exact zsS;clear hS;intro b10 w hS;refine frS ?_|refine zlN hS ?_|refine zsN hS ?_;clear hS;intro w hS);have hS1:=aT4 hlast (hS.s (blk xB _ _::j8 _ L2::blk xb _ _::hdR _ (hdL p)::blk b10 _ _::R));clear hS
     have hS:=au4 (hS1.s (blk xb _ _::hdR _ (hdL p)::xkP xB L2 n::blk b10 _ _::R));clear hS1
     go_loopw [11] (fun v wr=>Cn4 W (fun q=>[xvP xb (.P xB) n q,xkP xB L2 n,blk b10 [.I h0,.I h1',.I h2',.I h3'] 29]++R) p who ⟨h0,h1',h2',h3'⟩ v wr) (fun v _=>4-(intOf v).toNat)
     case atStart=>exact .inl ⟨rfl,hS⟩
     case round=>
     clear hS;simp only[Cn4,jK,jN]at hrel
     rcases hrel with ⟨rfl,hS⟩|⟨rfl,hS⟩|⟨rfl,hS⟩|⟨rfl,hS⟩|⟨rfl,hS⟩
     ·skip
      go_wp2_with(first|refine zl1 hS ?_|go_at_call 185;refine(dd4 xb _ n _ 1000000 W _ _ W1.out (Nat.le_refl _) _ _ _ (G1.out _) ⟨by omega,by omega⟩ ⟨by omega,by omega⟩ hS).mono ?_;clear hS;rintro e w ⟨rfl,hS⟩);go_roundw
      case rel=>exact .inr (.inl ⟨rfl,hS⟩)
      case measure=>simp[intOf]
     ·skip
      go_wp2_with(first|refine zl1 hS ?_|go_at_call 185;refine(dd4 xb _ n _ 1000000 W _ _ W2.out (Nat.le_refl _) _ _ _ (G2.out _) ⟨by omega,by omega⟩ ⟨by omega,by omega⟩ hS).mono ?_;clear hS;rintro e w ⟨rfl,hS⟩);go_roundw
      case rel=>exact .inr (.inr (.inl ⟨rfl,hS⟩))
      case measure=>simp[intOf]
     ·skip
      go_wp2_with(first|refine zl1 hS ?_|go_at_call 185;refine(dd4 xb _ n _ 1000000 W _ _ W3.out (Nat.le_refl _) _ _ _ (G3.out _) ⟨by omega,by omega⟩ ⟨by omega,by omega⟩ hS).mono ?_;clear hS;rintro e w ⟨rfl,hS⟩);go_roundw
      case rel=>exact .inr (.inr (.inr (.inl ⟨rfl,hS⟩)))
      case measure=>simp[intOf]
     ·skip
      go_wp2_with(first|refine zl1 hS ?_|go_at_call 185;refine(dd4 xb _ n _ 1000000 W _ _ W4.out (Nat.le_refl _) _ _ _ (G4.out _) ⟨by omega,by omega⟩ ⟨by omega,by omega⟩ hS).mono ?_;clear hS;rintro e w ⟨rfl,hS⟩);go_roundw
      case rel=>exact .inr (.inr (.inr (.inr ⟨rfl,hS⟩)))
      case measure=>simp[intOf]
     ·go_wp2_with(fail);go_ret;rw[E.out];exact⟨rfl,hS.s _⟩
end
end Go.Proofs.YtlmhakmoioogaaaGreat
end
