/-
  The document's purses together.
-/
import Derived.Test.YtlmhakmoioogaaaGreatEconDcM4
import Derived.Test.YtlmhakmoioogaaaGreatEconDcM12
import Derived.Test.YtlmhakmoioogaaaGreatEconDcM14
import Derived.Test.YtlmhakmoioogaaaGreatEconDcM15
import Derived.Test.YtlmhakmoioogaaaGreatEconDcM16
import Derived.Test.YtlmhakmoioogaaaGreatEconDcM19
import Derived.Test.YtlmhakmoioogaaaGreatEconDcM20
set_option maxHeartbeats 16000000
set_option maxRecDepth 100000
set_option linter.unusedSimpArgs false
set_option linter.unusedVariables false
section
namespace Go.Proofs.YtlmhakmoioogaaaGreat
open Go.RowKit Go.Sl
def Ad8(W:World)(F:It->List HP)(i j:It)(v:Value)(w:World):Prop:=
 (v=.I 0/\St W (F i) w)\/(v=.I 1/\i.x0+j.x0<=1152921504606846976/\St W (F ⟨i.x0+j.x0,i.x1,i.x2,i.x3⟩) w)\/(v=.I 2/\(i.x0+j.x0<=1152921504606846976/\i.x1+j.x1<=1152921504606846976)/\St W (F ⟨i.x0+j.x0,i.x1+j.x1,i.x2,i.x3⟩) w) \/
  (v=.I 3/\(i.x0+j.x0<=1152921504606846976/\i.x1+j.x1<=1152921504606846976/\i.x2+j.x2<=1152921504606846976)/\St W (F ⟨i.x0+j.x0,i.x1+j.x1,i.x2+j.x2,i.x3⟩) w)\/(v=.I 4/\(i.x0+j.x0<=1152921504606846976/\i.x1+j.x1<=1152921504606846976/\i.x2+j.x2<=1152921504606846976/\i.x3+j.x3<=1152921504606846976)/\St W (F (S7 i j)) w)
theorem fk4(l:List It)(v:Value)(W w:World)(R:List HP)(hS:St W (row v 4 29 l.length (l.flatMap It.cells)::R) w):
  Calls Tryz.prog 117 #[v] w fun e w'=>e=.returned (.tuple #[.agg (I6 l).cells.toArray,.bool (y9 l it0).isSome])/\St W (row v 4 29 l.length (l.flatMap It.cells)::R) w':=by
 obtain⟨a,cap,rfl⟩:=hS.rowVal
 have h63:l.length<=9223372036854775807:=by
  rcases St.rowCase hS with ⟨_,h0,_⟩|⟨_,_,h1,h2⟩
  ·omega
  ·omega
 go_enter Tryz.func117,Tryz.ntmps117;go_wp2_with(first|(fail_if_success (have:=bA));(with_reducible apply Ao7 hS);rfl;rfl;exact zsS;clear hS;intro bA w hS;refine frS ?_|(have:=bA);(with_reducible apply Ao7 hS);rfl;rfl;exact zsS;clear hS;intro bB w hS;refine frS ?_)
 go_loopw [5] (fun v wr=>AdR W (fun q=>[blk bB [.I q.x0,.I q.x1,.I q.x2,.I q.x3] 29,blk bA [.I 0,.I 0,.I 0,.I 0] 29,row (.slice a l.length cap) 4 29 l.length (l.flatMap It.cells)]++R) l v wr) (fun v _=>l.length-(intOf v).toNat)
 case atStart=>exact⟨0,it0,rfl,Nat.zero_le _,rfl,rfl,hS⟩
 case round=>
  clear hS;obtain⟨n,s,rfl,hnl,hs,he,hS⟩:=hrel;simp only[jK,jN]at hS;obtain⟨s0,s1,s2,s3⟩:=s;simp only at hS;by_cases hn:n=l.length
  ·subst hn;rw[List.drop_length]at he;have E:=jH he;clear he;go_wp2_with(first|refine zlN hS ?_|refine zsN hS ?_;clear hS;intro w hS);apply Ab7;rfl;rfl;rfl;rfl;exact hS;decide +kernel;(exact x9);kernel_rfl;unfold I6;rw[E.out];exact⟨rfl,hS.drop.drop⟩
  ·have hn1:n<l.length:=by omega
   obtain⟨⟨g,rfl⟩,_,_⟩:=St.rowAddr hS.drop.drop (by omega);have hx:∀{K K':List HP},Take K (row (.S g l.length cap) 4 29 l.length (l.flatMap It.cells)) K'->d7 K g (n*4) (It.cells l[n]):=fun hu=>d7.elemM (enc:=It.cells) It.len hu hn1
   have hdr:l.drop n=l[n]::l.drop (n+1):=List.drop_eq_getElem_cons hn1;rw[hdr]at he;clear hdr;generalize l[n]=x at hx he;obtain⟨x0,x1,x2,x3⟩:=x;simp only[It.cells]at hx
   cases hi:w8 ⟨x0,x1,x2,x3⟩with
   | false=>
    have E:=jH (show y9 l it0=none by rw[he,y9,if_neg (fun h=>by rw[hi]at h;cases h.1)]);clear he;go_wp2_with(first|refine zlN hS ?_ (hc:=by exact hx (by exact g8))|go_at_call 116;refine(HJ7 _ _ _ _ W _ _ hS).mono ?_;clear hS;rw[hi];rintro e w ⟨rfl,hS⟩|refine zsN hS ?_;clear hS;intro w hS);apply Ab7;rfl;rfl;rfl;rfl;exact hS;decide +kernel;(exact x9);kernel_rfl;unfold I6;rw[E.out];exact⟨rfl,hS.s _⟩
   | true=>
    have he2:y9 l it0=if w8 (S7 ⟨s0,s1,s2,s3⟩ ⟨x0,x1,x2,x3⟩)=true then y9 (l.drop (n+1)) (S7 ⟨s0,s1,s2,s3⟩ ⟨x0,x1,x2,x3⟩)else none:=by rw[he,y9];simp[hi]
    have E2:=jH he2;clear he he2;obtain⟨a0,a1,a2,a3⟩:=Ai7.1 hi;obtain⟨b0,b1,b2,b3⟩:=Ai7.1 hs;simp only at a0 a1 a2 a3 b0 b1 b2 b3;go_wp2_with(first|refine zlN hS ?_ (hc:=by exact hx (by exact g8))|go_at_call 116;refine(HJ7 _ _ _ _ W _ _ hS).mono ?_;clear hS;rw[hi];rintro e w ⟨rfl,hS⟩)
    go_loopw [6] (fun v wr=>Ad8 W (fun q=>[blk bB [.I q.x0,.I q.x1,.I q.x2,.I q.x3] 29,blk bA [.I 0,.I 0,.I 0,.I 0] 29,row (.S g l.length cap) 4 29 l.length (l.flatMap It.cells)]++R) ⟨s0,s1,s2,s3⟩ ⟨x0,x1,x2,x3⟩ v wr) (fun v _=>4-(intOf v).toNat)
    case atStart=>exact .inl ⟨rfl,hS⟩
    case round=>
     clear hS hs hi;simp only[Ad8,S7,jK,jN]at hrel
     rcases hrel with ⟨rfl,hS⟩|⟨rfl,c0,hS⟩|⟨rfl,⟨c0,c1⟩,hS⟩|⟨rfl,⟨c0,c1,c2⟩,hS⟩|⟨rfl,⟨c0,c1,c2,c3⟩,hS⟩
     ·skip
      by_cases h1:1152921504606846976-s0<x0
      ·have E:=jH (show y9 l it0=none by rw[E2.out,if_neg (fun h=>by obtain⟨p0,p1,p2,p3⟩:=Ai7.1 h;simp only[S7]at p0 p1 p2 p3;omega)]);go_wp2_with(fail);refine Aa7 (by kernel_rfl) (by kernel_rfl) hS ?_
       iterate 5 (refine qR ?_)
       (apply Am7;rfl;rfl;rfl;decide +kernel;exact hx (by exact g8) 0 _ rfl;refine frS ?_)
       iterate 2 (refine qR ?_)
       (refine zq1 ?_)
       iterate 2 (refine qR ?_)
       clear hS;intro w hS;go_wp2_with(first|refine zsN hS ?_;clear hS;intro w hS);apply Ab7;rfl;rfl;rfl;rfl;exact hS;decide +kernel;(exact x9);kernel_rfl;unfold I6;rw[E.out];exact⟨rfl,hS.s _⟩
      ·have d1:decide (1152921504606846976-s0<x0)=false:=by simpa using h1
       go_wp2_with(fail);refine Aa7 (by kernel_rfl) (by kernel_rfl) hS ?_
       iterate 5 (refine qR ?_)
       (apply Am7;rfl;rfl;rfl;decide +kernel;exact hx (by exact g8) 0 _ rfl;refine frS ?_)
       iterate 2 (refine qR ?_)
       (refine zq1 ?_)
       iterate 2 (refine qR ?_)
       clear hS;intro w hS;go_wp2_with(fail);refine rt 12 hS ?_
       iterate 3 (refine qR ?_)
       (refine zq1 ?_)
       iterate 5 (refine qR ?_)
       (apply Am7;rfl;rfl;rfl;decide +kernel;exact hx (by exact g8) 0 _ rfl;refine frS ?_)
       iterate 2 (refine qR ?_)
       clear hS;intro w hS;simp only[jD,List.drop_zero];go_wp2_with(first|refine zs1 hS ?_;clear hS;intro w hS);go_roundw
       case rel=>exact .inr (.inl ⟨rfl,by simp only;omega,hS⟩)
       case measure=>simp[intOf]
     ·skip
      by_cases h1:1152921504606846976-s1<x1
      ·have E:=jH (show y9 l it0=none by rw[E2.out,if_neg (fun h=>by obtain⟨p0,p1,p2,p3⟩:=Ai7.1 h;simp only[S7]at p0 p1 p2 p3;omega)]);go_wp2_with(fail);refine Aa7 (by kernel_rfl) (by kernel_rfl) hS ?_
       iterate 5 (refine qR ?_)
       (apply Am7;rfl;rfl;rfl;decide +kernel;exact hx (by exact g8) 1 _ rfl;refine frS ?_)
       iterate 2 (refine qR ?_)
       (refine zq1 ?_)
       iterate 2 (refine qR ?_)
       clear hS;intro w hS;go_wp2_with(first|refine zsN hS ?_;clear hS;intro w hS);apply Ab7;rfl;rfl;rfl;rfl;exact hS;decide +kernel;(exact x9);kernel_rfl;unfold I6;rw[E.out];exact⟨rfl,hS.s _⟩
      ·have d1:decide (1152921504606846976-s1<x1)=false:=by simpa using h1
       go_wp2_with(fail);refine Aa7 (by kernel_rfl) (by kernel_rfl) hS ?_
       iterate 5 (refine qR ?_)
       (apply Am7;rfl;rfl;rfl;decide +kernel;exact hx (by exact g8) 1 _ rfl;refine frS ?_)
       iterate 2 (refine qR ?_)
       (refine zq1 ?_)
       iterate 2 (refine qR ?_)
       clear hS;intro w hS;go_wp2_with(fail);refine rt 12 hS ?_
       iterate 3 (refine qR ?_)
       (refine zq1 ?_)
       iterate 5 (refine qR ?_)
       (apply Am7;rfl;rfl;rfl;decide +kernel;exact hx (by exact g8) 1 _ rfl;refine frS ?_)
       iterate 2 (refine qR ?_)
       clear hS;intro w hS;simp only[jD,List.drop_zero];go_wp2_with(first|refine zs1 hS ?_;clear hS;intro w hS);go_roundw
       case rel=>exact .inr (.inr (.inl ⟨rfl,⟨c0,by simp only;omega⟩,hS⟩))
       case measure=>simp[intOf]
     ·skip
      by_cases h1:1152921504606846976-s2<x2
      ·have E:=jH (show y9 l it0=none by rw[E2.out,if_neg (fun h=>by obtain⟨p0,p1,p2,p3⟩:=Ai7.1 h;simp only[S7]at p0 p1 p2 p3;omega)]);go_wp2_with(fail);refine Aa7 (by kernel_rfl) (by kernel_rfl) hS ?_
       iterate 5 (refine qR ?_)
       (apply Am7;rfl;rfl;rfl;decide +kernel;exact hx (by exact g8) 2 _ rfl;refine frS ?_)
       iterate 2 (refine qR ?_)
       (refine zq1 ?_)
       iterate 2 (refine qR ?_)
       clear hS;intro w hS;go_wp2_with(first|refine zsN hS ?_;clear hS;intro w hS);apply Ab7;rfl;rfl;rfl;rfl;exact hS;decide +kernel;(exact x9);kernel_rfl;unfold I6;rw[E.out];exact⟨rfl,hS.s _⟩
      ·have d1:decide (1152921504606846976-s2<x2)=false:=by simpa using h1
       go_wp2_with(fail);refine Aa7 (by kernel_rfl) (by kernel_rfl) hS ?_
       iterate 5 (refine qR ?_)
       (apply Am7;rfl;rfl;rfl;decide +kernel;exact hx (by exact g8) 2 _ rfl;refine frS ?_)
       iterate 2 (refine qR ?_)
       (refine zq1 ?_)
       iterate 2 (refine qR ?_)
       clear hS;intro w hS;go_wp2_with(fail);refine rt 12 hS ?_
       iterate 3 (refine qR ?_)
       (refine zq1 ?_)
       iterate 5 (refine qR ?_)
       (apply Am7;rfl;rfl;rfl;decide +kernel;exact hx (by exact g8) 2 _ rfl;refine frS ?_)
       iterate 2 (refine qR ?_)
       clear hS;intro w hS;simp only[jD,List.drop_zero];go_wp2_with(first|refine zs1 hS ?_;clear hS;intro w hS);go_roundw
       case rel=>exact .inr (.inr (.inr (.inl ⟨rfl,⟨c0,c1,by simp only;omega⟩,hS⟩)))
       case measure=>simp[intOf]
     ·skip
      by_cases h1:1152921504606846976-s3<x3
      ·have E:=jH (show y9 l it0=none by rw[E2.out,if_neg (fun h=>by obtain⟨p0,p1,p2,p3⟩:=Ai7.1 h;simp only[S7]at p0 p1 p2 p3;omega)]);go_wp2_with(fail);refine Aa7 (by kernel_rfl) (by kernel_rfl) hS ?_
       iterate 5 (refine qR ?_)
       (apply Am7;rfl;rfl;rfl;decide +kernel;exact hx (by exact g8) 3 _ rfl;refine frS ?_)
       iterate 2 (refine qR ?_)
       (refine zq1 ?_)
       iterate 2 (refine qR ?_)
       clear hS;intro w hS;go_wp2_with(first|refine zsN hS ?_;clear hS;intro w hS);apply Ab7;rfl;rfl;rfl;rfl;exact hS;decide +kernel;(exact x9);kernel_rfl;unfold I6;rw[E.out];exact⟨rfl,hS.s _⟩
      ·have d1:decide (1152921504606846976-s3<x3)=false:=by simpa using h1
       go_wp2_with(fail);refine Aa7 (by kernel_rfl) (by kernel_rfl) hS ?_
       iterate 5 (refine qR ?_)
       (apply Am7;rfl;rfl;rfl;decide +kernel;exact hx (by exact g8) 3 _ rfl;refine frS ?_)
       iterate 2 (refine qR ?_)
       (refine zq1 ?_)
       iterate 2 (refine qR ?_)
       clear hS;intro w hS;go_wp2_with(fail);refine rt 12 hS ?_
       iterate 3 (refine qR ?_)
       (refine zq1 ?_)
       iterate 5 (refine qR ?_)
       (apply Am7;rfl;rfl;rfl;decide +kernel;exact hx (by exact g8) 3 _ rfl;refine frS ?_)
       iterate 2 (refine qR ?_)
       clear hS;intro w hS;simp only[jD,List.drop_zero];go_wp2_with(first|refine zs1 hS ?_;clear hS;intro w hS);go_roundw
       case rel=>exact .inr (.inr (.inr (.inr ⟨rfl,⟨c0,c1,c2,by simp only;omega⟩,hS⟩)))
       case measure=>simp[intOf]
     ·have hq:w8 ⟨s0+x0,s1+x1,s2+x2,s3+x3⟩=true:=Ai7.2 ⟨⟨by simp only;omega,c0⟩,⟨by simp only;omega,c1⟩,⟨by simp only;omega,c2⟩,by simp only;omega,c3⟩;have E:=jH (show y9 l it0=y9 (l.drop (n+1)) ⟨s0+x0,s1+x1,s2+x2,s3+x3⟩by rw[E2.out,S7];simp[hq]);have Hq:=jH hq;clear E2 hq;go_wp2_with(fail);go_roundw
      case rel=>exact⟨n+1,_,rfl,hn1,Hq.out,E.out,hS.s _⟩
      case measure=>simp[intOf];omega
def xvP(xb:Nat)(vB:Value)(n:Int)(p:Ps):HP:=fun f=>∃v:Value,sats [blk xb [v,vB,.I n] 246,hdR v (hdL p)] f
section
variable{W w:World}{xb:Nat}{vB:Value}{n:Int}{p:Ps}{R:List HP}{N:Nat}
theorem cU4(h:St W (xvP xb vB n p::R) w):∃v,St W (xvL xb v vB n (hdL p) R) w:=by obtain⟨v,h⟩:=St.ex h;exact⟨v,(St.split (St.split h).swap).swap.drop.swap⟩
theorem cw4{v:Value}(h:St W (xvL xb v vB n (hdL p) R) w):St W (xvP xb vB n p::R) w:=by refine St.mkEx v ?_;refine St.join ?_;refine St.swap (St.imp h.swap ?_);intro f hf;exact⟨fun _=>true,hf,trivial⟩
theorem Ov7{l:List It}{s0 s1 s2 s3:Int}(h:y9 l it0=some ⟨s0,s1,s2,s3⟩)(v:Value)(W w:World)(R:List HP)(hS:St W (row v 4 29 l.length (l.flatMap It.cells)::R) w):
  Calls Tryz.prog 117 #[v] w fun e w'=>e=.returned (.tuple #[.agg #[.I s0,.I s1,.I s2,.I s3],.bool true])/\St W R w':=
 (fk4 l v W w R hS).mono fun e w' ⟨he,hS⟩=>⟨by rw[he,I6,h];rfl,hS.drop⟩
theorem Ow7{l:List It}(h:y9 l it0=none)(v:Value)(W w:World)(R:List HP)(hS:St W (row v 4 29 l.length (l.flatMap It.cells)::R) w):
  Calls Tryz.prog 117 #[v] w fun e w'=>e=.returned (.tuple #[.agg #[.I 0,.I 0,.I 0,.I 0],.bool false])/\St W R w':=
 (fk4 l v W w R hS).mono fun e w' ⟨he,hS⟩=>⟨by rw[he,I6,h];rfl,hS.drop⟩
end
section
variable(xb:Nat)(vB:Value)(n:Int)(p:Ps)(N:Nat)(W w:World)(R:List HP)
end
section
variable(xb:Nat)(vB:Value)(n:Int)(p:Ps)(N:Nat)(W w:World)(R:List HP)
end
def xkP(xB:Nat)(L:List Ord)(n:Int):HP:=fun f=>∃(v:Value) (last:Int),last<n/\sats [blk xB [v,.I last] 244,i9 v L] f
section
variable{W w:World}{xB:Nat}{L:List Ord}{n:Int}{R:List HP}
theorem dw4(h:St W (xkP xB L n::R) w):∃a c last,last<n/\St W (blk xB [.slice a L.length c,.I last] 244::i9 (.slice a L.length c) L::R) w:=by obtain⟨v,h⟩:=St.ex h;obtain⟨last,h⟩:=St.ex h;obtain⟨h1,h⟩:=St.and h;have hS:=(St.split (St.split h).swap).swap.drop.swap;obtain⟨a,c,rfl⟩:=hS.drop.rowVal;exact⟨a,c,last,h1,hS⟩
theorem cx4{v:Value}{last:Int}(hl:last<n)(h:St W (blk xB [v,.I last] 244::i9 v L::R) w):St W (xkP xB L n::R) w:=by refine St.mkEx v (St.mkEx last (St.mkAnd hl ?_));refine St.join ?_;refine St.swap (St.imp h.swap ?_);intro f hf;exact⟨fun _=>true,hf,trivial⟩
end
abbrev xvR(xb xB:Nat)(p:Ps)(L:List Ord)(n:Int)(R:List HP):List HP:=xvP xb (.P xB) n p::xkP xB L n::R
section
variable(xb xB:Nat)(p:Ps)(L:List Ord)(n:Int)(N:Nat)(o:Ord)(W w:World)(R:List HP)
theorem Ox7{o:Ord}{h0 h1 h2 h3:Int}(hm:MayP o)(h:m9 o=⟨h0,h1,h2,h3⟩)(W w:World)(R:List HP)(hS:St W R w):
  Calls Tryz.prog 183 #[.agg o.cells.toArray] w fun e w'=>e=.returned (.agg #[.I h0,.I h1,.I h2,.I h3])/\St W R w':=
 (fi4 o hm W w R hS).mono fun e w' ⟨he,hS⟩=>⟨by rw[he,h];rfl,hS⟩
end
def pxR(xB:Nat)(L:List Ord)(m:Int)(ts:List Trd)(v:Value):HP:=fun f=>∃(a:Option Addr) (c:Nat) (left:Int),v=.tuple #[.slice a ts.length c,.I left,.I 0]/\sats [xkP xB L m,row (.slice a ts.length c) 8 251 ts.length (ts.flatMap Trd.cells)] f
section
variable{W w:World}{xB:Nat}{L:List Ord}{m n:Int}{ts:List Trd}{v:Value}{R:List HP}
end
def OxR(W:World)(F:Ps->List HP)(p:Ps)(ts:List Trd)(v:Value)(w:World):Prop:=
 ∃(k:Nat),v=.I k/\k<=ts.length/\St W (F ((ts.take k).foldl bP4 p)) w
section
variable(xb xB:Nat)(p:Ps)(L:List Ord)(n:Int)(N:Nat)(o:Ord)(W w:World)(R:List HP)
end
def CaR(W:World)(F:List HP)(L:List Ord)(id:Int)(who:ByteArray)(v:Value)(w:World):Prop:=
 ∃i:Nat,v=.I i/\i<=L.length/\(∀x∈L.take i,aY4 id who x=false)/\St W F w
section
variable(xb xB:Nat)(p:Ps)(L:List Ord)(n:Int)(N:Nat)(who:ByteArray)(id:Int)(W w:World)(R:List HP)
end
theorem gw4(W w:World)(R:List HP)(hS:St W R w):
  Calls Tryz.prog 114 #[] w fun e w'=>∃xb xB,e=.returned (.P xb)/\St W (xvR xb xB [] [] 1 R) w':=by
 go_enter Tryz.func114,Tryz.ntmps114;go_wp2_with(first|(fail_if_success (have:=bA));(with_reducible apply Df7 hS);rfl;rfl;rfl;rfl;clear hS;intro bA w hS;refine frS ?_|(have:=bA);(with_reducible apply Df7 hS);rfl;rfl;rfl;rfl;clear hS;intro bB w hS;refine frS ?_);go_ret;have hS1:=(hS.rowNil (k:=5) (T:=189)).rowNil (k:=6) (T:=166);have e0:hdL []=[]:=List.eq_nil_of_length_eq_zero (by rw[BW7];rfl);have hS2:St W (i9 (.slice none 0 0) []::hdR (.slice none 0 0) []::_) _:=hS1;rw[<-e0]at hS2;have hS3:=cx4 (n:=1) (last:=0) (by decide) (hS2.s (blk bA _ _::i9 _ []::blk bB _ _::hdR _ (hdL [])::R));exact⟨bB,bA,rfl,cw4 (hS3.s (blk bB _ _::hdR _ (hdL [])::xkP bA [] 1::R))⟩
theorem em4(xb xB:Nat)(p:Ps)(L:List Ord)(n:Int){N:Nat}(hw:PsW p N)(hN:N<=1000000)(hmay:∀x∈L,MayP x)(hl32:L.length<=32)(W w:World)(R:List HP)(hS:St W (xvR xb xB p L n R) w):
  Calls Tryz.prog 139 #[.P xb] w fun e w'=>e=.returned (.tuple #[.agg (I6 (G7 ⟨p,L,n⟩)).cells.toArray,.bool (y9 (G7 ⟨p,L,n⟩) it0).isSome])/\St W (xvR xb xB p L n R) w':=by
 have hlh:(hdL p).length<=1000000:=by rw[BW7];exact Nat.le_trans hw.len hN
 have Hmay:=jH hmay;clear hmay hw;obtain⟨xv,hS1⟩:=cU4 hS;obtain⟨la,lc,last,hlast,hS2⟩:=dw4 (hS1.s (xkP xB L n::blk xb _ _::hdR _ (hdL p)::R));clear hS hS1;obtain⟨ha,hc,rfl⟩:=hS2.drop.drop.drop.rowVal;have hS:=hS2;clear hS2;unfold G7;go_enter Tryz.func139,Tryz.ntmps139;go_wp2_with(first|(with_reducible apply Ao7 hS);rfl;rfl;exact zsS;clear hS;intro b0 w hS;refine frS ?_);have hS1:=hS.rowNil (k:=4) (T:=29);clear hS;have hS:=hS1;clear hS1
 try dsimp only
 generalize hhs:hdL p=hs at hS hlh ⊢;have Hhs:=jH hhs;clear hhs
 go_loopw [4,5] (fun v4 v5 wr=>TtR W (blk b0 [.I 0,.I 0,.I 0,.I 0] 29::blk xB [.slice la L.length lc,.I last] 244::i9 (.slice la L.length lc) L::blk xb [.slice ha hs.length hc,.P xB,.I n] 246::hdR (.slice ha hs.length hc) hs::R) hs.length (fun k=>(hs.take k).map Hd.has) v4 v5 wr) (fun _ v5 _=>hs.length-(intOf v5).toNat)
 case atStart=>exact⟨0,rfl,Nat.zero_le _,hS⟩
 case round=>
  clear hS;obtain⟨k,rfl,hkl,hS⟩:=hrel;dsimp only at hS;by_cases hkn:k=hs.length
  ·rw[hkn,List.take_length]at hS;have hd1:decide (k<hs.length)=false:=by simp;omega
   clear hkl hkn;generalize hacc:hs.map Hd.has=acc at hS ⊢;have hal:acc.length<=1000000:=by rw[<-hacc,jM];exact hlh
   have Hacc:=jH hacc;clear hacc;go_wp2_with(first|go_big_skip|refine zl1 hS ?_)
   go_loopw [4,6] (fun v4 v6 wr=>TtR W (blk b0 [.I 0,.I 0,.I 0,.I 0] 29::blk xB [.slice la L.length lc,.I last] 244::i9 (.slice la L.length lc) L::blk xb [.slice ha hs.length hc,.P xB,.I n] 246::hdR (.slice ha hs.length hc) hs::R) L.length (fun k=>acc++(L.take k).map m9) v4 v6 wr) (fun _ v6 _=>L.length-(intOf v6).toNat)
   case atStart=>exact⟨0,rfl,Nat.zero_le _,by simpa using hS⟩
   case round=>
    clear hS;obtain⟨j,rfl,hjl,hS⟩:=hrel;dsimp only at hS;by_cases hjn:j=L.length
    ·rw[hjn,List.take_length]at hS;have hd2:decide (j<L.length)=false:=by simp;omega
     clear hjl hjn;obtain⟨q,hq⟩:∃q,I6 (acc++L.map m9)=q:=⟨_,rfl⟩
     obtain⟨s0,s1,s2,s3⟩:=q;have Hq:=jH hq;clear hq;go_wp2_with(first|go_big_skip|refine zl1 hS ?_|go_at_call 117;refine(fk4 _ _ W _ _ hS).mono ?_;clear hS;rw[Hq.out];simp only[It.cells];rintro e w ⟨rfl,hS⟩|refine zsN hS ?_;clear hS;intro w hS);apply Ab7;rfl;rfl;rfl;rfl;exact hS;decide +kernel;(exact x9);kernel_rfl;rw[show(hdL p).map Hd.has=acc by rw[Hhs.out,Hacc.out],Hq.out];have hS1:=cx4 hlast (hS.s (blk xB _ _::i9 _ L::blk xb _ _::hdR _ hs::R));rw[<-Hhs.out]at hS1;exact⟨rfl,cw4 (hS1.s (blk xb _ _::hdR _ (hdL p)::xkP xB L n::R))⟩
    ·have hj1:j<L.length:=by omega
     obtain⟨⟨g,rfl⟩,_,_⟩:=St.rowAddr hS.drop.drop.drop (by omega);have hcells:∀{K K':List HP},Take K (i9 (.S g L.length lc) L) K'->d7 K g (j*6) (Ord.cells L[j]):=fun hu=>d7.elemM (enc:=Ord.cells) Ord.len hu hj1
     have hstep:acc++(L.take (j+1)).map m9=(acc++(L.take j).map m9)++[m9 L[j]]:=by rw[BR7 _ _ hj1,jS]
     have hmx:=Hmay.out _ (jW hj1);have hbl:(acc++(L.take j).map m9).length<=1000100:=by rw[jA,jM,jT];omega
     have Hstep:=jH hstep;clear hstep hjn hjl;generalize acc++(L.take j).map m9=accj at hS Hstep hbl;generalize L[j]=x at hcells Hstep hmx;obtain⟨it,hit⟩:∃y,m9 x=y:=⟨_,rfl⟩
     obtain⟨oi,ou,oy,ot,oc2,op⟩:=x;obtain⟨h0,h1,h2,h3⟩:=it;have Hit:=jH hit;have Hm:=jH hmx;clear hit hmx;simp only[Ord.cells]at hcells;go_wp2_with(first|go_big_skip|refine zlN hS ?_ (hc:=by exact hcells (by exact g8))|refine zl1 hS ?_|go_at_call 183;refine(Ox7 (o:=⟨oi,ou,oy,ot,oc2,op⟩) Hm.out Hit.out W _ _ hS).mono ?_;clear hS;rintro e w ⟨rfl,hS⟩|refine zbs hS ?_;clear hS;intro bS w hS|refine zap hS ?_ (h63:=by unfold maxLen;omega) (hb:=by omega);clear hS;intro v w hS);go_roundw
     case rel=>
      refine⟨j+1,rfl,hj1,?_⟩;dsimp only;rw[Hstep.out,Hit.out];unfold aU4;rw[CA7,jA,List.length_singleton];have h0:St W (row v 4 29 (accj.length+1) (accj.flatMap It.cells++It.cells ⟨h0,h1,h2,h3⟩)::_) w:=hS;exact h0.s _
     case measure=>simp[intOf];omega
  ·have hk1:k<hs.length:=by omega
   obtain⟨⟨g,rfl⟩,_,_⟩:=St.rowAddr hS.drop.drop.drop.drop.drop (by omega);have hitems:∀{K K':List HP},Take K (hdR (.S g hs.length hc) hs) K'->d7 K g (k*5+1) (hs[k].has.cells):=fun hu j v hj=>by have h1:=d7.elemM (enc:=Hd.cells) Hd.len hu hk1 (1+j) v (by rw[Nat.add_comm];exact hj);rwa [<-Nat.add_assoc]at h1
   have hstep:=BR7 Hd.has hs hk1;have hbl:((hs.take k).map Hd.has).length<=1000000:=by rw[jM,jT];omega
   have Hstep:=jH hstep;clear hstep hkn hkl;generalize (hs.take k).map Hd.has=accj at hS Hstep hbl;generalize hs[k]=x at hitems Hstep;obtain⟨xw,⟨x0,x1,x2,x3⟩⟩:=x;simp only[It.cells]at hitems;go_wp2_with(first|go_big_skip|refine zlN hS ?_ (hc:=by exact hitems (by exact g8))|refine zl1 hS ?_|refine zbs hS ?_;clear hS;intro bS w hS|refine zap hS ?_ (h63:=by unfold maxLen;omega) (hb:=by omega);clear hS;intro v w hS);go_roundw
   case rel=>
    refine⟨k+1,rfl,hk1,?_⟩;dsimp only;rw[Hstep.out];unfold aU4;rw[CA7,jA,List.length_singleton];have h0:St W (row v 4 29 (accj.length+1) (accj.flatMap It.cells++It.cells ⟨x0,x1,x2,x3⟩)::_) w:=hS;exact h0.s _
   case measure=>simp[intOf];omega
def gX4(W:World)(Lr:List HP)(n:Nat)(v:Value)(w:World):Prop:=∃i:Nat,v=.I i/\i<=n/\St W Lr w
abbrev ltB(x y:ByteArray):Bool:=Op.bytesLess x.toList y.toList
theorem Ch7:Ordr ltB:=⟨fun a=>by
  cases h:ltB a a with
  | false=>rfl
  | true=>exact absurd rfl (GS7 h),fun a b c h1 h2=>Dt7 h1 h2,fun a b h1 h2=>by
  refine HK7 ?_ h2;show ¬ltB a b=true
  rw[h1];exact Bool.noConfusion⟩
def rwC(x:ByteArray×(Nat×Vs)):List Value:=[.string x.1,.pointer (some ⟨x.2.1,0,none⟩)]
theorem GU7(x:ByteArray×(Nat×Vs)):(rwC x).length=2:=rfl
def seC(x:Int×(Int×Rpl)):List Value:=[.I x.1,.I x.2.1,.I x.2.2.err,.I x.2.2.id,.I x.2.2.has.x0,.I x.2.2.has.x1,.I x.2.2.has.x2,.I x.2.2.has.x3]
theorem Ir7(x:Int×(Int×Rpl)):(seC x).length=8:=rfl
def mkC(x:(Int×Int)×Unit):List Value:=[.I x.1.1,.I x.1.2]
theorem Is7(x:(Int×Int)×Unit):(mkC x).length=2:=rfl
def dvP(vb:Nat)(V:Vs):HP:=fun f=>∃xB:Nat,sats [xvP vb (.P xB) V.n V.ps,xkP xB V.L V.n] f
def w5(D:Ev):HP:=sats (D.map fun x=>dvP x.2.1 x.2.2)
abbrev xrP(v:Value)(D:Ev):HP:=row v 2 137 D.length (D.flatMap rwC)
abbrev xsP(v:Value)(l:List (Int×(Int×Rpl))):HP:=row v 8 143 l.length (l.flatMap seC)
abbrev xtP(v:Value)(l:List ((Int×Int)×Tns)):HP:=row v 8 40 l.length (l.flatMap tnC)
abbrev xmP(v:Value)(l:List ((Int×Int)×Unit)):HP:=row v 2 140 l.length (l.flatMap mkC)
abbrev xeB(xb:Nat)(v1 v2 v3 v4:Value):HP:=blk xb [v1,v2,v3,v4] 50
def XpR(W:World)(L:List HP)(D:Ev)(k:ByteArray)(v:Value)(w:World):Prop:=
 ∃i:Nat,v=.I i/\i<=D.length/\plI ltB D k=i+plI ltB (D.drop i) k/\plB ltB D k=plB ltB (D.drop i) k/\St W L w
def ArR(W:World)(L:List HP)(l:List ((Int×Int)×Unit))(k:Int×Int)(v:Value)(w:World):Prop:=
 ∃i:Nat,v=.I i/\i<=l.length/\(p9 l k).isSome=(p9 (l.drop i) k).isSome/\St W L w
def fdI{κ ν:Type}[DecidableEq κ]:List (κ×ν)->κ->Int
 | [],_ => -1
 | x::l,k=>if x.1=k then 0 else if fdI l k<0 then -1 else fdI l k+1
def TsK(ts:List ((Int×Int)×Tns)):Prop:=∀x∈ts,x.1=(x.2.client,x.2.seq)
def UnR(W:World)(L:List HP)(l:List ((Int×Int)×Tns))(k:Int×Int)(v:Value)(w:World):Prop:=
 ∃i:Nat,v=.I i/\i<=l.length/\fdI l k=(if fdI (l.drop i) k<0 then -1 else i+fdI (l.drop i) k)/\St W L w
theorem Bl7{a b c d:Int}{r:Bool}(h:ltW (c,d) (a,b)=r)(W w:World)(R:List HP)(hS:St W R w):
  Calls Tryz.prog 98 #[.I a,.I b,.I c,.I d] w fun e w'=>e=.returned (.bool r)/\St W R w':=by
 unfold ltW at h;simp only at h;go_enter Tryz.func98,Tryz.ntmps98;by_cases h1:c<a
 ·have e:=jH (show r=true by rw[<-h];simp[h1]);have d1:decide (c<a)=true:=by simpa using h1
  clear h h1;go_wp2_with(fail);go_ret;rw[e.out];exact⟨rfl,hS⟩
 have d1:decide (c<a)=false:=by simpa using h1
 by_cases h2:a=c
 ·have d2:(a==c)=true:=by simpa using h2
  by_cases h3:d<b
  ·have e:=jH (show r=true by rw[<-h];simp[h2,h3]);have d3:decide (d<b)=true:=by simpa using h3
   clear h h1 h2 h3;go_wp2_with(fail);go_ret;rw[e.out];exact⟨rfl,hS⟩
  ·have e:=jH (show r=false by rw[<-h];simp[h2];omega);have d3:decide (d<b)=false:=by simpa using h3
   clear h h1 h2 h3;go_wp2_with(fail);go_ret;rw[e.out];exact⟨rfl,hS⟩
 ·have d2:(a==c)=false:=by simpa using h2
  have e:=jH (show r=false by rw[<-h];simp[h1];omega);clear h h1 h2;go_wp2_with(fail);go_ret;rw[e.out];exact⟨rfl,hS⟩
def CmR{ν:Type}(W:World)(L:List HP)(l:List ((Int×Int)×ν))(k:Int×Int)(v:Value)(w:World):Prop:=
 ∃i:Nat,v=.I i/\i<=l.length/\plI ltW l k=i+plI ltW (l.drop i) k/\St W L w
def SnR{ν:Type}(W:World)(L:List HP)(l:List ((Int×Int)×ν))(k:Int×Int)(v:Value)(w:World):Prop:=
 ∃i:Nat,v=.I i/\i<=l.length/\plI ltW l k=i+plI ltW (l.drop i) k/\St W L w
abbrev rpV(r:Rpl):Value:=.agg #[.I r.err,.I r.id,.I r.has.x0,.I r.has.x1,.I r.has.x2,.I r.has.x3]
abbrev ltI(a b:Int):Bool:=decide (a<b)
def RmR{ν:Type}(W:World)(L:List HP)(l:List (Int×ν))(k:Int)(v:Value)(w:World):Prop:=
 ∃i:Nat,v=.I i/\i<=l.length/\plI ltI l k=i+plI ltI (l.drop i) k/\plB ltI l k=plB ltI (l.drop i) k/\St W L w
theorem Src.none{L:List HP}{g off m c:Nat}(d:List (Int×(Int×Rpl)))(h:d=[]):Src L (.slice (some ⟨g,off,none⟩) m c) m (d.flatMap seC):=.inr ⟨g,off,c,rfl,fun j u hj=>by rw[h]at hj;simp at hj⟩
end Go.Proofs.YtlmhakmoioogaaaGreat
end
section
namespace Go.Sl
open Go.RowKit
section
variable{P:Program}{ops:Array Oper}{Q:Exit->Act->World->Prop}{a:Act}{w:World}{rest:List Oper}{o:Oper}
end
end Go.Sl
namespace Go.Proofs.YtlmhakmoioogaaaGreat
open Go.RowKit Go.Sl
theorem cy4{vb xB:Nat}{V:Vs}{W w:World}{R:List HP}(h:St W (xvP vb (.P xB) V.n V.ps::xkP xB V.L V.n::R) w):St W (dvP vb V::R) w:=St.mkEx xB (St.shutS [_,_] h)
theorem dx4{vb:Nat}{V:Vs}{W w:World}{R:List HP}(h:St W (dvP vb V::R) w):∃xB,St W (xvR vb xB V.ps V.L V.n R) w:=by obtain⟨xB,h⟩:=St.ex h;exact⟨xB,h.openS⟩
def loA(D:Ev)(k:ByteArray):Ev:=D.take (plI ltB D k)
def hiA(D:Ev)(k:ByteArray):Ev:=D.drop (if plB ltB D k=true then plI ltB D k+1 else plI ltB D k)
def gY4(xb:Nat)(v2 v3 v4:Value)(D:Ev):HP:=fun f=>∃r1:Value,sats [xeB xb r1 v2 v3 v4,xrP r1 D,w5 D] f
def gZ4(v:Value)(xb:Nat)(v2 v3 v4:Value)(A:Ev)(k:ByteArray)(V:Vs)(B:Ev):HP:=fun f=>∃vb:Nat,v=.P vb/\(fun f=>∃r1:Value,sats [xeB xb r1 v2 v3 v4,xrP r1 (A++(k,(vb,V))::B),dvP vb V,w5 (A++B)] f) f
section
variable{W w:World}{R:List HP}{xb:Nat}{v2 v3 v4:Value}{D A B:Ev}{k:ByteArray}{V:Vs}{v:Value}
theorem dD4{x:ByteArray×(Nat×Vs)}(h:St W (w5 (A++x::B)::R) w):St W (dvP x.2.1 x.2.2::w5 (A++B)::R) w:=by
 have h1:St W (w5 (x::(A++B))::R) w:=h.imp fun _=>Fm7 (List.perm_middle.map _)
 exact St.split h1
theorem co4{x:ByteArray×(Nat×Vs)}(h:St W (dvP x.2.1 x.2.2::w5 (A++B)::R) w):St W (w5 (A++x::B)::R) w:=by have h1:St W (w5 (x::(A++B))::R) w:=St.join h;exact h1.imp fun _=>Fm7 (List.perm_middle.symm.map _)
end
theorem bZ4(xb xB:Nat)(V:Vs){r:Bool}(hr:G9 V=r)(W w:World)(R:List HP)(hS:St W (xvR xb xB V.ps V.L V.n R) w):
  Calls Tryz.prog 123 #[.P xb] w fun e w'=>e=.returned (.bool r)/\St W (xvR xb xB V.ps V.L V.n R) w':=by
 obtain⟨p,L,n⟩:=V;obtain⟨xv,hS1⟩:=cU4 hS;obtain⟨la,lc,last,hlast,hS2⟩:=dw4 (hS1.s (xkP xB L n::blk xb _ _::hdR _ (hdL p)::R));clear hS hS1;obtain⟨ha,hc,rfl⟩:=hS2.drop.drop.drop.rowVal;have hS:=hS2;clear hS2;have hlen:=BW7 p;unfold G9 at hr;simp only at hr;rw[<-hlen]at hr;clear hlen;have hback:∀w',St W (blk xB [.slice la L.length lc,.I last] 244::i9 (.slice la L.length lc) L::blk xb [.slice ha (hdL p).length hc,.P xB,.I n] 246::hdR (.slice ha (hdL p).length hc) (hdL p)::R) w'->St W (xvR xb xB p L n R) w':=by intro w' hS;have hS1:=cx4 hlast (hS.s (blk xB _ _::i9 _ L::blk xb _ _::hdR _ (hdL p)::R));exact cw4 (hS1.s (blk xb _ _::hdR _ (hdL p)::xkP xB L n::R))
 have Hback:=jH hback;clear hback;generalize hdL p=H at hS hr Hback;go_enter Tryz.func123,Tryz.ntmps123;by_cases hH:H=[]
 ·subst hH;by_cases hL:L=[]
  ·subst hL;by_cases h3:n=1
   ·have d3:(n==1)=true:=by simpa using h3
    have Hr:=jH (show r=true by rw[<-hr];simp[h3]);clear hr h3;go_wp2_with(first|go_big_skip|refine zl1 hS ?_);go_ret;rw[Hr.out];exact⟨rfl,Hback.out _ hS⟩
   ·have d3:(n==1)=false:=by simpa using h3
    have Hr:=jH (show r=false by rw[<-hr];simp[h3]);clear hr h3;go_wp2_with(first|go_big_skip|refine zl1 hS ?_);go_ret;rw[Hr.out];exact⟨rfl,Hback.out _ hS⟩
  ·have Hr:=jH (show r=false by rw[<-hr];simp[hL]);clear hr;go_wp2_with(first|go_big_skip|refine zl1 hS ?_);go_ret;rw[Hr.out];exact⟨rfl,Hback.out _ hS⟩
 ·have Hr:=jH (show r=false by rw[<-hr];simp[hH]);clear hr;go_wp2_with(first|go_big_skip|refine zl1 hS ?_);go_ret;rw[Hr.out];exact⟨rfl,Hback.out _ hS⟩
def clF(D:Ev):Ev:=D.filter fun x=>!G9 x.2.2
theorem LS7(v:Value)(F:Ev)(x:ByteArray×(Nat×Vs)):xrP v (F++[x])=row v 2 137 (F.length+1) (F.flatMap rwC++rwC x):=by unfold xrP;rw[jA,List.flatMap_append];simp
def ClR(W:World)(R:List HP)(D:Ev)(vm vi:Value)(w:World):Prop:=∃i:Nat,vi=.I i/\i<=D.length/\(clF (D.take i)).length<=i/\St W (xrP vm (clF (D.take i))::R) w
section
variable{W w:World}{R:List HP}{xb:Nat}{v2 v3 v4:Value}{D A B:Ev}{V:Vs}{i:Nat}{cl sq:Int}{ak aw tk tw:ByteArray}{it ct pr:Int}{bu:Bool}{id:Int}
end
section
variable{W w:World}{R:List HP}{xb:Nat}{v2 v3 v4:Value}{D A B:Ev}{V:Vs}{i:Nat}{cl sq:Int}{ak aw tk tw:ByteArray}{it ct pr:Int}{bu:Bool}{id:Int}
end
theorem fJ4(o q:Opn)(w:World):(Op.equalIn 10000 35 (.agg o.cells.toArray) (.agg q.cells.toArray)).run Tryz.prog w=.ok (o.eqB q) w:=by
 have u9:=Tryz.underlying9;have a9:=Tryz.isAgg9;have z9:=Tryz.sizeOf9;have u3:=Tryz.underlying3;have a3:=Tryz.isAgg3;have z3:=Tryz.sizeOf3;have u4:=Tryz.underlying4;have a4:=Tryz.isAgg4;have z4:=Tryz.sizeOf4;have u5:=Tryz.underlying26;have a5:=Tryz.isAgg26;have z5:=Tryz.sizeOf26;have hp:=fun k u k2 u2 w=>cQ4 k u k2 u2 9997 w
 have hs:Tryz.prog.stoodInHeld 35=false:=by kernel_rfl
 obtain⟨o0,o1,o2,o3,o4,o5,o6,o7,o8,o9,o10,o11⟩:=o;obtain⟨q0,q1,q2,q3,q4,q5,q6,q7,q8,q9,q10,q11⟩:=q;unfold Opn.eqB Opn.cells;dsimp only;rw[Op.equalIn];simp only[Sem.run_bind,run_underlying Tryz.underlying35,Result.andThen_ok,run_program,hs,Bool.false_eq_true,if_false];rw[<-Array.forIn_toList];simp only[List.forIn_cons,List.forIn_nil]
 go_simp
 by_cases h:o0=q0
 case neg=>simp[h]
 rw[if_pos h,decide_eq_true h,Bool.true_and];clear h;by_cases h:o1=q1
 case neg=>simp[h]
 rw[if_pos h,decide_eq_true h,Bool.true_and];clear h;by_cases h:o2=q2
 case neg=>simp[h]
 rw[if_pos h,decide_eq_true h,Bool.true_and];clear h;by_cases h:o3.toList=q3.toList
 case neg=>simp[h]
 by_cases h2:o4.toList=q4.toList
 case neg=>simp[h2]
 rw[if_neg (fun f=>f h h2),decide_eq_true h,decide_eq_true h2,Bool.true_and,Bool.true_and];clear h h2;by_cases h:o5.toList=q5.toList
 case neg=>simp[h]
 by_cases h2:o6.toList=q6.toList
 case neg=>simp[h2]
 rw[if_neg (fun f=>f h h2),decide_eq_true h,decide_eq_true h2,Bool.true_and,Bool.true_and];clear h h2;by_cases h:o7=q7
 case neg=>simp[h]
 rw[if_pos h,decide_eq_true h,Bool.true_and];clear h;by_cases h:o8=q8
 case neg=>simp[h]
 rw[if_pos h,decide_eq_true h,Bool.true_and];clear h;by_cases h:o9=q9
 case neg=>simp[h]
 rw[if_pos h,decide_eq_true h,Bool.true_and];clear h;by_cases h:o10=q10
 case neg=>simp[h]
 rw[if_pos h,decide_eq_true h,Bool.true_and];clear h;by_cases h:o11=q11 <;> simp[h]
theorem BS7(u:ByteArray):decide ((⟨#[]⟩:ByteArray).toList=u.toList)=noB u:=by
 rw[<-FU7 u];by_cases h:u.toList=(⟨#[]⟩:ByteArray).toList
 ·rw[h]
 ·rw[decide_eq_false h,decide_eq_false (fun e=>h e.symm)]
section
variable{o:Opn}
abbrev xO(o:Opn)(tk tw:ByteArray)(it ct pr:Int)(bu:Bool)(id:Int):Opn:=⟨o.kind,o.client,o.seq,o.ak,o.aw,tk,tw,it,ct,pr,bu,id⟩
theorem EF7{tk tw:ByteArray}{it ct pr:Int}{bu:Bool}{id:Int}:(xO o tk tw it ct pr bu id).eqB o=(decide (tk.toList=o.tk.toList)&&(decide (tw.toList=o.tw.toList)&&(decide (it=o.item)&&(decide (ct=o.cnt)&&(decide (pr=o.price)&&(decide (bu=o.buy)&&decide (id=o.id))))))):=by unfold Opn.eqB;simp
theorem eS4(h:G6 o=true)(hk:o.kind=1\/o.kind=6)(hc:K7 o=true):A8 o=(xO o ⟨#[]⟩ ⟨#[]⟩ o.item o.cnt 0 false 0).eqB o:=by
 have hkb:L8 o=A7 o:=by
  unfold L8
  rcases hk with e|e <;> rw[e] <;> simp
 unfold A8;rw[h,hkb,EF7,BS7,BS7];unfold A7 dA4;rw[hc]
 cases o.buy <;> simp[eq_comm]
theorem FG7(h:G6 o=true)(hk:o.kind=1\/o.kind=6)(hc:K7 o=false):A8 o=false:=by
 have hkb:L8 o=A7 o:=by
  unfold L8
  rcases hk with e|e <;> rw[e] <;> simp
 unfold A8;rw[h,hkb];unfold A7;rw[hc];rfl
theorem fK4(h:G6 o=true)(hk:o.kind=2)(hc:K7 o=true)(hp:ax4 o.tk o.tw=true):A8 o=(xO o o.tk o.tw o.item o.cnt 0 false 0).eqB o:=by
 have hkb:L8 o=ac4 o:=by unfold L8;rw[hk];simp
 unfold A8;rw[h,hkb,EF7];unfold ac4;rw[hc,hp]
 cases o.buy <;> simp[eq_comm]
theorem EG7(h:G6 o=true)(hk:o.kind=2)(hc:K7 o=false\/ax4 o.tk o.tw=false):A8 o=false:=by
 have hkb:L8 o=ac4 o:=by unfold L8;rw[hk];simp
 unfold A8;rw[h,hkb];unfold ac4
 rcases hc with e|e <;> rw[e] <;> simp
theorem fL4(h:G6 o=true)(hk:o.kind=3)(h1:1<=o.item)(hc:K7 o=true)(hp:1<=o.price)(hp2:o.price<=1024):A8 o=(xO o ⟨#[]⟩ ⟨#[]⟩ o.item o.cnt o.price o.buy 0).eqB o:=by
 have hkb:L8 o=M9 o:=by unfold L8;rw[hk];simp
 unfold A8;rw[h,hkb,EF7,BS7,BS7];unfold M9;rw[hc,decide_eq_true h1,decide_eq_true hp,decide_eq_true hp2];simp[eq_comm]
theorem HL7(h:G6 o=true)(hk:o.kind=3)(hc:¬1<=o.item\/K7 o=false\/¬1<=o.price\/¬o.price<=1024):A8 o=false:=by
 have hkb:L8 o=M9 o:=by unfold L8;rw[hk];simp
 unfold A8;rw[h,hkb];unfold M9
 rcases hc with e|e|e|e
 ·rw[decide_eq_false e];simp
 ·rw[e];simp
 ·rw[decide_eq_false e];simp
 ·rw[decide_eq_false e];simp
theorem fM4(h:G6 o=true)(hk:o.kind=4)(h1:1<=o.id)(h2:o.id<=1099511627776):A8 o=(xO o ⟨#[]⟩ ⟨#[]⟩ 0 0 0 false o.id).eqB o:=by
 have hkb:L8 o=M6 o:=by unfold L8;rw[hk];simp
 unfold A8;rw[h,hkb,EF7,BS7,BS7];unfold M6;rw[decide_eq_true h1,decide_eq_true h2]
 cases o.buy <;> simp[eq_comm]
theorem Rq7(h:G6 o=true)(hk:o.kind=4)(hc:¬1<=o.id\/¬o.id<=1099511627776):A8 o=false:=by
 have hkb:L8 o=M6 o:=by unfold L8;rw[hk];simp
 unfold A8;rw[h,hkb];unfold M6
 rcases hc with e|e <;> rw[decide_eq_false e] <;> simp
theorem eT4(h:G6 o=true)(hk:o.kind=5\/o.kind=7):A8 o=(xO o ⟨#[]⟩ ⟨#[]⟩ 0 0 0 false 0).eqB o:=by
 have hkb:L8 o=ch4 o:=by
  unfold L8
  rcases hk with e|e <;> rw[e] <;> simp
 unfold A8;rw[h,hkb,EF7,BS7,BS7];unfold ch4
 cases o.buy <;> simp[eq_comm]
theorem Tt7(hk:L8 o=false):A8 o=false:=by unfold A8;rw[hk];simp
theorem EH7(h:G6 o=false):A8 o=false:=by unfold A8;rw[h];rfl
end
end Go.Proofs.YtlmhakmoioogaaaGreat
end
