/-
  Purses.
-/
import Derived.Test.YtlmhakmoioogaaaGreatEconDcM2
import Derived.Test.YtlmhakmoioogaaaGreatEconDcM3
import Derived.Test.YtlmhakmoioogaaaGreatEconDcM4
import Derived.MapKept
import Derived.Maps.RangeRun
set_option maxHeartbeats 16000000
set_option maxRecDepth 100000
set_option linter.unusedSimpArgs false
set_option linter.unusedVariables false
section
namespace Go.Proofs.YtlmhakmoioogaaaGreat
open Go.RowKit Go.Sl
theorem aJ4(x0 x1 x2 x3:Int)(W w:World)(R:List HP)(hS:St W R w):
  Calls Tryz.prog 126 #[.agg #[.I x0,.I x1,.I x2,.I x3]] w fun e w'=>e=.returned (.bool (w8 ⟨x0,x1,x2,x3⟩))/\St W R w':=Np7 ⟨x0,x1,x2,x3⟩ W w R hS
theorem Lm7(x0 x1 x2 x3 y0 y1 y2 y3:Int)(W w:World)(R:List HP)(hS:St W R w):
  Calls Tryz.prog 202 #[.agg #[.I x0,.I x1,.I x2,.I x3],.agg #[.I y0,.I y1,.I y2,.I y3]] w fun e w'=>e=.returned (.bool (aW4 ⟨x0,x1,x2,x3⟩ ⟨y0,y1,y2,y3⟩))/\St W R w':=RJ7 ⟨x0,x1,x2,x3⟩ ⟨y0,y1,y2,y3⟩ W w R hS
theorem Ai7{i:It}:w8 i=true↔(0<=i.x0/\i.x0<=1152921504606846976)/\(0<=i.x1/\i.x1<=1152921504606846976)/\(0<=i.x2/\i.x2<=1152921504606846976)/\(0<=i.x3/\i.x3<=1152921504606846976):=by unfold w8;simp only[jB,Ca7]
def cr4(i j:It):It:=⟨i.x0-j.x0,i.x1-j.x1,i.x2-j.x2,i.x3-j.x3⟩
def S7(i j:It):It:=⟨i.x0+j.x0,i.x1+j.x1,i.x2+j.x2,i.x3+j.x3⟩
def aK4(i j:It):Bool:=w8 i&&w8 j&&!aW4 i j
def dq4(i j:It):It:=if aK4 i j then cr4 i j else it0
def Sb4(W:World)(F:It->List HP)(i j:It)(v:Value)(w:World):Prop:=
 (v=.I 0/\St W (F i) w)\/(v=.I 1/\St W (F ⟨i.x0-j.x0,i.x1,i.x2,i.x3⟩) w)\/(v=.I 2/\St W (F ⟨i.x0-j.x0,i.x1-j.x1,i.x2,i.x3⟩) w)\/(v=.I 3/\St W (F ⟨i.x0-j.x0,i.x1-j.x1,i.x2-j.x2,i.x3⟩) w)\/(v=.I 4/\St W (F (cr4 i j)) w)
theorem Rj7(i j:It)(W w:World)(R:List HP)(hS:St W R w):
  Calls Tryz.prog 166 #[.agg i.cells.toArray,.agg j.cells.toArray] w fun e w'=>e=.returned (.tuple #[.agg (dq4 i j).cells.toArray,.bool (aK4 i j)])/\St W R w':=by
 obtain⟨x0,x1,x2,x3⟩:=i;obtain⟨y0,y1,y2,y3⟩:=j
 cases hi:w8 ⟨x0,x1,x2,x3⟩with
 | false=>
  have e:aK4 ⟨x0,x1,x2,x3⟩ ⟨y0,y1,y2,y3⟩=false:=by unfold aK4;rw[hi];rfl
  unfold dq4;rw[e];simp only[It.cells];go_enter Tryz.func166,Tryz.ntmps166;go_wp2_with(first|go_big_skip|go_at_call 126;refine(aJ4 _ _ _ _ W _ _ hS).mono ?_;clear hS;rw[hi];rintro e w ⟨rfl,hS⟩|refine zlN hS ?_|refine zsN hS ?_;clear hS;intro w hS|refine zbx hS ?_;clear hS;intro b w hS|refine zal hS ?_;clear hS;intro b w hS);apply Ab7;rfl;rfl;rfl;rfl;exact hS;decide +kernel;(exact x9);kernel_rfl;exact⟨rfl,hS.drop.drop.drop⟩
 | true=>
  cases hj:w8 ⟨y0,y1,y2,y3⟩with
  | false=>
   have e:aK4 ⟨x0,x1,x2,x3⟩ ⟨y0,y1,y2,y3⟩=false:=by unfold aK4;rw[hi,hj];rfl
   unfold dq4;rw[e];simp only[It.cells];go_enter Tryz.func166,Tryz.ntmps166;go_wp2_with(first|go_big_skip|go_at_call 126;refine(aJ4 _ _ _ _ W _ _ hS).mono ?_;clear hS;(try rw[hi]);(try rw[hj]);rintro e w ⟨rfl,hS⟩|refine zlN hS ?_|refine zsN hS ?_;clear hS;intro w hS|refine zbx hS ?_;clear hS;intro b w hS|refine zal hS ?_;clear hS;intro b w hS);apply Ab7;rfl;rfl;rfl;rfl;exact hS;decide +kernel;(exact x9);kernel_rfl;exact⟨rfl,hS.drop.drop.drop⟩
  | true=>
   cases hl:aW4 ⟨x0,x1,x2,x3⟩ ⟨y0,y1,y2,y3⟩with
   | true=>
    have e:aK4 ⟨x0,x1,x2,x3⟩ ⟨y0,y1,y2,y3⟩=false:=by unfold aK4;rw[hi,hj,hl];rfl
    unfold dq4;rw[e];simp only[It.cells];go_enter Tryz.func166,Tryz.ntmps166;go_wp2_with(first|go_at_call 126;refine(aJ4 _ _ _ _ W _ _ hS).mono ?_;clear hS;(try rw[hi]);(try rw[hj]);rintro e w ⟨rfl,hS⟩|go_at_call 202;refine(Lm7 _ _ _ _ _ _ _ _ W _ _ hS).mono ?_;clear hS;rw[hl];rintro e w ⟨rfl,hS⟩|refine zlN hS ?_|refine zsN hS ?_;clear hS;intro w hS|refine zbx hS ?_;clear hS;intro b w hS|refine zal hS ?_;clear hS;intro b w hS);apply Ab7;rfl;rfl;rfl;rfl;exact hS;decide +kernel;(exact x9);kernel_rfl;exact⟨rfl,hS.drop.drop.drop⟩
   | false=>
    have e:aK4 ⟨x0,x1,x2,x3⟩ ⟨y0,y1,y2,y3⟩=true:=by unfold aK4;rw[hi,hj,hl];rfl
    obtain⟨a0,a1,a2,a3⟩:=Ai7.1 hi;obtain⟨b0,b1,b2,b3⟩:=Ai7.1 hj;simp only at a0 a1 a2 a3 b0 b1 b2 b3;unfold dq4;rw[e,if_pos rfl];simp only[It.cells];go_enter Tryz.func166,Tryz.ntmps166;go_wp2_with(first|go_at_call 126;refine(aJ4 _ _ _ _ W _ _ hS).mono ?_;clear hS;(try rw[hi]);(try rw[hj]);rintro e w ⟨rfl,hS⟩|go_at_call 202;refine(Lm7 _ _ _ _ _ _ _ _ W _ _ hS).mono ?_;clear hS;rw[hl];rintro e w ⟨rfl,hS⟩|(fail_if_success (have:=bA));(with_reducible apply Df7 hS);rfl;rfl;rfl;rfl;clear hS;intro bA w hS;refine frS ?_|(fail_if_success (have:=bB));(with_reducible apply Df7 hS);rfl;rfl;rfl;rfl;clear hS;intro bB w hS;refine frS ?_|refine zlN hS ?_|refine zal hS ?_;clear hS;intro b w hS)
    go_loopw [23] (fun v wr=>Sb4 W (fun q=>[blk b [.I 0,.I 0,.I 0,.I 0] 29,blk bB [.I y0,.I y1,.I y2,.I y3] 29,blk bA [.I q.x0,.I q.x1,.I q.x2,.I q.x3] 29]++R) ⟨x0,x1,x2,x3⟩ ⟨y0,y1,y2,y3⟩ v wr) (fun v _=>4-(intOf v).toNat)
    case atStart=>exact .inl ⟨rfl,hS⟩
    case round=>
     clear hS hi hj hl;simp only[Sb4,cr4,jK,jN]at hrel
     rcases hrel with ⟨rfl,hS⟩|⟨rfl,hS⟩|⟨rfl,hS⟩|⟨rfl,hS⟩|⟨rfl,hS⟩
     ·go_wp2_with(first|(with_reducible apply AM7);rfl;rfl;rfl;rfl;(first|exact R8 _ _ _ _|exact R9 _ _ _ _|exact S5 _ _ _ _|exact S6 _ _ _ _);refine frS ?_|refine zl1 hS ?_|refine zs1 hS ?_;clear hS;intro w hS);go_roundw
      case rel=>exact .inr (.inl ⟨rfl,hS⟩)
      case measure=>simp[intOf]
     ·go_wp2_with(first|(with_reducible apply AM7);rfl;rfl;rfl;rfl;(first|exact R8 _ _ _ _|exact R9 _ _ _ _|exact S5 _ _ _ _|exact S6 _ _ _ _);refine frS ?_|refine zl1 hS ?_|refine zs1 hS ?_;clear hS;intro w hS);go_roundw
      case rel=>exact .inr (.inr (.inl ⟨rfl,hS⟩))
      case measure=>simp[intOf]
     ·go_wp2_with(first|(with_reducible apply AM7);rfl;rfl;rfl;rfl;(first|exact R8 _ _ _ _|exact R9 _ _ _ _|exact S5 _ _ _ _|exact S6 _ _ _ _);refine frS ?_|refine zl1 hS ?_|refine zs1 hS ?_;clear hS;intro w hS);go_roundw
      case rel=>exact .inr (.inr (.inr (.inl ⟨rfl,hS⟩)))
      case measure=>simp[intOf]
     ·go_wp2_with(first|(with_reducible apply AM7);rfl;rfl;rfl;rfl;(first|exact R8 _ _ _ _|exact R9 _ _ _ _|exact S5 _ _ _ _|exact S6 _ _ _ _);refine frS ?_|refine zl1 hS ?_|refine zs1 hS ?_;clear hS;intro w hS);go_roundw
      case rel=>exact .inr (.inr (.inr (.inr ⟨rfl,hS⟩)))
      case measure=>simp[intOf]
     ·go_wp2_with(first|refine zlN hS ?_|refine zsN hS ?_;clear hS;intro w hS);apply Ab7;rfl;rfl;rfl;rfl;exact hS;decide +kernel;(exact x9);kernel_rfl;exact⟨rfl,hS.drop.drop.drop⟩
def y9:List It->It->Option It
 | [],s=>some s
 | i::l,s=>if w8 i=true/\w8 (S7 s i)=true then y9 l (S7 s i)else none
def I6(l:List It):It:=(y9 l it0).getD it0
def Ad4(W:World)(F:It->List HP)(i j:It)(v:Value)(w:World):Prop:=
 (v=.I 0/\St W (F i) w)\/(v=.I 1/\St W (F ⟨i.x0+j.x0,i.x1,i.x2,i.x3⟩) w)\/(v=.I 2/\St W (F ⟨i.x0+j.x0,i.x1+j.x1,i.x2,i.x3⟩) w)\/(v=.I 3/\St W (F ⟨i.x0+j.x0,i.x1+j.x1,i.x2+j.x2,i.x3⟩) w)\/(v=.I 4/\St W (F (S7 i j)) w)
def AdR(W:World)(F:It->List HP)(l:List It)(v:Value)(w:World):Prop:=
 ∃(n:Nat) (s:It),v=.I n/\n<=l.length/\w8 s=true/\y9 l it0=y9 (l.drop n) s/\St W (F s) w
theorem Ln7(l:List It)(v:Value)(W w:World)(R:List HP)(hS:St W (row v 4 29 l.length (l.flatMap It.cells)::R) w):
  Calls Tryz.prog 58 #[v] w fun e w'=>e=.returned (.tuple #[.agg (I6 l).cells.toArray,.bool (y9 l it0).isSome])/\St W (row v 4 29 l.length (l.flatMap It.cells)::R) w':=by
 obtain⟨a,cap,rfl⟩:=hS.rowVal
 have h63:l.length<=9223372036854775807:=by
  rcases St.rowCase hS with ⟨_,h0,_⟩|⟨_,_,h1,h2⟩
  ·omega
  ·omega
 go_enter Tryz.func58,Tryz.ntmps58;go_wp2_with(first|(fail_if_success (have:=bA));(with_reducible apply Ao7 hS);rfl;rfl;exact zsS;clear hS;intro bA w hS;refine frS ?_|(fail_if_success (have:=bB));(with_reducible apply Ao7 hS);rfl;rfl;exact zsS;clear hS;intro bB w hS;refine frS ?_)
 go_loopw [11] (fun v wr=>AdR W (fun q=>[blk bB [.I q.x0,.I q.x1,.I q.x2,.I q.x3] 29,blk bA [.I 0,.I 0,.I 0,.I 0] 29,row (.slice a l.length cap) 4 29 l.length (l.flatMap It.cells)]++R) l v wr) (fun v _=>l.length-(intOf v).toNat)
 case atStart=>exact⟨0,it0,rfl,Nat.zero_le _,rfl,rfl,hS⟩
 case round=>
  clear hS;obtain⟨n,s,rfl,hnl,hs,he,hS⟩:=hrel;simp only[jK,jN]at hS;obtain⟨s0,s1,s2,s3⟩:=s;simp only at hS;by_cases hn:n=l.length
  ·subst hn;rw[List.drop_length]at he;have E:=jH he;clear he;go_wp2_with(first|refine zlN hS ?_|refine zsN hS ?_;clear hS;intro w hS);apply Ab7;rfl;rfl;rfl;rfl;exact hS;decide +kernel;(exact x9);kernel_rfl;unfold I6;rw[E.out];exact⟨rfl,hS.drop.drop⟩
  ·have hn1:n<l.length:=by omega
   obtain⟨⟨g,rfl⟩,_,_⟩:=St.rowAddr hS.drop.drop (by omega);have hx:∀{K K':List HP},Take K (row (.S g l.length cap) 4 29 l.length (l.flatMap It.cells)) K'->d7 K g (n*4) (It.cells l[n]):=fun hu=>d7.elemM (enc:=It.cells) It.len hu hn1
   have hdr:l.drop n=l[n]::l.drop (n+1):=List.drop_eq_getElem_cons hn1;rw[hdr]at he;clear hdr;generalize l[n]=x at hx he;obtain⟨x0,x1,x2,x3⟩:=x;simp only[It.cells]at hx
   cases hi:w8 ⟨x0,x1,x2,x3⟩with
   | false=>
    have E:=jH (show y9 l it0=none by rw[he,y9,if_neg (fun h=>by rw[hi]at h;cases h.1)]);clear he;go_wp2_with(first|refine zlN hS ?_ (hc:=by exact hx (.tail (.tail .head)))|go_at_call 126;refine(aJ4 _ _ _ _ W _ _ hS).mono ?_;clear hS;rw[hi];rintro e w ⟨rfl,hS⟩|refine zlN hS ?_|refine zsN hS ?_;clear hS;intro w hS|refine zal hS ?_;clear hS;intro b w hS);apply Ab7;rfl;rfl;rfl;rfl;exact hS;decide +kernel;(exact x9);kernel_rfl;unfold I6;rw[E.out];exact⟨rfl,hS.s _⟩
   | true=>
    have he2:y9 l it0=if w8 (S7 ⟨s0,s1,s2,s3⟩ ⟨x0,x1,x2,x3⟩)=true then y9 (l.drop (n+1)) (S7 ⟨s0,s1,s2,s3⟩ ⟨x0,x1,x2,x3⟩)else none:=by rw[he,y9];simp[hi]
    have E2:=jH he2;clear he he2;obtain⟨a0,a1,a2,a3⟩:=Ai7.1 hi;obtain⟨b0,b1,b2,b3⟩:=Ai7.1 hs;simp only at a0 a1 a2 a3 b0 b1 b2 b3;go_wp2_with(first|refine zlN hS ?_ (hc:=by exact hx (.tail (.tail .head)))|go_at_call 126;refine(aJ4 _ _ _ _ W _ _ hS).mono ?_;clear hS;rw[hi];rintro e w ⟨rfl,hS⟩|refine zlN hS ?_|refine zsN hS ?_;clear hS;intro w hS|refine zal hS ?_;clear hS;intro b w hS)
    go_loopw [20] (fun v wr=>Ad4 W (fun q=>[blk b [.I x0,.I x1,.I x2,.I x3] 29,blk bB [.I q.x0,.I q.x1,.I q.x2,.I q.x3] 29,blk bA [.I 0,.I 0,.I 0,.I 0] 29,row (.S g l.length cap) 4 29 l.length (l.flatMap It.cells)]++R) ⟨s0,s1,s2,s3⟩ ⟨x0,x1,x2,x3⟩ v wr) (fun v _=>4-(intOf v).toNat)
    case atStart=>exact .inl ⟨rfl,hS⟩
    case round=>
     clear hS hx hs hi;simp only[Ad4,S7,jK,jN]at hrel
     rcases hrel with ⟨rfl,hS⟩|⟨rfl,hS⟩|⟨rfl,hS⟩|⟨rfl,hS⟩|⟨rfl,hS⟩
     ·go_wp2_with(first|(with_reducible apply AM7);rfl;rfl;rfl;rfl;(first|exact R8 _ _ _ _|exact R9 _ _ _ _|exact S5 _ _ _ _|exact S6 _ _ _ _);refine frS ?_|refine zl1 hS ?_|refine zs1 hS ?_;clear hS;intro w hS);go_roundw
      case rel=>exact .inr (.inl ⟨rfl,hS⟩)
      case measure=>simp[intOf]
     ·go_wp2_with(first|(with_reducible apply AM7);rfl;rfl;rfl;rfl;(first|exact R8 _ _ _ _|exact R9 _ _ _ _|exact S5 _ _ _ _|exact S6 _ _ _ _);refine frS ?_|refine zl1 hS ?_|refine zs1 hS ?_;clear hS;intro w hS);go_roundw
      case rel=>exact .inr (.inr (.inl ⟨rfl,hS⟩))
      case measure=>simp[intOf]
     ·go_wp2_with(first|(with_reducible apply AM7);rfl;rfl;rfl;rfl;(first|exact R8 _ _ _ _|exact R9 _ _ _ _|exact S5 _ _ _ _|exact S6 _ _ _ _);refine frS ?_|refine zl1 hS ?_|refine zs1 hS ?_;clear hS;intro w hS);go_roundw
      case rel=>exact .inr (.inr (.inr (.inl ⟨rfl,hS⟩)))
      case measure=>simp[intOf]
     ·go_wp2_with(first|(with_reducible apply AM7);rfl;rfl;rfl;rfl;(first|exact R8 _ _ _ _|exact R9 _ _ _ _|exact S5 _ _ _ _|exact S6 _ _ _ _);refine frS ?_|refine zl1 hS ?_|refine zs1 hS ?_;clear hS;intro w hS);go_roundw
      case rel=>exact .inr (.inr (.inr (.inr ⟨rfl,hS⟩)))
      case measure=>simp[intOf]
     ·cases hi:w8 ⟨s0+x0,s1+x1,s2+x2,s3+x3⟩with
      | false=>
       have E:=jH (show y9 l it0=none by rw[E2.out,S7];simp[hi]);clear E2;go_wp2_with(first|go_at_call 126;refine(aJ4 _ _ _ _ W _ _ hS).mono ?_;clear hS;rw[hi];rintro e w ⟨rfl,hS⟩|refine zlN hS ?_|refine zsN hS ?_;clear hS;intro w hS);apply Ab7;rfl;rfl;rfl;rfl;exact hS;decide +kernel;(exact x9);kernel_rfl;unfold I6;rw[E.out];exact⟨rfl,hS.s _⟩
      | true=>
       have E:=jH (show y9 l it0=y9 (l.drop (n+1)) ⟨s0+x0,s1+x1,s2+x2,s3+x3⟩by rw[E2.out,S7];simp[hi]);have Hi:=jH hi;clear E2;go_wp2_with(first|go_at_call 126;refine(aJ4 _ _ _ _ W _ _ hS).mono ?_;clear hS;rw[hi];rintro e w ⟨rfl,hS⟩|refine zlN hS ?_);go_roundw
       case rel=>exact⟨n+1,_,rfl,hn1,Hi.out,E.out,hS.s _⟩
       case measure=>simp[intOf];omega
end Go.Proofs.YtlmhakmoioogaaaGreat
end
section
namespace Go.Sl
open Go.RowKit
def bb4(b:Nat)(es:List MapEntry)(clk:Nat):HP:=ae4 b (.map es.toArray clk)
def F5(P:Program)(t:TypeId):Option (TypeId×TypeId):=(P.underlying t).bind fun|.map k e=>some (k,e)|_=>none
def J8(P:Program)(t:TypeId):Option Value:=(P.info? t).bind (·.zero)
def cN4:TypeDesc->Bool
 | .int _ | .string=>true
 | _=>false
section
variable{P:Program}{W w:World}{L R:List HP}
theorem BJ7{t K E:TypeId}(h:F5 P t=some (K,E)):P.underlying t=some (.map K E):=by
 unfold F5 at h;obtain⟨d,hd,hx⟩:=Option.bind_eq_some_iff.1 h
 cases d <;> simp at hx
 rw[hd,hx.1,hx.2]
theorem Nq7{t:TypeId}{z:Value}(h:J8 P t=some z):(zeroValue t).run P w=.ok z w:=by unfold J8 at h;obtain⟨i,hi,hz⟩:=Option.bind_eq_some_iff.1 h;simp[zeroValue,typeInfo,hi,hz]
theorem IS7{K:TypeId}{kd:TypeDesc}(hK:P.underlying K=some kd)(h:cN4 kd=true)(e:Bool)(n:Nat)(v:Value):(Instr.checkKey e (n+1) K v).run P w=.ok () w:=by
 unfold Instr.checkKey
 cases kd <;> simp[cN4]at h <;> simp[run_underlying hK]
theorem Kf7{K:TypeId}{kd:TypeDesc}{key:Value}{es:List MapEntry}{r:Option (Nat×Value)}(hK:P.underlying K=some kd)(hf:Instr.findNow kd key es 0=some r):(Instr.findKey K key es).run P w=.ok r w:=by unfold Instr.findKey;simp[run_underlying hK,hf]
theorem St.setMap{b:Nat}{es es':List MapEntry}{c c':Nat}(h:St W (bb4 b es c::L) w):St W (bb4 b es' c'::L) { w with heap:=w.heap.setIfInBounds b (.map es'.toArray c') }:=by
 have hg:=h.get (b:=b) .head;refine h.putO (b:=b) (o:=.map es.toArray c) (o':=.map es'.toArray c') .head rfl rfl rfl fun k=>?_
 show(w.heap.setIfInBounds b _)[k]? = _
 have hb:b<w.heap.size:=(Array.getElem?_eq_some_iff.1 hg).1;rw[Array.getElem?_setIfInBounds];by_cases hk:b=k
 ·subst hk;rw[if_pos rfl,if_pos hb,if_pos rfl]
 ·rw[if_neg hk,if_neg (fun h=>hk h.symm)]
theorem Dm7{b:Nat}{es:List MapEntry}{c:Nat}(h:St W (bb4 b es c::L) w):(getObj b).run P w=.ok (.map es.toArray c) w:=MapKept.run_getObj_map (h.get (b:=b) .head)
def gI4(ok:Bool)(z:Value):Option (Nat×Value)->Value
 | some (_,v)=>if ok then .tuple #[v,.bool true]else v
 | none=>if ok then .tuple #[z,.bool false]else z
theorem Kg7{t:TypeId}(h:St W L w):∃b w',(Instr.makeMap t none).run P w=.ok (.map (some b)) w'/\St W (bb4 b [] 0::L) w':=
 ⟨w.heap.size,w.alloc (.map #[] 0),by unfold Instr.makeMap;simp,h.alloc _⟩
def bt4(es:List MapEntry):Prop:=(es.map (·.born)).Nodup
end
theorem Pz7(a b:Int):Instr.sameNow (.int .i64) (.I a) (.I b)=some (a==b):=by simp[Instr.sameNow]
theorem PA7(a b:ByteArray):Instr.sameNow .string (.string a) (.string b)=some (a==b):=rfl
def bF4(r m since:Nat)(seen:Array Nat)(stepped:Nat):HP:=ae4 r (.mapIter (some m) since seen stepped)
section
variable{P:Program}{W w:World}{L:List HP}
theorem Nr7{t K E:TypeId}{m:Nat}{es:List MapEntry}{c:Nat}(h:St W (bb4 m es c::L) w)(ht:F5 P t=some (K,E)):
  ∃r w',(Instr.range t (.map (some m))).run P w=.ok (.P r) w'/\St W (bF4 r m c #[] c::bb4 m es c::L) w':=by
 refine⟨w.heap.size,w.alloc (.mapIter (some m) c #[] c),?_,h.alloc _⟩;unfold Instr.range;have hu:=run_underlying (P:=P) (BJ7 ht) w;simp[hu,Dm7 h]
theorem PB7{ty:TypeId}{r m since c0 c:Nat}{seen:Array Nat}{es:List MapEntry}(h:St W (bF4 r m since seen c0::bb4 m es c::L) w)(hold:∀x∈es,x.born<since)(hsc:since<=c0):
  ((∀x∈es,x.born∈seen)/\(Instr.next (.P r) false ty).run P w=.ok (.tuple #[.bool false]) w) \/
  ∃e∈es,e.born∉seen/\∃w',(Instr.next (.P r) false ty).run P w=.ok (.tuple #[.bool true,e.key,e.val]) w'/\St W (bF4 r m since (seen.push e.born) c::bb4 m es c::L) w':=by
 have hr:=h.get (b:=r) .head;have hb:=h.get (b:=m) (.tail .head)
 rcases run_next_at (P:=P) w ty r m since c0 seen es.toArray c hr hb (by simpa using hold) hsc with ⟨h0,hrun⟩|⟨e,he,w1,hw,hrun⟩
 ·left
  refine⟨fun x hx=>?_,hrun⟩;have h1:leftOf es.toArray seen=#[]:=Array.eq_empty_of_size_eq_zero h0;unfold leftOf at h1;rw[Array.filter_eq_empty_iff]at h1;have:=h1 x (by simpa using hx);simpa using this
 ·right
  unfold leftOf at he;simp at he;refine⟨e,he.1,by simpa using he.2,_,hrun,?_⟩
  have h1:St W (bF4 r m since seen c0::bb4 m es c::L) w1:=by
   rcases hw with rfl|rfl
   ·exact h
   ·exact h.drew
  have hr1:=h1.get (b:=r) .head;refine h1.putO (b:=r) (o:=.mapIter (some m) since seen c0) (o':=.mapIter (some m) since (seen.push e.born) c) .head rfl rfl rfl fun k=>?_
  show(w1.heap.setIfInBounds r _)[k]? = _
  have hlt:r<w1.heap.size:=(Array.getElem?_eq_some_iff.1 hr1).1;rw[Array.getElem?_setIfInBounds];by_cases hk:r=k
  ·subst hk;rw[if_pos rfl,if_pos hlt,if_pos rfl]
  ·rw[if_neg hk,if_neg (fun h=>hk h.symm)]
theorem Ns7{r m since c:Nat}{seen:Array Nat}{es:List MapEntry}{e:MapEntry}(h:St W (bF4 r m since (seen.push e.born) c::bb4 m es c::L) w)(he:e∈es)(hn:bt4 es):
  (Instr.entry (.P r)).run P w=.ok (.tuple #[e.key,e.val]) w:=
 run_entry_at w r m since seen es.toArray c e (h.get (b:=r) .head) (h.get (b:=m) (.tail .head)) (by simpa using he) (by unfold bt4 at hn;simpa using hn)
end
section
variable{P:Program}{ops:Array Oper}{Q:Exit->Act->World->Prop}{a:Act}{w:World}{W:World}{L L' R:List HP}{rest:List Oper}{o:Oper}
end
end Go.Sl
end
section
namespace Go.Sl
open Go.RowKit
def bu4{κ:Type}[DecidableEq κ](k:κ):List (κ×Value×Nat)->Nat->Option (Nat×Value)
 | [],_=>none
 | x::l,i=>if k=x.1 then some (i,x.2.1)else bu4 k l (i+1)
def L9{κ:Type}(ek:κ->Value)(x:κ×Value×Nat):MapEntry:=⟨ek x.1,x.2.1,x.2.2⟩
structure KeyOk(P:Program)(K:TypeId){κ:Type}[DecidableEq κ](ek:κ->Value):Prop where
 chk:∀e k w,(Instr.checkKey e 10000 K (ek k)).run P w=.ok () w
 find:∀k (l:List (κ×Value×Nat)) w,(Instr.findKey K (ek k) (l.map (L9 ek))).run P w=.ok (bu4 k l 0) w
 bits:∀k,Instr.sameBits 10000 (ek k) (ek k)=true
section
variable{κ:Type}[DecidableEq κ]
theorem FP7{k:κ}:∀(l:List (κ×Value×Nat)) (i:Nat),(∀x∈l,x.1≠k)->bu4 k l i=none
 | [],_,_=>rfl
 | x::l,i,h=>by rw[bu4,if_neg (fun e=>h x (List.mem_cons_self ..) e.symm)];exact FP7 l (i+1) fun y hy=>h y (List.mem_cons_of_mem _ hy)
theorem FQ7{k:κ}{v:Value}{s:Nat}:∀(l:List (κ×Value×Nat)) (i:Nat),(l.map (·.1)).Nodup->(k,v,s)∈l->∃j, ∃h:j<l.length,l[j]=(k,v,s)/\bu4 k l i=some (i+j,v)
 | x::l,i,hn,hm=>by
  rw[List.map_cons,List.nodup_cons]at hn;by_cases hk:k=x.1
  ·have hx:x=(k,v,s):=by
    rcases List.mem_cons.1 hm with h|h
    ·exact h.symm
    ·exact absurd (List.mem_map.2 ⟨_,h,hk⟩) hn.1
   exact⟨0,Nat.succ_pos _,hx,by rw[bu4,if_pos hk,hx];rfl⟩
  ·have hm':(k,v,s)∈l:=by
    rcases List.mem_cons.1 hm with h|h
    ·exact absurd (by rw[<-h]) hk
    ·exact h
   obtain⟨j,hj,h1,h2⟩:=FQ7 l (i+1) hn.2 hm';exact⟨j+1,by simpa using hj,h1,by rw[bu4,if_neg hk,h2,show i+1+j=i+(j+1)by omega]⟩
theorem En7{kd:TypeDesc}{ek:κ->Value}(h:∀a b,Instr.sameNow kd (ek a) (ek b)=some (decide (a=b)))(k:κ):∀(l:List (κ×Value×Nat)) (i:Nat),Instr.findNow kd (ek k) (l.map (L9 ek)) i=some (bu4 k l i)
 | [],_=>rfl
 | x::l,i=>by
  have e:(L9 ek x).key=ek x.1:=rfl;rw[List.map_cons,Instr.findNow,e,h,bu4];by_cases hk:k=x.1
  ·rw[decide_eq_true hk,if_pos hk];rfl
  ·rw[decide_eq_false hk,if_neg hk];exact En7 h k l (i+1)
variable{P:Program}{K:TypeId}{kd:TypeDesc}{ek:κ->Value}
theorem KeyOk.plain(hK:P.underlying K=some kd)(hkd:cN4 kd=true)(h:∀a b,Instr.sameNow kd (ek a) (ek b)=some (decide (a=b)))(hb:∀k,Instr.sameBits 10000 (ek k) (ek k)=true):KeyOk P K ek:=
 ⟨fun e k w=>IS7 hK hkd e 9999 (ek k),fun k l w=>Kf7 hK (En7 h k l 0),hb⟩
end
theorem KeyOk.int{P:Program}{K:TypeId}(hK:P.underlying K=some (.int .i64)):KeyOk P K (fun z:Int=>.I z):=
 .plain hK rfl (fun a b=>by rw[Pz7];exact congrArg some (Bool.beq_eq_decide_eq a b)) (fun k=>by simp[Instr.sameBits])
theorem KeyOk.str{P:Program}{K:TypeId}(hK:P.underlying K=some .string):KeyOk P K (fun s:ByteArray=>.string s):=
 .plain hK rfl (fun a b=>by
  rw[PA7]
  congr 1
  by_cases h:a=b
  ·subst h;rw[decide_eq_true rfl];exact(MapKept.bytes_beq _ _).2 rfl
  ·rw[decide_eq_false h]
   cases hb:a==b with
   | false=>rfl
   | true=>exact absurd ((MapKept.bytes_beq a b).1 hb) h) (fun k=>by
  show(k==k)=true
  exact(MapKept.bytes_beq _ _).2 rfl)
section
variable{κ:Type}[DecidableEq κ]{P:Program}{W w:World}{L R:List HP}{t K E:TypeId}{ek:κ->Value}
theorem IT7{b c:Nat}{ps:List (κ×Value×Nat)}{k:κ}{z:Value}{ok:Bool}(h:St W (bb4 b (ps.map (L9 ek)) c::L) w)(ht:F5 P t=some (K,E))(hK:KeyOk P K ek)(hz:J8 P E=some z)(hn:∀x∈ps,x.1≠k):
  (Instr.lookup t (.map (some b)) (ek k) ok).run P w=.ok (if ok then .tuple #[z,.bool false]else z) w:=by
 unfold Instr.lookup;have hu:=run_underlying (P:=P) (BJ7 ht) w
 cases ok <;> simp[hu,Dm7 h,hK.chk,hK.find,FP7 ps 0 hn,Nq7 hz]
theorem IU7{b c:Nat}{ps:List (κ×Value×Nat)}{k:κ}{v:Value}{s:Nat}{ok:Bool}(h:St W (bb4 b (ps.map (L9 ek)) c::L) w)(ht:F5 P t=some (K,E))(hK:KeyOk P K ek)(hn:(ps.map (·.1)).Nodup)(hm:(k,v,s)∈ps):
  (Instr.lookup t (.map (some b)) (ek k) ok).run P w=.ok (if ok then .tuple #[v,.bool true]else v) w:=by
 unfold Instr.lookup;have hu:=run_underlying (P:=P) (BJ7 ht) w;obtain⟨j,hj,h1,h2⟩:=FQ7 ps 0 hn hm
 cases ok <;> simp[hu,Dm7 h,hK.chk,hK.find,h2]
theorem IV7{b c:Nat}{ps:List (κ×Value×Nat)}{k:κ}{v:Value}(h:St W (bb4 b (ps.map (L9 ek)) c::L) w)(ht:F5 P t=some (K,E))(hK:KeyOk P K ek)(hn:∀x∈ps,x.1≠k):
  ∃w',(Instr.mapUpdate t (.map (some b)) (ek k) v).run P w=.ok () w'/\St W (bb4 b ((ps++[(k,v,c)]).map (L9 ek)) (c+1)::L) w':=by
 refine⟨_,?_,h.setMap⟩;unfold Instr.mapUpdate;have hu:=run_underlying (P:=P) (BJ7 ht) w;have hs:=MapKept.run_setObj_map (P:=P) (.map (ps.map (L9 ek)++[(⟨ek k,v,c⟩:MapEntry)]).toArray (c+1)) (h.get (b:=b) .head);have e:(ps.map (L9 ek)).toArray.push (⟨ek k,v,c⟩:MapEntry)=(ps.map (L9 ek)++[(⟨ek k,v,c⟩:MapEntry)]).toArray:=by simp
 have e2:(ps++[(k,v,c)]).map (L9 ek)=ps.map (L9 ek)++[(⟨ek k,v,c⟩:MapEntry)]:=by rw[List.map_append];rfl
 rw[e2];simp only[hu,Sem.run_bind,Result.andThen_ok,Dm7 h,hK.chk,hK.find,FP7 ps 0 hn,e,hs]
def cO4(ps:List (κ×Value×Nat))(k:κ)(v:Value):List (κ×Value×Nat):=ps.map fun x=>if x.1=k then(x.1,v,x.2.2)else x
theorem Hu7{k:κ}{v:Value}:∀(ps:List (κ×Value×Nat)),k∉ps.map (·.1)->cO4 ps k v=ps
 | [],_=>rfl
 | x::ps,h=>by
  have hx:x.1≠k:=fun e=>h (by rw[List.map_cons,e];exact List.mem_cons_self ..)
  have:=Hu7 (k:=k) (v:=v) ps (fun e=>h (List.mem_cons_of_mem _ e));unfold cO4 at this ⊢;rw[List.map_cons,if_neg hx,this]
theorem Nt7{k:κ}{v u:Value}{s:Nat}:∀(ps:List (κ×Value×Nat)) (j:Nat) (hj:j<ps.length),(ps.map (·.1)).Nodup->ps[j]=(k,u,s)->cO4 ps k v=ps.set j (k,v,s)
 | x::ps,0,_,hn,hx=>by have hx':x=(k,u,s):=hx;rw[List.map_cons,List.nodup_cons,hx']at hn;have:=Hu7 (v:=v) ps hn.1;unfold cO4 at this ⊢;rw[List.map_cons,this,hx',if_pos rfl];rfl
 | x::ps,j+1,hj,hn,hx=>by
  rw[List.map_cons,List.nodup_cons]at hn;have hj':j<ps.length:=by simpa using hj
  have hx':ps[j]=(k,u,s):=hx;have hne:x.1≠k:=fun e=>hn.1 (List.mem_map.2 ⟨ps[j],jW _,by rw[hx',e]⟩)
  have:=Nt7 (v:=v) ps j hj' hn.2 hx';unfold cO4 at this ⊢;rw[List.map_cons,if_neg hne,this];rfl
theorem Kh7{b c:Nat}{ps:List (κ×Value×Nat)}{k:κ}{u v:Value}{s:Nat}(h:St W (bb4 b (ps.map (L9 ek)) c::L) w)(ht:F5 P t=some (K,E))(hK:KeyOk P K ek)(hn:(ps.map (·.1)).Nodup)(hm:(k,u,s)∈ps):
  ∃w',(Instr.mapUpdate t (.map (some b)) (ek k) v).run P w=.ok () w'/\St W (bb4 b ((cO4 ps k v).map (L9 ek)) c::L) w':=by
 obtain⟨j,hj,h1,h2⟩:=FQ7 ps 0 hn hm;rw[Nat.zero_add]at h2;have e2:(cO4 ps k v).map (L9 ek)=(ps.map (L9 ek)).set j ⟨ek k,v,s⟩:=by rw[Nt7 ps j hj hn h1,List.map_set];rfl
 have e:(ps.map (L9 ek)).modify j (fun e=>{ e with key:=ek k,val:=v })=(ps.map (L9 ek)).set j ⟨ek k,v,s⟩:=by
  apply List.ext_getElem?;intro i;rw[List.getElem?_modify,List.getElem?_set];by_cases hi:j=i
  ·subst hi;simp[hj,h1,L9]
  ·simp[hi]
 refine⟨_,?_,h.setMap⟩;rw[e2];unfold Instr.mapUpdate;have hu:=run_underlying (P:=P) (BJ7 ht) w;have hks:(Instr.keyThatStays (ek k) (ek k)).run P w=.ok (ek k) w:=by unfold Instr.keyThatStays;simp[hK.bits]
 have hkk:((ps.map (L9 ek)).toArray[j]?).map (·.key)=some (ek k):=by simp[hj,h1,L9]
 have hkj:(L9 ek ps[j]).key=ek k:=by rw[h1];rfl
 simp[hu,Dm7 h,hK.chk,hK.find,h2,hj,hkj,hks];rw[e];exact MapKept.run_setObj_map (P:=P) (.map ((ps.map (L9 ek)).set j ⟨ek k,v,s⟩).toArray c) (h.get (b:=b) .head)
theorem FA7{α β:Type}(f:α->β):∀(l:List α) (j:Nat),(l.map f).eraseIdx j=(l.eraseIdx j).map f
 | [],_=>by simp
 | x::l,0=>rfl
 | x::l,j+1=>by simp[FA7 f l j]
def cZ4(ps:List (κ×Value×Nat))(k:κ):List (κ×Value×Nat):=ps.filter fun x=>decide (x.1≠k)
theorem Hv7{k:κ}{ps:List (κ×Value×Nat)}(h:∀x∈ps,x.1≠k):cZ4 ps k=ps:=List.filter_eq_self.2 fun x hx=>by simpa using h x hx
theorem Nu7{k:κ}{u:Value}{s:Nat}:∀(ps:List (κ×Value×Nat)) (j:Nat) (hj:j<ps.length),(ps.map (·.1)).Nodup->ps[j]=(k,u,s)->cZ4 ps k=ps.eraseIdx j
 | x::ps,0,_,hn,hx=>by
  have hx':x=(k,u,s):=hx;rw[List.map_cons,List.nodup_cons,hx']at hn;have h1:cZ4 ps k=ps:=Hv7 fun y hy e=>hn.1 (List.mem_map.2 ⟨y,hy,e⟩)
  unfold cZ4 at h1 ⊢;rw[List.filter_cons,hx',if_neg (by simp),h1];rfl
 | x::ps,j+1,hj,hn,hx=>by
  rw[List.map_cons,List.nodup_cons]at hn;have hj':j<ps.length:=by simpa using hj
  have hx':ps[j]=(k,u,s):=hx;have hne:x.1≠k:=fun e=>hn.1 (List.mem_map.2 ⟨ps[j],jW _,by rw[hx',e]⟩)
  have:=Nu7 ps j hj' hn.2 hx';unfold cZ4 at this ⊢;rw[List.filter_cons,if_pos (by simpa using hne),this];rfl
theorem PC7{b c:Nat}{ps:List (κ×Value×Nat)}{k:κ}{k2 ty:TypeId}(h:St W (bb4 b (ps.map (L9 ek)) c::L) w)(ht:F5 P t=some (K,E))(hK:KeyOk P K ek)(hn:(ps.map (·.1)).Nodup):
  ∃w',(Builtin.delete_ #[t,k2] ty #[.map (some b),ek k]).run P w=.ok (.tuple #[]) w'/\St W (bb4 b ((cZ4 ps k).map (L9 ek)) c::L) w':=by
 have hu:=run_underlying (P:=P) (BJ7 ht) w;by_cases hk:∃x∈ps,x.1=k
 ·obtain⟨⟨k',v,s⟩,hx,rfl⟩:=hk;obtain⟨j,hj,h1,h2⟩:=FQ7 ps 0 hn hx;rw[Nat.zero_add]at h2;refine⟨_,?_,h.setMap⟩;rw[Nu7 ps j hj hn h1];unfold Builtin.delete_;have hs:=MapKept.run_setObj_map (P:=P) (.map ((ps.eraseIdx j).map (L9 ek)).toArray c) (h.get (b:=b) .head);have e:(ps.map (L9 ek)).eraseIdx j=(ps.eraseIdx j).map (L9 ek):=FA7 (L9 ek) ps j;simp[hu,Dm7 h,hK.chk,hK.find,h2,e,hs]
 ·have hn':∀x∈ps,x.1≠k:=fun x hx e=>hk ⟨x,hx,e⟩
  refine⟨_,?_,h.setMap⟩;rw[Hv7 hn'];unfold Builtin.delete_;have hs:=MapKept.run_setObj_map (P:=P) (.map (ps.map (L9 ek)).toArray c) (h.get (b:=b) .head);simp[hu,Dm7 h,hK.chk,hK.find,FP7 ps 0 hn',hs]
end
end Go.Sl
end
section
namespace Go.Sl
open Go.RowKit
section
variable{κ ν:Type}
def evs(ev:ν->Value)(x:κ×ν×Nat):κ×Value×Nat:=(x.1,ev x.2.1,x.2.2)
def prj(x:κ×ν×Nat):κ×ν:=(x.1,x.2.1)
structure Good(ps:List (κ×ν×Nat))(c:Nat):Prop where
 st:(ps.map (·.2.2)).Nodup
 old:∀x∈ps,x.2.2<c
 ks:(ps.map (·.1)).Nodup
def da4(ek:κ->Value)(ev:ν->Value)(b:Nat)(ps:List (κ×ν×Nat))(c:Nat):HP:=bb4 b ((ps.map (evs ev)).map (L9 ek)) c
def c8(ek:κ->Value)(ev:ν->Value)(b:Nat)(l:List (κ×ν)):HP:=fun f=>∃q:List (κ×ν×Nat)×Nat,((q.1.map prj).Perm l/\Good q.1 q.2)/\da4 ek ev b q.1 q.2 f
def dR4(l todo:List (κ×ν))(ps:List (κ×ν×Nat))(c since c0:Nat)(seen:Array Nat):Prop:=
 (ps.map prj).Perm l/\Good ps since/\since<=c0/\since<=c/\((ps.filter fun x=>decide (x.2.2∉seen)).map prj).Perm todo
structure ItQ(κ ν:Type) where
 ps:List (κ×ν×Nat)
 c:Nat
 since:Nat
 c0:Nat
 seen:Array Nat
def itR(ek:κ->Value)(ev:ν->Value)(r b:Nat)(l todo:List (κ×ν)):HP:=fun f=>∃q:ItQ κ ν,dR4 l todo q.ps q.c q.since q.c0 q.seen/\sep (bF4 r b q.since q.seen q.c0) (da4 ek ev b q.ps q.c) f
def dK4(ek:κ->Value)(ev:ν->Value)(r b:Nat)(l todo:List (κ×ν))(x:κ×ν):HP:=fun f=>∃q:ItQ κ ν,(dR4 l todo q.ps q.c q.since q.c0 q.seen/\q.c0=q.c/\∃(s:Nat) (seen':Array Nat),q.seen=seen'.push s/\(x.1,x.2,s)∈q.ps)/\sep (bF4 r b q.since q.seen q.c0) (da4 ek ev b q.ps q.c) f
theorem Lo7(ps:List (κ×ν×Nat)):(ps.map prj).map (·.1)=ps.map (·.1):=by rw[List.map_map];rfl
theorem Eo7(ev:ν->Value)(ps:List (κ×ν×Nat)):(ps.map (evs ev)).map (·.1)=ps.map (·.1):=by rw[List.map_map];rfl
theorem Nv7{ev:ν->Value}{ps:List (κ×ν×Nat)}{k:κ}{v:ν}{s:Nat}(h:(k,v,s)∈ps):(k,ev v,s)∈ps.map (evs ev):=List.mem_map.2 ⟨_,h,rfl⟩
theorem Nw7{ps:List (κ×ν×Nat)}{l:List (κ×ν)}{x:κ×ν}(hp:(ps.map prj).Perm l)(hx:x∈l):∃s,(x.1,x.2,s)∈ps:=by obtain⟨⟨k,v,s⟩,hy,rfl⟩:=List.mem_map.1 (hp.mem_iff.2 hx);exact⟨s,hy⟩
theorem Rk7{ev:ν->Value}{ps:List (κ×ν×Nat)}{l:List (κ×ν)}{k:κ}(hp:(ps.map prj).Perm l)(hk:∀x∈l,x.1≠k):∀x∈ps.map (evs ev),x.1≠k:=by intro x hx;obtain⟨y,hy,rfl⟩:=List.mem_map.1 hx;exact hk (prj y) (hp.mem_iff.1 (List.mem_map_of_mem hy))
theorem Dg7{α β:Type}{f:α->β}{p:α->Bool}{l:List α}(h:(l.map f).Nodup):((l.filter p).map f).Nodup:=h.sublist (List.filter_sublist.map f)
theorem Good.new{ps:List (κ×ν×Nat)}{c:Nat}(h:Good ps c){k:κ}{v:ν}(hk:∀x∈ps,x.1≠k):Good (ps++[(k,v,c)]) (c+1):=
 ⟨by
  rw[List.map_append,List.nodup_append];refine⟨h.st,by simp,fun a ha b hb=>?_⟩;obtain⟨x,hx,rfl⟩:=List.mem_map.1 ha;obtain rfl:b=c:=by simpa using hb
  have:=h.old x hx;omega,fun x hx=>by
  rcases List.mem_append.1 hx with h1|h1
  ·have:=h.old x h1;omega
  ·obtain rfl:=List.mem_singleton.1 h1;exact Nat.lt_succ_self c,by
  rw[List.map_append,List.nodup_append];refine⟨h.ks,by simp,fun a ha b hb=>?_⟩;obtain⟨x,hx,rfl⟩:=List.mem_map.1 ha;obtain rfl:b=k:=by simpa using hb
  exact hk x hx⟩
variable{W w:World}{L:List HP}{ek:κ->Value}{ev:ν->Value}{b r:Nat}{l l' todo:List (κ×ν)}
theorem ai4(h:St W (c8 ek ev b l::L) w):∃ps c,(ps.map prj).Perm l/\Good ps c/\St W (da4 ek ev b ps c::L) w:=by obtain⟨⟨ps,c⟩,h⟩:=St.ex h;obtain⟨⟨h1,h2⟩,h3⟩:=St.and h;exact⟨ps,c,h1,h2,h3⟩
theorem bc4{ps:List (κ×ν×Nat)}{c:Nat}(hp:(ps.map prj).Perm l)(hg:Good ps c)(h:St W (da4 ek ev b ps c::L) w):St W (c8 ek ev b l::L) w:=
 h.imp fun _ hf=>⟨(ps,c),⟨hp,hg⟩,hf⟩
theorem dS4(hp:l.Perm l')(h:St W (c8 ek ev b l::L) w):St W (c8 ek ev b l'::L) w:=by obtain⟨ps,c,h1,h2,h3⟩:=ai4 h;exact bc4 (h1.trans hp) h2 h3
theorem F9(h:St W (c8 ek ev b l::L) w):(l.map (·.1)).Nodup:=by obtain⟨ps,c,h1,h2,h3⟩:=ai4 h;have:=h2.ks;rw[<-Lo7]at this;exact(h1.map (·.1)).nodup_iff.1 this
theorem dr4(h:St W (itR ek ev r b l todo::L) w):∃q:ItQ κ ν,dR4 l todo q.ps q.c q.since q.c0 q.seen/\St W (bF4 r b q.since q.seen q.c0::da4 ek ev b q.ps q.c::L) w:=by obtain⟨q,h⟩:=St.ex h;obtain⟨h1,h2⟩:=St.and h;exact⟨q,h1,h2.split⟩
theorem eW4{q:ItQ κ ν}(hq:dR4 l todo q.ps q.c q.since q.c0 q.seen)(h:St W (bF4 r b q.since q.seen q.c0::da4 ek ev b q.ps q.c::L) w):St W (itR ek ev r b l todo::L) w:=
 h.join.imp fun _ hf=>⟨q,hq,hf⟩
theorem cF4(h:St W (itR ek ev r b l todo::L) w):St W (c8 ek ev b l::L) w:=by obtain⟨q,⟨h1,h2,h3,h4,h5⟩,hS⟩:=dr4 h;exact bc4 h1 ⟨h2.st,fun x hx=>Nat.lt_of_lt_of_le (h2.old x hx) h4,h2.ks⟩ hS.drop
theorem eO4{x:κ×ν}(h:St W (dK4 ek ev r b l todo x::L) w):St W (itR ek ev r b l todo::L) w:=h.imp fun _ ⟨q,⟨h1,_⟩,h2⟩=>⟨q,h1,h2⟩
theorem Lp7{ps:List (κ×ν×Nat)}{e:MapEntry}(h:e∈(ps.map (evs ev)).map (L9 ek)):∃x∈ps,e=⟨ek x.1,ev x.2.1,x.2.2⟩:=by obtain⟨y,hy,rfl⟩:=List.mem_map.1 h;obtain⟨x,hx,rfl⟩:=List.mem_map.1 hy;exact⟨x,hx,rfl⟩
theorem Lq7{ps:List (κ×ν×Nat)}{x:κ×ν×Nat}(h:x∈ps):(⟨ek x.1,ev x.2.1,x.2.2⟩:MapEntry)∈(ps.map (evs ev)).map (L9 ek):=List.mem_map.2 ⟨_,List.mem_map.2 ⟨x,h,rfl⟩,rfl⟩
theorem Ki7{ps:List (κ×ν×Nat)}{x:κ×ν×Nat}{seen:Array Nat}(hst:(ps.map (·.2.2)).Nodup)(hx:x∈ps)(hn:x.2.2∉seen):
  (ps.filter fun y=>decide (y.2.2∉seen)).Perm (x::ps.filter fun y=>decide (y.2.2∉seen.push x.2.2)):=by
 induction ps with
 | nil=>cases hx
 | cons y ps ih=>
  rw[List.map_cons,List.nodup_cons]at hst;by_cases hxy:x=y
  ·subst hxy;have e1:List.filter (fun y=>decide (y.2.2∉seen)) (x::ps)=x::ps.filter (fun y=>decide (y.2.2∉seen)):=by rw[List.filter_cons,if_pos (by simpa using hn)]
   have e2:List.filter (fun y=>decide (y.2.2∉seen.push x.2.2)) (x::ps)=ps.filter (fun y=>decide (y.2.2∉seen)):=by
    rw[List.filter_cons,if_neg (by simp)];refine List.filter_congr fun z hz=>?_
    have:z.2.2≠x.2.2:=fun e=>hst.1 (List.mem_map.2 ⟨z,hz,e⟩)
    simp[this]
   rw[e1,e2]
  ·have hx':x∈ps:=(List.mem_cons.1 hx).resolve_left hxy;have hne:y.2.2≠x.2.2:=fun e=>hst.1 (List.mem_map.2 ⟨x,hx',e.symm⟩)
   have ih:=ih hst.2 hx';by_cases hy:y.2.2∈seen
   ·rw[List.filter_cons,if_neg (by simpa using hy),List.filter_cons,if_neg (by simp[hy])];exact ih
   ·rw[List.filter_cons,if_pos (by simpa using hy),List.filter_cons,if_pos (by simp[hy,hne])];exact(ih.cons y).trans (List.Perm.swap _ _ _)
variable{P:Program}{t K E:TypeId}
theorem Nx7(h:St W L w):∃b w',(Instr.makeMap t none).run P w=.ok (.map (some b)) w'/\St W (c8 ek ev b []::L) w':=by obtain⟨b,w',hr,hS⟩:=Kg7 (P:=P) (t:=t) h;exact⟨b,w',hr,bc4 (ps:=[]) (c:=0) (List.Perm.refl _) ⟨List.nodup_nil,fun x hx=>(by cases hx),List.nodup_nil⟩ hS⟩
theorem Hw7(h:St W (c8 ek ev b l::L) w)(ht:F5 P t=some (K,E)):
  ∃r w',(Instr.range t (.map (some b))).run P w=.ok (.P r) w'/\St W (itR ek ev r b l l::L) w':=by
 obtain⟨ps,c,h1,h2,h3⟩:=ai4 h;obtain⟨r,w',hr,hS⟩:=Nr7 (P:=P) h3 ht;refine⟨r,w',hr,eW4 (q:=⟨ps,c,c,c, #[]⟩) ⟨h1,h2,Nat.le_refl _,Nat.le_refl _,?_⟩ hS⟩;have:ps.filter (fun x=>decide (x.2.2∉(#[]:Array Nat)))=ps:=List.filter_eq_self.2 fun x _=>by simp
 rw[this];exact h1
theorem IW7{ty:TypeId}(h:St W (itR ek ev r b l todo::L) w):
  (todo=[]/\(Instr.next (.P r) false ty).run P w=.ok (.tuple #[.bool false]) w) \/
  ∃x todo',todo.Perm (x::todo')/\x∈l/\∃w',(Instr.next (.P r) false ty).run P w=.ok (.tuple #[.bool true,ek x.1,ev x.2]) w'/\St W (dK4 ek ev r b l todo' x::L) w':=by
 obtain⟨⟨ps,c,since,c0,seen⟩,⟨h1,h2,h3,h4,h5⟩,hS⟩:=dr4 h
 rcases PB7 (P:=P) (ty:=ty) hS (fun x hx=>by obtain⟨y,hy,rfl⟩:=Lp7 hx;exact h2.old y hy) h3 with ⟨hall,hr⟩|⟨e,he,hne,w',hr,hS'⟩
 ·left
  refine⟨?_,hr⟩;have:ps.filter (fun x=>decide (x.2.2∉seen))=[]:=List.filter_eq_nil_iff.2 fun x hx=>by have:=hall _ (Lq7 (ek:=ek) (ev:=ev) hx);simpa using this
  simp only[this,List.map_nil]at h5;exact List.nil_perm.1 h5
 ·right
  obtain⟨x,hx,rfl⟩:=Lp7 he;have hp:=Ki7 h2.st hx hne;have hp2:todo.Perm (prj x::(ps.filter fun y=>decide (y.2.2∉seen.push x.2.2)).map prj):=h5.symm.trans (hp.map prj);refine⟨prj x,(ps.filter fun y=>decide (y.2.2∉seen.push x.2.2)).map prj,hp2,h1.mem_iff.1 (List.mem_map_of_mem hx),w',hr,?_⟩;exact hS'.join.imp fun _ hf=>⟨⟨ps,c,since,c,seen.push x.2.2⟩,⟨⟨h1,h2,h4,h4,List.Perm.refl _⟩,rfl,x.2.2,seen,rfl,hx⟩,hf⟩
theorem Hx7{x:κ×ν}(h:St W (dK4 ek ev r b l todo x::L) w):(Instr.entry (.P r)).run P w=.ok (.tuple #[ek x.1,ev x.2]) w:=by
 obtain⟨⟨ps,c,since,c0,seen⟩,h⟩:=St.ex (F:=fun(q:ItQ κ ν) f=>(dR4 l todo q.ps q.c q.since q.c0 q.seen/\q.c0=q.c/\∃(s:Nat) (seen':Array Nat),q.seen=seen'.push s/\(x.1,x.2,s)∈q.ps)/\sep (bF4 r b q.since q.seen q.c0) (da4 ek ev b q.ps q.c) f) h;obtain⟨⟨⟨h1,h2,h3,h4,h5⟩,hc,s,seen',h6,h7⟩,h8⟩:=St.and h;simp only at hc h6;subst hc h6;have h9:=h8.split;have hst:bt4 ((ps.map (evs ev)).map (L9 ek)):=by unfold bt4;rw[List.map_map,List.map_map];exact h2.st
 exact Ns7 h9 (Lq7 (ek:=ek) (ev:=ev) h7) hst
end
section
variable{κ ν:Type}[DecidableEq κ]
variable{W w:World}{L:List HP}{ek:κ->Value}{ev:ν->Value}{b r:Nat}{l l' todo:List (κ×ν)}
variable{P:Program}{t K E:TypeId}
def bM4(l:List (κ×ν))(k:κ)(v:ν):List (κ×ν):=l.map fun x=>if x.1=k then(x.1,v)else x
def l8(l:List (κ×ν))(k:κ):List (κ×ν):=l.filter fun x=>decide (x.1≠k)
theorem PD7{ev:ν->Value}(ps:List (κ×ν×Nat))(k:κ)(v:ν):cO4 (ps.map (evs ev)) k (ev v)=(ps.map fun x=>if x.1=k then(x.1,v,x.2.2)else x).map (evs ev):=by
 unfold cO4;rw[List.map_map,List.map_map];refine List.map_congr_left fun x _=>?_
 show(if x.1=k then _ else _)=evs ev (if x.1=k then _ else _)
 by_cases h:x.1=k
 ·rw[if_pos h,if_pos h];rfl
 ·rw[if_neg h,if_neg h]
theorem PE7{ev:ν->Value}(ps:List (κ×ν×Nat))(k:κ):cZ4 (ps.map (evs ev)) k=(ps.filter fun x=>decide (x.1≠k)).map (evs ev):=by unfold cZ4;rw[List.filter_map];rfl
theorem RK7(ps:List (κ×ν×Nat))(k:κ)(v:ν):((ps.map fun x=>if x.1=k then(x.1,v,x.2.2)else x).map prj)=bM4 (ps.map prj) k v:=by
 unfold bM4;rw[List.map_map,List.map_map];refine List.map_congr_left fun x _=>?_
 show prj (if x.1=k then _ else _)=(if x.1=k then _ else _)
 by_cases h:x.1=k
 ·rw[if_pos h,if_pos h];rfl
 ·rw[if_neg h,if_neg h]
theorem RL7(ps:List (κ×ν×Nat))(k:κ):((ps.filter fun x=>decide (x.1≠k)).map prj)=l8 (ps.map prj) k:=by unfold l8;rw[List.filter_map];rfl
theorem Ny7{l l':List (κ×ν)}(h:l.Perm l')(k:κ)(v:ν):(bM4 l k v).Perm (bM4 l' k v):=h.map _
theorem Gq7{l l':List (κ×ν)}(h:l.Perm l')(k:κ):(l8 l k).Perm (l8 l' k):=h.filter _
theorem Tb7(ps:List (κ×ν×Nat))(k:κ)(v:ν):((ps.map fun x=>if x.1=k then(x.1,v,x.2.2)else x).map (·.2.2))=ps.map (·.2.2):=by
 rw[List.map_map];refine List.map_congr_left fun x _=>?_
 show(if x.1=k then _ else _:κ×ν×Nat).2.2=x.2.2
 by_cases h:x.1=k
 ·rw[if_pos h]
 ·rw[if_neg h]
theorem Tc7(ps:List (κ×ν×Nat))(k:κ)(v:ν):((ps.map fun x=>if x.1=k then(x.1,v,x.2.2)else x).map (·.1))=ps.map (·.1):=by
 rw[List.map_map];refine List.map_congr_left fun x _=>?_
 show(if x.1=k then _ else _:κ×ν×Nat).1=x.1
 by_cases h:x.1=k
 ·rw[if_pos h]
 ·rw[if_neg h]
theorem Good.set{ps:List (κ×ν×Nat)}{c:Nat}(h:Good ps c)(k:κ)(v:ν):Good (ps.map fun x=>if x.1=k then(x.1,v,x.2.2)else x) c:=
 ⟨by rw[Tb7];exact h.st,fun x hx=>by
  obtain⟨y,hy,rfl⟩:=List.mem_map.1 hx;have:=h.old y hy;show(if y.1=k then _ else _:κ×ν×Nat).2.2<c
  by_cases e:y.1=k
  ·rw[if_pos e];exact this
  ·rw[if_neg e];exact this,by rw[Tc7];exact h.ks⟩
theorem Good.del{ps:List (κ×ν×Nat)}{c:Nat}(h:Good ps c)(k:κ):Good (ps.filter fun x=>decide (x.1≠k)) c:=
 ⟨Dg7 h.st,fun x hx=>h.old x (List.mem_filter.1 hx).1,Dg7 h.ks⟩
theorem IX7{x:κ×ν}{ok:Bool}(h:St W (c8 ek ev b l::L) w)(ht:F5 P t=some (K,E))(hK:KeyOk P K ek)(hx:x∈l):
  (Instr.lookup t (.map (some b)) (ek x.1) ok).run P w=.ok (if ok then .tuple #[ev x.2,.bool true]else ev x.2) w:=by
 obtain⟨ps,c,h1,h2,h3⟩:=ai4 h;obtain⟨s,hs⟩:=Nw7 h1 hx;exact IU7 h3 ht hK (by rw[Eo7];exact h2.ks) (Nv7 hs)
theorem IY7{k:κ}{z:Value}{ok:Bool}(h:St W (c8 ek ev b l::L) w)(ht:F5 P t=some (K,E))(hK:KeyOk P K ek)(hz:J8 P E=some z)(hk:∀x∈l,x.1≠k):
  (Instr.lookup t (.map (some b)) (ek k) ok).run P w=.ok (if ok then .tuple #[z,.bool false]else z) w:=by
 obtain⟨ps,c,h1,h2,h3⟩:=ai4 h;exact IT7 h3 ht hK hz (Rk7 h1 hk)
theorem Ec7{k:κ}(hk:∀x∈l,x.1≠k):l8 l k=l:=List.filter_eq_self.2 fun x hx=>by simpa using hk x hx
theorem Lr7{k:κ}{u v:ν}:∀{l:List (κ×ν)},(l.map (·.1)).Nodup->(k,u)∈l->(bM4 l k v).Perm ((k,v)::l8 l k)
 | y::l,hn,hm=>by
  rw[List.map_cons,List.nodup_cons]at hn;by_cases hk:y.1=k
  ·have h0:∀x∈l,x.1≠k:=fun x hx e=>hn.1 (List.mem_map.2 ⟨x,hx,e.trans hk.symm⟩)
   have h1:bM4 l k v=l:=by unfold bM4;refine(List.map_congr_left fun x hx=>?_).trans (List.map_id l);rw[if_neg (h0 x hx)];rfl
   have h2:l8 (y::l) k=l:=by have:=Ec7 h0;unfold l8 at this ⊢;rw[List.filter_cons,if_neg (by simpa using hk),this]
   have h3:bM4 (y::l) k v=(k,v)::l:=by have:bM4 (y::l) k v=(if y.1=k then(y.1,v)else y)::bM4 l k v:=rfl;rw[this,h1,if_pos hk,hk]
   rw[h2,h3]
  ·have hm':(k,u)∈l:=by
    rcases List.mem_cons.1 hm with h|h
    ·exact absurd (by rw[<-h]) hk
    ·exact h
   have h2:l8 (y::l) k=y::l8 l k:=by unfold l8;rw[List.filter_cons,if_pos (by simpa using hk)]
   have h3:bM4 (y::l) k v=y::bM4 l k v:=by have:bM4 (y::l) k v=(if y.1=k then(y.1,v)else y)::bM4 l k v:=rfl;rw[this,if_neg hk]
   rw[h2,h3];exact((Lr7 hn.2 hm').cons y).trans (List.Perm.swap _ _ _)
theorem PF7{k:κ}{v:ν}(h:St W (c8 ek ev b l::L) w)(ht:F5 P t=some (K,E))(hK:KeyOk P K ek):
  ∃w',(Instr.mapUpdate t (.map (some b)) (ek k) (ev v)).run P w=.ok () w'/\St W (c8 ek ev b ((k,v)::l8 l k)::L) w':=by
 have hkl:=F9 h;obtain⟨ps,c,h1,h2,h3⟩:=ai4 h;by_cases hk:∃u,(k,u)∈l
 ·obtain⟨u,hu⟩:=hk;obtain⟨s,hs⟩:=Nw7 h1 hu;obtain⟨w',hr,hS⟩:=Kh7 (v:=ev v) h3 ht hK (by rw[Eo7];exact h2.ks) (Nv7 hs);rw[PD7]at hS;refine⟨w',hr,bc4 ?_ (h2.set k v) hS⟩;rw[RK7];exact(Ny7 h1 k v).trans (Lr7 hkl hu)
 ·have hk':∀x∈l,x.1≠k:=fun x hx e=>hk ⟨x.2,by rw[<-e];exact hx⟩
  obtain⟨w',hr,hS⟩:=IV7 (v:=ev v) h3 ht hK (Rk7 h1 hk');have e:ps.map (evs ev)++[(k,ev v,c)]=(ps++[(k,v,c)]).map (evs ev):=by rw[List.map_append];rfl
  rw[e]at hS;refine⟨w',hr,bc4 ?_ (h2.new fun x hx=>?_) hS⟩
  ·rw[Ec7 hk',List.map_append];exact(List.perm_append_comm).trans (h1.cons (k,v))
  ·exact hk' (prj x) (h1.mem_iff.1 (List.mem_map_of_mem hx))
theorem PG7{k:κ}{k2 ty:TypeId}(h:St W (c8 ek ev b l::L) w)(ht:F5 P t=some (K,E))(hK:KeyOk P K ek):
  ∃w',(Builtin.delete_ #[t,k2] ty #[.map (some b),ek k]).run P w=.ok (.tuple #[]) w'/\St W (c8 ek ev b (l8 l k)::L) w':=by
 obtain⟨ps,c,h1,h2,h3⟩:=ai4 h;obtain⟨w',hr,hS⟩:=PC7 (k:=k) (k2:=k2) (ty:=ty) h3 ht hK (by rw[Eo7];exact h2.ks);rw[PE7]at hS;refine⟨w',hr,bc4 ?_ (h2.del k) hS⟩;rw[RL7];exact Gq7 h1 k
end
end Go.Sl
end
