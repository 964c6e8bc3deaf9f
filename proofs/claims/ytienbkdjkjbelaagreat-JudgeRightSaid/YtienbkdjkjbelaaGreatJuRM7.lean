/-
  Purses.
-/
import Derived.Test.YtienbkdjkjbelaaGreatJuRM2
import Derived.Test.YtienbkdjkjbelaaGreatJuRM4
import Derived.Test.YtienbkdjkjbelaaGreatJuRM5
import Derived.Test.YtienbkdjkjbelaaGreatJuRM6
import Derived.MapKept
import Derived.Maps.RangeRun
set_option maxHeartbeats 16000000
set_option maxRecDepth 100000
set_option linter.unusedSimpArgs false
set_option linter.unusedVariables false
section
namespace Go.Proofs.YtienbkdjkjbelaaGreat
open Go.RowKit Go.Sl
theorem as4(x0 x1 x2 x3:Int)(W w:World)(R:List HP)(hS:St W R w):
  Calls Tryz.prog 75 #[.agg #[.I x0,.I x1,.I x2,.I x3]] w fun e w'=>e=.returned (.bool (s8 ⟨x0,x1,x2,x3⟩))/\St W R w':=Ni7 ⟨x0,x1,x2,x3⟩ W w R hS
theorem Ia7(x0 x1 x2 x3 y0 y1 y2 y3:Int)(W w:World)(R:List HP)(hS:St W R w):
  Calls Tryz.prog 186 #[.agg #[.I x0,.I x1,.I x2,.I x3],.agg #[.I y0,.I y1,.I y2,.I y3]] w fun e w'=>e=.returned (.bool (J6 ⟨x0,x1,x2,x3⟩ ⟨y0,y1,y2,y3⟩))/\St W R w':=Nj7 ⟨x0,x1,x2,x3⟩ ⟨y0,y1,y2,y3⟩ W w R hS
theorem Ah7{i:It}:s8 i=true↔(0<=i.x0/\i.x0<=1152921504606846976)/\(0<=i.x1/\i.x1<=1152921504606846976)/\(0<=i.x2/\i.x2<=1152921504606846976)/\(0<=i.x3/\i.x3<=1152921504606846976):=by unfold s8;simp only[jB,Bk7]
def bb4(i j:It):It:=⟨i.x0-j.x0,i.x1-j.x1,i.x2-j.x2,i.x3-j.x3⟩
def ac4(i j:It):It:=⟨i.x0+j.x0,i.x1+j.x1,i.x2+j.x2,i.x3+j.x3⟩
def G6(i j:It):Bool:=s8 i&&s8 j&&!J6 i j
def bo4(i j:It):It:=if G6 i j then bb4 i j else it0
def Sb4(W:World)(F:It->List HP)(i j:It)(v:Value)(w:World):Prop:=
 (v=.I 0/\St W (F i) w)\/(v=.I 1/\St W (F ⟨i.x0-j.x0,i.x1,i.x2,i.x3⟩) w)\/(v=.I 2/\St W (F ⟨i.x0-j.x0,i.x1-j.x1,i.x2,i.x3⟩) w)\/(v=.I 3/\St W (F ⟨i.x0-j.x0,i.x1-j.x1,i.x2-j.x2,i.x3⟩) w)\/(v=.I 4/\St W (F (bb4 i j)) w)
theorem MP7(i j:It)(W w:World)(R:List HP)(hS:St W R w):
  Calls Tryz.prog 147 #[.agg i.cells.toArray,.agg j.cells.toArray] w fun e w'=>e=.returned (.tuple #[.agg (bo4 i j).cells.toArray,.bool (G6 i j)])/\St W R w':=by
 obtain⟨x0,x1,x2,x3⟩:=i;obtain⟨y0,y1,y2,y3⟩:=j
 cases hi:s8 ⟨x0,x1,x2,x3⟩with
 | false=>
  have e:G6 ⟨x0,x1,x2,x3⟩ ⟨y0,y1,y2,y3⟩=false:=by unfold G6;rw[hi];rfl
  unfold bo4;rw[e];simp only[It.cells];go_enter Tryz.func147,Tryz.ntmps147;go_wp2_with(first|go_big_skip|go_at_call 75;refine(as4 _ _ _ _ W _ _ hS).mono ?_;clear hS;rw[hi];rintro e w ⟨rfl,hS⟩|refine zlN hS ?_|refine zsN hS ?_;clear hS;intro w hS|refine zbx hS ?_;clear hS;intro b w hS|refine zal hS ?_;clear hS;intro b w hS);apply Ac7;rfl;rfl;rfl;rfl;exact hS;decide +kernel;(exact m8);kernel_rfl;exact⟨rfl,hS.drop.drop.drop⟩
 | true=>
  cases hj:s8 ⟨y0,y1,y2,y3⟩with
  | false=>
   have e:G6 ⟨x0,x1,x2,x3⟩ ⟨y0,y1,y2,y3⟩=false:=by unfold G6;rw[hi,hj];rfl
   unfold bo4;rw[e];simp only[It.cells];go_enter Tryz.func147,Tryz.ntmps147;go_wp2_with(first|go_big_skip|go_at_call 75;refine(as4 _ _ _ _ W _ _ hS).mono ?_;clear hS;(try rw[hi]);(try rw[hj]);rintro e w ⟨rfl,hS⟩|refine zlN hS ?_|refine zsN hS ?_;clear hS;intro w hS|refine zbx hS ?_;clear hS;intro b w hS|refine zal hS ?_;clear hS;intro b w hS);apply Ac7;rfl;rfl;rfl;rfl;exact hS;decide +kernel;(exact m8);kernel_rfl;exact⟨rfl,hS.drop.drop.drop⟩
  | true=>
   cases hl:J6 ⟨x0,x1,x2,x3⟩ ⟨y0,y1,y2,y3⟩with
   | true=>
    have e:G6 ⟨x0,x1,x2,x3⟩ ⟨y0,y1,y2,y3⟩=false:=by unfold G6;rw[hi,hj,hl];rfl
    unfold bo4;rw[e];simp only[It.cells];go_enter Tryz.func147,Tryz.ntmps147;go_wp2_with(first|go_at_call 75;refine(as4 _ _ _ _ W _ _ hS).mono ?_;clear hS;(try rw[hi]);(try rw[hj]);rintro e w ⟨rfl,hS⟩|go_at_call 186;refine(Ia7 _ _ _ _ _ _ _ _ W _ _ hS).mono ?_;clear hS;rw[hl];rintro e w ⟨rfl,hS⟩|refine zlN hS ?_|refine zsN hS ?_;clear hS;intro w hS|refine zbx hS ?_;clear hS;intro b w hS|refine zal hS ?_;clear hS;intro b w hS);apply Ac7;rfl;rfl;rfl;rfl;exact hS;decide +kernel;(exact m8);kernel_rfl;exact⟨rfl,hS.drop.drop.drop⟩
   | false=>
    have e:G6 ⟨x0,x1,x2,x3⟩ ⟨y0,y1,y2,y3⟩=true:=by unfold G6;rw[hi,hj,hl];rfl
    obtain⟨a0,a1,a2,a3⟩:=Ah7.1 hi;obtain⟨b0,b1,b2,b3⟩:=Ah7.1 hj;simp only at a0 a1 a2 a3 b0 b1 b2 b3;unfold bo4;rw[e,if_pos rfl];simp only[It.cells];go_enter Tryz.func147,Tryz.ntmps147;go_wp2_with(first|go_at_call 75;refine(as4 _ _ _ _ W _ _ hS).mono ?_;clear hS;(try rw[hi]);(try rw[hj]);rintro e w ⟨rfl,hS⟩|go_at_call 186;refine(Ia7 _ _ _ _ _ _ _ _ W _ _ hS).mono ?_;clear hS;rw[hl];rintro e w ⟨rfl,hS⟩|(fail_if_success (have:=bA));(with_reducible apply Au7 hS);rfl;rfl;rfl;rfl;clear hS;intro bA w hS;refine frS ?_|(fail_if_success (have:=bB));(with_reducible apply Au7 hS);rfl;rfl;rfl;rfl;clear hS;intro bB w hS;refine frS ?_|refine zlN hS ?_|refine zal hS ?_;clear hS;intro b w hS)
    go_loopw [23] (fun v wr=>Sb4 W (fun q=>[blk b [.I 0,.I 0,.I 0,.I 0] 34,blk bB [.I y0,.I y1,.I y2,.I y3] 34,blk bA [.I q.x0,.I q.x1,.I q.x2,.I q.x3] 34]++R) ⟨x0,x1,x2,x3⟩ ⟨y0,y1,y2,y3⟩ v wr) (fun v _=>4-(intOf v).toNat)
    case atStart=>exact .inl ⟨rfl,hS⟩
    case round=>
     clear hS hi hj hl;simp only[Sb4,bb4,jK,jN]at hrel
     rcases hrel with ⟨rfl,hS⟩|⟨rfl,hS⟩|⟨rfl,hS⟩|⟨rfl,hS⟩|⟨rfl,hS⟩
     ·go_wp2_with(first|(with_reducible apply At7);rfl;rfl;rfl;rfl;(first|exact L5 _ _ _ _|exact L6 _ _ _ _|exact L7 _ _ _ _|exact L8 _ _ _ _);refine frS ?_|refine zl1 hS ?_|refine zs1 hS ?_;clear hS;intro w hS);go_roundw
      case rel=>exact .inr (.inl ⟨rfl,hS⟩)
      case measure=>simp[intOf]
     ·go_wp2_with(first|(with_reducible apply At7);rfl;rfl;rfl;rfl;(first|exact L5 _ _ _ _|exact L6 _ _ _ _|exact L7 _ _ _ _|exact L8 _ _ _ _);refine frS ?_|refine zl1 hS ?_|refine zs1 hS ?_;clear hS;intro w hS);go_roundw
      case rel=>exact .inr (.inr (.inl ⟨rfl,hS⟩))
      case measure=>simp[intOf]
     ·go_wp2_with(first|(with_reducible apply At7);rfl;rfl;rfl;rfl;(first|exact L5 _ _ _ _|exact L6 _ _ _ _|exact L7 _ _ _ _|exact L8 _ _ _ _);refine frS ?_|refine zl1 hS ?_|refine zs1 hS ?_;clear hS;intro w hS);go_roundw
      case rel=>exact .inr (.inr (.inr (.inl ⟨rfl,hS⟩)))
      case measure=>simp[intOf]
     ·go_wp2_with(first|(with_reducible apply At7);rfl;rfl;rfl;rfl;(first|exact L5 _ _ _ _|exact L6 _ _ _ _|exact L7 _ _ _ _|exact L8 _ _ _ _);refine frS ?_|refine zl1 hS ?_|refine zs1 hS ?_;clear hS;intro w hS);go_roundw
      case rel=>exact .inr (.inr (.inr (.inr ⟨rfl,hS⟩)))
      case measure=>simp[intOf]
     ·go_wp2_with(first|refine zlN hS ?_|refine zsN hS ?_;clear hS;intro w hS);apply Ac7;rfl;rfl;rfl;rfl;exact hS;decide +kernel;(exact m8);kernel_rfl;exact⟨rfl,hS.drop.drop.drop⟩
def J7:List It->It->Option It
 | [],s=>some s
 | i::l,s=>if s8 i=true/\s8 (ac4 s i)=true then J7 l (ac4 s i)else none
def bg4(l:List It):It:=(J7 l it0).getD it0
def Ad4(W:World)(F:It->List HP)(i j:It)(v:Value)(w:World):Prop:=
 (v=.I 0/\St W (F i) w)\/(v=.I 1/\St W (F ⟨i.x0+j.x0,i.x1,i.x2,i.x3⟩) w)\/(v=.I 2/\St W (F ⟨i.x0+j.x0,i.x1+j.x1,i.x2,i.x3⟩) w)\/(v=.I 3/\St W (F ⟨i.x0+j.x0,i.x1+j.x1,i.x2+j.x2,i.x3⟩) w)\/(v=.I 4/\St W (F (ac4 i j)) w)
def AdR(W:World)(F:It->List HP)(l:List It)(v:Value)(w:World):Prop:=
 ∃(n:Nat) (s:It),v=.I n/\n<=l.length/\s8 s=true/\J7 l it0=J7 (l.drop n) s/\St W (F s) w
theorem MQ7(l:List It)(v:Value)(W w:World)(R:List HP)(hS:St W (row v 4 34 l.length (l.flatMap It.cells)::R) w):
  Calls Tryz.prog 32 #[v] w fun e w'=>e=.returned (.tuple #[.agg (bg4 l).cells.toArray,.bool (J7 l it0).isSome])/\St W (row v 4 34 l.length (l.flatMap It.cells)::R) w':=by
 obtain⟨a,cap,rfl⟩:=hS.rowVal
 have h63:l.length<=9223372036854775807:=by
  rcases St.rowCase hS with ⟨_,h0,_⟩|⟨_,_,h1,h2⟩
  ·omega
  ·omega
 go_enter Tryz.func32,Tryz.ntmps32;go_wp2_with(first|(fail_if_success (have:=bA));(with_reducible apply Ap7 hS);rfl;rfl;exact zsS;clear hS;intro bA w hS;refine frS ?_|(fail_if_success (have:=bB));(with_reducible apply Ap7 hS);rfl;rfl;exact zsS;clear hS;intro bB w hS;refine frS ?_)
 go_loopw [11] (fun v wr=>AdR W (fun q=>[blk bB [.I q.x0,.I q.x1,.I q.x2,.I q.x3] 34,blk bA [.I 0,.I 0,.I 0,.I 0] 34,row (.slice a l.length cap) 4 34 l.length (l.flatMap It.cells)]++R) l v wr) (fun v _=>l.length-(intOf v).toNat)
 case atStart=>exact⟨0,it0,rfl,Nat.zero_le _,rfl,rfl,hS⟩
 case round=>
  clear hS;obtain⟨n,s,rfl,hnl,hs,he,hS⟩:=hrel;simp only[jK,jN]at hS;obtain⟨s0,s1,s2,s3⟩:=s;simp only at hS;by_cases hn:n=l.length
  ·subst hn;rw[List.drop_length]at he;have E:=jH he;clear he;go_wp2_with(first|refine zlN hS ?_|refine zsN hS ?_;clear hS;intro w hS);apply Ac7;rfl;rfl;rfl;rfl;exact hS;decide +kernel;(exact m8);kernel_rfl;unfold bg4;rw[E.out];exact⟨rfl,hS.drop.drop⟩
  ·have hn1:n<l.length:=by omega
   obtain⟨⟨g,rfl⟩,_,_⟩:=St.rowAddr hS.drop.drop (by omega);have hx:∀{K K':List HP},Take K (row (.S g l.length cap) 4 34 l.length (l.flatMap It.cells)) K'->d8 K g (n*4) (It.cells l[n]):=fun hu=>d8.elemM (enc:=It.cells) It.len hu hn1
   have hdr:l.drop n=l[n]::l.drop (n+1):=List.drop_eq_getElem_cons hn1;rw[hdr]at he;clear hdr;generalize l[n]=x at hx he;obtain⟨x0,x1,x2,x3⟩:=x;simp only[It.cells]at hx
   cases hi:s8 ⟨x0,x1,x2,x3⟩with
   | false=>
    have E:=jH (show J7 l it0=none by rw[he,J7,if_neg (fun h=>by rw[hi]at h;cases h.1)]);clear he;go_wp2_with(first|refine zlN hS ?_ (hc:=by exact hx (.tail (.tail .head)))|go_at_call 75;refine(as4 _ _ _ _ W _ _ hS).mono ?_;clear hS;rw[hi];rintro e w ⟨rfl,hS⟩|refine zlN hS ?_|refine zsN hS ?_;clear hS;intro w hS|refine zal hS ?_;clear hS;intro b w hS);apply Ac7;rfl;rfl;rfl;rfl;exact hS;decide +kernel;(exact m8);kernel_rfl;unfold bg4;rw[E.out];exact⟨rfl,hS.s _⟩
   | true=>
    have he2:J7 l it0=if s8 (ac4 ⟨s0,s1,s2,s3⟩ ⟨x0,x1,x2,x3⟩)=true then J7 (l.drop (n+1)) (ac4 ⟨s0,s1,s2,s3⟩ ⟨x0,x1,x2,x3⟩)else none:=by rw[he,J7];simp[hi]
    have E2:=jH he2;clear he he2;obtain⟨a0,a1,a2,a3⟩:=Ah7.1 hi;obtain⟨b0,b1,b2,b3⟩:=Ah7.1 hs;simp only at a0 a1 a2 a3 b0 b1 b2 b3;go_wp2_with(first|refine zlN hS ?_ (hc:=by exact hx (.tail (.tail .head)))|go_at_call 75;refine(as4 _ _ _ _ W _ _ hS).mono ?_;clear hS;rw[hi];rintro e w ⟨rfl,hS⟩|refine zlN hS ?_|refine zsN hS ?_;clear hS;intro w hS|refine zal hS ?_;clear hS;intro b w hS)
    go_loopw [20] (fun v wr=>Ad4 W (fun q=>[blk b [.I x0,.I x1,.I x2,.I x3] 34,blk bB [.I q.x0,.I q.x1,.I q.x2,.I q.x3] 34,blk bA [.I 0,.I 0,.I 0,.I 0] 34,row (.S g l.length cap) 4 34 l.length (l.flatMap It.cells)]++R) ⟨s0,s1,s2,s3⟩ ⟨x0,x1,x2,x3⟩ v wr) (fun v _=>4-(intOf v).toNat)
    case atStart=>exact .inl ⟨rfl,hS⟩
    case round=>
     clear hS hx hs hi;simp only[Ad4,ac4,jK,jN]at hrel
     rcases hrel with ⟨rfl,hS⟩|⟨rfl,hS⟩|⟨rfl,hS⟩|⟨rfl,hS⟩|⟨rfl,hS⟩
     ·go_wp2_with(first|(with_reducible apply At7);rfl;rfl;rfl;rfl;(first|exact L5 _ _ _ _|exact L6 _ _ _ _|exact L7 _ _ _ _|exact L8 _ _ _ _);refine frS ?_|refine zl1 hS ?_|refine zs1 hS ?_;clear hS;intro w hS);go_roundw
      case rel=>exact .inr (.inl ⟨rfl,hS⟩)
      case measure=>simp[intOf]
     ·go_wp2_with(first|(with_reducible apply At7);rfl;rfl;rfl;rfl;(first|exact L5 _ _ _ _|exact L6 _ _ _ _|exact L7 _ _ _ _|exact L8 _ _ _ _);refine frS ?_|refine zl1 hS ?_|refine zs1 hS ?_;clear hS;intro w hS);go_roundw
      case rel=>exact .inr (.inr (.inl ⟨rfl,hS⟩))
      case measure=>simp[intOf]
     ·go_wp2_with(first|(with_reducible apply At7);rfl;rfl;rfl;rfl;(first|exact L5 _ _ _ _|exact L6 _ _ _ _|exact L7 _ _ _ _|exact L8 _ _ _ _);refine frS ?_|refine zl1 hS ?_|refine zs1 hS ?_;clear hS;intro w hS);go_roundw
      case rel=>exact .inr (.inr (.inr (.inl ⟨rfl,hS⟩)))
      case measure=>simp[intOf]
     ·go_wp2_with(first|(with_reducible apply At7);rfl;rfl;rfl;rfl;(first|exact L5 _ _ _ _|exact L6 _ _ _ _|exact L7 _ _ _ _|exact L8 _ _ _ _);refine frS ?_|refine zl1 hS ?_|refine zs1 hS ?_;clear hS;intro w hS);go_roundw
      case rel=>exact .inr (.inr (.inr (.inr ⟨rfl,hS⟩)))
      case measure=>simp[intOf]
     ·cases hi:s8 ⟨s0+x0,s1+x1,s2+x2,s3+x3⟩with
      | false=>
       have E:=jH (show J7 l it0=none by rw[E2.out,ac4];simp[hi]);clear E2;go_wp2_with(first|go_at_call 75;refine(as4 _ _ _ _ W _ _ hS).mono ?_;clear hS;rw[hi];rintro e w ⟨rfl,hS⟩|refine zlN hS ?_|refine zsN hS ?_;clear hS;intro w hS);apply Ac7;rfl;rfl;rfl;rfl;exact hS;decide +kernel;(exact m8);kernel_rfl;unfold bg4;rw[E.out];exact⟨rfl,hS.s _⟩
      | true=>
       have E:=jH (show J7 l it0=J7 (l.drop (n+1)) ⟨s0+x0,s1+x1,s2+x2,s3+x3⟩by rw[E2.out,ac4];simp[hi]);have Hi:=jH hi;clear E2;go_wp2_with(first|go_at_call 75;refine(as4 _ _ _ _ W _ _ hS).mono ?_;clear hS;rw[hi];rintro e w ⟨rfl,hS⟩|refine zlN hS ?_);go_roundw
       case rel=>exact⟨n+1,_,rfl,hn1,Hi.out,E.out,hS.s _⟩
       case measure=>simp[intOf];omega
end Go.Proofs.YtienbkdjkjbelaaGreat
end
section
namespace Go.Sl
open Go.RowKit
def bp4(b:Nat)(es:List MapEntry)(clk:Nat):HP:=aL4 b (.map es.toArray clk)
def F6(P:Program)(t:TypeId):Option (TypeId×TypeId):=(P.underlying t).bind fun|.map k e=>some (k,e)|_=>none
def C7(P:Program)(t:TypeId):Option Value:=(P.info? t).bind (·.zero)
def ce4:TypeDesc->Bool
 | .int _ | .string=>true
 | _=>false
section
variable{P:Program}{W w:World}{L R:List HP}
theorem BN7{t K E:TypeId}(h:F6 P t=some (K,E)):P.underlying t=some (.map K E):=by
 unfold F6 at h;obtain⟨d,hd,hx⟩:=Option.bind_eq_some_iff.1 h
 cases d <;> simp at hx
 rw[hd,hx.1,hx.2]
theorem Jy7{t:TypeId}{z:Value}(h:C7 P t=some z):(zeroValue t).run P w=.ok z w:=by unfold C7 at h;obtain⟨i,hi,hz⟩:=Option.bind_eq_some_iff.1 h;simp[zeroValue,typeInfo,hi,hz]
theorem Gl7{K:TypeId}{kd:TypeDesc}(hK:P.underlying K=some kd)(h:ce4 kd=true)(e:Bool)(n:Nat)(v:Value):(Instr.checkKey e (n+1) K v).run P w=.ok () w:=by
 unfold Instr.checkKey
 cases kd <;> simp[ce4]at h <;> simp[run_underlying hK]
theorem Hm7{K:TypeId}{kd:TypeDesc}{key:Value}{es:List MapEntry}{r:Option (Nat×Value)}(hK:P.underlying K=some kd)(hf:Instr.findNow kd key es 0=some r):(Instr.findKey K key es).run P w=.ok r w:=by unfold Instr.findKey;simp[run_underlying hK,hf]
theorem St.setMap{b:Nat}{es es':List MapEntry}{c c':Nat}(h:St W (bp4 b es c::L) w):St W (bp4 b es' c'::L) { w with heap:=w.heap.setIfInBounds b (.map es'.toArray c') }:=by
 have hg:=h.get (b:=b) .head;refine h.putO (b:=b) (o:=.map es.toArray c) (o':=.map es'.toArray c') .head rfl rfl rfl fun k=>?_
 show(w.heap.setIfInBounds b _)[k]? = _
 have hb:b<w.heap.size:=(Array.getElem?_eq_some_iff.1 hg).1;rw[Array.getElem?_setIfInBounds];by_cases hk:b=k
 ·subst hk;rw[if_pos rfl,if_pos hb,if_pos rfl]
 ·rw[if_neg hk,if_neg (fun h=>hk h.symm)]
theorem Dv7{b:Nat}{es:List MapEntry}{c:Nat}(h:St W (bp4 b es c::L) w):(getObj b).run P w=.ok (.map es.toArray c) w:=MapKept.run_getObj_map (h.get (b:=b) .head)
def fZ4(ok:Bool)(z:Value):Option (Nat×Value)->Value
 | some (_,v)=>if ok then .tuple #[v,.bool true]else v
 | none=>if ok then .tuple #[z,.bool false]else z
theorem Hn7{t:TypeId}(h:St W L w):∃b w',(Instr.makeMap t none).run P w=.ok (.map (some b)) w'/\St W (bp4 b [] 0::L) w':=
 ⟨w.heap.size,w.alloc (.map #[] 0),by unfold Instr.makeMap;simp,h.alloc _⟩
def cf4(es:List MapEntry):Prop:=(es.map (·.born)).Nodup
end
theorem Lw7(a b:Int):Instr.sameNow (.int .i64) (.I a) (.I b)=some (a==b):=by simp[Instr.sameNow]
theorem Lx7(a b:ByteArray):Instr.sameNow .string (.string a) (.string b)=some (a==b):=rfl
def dC4(r m since:Nat)(seen:Array Nat)(stepped:Nat):HP:=aL4 r (.mapIter (some m) since seen stepped)
section
variable{P:Program}{W w:World}{L:List HP}
end
section
variable{P:Program}{ops:Array Oper}{Q:Exit->Act->World->Prop}{a:Act}{w:World}{W:World}{L L' R:List HP}{rest:List Oper}{o:Oper}
end
end Go.Sl
end
section
namespace Go.Sl
open Go.RowKit
def aN4{κ:Type}[DecidableEq κ](k:κ):List (κ×Value×Nat)->Nat->Option (Nat×Value)
 | [],_=>none
 | x::l,i=>if k=x.1 then some (i,x.2.1)else aN4 k l (i+1)
def I7{κ:Type}(ek:κ->Value)(x:κ×Value×Nat):MapEntry:=⟨ek x.1,x.2.1,x.2.2⟩
structure KeyOk(P:Program)(K:TypeId){κ:Type}[DecidableEq κ](ek:κ->Value):Prop where
 chk:∀e k w,(Instr.checkKey e 10000 K (ek k)).run P w=.ok () w
 find:∀k (l:List (κ×Value×Nat)) w,(Instr.findKey K (ek k) (l.map (I7 ek))).run P w=.ok (aN4 k l 0) w
 bits:∀k,Instr.sameBits 10000 (ek k) (ek k)=true
section
variable{κ:Type}[DecidableEq κ]
theorem DX7{k:κ}:∀(l:List (κ×Value×Nat)) (i:Nat),(∀x∈l,x.1≠k)->aN4 k l i=none
 | [],_,_=>rfl
 | x::l,i,h=>by rw[aN4,if_neg (fun e=>h x (List.mem_cons_self ..) e.symm)];exact DX7 l (i+1) fun y hy=>h y (List.mem_cons_of_mem _ hy)
theorem DY7{k:κ}{v:Value}{s:Nat}:∀(l:List (κ×Value×Nat)) (i:Nat),(l.map (·.1)).Nodup->(k,v,s)∈l->∃j, ∃h:j<l.length,l[j]=(k,v,s)/\aN4 k l i=some (i+j,v)
 | x::l,i,hn,hm=>by
  rw[List.map_cons,List.nodup_cons]at hn;by_cases hk:k=x.1
  ·have hx:x=(k,v,s):=by
    rcases List.mem_cons.1 hm with h|h
    ·exact h.symm
    ·exact absurd (List.mem_map.2 ⟨_,h,hk⟩) hn.1
   exact⟨0,Nat.succ_pos _,hx,by rw[aN4,if_pos hk,hx];rfl⟩
  ·have hm':(k,v,s)∈l:=by
    rcases List.mem_cons.1 hm with h|h
    ·exact absurd (by rw[<-h]) hk
    ·exact h
   obtain⟨j,hj,h1,h2⟩:=DY7 l (i+1) hn.2 hm';exact⟨j+1,by simpa using hj,h1,by rw[aN4,if_neg hk,h2,show i+1+j=i+(j+1)by omega]⟩
theorem CO7{kd:TypeDesc}{ek:κ->Value}(h:∀a b,Instr.sameNow kd (ek a) (ek b)=some (decide (a=b)))(k:κ):∀(l:List (κ×Value×Nat)) (i:Nat),Instr.findNow kd (ek k) (l.map (I7 ek)) i=some (aN4 k l i)
 | [],_=>rfl
 | x::l,i=>by
  have e:(I7 ek x).key=ek x.1:=rfl;rw[List.map_cons,Instr.findNow,e,h,aN4];by_cases hk:k=x.1
  ·rw[decide_eq_true hk,if_pos hk];rfl
  ·rw[decide_eq_false hk,if_neg hk];exact CO7 h k l (i+1)
variable{P:Program}{K:TypeId}{kd:TypeDesc}{ek:κ->Value}
theorem KeyOk.plain(hK:P.underlying K=some kd)(hkd:ce4 kd=true)(h:∀a b,Instr.sameNow kd (ek a) (ek b)=some (decide (a=b)))(hb:∀k,Instr.sameBits 10000 (ek k) (ek k)=true):KeyOk P K ek:=
 ⟨fun e k w=>Gl7 hK hkd e 9999 (ek k),fun k l w=>Hm7 hK (CO7 h k l 0),hb⟩
end
theorem KeyOk.int{P:Program}{K:TypeId}(hK:P.underlying K=some (.int .i64)):KeyOk P K (fun z:Int=>.I z):=
 .plain hK rfl (fun a b=>by rw[Lw7];exact congrArg some (Bool.beq_eq_decide_eq a b)) (fun k=>by simp[Instr.sameBits])
theorem KeyOk.str{P:Program}{K:TypeId}(hK:P.underlying K=some .string):KeyOk P K (fun s:ByteArray=>.string s):=
 .plain hK rfl (fun a b=>by
  rw[Lx7]
  congr 1
  by_cases h:a=b
  ·subst h;rw[decide_eq_true rfl];exact(MapKept.bytes_beq _ _).2 rfl
  ·rw[decide_eq_false h]
   cases hb:a==b with
   | false=>rfl
   | true=>exact absurd ((MapKept.bytes_beq a b).1 hb) h) (fun k=>by
  show(k==k)=true
  exact(MapKept.bytes_beq _ _).2 rfl)
section
variable{κ:Type}[DecidableEq κ]{P:Program}{W w:World}{L R:List HP}{t K E:TypeId}{ek:κ->Value}
theorem Gm7{b c:Nat}{ps:List (κ×Value×Nat)}{k:κ}{z:Value}{ok:Bool}(h:St W (bp4 b (ps.map (I7 ek)) c::L) w)(ht:F6 P t=some (K,E))(hK:KeyOk P K ek)(hz:C7 P E=some z)(hn:∀x∈ps,x.1≠k):
  (Instr.lookup t (.map (some b)) (ek k) ok).run P w=.ok (if ok then .tuple #[z,.bool false]else z) w:=by
 unfold Instr.lookup;have hu:=run_underlying (P:=P) (BN7 ht) w
 cases ok <;> simp[hu,Dv7 h,hK.chk,hK.find,DX7 ps 0 hn,Jy7 hz]
theorem Gn7{b c:Nat}{ps:List (κ×Value×Nat)}{k:κ}{v:Value}{s:Nat}{ok:Bool}(h:St W (bp4 b (ps.map (I7 ek)) c::L) w)(ht:F6 P t=some (K,E))(hK:KeyOk P K ek)(hn:(ps.map (·.1)).Nodup)(hm:(k,v,s)∈ps):
  (Instr.lookup t (.map (some b)) (ek k) ok).run P w=.ok (if ok then .tuple #[v,.bool true]else v) w:=by
 unfold Instr.lookup;have hu:=run_underlying (P:=P) (BN7 ht) w;obtain⟨j,hj,h1,h2⟩:=DY7 ps 0 hn hm
 cases ok <;> simp[hu,Dv7 h,hK.chk,hK.find,h2]
theorem Go7{b c:Nat}{ps:List (κ×Value×Nat)}{k:κ}{v:Value}(h:St W (bp4 b (ps.map (I7 ek)) c::L) w)(ht:F6 P t=some (K,E))(hK:KeyOk P K ek)(hn:∀x∈ps,x.1≠k):
  ∃w',(Instr.mapUpdate t (.map (some b)) (ek k) v).run P w=.ok () w'/\St W (bp4 b ((ps++[(k,v,c)]).map (I7 ek)) (c+1)::L) w':=by
 refine⟨_,?_,h.setMap⟩;unfold Instr.mapUpdate;have hu:=run_underlying (P:=P) (BN7 ht) w;have hs:=MapKept.run_setObj_map (P:=P) (.map (ps.map (I7 ek)++[(⟨ek k,v,c⟩:MapEntry)]).toArray (c+1)) (h.get (b:=b) .head);have e:(ps.map (I7 ek)).toArray.push (⟨ek k,v,c⟩:MapEntry)=(ps.map (I7 ek)++[(⟨ek k,v,c⟩:MapEntry)]).toArray:=by simp
 have e2:(ps++[(k,v,c)]).map (I7 ek)=ps.map (I7 ek)++[(⟨ek k,v,c⟩:MapEntry)]:=by rw[List.map_append];rfl
 rw[e2];simp only[hu,Sem.run_bind,Result.andThen_ok,Dv7 h,hK.chk,hK.find,DX7 ps 0 hn,e,hs]
def cg4(ps:List (κ×Value×Nat))(k:κ)(v:Value):List (κ×Value×Nat):=ps.map fun x=>if x.1=k then(x.1,v,x.2.2)else x
theorem Fb7{k:κ}{v:Value}:∀(ps:List (κ×Value×Nat)),k∉ps.map (·.1)->cg4 ps k v=ps
 | [],_=>rfl
 | x::ps,h=>by
  have hx:x.1≠k:=fun e=>h (by rw[List.map_cons,e];exact List.mem_cons_self ..)
  have:=Fb7 (k:=k) (v:=v) ps (fun e=>h (List.mem_cons_of_mem _ e));unfold cg4 at this ⊢;rw[List.map_cons,if_neg hx,this]
theorem Jz7{k:κ}{v u:Value}{s:Nat}:∀(ps:List (κ×Value×Nat)) (j:Nat) (hj:j<ps.length),(ps.map (·.1)).Nodup->ps[j]=(k,u,s)->cg4 ps k v=ps.set j (k,v,s)
 | x::ps,0,_,hn,hx=>by have hx':x=(k,u,s):=hx;rw[List.map_cons,List.nodup_cons,hx']at hn;have:=Fb7 (v:=v) ps hn.1;unfold cg4 at this ⊢;rw[List.map_cons,this,hx',if_pos rfl];rfl
 | x::ps,j+1,hj,hn,hx=>by
  rw[List.map_cons,List.nodup_cons]at hn;have hj':j<ps.length:=by simpa using hj
  have hx':ps[j]=(k,u,s):=hx;have hne:x.1≠k:=fun e=>hn.1 (List.mem_map.2 ⟨ps[j],jW _,by rw[hx',e]⟩)
  have:=Jz7 (v:=v) ps j hj' hn.2 hx';unfold cg4 at this ⊢;rw[List.map_cons,if_neg hne,this];rfl
theorem Ho7{b c:Nat}{ps:List (κ×Value×Nat)}{k:κ}{u v:Value}{s:Nat}(h:St W (bp4 b (ps.map (I7 ek)) c::L) w)(ht:F6 P t=some (K,E))(hK:KeyOk P K ek)(hn:(ps.map (·.1)).Nodup)(hm:(k,u,s)∈ps):
  ∃w',(Instr.mapUpdate t (.map (some b)) (ek k) v).run P w=.ok () w'/\St W (bp4 b ((cg4 ps k v).map (I7 ek)) c::L) w':=by
 obtain⟨j,hj,h1,h2⟩:=DY7 ps 0 hn hm;rw[Nat.zero_add]at h2;have e2:(cg4 ps k v).map (I7 ek)=(ps.map (I7 ek)).set j ⟨ek k,v,s⟩:=by rw[Jz7 ps j hj hn h1,List.map_set];rfl
 have e:(ps.map (I7 ek)).modify j (fun e=>{ e with key:=ek k,val:=v })=(ps.map (I7 ek)).set j ⟨ek k,v,s⟩:=by
  apply List.ext_getElem?;intro i;rw[List.getElem?_modify,List.getElem?_set];by_cases hi:j=i
  ·subst hi;simp[hj,h1,I7]
  ·simp[hi]
 refine⟨_,?_,h.setMap⟩;rw[e2];unfold Instr.mapUpdate;have hu:=run_underlying (P:=P) (BN7 ht) w;have hks:(Instr.keyThatStays (ek k) (ek k)).run P w=.ok (ek k) w:=by unfold Instr.keyThatStays;simp[hK.bits]
 have hkk:((ps.map (I7 ek)).toArray[j]?).map (·.key)=some (ek k):=by simp[hj,h1,I7]
 have hkj:(I7 ek ps[j]).key=ek k:=by rw[h1];rfl
 simp[hu,Dv7 h,hK.chk,hK.find,h2,hj,hkj,hks];rw[e];exact MapKept.run_setObj_map (P:=P) (.map ((ps.map (I7 ek)).set j ⟨ek k,v,s⟩).toArray c) (h.get (b:=b) .head)
theorem DO7{α β:Type}(f:α->β):∀(l:List α) (j:Nat),(l.map f).eraseIdx j=(l.eraseIdx j).map f
 | [],_=>by simp
 | x::l,0=>rfl
 | x::l,j+1=>by simp[DO7 f l j]
def co4(ps:List (κ×Value×Nat))(k:κ):List (κ×Value×Nat):=ps.filter fun x=>decide (x.1≠k)
theorem Fc7{k:κ}{ps:List (κ×Value×Nat)}(h:∀x∈ps,x.1≠k):co4 ps k=ps:=List.filter_eq_self.2 fun x hx=>by simpa using h x hx
theorem JA7{k:κ}{u:Value}{s:Nat}:∀(ps:List (κ×Value×Nat)) (j:Nat) (hj:j<ps.length),(ps.map (·.1)).Nodup->ps[j]=(k,u,s)->co4 ps k=ps.eraseIdx j
 | x::ps,0,_,hn,hx=>by
  have hx':x=(k,u,s):=hx;rw[List.map_cons,List.nodup_cons,hx']at hn;have h1:co4 ps k=ps:=Fc7 fun y hy e=>hn.1 (List.mem_map.2 ⟨y,hy,e⟩)
  unfold co4 at h1 ⊢;rw[List.filter_cons,hx',if_neg (by simp),h1];rfl
 | x::ps,j+1,hj,hn,hx=>by
  rw[List.map_cons,List.nodup_cons]at hn;have hj':j<ps.length:=by simpa using hj
  have hx':ps[j]=(k,u,s):=hx;have hne:x.1≠k:=fun e=>hn.1 (List.mem_map.2 ⟨ps[j],jW _,by rw[hx',e]⟩)
  have:=JA7 ps j hj' hn.2 hx';unfold co4 at this ⊢;rw[List.filter_cons,if_pos (by simpa using hne),this];rfl
theorem Ly7{b c:Nat}{ps:List (κ×Value×Nat)}{k:κ}{k2 ty:TypeId}(h:St W (bp4 b (ps.map (I7 ek)) c::L) w)(ht:F6 P t=some (K,E))(hK:KeyOk P K ek)(hn:(ps.map (·.1)).Nodup):
  ∃w',(Builtin.delete_ #[t,k2] ty #[.map (some b),ek k]).run P w=.ok (.tuple #[]) w'/\St W (bp4 b ((co4 ps k).map (I7 ek)) c::L) w':=by
 have hu:=run_underlying (P:=P) (BN7 ht) w;by_cases hk:∃x∈ps,x.1=k
 ·obtain⟨⟨k',v,s⟩,hx,rfl⟩:=hk;obtain⟨j,hj,h1,h2⟩:=DY7 ps 0 hn hx;rw[Nat.zero_add]at h2;refine⟨_,?_,h.setMap⟩;rw[JA7 ps j hj hn h1];unfold Builtin.delete_;have hs:=MapKept.run_setObj_map (P:=P) (.map ((ps.eraseIdx j).map (I7 ek)).toArray c) (h.get (b:=b) .head);have e:(ps.map (I7 ek)).eraseIdx j=(ps.eraseIdx j).map (I7 ek):=DO7 (I7 ek) ps j;simp[hu,Dv7 h,hK.chk,hK.find,h2,e,hs]
 ·have hn':∀x∈ps,x.1≠k:=fun x hx e=>hk ⟨x,hx,e⟩
  refine⟨_,?_,h.setMap⟩;rw[Fc7 hn'];unfold Builtin.delete_;have hs:=MapKept.run_setObj_map (P:=P) (.map (ps.map (I7 ek)).toArray c) (h.get (b:=b) .head);simp[hu,Dv7 h,hK.chk,hK.find,DX7 ps 0 hn',hs]
end
end Go.Sl
end
