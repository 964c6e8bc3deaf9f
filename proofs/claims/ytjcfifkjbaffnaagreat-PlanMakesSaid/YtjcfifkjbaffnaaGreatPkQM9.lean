/-
  The program's Reader.
-/
import Derived.Test.YtjcfifkjbaffnaaGreatPkQM5
import Derived.Test.YtjcfifkjbaffnaaGreatPkQM6
import Derived.Test.YtjcfifkjbaffnaaGreatPkQM7
import Derived.Test.YtjcfifkjbaffnaaGreatPkQM8
import Derived.Laws.Shifts
import Derived.Deep.LoopGhost
import Derived.OwnWalk
import Derived.Deep.Slices
import Derived.Deep.Fields
import Derived.ChangeSame
set_option maxHeartbeats 16000000
set_option maxRecDepth 100000
set_option linter.unusedSimpArgs false
set_option linter.unusedVariables false
section
namespace Go.Proofs.YtjcfifkjbaffnaaGreat
open Go.RowKit Go.Sl
def D5(k u:Nat)(s:List Int):Option (Nat×List Int):=
 if k=9 then none else
 match A9 (8-k) (decide (k=0)) s with
 | none=>none
 | some (v,r)=>if u+v*2^(7*k)<=4611686018427387904 then some (u+v*2^(7*k),r)else none
theorem Je7(s:List Int):K9 s=D5 0 0 s:=by
 unfold K9 D5;rw[if_neg (by decide)]
 show _=match A9 8 true s with
  | none=>none
  | some (v,r)=>if 0+v*2^0<=4611686018427387904 then some (0+v*2^0,r)else none
 cases A9 8 true s with
 | none=>rfl
 | some x=>
  obtain⟨v,r⟩:=x;simp
theorem GI7(u:Nat)(s:List Int):D5 9 u s=none:=rfl
theorem GJ7(k u:Nat):D5 k u []=none:=by unfold D5;rw[HO7];split <;> rfl
theorem FG7{k u:Nat}{s:List Int}(hk:0<k):D5 k u (0::s)=none:=by
 unfold D5;split
 ·rfl
 ·rw[CT7 (by decide),if_pos ⟨by simp;omega,rfl⟩]
theorem FH7{k u x:Nat}{s:List Int}(hk:k<=8)(hx:x<128)(hz:k=0\/x≠0):D5 k u ((x:Int)::s)=if u+x*2^(7*k)<=4611686018427387904 then some (u+x*2^(7*k),s)else none:=by
 unfold D5;rw[if_neg (by omega),CT7 (by omega),if_neg]
 ·simp
 ·rintro⟨h1,h2⟩
  rcases hz with h3|h3
  ·rw[h3]at h1;cases h1
  ·omega
theorem FI7{k u x:Nat}{s:List Int}(hk:k<=8)(hx:128<=x)(hx2:x<=255):D5 k u ((x:Int)::s)=D5 (k+1) (u+x%128*2^(7*k)) s:=by
 have e0:(((x:Int)-128).toNat)=x%128:=by omega
 by_cases h8:k=8
 ·subst h8;rw[GI7];unfold D5;rw[if_neg (by omega),GD7 (by omega)]
 ·unfold D5;rw[if_neg (by omega),if_neg (by omega)];obtain⟨f,hf⟩:∃f,8-k=f+1:=⟨8-k-1,by omega⟩
  have hf2:8-(k+1)=f:=by omega
  have hz:decide (k+1=0)=false:=by simp
  rw[hf,hf2,hz,HP7 (by omega)]
  cases A9 f false s with
  | none=>rfl
  | some y=>
   obtain⟨v,r⟩:=y;dsimp only
   have e1:u+((x:Int)-128).toNat*2^(7*k)+128*v*2^(7*k)=u+x%128*2^(7*k)+v*2^(7*(k+1)):=by
    have e2:7*(k+1)=7*k+7:=by omega
    rw[e0,e2,Nat.pow_add];have:128*v*2^(7*k)=v*(2^(7*k)*2^7):=by rw[Nat.mul_comm 128 v,Nat.mul_assoc,Nat.mul_comm 128]
    omega
   have e3:u+(((x:Int)-128).toNat+128*v)*2^(7*k)=u+x%128*2^(7*k)+v*2^(7*(k+1)):=by rw[Nat.add_mul,<-Nat.add_assoc];exact e1
   rw[e3]
theorem Jf7:∀v:Fin 256,bits .and .u8 ((v.val:Nat):Int) 127=((v.val%128:Nat):Int):=by decide +kernel
theorem HU7{x:Nat}(h:x<=255):bits .and .u8 (x:Int) 127=((x%128:Nat):Int):=Jf7 ⟨x,by omega⟩
theorem bS4{k:Nat}(hk:k<=9):2^(7*k)<=9223372036854775808:=by have:2^(7*k)<=2^63:=Nat.pow_le_pow_right (by decide) (by omega);exact this
theorem Jg7{u x k:Nat}(hk:k<=9)(hu:u<2^(7*k))(hx:x%128*2^(7*k)<18446744073709551616):
  bits .or .u64 (u:Int) ((x%128*2^(7*k):Nat):Int)=((u+x%128*2^(7*k):Nat):Int):=by
 have h1:=bS4 hk;rw[bits_or_u64_nat u _ (by omega) hx,JU7 hu]
theorem Jh7{u x k:Nat}(hu:u<2^(7*k)):u+x%128*2^(7*k)<2^(7*(k+1)):=by
 have h1:2^(7*(k+1))=128*2^(7*k):=by rw[show 7*(k+1)=7*k+7 from by omega,Nat.pow_add,Nat.mul_comm]
 have h2:x%128*2^(7*k)<=127*2^(7*k):=Nat.mul_le_mul_right _ (by omega);omega
def NgR(W:World)(L:List HP)(l:List Int)(v3 v13:Value)(w:World):Prop:=
 ∃(k u:Nat),v3=.int .u64 u/\v13=.I k/\k<=l.length/\k<=9/\u<2^(7*k)/\K9 l=D5 k u (l.drop k)/\St W L w
theorem BZ7{l:List Int}(h:K9 l=none):k6 (some l)=(0,none):=by unfold k6;simp only;rw[h]
theorem HV7{l r:List Int}{u:Nat}(h:K9 l=some (u,r)):k6 (some l)=((u:Int),some r):=by unfold k6;simp only;rw[h]
theorem GK7{u x k:Nat}(hk:k<=8)(hu:u<2^(7*k))(hx:x<=255):
  bits .or .u64 (u:Int) (IntKind.u64.wrap (IntKind.u64.wrap (bits .and .u8 (x:Int) 127)*2^(7*k)))=((u+x%128*2^(7*k):Nat):Int):=by
 have h1:2^(7*k)<=72057594037927936:=by have:2^(7*k)<=2^56:=Nat.pow_le_pow_right (by decide) (by omega);exact this
 have h2:x%128*2^(7*k)<=127*72057594037927936:=Nat.mul_le_mul (by omega) h1
 have e:IntKind.u64.wrap (IntKind.u64.wrap (bits .and .u8 (x:Int) 127)*2^(7*k))=((x%128*2^(7*k):Nat):Int):=by
  rw[HU7 hx,IntKind.wrap_u64,IntKind.wrap_u64];have e1:(((x%128:Nat):Int)%18446744073709551616)=((x%128:Nat):Int):=by omega
  rw[e1];have e2:((x%128:Nat):Int)*2^(7*k)=((x%128*2^(7*k):Nat):Int):=by push_cast;rfl
  rw[e2];omega
 rw[e];exact Jg7 (by omega) hu (by omega)
theorem Fi7{D:HP}{g off c m:Nat}{l:List Int}(hD:Dat D g off l)(hm:m<=l.length)(hc:l.length<=c)(hM:c<=9223372036854775807):
  rdV D (.slice (if c=m then some ⟨g,off,none⟩else some ⟨g,off+m,none⟩) (l.length-m) (c-m)) false (some (l.drop m)):=by
 have hld:(l.drop m).length=l.length-m:=List.length_drop ..;refine⟨rfl,_,_,by rw[hld],by rw[hld];omega,by omega,?_⟩;by_cases h:c=m
 ·exact .inr (.inl ⟨List.eq_nil_of_length_eq_zero (by rw[hld];omega),_,if_pos h⟩)
 ·exact .inr (.inr ⟨g,off+m,if_neg h,hD.drop m⟩)
theorem aS4(D:HP)(rb:Nat)(s:RS)(hb:BS s)(hl:∀l,s=some l->l.length<=100000000)(W w:World)(R R':List HP)(ht:Take R D R')(hS:St W (rdG D rb s::R) w):
  Calls Tryz.prog 27 #[.P rb] w fun e w'=>e=.returned (.I (k6 s).1)/\St W (rdG D rb (k6 s).2::R) w':=by
 cases s with
 | none=>
  rw[FD7];obtain⟨v0,e0,hv,hS1⟩:=G5 hS;clear hS hl hb;obtain⟨rfl,rfl⟩:=hv;have hS:=hS1;clear hS1;go_enter Tryz.func27,Tryz.ntmps27;go_wp2_with(first|refine zl1 hS ?_)
  go_loopw [13] (fun v13 wr=>v13=.I 0/\St W (blk rb [.slice none 0 0,.bool true] 113::R) wr) (fun _ _=>0)
  case atStart=>exact⟨rfl,hS⟩
  case round=>
   clear hS;obtain⟨rfl,hS⟩:=hrel;go_wp2_with(first|go_at_call 58;refine(H7 D rb none W _ _ (l6 ⟨rfl,rfl⟩ hS)).mono ?_;clear hS;rintro e w ⟨rfl,hS⟩);go_ret;exact⟨rfl,hS⟩
 | some l=>
  have hll:=hl l rfl;have hbl:=hb l rfl;clear hl hb;obtain⟨v0,e0,hv,hS1⟩:=G5 hS;clear hS;have hS:=hS1;clear hS1;obtain⟨a0,c0,rfl,rfl,Hv⟩:=av4 hv;clear hv;have Hb:=jH hbl;clear hbl;go_enter Tryz.func27,Tryz.ntmps27;go_wp2_with(first|refine zl1 hS ?_)
  go_loopw [3,13] (fun v3 v13 wr=>NgR W (blk rb [.slice a0 l.length c0,.bool false] 113::R) l v3 v13 wr) (fun _ v13 _=>l.length-(intOf v13).toNat)
  case atStart=>exact⟨0,0,rfl,rfl,Nat.zero_le _,by decide,by decide,Je7 l,hS⟩
  case round=>
   clear hS;obtain⟨k,u,rfl,rfl,hkl,hk9,hu,hnum,hS⟩:=hrel;by_cases hin:k=l.length
   ·have hn:k6 (some l)=(0,none):=BZ7 (by rw[hnum,hin,List.drop_length,GJ7]);have Hn:=jH hn;clear hn hnum hu;go_wp2_with(first|go_at_call 58;refine(H7 D rb (some l) W _ _ (l6 Hv.out hS)).mono ?_;clear hS;rintro e w ⟨rfl,hS⟩);go_ret;exact⟨by rw[Hn.out];rfl,by rw[Hn.out];exact hS⟩
   ·have hk1:k<l.length:=by omega
    have hat:=GG7 Hv.out;have hcap:=GH7 Hv.out
    rcases hat with ⟨rfl,_,_⟩|⟨rfl,_⟩|⟨g,off,rfl,hD⟩
    ·simp at hk1
    ·simp at hk1
    ·have hx:=Hb.out l[k] (jW hk1);have hdr:l.drop k=l[k]::l.drop (k+1):=List.drop_eq_getElem_cons hk1;have hxc:(u8s l)[k]? = some (.int .u8 l[k]):=by unfold u8s;rw[List.getElem?_map,jG hk1];rfl
     rw[hdr]at hnum;clear hdr;generalize l[k]=c at hx hxc hnum;obtain⟨x,rfl⟩:∃x:Nat,c=x:=⟨c.toNat,by omega⟩
     have hx255:x<=255:=by omega
     clear hx hin hkl;by_cases h9:k=9
     ·rw[h9,GI7]at hnum;have Hn:=jH (BZ7 hnum);have hd9:decide (9<=(k:Int))=true:=by simp;omega
      clear hnum hu h9;go_wp2_with(first|refine zl1 hS ?_ (hc:=by exact hD _ _ ht.tail k _ hxc)|go_at_call 58;refine(H7 D rb (some l) W _ _ (l6 Hv.out hS)).mono ?_;clear hS;rintro e w ⟨rfl,hS⟩);go_ret;exact⟨by rw[Hn.out];rfl,by rw[Hn.out];exact hS⟩
     ·have hk8:k<=8:=by omega
      have hd9:decide (9<=(k:Int))=false:=by simp;omega
      clear h9 hk9;by_cases hz:0<k/\x=0
      ·obtain⟨hk0,hx0⟩:=hz;rw[hx0]at hnum;have Hn:=jH (BZ7 (hnum.trans (FG7 hk0)));have hd0:decide (0<(k:Int))=true:=by simp;omega
       have hdx:((x:Int)==0)=true:=by simp;omega
       clear hnum hu hx0;go_wp2_with(first|refine zl1 hS ?_ (hc:=by exact hD _ _ ht.tail k _ hxc)|go_at_call 58;refine(H7 D rb (some l) W _ _ (l6 Hv.out hS)).mono ?_;clear hS;rintro e w ⟨rfl,hS⟩);go_ret;exact⟨by rw[Hn.out];rfl,by rw[Hn.out];exact hS⟩
      ·by_cases hx128:x<128
       ·rw[FH7 hk8 hx128 (by omega)]at hnum;have hd1:decide ((x:Int)<128)=true:=by simp;omega
        have hor:=GK7 hk8 hu hx255;have hx2:x%128=x:=Nat.mod_eq_of_lt hx128;rw[hx2]at hor;clear hx2 hu;generalize u+x*2^(7*k)=u1 at hor hnum;by_cases hbig:u1<=4611686018427387904
        ·rw[if_pos hbig]at hnum;have Hn:=jH (HV7 hnum);have hd2:decide (4611686018427387904<((u1:Nat):Int))=false:=by simp;omega
         clear hnum;by_cases hk0:0<k
         ·have hd0:decide (0<(k:Int))=true:=by simp;omega
          have hdx:((x:Int)==0)=false:=by simp;omega
          go_wp2_with(first|refine zl1 hS ?_ (hc:=by exact hD _ _ ht.tail k _ hxc)|refine zl1 hS ?_|refine zs1 hS ?_;clear hS;intro w hS)
          all_goals go_ret
          all_goals exact⟨by rw[Hn.out];rfl,by rw[Hn.out];exact l6 (Fi7 hD (by omega) hcap.1 hcap.2) hS⟩
         ·have hd0:decide (0<(k:Int))=false:=by simp;omega
          go_wp2_with(first|refine zl1 hS ?_ (hc:=by exact hD _ _ ht.tail k _ hxc)|refine zl1 hS ?_|refine zs1 hS ?_;clear hS;intro w hS)
          all_goals go_ret
          all_goals exact⟨by rw[Hn.out];rfl,by rw[Hn.out];exact l6 (Fi7 hD (by omega) hcap.1 hcap.2) hS⟩
        ·rw[if_neg hbig]at hnum;have Hn:=jH (BZ7 hnum);have hd2:decide (4611686018427387904<((u1:Nat):Int))=true:=by simp;omega
         clear hnum;by_cases hk0:0<k
         ·have hd0:decide (0<(k:Int))=true:=by simp;omega
          have hdx:((x:Int)==0)=false:=by simp;omega
          go_wp2_with(first|refine zl1 hS ?_ (hc:=by exact hD _ _ ht.tail k _ hxc)|go_at_call 58;refine(H7 D rb (some l) W _ _ (l6 Hv.out hS)).mono ?_;clear hS;rintro e w ⟨rfl,hS⟩);go_ret;exact⟨by rw[Hn.out];rfl,by rw[Hn.out];exact hS⟩
         ·have hd0:decide (0<(k:Int))=false:=by simp;omega
          go_wp2_with(first|refine zl1 hS ?_ (hc:=by exact hD _ _ ht.tail k _ hxc)|go_at_call 58;refine(H7 D rb (some l) W _ _ (l6 Hv.out hS)).mono ?_;clear hS;rintro e w ⟨rfl,hS⟩);go_ret;exact⟨by rw[Hn.out];rfl,by rw[Hn.out];exact hS⟩
       ·rw[FI7 hk8 (by omega) hx255]at hnum;have hd1:decide ((x:Int)<128)=false:=by simp;omega
        have hor:=GK7 hk8 hu hx255;have hlt:=Jh7 (x:=x) hu;clear hu;generalize u+x%128*2^(7*k)=u1 at hor hnum hlt;have Hq:=jH hnum;clear hnum;by_cases hk0:0<k
        ·have hd0:decide (0<(k:Int))=true:=by simp;omega
         have hdx:((x:Int)==0)=false:=by simp;omega
         go_wp2_with(first|refine zl1 hS ?_ (hc:=by exact hD _ _ ht.tail k _ hxc));go_roundw
         case rel=>exact⟨k+1,u1,rfl,rfl,by omega,by omega,hlt,Hq.out,hS⟩
         case measure=>simp[intOf];omega
        ·have hd0:decide (0<(k:Int))=false:=by simp;omega
         go_wp2_with(first|refine zl1 hS ?_ (hc:=by exact hD _ _ ht.tail k _ hxc));go_roundw
         case rel=>exact⟨k+1,u1,rfl,rfl,by omega,by omega,hlt,Hq.out,hS⟩
         case measure=>simp[intOf];omega
theorem HW7{s:RS}(hb:BS s):BS (k6 s).2:=by
 cases s with
 | none=>exact hb
 | some l=>
  intro r hr;exact(CU7 (hb l rfl) (show k6 (some l)=((k6 (some l)).1,some r)by rw[<-hr])).2.2.2
theorem HX7{s:RS}(hb:BS s){l r:List Int}(hl:s=some l)(hr:(k6 s).2=some r):r.length<=l.length:=by subst hl;have h:=(CU7 (hb l rfl) (show k6 (some l)=((k6 (some l)).1,some r)by rw[<-hr])).1;have h2:=congrArg List.length h;rw[jA]at h2;omega
theorem GL7(s:RS):0<=(k6 s).1/\(k6 s).1<=4611686018427387904:=by
 cases s with
 | none=>exact⟨Int.le_refl _,by decide⟩
 | some l=>
  unfold k6;simp only
  cases h:K9 l with
  | none=>exact⟨Int.le_refl _,by decide⟩
  | some x=>
   obtain⟨u,r⟩:=x;unfold K9 at h;split at h
   ·cases h
   ·split at h
    ·cases h
     exact⟨by simp,by simp only;omega⟩
    ·cases h
structure RdOk(s:RS):Prop where
 b:BS s
 l:∀l,s=some l->l.length<=100000000
theorem RdOk.num{s:RS}(h:RdOk s):RdOk (k6 s).2:=⟨HW7 h.b,fun r hr=>by
 cases s with
 | none=>cases hr
 | some l=>exact Nat.le_trans (HX7 h.b rfl hr) (h.l l rfl)⟩
theorem RdOk.raw{s:RS}(h:RdOk s)(n:Int):RdOk (J8 n s).2:=by
 cases s with
 | none=>exact h
 | some l=>
  unfold J8;simp only;split
  ·refine⟨fun r hr=>?_,fun r hr=>?_⟩
   ·cases hr;exact HN7 (h.b l rfl) _
   ·cases hr
    have:=h.l l rfl;rw[List.length_drop];omega
  ·exact⟨fun r hr=>(by cases hr),fun r hr=>(by cases hr)⟩
theorem RdOk.bytes{s:RS}(h:RdOk s):RdOk (B8 s).2:=h.num.raw _
theorem HY7(D:HP)(rb:Nat)(s:RS)(h:RdOk s)(W w:World)(R R':List HP)(ht:Take R D R')(hS:St W (rdG D rb s::R) w):
  Calls Tryz.prog 29 #[.P rb] w fun e w'=>∃v,e=.returned v/\St W (byR v (B8 s).1::rdG D rb (B8 s).2::R) w':=by
 have hr:=GL7 s;have H1:=jH h;clear h;go_enter Tryz.func29,Tryz.ntmps29;go_wp2_with(first|go_at_call 27;refine(aS4 D rb s H1.out.b H1.out.l W _ _ _ ht hS).mono ?_;clear hS;rintro e w ⟨rfl,hS⟩|go_at_call 59;refine(JW7 D rb (k6 s).2 (k6 s).1 ⟨by omega,by omega⟩ H1.out.num.l W _ _ _ ht hS).mono ?_;clear hS;rintro e w ⟨v,rfl,hS⟩);go_ret;exact⟨_,rfl,hS⟩
structure Into(F:List Int->List HP)(D:HP)(ps:List (Nat×Nat)):Prop where
 st:∀(xs:List Int) (x:Int), ∀h:xs.length<ps.length, ∃l T,l.length<=100/\(ps[xs.length]).2<l.length/\Upd (F xs) (blk (ps[xs.length]).1 l T) (blk (ps[xs.length]).1 (l.set (ps[xs.length]).2 (.I x)) T) (F (xs++[x]))
 dat:∀xs, ∃R',Take (F xs) D R'
theorem CV7:∀(k:Nat) (s:RS),(k5 k s).1.length=k
 | 0,_=>rfl
 | k+1,s=>by rw[k5,jC,CV7]
theorem Cp7:∀(k:Nat) (s:RS),k5 (k+1) s=((k5 k s).1++[(k6 (k5 k s).2).1],(k6 (k5 k s).2).2)
 | 0,s=>rfl
 | k+1,s=>by rw[k5,Cp7 k];rfl
theorem RdOk.nums:∀(k:Nat) {s:RS},RdOk s->RdOk (k5 k s).2
 | 0,_,h=>h
 | k+1,_,h=>RdOk.nums k h.num
def pV(p:Nat×Nat):Value:=.pointer (some ⟨p.1,p.2,none⟩)
def NpR(W:World)(F:List Int->List HP)(D:HP)(rb:Nat)(s:RS)(n:Nat)(v:Value)(w:World):Prop:=
 ∃i:Nat,v=.I i/\i<=n/\St W (rdG D rb (k5 i s).2::F (k5 i s).1) w
theorem IF7(D:HP)(rb:Nat)(s:RS)(hr:RdOk s)(ps:List (Nat×Nat))(hl:ps.length<=100)(g c:Nat)(F:List Int->List HP)(hF:Into F D ps)(hg:∀xs i, ∀h:i<ps.length,a8 (F xs) g i (pV ps[i]))(W w:World)(hS:St W (rdG D rb s::F []) w):
  Calls Tryz.prog 26 #[.P rb,.S g ps.length c] w fun e w'=>e=.returned (.tuple #[])/\St W (rdG D rb (k5 ps.length s).2::F (k5 ps.length s).1) w':=by
 have HR:=jH hr;have HF:=jH hF;have HG:=jH hg;clear hr hF hg;go_enter Tryz.func26,Tryz.ntmps26;go_wp2_with(fail)
 go_loopw [9] (fun v wr=>NpR W F D rb s ps.length v wr) (fun v _=>ps.length-(intOf v).toNat)
 case atStart=>exact⟨0,rfl,Nat.zero_le _,hS⟩
 case round=>
  clear hS;obtain⟨i,rfl,hil,hS⟩:=hrel;by_cases hin:i=ps.length
  ·have Hi:=jH hin;clear hil;go_wp2_with(fail);go_end0;refine⟨rfl,?_⟩;rw[<-Hi.out];exact hS
  ·have hi1:i<ps.length:=by omega
   have hlen:(k5 i s).1.length=i:=CV7 i s;have hpx:=HG.out (k5 i s).1 i hi1;obtain⟨R',ht⟩:=HF.out.dat (k5 i s).1;obtain⟨l,T,h100,hoff,hup⟩:=HF.out.st (k5 i s).1 (k6 (k5 i s).2).1 (by rw[hlen];exact hi1);simp only[hlen]at hoff hup;have hst:=Cp7 i s;have hr2:=HR.out.nums i;generalize k5 i s=q at *;obtain⟨xs,s2⟩:=q;simp only at hlen hpx ht hup hst hr2 hS;generalize ps[i]=p at hpx hoff hup;obtain⟨pb,poff⟩:=p;unfold pV at hpx;simp only at hpx hoff hup;have Hst:=jH hst;clear hst hin hil;go_wp2_with(first|refine zl1 hS ?_ (hc:=by exact a8.there hpx)|go_at_call 27;refine(aS4 D rb s2 hr2.b hr2.l W _ _ _ ht hS).mono ?_;clear hS;rintro e w ⟨rfl,hS⟩|((with_reducible apply IA7 hS);rfl;rfl;rfl;rfl;kernel_rfl;rfl;rfl;exact Upd.tail hup;(focus omega);rfl;clear hS;intro w hS;try(refine frS ?_)));go_roundw
   case rel=>exact⟨i+1,rfl,hi1,by rw[Hst.out];exact hS⟩
   case measure=>simp[intOf];omega
theorem GM7:RdOk none:=⟨fun l hl=>(by cases hl),fun l hl=>(by cases hl)⟩
theorem RdOk.cond{s:RS}(h:RdOk s)(c:Prop)[Decidable c]:RdOk (if c then s else none):=by
 split
 ·exact h
 ·exact GM7
end Go.Proofs.YtjcfifkjbaffnaaGreat
end
section
namespace Go.Sl
open Go.RowKit
section
variable{P:Program}{ops:Array Oper}{Q:Exit->Act->World->Prop}{a:Act}{w:World}{W:World}{L R:List HP}{rest:List Oper}{o:Oper}
theorem BR7{src dst e:TypeId}{x:Operand}{p:Option Addr}{c:Nat}(ho:o.op=.convert src dst x)(hg:Region.wanted o (yielded ops a.tmps)=true)(hx:a.eval x=.slice p 0 c)
  (hp:p=none->c=0) (hs:P.underlying src=some (.slice e)) (he:P.underlying e=some (.int .u8)) (hd:P.underlying dst=some .string)
  (h:wpList P ops Q rest (a.put o.dst (.string (G8 []))) w):wpList P ops Q (o::rest) a w:=by
 refine Al7 hg (v:=.string (G8 [])) (w':=w) ?_ h
 cases p with
 | none=>
  obtain rfl:=hp rfl;unfold execOp;simp[ho,hx,run_convert_bytes_string w src dst e none 0 0 hs he hd,Conv.bytesToString,G8,Sem.run_pure]
 | some p=>
  have h1:(loadCells p 0).run P w=.ok (([]:List Int).map (Value.int .u8)).toArray w:=by simp[loadCells,loadCellsFrom]
  have h2:=run_bytesToString (P:=P) w p 0 c [] h1;unfold execOp;simp[ho,hx,run_convert_bytes_string w src dst e (some p) 0 c hs he hd,h2,G8]
theorem Eb7{src dst e:TypeId}{x:Operand}{b off n c:Nat}{ns:List Int}(hS:St W L w)(ho:o.op=.convert src dst x)(hg:Region.wanted o (yielded ops a.tmps)=true)(hx:a.eval x=.slice (some ⟨b,off,none⟩) n c)
  (hs:P.underlying src=some (.slice e)) (he:P.underlying e=some (.int .u8)) (hd:P.underlying dst=some .string) (hc:a7 L b off (ns.map (Value.int .u8))) (hn:n=ns.length)
  (h:wpList P ops Q rest (a.put o.dst (.string (G8 ns))) w):wpList P ops Q (o::rest) a w:=by
 refine Al7 hg (v:=.string (G8 ns)) (w':=w) ?_ h;have h1:=run_loadCells_list (P:=P) w ⟨b,off,none⟩ (ns.map (Value.int .u8)) (fun j v hj=>by rw[Addr.add_lit];exact hc j v hj W w hS);rw[jM,<-hn]at h1;have h2:=run_bytesToString (P:=P) w ⟨b,off,none⟩ n c ns h1;unfold execOp;simp[ho,hx,run_convert_bytes_string w src dst e (some ⟨b,off,none⟩) n c hs he hd,h2,G8]
end
end Go.Sl
namespace Go.Proofs.YtjcfifkjbaffnaaGreat
open Go.RowKit Go.Sl
section
variable{D:HP}{rb bI bS bB bO c:Nat}{s:RS}{W w:World}{R R':List HP}
end
theorem Ji7(D:HP)(a:Option Addr)(c:Nat)(b xs:List Int)(v:Value)(hat:At D a c b){r:Bool}(hr:((G8 xs).toList==(G8 b).toList)=r)(W w:World)(R R' R2:List HP)(ht:Take R D R')(hx:Take R (byR v xs) R2)(hS:St W R w):
  Calls Tryz.prog 32 #[v,.slice a b.length c] w fun e w'=>e=.returned (.bool r)/\St W R w':=by
 subst hr
 rcases hat with ⟨rfl,rfl,rfl⟩|⟨rfl,p,rfl⟩|⟨g,off,rfl,hD⟩
 ·go_enter Tryz.func32,Tryz.ntmps32;go_wp2_with(first|(with_reducible apply BR7);rfl;rfl;rfl;(first|(intro _;rfl)|(intro h;cases h));exact Tryz.underlying46;exact Tryz.underlying5;exact Tryz.underlying9;refine frS ?_|(with_reducible apply AE7 (ns:=xs) hS);rfl;rfl;rfl;exact Tryz.underlying46;exact Tryz.underlying5;exact Tryz.underlying9;exact hx;refine frS ?_);go_ret;exact⟨rfl,hS⟩
 ·go_enter Tryz.func32,Tryz.ntmps32;go_wp2_with(first|(with_reducible apply BR7);rfl;rfl;rfl;(first|(intro _;rfl)|(intro h;cases h));exact Tryz.underlying46;exact Tryz.underlying5;exact Tryz.underlying9;refine frS ?_|(with_reducible apply AE7 (ns:=xs) hS);rfl;rfl;rfl;exact Tryz.underlying46;exact Tryz.underlying5;exact Tryz.underlying9;exact hx;refine frS ?_);go_ret;exact⟨rfl,hS⟩
 ·go_enter Tryz.func32,Tryz.ntmps32;go_wp2_with(first|(with_reducible apply Eb7 (ns:=b) hS);rfl;rfl;rfl;exact Tryz.underlying46;exact Tryz.underlying5;exact Tryz.underlying9;exact hD _ _ ht;exact rfl;refine frS ?_|(with_reducible apply AE7 (ns:=xs) hS);rfl;rfl;rfl;exact Tryz.underlying46;exact Tryz.underlying5;exact Tryz.underlying9;exact hx;refine frS ?_);go_ret;exact⟨rfl,hS⟩
theorem GN7{D:HP}{rb:Nat}{s s2:RS}{n:Int}(hn:k6 s=(n,s2))(h:RdOk s)(W w:World)(R R':List HP)(ht:Take R D R')(hS:St W (rdG D rb s::R) w):
  Calls Tryz.prog 27 #[.P rb] w fun e w'=>e=.returned (.I n)/\St W (rdG D rb s2::R) w':=by
 have h1:=aS4 D rb s h.b h.l W w R R' ht hS;rw[hn]at h1;exact h1
theorem Dp7{D:HP}{rb:Nat}{s s1:RS}{x:List Int}(hn:B8 s=(x,s1))(h:RdOk s)(W w:World)(R R':List HP)(ht:Take R D R')(hS:St W (rdG D rb s::R) w):
  Calls Tryz.prog 29 #[.P rb] w fun e w'=>∃v,e=.returned v/\St W (byR v x::rdG D rb s1::R) w':=by
 have h1:=HY7 D rb s h W w R R' ht hS;rw[hn]at h1;exact h1
theorem HZ7{D:HP}{rb:Nat}{l:List Int}(W w:World)(R:List HP)(hS:St W (rdG D rb (some l)::R) w):
  Calls Tryz.prog 28 #[.P rb] w fun e w'=>e=.returned (.bool true)/\St W (rdG D rb (some l)::R) w':=Fh7 D rb (some l) W w R hS
theorem Fj7{D:HP}{rb:Nat}{s:RS}{r:Bool}(h:aJ4 s=r)(W w:World)(R:List HP)(hS:St W (rdG D rb s::R) w):
  Calls Tryz.prog 30 #[.P rb] w fun e w'=>e=.returned (.bool r)/\St W (rdG D rb s::R) w':=h▸Jd7 D rb s W w R hS
theorem Fk7:∀f u,u<128^(f+1)->ByB (D8 f u)
 | 0,u,hu=>by intro c hc;rw[show D8 0 u=[(u:Int)]from rfl,List.mem_singleton]at hc;subst hc;simp at hu;omega
 | f+1,u,hu=>by
  rw[D8];split
  ·intro c hc
   rcases List.mem_cons.1 hc with rfl|hc
   ·omega
   ·exact Fk7 f (u / 128) (Nat.div_lt_of_lt_mul (by rw[Nat.pow_succ]at hu;omega)) c hc
  ·intro c hc;rw[List.mem_singleton]at hc;omega
theorem Bh7{s t:List Int}(h:ByB s)(h2:ByB t):ByB (s++t):=fun c hc=>(List.mem_append.1 hc).elim (h c) (h2 c)
theorem BB7(n:Int):ByB (r9 n):=Fk7 _ _ (EC7 (Dn7 n))
theorem Ca7{α:Type}{f:α->List Int}(h:∀x,ByB (f x)):∀l:List α,ByB (l.flatMap f)
 | []=>fun c hc=>(by cases hc)
 | x::l=>by rw[List.flatMap_cons];exact Bh7 (h x) (Ca7 h l)
theorem Dq7(u:ByteArray):ByB (n5 u):=Bh7 (BB7 _) (HT7 u)
def clN(n:Int):Int:=((F5 n:Nat):Int)
theorem IG7(n:Int):0<=clN n/\clN n<=4611686018427387904:=by have:=Dn7 n;unfold clN;omega
theorem Bi7{n:Int}(h0:0<=n)(h1:n<=4611686018427387904):clN n=n:=HS7 h0 h1
theorem Jj7(n:Int):F5 (clN n)=F5 n:=by have h:=IG7 n;have h2:clN (clN n)=clN n:=Bi7 h.1 h.2;have h3:((F5 (clN n):Nat):Int)=((F5 n:Nat):Int):=h2;omega
theorem GO7(n:Int):r9 (clN n)=r9 n:=by unfold r9;rw[Jj7]
def clZ(z:Zo):Zo:=⟨clN z.id,z.sf,z.st,clN z.own,clN z.ep,clN z.pend,clN z.to,z.key,clN z.new⟩
def clM(m:Mp):Mp:=⟨clN m.ver,clN m.nxt,m.zs.map clZ⟩
def r7(z:Zo):List Int:=r9 z.id++(n5 z.sf++(n5 z.st++(k9 [z.own,z.ep,z.pend,z.to]++(n5 z.key++r9 z.new))))
def F6(m:Mp):List Int:=k9 [m.ver,m.nxt,m.zs.length]++m.zs.flatMap r7
theorem Jk7(z:Zo):r7 (clZ z)=r7 z:=by unfold r7 clZ k9;simp only[List.flatMap_cons,List.flatMap_nil,GO7]
theorem Jl7(m:Mp):F6 (clM m)=F6 m:=by
 have h:∀l:List Zo,(l.map clZ).flatMap r7=l.flatMap r7:=fun l=>by
  induction l with
  | nil=>rfl
  | cons z l ih=>rw[List.map_cons,List.flatMap_cons,List.flatMap_cons,ih,Jk7]
 unfold F6 clM k9;simp only[List.flatMap_cons,List.flatMap_nil,GO7,h,jM]
theorem Bo7(n:Int)(r:List Int):k6 (some (r9 n++r))=(clN n,some r):=by unfold k6;simp only;rw[HQ7];rfl
theorem Bs7(u:ByteArray)(h:u.size<=1000)(r:List Int):B8 (some (n5 u++r))=(w9 u,some r):=by unfold B8 n5;rw[jS,Bo7];simp only;rw[Bi7 (by omega) (by omega),bC4 (by rw[jA,Az7];omega),List.take_left' (Az7 u),List.drop_left' (Az7 u)]
theorem EE7(a b c d:Int)(r:List Int):k5 4 (some (k9 [a,b,c,d]++r))=([clN a,clN b,clN c,clN d],some r):=by unfold k9;simp only[List.flatMap_cons,List.flatMap_nil,List.append_nil,jS,k5,Bo7]
def smZ(z:Zo):Prop:=z.sf.size<=60/\z.st.size<=60/\z.key.size<=60
theorem JX7{z:Zo}(h:smZ z):smZ (clZ z):=h
theorem Ia7{z:Zo}(h:smZ z):(r7 z).length<=261:=by obtain⟨h1,h2,h3⟩:=h;have a1:=AB7 z.id;have a2:=AB7 z.sf.size;have a3:=AB7 z.st.size;have a4:=DY7 z.own z.ep z.pend z.to;have a5:=AB7 z.key.size;have a6:=AB7 z.new;unfold r7 n5;simp only[jA,Az7];omega
theorem Ib7(z:Zo):ByB (r7 z):=Bh7 (BB7 _) (Bh7 (Dq7 _) (Bh7 (Dq7 _) (Bh7 (Ca7 BB7 _) (Bh7 (Dq7 _) (BB7 _)))))
theorem Ic7(m:Mp):ByB (F6 m):=Bh7 (Ca7 BB7 _) (Ca7 Ib7 _)
theorem BC7:∀{l:List Zo},(∀z∈l,smZ z)->(l.flatMap r7).length<=l.length*261
 | [],_=>by simp
 | z::l,h=>by
  have h1:=BC7 (l:=l) fun y hy=>h y (List.mem_cons_of_mem _ hy)
  have h2:=Ia7 (h z (List.mem_cons_self ..));rw[List.flatMap_cons,jA,jC];omega
theorem Id7{m:Mp}(h:∀z∈m.zs,smZ z)(hl:m.zs.length<=60):(F6 m).length<=20000:=by have h1:=BC7 h;have h2:=Do7 [m.ver,m.nxt,m.zs.length];unfold F6 k9;rw[jA];simp only[jC,List.length_nil]at h2;omega
theorem GP7{z:Zo}(h:smZ z)(r:List Int):∃r1 r2 r3 r4 r5,k6 (some (r7 z++r))=(clN z.id,some r1)/\B8 (some r1)=(w9 z.sf,some r2)/\B8 (some r2)=(w9 z.st,some r3) /\
  k5 4 (some r3)=([clN z.own,clN z.ep,clN z.pend,clN z.to],some r4)/\B8 (some r4)=(w9 z.key,some r5)/\k6 (some r5)=(clN z.new,some r):=by
 obtain⟨h1,h2,h3⟩:=h;unfold r7;simp only[jS];exact⟨_,_,_,_,_,Bo7 ..,Bs7 _ (by omega) _,Bs7 _ (by omega) _,EE7 ..,Bs7 _ (by omega) _,Bo7 ..⟩
theorem GQ7(m:Mp):∃r1,k5 2 (some (F6 m))=([clN m.ver,clN m.nxt],some r1)/\k6 (some r1)=(clN m.zs.length,some (m.zs.flatMap r7)):=by unfold F6 k9;simp only[List.flatMap_cons,List.flatMap_nil,List.append_nil,jS];exact⟨_,by simp only[k5,Bo7],Bo7 ..⟩
theorem JY7{m:Mp}(h:p7 m):clM m=m:=by
 obtain⟨h1,h2,h3,h4,_,h5,_⟩:=h
 have hz:∀z∈m.zs,clZ z=z:=fun z hz=>by
  obtain⟨i,hi,rfl⟩:=List.getElem_of_mem hz;obtain⟨⟨g1,g2,g3,g4,g5,g6,g7⟩,hp⟩:=h5 i hi
  have hto:0<=m.zs[i].pend/\m.zs[i].pend<=3/\0<=m.zs[i].to/\m.zs[i].to<=1048576/\0<=m.zs[i].new/\m.zs[i].new<=1099511627776:=by
   rcases hp with ⟨e,a,b,c⟩|⟨e,⟨a,b,c,d,_⟩,_⟩|⟨e,a,b,k,hk,hf,_⟩|⟨e,a,b,c,d,f⟩
   ·omega
   ·omega
   ·have hk1:=(h5 k hk).1
    rcases Aw7 m.zs m.zs[i].new with ⟨q1,_⟩|⟨j,hj,q1,q2,_⟩
    ·omega
    ·have:j=k:=by omega
     subst this;have:=hk1.1;have:=hk1.2.1;omega
   ·omega
  obtain⟨p1,p2,p3,p4,p5,p6⟩:=hto;unfold clZ;rw[Bi7 (n:=m.zs[i].id) (by omega) (by omega),Bi7 (n:=m.zs[i].own) (by omega) (by omega),Bi7 (n:=m.zs[i].ep) (by omega) (by omega),Bi7 (n:=m.zs[i].pend) (by omega) (by omega),Bi7 (n:=m.zs[i].to) (by omega) (by omega),Bi7 (n:=m.zs[i].new) (by omega) (by omega)]
 unfold clM;rw[Bi7 (by omega) (by omega),Bi7 (by omega) (by omega),List.map_congr_left hz,List.map_id']
def M7:List Zo->ByteArray->ByteArray->Bool
 | [],f,t=>spB f t&&(p8 f&&p8 t)
 | z::l,f,t=>spB f t&&(spB z.sf z.st&&(!p8 t&&(decide (t=z.sf)&&M7 l f z.st)))
theorem Dr7{u:ByteArray}:p8 u=true↔u=⟨#[]⟩:=by
 obtain⟨⟨l⟩⟩:=u;unfold p8
 cases l <;> simp[ByteArray.size]
theorem Jm7{f t:ByteArray}(h:spB f t=true):spB ⟨#[]⟩ t=true:=by
 unfold spB at h ⊢;simp only[jB,Bool.or_eq_true,decide_eq_true_eq]at h ⊢;refine⟨by decide,h.2.1,?_⟩;by_cases h0:p8 t=true
 ·exact .inl h0
 ·exact .inr (IW7 (by unfold p8 at h0;simp only[decide_eq_true_eq]at h0;omega))
theorem Fl7:∀(l:List Zo) (f t:ByteArray),M7 l f t=true↔p8 f=true/\spB f t=true/\C8 l t false=true
 | [],f,t=>by
  rw[M7,C8];simp only[jB,Bool.not_false,true_and];constructor
  ·rintro⟨a,b,c⟩;exact⟨b,a,c⟩
  ·rintro⟨a,b,c⟩;exact⟨b,a,c⟩
 | z::l,f,t=>by
  rw[M7,C8];simp only[jB,Bool.false_or,decide_eq_true_eq,Fl7 l f z.st];constructor
  ·rintro⟨a,b,c,d,e1,e2,e3⟩;exact⟨e1,a,b,d.symm,c,e3⟩
  ·rintro⟨a,b,c,d,e1,e2⟩;refine⟨b,c,e1,d.symm,a,?_,e2⟩;rw[Dr7.1 a];exact Jm7 c
theorem FJ7(z:Zo)(l:List Zo):C8 (z::l) ⟨#[]⟩ true=M7 l z.sf z.st:=by
 rw[Bool.eq_iff_iff,Fl7,C8];simp only[jB,Bool.true_or,true_and,decide_eq_true_eq];constructor
 ·rintro⟨a,b,c⟩;exact⟨Dr7.2 b,a,c⟩
 ·rintro⟨a,b,c⟩;exact⟨b,Dr7.1 a,c⟩
theorem Ie7{L:List HP}{S S':Nat->Bool}{h:t7}(hs:∀b,S' b=true->S b=true)(h1:sats L (f8 S h)):sats L (f8 S' h):=by
 refine AW7 (S:=S) ?_
 have:f8 S (f8 S' h)=f8 S h:=by
  funext b
  simp only[f8]
  cases hb:S' b with
  | false=>rfl
  | true=>rw[hs b hb];rfl
 rw[this];exact h1
theorem St.rebase{W w w':World}{L A:List HP}(h:St W L w)(h1:St w (A++[Old w]) w'):St W (A++L) w':=by
 refine⟨h1.os.trans h.os,h1.tape.trans h.tape,h1.output.trans h.output,?_⟩;have h2:sats (Old w::A) (fun b=>w'.heap[b]?):=Be7 (List.perm_append_comm (l₁:=A) (l₂:=[Old w])) h1.sat
 obtain⟨S,hO,hA⟩:=h2;refine Be7 (List.perm_append_comm (l₁:=L) (l₂:=A)) ?_
 have hin:k7 (fun b=>S b&&decide (b<w.heap.size)) (fun b=>w'.heap[b]?)=fun b=>w.heap[b]? := by
  funext b
  simp only[k7];by_cases hb:b<w.heap.size
  ·have:=hO b hb;simp only[k7]at this;rw[decide_eq_true hb,Bool.and_true];exact this
  ·rw[decide_eq_false hb,Bool.and_false];show none=_
   rw[Array.getElem?_eq_none (by omega)]
 have hA2:sats A (f8 (fun b=>S b&&decide (b<w.heap.size)) (fun b=>w'.heap[b]?)):=Ie7 (fun b hb=>by rw[jB]at hb;exact hb.1) hA;have h3:sats ([sats L]++A) (fun b=>w'.heap[b]?):=⟨_,by rw[hin];exact h.sat,hA2⟩
 exact Be7 (List.perm_append_comm (l₁:=A) (l₂:=L)) (Bw7.2 (Be7 (List.perm_append_comm (l₁:=[sats L]) (l₂:=A)) h3))
theorem St.sliceV{α:Type}{enc:α->List Value}{k:Nat}(henc:∀x,(enc x).length=k){W w:World}{L:List HP}{v:Value}{T:TypeId}{xs:List α}(h:St W (row v k T xs.length (xs.flatMap enc)::L) w):d6 enc k w v xs:=by
 rcases h.rowOpen with ⟨rfl,h0,_⟩|⟨g,cap,junk,rfl,hn1,hm1,_,_,hS⟩
 ·exact⟨none,0,by rw[h0],by omega,fun i hi=>absurd hi (by omega)⟩
 ·refine⟨some ⟨g,0,none⟩,cap,rfl,by unfold maxLen at hm1;omega,fun i hi=>⟨g,0,rfl,fun j u hj=>?_⟩⟩;have hl:j<k:=by have:=(List.getElem?_eq_some_iff.1 hj).1;rwa [henc]at this
  rw[Nat.zero_add];exact hS.cell .head (by rw[AX7 henc xs junk i hi j hl];exact hj)
theorem d6.old{α:Type}{enc:α->List Value}{k:Nat}{V W w:World}{L:List HP}{v:Value}{xs:List α}(h:d6 enc k V v xs)(hS:St W L w)(hm:Mem (Old V) L):d6 enc k w v xs:=by obtain⟨a,cap,e,h1,h2⟩:=h;refine⟨a,cap,e,h1,fun i hi=>?_⟩;obtain⟨b,off,ea,hc⟩:=h2 i hi;exact⟨b,off,ea,fun j u hj=>hS.oldCell hm (hc j u hj)⟩
section
variable{P:Program}{ops:Array Oper}{Q:Exit->Act->World->Prop}{a:Act}{w:World}{rest:List Oper}{o:Oper}
end
def aw4{α:Type}(enc:α->List Value)(k:Nat)(w:World)(v:Value)(xss:List (List α)):Prop:=
 ∃ps:List (Value×List α),xss=ps.map (·.2)/\d6 (fun p:Value×List α=>[p.1]) 1 w v ps/\∀p∈ps,d6 enc k w p.1 p.2
theorem aw4.old{α:Type}{enc:α->List Value}{k:Nat}{V W w:World}{L:List HP}{v:Value}{xss:List (List α)}(h:aw4 enc k V v xss)(hS:St W L w)(hm:Mem (Old V) L):aw4 enc k w v xss:=by obtain⟨ps,e,h1,h2⟩:=h;exact⟨ps,e,h1.old hS hm,fun p hp=>(h2 p hp).old hS hm⟩
end Go.Proofs.YtjcfifkjbaffnaaGreat
end
