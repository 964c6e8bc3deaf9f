/-
  The program's Reader.
-/
import Derived.Test.YtlmhakmoioogaaaGreatEconDcM4
import Derived.Test.YtlmhakmoioogaaaGreatEconDcM28
import Derived.Laws.Shifts
set_option maxHeartbeats 16000000
set_option maxRecDepth 100000
set_option linter.unusedSimpArgs false
set_option linter.unusedVariables false
section
namespace Go.Proofs.YtlmhakmoioogaaaGreat
open Go.RowKit Go.Sl
def aS4(k u:Nat)(s:List Int):Option (Nat×List Int):=
 if k=9 then none else
 match aE4 (8-k) (decide (k=0)) s with
 | none=>none
 | some (v,r)=>if u+v*2^(7*k)<=4611686018427387904 then some (u+v*2^(7*k),r)else none
theorem OR7(s:List Int):bJ4 s=aS4 0 0 s:=by
 unfold bJ4 aS4;rw[if_neg (by decide)]
 show _=match aE4 8 true s with
  | none=>none
  | some (v,r)=>if 0+v*2^0<=4611686018427387904 then some (0+v*2^0,r)else none
 cases aE4 8 true s with
 | none=>rfl
 | some x=>
  obtain⟨v,r⟩:=x;simp
theorem KU7(u:Nat)(s:List Int):aS4 9 u s=none:=rfl
theorem JP7(k u:Nat):aS4 k u []=none:=by unfold aS4;rw[QF7];split <;> rfl
theorem HT7{k u:Nat}{s:List Int}(hk:0<k):aS4 k u (0::s)=none:=by
 unfold aS4;split
 ·rfl
 ·rw[HR7 (by decide),if_pos ⟨by simp;omega,rfl⟩]
theorem HU7{k u x:Nat}{s:List Int}(hk:k<=8)(hx:x<128)(hz:k=0\/x≠0):aS4 k u ((x:Int)::s)=if u+x*2^(7*k)<=4611686018427387904 then some (u+x*2^(7*k),s)else none:=by
 unfold aS4;rw[if_neg (by omega),HR7 (by omega),if_neg]
 ·simp
 ·rintro⟨h1,h2⟩
  rcases hz with h3|h3
  ·rw[h3]at h1;cases h1
  ·omega
theorem HV7{k u x:Nat}{s:List Int}(hk:k<=8)(hx:128<=x)(hx2:x<=255):aS4 k u ((x:Int)::s)=aS4 (k+1) (u+x%128*2^(7*k)) s:=by
 have e0:(((x:Int)-128).toNat)=x%128:=by omega
 by_cases h8:k=8
 ·subst h8;rw[KU7];unfold aS4;rw[if_neg (by omega),OP7 (by omega)]
 ·unfold aS4;rw[if_neg (by omega),if_neg (by omega)];obtain⟨f,hf⟩:∃f,8-k=f+1:=⟨8-k-1,by omega⟩
  have hf2:8-(k+1)=f:=by omega
  have hz:decide (k+1=0)=false:=by simp
  rw[hf,hf2,hz,QG7 (by omega)]
  cases aE4 f false s with
  | none=>rfl
  | some y=>
   obtain⟨v,r⟩:=y;dsimp only
   have e1:u+((x:Int)-128).toNat*2^(7*k)+128*v*2^(7*k)=u+x%128*2^(7*k)+v*2^(7*(k+1)):=by
    have e2:7*(k+1)=7*k+7:=by omega
    rw[e0,e2,Nat.pow_add];have:128*v*2^(7*k)=v*(2^(7*k)*2^7):=by rw[Nat.mul_comm 128 v,Nat.mul_assoc,Nat.mul_comm 128]
    omega
   have e3:u+(((x:Int)-128).toNat+128*v)*2^(7*k)=u+x%128*2^(7*k)+v*2^(7*(k+1)):=by rw[Nat.add_mul,<-Nat.add_assoc];exact e1
   rw[e3]
theorem Su7:∀v:Fin 256,bits .and .u8 ((v.val:Nat):Int) 127=((v.val%128:Nat):Int):=by decide +kernel
theorem Me7{x:Nat}(h:x<=255):bits .and .u8 (x:Int) 127=((x%128:Nat):Int):=Su7 ⟨x,by omega⟩
theorem gC4{k:Nat}(hk:k<=9):2^(7*k)<=9223372036854775808:=by have:2^(7*k)<=2^63:=Nat.pow_le_pow_right (by decide) (by omega);exact this
theorem OS7{u x k:Nat}(hk:k<=9)(hu:u<2^(7*k))(hx:x%128*2^(7*k)<18446744073709551616):
  bits .or .u64 (u:Int) ((x%128*2^(7*k):Nat):Int)=((u+x%128*2^(7*k):Nat):Int):=by
 have h1:=gC4 hk;rw[bits_or_u64_nat u _ (by omega) hx,Tz7 hu]
theorem OT7{u x k:Nat}(hu:u<2^(7*k)):u+x%128*2^(7*k)<2^(7*(k+1)):=by
 have h1:2^(7*(k+1))=128*2^(7*k):=by rw[show 7*(k+1)=7*k+7 from by omega,Nat.pow_add,Nat.mul_comm]
 have h2:x%128*2^(7*k)<=127*2^(7*k):=Nat.mul_le_mul_right _ (by omega);omega
def NgR(W:World)(L:List HP)(l:List Int)(v3 v13:Value)(w:World):Prop:=
 ∃(k u:Nat),v3=.int .u64 u/\v13=.I k/\k<=l.length/\k<=9/\u<2^(7*k)/\bJ4 l=aS4 k u (l.drop k)/\St W L w
theorem CC7{l:List Int}(h:bJ4 l=none):d8 (some l)=(0,none):=by unfold d8;simp only;rw[h]
theorem Mf7{l r:List Int}{u:Nat}(h:bJ4 l=some (u,r)):d8 (some l)=((u:Int),some r):=by unfold d8;simp only;rw[h]
theorem Iy7{u x k:Nat}(hk:k<=8)(hu:u<2^(7*k))(hx:x<=255):
  bits .or .u64 (u:Int) (IntKind.u64.wrap (IntKind.u64.wrap (bits .and .u8 (x:Int) 127)*2^(7*k)))=((u+x%128*2^(7*k):Nat):Int):=by
 have h1:2^(7*k)<=72057594037927936:=by have:2^(7*k)<=2^56:=Nat.pow_le_pow_right (by decide) (by omega);exact this
 have h2:x%128*2^(7*k)<=127*72057594037927936:=Nat.mul_le_mul (by omega) h1
 have e:IntKind.u64.wrap (IntKind.u64.wrap (bits .and .u8 (x:Int) 127)*2^(7*k))=((x%128*2^(7*k):Nat):Int):=by
  rw[Me7 hx,IntKind.wrap_u64,IntKind.wrap_u64];have e1:(((x%128:Nat):Int)%18446744073709551616)=((x%128:Nat):Int):=by omega
  rw[e1];have e2:((x%128:Nat):Int)*2^(7*k)=((x%128*2^(7*k):Nat):Int):=by push_cast;rfl
  rw[e2];omega
 rw[e];exact OS7 (by omega) hu (by omega)
theorem Iz7{D:HP}{g off c m:Nat}{l:List Int}(hD:Dat D g off l)(hm:m<=l.length)(hc:l.length<=c)(hM:c<=9223372036854775807):
  rdV D (.slice (if c=m then some ⟨g,off,none⟩else some ⟨g,off+m,none⟩) (l.length-m) (c-m)) false (some (l.drop m)):=by
 have hld:(l.drop m).length=l.length-m:=List.length_drop ..;refine⟨rfl,_,_,by rw[hld],by rw[hld];omega,by omega,?_⟩;by_cases h:c=m
 ·exact .inr (.inl ⟨List.eq_nil_of_length_eq_zero (by rw[hld];omega),_,if_pos h⟩)
 ·exact .inr (.inr ⟨g,off+m,if_neg h,hD.drop m⟩)
theorem dF4(D:HP)(rb:Nat)(s:RS)(hb:BS s)(hl:∀l,s=some l->l.length<=100000000)(W w:World)(R R':List HP)(ht:Take R D R')(hS:St W (rdG D rb s::R) w):
  Calls Tryz.prog 154 #[.P rb] w fun e w'=>e=.returned (.I (d8 s).1)/\St W (rdG D rb (d8 s).2::R) w':=by
 cases s with
 | none=>
  rw[Ax7];obtain⟨v0,e0,hv,hS1⟩:=B9 hS;clear hS hl hb;obtain⟨rfl,rfl⟩:=hv;have hS:=hS1;clear hS1;go_enter Tryz.func154,Tryz.ntmps154;go_wp2_with(first|refine zl1 hS ?_)
  go_loopw [13] (fun v13 wr=>v13=.I 0/\St W (blk rb [.slice none 0 0,.bool true] 211::R) wr) (fun _ _=>0)
  case atStart=>exact⟨rfl,hS⟩
  case round=>
   clear hS;obtain⟨rfl,hS⟩:=hrel;go_wp2_with(first|go_at_call 197;refine(bH4 D rb none W _ _ (j7 ⟨rfl,rfl⟩ hS)).mono ?_;clear hS;rintro e w ⟨rfl,hS⟩);go_ret;exact⟨rfl,hS⟩
 | some l=>
  have hll:=hl l rfl;have hbl:=hb l rfl;clear hl hb;obtain⟨v0,e0,hv,hS1⟩:=B9 hS;clear hS;have hS:=hS1;clear hS1;obtain⟨a0,c0,rfl,rfl,Hv⟩:=ad4 hv;clear hv;have Hb:=jH hbl;clear hbl;go_enter Tryz.func154,Tryz.ntmps154;go_wp2_with(first|refine zl1 hS ?_)
  go_loopw [3,13] (fun v3 v13 wr=>NgR W (blk rb [.slice a0 l.length c0,.bool false] 211::R) l v3 v13 wr) (fun _ v13 _=>l.length-(intOf v13).toNat)
  case atStart=>exact⟨0,0,rfl,rfl,Nat.zero_le _,by decide,by decide,OR7 l,hS⟩
  case round=>
   clear hS;obtain⟨k,u,rfl,rfl,hkl,hk9,hu,hnum,hS⟩:=hrel;by_cases hin:k=l.length
   ·have hn:d8 (some l)=(0,none):=CC7 (by rw[hnum,hin,List.drop_length,JP7]);have Hn:=jH hn;clear hn hnum hu;go_wp2_with(first|go_at_call 197;refine(bH4 D rb (some l) W _ _ (j7 Hv.out hS)).mono ?_;clear hS;rintro e w ⟨rfl,hS⟩);go_ret;exact⟨by rw[Hn.out];rfl,by rw[Hn.out];exact hS⟩
   ·have hk1:k<l.length:=by omega
    have hat:=BG7 Hv.out;have hcap:=De7 Hv.out
    rcases hat with ⟨rfl,_,_⟩|⟨rfl,_⟩|⟨g,off,rfl,hD⟩
    ·simp at hk1
    ·simp at hk1
    ·have hx:=Hb.out l[k] (jW hk1);have hdr:l.drop k=l[k]::l.drop (k+1):=List.drop_eq_getElem_cons hk1;have hxc:(u8s l)[k]? = some (.int .u8 l[k]):=by unfold u8s;rw[List.getElem?_map,jG hk1];rfl
     rw[hdr]at hnum;clear hdr;generalize l[k]=c at hx hxc hnum;obtain⟨x,rfl⟩:∃x:Nat,c=x:=⟨c.toNat,by omega⟩
     have hx255:x<=255:=by omega
     clear hx hin hkl;by_cases h9:k=9
     ·rw[h9,KU7]at hnum;have Hn:=jH (CC7 hnum);have hd9:decide (9<=(k:Int))=true:=by simp;omega
      clear hnum hu h9;go_wp2_with(first|refine zl1 hS ?_ (hc:=by exact hD _ _ ht.tail k _ hxc)|go_at_call 197;refine(bH4 D rb (some l) W _ _ (j7 Hv.out hS)).mono ?_;clear hS;rintro e w ⟨rfl,hS⟩);go_ret;exact⟨by rw[Hn.out];rfl,by rw[Hn.out];exact hS⟩
     ·have hk8:k<=8:=by omega
      have hd9:decide (9<=(k:Int))=false:=by simp;omega
      clear h9 hk9;by_cases hz:0<k/\x=0
      ·obtain⟨hk0,hx0⟩:=hz;rw[hx0]at hnum;have Hn:=jH (CC7 (hnum.trans (HT7 hk0)));have hd0:decide (0<(k:Int))=true:=by simp;omega
       have hdx:((x:Int)==0)=true:=by simp;omega
       clear hnum hu hx0;go_wp2_with(first|refine zl1 hS ?_ (hc:=by exact hD _ _ ht.tail k _ hxc)|go_at_call 197;refine(bH4 D rb (some l) W _ _ (j7 Hv.out hS)).mono ?_;clear hS;rintro e w ⟨rfl,hS⟩);go_ret;exact⟨by rw[Hn.out];rfl,by rw[Hn.out];exact hS⟩
      ·by_cases hx128:x<128
       ·rw[HU7 hk8 hx128 (by omega)]at hnum;have hd1:decide ((x:Int)<128)=true:=by simp;omega
        have hor:=Iy7 hk8 hu hx255;have hx2:x%128=x:=Nat.mod_eq_of_lt hx128;rw[hx2]at hor;clear hx2 hu;generalize u+x*2^(7*k)=u1 at hor hnum;by_cases hbig:u1<=4611686018427387904
        ·rw[if_pos hbig]at hnum;have Hn:=jH (Mf7 hnum);have hd2:decide (4611686018427387904<((u1:Nat):Int))=false:=by simp;omega
         clear hnum;by_cases hk0:0<k
         ·have hd0:decide (0<(k:Int))=true:=by simp;omega
          have hdx:((x:Int)==0)=false:=by simp;omega
          go_wp2_with(first|refine zl1 hS ?_ (hc:=by exact hD _ _ ht.tail k _ hxc)|refine zl1 hS ?_|refine zs1 hS ?_;clear hS;intro w hS)
          all_goals go_ret
          all_goals exact⟨by rw[Hn.out];rfl,by rw[Hn.out];exact j7 (Iz7 hD (by omega) hcap.1 hcap.2) hS⟩
         ·have hd0:decide (0<(k:Int))=false:=by simp;omega
          go_wp2_with(first|refine zl1 hS ?_ (hc:=by exact hD _ _ ht.tail k _ hxc)|refine zl1 hS ?_|refine zs1 hS ?_;clear hS;intro w hS)
          all_goals go_ret
          all_goals exact⟨by rw[Hn.out];rfl,by rw[Hn.out];exact j7 (Iz7 hD (by omega) hcap.1 hcap.2) hS⟩
        ·rw[if_neg hbig]at hnum;have Hn:=jH (CC7 hnum);have hd2:decide (4611686018427387904<((u1:Nat):Int))=true:=by simp;omega
         clear hnum;by_cases hk0:0<k
         ·have hd0:decide (0<(k:Int))=true:=by simp;omega
          have hdx:((x:Int)==0)=false:=by simp;omega
          go_wp2_with(first|refine zl1 hS ?_ (hc:=by exact hD _ _ ht.tail k _ hxc)|go_at_call 197;refine(bH4 D rb (some l) W _ _ (j7 Hv.out hS)).mono ?_;clear hS;rintro e w ⟨rfl,hS⟩);go_ret;exact⟨by rw[Hn.out];rfl,by rw[Hn.out];exact hS⟩
         ·have hd0:decide (0<(k:Int))=false:=by simp;omega
          go_wp2_with(first|refine zl1 hS ?_ (hc:=by exact hD _ _ ht.tail k _ hxc)|go_at_call 197;refine(bH4 D rb (some l) W _ _ (j7 Hv.out hS)).mono ?_;clear hS;rintro e w ⟨rfl,hS⟩);go_ret;exact⟨by rw[Hn.out];rfl,by rw[Hn.out];exact hS⟩
       ·rw[HV7 hk8 (by omega) hx255]at hnum;have hd1:decide ((x:Int)<128)=false:=by simp;omega
        have hor:=Iy7 hk8 hu hx255;have hlt:=OT7 (x:=x) hu;clear hu;generalize u+x%128*2^(7*k)=u1 at hor hnum hlt;have Hq:=jH hnum;clear hnum;by_cases hk0:0<k
        ·have hd0:decide (0<(k:Int))=true:=by simp;omega
         have hdx:((x:Int)==0)=false:=by simp;omega
         go_wp2_with(first|refine zl1 hS ?_ (hc:=by exact hD _ _ ht.tail k _ hxc));go_roundw
         case rel=>exact⟨k+1,u1,rfl,rfl,by omega,by omega,hlt,Hq.out,hS⟩
         case measure=>simp[intOf];omega
        ·have hd0:decide (0<(k:Int))=false:=by simp;omega
         go_wp2_with(first|refine zl1 hS ?_ (hc:=by exact hD _ _ ht.tail k _ hxc));go_roundw
         case rel=>exact⟨k+1,u1,rfl,rfl,by omega,by omega,hlt,Hq.out,hS⟩
         case measure=>simp[intOf];omega
theorem Mg7{s:RS}(hb:BS s):BS (d8 s).2:=by
 cases s with
 | none=>exact hb
 | some l=>
  intro r hr;exact(CT7 (hb l rfl) (show d8 (some l)=((d8 (some l)).1,some r)by rw[<-hr])).2.2.2
theorem DR7{s:RS}(hb:BS s){l r:List Int}(hl:s=some l)(hr:(d8 s).2=some r):r.length<=l.length:=by subst hl;have h:=(CT7 (hb l rfl) (show d8 (some l)=((d8 (some l)).1,some r)by rw[<-hr])).1;have h2:=congrArg List.length h;rw[jA]at h2;omega
theorem At7(s:RS):0<=(d8 s).1/\(d8 s).1<=4611686018427387904:=by
 cases s with
 | none=>exact⟨Int.le_refl _,by decide⟩
 | some l=>
  unfold d8;simp only
  cases h:bJ4 l with
  | none=>exact⟨Int.le_refl _,by decide⟩
  | some x=>
   obtain⟨u,r⟩:=x;unfold bJ4 at h;split at h
   ·cases h
   ·split at h
    ·cases h
     exact⟨by simp,by simp only;omega⟩
    ·cases h
structure RdOk(s:RS):Prop where
 b:BS s
 l:∀l,s=some l->l.length<=100000000
theorem RdOk.num{s:RS}(h:RdOk s):RdOk (d8 s).2:=⟨Mg7 h.b,fun r hr=>by
 cases s with
 | none=>cases hr
 | some l=>exact Nat.le_trans (DR7 h.b rfl hr) (h.l l rfl)⟩
theorem RdOk.raw{s:RS}(h:RdOk s)(n:Int):RdOk (S8 n s).2:=by
 cases s with
 | none=>exact h
 | some l=>
  unfold S8;simp only;split
  ·refine⟨fun r hr=>?_,fun r hr=>?_⟩
   ·cases hr;exact Iw7 (h.b l rfl) _
   ·cases hr
    have:=h.l l rfl;rw[List.length_drop];omega
  ·exact⟨fun r hr=>(by cases hr),fun r hr=>(by cases hr)⟩
theorem RdOk.bytes{s:RS}(h:RdOk s):RdOk (j5 s).2:=h.num.raw _
theorem QK7(D:HP)(rb:Nat)(s:RS)(h:RdOk s)(W w:World)(R R':List HP)(ht:Take R D R')(hS:St W (rdG D rb s::R) w):
  Calls Tryz.prog 151 #[.P rb] w fun e w'=>∃v,e=.returned v/\St W (byR v (j5 s).1::rdG D rb (j5 s).2::R) w':=by
 have hr:=At7 s;have H1:=jH h;clear h;go_enter Tryz.func151,Tryz.ntmps151;go_wp2_with(first|go_at_call 154;refine(dF4 D rb s H1.out.b H1.out.l W _ _ _ ht hS).mono ?_;clear hS;rintro e w ⟨rfl,hS⟩|go_at_call 195;refine(TA7 D rb (d8 s).2 (d8 s).1 ⟨by omega,by omega⟩ H1.out.num.l W _ _ _ ht hS).mono ?_;clear hS;rintro e w ⟨v,rfl,hS⟩);go_ret;exact⟨_,rfl,hS⟩
structure Into(F:List Int->List HP)(D:HP)(ps:List (Nat×Nat)):Prop where
 st:∀(xs:List Int) (x:Int), ∀h:xs.length<ps.length, ∃l T,l.length<=100/\(ps[xs.length]).2<l.length/\Upd (F xs) (blk (ps[xs.length]).1 l T) (blk (ps[xs.length]).1 (l.set (ps[xs.length]).2 (.I x)) T) (F (xs++[x]))
 dat:∀xs, ∃R',Take (F xs) D R'
theorem HW7:∀(k:Nat) (s:RS),(w6 k s).1.length=k
 | 0,_=>rfl
 | k+1,s=>by rw[w6,jC,HW7]
theorem Hc7:∀(k:Nat) (s:RS),w6 (k+1) s=((w6 k s).1++[(d8 (w6 k s).2).1],(d8 (w6 k s).2).2)
 | 0,s=>rfl
 | k+1,s=>by rw[w6,Hc7 k];rfl
theorem RdOk.nums:∀(k:Nat) {s:RS},RdOk s->RdOk (w6 k s).2
 | 0,_,h=>h
 | k+1,_,h=>RdOk.nums k h.num
def pV(p:Nat×Nat):Value:=.pointer (some ⟨p.1,p.2,none⟩)
def NpR(W:World)(F:List Int->List HP)(D:HP)(rb:Nat)(s:RS)(n:Nat)(v:Value)(w:World):Prop:=
 ∃i:Nat,v=.I i/\i<=n/\St W (rdG D rb (w6 i s).2::F (w6 i s).1) w
theorem Mh7(D:HP)(rb:Nat)(s:RS)(hr:RdOk s)(ps:List (Nat×Nat))(hl:ps.length<=100)(g c:Nat)(F:List Int->List HP)(hF:Into F D ps)(hg:∀xs i, ∀h:i<ps.length,e8 (F xs) g i (pV ps[i]))(W w:World)(hS:St W (rdG D rb s::F []) w):
  Calls Tryz.prog 196 #[.P rb,.S g ps.length c] w fun e w'=>e=.returned (.tuple #[])/\St W (rdG D rb (w6 ps.length s).2::F (w6 ps.length s).1) w':=by
 have HR:=jH hr;have HF:=jH hF;have HG:=jH hg;clear hr hF hg;go_enter Tryz.func196,Tryz.ntmps196;go_wp2_with(fail)
 go_loopw [9] (fun v wr=>NpR W F D rb s ps.length v wr) (fun v _=>ps.length-(intOf v).toNat)
 case atStart=>exact⟨0,rfl,Nat.zero_le _,hS⟩
 case round=>
  clear hS;obtain⟨i,rfl,hil,hS⟩:=hrel;by_cases hin:i=ps.length
  ·have Hi:=jH hin;clear hil;go_wp2_with(fail);go_end0;refine⟨rfl,?_⟩;rw[<-Hi.out];exact hS
  ·have hi1:i<ps.length:=by omega
   have hlen:(w6 i s).1.length=i:=HW7 i s;have hpx:=HG.out (w6 i s).1 i hi1;obtain⟨R',ht⟩:=HF.out.dat (w6 i s).1;obtain⟨l,T,h100,hoff,hup⟩:=HF.out.st (w6 i s).1 (d8 (w6 i s).2).1 (by rw[hlen];exact hi1);simp only[hlen]at hoff hup;have hst:=Hc7 i s;have hr2:=HR.out.nums i;generalize w6 i s=q at *;obtain⟨xs,s2⟩:=q;simp only at hlen hpx ht hup hst hr2 hS;generalize ps[i]=p at hpx hoff hup;obtain⟨pb,poff⟩:=p;unfold pV at hpx;simp only at hpx hoff hup;have Hst:=jH hst;clear hst hin hil;go_wp2_with(first|refine zl1 hS ?_ (hc:=by exact e8.there hpx)|go_at_call 154;refine(dF4 D rb s2 hr2.b hr2.l W _ _ _ ht hS).mono ?_;clear hS;rintro e w ⟨rfl,hS⟩|((with_reducible apply Hr7 hS);rfl;rfl;rfl;rfl;kernel_rfl;rfl;rfl;exact Upd.tail hup;(focus omega);rfl;clear hS;intro w hS;try(refine frS ?_)));go_roundw
   case rel=>exact⟨i+1,rfl,hi1,by rw[Hst.out];exact hS⟩
   case measure=>simp[intOf];omega
abbrev rdX:=rdR 156
theorem D7(D:HP)(rb:Nat)(s:RS)(W w:World)(R:List HP)(hS:St W (rdX D rb s::R) w):
  Calls Tryz.prog 99 #[.P rb] w fun e w'=>e=.returned (.tuple #[])/\St W (rdX D rb none::R) w':=by
 obtain⟨v0,e0,hv,hS1⟩:=B9 hS;clear hS;have hS:=hS1;clear hS1;go_enter Tryz.func99,Tryz.ntmps99;go_wp2_with(first|go_big_skip|refine zs1 hS ?_;clear hS;intro w hS);go_end0;exact⟨rfl,j7 ⟨rfl,rfl⟩ hS⟩
theorem AT7(D:HP)(rb:Nat)(s:RS)(W w:World)(R:List HP)(hS:St W (rdX D rb s::R) w):
  Calls Tryz.prog 100 #[.P rb] w fun e w'=>e=.returned (.bool (ar4 s))/\St W (rdX D rb s::R) w':=by
 cases s with
 | none=>
  obtain⟨v0,e0,⟨rfl,rfl⟩,hS⟩:=B9 hS;go_enter Tryz.func100,Tryz.ntmps100;go_wp2_with(first|go_big_skip|refine zl1 hS ?_);go_ret;exact⟨rfl,j7 ⟨rfl,rfl⟩ hS⟩
 | some l=>
  obtain⟨v0,e0,hv,hS1⟩:=B9 hS;clear hS;have hS:=hS1;clear hS1;obtain⟨a0,c0,rfl,rfl,Hv⟩:=ad4 hv;clear hv
  cases l with
  | nil=>
   go_enter Tryz.func100,Tryz.ntmps100;go_wp2_with(first|go_big_skip|refine zl1 hS ?_);go_ret;exact⟨rfl,j7 Hv.out hS⟩
  | cons x t=>
   have h0:decide (((x::t).length:Int)=0)=false:=by simp;omega
   go_enter Tryz.func100,Tryz.ntmps100;go_wp2_with(first|go_big_skip|refine zl1 hS ?_);go_ret;refine⟨?_,j7 Hv.out hS⟩;simp[ar4]
   try omega
theorem QL7{W w:World}{v:Value}{l:List Int}{R:List HP}{n:Nat}(hn:n=l.length)(h:St W (row v 1 5 (0+n) ([]++u8s l)::R) w):St W (byR v l::R) w:=by subst hn;rw[jN,Nat.zero_add]at h;exact h
theorem fV4{W w:World}{a:Option Addr}{c m:Nat}{cs:List Value}{T:TypeId}{R:List HP}(h:St W (row (.slice a (0+m) c) 1 T (0+m) ([]++cs)::R) w):St W (row (.slice a m c) 1 T m cs::R) w:=by rw[jN,Nat.zero_add]at h;exact h
theorem dG4(D:HP)(rb:Nat)(s:RS)(n:Int)(hn : -9223372036854775808<=n/\n<=9223372036854775807)(hl:∀l,s=some l->l.length<=100000000)(W w:World)(R R':List HP)(ht:Take R D R')(hS:St W (rdX D rb s::R) w):
  Calls Tryz.prog 161 #[.P rb,.I n] w fun e w'=>∃v,e=.returned v/\St W (byR v (S8 n s).1::rdX D rb (S8 n s).2::R) w':=by
 cases s with
 | none=>
  rw[Fs7];obtain⟨v0,e0,hv,hS1⟩:=B9 hS;clear hS hl;obtain⟨rfl,rfl⟩:=hv;have hS:=hS1;clear hS1;by_cases hlo:n<0
  ·go_enter Tryz.func161,Tryz.ntmps161;go_wp2_with(first|go_big_skip|refine zl1 hS ?_|go_at_call 99;refine(D7 D rb none W _ _ (j7 ⟨rfl,rfl⟩ hS)).mono ?_;clear hS;rintro e w ⟨rfl,hS1⟩;obtain⟨v1,e1,⟨rfl,rfl⟩,hS⟩:=B9 hS1;clear hS1);go_ret;exact⟨_,rfl,St.rowNil (j7 ⟨rfl,rfl⟩ hS)⟩
  ·by_cases hhi:0<n
   ·go_enter Tryz.func161,Tryz.ntmps161;go_wp2_with(first|go_big_skip|refine zl1 hS ?_|go_at_call 99;refine(D7 D rb none W _ _ (j7 ⟨rfl,rfl⟩ hS)).mono ?_;clear hS;rintro e w ⟨rfl,hS1⟩;obtain⟨v1,e1,⟨rfl,rfl⟩,hS⟩:=B9 hS1;clear hS1);go_ret;exact⟨_,rfl,St.rowNil (j7 ⟨rfl,rfl⟩ hS)⟩
   ·obtain rfl:n=0:=by omega
    clear hlo hhi hn;go_enter Tryz.func161,Tryz.ntmps161;go_wp2_with(first|go_big_skip|refine zl1 hS ?_|go_at_call 99;refine(D7 D rb none W _ _ (j7 ⟨rfl,rfl⟩ hS)).mono ?_;clear hS;rintro e w ⟨rfl,hS1⟩;obtain⟨v1,e1,⟨rfl,rfl⟩,hS⟩:=B9 hS1;clear hS1);go_ret;exact⟨_,rfl,St.rowNil (j7 ⟨rfl,rfl⟩ hS)⟩
 | some l=>
  have hll:=hl l rfl;clear hl;obtain⟨v0,e0,hv,hS1⟩:=B9 hS;clear hS;have hS:=hS1;clear hS1;obtain⟨a0,c0,rfl,rfl,Hv⟩:=ad4 hv;clear hv;by_cases hlo:n<0
  ·rw[eH4 (by omega)];go_enter Tryz.func161,Tryz.ntmps161;go_wp2_with(first|go_big_skip|refine zl1 hS ?_|go_at_call 99;refine(D7 D rb (some l) W _ _ (j7 Hv.out hS)).mono ?_;clear hS;rintro e w ⟨rfl,hS1⟩;obtain⟨v1,e1,⟨rfl,rfl⟩,hS⟩:=B9 hS1;clear hS1);go_ret;exact⟨_,rfl,St.rowNil (j7 ⟨rfl,rfl⟩ hS)⟩
  ·obtain⟨m,rfl⟩:∃m:Nat,n=m:=⟨n.toNat,by omega⟩
   by_cases hhi:m<=l.length
   ·rw[fU4 hhi];have hsl:=BG7 Hv.out;obtain⟨hcl,hcm⟩:=De7 Hv.out;have hmc:m<=c0:=by omega
    have hd:decide ((l.length:Int)<(m:Int))=false:=by simp;omega
    rcases hsl with ⟨rfl,rfl,rfl⟩|⟨rfl,p,rfl⟩|⟨g,off,rfl,hD⟩
    ·obtain rfl:m=0:=by simpa using hhi
     go_enter Tryz.func161,Tryz.ntmps161;go_wp2_with(first|go_big_skip|refine zl1 hS ?_|(with_reducible apply Ct7 (n:=0) hS);rfl;rfl;(focus(simp only[fD,fI,fJ,Act.eval,fE,fF,fG,fH,fK];try rfl));exact esS;exact rsS;rfl;rfl;rfl;rfl;rfl;decide;clear hS;intro bv w hS;refine frS ?_|(with_reducible apply Aj7 hS);rfl;rfl;rfl;rfl;exact esS;exact rsS;rfl;decide;exact g8;exact .inl ⟨rfl,rfl,rfl⟩;(focus(rfl));(first|exact Be7 _|rfl);(focus(unfold maxLen;omega));(focus(omega));clear hS;intro v w hS;(have hv:=hS.rowVal;obtain⟨va,vc,rfl⟩:=hv);refine frS ?_|refine zs1 hS ?_;clear hS;intro w hS);go_ret;exact⟨_,rfl,St.swap (j7 Hv.out (QL7 (l:=[]) rfl hS).swap)⟩
    ·obtain rfl:m=0:=by simpa using hhi
     by_cases hc0:c0=0
     ·subst hc0;go_enter Tryz.func161,Tryz.ntmps161;go_wp2_with(first|go_big_skip|refine zl1 hS ?_|(with_reducible apply Ct7 (n:=0) hS);rfl;rfl;(focus(simp only[fD,fI,fJ,Act.eval,fE,fF,fG,fH,fK];try rfl));exact esS;exact rsS;rfl;rfl;rfl;rfl;rfl;decide;clear hS;intro bv w hS;refine frS ?_|(with_reducible apply DQ7 hS);rfl;rfl;rfl;rfl;exact esS;exact rsS;exact g8;refine frS ?_|refine zs1 hS ?_;clear hS;intro w hS);go_ret;exact⟨_,rfl,St.swap (j7 Hv.out hS.swap)⟩
     ·go_enter Tryz.func161,Tryz.ntmps161;go_wp2_with(first|go_big_skip|refine zl1 hS ?_|(with_reducible apply Ct7 (n:=0) hS);rfl;rfl;(focus(simp only[fD,fI,fJ,Act.eval,fE,fF,fG,fH,fK];try rfl));exact esS;exact rsS;rfl;rfl;rfl;rfl;rfl;decide;clear hS;intro bv w hS;refine frS ?_|(with_reducible apply DQ7 hS);rfl;rfl;rfl;rfl;exact esS;exact rsS;exact g8;refine frS ?_|refine zs1 hS ?_;clear hS;intro w hS);go_ret;exact⟨_,rfl,St.swap (j7 (v:=.slice (some _) 0 c0) ⟨rfl,_,c0,rfl,Nat.zero_le _,hcm,.inr (.inl ⟨rfl,_,rfl⟩)⟩ hS.swap)⟩
    ·have hD1:=hD.take m;have hlm:(l.take m).length=m:=by rw[jT];omega
     have hsrc:Src R (.slice (some ⟨g,off,none⟩) m c0) m (u8s (l.take m)):=Src.mk (hD1 _ _ ht);go_enter Tryz.func161,Tryz.ntmps161;go_wp2_with(first|go_big_skip|refine zl1 hS ?_|(with_reducible apply Ct7 (n:=0) hS);rfl;rfl;(focus(simp only[fD,fI,fJ,Act.eval,fE,fF,fG,fH,fK];try rfl));exact esS;exact rsS;rfl;rfl;rfl;rfl;rfl;decide;clear hS;intro bv w hS;refine frS ?_|(with_reducible apply Aj7 hS);rfl;rfl;rfl;rfl;exact esS;exact rsS;rfl;decide;exact g8;exact hsrc.there.there;(focus(rw[AS7,Nat.mul_one,hlm]));(first|exact Be7 _|rfl);(focus(unfold maxLen;omega));(focus(omega));clear hS;intro v w hS;(have hv:=hS.rowVal;obtain⟨va,vc,rfl⟩:=hv);refine frS ?_|refine zs1 hS ?_;clear hS;intro w hS)
     all_goals go_ret
     all_goals exact⟨_,rfl,St.swap (j7 (Iz7 hD hhi hcl hcm) (AR7 hlm (fV4 (show St W (row (.slice va (0+m) vc) 1 _ (0+m) ([]++u8s (l.take m))::_) w from hS))).swap)⟩
   ·rw[eH4 (by omega)];have hd:decide ((l.length:Int)<(m:Int))=true:=by simp;omega
    go_enter Tryz.func161,Tryz.ntmps161;go_wp2_with(first|go_big_skip|refine zl1 hS ?_|go_at_call 99;refine(D7 D rb (some l) W _ _ (j7 Hv.out hS)).mono ?_;clear hS;rintro e w ⟨rfl,hS1⟩;obtain⟨v1,e1,⟨rfl,rfl⟩,hS⟩:=B9 hS1;clear hS1);go_ret;exact⟨_,rfl,St.rowNil (j7 ⟨rfl,rfl⟩ hS)⟩
def NxR(W:World)(D:HP)(rb:Nat)(L:List HP)(l:List Int)(v3 v4:Value)(w:World):Prop:=
 ∃(k u:Nat),v3=.int .u64 u/\v4=.I k/\k<=l.length/\k<=9/\u<2^(7*k)/\bJ4 l=aS4 k u (l.drop k)/\St W (rdX D rb (some (l.drop k))::L) w
theorem Sv7(x:Int)(t:List Int):S8 1 (some (x::t))=([x],some t):=by unfold S8;simp only;rw[if_pos ⟨by decide,by rw[jC];omega⟩];rfl
theorem QM7(D:HP)(rb:Nat)(W w:World)(R R':List HP)(ht:Take R D R')(hS:St W (rdX D rb (some [])::R) w):
  Calls Tryz.prog 161 #[.P rb,.I 1] w fun e w'=>∃v,e=.returned v/\St W (blk rb [.slice none 0 0,.bool true] 156::R) w':=by
 refine(dG4 D rb (some []) 1 ⟨by omega,by omega⟩ (fun l hl=>by cases hl;simp) W w R R' ht hS).mono ?_;rintro e w' ⟨v,rfl,hS⟩;obtain⟨v0,e0,⟨rfl,rfl⟩,hS⟩:=B9 hS.drop;exact⟨v,rfl,hS⟩
theorem Bs7(D:HP)(rb:Nat)(x:Int)(t:List Int)(hl:(x::t).length<=100000000)(W w:World)(R R':List HP)(ht:Take R D R')(hS:St W (rdX D rb (some (x::t))::R) w):
  Calls Tryz.prog 161 #[.P rb,.I 1] w fun e w'=>∃g c a1 c1,e=.returned (.S g 1 c)/\RowKit.Hid (rdV D (.slice a1 t.length c1) false (some t))/\St W (blk rb [.slice a1 t.length c1,.bool false] 156::byR (.S g 1 c) [x]::R) w':=by
 refine(dG4 D rb (some (x::t)) 1 ⟨by omega,by omega⟩ (fun l hl2=>by cases hl2;exact hl) W w R R' ht hS).mono ?_;rw[Sv7];rintro e w' ⟨v,rfl,hS⟩;obtain⟨a,c,rfl⟩:=hS.rowVal;obtain⟨⟨g,rfl⟩,_,_⟩:=St.rowAddr hS (by simp);obtain⟨v0,e0,hv,hS⟩:=B9 hS.swap;obtain⟨a1,c1,rfl,rfl,Hv⟩:=ad4 hv;exact⟨g,c,a1,c1,rfl,Hv,hS⟩
theorem OU7(a k:Nat):((a:Nat):Int)*2^k=((a*2^k:Nat):Int):=by rw[Int.natCast_mul,Int.natCast_pow];rfl
theorem QN7{u x k:Nat}(hk:k=9)(hu:u<2^(7*k))(hx:x<=1):
  bits .or .u64 (u:Int) (IntKind.u64.wrap (IntKind.u64.wrap (bits .and .u8 (x:Int) 127)*2^(7*k)))=((u+x*9223372036854775808:Nat):Int):=by
 have hp:2^(7*k)=9223372036854775808:=by rw[hk]
 have hm:x%128=x:=by omega
 have hb:x*9223372036854775808<18446744073709551616:=by omega
 have e:IntKind.u64.wrap (IntKind.u64.wrap (bits .and .u8 (x:Int) 127)*2^(7*k))=((x%128*2^(7*k):Nat):Int):=by
  rw[Me7 (by omega),IntKind.wrap_u64,IntKind.wrap_u64];have e1:(((x%128:Nat):Int)%18446744073709551616)=((x%128:Nat):Int):=by omega
  rw[e1,OU7,hp,hm];omega
 rw[e,OS7 (by omega) hu (by rw[hp,hm];exact hb),hp,hm]
theorem cL4(D:HP)(rb:Nat)(s:RS)(h:RdOk s)(W w:World)(R R':List HP)(ht:Take R D R')(hS:St W (rdX D rb s::R) w):
  Calls Tryz.prog 97 #[.P rb] w fun e w'=>e=.returned (.I (d8 s).1)/\St W (rdX D rb (d8 s).2::R) w':=by
 cases s with
 | none=>
  rw[Ax7];go_enter Tryz.func97,Tryz.ntmps97;go_wp2_with(first|go_big_skip)
  go_loopw [4] (fun v4 wr=>v4=.I 0/\St W (rdX D rb none::R) wr) (fun _ _=>0)
  case atStart=>exact⟨rfl,hS⟩
  case round=>
   clear hS;obtain⟨rfl,hS⟩:=hrel;go_wp2_with(first|go_big_skip|go_at_call 161;refine(dG4 D rb none 1 ⟨by omega,by omega⟩ (fun l hl=>by cases hl) W _ _ _ ht hS).mono ?_;clear hS;rintro e w ⟨v,rfl,hS0⟩;obtain⟨v1,e1,⟨rfl,rfl⟩,hS⟩:=B9 hS0.drop;clear hS0|refine zl1 hS ?_);go_ret;exact⟨rfl,j7 ⟨rfl,rfl⟩ hS⟩
 | some l=>
  have Hok:=jH h;clear h;go_enter Tryz.func97,Tryz.ntmps97;go_wp2_with(first|go_big_skip)
  go_loopw [3,4] (fun v3 v4 wr=>NxR W D rb R l v3 v4 wr) (fun _ v4 _=>10-(intOf v4).toNat)
  case atStart=>exact⟨0,0,rfl,rfl,Nat.zero_le _,by decide,by decide,OR7 l,hS⟩
  case round=>
   clear hS;obtain⟨k,u,rfl,rfl,hkl,hk9,hu,hnum,hS⟩:=hrel;by_cases hin:k=l.length
   ·rw[hin,List.drop_length]at hS;rw[hin,List.drop_length,JP7]at hnum;have Hn:=jH (CC7 hnum);clear hnum hu hin;have hd10:decide ((k:Int)<10)=true:=by simp;omega
    go_wp2_with(first|go_big_skip|go_at_call 161;refine(QM7 D rb W _ _ _ ht hS).mono ?_;clear hS;rintro e w ⟨v,rfl,hS⟩|refine zl1 hS ?_);go_ret;exact⟨by rw[Hn.out];rfl,by rw[Hn.out];exact j7 ⟨rfl,rfl⟩ hS⟩
   ·have hk1:k<l.length:=by omega
    have hdr:l.drop k=l[k]::l.drop (k+1):=List.drop_eq_getElem_cons hk1;have hx:=Hok.out.b l rfl l[k] (jW hk1);have hlt:(l[k]::l.drop (k+1)).length<=100000000:=by rw[<-hdr,List.length_drop];have:=Hok.out.l l rfl;omega
    have hd10:decide ((k:Int)<10)=true:=by simp;omega
    rw[hdr]at hnum hS;clear hdr;generalize l[k]=c at hx hnum hS hlt;generalize hl2:l.drop (k+1)=t at hnum hS hlt;obtain⟨x,rfl⟩:∃x:Nat,c=x:=⟨c.toNat,by omega⟩
    have hx255:x<=255:=by omega
    have Hl2:=jH hl2;clear hx hin hkl hl2;by_cases h9:k=9
    ·rw[h9,KU7]at hnum;have Hn:=jH (CC7 hnum);have hd9:((k:Int)==9)=true:=by simp;omega
     clear hnum;by_cases hx128:127<x
     ·have hd1:decide (127<(x:Int))=true:=by simp;omega
      clear h9
      (go_wp2_with(first|go_big_skip|go_at_call 161;refine(Bs7 D rb _ _ hlt W _ _ _ ht hS).mono ?_;clear hS;rintro e w ⟨g,c1,a1,c2,rfl,Hv,hS⟩|refine zl1 hS ?_ (hc:=by exact e8.there (e8.row (by decide) rfl))|refine zl1 hS ?_|go_at_call 99;refine(D7 D rb (some _) W _ _ (j7 Hv.out hS)).mono ?_;clear hS;rintro e w ⟨rfl,hS⟩);go_ret;exact⟨by rw[Hn.out];rfl,by rw[Hn.out];exact hS.s _⟩)
     ·have hd1:decide (127<(x:Int))=false:=by simp;omega
      by_cases hx1:1<x
      ·have hd2:decide (1<(x:Int))=true:=by simp;omega
       clear h9
       (go_wp2_with(first|go_big_skip|go_at_call 161;refine(Bs7 D rb _ _ hlt W _ _ _ ht hS).mono ?_;clear hS;rintro e w ⟨g,c1,a1,c2,rfl,Hv,hS⟩|refine zl1 hS ?_ (hc:=by exact e8.there (e8.row (by decide) rfl))|refine zl1 hS ?_|go_at_call 99;refine(D7 D rb (some _) W _ _ (j7 Hv.out hS)).mono ?_;clear hS;rintro e w ⟨rfl,hS⟩);go_ret;exact⟨by rw[Hn.out];rfl,by rw[Hn.out];exact hS.s _⟩)
      ·have hd2:decide (1<(x:Int))=false:=by simp;omega
       have hor:=QN7 h9 hu (by omega:x<=1);have hd0:decide (0<(k:Int))=true:=by simp;omega
       have hk0:0<k:=by omega
       clear h9 hu;by_cases hx0:x=0
       ·have hdx:((x:Int)==0)=true:=by simp;omega
        generalize u+x*9223372036854775808=u1 at hor;clear hx0 hx1
        (go_wp2_with(first|go_big_skip|go_at_call 161;refine(Bs7 D rb _ _ hlt W _ _ _ ht hS).mono ?_;clear hS;rintro e w ⟨g,c1,a1,c2,rfl,Hv,hS⟩|refine zl1 hS ?_ (hc:=by exact e8.there (e8.row (by decide) rfl))|refine zl1 hS ?_|go_at_call 99;refine(D7 D rb (some _) W _ _ (j7 Hv.out hS)).mono ?_;clear hS;rintro e w ⟨rfl,hS⟩);go_ret;exact⟨by rw[Hn.out];rfl,by rw[Hn.out];exact hS.s _⟩)
       ·have hdx:((x:Int)==0)=false:=by simp;omega
        have hbig:4611686018427387904<u+x*9223372036854775808:=by omega
        generalize u+x*9223372036854775808=u1 at hor hbig;have hd3:decide (4611686018427387904<((u1:Nat):Int))=true:=by simp;omega
        (go_wp2_with(first|go_big_skip|go_at_call 161;refine(Bs7 D rb _ _ hlt W _ _ _ ht hS).mono ?_;clear hS;rintro e w ⟨g,c1,a1,c2,rfl,Hv,hS⟩|refine zl1 hS ?_ (hc:=by exact e8.there (e8.row (by decide) rfl))|refine zl1 hS ?_|go_at_call 99;refine(D7 D rb (some _) W _ _ (j7 Hv.out hS)).mono ?_;clear hS;rintro e w ⟨rfl,hS⟩);go_ret;exact⟨by rw[Hn.out];rfl,by rw[Hn.out];exact hS.s _⟩)
    ·have hk8:k<=8:=by omega
     have hd9:((k:Int)==9)=false:=by simp;omega
     clear h9 hk9;by_cases hx128:x<128
     ·have hd1:decide (127<(x:Int))=false:=by simp;omega
      have hor:=Iy7 hk8 hu hx255;have hx2:x%128=x:=Nat.mod_eq_of_lt hx128;rw[hx2]at hor;clear hx2 hu;by_cases hz:0<k/\x=0
      ·obtain⟨hk0,hx0⟩:=hz;rw[hx0]at hnum;have Hn:=jH (CC7 (hnum.trans (HT7 hk0)));have hd0:decide (0<(k:Int))=true:=by simp;omega
       have hdx:((x:Int)==0)=true:=by simp;omega
       clear hnum hx0;generalize u+x*2^(7*k)=u1 at hor
       (go_wp2_with(first|go_big_skip|go_at_call 161;refine(Bs7 D rb _ _ hlt W _ _ _ ht hS).mono ?_;clear hS;rintro e w ⟨g,c1,a1,c2,rfl,Hv,hS⟩|refine zl1 hS ?_ (hc:=by exact e8.there (e8.row (by decide) rfl))|refine zl1 hS ?_|go_at_call 99;refine(D7 D rb (some _) W _ _ (j7 Hv.out hS)).mono ?_;clear hS;rintro e w ⟨rfl,hS⟩);go_ret;exact⟨by rw[Hn.out];rfl,by rw[Hn.out];exact hS.s _⟩)
      ·rw[HU7 hk8 hx128 (by omega)]at hnum;generalize u+x*2^(7*k)=u1 at hor hnum;by_cases hbig:u1<=4611686018427387904
       ·rw[if_pos hbig]at hnum;have Hn:=jH (Mf7 hnum);have hd2:decide (4611686018427387904<((u1:Nat):Int))=false:=by simp;omega
        clear hnum;by_cases hk0:0<k
        ·have hd0:decide (0<(k:Int))=true:=by simp;omega
         have hdx:((x:Int)==0)=false:=by simp;omega
         (go_wp2_with(first|go_big_skip|go_at_call 161;refine(Bs7 D rb _ _ hlt W _ _ _ ht hS).mono ?_;clear hS;rintro e w ⟨g,c1,a1,c2,rfl,Hv,hS⟩|refine zl1 hS ?_ (hc:=by exact e8.there (e8.row (by decide) rfl))|refine zl1 hS ?_);go_ret;exact⟨by rw[Hn.out];rfl,by rw[Hn.out];exact j7 Hv.out (hS.s _)⟩)
        ·have hd0:decide (0<(k:Int))=false:=by simp;omega
         (go_wp2_with(first|go_big_skip|go_at_call 161;refine(Bs7 D rb _ _ hlt W _ _ _ ht hS).mono ?_;clear hS;rintro e w ⟨g,c1,a1,c2,rfl,Hv,hS⟩|refine zl1 hS ?_ (hc:=by exact e8.there (e8.row (by decide) rfl))|refine zl1 hS ?_);go_ret;exact⟨by rw[Hn.out];rfl,by rw[Hn.out];exact j7 Hv.out (hS.s _)⟩)
       ·rw[if_neg hbig]at hnum;have Hn:=jH (CC7 hnum);have hd2:decide (4611686018427387904<((u1:Nat):Int))=true:=by simp;omega
        clear hnum;by_cases hk0:0<k
        ·have hd0:decide (0<(k:Int))=true:=by simp;omega
         have hdx:((x:Int)==0)=false:=by simp;omega
         (go_wp2_with(first|go_big_skip|go_at_call 161;refine(Bs7 D rb _ _ hlt W _ _ _ ht hS).mono ?_;clear hS;rintro e w ⟨g,c1,a1,c2,rfl,Hv,hS⟩|refine zl1 hS ?_ (hc:=by exact e8.there (e8.row (by decide) rfl))|refine zl1 hS ?_|go_at_call 99;refine(D7 D rb (some _) W _ _ (j7 Hv.out hS)).mono ?_;clear hS;rintro e w ⟨rfl,hS⟩);go_ret;exact⟨by rw[Hn.out];rfl,by rw[Hn.out];exact hS.s _⟩)
        ·have hd0:decide (0<(k:Int))=false:=by simp;omega
         (go_wp2_with(first|go_big_skip|go_at_call 161;refine(Bs7 D rb _ _ hlt W _ _ _ ht hS).mono ?_;clear hS;rintro e w ⟨g,c1,a1,c2,rfl,Hv,hS⟩|refine zl1 hS ?_ (hc:=by exact e8.there (e8.row (by decide) rfl))|refine zl1 hS ?_|go_at_call 99;refine(D7 D rb (some _) W _ _ (j7 Hv.out hS)).mono ?_;clear hS;rintro e w ⟨rfl,hS⟩);go_ret;exact⟨by rw[Hn.out];rfl,by rw[Hn.out];exact hS.s _⟩)
     ·rw[HV7 hk8 (by omega) hx255]at hnum;have hd1:decide (127<(x:Int))=true:=by simp;omega
      have hor:=Iy7 hk8 hu hx255;have hlt2:=OT7 (x:=x) hu;clear hu;generalize u+x%128*2^(7*k)=u1 at hor hnum hlt2;have Hq:=jH hnum;clear hnum;go_wp2_with(first|go_big_skip|go_at_call 161;refine(Bs7 D rb _ _ hlt W _ _ _ ht hS).mono ?_;clear hS;rintro e w ⟨g,c1,a1,c2,rfl,Hv,hS⟩|refine zl1 hS ?_ (hc:=by exact e8.there (e8.row (by decide) rfl))|refine zl1 hS ?_);go_roundw
      case rel=>exact⟨k+1,u1,rfl,rfl,by omega,by omega,hlt2,by rw[Hl2.out];exact Hq.out,by rw[Hl2.out];exact j7 Hv.out (hS.s _)⟩
      case measure=>simp[intOf];omega
end Go.Proofs.YtlmhakmoioogaaaGreat
end
