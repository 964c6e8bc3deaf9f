/-
  Whether each key has one zone.
-/
import Derived.Test.YtienbkdjkjbelaaGreatJuTM5
import Derived.Test.YtienbkdjkjbelaaGreatJuTM46
set_option maxHeartbeats 16000000
set_option maxRecDepth 100000
set_option linter.unusedSimpArgs false
set_option linter.unusedVariables false
section
namespace Go.Proofs.YtienbkdjkjbelaaGreat
open Go.RowKit Go.Sl
def bN4(ys:List Opn):List ByteArray:=(D6 ys ec0).vs.map (·.1)
def bG4(zs:List Zj)(k:ByteArray):Nat:=(zs.filter fun z=>inB z.sf z.st k).length
def cx4(zs:List Zj)(k:ByteArray):Bool:=decide (bG4 zs k=1)
def aq4(zs:List Zj)(yss:List (List Opn)):Bool:=yss.all fun ys=>(bN4 ys).all (cx4 zs)
theorem Nw7{zs:List Zj}{j:Nat}(h:j<zs.length)(k:ByteArray):bG4 (zs.take (j+1)) k=bG4 (zs.take j) k+(if inB zs[j].sf zs[j].st k=true then 1 else 0):=by
 unfold bG4;rw[List.take_succ_eq_append_getElem h,List.filter_append,jA]
 congr 1
 by_cases hb:inB zs[j].sf zs[j].st k=true
 ·rw[if_pos hb,List.filter_cons,if_pos hb];rfl
 ·rw[if_neg hb,List.filter_cons,if_neg hb];rfl
theorem Nx7(zs:List Zj)(k:ByteArray):bG4 zs k<=zs.length:=List.length_filter_le _ _
theorem Kd7{zs:List Zj}{ps:List (Nat×List Opn)}{p:Nat×List Opn}{k:ByteArray}(hp:p∈ps)(hk:k∈bN4 p.2)(h:cx4 zs k=false):aq4 zs (ps.map (·.2))=false:=by
 unfold aq4;rw[<-Bool.not_eq_true,List.all_eq_true];intro hall;have h1:=hall p.2 (List.mem_map.2 ⟨p,hp,rfl⟩);rw[List.all_eq_true]at h1;rw[h1 k hk]at h
 cases h
theorem Ii7{zs:List Zj}{ps:List (Nat×List Opn)}(h:∀p∈ps, ∀k∈bN4 p.2,cx4 zs k=true):aq4 zs (ps.map (·.2))=true:=by unfold aq4;rw[List.all_eq_true];intro ys hy;obtain⟨p,hp,rfl⟩:=List.mem_map.1 hy;rw[List.all_eq_true];exact h p hp
theorem Pg7{ys:List Opn}(hlen:ys.length<=150){eb:Nat}{W w:World}{R:List HP}(hS:St W (ecP eb (l6 ys ec0)::R) w):
  Calls Tryz.prog 37 #[.P eb] w fun x w'=>∃v,x=.returned v/\St W (cd4 v (bN4 ys)::ecP eb (l6 ys ec0)::R) w':=by
 have hj:=CA7 ys;have hE:=FG7 ys;have hl:=hE.en.lv;have h:=Nb7 (eb:=eb) (fun x hx=>by have:=hE.en.vk x hx;unfold maxLen;omega) (by omega) W w R hS;rw[Rv7 hj.ok.sim]at h;exact h
theorem Ph7{ys:List Opn}(hlen:ys.length<=150){xb:Nat}{W w:World}{R:List HP}(hS:St W (s8 xb (D6 ys ec0)::R) w):
  Calls Tryz.prog 39 #[.P xb] w fun x w'=>∃v,x=.returned v/\St W (cd4 v (bN4 ys)::s8 xb (D6 ys ec0)::R) w':=by
 have hl:=(CA7 ys).ok.lv;exact QK7 (by omega) W w R hS
def Pj1(W:World)(L:List HP)(zs:List Zj)(ps:List (Nat×List Opn))(v:Value)(w:World):Prop:=
 ∃k:Nat,v=.I k/\k<=ps.length/\(∀p∈ps.take k, ∀x∈bN4 p.2,cx4 zs x=true)/\St W L w
def Pj2(W:World)(L:List HP)(zs:List Zj)(ks:List ByteArray)(v:Value)(w:World):Prop:=
 ∃i:Nat,v=.I i/\i<=ks.length/\(∀x∈ks.take i,cx4 zs x=true)/\St W L w
def Pj3(W:World)(L:List HP)(zs:List Zj)(key:ByteArray)(v9 v28:Value)(w:World):Prop:=
 ∃j:Nat,v28=.I j/\v9=.I (bG4 (zs.take j) key:Nat)/\j<=zs.length/\St W L w
theorem Jc7{ps:List (Nat×List Opn)}(hps:∀p∈ps,p.2.length<=150)(hn5:ps.length<=5){ver nxt:Int}{zs:List Zj}(hz60:zs.length<=60){za ua:Option Addr}{zc uc:Nat}{L:List HP}(hat:∀i (h:i<ps.length), ∃b off,ua=some ⟨b,off,none⟩/\i6 L b (off+i) (.pointer (some ⟨ps[i].1,0,none⟩)))
  (hzat:∀i (h:i<zs.length), ∃b off,za=some ⟨b,off,none⟩/\d8 L b (off+i*9) zs[i].cells) (W w:World) (hS:St W (k8 ecX ps::L) w):
  Calls Tryz.prog 19 #[.agg #[.I ver,.I nxt,.slice za zs.length zc],.slice ua ps.length uc] w fun e w'=>e=.returned (.bool (aq4 zs (ps.map (·.2))))/\St W (k8 ecX ps::L) w':=by
 have Hat:=jH hat
 have Hzat:=jH hzat
 have Hps:=jH hps;obtain⟨rb,hrb⟩:∃rb,aq4 zs (ps.map (·.2))=rb:=⟨_,rfl⟩
 have Hrb:=jH hrb;rw[hrb];clear hat hzat hps hrb;go_enter Tryz.func19,Tryz.ntmps19;go_wp2_with(first|go_big_skip|refine zbx hS ?_;clear hS;intro b2 w hS)
 go_loopw [14] (fun z1 wr=>Pj1 W (blk b2 [.I ver,.I nxt,.slice za zs.length zc] 58::k8 ecX ps::L) zs ps z1 wr) (fun z1 _=>ps.length-(intOf z1).toNat)
 case atStart=>exact⟨0,rfl,Nat.zero_le _,fun _ h=>(by cases h),hS⟩
 case round=>
  clear hS;obtain⟨k,rfl,hk,hdone,hS⟩:=hrel;by_cases hkl:k<ps.length
  ·have hd1:decide (k<ps.length)=true:=decide_eq_true hkl;obtain⟨ub,uoff,rfl,hA⟩:=Hat.out k hkl;have hmem:=jW hkl;have hys:=Hps.out ps[k] hmem;have htk:=List.take_succ_eq_append_getElem hkl;obtain⟨ps',hpp,hS0⟩:=bC4 hmem hS.drop;have hS0':=bC4 hmem (hS.s (k8 ecX ps::blk b2 [.I ver,.I nxt,.slice za zs.length zc] 58::L));clear hS0 hpp ps';obtain⟨ps',hpp,hS0⟩:=hS0';clear hS;generalize ps[k]=p at hA hmem hys htk hpp hS0;obtain⟨pb,ys⟩:=p;simp only at hA hys;have hS:St W (ecP pb (l6 ys ec0)::k8 ecX ps'::blk b2 [.I ver,.I nxt,.slice za zs.length zc] 58::L) _:=hS0;have hno:=fun x hx h=>Kd7 (zs:=zs) (k:=x) hmem hx h
   simp only at hno;have Hno:=jH hno;have Htk:=jH htk;have Hpp:=jH hpp;have Hdone:=jH hdone;clear hS0 htk hpp hdone hmem hk hno;obtain⟨ks,hks⟩:∃ks,bN4 ys=ks:=⟨_,rfl⟩
   have Hks:=jH hks;clear hks;go_wp2_with(first|go_big_skip|refine zl1 hS ?_ (hc:=by(repeat(first|exact hA|apply i6.there)))|go_at_call 37;refine(Pg7 hys hS).mono ?_;clear hS;rintro ex w ⟨vk,rfl,hS⟩;rw[Hks.out]at hS;obtain⟨ka,kc,rfl⟩:=hS.rowVal)
   go_loopw [21] (fun z1 wr=>Pj2 W (cd4 (.slice ka ks.length kc) ks::ecP pb (l6 ys ec0)::k8 ecX ps'::blk b2 [.I ver,.I nxt,.slice za zs.length zc] 58::L) zs ks z1 wr) (fun z1 _=>ks.length-(intOf z1).toNat)
   case atStart=>exact⟨0,rfl,Nat.zero_le _,fun _ h=>(by cases h),hS.s _⟩
   case round=>
    clear hS;obtain⟨i,rfl,hi,hkd,hS⟩:=hrel;by_cases hil:i<ks.length
    ·have hd2:decide (i<ks.length)=true:=decide_eq_true hil;obtain⟨⟨g,rfl⟩,_,_⟩:=St.rowAddr hS (by omega);have hky:∀{K K':List HP},Take K (cd4 (.S g ks.length kc) ks) K'->i6 K g i (eS ks[i]):=fun hu=>i6.rowM hu (by rw[List.getElem?_map,jG hil];rfl)
     have hkt:=List.take_succ_eq_append_getElem hil;have hno:=Hno.out ks[i] (by rw[Hks.out];exact jW hil);have Hkd:=jH hkd;have Hkt:=jH hkt;have Hn2:=jH hno;clear hkd hkt hno hi;have hkt2:=Hkt.out;generalize ks[i]=key at hky Hn2 hkt2;have Hkt2:=jH hkt2;clear Hkt hkt2;go_wp2_with(first|go_big_skip|refine zl1 hS ?_ (hc:=by exact hky (by exact i7))|refine zl1 hS ?_)
     go_loopw [9,28] (fun z1 z2 wr=>Pj3 W (cd4 (.S g ks.length kc) ks::ecP pb (l6 ys ec0)::k8 ecX ps'::blk b2 [.I ver,.I nxt,.slice za zs.length zc] 58::L) zs key z1 z2 wr) (fun _ z2 _=>zs.length-(intOf z2).toNat)
     case atStart=>exact⟨0,rfl,rfl,Nat.zero_le _,hS⟩
     case round=>
      clear hS;obtain⟨j,rfl,rfl,hj,hS⟩:=hrel;by_cases hjl:j<zs.length
      ·have hd3:decide (j<zs.length)=true:=decide_eq_true hjl;obtain⟨zb,zoff,rfl,hZ⟩:=Hzat.out j hjl;have hcn2:=Nw7 hjl key;have hcl:=Nx7 (zs.take j) key;have hcl2:(zs.take j).length<=j:=List.length_take_le _ _;generalize bG4 (zs.take j) key=c at hS hcn2 hcl;generalize zs[j]=z at hZ hcn2;obtain⟨z0,z1,z2,z3,z4,z5,z6,z7,z8⟩:=z;simp only[Zj.cells]at hZ;dsimp only at hcn2;have Hcn:=jH hcn2;have hc60:c<=60:=by omega
       clear hcn2 hcl hcl2 hj
       cases hin:inB z1 z2 key with
       | true=>
        have Hin:=jH hin;clear hin;go_wp2_with(first|go_big_skip|(fail_if_success (have:=gZ));refine zlN hS ?_ (vs:=[.I z0,.string z1,.string z2,.I z3,.I z4,.I z5,.I z6,.string z7,.I z8]) (hc:=by(repeat(first|exact hZ|apply d8.there)));have gZ:Nat:=0|refine zal hS ?_;clear hS;intro bA w hS|refine zsN hS ?_;clear hS;intro w hS|(have:=gZ);refine zlN hS ?_ (vs:=[.string z1,.string z2]) (hc:=by exact d8.here rfl)|go_at_call 38;refine(PE7 Hin.out W _ _ hS).mono ?_;clear hS;rintro ex w ⟨rfl,hS⟩|refine zl1 hS ?_);go_roundw
        case rel=>exact⟨j+1,rfl,by rw[Hcn.out,Hin.out];go_num,hjl,hS.s _⟩
        case measure=>simp[intOf];omega
       | false=>
        have Hin:=jH hin;clear hin;go_wp2_with(first|go_big_skip|(fail_if_success (have:=gZ));refine zlN hS ?_ (vs:=[.I z0,.string z1,.string z2,.I z3,.I z4,.I z5,.I z6,.string z7,.I z8]) (hc:=by(repeat(first|exact hZ|apply d8.there)));have gZ:Nat:=0|refine zal hS ?_;clear hS;intro bA w hS|refine zsN hS ?_;clear hS;intro w hS|(have:=gZ);refine zlN hS ?_ (vs:=[.string z1,.string z2]) (hc:=by exact d8.here rfl)|go_at_call 38;refine(PE7 Hin.out W _ _ hS).mono ?_;clear hS;rintro ex w ⟨rfl,hS⟩|refine zl1 hS ?_);go_roundw
        case rel=>exact⟨j+1,rfl,by rw[Hcn.out,Hin.out];rfl,hjl,hS.s _⟩
        case measure=>simp[intOf];omega
      ·have hd3:decide (j<zs.length)=false:=decide_eq_false hjl;have hj2:j=zs.length:=by omega
       rw[hj2,List.take_length];rw[hj2]at hd3;have hon:cx4 zs key=decide (bG4 zs key=1):=rfl;clear hj hjl hj2;by_cases h1:bG4 zs key=1
       ·have ho:cx4 zs key=true:=by rw[hon];exact decide_eq_true h1
        have Ho:=jH ho;have hne:(((bG4 zs key:Nat):Int) != 1)=false:=by rw[h1];rfl
        clear hon ho h1;go_wp2_with(first|go_big_skip);go_roundw
        case rel=>
         refine⟨i+1,rfl,hil,fun x hx=>?_,hS⟩;rw[Hkt2.out]at hx
         rcases List.mem_append.1 hx with hx|hx
         ·exact Hkd.out x hx
         ·rw[List.mem_singleton]at hx;subst hx;exact Ho.out
        case measure=>simp[intOf];omega
       ·have ho:cx4 zs key=false:=by rw[hon];exact decide_eq_false h1
        have hr:=Hn2.out ho;rw[Hrb.out]at hr;have hne:(((bG4 zs key:Nat):Int) != 1)=true:=by simp;omega
        have Hr:=jH hr;clear hon ho h1 hr;go_wp2_with(first|go_big_skip);go_ret;have h9:St W (ecX (pb,ys)::k8 ecX ps'::L) _:=hS.s (ecP pb (l6 ys ec0)::k8 ecX ps'::L);exact⟨by rw[Hr.out];rfl,bD4 Hpp.out h9⟩
    ·have hd2:decide (i<ks.length)=false:=decide_eq_false hil;have hi2:i=ks.length:=by omega
     rw[hi2,List.take_length]at hkd;have Hkd:=jH hkd;clear hi hil hi2 hkd;go_wp2_with(first|go_big_skip);go_roundw
     case rel=>
      have h9:St W (ecX (pb,ys)::k8 ecX ps'::blk b2 [.I ver,.I nxt,.slice za zs.length zc] 58::L) _:=hS.s (ecP pb (l6 ys ec0)::k8 ecX ps'::blk b2 [.I ver,.I nxt,.slice za zs.length zc] 58::L);refine⟨k+1,rfl,hkl,fun q hq=>?_,(bD4 Hpp.out h9).swap⟩;rw[Htk.out]at hq
      rcases List.mem_append.1 hq with hq|hq
      ·exact Hdone.out q hq
      ·rw[List.mem_singleton]at hq;subst hq;show ∀x∈bN4 ys,_
       rw[Hks.out];exact Hkd.out
     case measure=>simp[intOf];omega
  ·have hd1:decide (k<ps.length)=false:=decide_eq_false hkl;have hk2:k=ps.length:=by omega
   rw[hk2,List.take_length]at hdone;have hy:=Ii7 hdone;rw[Hrb.out]at hy;clear hdone hk hk2 hkl;go_wp2_with(first|go_big_skip);go_ret;exact⟨by rw[hy];rfl,hS.drop⟩
theorem Jd7{ps:List (Nat×List Opn)}(hps:∀p∈ps,p.2.length<=150)(hn5:ps.length<=5){ver nxt:Int}{zs:List Zj}(hz60:zs.length<=60){za ua:Option Addr}{zc uc:Nat}{L:List HP}(hat:∀i (h:i<ps.length), ∃b off,ua=some ⟨b,off,none⟩/\i6 L b (off+i) (.pointer (some ⟨ps[i].1,0,none⟩)))
  (hzat:∀i (h:i<zs.length), ∃b off,za=some ⟨b,off,none⟩/\d8 L b (off+i*9) zs[i].cells) (W w:World) (hS:St W (k8 w7 ps::L) w):
  Calls Tryz.prog 20 #[.agg #[.I ver,.I nxt,.slice za zs.length zc],.slice ua ps.length uc] w fun e w'=>e=.returned (.bool (aq4 zs (ps.map (·.2))))/\St W (k8 w7 ps::L) w':=by
 have Hat:=jH hat
 have Hzat:=jH hzat
 have Hps:=jH hps;obtain⟨rb,hrb⟩:∃rb,aq4 zs (ps.map (·.2))=rb:=⟨_,rfl⟩
 have Hrb:=jH hrb;rw[hrb];clear hat hzat hps hrb;go_enter Tryz.func20,Tryz.ntmps20;go_wp2_with(first|go_big_skip|refine zbx hS ?_;clear hS;intro b2 w hS)
 go_loopw [5] (fun z1 wr=>Pj1 W (blk b2 [.I ver,.I nxt,.slice za zs.length zc] 58::k8 w7 ps::L) zs ps z1 wr) (fun z1 _=>ps.length-(intOf z1).toNat)
 case atStart=>exact⟨0,rfl,Nat.zero_le _,fun _ h=>(by cases h),hS⟩
 case round=>
  clear hS;obtain⟨k,rfl,hk,hdone,hS⟩:=hrel;by_cases hkl:k<ps.length
  ·have hd1:decide (k<ps.length)=true:=decide_eq_true hkl;obtain⟨ub,uoff,rfl,hA⟩:=Hat.out k hkl;have hmem:=jW hkl;have hys:=Hps.out ps[k] hmem;have htk:=List.take_succ_eq_append_getElem hkl;obtain⟨ps',hpp,hS0⟩:=bC4 hmem hS.drop;have hS0':=bC4 hmem (hS.s (k8 w7 ps::blk b2 [.I ver,.I nxt,.slice za zs.length zc] 58::L));clear hS0 hpp ps';obtain⟨ps',hpp,hS0⟩:=hS0';clear hS;generalize ps[k]=p at hA hmem hys htk hpp hS0;obtain⟨pb,ys⟩:=p;simp only at hA hys;have hS:St W (s8 pb (D6 ys ec0)::k8 w7 ps'::blk b2 [.I ver,.I nxt,.slice za zs.length zc] 58::L) _:=hS0;have hno:=fun x hx h=>Kd7 (zs:=zs) (k:=x) hmem hx h
   simp only at hno;have Hno:=jH hno;have Htk:=jH htk;have Hpp:=jH hpp;have Hdone:=jH hdone;clear hS0 htk hpp hdone hmem hk hno;obtain⟨ks,hks⟩:∃ks,bN4 ys=ks:=⟨_,rfl⟩
   have Hks:=jH hks;clear hks;go_wp2_with(first|go_big_skip|refine zl1 hS ?_ (hc:=by(repeat(first|exact hA|apply i6.there)))|go_at_call 39;refine(Ph7 hys hS).mono ?_;clear hS;rintro ex w ⟨vk,rfl,hS⟩;rw[Hks.out]at hS;obtain⟨ka,kc,rfl⟩:=hS.rowVal)
   go_loopw [7] (fun z1 wr=>Pj2 W (cd4 (.slice ka ks.length kc) ks::s8 pb (D6 ys ec0)::k8 w7 ps'::blk b2 [.I ver,.I nxt,.slice za zs.length zc] 58::L) zs ks z1 wr) (fun z1 _=>ks.length-(intOf z1).toNat)
   case atStart=>exact⟨0,rfl,Nat.zero_le _,fun _ h=>(by cases h),hS.s _⟩
   case round=>
    clear hS;obtain⟨i,rfl,hi,hkd,hS⟩:=hrel;by_cases hil:i<ks.length
    ·have hd2:decide (i<ks.length)=true:=decide_eq_true hil;obtain⟨⟨g,rfl⟩,_,_⟩:=St.rowAddr hS (by omega);have hky:∀{K K':List HP},Take K (cd4 (.S g ks.length kc) ks) K'->i6 K g i (eS ks[i]):=fun hu=>i6.rowM hu (by rw[List.getElem?_map,jG hil];rfl)
     have hkt:=List.take_succ_eq_append_getElem hil;have hno:=Hno.out ks[i] (by rw[Hks.out];exact jW hil);have Hkd:=jH hkd;have Hkt:=jH hkt;have Hn2:=jH hno;clear hkd hkt hno hi;have hkt2:=Hkt.out;generalize ks[i]=key at hky Hn2 hkt2;have Hkt2:=jH hkt2;clear Hkt hkt2;go_wp2_with(first|go_big_skip)
     go_loopw [8,9] (fun z1 z2 wr=>Pj3 W (cd4 (.S g ks.length kc) ks::s8 pb (D6 ys ec0)::k8 w7 ps'::blk b2 [.I ver,.I nxt,.slice za zs.length zc] 58::L) zs key z1 z2 wr) (fun _ z2 _=>zs.length-(intOf z2).toNat)
     case atStart=>exact⟨0,rfl,rfl,Nat.zero_le _,hS⟩
     case round=>
      clear hS;obtain⟨j,rfl,rfl,hj,hS⟩:=hrel;by_cases hjl:j<zs.length
      ·have hd3:decide (j<zs.length)=true:=decide_eq_true hjl;obtain⟨zb,zoff,rfl,hZ⟩:=Hzat.out j hjl;have hcn2:=Nw7 hjl key;have hcl:=Nx7 (zs.take j) key;have hcl2:(zs.take j).length<=j:=List.length_take_le _ _;generalize bG4 (zs.take j) key=c at hS hcn2 hcl;generalize zs[j]=z at hZ hcn2;obtain⟨z0,z1,z2,z3,z4,z5,z6,z7,z8⟩:=z;simp only[Zj.cells]at hZ
       have hZs:d8 L zb (zoff+j*9+1) [.string z1,.string z2]:=fun q v hq=>by
        have hql:=(List.getElem?_eq_some_iff.1 hq).1
        match q,hql with
        | 0,_=>cases hq;exact hZ 1 _ rfl
        | 1,_=>cases hq;exact hZ 2 _ rfl
       dsimp only at hcn2;have Hcn:=jH hcn2;have hc60:c<=60:=by omega
       clear hcn2 hcl hcl2 hj
       cases hin:inB z1 z2 key with
       | true=>
        have Hin:=jH hin;clear hin;go_wp2_with(first|go_big_skip|refine zl1 hS ?_);refine Aa7 (by kernel_rfl) (by kernel_rfl) hS ?_
        repeat(first|go_big_quiet_skip|refine zqN ?_ (vs:=[.string z1,.string z2]) (hc:=by(repeat(first|exact hZs|apply d8.there)))|refine zq1 ?_ (hc:=by exact hky (by exact i7))|refine zq1 ?_|apply At7;rfl;intro w;apply Ah7;rfl;decide +kernel;(focus(simp only[fD,fI,fJ,Act.eval,fE,fF,fG,fH,fK];try rfl));intro w hS;exact PF7 Hin.out W w _ hS;refine frS ?_|refine qR ?_)
        clear hS;intro w hS;go_wp2_with(first|go_big_skip);go_roundw
        case rel=>exact⟨j+1,rfl,by rw[Hcn.out,Hin.out];go_num,hjl,hS.s _⟩
        case measure=>simp[intOf];omega
       | false=>
        have Hin:=jH hin;clear hin;go_wp2_with(first|go_big_skip|refine zl1 hS ?_);refine Aa7 (by kernel_rfl) (by kernel_rfl) hS ?_
        repeat(first|go_big_quiet_skip|refine zqN ?_ (vs:=[.string z1,.string z2]) (hc:=by(repeat(first|exact hZs|apply d8.there)))|refine zq1 ?_ (hc:=by exact hky (by exact i7))|refine zq1 ?_|apply At7;rfl;intro w;apply Ah7;rfl;decide +kernel;(focus(simp only[fD,fI,fJ,Act.eval,fE,fF,fG,fH,fK];try rfl));intro w hS;exact PF7 Hin.out W w _ hS;refine frS ?_|refine qR ?_)
        clear hS;intro w hS;go_wp2_with(first|go_big_skip);go_roundw
        case rel=>exact⟨j+1,rfl,by rw[Hcn.out,Hin.out];rfl,hjl,hS.s _⟩
        case measure=>simp[intOf];omega
      ·have hd3:decide (j<zs.length)=false:=decide_eq_false hjl;have hj2:j=zs.length:=by omega
       rw[hj2,List.take_length];rw[hj2]at hd3;have hon:cx4 zs key=decide (bG4 zs key=1):=rfl;clear hj hjl hj2;by_cases h1:bG4 zs key=1
       ·have ho:cx4 zs key=true:=by rw[hon];exact decide_eq_true h1
        have Ho:=jH ho;have hne:(((bG4 zs key:Nat):Int) != 1)=false:=by rw[h1];rfl
        clear hon ho h1;go_wp2_with(first|go_big_skip|refine zl1 hS ?_);go_roundw
        case rel=>
         refine⟨i+1,rfl,hil,fun x hx=>?_,hS⟩;rw[Hkt2.out]at hx
         rcases List.mem_append.1 hx with hx|hx
         ·exact Hkd.out x hx
         ·rw[List.mem_singleton]at hx;subst hx;exact Ho.out
        case measure=>simp[intOf];omega
       ·have ho:cx4 zs key=false:=by rw[hon];exact decide_eq_false h1
        have hr:=Hn2.out ho;rw[Hrb.out]at hr;have hne:(((bG4 zs key:Nat):Int) != 1)=true:=by simp;omega
        have Hr:=jH hr;clear hon ho h1 hr;go_wp2_with(first|go_big_skip|refine zl1 hS ?_);go_ret;have h9:St W (w7 (pb,ys)::k8 w7 ps'::L) _:=hS.s (s8 pb (D6 ys ec0)::k8 w7 ps'::L);exact⟨by rw[Hr.out];rfl,bD4 Hpp.out h9⟩
    ·have hd2:decide (i<ks.length)=false:=decide_eq_false hil;have hi2:i=ks.length:=by omega
     rw[hi2,List.take_length]at hkd;have Hkd:=jH hkd;clear hi hil hi2 hkd;go_wp2_with(first|go_big_skip);go_roundw
     case rel=>
      have h9:St W (w7 (pb,ys)::k8 w7 ps'::blk b2 [.I ver,.I nxt,.slice za zs.length zc] 58::L) _:=hS.s (s8 pb (D6 ys ec0)::k8 w7 ps'::blk b2 [.I ver,.I nxt,.slice za zs.length zc] 58::L);refine⟨k+1,rfl,hkl,fun q hq=>?_,(bD4 Hpp.out h9).swap⟩;rw[Htk.out]at hq
      rcases List.mem_append.1 hq with hq|hq
      ·exact Hdone.out q hq
      ·rw[List.mem_singleton]at hq;subst hq;show ∀x∈bN4 ys,_
       rw[Hks.out];exact Hkd.out
     case measure=>simp[intOf];omega
  ·have hd1:decide (k<ps.length)=false:=decide_eq_false hkl;have hk2:k=ps.length:=by omega
   rw[hk2,List.take_length]at hdone;have hy:=Ii7 hdone;rw[Hrb.out]at hy;clear hdone hk hk2 hkl;go_wp2_with(first|go_big_skip);go_ret;exact⟨by rw[hy];rfl,hS.drop⟩
end Go.Proofs.YtienbkdjkjbelaaGreat
end
section
namespace Go.Sl
open Go.RowKit
theorem FJ7{P:Program}{w:World}(t ty e:TypeId)(i:TypeInfo)(ht:P.underlying t=some (.slice e))(hi:P.info? e=some i)(b:Option Addr)(n cap:Nat)(hn:n<=cap)(x:Option Addr)(c:Nat):
  (Builtin.append_ #[t,t] ty #[.slice b n cap,.slice x 0 c]).run P w=.ok (.slice b n cap) w:=by
 cases b with
 | none=>cases x <;> simp[Builtin.append_,run_underlying ht,sizeOf,typeInfo,hi,Builtin.lenOf,hn,Builtin.firstCells,loadCells,loadCellsFrom]
 | some p=>cases x <;> simp[Builtin.append_,run_underlying ht,sizeOf,typeInfo,hi,Builtin.lenOf,hn,Builtin.firstCells,storeCells,loadCells,loadCellsFrom]
section
variable{P:Program}{ops:Array Oper}{Q:Exit->Act->World->Prop}{a:Act}{w:World}{W:World}{L R:List HP}{rest:List Oper}{o:Oper}
theorem KZ7{s x:Operand}{t e:TypeId}{z:Value}{k bytes:Nat}{v:Value}{xa:Option Addr}{n c:Nat}{cs:List Value}(hS:St W L w)(ho:o.op=.call { callee:=.builtin .append,args:=#[s,x],argTypes:=#[t,t] })
  (hg:Region.wanted o (yielded ops a.tmps)=true) (hs:a.eval s=v) (hx:a.eval x=.slice xa 0 c) (ht:s5 P t=some e) (hi:A8 P e=some (some z,k,bytes)) (hu:Take L (row v k e n cs) R)
  (h:wpList P ops Q rest (a.put o.dst v) w):wpList P ops Q (o::rest) a w:=by
 have ht':=AY7 ht;unfold A8 at hi;obtain⟨i,hi',_⟩:=Option.map_eq_some_iff.1 hi
 have hv:∃(b:Option Addr) (cap:Nat),v=.slice b n cap/\n<=cap:=by
  rcases(hS.take hu).rowOpen with ⟨h1,h2,_⟩|⟨g,cap,_,h1,h2,_⟩
  ·exact⟨none,0,by rw[h1,h2],by omega⟩
  ·exact⟨some ⟨g,0,none⟩,cap,h1,h2⟩
 obtain⟨b,cap,rfl,hn⟩:=hv;refine Am7 hg (v:=.slice b n cap) (w':=w) ?_ h;unfold execOp;simp[ho,hs,hx,resolve,invoke,builtin,FJ7 t o.type e i ht' hi' b n cap hn xa c]
theorem La7{s x:Operand}{t e:TypeId}{z:Value}{k bytes:Nat}{v:Value}{ua:Option Addr}{n m c:Nat}{cs news:List Value}(hS:St W L w)(ho:o.op=.call { callee:=.builtin .append,args:=#[s,x],argTypes:=#[t,t] })
  (hg:Region.wanted o (yielded ops a.tmps)=true) (hs:a.eval s=v) (hx:a.eval x=.slice ua m c) (ht:s5 P t=some e) (hi:A8 P e=some (some z,k,bytes)) (hz:z.cells.size=k) (hk:0<k) (hu:Take L (row v k e n cs) R)
  (hsrc:(m=0/\news=[])\/Src L (.slice ua m c) m news) (hl:news.length=m*k) (h1:news.all (·.oneCell')=true) (h63:n+m<=maxLen) (hb:(n+m)*bytes<=140737488355328)
  (h:∀v' w',St W (row v' k e (n+m) (cs++news)::R) w'->wpList P ops Q rest (a.put o.dst v') w'):wpList P ops Q (o::rest) a w:=by
 rcases hsrc with ⟨rfl,rfl⟩|hsrc
 ·refine KZ7 hS ho hg hs hx ht hi hu (h v w ?_);rw[Nat.add_zero,List.append_nil];exact hS.take hu
 ·exact Ae7 hS ho hg hs hx ht hi hz hk hu hsrc hl h1 h63 hb h
end
end Go.Sl
namespace Go.Proofs.YtienbkdjkjbelaaGreat
open Go.RowKit Go.Sl
section
variable{W w:World}{L R R2:List HP}{b0:Nat}{x0:List Opn}{ps:List (Nat×List Opn)}{ua za:Option Addr}{uc zc:Nat}{f0 f1 f2 f3:Int}{fb:Bool}
theorem DR7(hx0:x0.length<=150)(hps:∀p∈ps,p.2.length<=150)(hn:ps.length<=5)(hf:al4 (aL4 x0 (ps.map (·.2)))=⟨f0,f1,f2,f3⟩)(hfb:(B5 (aL4 x0 (ps.map (·.2))) it0).isSome=fb)(h1:Take L (ecP b0 (l6 x0 ec0)) R)(h2:Take R (k8 ecX ps) R2)
  (hat:∀i (h:i<ps.length), ∃b off,ua=some ⟨b,off,none⟩/\i6 R2 b (off+i) (.pointer (some ⟨ps[i].1,0,none⟩))) (hS:St W L w):
  Calls Tryz.prog 17 #[.P b0,.slice ua ps.length uc] w fun e w'=>e=.returned (.tuple #[.agg #[.I f0,.I f1,.I f2,.I f3],.bool fb])/\St W L w':=by
 refine(Ja7 hx0 hps hn hat hf hfb W w ((hS.take h1).take (.tail h2)).swap).mono ?_;rintro e w' ⟨rfl,h⟩;exact⟨rfl,(h.swap.back (.tail h2)).back h1⟩
theorem DS7(hx0:x0.length<=150)(hps:∀p∈ps,p.2.length<=150)(hn:ps.length<=5)(hf:al4 (aL4 x0 (ps.map (·.2)))=⟨f0,f1,f2,f3⟩)(hfb:(B5 (aL4 x0 (ps.map (·.2))) it0).isSome=fb)(h1:Take L (s8 b0 (D6 x0 ec0)) R)(h2:Take R (k8 w7 ps) R2)
  (hat:∀i (h:i<ps.length), ∃b off,ua=some ⟨b,off,none⟩/\i6 R2 b (off+i) (.pointer (some ⟨ps[i].1,0,none⟩))) (hS:St W L w):
  Calls Tryz.prog 18 #[.P b0,.slice ua ps.length uc] w fun e w'=>e=.returned (.tuple #[.agg #[.I f0,.I f1,.I f2,.I f3],.bool fb])/\St W L w':=by
 refine(Ih7 hx0 hps hn hat hf hfb W w ((hS.take h1).take (.tail h2)).swap).mono ?_;rintro e w' ⟨rfl,h⟩;exact⟨rfl,(h.swap.back (.tail h2)).back h1⟩
variable{ver nxt:Int}{zs:List Zj}{pb:Bool}
theorem Au7(hps:∀p∈ps,p.2.length<=150)(hn:ps.length<=5)(hz60:zs.length<=60)(hpb:aq4 zs (ps.map (·.2))=pb)(h1:Take L (k8 ecX ps) R)
  (hat:∀i (h:i<ps.length), ∃b off,ua=some ⟨b,off,none⟩/\i6 R b (off+i) (.pointer (some ⟨ps[i].1,0,none⟩))) (hzat:∀i (h:i<zs.length), ∃b off,za=some ⟨b,off,none⟩/\d8 R b (off+i*9) zs[i].cells) (hS:St W L w):
  Calls Tryz.prog 19 #[.agg #[.I ver,.I nxt,.slice za zs.length zc],.slice ua ps.length uc] w fun e w'=>e=.returned (.bool pb)/\St W L w':=by
 refine(Jc7 hps hn hz60 hat hzat W w (hS.take h1)).mono ?_;rintro e w' ⟨rfl,h⟩;exact⟨by rw[hpb],h.back h1⟩
theorem Av7(hps:∀p∈ps,p.2.length<=150)(hn:ps.length<=5)(hz60:zs.length<=60)(hpb:aq4 zs (ps.map (·.2))=pb)(h1:Take L (k8 w7 ps) R)
  (hat:∀i (h:i<ps.length), ∃b off,ua=some ⟨b,off,none⟩/\i6 R b (off+i) (.pointer (some ⟨ps[i].1,0,none⟩))) (hzat:∀i (h:i<zs.length), ∃b off,za=some ⟨b,off,none⟩/\d8 R b (off+i*9) zs[i].cells) (hS:St W L w):
  Calls Tryz.prog 20 #[.agg #[.I ver,.I nxt,.slice za zs.length zc],.slice ua ps.length uc] w fun e w'=>e=.returned (.bool pb)/\St W L w':=by
 refine(Jd7 hps hn hz60 hat hzat W w (hS.take h1)).mono ?_;rintro e w' ⟨rfl,h⟩;exact⟨by rw[hpb],h.back h1⟩
end
theorem Pi7{yss:List (List Opn)}{u:Value}{W w:World}{L:List HP}(hu:at4 Opn.cells 12 w u yss)(hS:St W L w):
  Calls Tryz.prog 15 #[u] w fun e w'=>(e=.returned (.tuple #[.slice none 0 0,.slice none 0 0,.bool false])/\St W L w') \/
   ∃va vb es ds,e=.returned (.tuple #[va,vb,.bool true])/\es.map (·.2)=yss/\ds.map (·.2)=yss/\(∀p∈es,p.2.length<=150)/\yss.length<=5 /\
    St W (row va 1 66 es.length (es.flatMap ptC)::row vb 1 49 ds.length (ds.flatMap ptC)::k8 ecX es::k8 w7 ds::L) w':=by
 refine(KY7 hu w w [] (St.start w)).mono ?_;rintro e w' (⟨rfl,h⟩|⟨va,vb,es,ds,rfl,h1,h2,h3,h4,h⟩)
 ·exact .inl ⟨rfl,St.rebase (A:=[]) hS h⟩
 ·exact .inr ⟨va,vb,es,ds,rfl,h1,h2,h3,h4,St.rebase (A:=[_,_,_,_]) hS h⟩
theorem Ny7{ver nxt:Int}{zs:List Zj}{v:Value}{W w:World}{L:List HP}(hv:C8 Zj.cells 9 w v zs)(hS:St W L w):
  Calls Tryz.prog 16 #[.agg #[.I ver,.I nxt,v]] w fun e w'=>∃h:Bool,(h=false->zs.length<=60)/\e=.returned (.bool h)/\St W L w':=by
 refine(Jb7 hv w w [] (St.start w)).mono ?_;rintro e w' ⟨h,h1,rfl,h2⟩;exact⟨h,h1,rfl,St.rebase (A:=[]) hS h2⟩
theorem QQ7{T:TypeId}{v:Value}{qs:List (Value×List Opn)}{W w:World}{L:List HP}(h:St W (row v 1 T qs.length (qs.flatMap fun q=>[q.1])::L) w)(hq:∀q∈qs,C8 Opn.cells 12 w q.1 q.2):at4 Opn.cells 12 w v (qs.map (·.2)):=
 ⟨qs,rfl,St.sliceV (enc:=fun q:Value×List Opn=>[q.1]) (fun _=>rfl) h,hq⟩
end Go.Proofs.YtienbkdjkjbelaaGreat
end
