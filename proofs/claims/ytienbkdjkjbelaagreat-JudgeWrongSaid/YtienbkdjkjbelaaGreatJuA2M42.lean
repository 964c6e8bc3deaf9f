/-
  JudgeRight.
-/
import Derived.Test.YtienbkdjkjbelaaGreatJuA2M5
import Derived.Test.YtienbkdjkjbelaaGreatJuA2M41
set_option maxHeartbeats 16000000
set_option maxRecDepth 100000
set_option linter.unusedSimpArgs false
set_option linter.unusedVariables false
section
namespace Go.Proofs.YtienbkdjkjbelaaGreat
open Go.RowKit Go.Sl
def WrR(W:World)(L:List HP)(xs:List Opn)(v9 v10:Value)(w:World):Prop:=
 ∃i:Nat,v10=.I i/\i<=xs.length/\St W (row v9 18 38 ((m9 xs).take i).length (((m9 xs).take i).flatMap Ans.cells)::L) w
theorem IS7{xs:List Opn}{i:Nat}(h:i<xs.length):∃h2:i<(m9 xs).length,(m9 xs)[i]=⟨xs[i],(m7 (A5 (xs.take i) ec0) xs[i]).1⟩:=by
 have h2:i<(m9 xs).length:=by rw[CA7];exact h
 refine⟨h2,?_⟩;have:=Ln7 h;rw[jG h2]at this;exact Option.some.inj this
theorem Oq7{xs:List Opn}{n:Int}(h:TwI xs n)(hn:n<0):(∀i (hi:i<xs.length),at4 xs i hi=true)/\TwI xs (-1):=by
 rcases h with ⟨h1,h2⟩|⟨i,h1,_⟩
 ·exact⟨h2,.inl ⟨rfl,h2⟩⟩
 ·omega
theorem Or7(r:Int):IntKind.i64.wrap (r+1)≠r:=by rw[IntKind.wrap_i64];omega
theorem dq4{W w:World}{L:List HP}{g n c k:Nat}{T:TypeId}{cs:List Value}(h:St W (row (.S g n c) k T n cs::L) w):∃junk,n<=c/\c<=maxLen/\(cs++junk).length=c*k/\cs.length=n*k/\St W (blk g (cs++junk) T::L) w:=by
 rcases h.rowOpen with ⟨hv,_⟩|⟨g',cap,junk,hv,hn1,hm1,hj1,hl1,hS'⟩
 ·cases hv
 ·injection hv with e1 e2 e3
  injection e1 with e1
  injection e1 with e1
  subst e1 e3;exact⟨junk,hn1,hm1,hj1,hl1,hS'⟩
def WaR(W:World)(L:List HP)(ps:List (Value×List Ans))(v5 v6:Value)(w:World):Prop:=
 ∃(k:Nat) (qs:List (Value×List Ans)),v6=.I k/\k<=ps.length/\qs.map (·.2)=(ps.take k).map (·.2)/\(∀q∈qs,q.2.length<=60)/\St W (row v5 1 26 qs.length (qs.flatMap fun q=>[q.1])::bJ4 (bX4 39) qs::L) w
def gd4(W:World)(L:List HP)(l:List Ans)(v7 v8 v9:Value)(w:World):Prop:=
 ∃m:Nat,v9=.I m/\m<=l.length/\St W (row v7 12 31 (l.take m).length ((l.take m).flatMap fun a=>a.op.cells)::row v8 18 39 (l.take m).length ((l.take m).flatMap Ans.cells)::L) w
theorem w5.mapV{α β:Type}{f:α->β}{enc:β->List Value}{k:Nat}{w:World}{v:Value}{xs:List α}(h:w5 (fun a=>enc (f a)) k w v xs):w5 enc k w v (xs.map f):=by
 obtain⟨a,cap,e,h1,h2⟩:=h;refine⟨a,cap,by rw[jM];exact e,by rw[jM];exact h1,fun i hi=>?_⟩;have hi2:i<xs.length:=by simpa using hi
 obtain⟨b,off,ea,hc⟩:=h2 i hi2;exact⟨b,off,ea,fun j u hj=>hc j u (by simpa using hj)⟩
theorem Hs7:∀{qs:List (Value×List Ans)},(∀q∈qs,q.2.length<=60)->((qs.map (·.2)).flatten).length<=60*qs.length
 | [],_=>Nat.le_refl _
 | q::qs,h=>by
  have h1:=h q (List.mem_cons_self ..);have h2:=Hs7 fun x hx=>h x (List.mem_cons_of_mem q hx)
  rw[List.map_cons,List.flatten_cons,jA,jC];omega
theorem wrongJ_spec(xs:List Opn)(v u:Value)(V:World)(hv:w5 Opn.cells 12 V v xs){xss:List (List Ans)}(hu:aa4 Ans.cells 18 V u xss)(hby:∀x∈xss,x.length*176<=140737488351232)(W w:World)(Lr:List HP)(hS:St W (Old V::Lr) w):
  Calls Tryz.prog 3 #[v,u] w fun e w'=>e=.returned (.bool true)/\St W (Old V::Lr) w':=by
 have Hv:=jH hv;have Hu:=jH hu;obtain⟨ps,rfl,⟨ua,ucap,rfl,hu63,huc⟩,hpu⟩:=hu;have Huc:=jH huc;have Hpu:=jH hpu;have hby2:∀p∈ps,p.2.length*176<=140737488351232:=fun p hp=>hby _ (List.mem_map.2 ⟨p,hp,rfl⟩)
 have Hby:=jH hby2;have hpl:(ps.map (·.2)).length=ps.length:=jM ..;have Hpl:=jH hpl;clear hv huc hpu hby hby2 hpl;by_cases h10:10<ps.length
 ·have hd1:decide ((10:Int)<(ps.length:Int))=true:=by simp;omega
  go_enter Tryz.func3,Tryz.ntmps3;go_wp2_with(first|go_big_skip|(go_at_call 7;refine(Ej7 Hv.out W _ _ hS).mono ?_;clear hS;rintro e w ⟨hv9,h150,rfl,hS⟩;cases hv9))
  all_goals
   go_ret;exact⟨rfl,hS⟩
 have hd1:decide ((10:Int)<(ps.length:Int))=false:=by simp;omega
 go_enter Tryz.func3,Tryz.ntmps3;go_wp2_with(first|go_big_skip|(go_at_call 7;refine(Ej7 Hv.out W _ _ hS).mono ?_;clear hS;rintro e w ⟨hv9,h150,rfl,hS⟩;cases hv9))
 rotate_left
 ·go_ret;exact⟨rfl,hS⟩
 have hlen:xs.length<=150:=by first|exact h150 rfl|exact h150 trivial
 clear h150;have hS0:=(ep4 (bX4 39) hS).rowNil (k:=1) (T:=26);clear hS;have hS:=hS0;clear hS0
 go_loopw [5,6] (fun v1 v2 wr=>WaR W (Old V::Lr) ps v1 v2 wr) (fun _ v2 _=>ps.length-(intOf v2).toNat)
 case atStart=>exact⟨0,[],rfl,Nat.zero_le _,rfl,fun _ h=>(by cases h),hS⟩
 case round=>
  clear hS;obtain⟨k,qs,rfl,hk,hqs,hq60,hS⟩:=hrel;by_cases hkl:k<ps.length
  ·have hd2:decide (k<ps.length)=true:=decide_eq_true hkl;obtain⟨ub,uoff,rfl,hcell⟩:=Huc.out k hkl;have hc0:=hcell 0 _ rfl;obtain⟨la,lcap,hlv,hl63,hlc⟩:=Hpu.out ps[k] (jW hkl);have hb1:=Hby.out ps[k] (jW hkl);have hnx:(ps.take (k+1)).map (·.2)=qs.map (·.2)++[ps[k].2]:=by rw[hqs,List.take_succ_eq_append_getElem hkl,List.map_append];rfl
   have hql:qs.length=k:=by have:=congrArg List.length hqs;rw[jM,jM,jT]at this;omega
   generalize ps[k].2=l at hlv hlc hb1 hnx hl63;rw[hlv]at hc0
   have hc1:V.cell? ⟨ub,uoff+k,none⟩=some (.slice la l.length lcap):=by
    have e:uoff+k*1+0=uoff+k:=by omega
    rw[e]at hc0;exact hc0
   have hql1:qs.length<=k:=by omega
   have Hlc:=jH hlc;have Hnx:=jH hnx;have Hq60:=jH hq60;clear hlv hcell hc0 hlc hnx hqs hk hq60 hql;go_wp2_with(first|go_big_skip);have hS0:=(hS.rowNil (k:=18) (T:=39)).rowNil (k:=12) (T:=31);obtain⟨ma,mc,rfl⟩:=hS.rowVal;clear hS;have hS:=hS0;clear hS0
   go_loopw [7,8,9] (fun v1 v2 v3 wr=>gd4 W (row (.slice ma qs.length mc) 1 26 qs.length (qs.flatMap fun q=>[q.1])::bJ4 (bX4 39) qs::Old V::Lr) l v1 v2 v3 wr) (fun _ _ v3 _=>l.length-(intOf v3).toNat)
   case atStart=>exact⟨0,rfl,Nat.zero_le _,hS⟩
   case round=>
    clear hS;obtain⟨m,rfl,hm,hS⟩:=hrel;by_cases hml:m<l.length
    ·have hd3:decide (m<l.length)=true:=decide_eq_true hml;obtain⟨lb,loff,rfl,hall⟩:=Hlc.out m hml;have htk:=List.take_succ_eq_append_getElem hml;have hal:(l.take m).length=m:=by rw[jT];omega
     generalize l.take m=acc at hS htk hal;generalize l[m]=y at hall htk;obtain⟨⟨yk,yc,yq,ya,yw,yt,yu,yi,yn,yp,yb,yd⟩,⟨q0,q1,⟨q2,q3,q4,q5⟩⟩⟩:=y;simp only[Ans.cells,Opn.cells,Rpl.cells,It.cells,jK,jN]at hall
     have hopy:∀(j:Nat) (z:Value),([.I yk,.I yc,.I yq,.string ya,.string yw,.string yt,.string yu,.I yi,.I yn,.I yp,.bool yb,.I yd]:List Value)[j]? = some z->V.cell? ⟨lb,loff+m*18+j,none⟩=some z:=fun j z hj=>hall j z (by
      have hl:=(List.getElem?_eq_some_iff.1 hj).1
      match j,hl with
      | 0,_ | 1,_ | 2,_ | 3,_ | 4,_ | 5,_ | 6,_ | 7,_ | 8,_ | 9,_ | 10,_ | 11,_=>exact hj)
     have Htk:=jH htk;have a1:acc.length<=m:=by omega
     clear htk hal hm;go_wp2_with(first|go_big_skip|refine zl1 hS ?_ (hc:=by exact i6.old (by exact ab4) hc1)|(have:=gP);refine zlN hS ?_ (vs:=[.I yk,.I yc,.I yq,.string ya,.string yw,.string yt,.string yu,.I yi,.I yn,.I yp,.bool yb,.I yd,.I q0,.I q1,.I q2,.I q3,.I q4,.I q5]) (hc:=by exact d8.old (by exact ab4) hall)|(fail_if_success (have:=gP));refine zlN hS ?_ (vs:=[.I yk,.I yc,.I yq,.string ya,.string yw,.string yt,.string yu,.I yi,.I yn,.I yp,.bool yb,.I yd]) (hc:=by exact d8.old (by exact ab4) hopy)|(fail_if_success (have:=gA));(refine zbs hS ?_;clear hS;have gA:Nat:=0;intro bA w hS)|(have:=gA);refine zbs hS ?_;clear hS;intro bB w hS|(fail_if_success (have:=gP));(refine zap hS ?_ (h63:=by unfold maxLen;omega) (hb:=by omega);clear hS;have gP:Nat:=0;intro va w hS)|(have:=gP);refine zap hS ?_ (h63:=by unfold maxLen;omega) (hb:=by omega);clear hS;intro vb w hS);go_roundw
     case rel=>
      refine⟨m+1,rfl,hml,?_⟩;rw[Htk.out];have h0:=hS.s (row va 12 31 (acc.length+1) (acc.flatMap (fun a=>a.op.cells)++_)::row vb 18 39 (acc.length+1) (acc.flatMap Ans.cells++_)::row (.slice ma qs.length mc) 1 26 qs.length (qs.flatMap fun q=>[q.1])::bJ4 (bX4 39) qs::Old V::Lr);have h1:=aw4 (enc:=fun a:Ans=>a.op.cells) (y:=(⟨⟨yk,yc,yq,ya,yw,yt,yu,yi,yn,yp,yb,yd⟩,⟨q0,q1,⟨q2,q3,q4,q5⟩⟩⟩:Ans)) h0 rfl;have h2:=aw4 (enc:=Ans.cells) (y:=(⟨⟨yk,yc,yq,ya,yw,yt,yu,yi,yn,yp,yb,yd⟩,⟨q0,q1,⟨q2,q3,q4,q5⟩⟩⟩:Ans)) h1.swap rfl;exact h2.swap
     case measure=>simp[intOf];omega
    ·have hd3:decide (m<l.length)=false:=decide_eq_false hml;have hm2:m=l.length:=by omega
     rw[hm2,List.take_length]at hS;rw[hm2]at hd3 ⊢;clear hm hml hm2;obtain⟨oa,ocp,rfl⟩:=hS.rowVal;obtain⟨ta,tc,rfl⟩:=hS.drop.rowVal;by_cases h60:60<l.length
     ·have hd4:decide ((60:Int)<(l.length:Int))=true:=by simp;omega
      go_wp2_with(first|go_big_skip|refine zl1 hS ?_ (hc:=by exact i6.old (by exact ab4) hc1)|(go_at_call 7;refine(IR7 (w5.mapV (f:=fun a:Ans=>a.op) (St.sliceV (enc:=fun a:Ans=>a.op.cells) (fun _=>rfl) hS)) hS).mono ?_;clear hS;rintro e w ⟨hv9,h151,rfl,hS⟩;cases hv9))
      all_goals
       go_ret;exact⟨rfl,hS.s _⟩
     ·have hd4:decide ((60:Int)<(l.length:Int))=false:=by simp;omega
      go_wp2_with(first|go_big_skip|refine zl1 hS ?_ (hc:=by exact i6.old (by exact ab4) hc1)|(go_at_call 7;refine(IR7 (w5.mapV (f:=fun a:Ans=>a.op) (St.sliceV (enc:=fun a:Ans=>a.op.cells) (fun _=>rfl) hS)) hS).mono ?_;clear hS;rintro e w ⟨hv9,h151,rfl,hS⟩;cases hv9)|(fail_if_success (have:=gA));(refine zbs hS ?_;clear hS;have gA:Nat:=0;intro bA w hS)|refine zap hS ?_ (h63:=by unfold maxLen;omega) (hb:=by omega);clear hS;intro vc w hS)
      rotate_left
      ·go_ret;exact⟨rfl,hS.s _⟩
      go_roundw
      case rel=>
       refine⟨k+1,qs++[(.slice ta l.length tc,l)],rfl,hkl,by rw[Hnx.out,List.map_append];rfl,fun q hq=>?_,?_⟩
       ·rcases List.mem_append.1 hq with hq|hq
        ·exact Hq60.out q hq
        ·rw[List.mem_singleton]at hq;subst hq;show l.length<=60
         omega
       ·have h0:=hS.s (row vc 1 26 (qs.length+1) (qs.flatMap (fun q=>[q.1])++_)::bX4 39 (.slice ta l.length tc,l)::bJ4 (bX4 39) qs::Old V::Lr);have h1:=aw4 (enc:=fun q:Value×List Ans=>[q.1]) (y:=(.slice ta l.length tc,l)) h0 rfl;have h2:=dB4 (f:=bX4 39) (x:=(.slice ta l.length tc,l)) (h1.s (bX4 39 (.slice ta l.length tc,l)::bJ4 (bX4 39) qs::row vc 1 _ _ _::Old V::Lr));exact h2.swap
      case measure=>simp[intOf];omega
  ·have hd2:decide (k<ps.length)=false:=decide_eq_false hkl;have hk2:k=ps.length:=by omega
   rw[hk2,List.take_length]at hqs;have hql:qs.length=ps.length:=by have:=congrArg List.length hqs;rwa [jM,jM]at this
   have hfl:=Hs7 hq60;have htot8:((qs.map (·.2)).flatten).length<=1000000:=by omega
   have Htot8:=jH htot8;rw[hqs]at htot8;have Htot:=jH htot8;obtain⟨n,hn⟩:∃n,C9 (okA xs (k8 xs ec0)) (ps.map (·.2)).flatten 0=n:=⟨_,rfl⟩
   have Hn:=jH hn;rw[<-hqs]at hn;have Hn8:=jH hn;obtain⟨ma,mc,rfl⟩:=hS.rowVal;clear hn htot8 hfl hk hk2 hkl hqs hq60 hql;go_wp2_with(first|go_big_skip|go_at_call 8;refine(LG7 hlen (Hv.out.old hS (by exact ab4)) hS).mono ?_;clear hS;rintro e w ⟨ta,tb,rfl,hS⟩|go_at_call 9;refine(BT7 (AF7 xs) hlen (T:=76) (evs:=C5 xs) (by exact i7) (Hu.out.old hS (by exact ab4)) Htot.out Hn.out hS).mono ?_;clear hS;rintro e w ⟨rfl,hS⟩|go_at_call 10;(have hS9:=hS.s (row (.slice ma qs.length mc) 1 26 qs.length (qs.flatMap fun q=>[q.1])::bJ4 (bX4 39) qs::evR 77 tb (C5 xs)::Old V::Lr));clear hS;refine(LJ7 (AF7 xs) hlen (T:=77) (evs:=C5 xs) (by exact i7) (Op7 hS9) Htot8.out Hn8.out hS9).mono ?_;clear hS9;rintro e w ⟨rfl,hS⟩|go_at_call 11;refine(Cb7 W _ _ hS).mono ?_;clear hS;rintro e w ⟨rfl,hS⟩);go_ret;exact⟨rfl,hS.s _⟩
end Go.Proofs.YtienbkdjkjbelaaGreat
end
