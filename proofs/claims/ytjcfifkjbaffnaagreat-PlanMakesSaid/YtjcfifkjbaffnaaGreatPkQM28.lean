/-
  The document's planner.
-/
import Derived.Test.YtjcfifkjbaffnaaGreatPkQM5
import Derived.Test.YtjcfifkjbaffnaaGreatPkQM27
set_option maxHeartbeats 16000000
set_option maxRecDepth 100000
set_option linter.unusedSimpArgs false
set_option linter.unusedVariables false
section
namespace Go.Proofs.YtjcfifkjbaffnaaGreat
open Go.RowKit Go.Sl
theorem exZ{zs:List Zo}(hn:(zs.map (·.id)).Nodup):∃Z:List Zo,Z.Perm zs/\I5 Z:=by have hp:=List.mergeSort_perm zs (fun a b=>decide (a.id<=b.id));refine⟨_,hp,List.pairwise_iff_getElem.2 fun i j hi hj hij=>?_⟩;have h1:=List.pairwise_iff_getElem.1 (List.pairwise_mergeSort (le:=fun a b:Zo=>decide (a.id<=b.id)) (fun a b c h1 h2=>by simp at *;omega) (fun a b=>by simp;omega) zs) i j hi hj hij;have h2:((zs.mergeSort (fun a b=>decide (a.id<=b.id))).map (·.id)).Nodup:=(hp.map _).nodup_iff.2 hn;have h3:=List.pairwise_iff_getElem.1 h2 i j (by rw[jM];exact hi) (by rw[jM];exact hj) hij;simp only[List.getElem_map]at h3;simp only[decide_eq_true_eq]at h1;omega
def AtK(zs Z:List Zo)(k:Nat)(v:Int):Prop:=(k=Z.length/\v = -1)\/∃h:k<Z.length, ∃i:Nat,v=i/\∃hi:i<zs.length,zs[i]=Z[k]
theorem cp4{zs Z:List Zo}(hp:Z.Perm zs)(ha:I5 Z)(h1:∀z∈zs,1<=z.id){v:Int}(hv:NxI zs 0 v):AtK zs Z 0 v:=
 bj4 hp ha (Nat.zero_le _) (fun i h=>absurd h (Nat.not_lt_zero _)) (fun h=>by have:=h1 _ (hp.mem_iff.1 (jW h));omega) hv
theorem Kg7{zs Z:List Zo}(hp:Z.Perm zs)(ha:I5 Z){k:Nat}(hk:k<Z.length){v:Int}(hv:NxI zs Z[k].id v):AtK zs Z (k+1) v:=
 bj4 hp ha hk (fun i h=>by
  rcases Nat.lt_or_ge i k with h1|h1
  ·exact Int.le_of_lt (Cl7 ha hk h1)
  ·obtain rfl:i=k:=by omega
   exact Int.le_refl _) (fun h=>Cl7 ha h (by omega)) hv
def mzK(zs:List Zo)(v:Int):Nat:=if v<0 then 0 else(zs.filter fun z=>decide ((zs.getD v.toNat ⟨0,bN,bN,0,0,0,0,bN,0⟩).id<=z.id)).length
theorem CA7{zs Z:List Zo}(hp:Z.Perm zs)(ha:I5 Z){k:Nat}{v:Int}(h:AtK zs Z k v):mzK zs v=Z.length-k:=by
 unfold mzK
 rcases h with ⟨rfl,rfl⟩|⟨hk,i,rfl,hi,e⟩
 ·rw[if_pos (by omega)];omega
 ·have e1:zs.getD (i:Int).toNat ⟨0,bN,bN,0,0,0,0,bN,0⟩=Z[k]:=by
   rw[Int.toNat_natCast,<-e];simp[List.getD,hi]
  rw[if_neg (by omega),e1,<-(hp.filter _).length_eq]
  have e2:Z.filter (fun z=>decide (Z[k].id<=z.id))=Z.drop k:=by
   obtain⟨q,hq⟩:∃q,Z[k].id=q:=⟨_,rfl⟩
   rw[hq]
   conv=>lhs;rw[<-List.take_append_drop k Z]
   rw[List.filter_append,List.filter_eq_nil_iff.2,jN,List.filter_eq_self.2]
   ·intro z hz;obtain⟨j,hj,rfl⟩:=List.getElem_of_mem hz;rw[List.length_drop]at hj;rw[List.getElem_drop];simp only[decide_eq_true_eq]
    rcases Nat.eq_zero_or_pos j with h0|h0
    ·subst h0;rw[<-hq];exact Int.le_refl _
    ·rw[<-hq];exact Int.le_of_lt (Cl7 ha (by omega) (by omega))
   ·intro z hz;obtain⟨j,hj,rfl⟩:=List.getElem_of_mem hz;rw[jT]at hj;rw[List.getElem_take];have:=Cl7 ha hk (i:=j) (by omega);simp only[decide_eq_true_eq];omega
  rw[e2,List.length_drop]
theorem Eq7{l:List Ro}{hot:Int}{Z:List Zo}{k:Nat}{s0 s:Pn×Int}(h:p9 l hot (Z.take k) s0=s)(hr:s.2<=0):p9 l hot Z s0=s:=by
 have e:p9 l hot Z s0=p9 l hot (Z.drop k) (p9 l hot (Z.take k) s0):=by unfold p9;rw[<-List.foldl_append,List.take_append_drop]
 rw[e,h];exact DT7 l hot _ s hr
def cq4(W:World)(R:List HP)(zs:List Zo)(v4 v5:Value)(w:World):Prop:=
 ∃i:Nat,v4=.I (zs.length+i7 (zs.take i) 1)/\v5=.I i/\i<=zs.length/\St W R w
def cr4(W:World)(R:List HP)(D:De)(l:List Ro)(zs Z:List Zo)(hot mvs:Int)(s0:Pn×Int)(v4 v6:Value)(w:World):Prop:=
 ∃(k:Nat) (v n:Int) (s:Pn) (r:Int),v4=.I n/\v6=.I v/\k<=Z.length/\p9 l hot (Z.take k) s0=(s,r)/\AtK zs Z k v/\n+r=16/\0<=n/\n<=40+k/\s.out.length<=k/\St W (dsS D zs s mvs::R) w
theorem cs4(s:ByteArray)(w:World):(Instr.build 64 #[(0,.I 1),(4,.string s)]).run Tryz.prog w=.ok (.agg #[.I 1,.I 0,.I 0,.I 0,.string s]) w:=by kernel_rfl
theorem JA7{l:List Ro}{hot:Int}{s:Pn}{r:Int}{z:Zo}{x:Ro}{ok f:Bool}(hx:C5 l z.id=x)(hok:B5 z.sf z.st x.mid=ok)(hf:s7 s z=f)(hr:0<r):G7 l hot (s,r) z=if(f&&(decide (hot<x.hits)&&ok))=true then(⟨z.id::s.nm,s.mv,s.out++[⟨1,z.id,0,0,x.mid⟩]⟩,r-1)else(s,r):=by
 have e:i9 l z=x.hits:=by unfold i9;rw[hx]
 unfold G7 az4;rw[e];simp only;rw[hx,hok,hf,decide_eq_true hr]
 cases f <;> cases ok <;> cases decide (hot<x.hits) <;> rfl
theorem Fv7{D:De}{nm:List Bool}{out:List Cg}{to:List Int}{mvs:Int}{l:List Ro}{V:World}{n x0 x1:Int}{x2:ByteArray}(hl:d6 Ro.cells 3 V D.lv l)(hll:l.length<=60)(hx:C5 l n=⟨x0,x1,x2⟩){W w:World}{R R1 R2:List HP}(ht:Take R (dsP D nm out to mvs) R1)(hm:Take R1 (Old V) R2)(hS:St W R w):
  Calls Tryz.prog 50 #[.pointer (some ⟨D.pb,0,none⟩),.I n] w fun e w'=>e=.returned (.agg #[.I x0,.I x1,.string x2])/\St W R w':=Hn7 hl hll hx ht hm hS
abbrev tB27a:List Nat:=[0,1,3,7,15,0,63,127,255,0,512,2047,4095,8191,8191,8191,0,0,212991,491519,1048575]
theorem FW7{D:De}{mvs:Int}{l:List Ro}{zs:List Zo}{V:World}(hz:d6 Zo.cells 9 V D.zv zs)(hzl16:zs.length<=16)(hl:d6 Ro.cells 3 V D.lv l)(hll:l.length<=60)(hid:∀z∈zs,1<=z.id)(hnd:(zs.map (·.id)).Nodup)(hot:Int)(W w:World)(R:List HP)(hS:St W (dsS D zs pn0 mvs::Old V::R) w):
  Calls Tryz.prog 22 #[.pointer (some ⟨D.pb,0,none⟩),.I hot] w fun e w'=>e=.returned (.tuple #[])/\∃Z:List Zo,Z.Perm zs/\I5 Z/\St W (dsS D zs (p9 l hot Z (pn0,16-zs.length-i7 zs 1)).1 mvs::Old V::R) w':=by
 obtain⟨Z,hZp,hZa⟩:=exZ hnd;have hzl:zs.length<=60:=by omega
 have Hz:=jH hz;have Hl:=jH hl;have Hnd:=jH hnd;have HZp:=jH hZp;have HZa:=jH hZa;have Hid1:=jH hid;clear hl hnd hZp hZa hid;obtain⟨nv,ov,tv,hS1⟩:=i6 hS;clear hS;have hS:=hS1;clear hS1;unfold dsB at hS;obtain⟨pb,ver,nxt,zv,hv,lv⟩:=D;simp only at hS hz Hz Hl ⊢;obtain⟨a,cap,rfl,h63,hact⟩:=hz;have Hat:=jH hact;clear hact;go_enter Tryz.func22,Tryz.ntmps22;go_wp2_with(first|go_big_skip|refine zl1 hS ?_)
 go_loopw [4,5] (fun v4 v5 wr=>cq4 W (blk pb [.I ver,.I nxt,.slice a zs.length cap,hv,lv,nv,ov,tv,.I mvs] 69::row nv 1 4 (nmD zs pn0.nm).length ((nmD zs pn0.nm).map kB)::row ov 5 64 pn0.out.length (pn0.out.flatMap Cg.cells)::row tv 1 3 (toD zs pn0).length ((toD zs pn0).map kI)::Old V::R) zs v4 v5 wr) (fun _ v5 _=>zs.length-(intOf v5).toNat)
 case atStart=>exact⟨0,rfl,rfl,Nat.zero_le _,hS⟩
 case round=>
  clear hS;obtain⟨i,rfl,rfl,hi,hS⟩:=hrel;by_cases hil:i<zs.length
  ·have d1:decide (i<zs.length)=true:=decide_eq_true hil;obtain⟨zb,zoff,rfl,hall⟩:=Hat.out i hil;have hnx:=Dv7 hil 1;have hle:i7 (zs.take i) 1<=16:=Nat.le_trans (Bb7 _ _) (by rw[jT];omega);generalize i7 (zs.take i) 1=c at hnx hle;generalize zs[i]=z at hall hnx;obtain⟨z0,z1,z2,z3,z4,z5,z6,z7,z8⟩:=z;simp only[Zo.cells]at hall hnx;have hy5:V.cell? ⟨zb,zoff+i*9+5,none⟩=some (.I z5):=hall 5 _ rfl;clear hall hi;by_cases h5:z5=1
   ·have e5:(z5==1)=true:=by simpa using h5
    rw[if_pos h5]at hnx;have Hnx:=jH hnx;clear hnx h5;go_wp2_with(first|go_big_skip|refine zl1 hS ?_ (v:=.I z5) (hc:=by exact a8.old (by exact b8) hy5)|refine zl1 hS ?_);go_roundw
    case rel=>exact⟨i+1,by rw[Hnx.out];simp[Int.add_assoc],rfl,hil,hS⟩
    case measure=>simp[intOf];omega
   ·have e5:(z5==1)=false:=by simpa using h5
    rw[if_neg h5,Nat.add_zero]at hnx;have Hnx:=jH hnx;clear hnx h5;go_wp2_with(first|go_big_skip|refine zl1 hS ?_ (v:=.I z5) (hc:=by exact a8.old (by exact b8) hy5)|refine zl1 hS ?_);go_roundw
    case rel=>exact⟨i+1,by rw[Hnx.out];rfl,rfl,hil,hS⟩
    case measure=>simp[intOf];omega
  ·have d1:decide (i<zs.length)=false:=decide_eq_false hil;have hie:i=zs.length:=by omega
   have hpn:i7 (zs.take i) 1=i7 zs 1:=by rw[hie,List.take_length]
   have hpl:i7 zs 1<=16:=Nat.le_trans (Bb7 _ _) hzl16;obtain⟨c,hc⟩:∃c,i7 zs 1=c:=⟨_,rfl⟩
   rw[hpn,hc];rw[hc]at hpl;have Hc:=jH hc;clear hi hie hil hpn hc;go_wp2_with(first|go_big_skip|refine zl1 hS ?_|(go_at_call 49);((have hS9:=g8 (D:=⟨pb,ver,nxt,.slice a zs.length cap,hv,lv⟩) (hS.s (blk pb _ 69::row nv 1 4 _ _::row ov 5 64 _ _::row tv 1 3 _ _::Old V::R)));clear hS;(have hS:=hS9);clear hS9);refine(Bc7 (D:=⟨pb,ver,nxt,.slice a zs.length cap,hv,lv⟩) Hz.out hzl 0 W _ _ hS).mono ?_;clear hS;rintro e w ⟨v,hvx,rfl,hS⟩;(have Hvx:=jH hvx);clear hvx);have hat:=cp4 HZp.out HZa.out Hid1.out Hvx.out;clear Hvx
   go_loopw [4,6] (fun v4 v6 wr=>cr4 W (Old V::R) ⟨pb,ver,nxt,.slice a zs.length cap,hv,lv⟩ l zs Z hot mvs (pn0,16-zs.length-c) v4 v6 wr) (fun _ v6 _=>mzK zs (intOf v6))
   case atStart=>exact⟨0,v,_,pn0,_,rfl,rfl,Nat.zero_le _,rfl,hat,by omega,by omega,by omega,Nat.zero_le _,hS⟩
   case round=>
    clear hS hat
    obtain⟨k,v,n,s,r,rfl,rfl,hk,hst,hat2,hnr,hn0,hn1,hso,hS⟩:=hrel;have hmz:=CA7 HZp.out HZa.out hat2
    rcases hat2 with ⟨hkl,rfl⟩|⟨hkl,i,rfl,hil,hzi⟩
    ·rw[hkl,List.take_length]at hst;have Hst:=jH hst;clear hst hmz;go_wp2_with(first|go_big_skip);go_end0;refine⟨rfl,Z,HZp.out,HZa.out,?_⟩;rw[Hc.out,Hst.out];exact hS
    have e0:decide ((0:Int)<=(i:Int))=true:=decide_eq_true (by omega);have hl16:Z.length=zs.length:=HZp.out.length_eq;have hk16:k<=16:=by omega
    have hi16:i<=16:=by omega
    have Hmz:=jH hmz;have hnx:=Gt7 l hot hkl (pn0,16-zs.length-c);rw[hst]at hnx;have hanx:∀v,NxI zs Z[k].id v->AtK zs Z (k+1) v:=fun v h=>Kg7 HZp.out HZa.out hkl h
    have hadd:=Dz7 Hnd.out s.nm hil;have hfr:=aK4 (s:=s) hil;obtain⟨zb,zoff,rfl,hall⟩:=Hat.out i hil;rw[<-hzi]at hnx hanx;have Hzi:=jH hzi;clear hmz hzi;obtain⟨z,hze⟩:∃z,zs[i]=z:=⟨_,rfl⟩
    rw[hze]at hnx hanx hadd hall;obtain⟨x,hx⟩:∃x,C5 l z.id=x:=⟨_,rfl⟩
    obtain⟨ok,hok⟩:∃ok,B5 z.sf z.st x.mid=ok:=⟨_,rfl⟩
    obtain⟨f,hf⟩:∃f,s7 s z=f:=⟨_,rfl⟩
    have hsf:0<r->p9 l hot (Z.take (k+1)) (pn0,16-zs.length-c)=_:=fun h=>hnx.trans (JA7 hx hok hf h)
    have hfr2:=hfr.trans ((congrArg (s7 s) hze).trans hf);clear hfr;obtain⟨z0,z1,z2,z3,z4,z5,z6,z7,z8⟩:=z;obtain⟨x0,x1,x2⟩:=x;simp only at hx hok hsf hanx hadd;simp only[Zo.cells]at hall;have hy0:V.cell? ⟨zb,zoff+i*9,none⟩=some (.I z0):=hall 0 _ rfl
    have hsp0:∀j u,[Value.string z1,Value.string z2][j]? = some u->V.cell? ⟨zb,zoff+i*9+1+j,none⟩=some u:=fun j u hj=>by
     match j,hj with
     | 0,hj=>exact hall 1 u hj
     | 1,hj=>exact hall 2 u hj
     | j+2,hj=>simp at hj
    have Hx:=jH hx;have Hok:=jH hok;have Hfr:=jH hfr2;have Hsf:=jH hsf;have Hanx:=jH hanx;have Hadd:=jH hadd;have Hst:=jH hst;have Hze:=jH hze;clear hx hok hfr2 hsf hanx hadd hst hf hnx hall hk hze
    ((obtain⟨nv,ov,tv,hS9⟩:=i6 hS);clear hS;(have hS:=hS9);clear hS9;unfold dsB at hS;simp only at hS)
    cases ok with
    | true=>
     go_wp2_with(first|go_big_skip|refine zl1 hS ?_ (v:=.I z0) (hc:=by exact a8.old (by exact b8) hy0)|refine zl1 hS ?_|(go_at_call 50);((have hS9:=g8 (D:=⟨pb,ver,nxt,.slice (some ⟨zb,zoff,none⟩) zs.length cap,hv,lv⟩) (hS.s (blk pb _ 69::row nv 1 4 _ _::row ov 5 64 _ _::row tv 1 3 _ _::Old V::R)));clear hS;(have hS:=hS9);clear hS9);refine(Fv7 (D:=⟨pb,ver,nxt,.slice (some ⟨zb,zoff,none⟩) zs.length cap,hv,lv⟩) Hl.out hll Hx.out .head .head hS).mono ?_;clear hS;rintro e w ⟨rfl,hS⟩;((obtain⟨nv,ov,tv,hS9⟩:=i6 hS);clear hS;(have hS:=hS9);clear hS9;unfold dsB at hS;simp only at hS)|refine zal hS ?_;clear hS;intro b7 w hS|refine zsN hS ?_;clear hS;intro w hS);have hS1:=hS.s (Old V::blk b7 [.I x0,.I x1,.string x2] 71::blk pb _ 69::row nv 1 4 _ _::row ov 5 64 _ _::row tv 1 3 _ _::R);clear hS
     refine rf3 tB27a (fun i=>i==16||i==17) (fun i=>if i==11 then some (.tuple #[.agg #[.string z1,.string x2],.agg #[.string x2,.string z2],.bool true])else none) [⟨some 16,some 18,fun nd=>f7 (nd 16) [.string ⟨#[]⟩,.string ⟨#[]⟩] 53⟩,⟨some 18,none,fun nd=>f7 (nd 16) [.string z1,.string x2] 53⟩,⟨some 17,some 19,fun nd=>f7 (nd 17) [.string ⟨#[]⟩,.string ⟨#[]⟩] 53⟩,⟨some 19,none,fun nd=>f7 (nd 17) [.string x2,.string z2] 53⟩]
      [none,none,none] hS1 ?_
     intro nd
     repeat(first|refine zcN ?_ (vs:=[.string z1,.string z2]) (hc:=by(intro F;exact a7.old (by first|exact Mem.head|exact Mem.tail Mem.head|exact Mem.tail (Mem.tail Mem.head)|exact Mem.tail (Mem.tail (Mem.tail Mem.head))|exact Mem.tail (Mem.tail (Mem.tail (Mem.tail Mem.head)))) hsp0))|refine zc1 ?_|refine zcv ?_ (hs:=by(intro F w hS;(try clear hS0);exact Hs7 Hok.out W _ _ hS))|refine zca ?_|refine zct ?_|refine zcn ?_|refine cR ?_)
     refine AC7 ?_;clear hS1;intro w hS0;have hS1:St W [f7 (nd 16) [.string z1,.string x2] _,f7 (nd 17) [.string x2,.string z2] _,Old V,blk b7 [.I x0,.I x1,.string x2] 71,blk pb _ 69,sats _] w:=hS0;generalize nd 16=v16 at *;generalize nd 17=v17 at *;have hS2:=hS1.unpack [_,_,_,_,_];clear hS0 hS1;simp only[jK,jN]at hS2;have hS:=hS2.drop.drop;clear hS2;by_cases hr:0<r
     case neg=>
      have e16:decide ((16:Int)<=n)=true:=decide_eq_true (by omega)
      ((have hS9:=g8 (D:=⟨pb,ver,nxt,.slice (some ⟨zb,zoff,none⟩) zs.length cap,hv,lv⟩) (hS.s (blk pb _ 69::row nv 1 4 _ _::row ov 5 64 _ _::row tv 1 3 _ _::Old V::R)));clear hS;(have hS:=hS9);clear hS9)
      have Hfin:=jH (Eq7 Hst.out (show(s,r).2<=0 from by show r<=0;omega));clear hr;go_wp2_with(first|go_big_skip);refine bodyPost_ret (results_none rfl _ _ _) rfl ?_;refine⟨rfl,Z,HZp.out,HZa.out,?_⟩;rw[Hc.out,Hfin.out];exact hS
     have e16:decide ((16:Int)<=n)=false:=decide_eq_false (by omega);have hsf:=Hsf.out hr;clear Hsf
     cases f with
     | false=>
      have Hno:=jH (show p9 l hot (Z.take (k+1)) (pn0,16-zs.length-c)=(s,r)from hsf);clear hsf hr;go_wp2_with(first|go_big_skip|refine zl1 hS ?_ (v:=.I z0) (hc:=by exact a8.old (by exact b8) hy0)|(go_at_call 52);((have hS9:=g8 (D:=⟨pb,ver,nxt,.slice (some ⟨zb,zoff,none⟩) zs.length cap,hv,lv⟩) (hS.s (blk pb _ 69::row nv 1 4 _ _::row ov 5 64 _ _::row tv 1 3 _ _::Old V::blk b7 [.I x0,.I x1,.string x2] 71::R)));clear hS;(have hS:=hS9);clear hS9);refine(Ar7 (D:=⟨pb,ver,nxt,.slice (some ⟨zb,zoff,none⟩) zs.length cap,hv,lv⟩) Hz.out (Ak7 zs s.nm) hil Hfr.out .head .head hS).mono ?_;clear hS;rintro e w ⟨rfl,hS⟩;((obtain⟨nv,ov,tv,hS9⟩:=i6 hS);clear hS;(have hS:=hS9);clear hS9;unfold dsB at hS;simp only at hS)|refine zl1 hS ?_|(go_at_call 49);((have hS9:=g8 (D:=⟨pb,ver,nxt,.slice (some ⟨zb,zoff,none⟩) zs.length cap,hv,lv⟩) (hS.s (blk pb _ 69::row nv 1 4 _ _::row ov 5 64 _ _::row tv 1 3 _ _::Old V::R)));clear hS;(have hS:=hS9);clear hS9);refine(Bc7 (D:=⟨pb,ver,nxt,.slice (some ⟨zb,zoff,none⟩) zs.length cap,hv,lv⟩) Hz.out hzl z0 W _ _ hS).mono ?_;clear hS;rintro e w ⟨v,hvx,rfl,hS⟩;(have Hvx:=jH hvx);clear hvx);have hat3:=Hanx.out v Hvx.out;have hmz3:=CA7 HZp.out HZa.out hat3;have Hat3:=jH hat3;have Hmz3:=jH hmz3;clear hat3 hmz3;go_roundw
      case rel=>exact⟨k+1,v,n,s,r,rfl,rfl,hkl,Hno.out,Hat3.out,hnr,hn0,by omega,by omega,hS⟩
      case measure=>
       show mzK zs v<mzK zs i
       rw[Hmz3.out,Hmz.out];omega
     | true=>
      by_cases c2:hot<x1
      ·have e2:decide (hot<x1)=true:=decide_eq_true c2;rw[e2]at hsf;clear c2;have Hyes:=jH (show p9 l hot (Z.take (k+1)) (pn0,16-zs.length-c)=(⟨z0::s.nm,s.mv,s.out++[⟨1,z0,0,0,x2⟩]⟩,r-1)from hsf);clear hsf
       go_wp2_with(first|go_big_skip|refine zl1 hS ?_ (v:=.I z0) (hc:=by exact a8.old (by exact b8) hy0)|(go_at_call 52);((have hS9:=g8 (D:=⟨pb,ver,nxt,.slice (some ⟨zb,zoff,none⟩) zs.length cap,hv,lv⟩) (hS.s (blk pb _ 69::row nv 1 4 _ _::row ov 5 64 _ _::row tv 1 3 _ _::Old V::blk b7 [.I x0,.I x1,.string x2] 71::R)));clear hS;(have hS:=hS9);clear hS9);refine(Ar7 (D:=⟨pb,ver,nxt,.slice (some ⟨zb,zoff,none⟩) zs.length cap,hv,lv⟩) Hz.out (Ak7 zs s.nm) hil Hfr.out .head .head hS).mono ?_;clear hS;rintro e w ⟨rfl,hS⟩;((obtain⟨nv,ov,tv,hS9⟩:=i6 hS);clear hS;(have hS:=hS9);clear hS9;unfold dsB at hS;simp only at hS)|refine zl1 hS ?_|(with_reducible apply Bp7);rfl;rfl;(focus(simp only[fD,fI,fJ,Act.eval,fE,fF,fG,fH,fK];try rfl));intro w;exact cs4 _ w;refine frS ?_|(go_at_call 53);((have hS9:=g8 (D:=⟨pb,ver,nxt,.slice (some ⟨zb,zoff,none⟩) zs.length cap,hv,lv⟩) (hS.s (blk pb _ 69::row nv 1 4 _ _::row ov 5 64 _ _::row tv 1 3 _ _::Old V::blk b7 [.I x0,.I x1,.string x2] 71::R)));clear hS;(have hS:=hS9);clear hS9);refine(Dy7 (D:=⟨pb,ver,nxt,.slice (some ⟨zb,zoff,none⟩) zs.length cap,hv,lv⟩) Hz.out (Ak7 zs s.nm) hil 1 0 0 0 x2 (by omega) W _ _ hS).mono ?_;clear hS;rintro e w ⟨rfl,hS⟩;rw[Hadd.out,Hze.out]at hS;simp only at hS;((obtain⟨nv,ov,tv,hS9⟩:=i6 hS);clear hS;(have hS:=hS9);clear hS9;unfold dsB at hS;simp only at hS)|(go_at_call 49);((have hS9:=g8 (D:=⟨pb,ver,nxt,.slice (some ⟨zb,zoff,none⟩) zs.length cap,hv,lv⟩) (hS.s (blk pb _ 69::row nv 1 4 _ _::row ov 5 64 _ _::row tv 1 3 _ _::Old V::R)));clear hS;(have hS:=hS9);clear hS9);refine(Bc7 (D:=⟨pb,ver,nxt,.slice (some ⟨zb,zoff,none⟩) zs.length cap,hv,lv⟩) Hz.out hzl z0 W _ _ hS).mono ?_;clear hS;rintro e w ⟨v,hvx,rfl,hS⟩;(have Hvx:=jH hvx);clear hvx);have hat3:=Hanx.out v Hvx.out;have hmz3:=CA7 HZp.out HZa.out hat3;have Hat3:=jH hat3;have Hmz3:=jH hmz3;clear hat3 hmz3;go_roundw
       case rel=>exact⟨k+1,v,n+1,⟨z0::s.nm,s.mv,s.out++[⟨1,z0,0,0,x2⟩]⟩,r-1,rfl,rfl,hkl,Hyes.out,Hat3.out,by omega,by omega,by omega,by rw[jA,List.length_singleton];omega,hS⟩
       case measure=>
        show mzK zs v<mzK zs i
        rw[Hmz3.out,Hmz.out];omega
      ·have e2:decide (hot<x1)=false:=decide_eq_false c2;rw[e2]at hsf;clear c2;have Hno:=jH (show p9 l hot (Z.take (k+1)) (pn0,16-zs.length-c)=(s,r)from hsf);clear hsf hr;go_wp2_with(first|go_big_skip|refine zl1 hS ?_ (v:=.I z0) (hc:=by exact a8.old (by exact b8) hy0)|(go_at_call 52);((have hS9:=g8 (D:=⟨pb,ver,nxt,.slice (some ⟨zb,zoff,none⟩) zs.length cap,hv,lv⟩) (hS.s (blk pb _ 69::row nv 1 4 _ _::row ov 5 64 _ _::row tv 1 3 _ _::Old V::blk b7 [.I x0,.I x1,.string x2] 71::R)));clear hS;(have hS:=hS9);clear hS9);refine(Ar7 (D:=⟨pb,ver,nxt,.slice (some ⟨zb,zoff,none⟩) zs.length cap,hv,lv⟩) Hz.out (Ak7 zs s.nm) hil Hfr.out .head .head hS).mono ?_;clear hS;rintro e w ⟨rfl,hS⟩;((obtain⟨nv,ov,tv,hS9⟩:=i6 hS);clear hS;(have hS:=hS9);clear hS9;unfold dsB at hS;simp only at hS)|refine zl1 hS ?_|(go_at_call 49);((have hS9:=g8 (D:=⟨pb,ver,nxt,.slice (some ⟨zb,zoff,none⟩) zs.length cap,hv,lv⟩) (hS.s (blk pb _ 69::row nv 1 4 _ _::row ov 5 64 _ _::row tv 1 3 _ _::Old V::R)));clear hS;(have hS:=hS9);clear hS9);refine(Bc7 (D:=⟨pb,ver,nxt,.slice (some ⟨zb,zoff,none⟩) zs.length cap,hv,lv⟩) Hz.out hzl z0 W _ _ hS).mono ?_;clear hS;rintro e w ⟨v,hvx,rfl,hS⟩;(have Hvx:=jH hvx);clear hvx);have hat3:=Hanx.out v Hvx.out;have hmz3:=CA7 HZp.out HZa.out hat3;have Hat3:=jH hat3;have Hmz3:=jH hmz3;clear hat3 hmz3;go_roundw
       case rel=>exact⟨k+1,v,n,s,r,rfl,rfl,hkl,Hno.out,Hat3.out,hnr,hn0,by omega,by omega,hS⟩
       case measure=>
        show mzK zs v<mzK zs i
        rw[Hmz3.out,Hmz.out];omega
    | false=>
     go_wp2_with(first|go_big_skip|refine zl1 hS ?_ (v:=.I z0) (hc:=by exact a8.old (by exact b8) hy0)|refine zl1 hS ?_|(go_at_call 50);((have hS9:=g8 (D:=⟨pb,ver,nxt,.slice (some ⟨zb,zoff,none⟩) zs.length cap,hv,lv⟩) (hS.s (blk pb _ 69::row nv 1 4 _ _::row ov 5 64 _ _::row tv 1 3 _ _::Old V::R)));clear hS;(have hS:=hS9);clear hS9);refine(Fv7 (D:=⟨pb,ver,nxt,.slice (some ⟨zb,zoff,none⟩) zs.length cap,hv,lv⟩) Hl.out hll Hx.out .head .head hS).mono ?_;clear hS;rintro e w ⟨rfl,hS⟩;((obtain⟨nv,ov,tv,hS9⟩:=i6 hS);clear hS;(have hS:=hS9);clear hS9;unfold dsB at hS;simp only at hS)|refine zal hS ?_;clear hS;intro b7 w hS|refine zsN hS ?_;clear hS;intro w hS);have hS1:=hS.s (Old V::blk b7 [.I x0,.I x1,.string x2] 71::blk pb _ 69::row nv 1 4 _ _::row ov 5 64 _ _::row tv 1 3 _ _::R);clear hS
     refine rf3 tB27a (fun i=>i==16||i==17) (fun i=>if i==11 then some (.tuple #[.agg #[.string ⟨#[]⟩,.string ⟨#[]⟩],.agg #[.string ⟨#[]⟩,.string ⟨#[]⟩],.bool false])else none) [⟨some 16,some 18,fun nd=>f7 (nd 16) [.string ⟨#[]⟩,.string ⟨#[]⟩] 53⟩,⟨some 18,none,fun nd=>f7 (nd 16) [.string ⟨#[]⟩,.string ⟨#[]⟩] 53⟩,⟨some 17,some 19,fun nd=>f7 (nd 17) [.string ⟨#[]⟩,.string ⟨#[]⟩] 53⟩,⟨some 19,none,fun nd=>f7 (nd 17) [.string ⟨#[]⟩,.string ⟨#[]⟩] 53⟩]
      [none,none,none] hS1 ?_
     intro nd
     repeat(first|refine zcN ?_ (vs:=[.string z1,.string z2]) (hc:=by(intro F;exact a7.old (by first|exact Mem.head|exact Mem.tail Mem.head|exact Mem.tail (Mem.tail Mem.head)|exact Mem.tail (Mem.tail (Mem.tail Mem.head))|exact Mem.tail (Mem.tail (Mem.tail (Mem.tail Mem.head)))) hsp0))|refine zc1 ?_|refine zcv ?_ (hs:=by(intro F w hS;(try clear hS0);exact Hs7 Hok.out W _ _ hS))|refine zca ?_|refine zct ?_|refine zcn ?_|refine cR ?_)
     refine AC7 ?_;clear hS1;intro w hS0;have hS1:St W [f7 (nd 16) [.string ⟨#[]⟩,.string ⟨#[]⟩] _,f7 (nd 17) [.string ⟨#[]⟩,.string ⟨#[]⟩] _,Old V,blk b7 [.I x0,.I x1,.string x2] 71,blk pb _ 69,sats _] w:=hS0;generalize nd 16=v16 at *;generalize nd 17=v17 at *;have hS2:=hS1.unpack [_,_,_,_,_];clear hS0 hS1;simp only[jK,jN]at hS2;have hS:=hS2.drop.drop;clear hS2;by_cases hr:0<r
     case neg=>
      have e16:decide ((16:Int)<=n)=true:=decide_eq_true (by omega)
      ((have hS9:=g8 (D:=⟨pb,ver,nxt,.slice (some ⟨zb,zoff,none⟩) zs.length cap,hv,lv⟩) (hS.s (blk pb _ 69::row nv 1 4 _ _::row ov 5 64 _ _::row tv 1 3 _ _::Old V::R)));clear hS;(have hS:=hS9);clear hS9)
      have Hfin:=jH (Eq7 Hst.out (show(s,r).2<=0 from by show r<=0;omega));clear hr;go_wp2_with(first|go_big_skip);refine bodyPost_ret (results_none rfl _ _ _) rfl ?_;refine⟨rfl,Z,HZp.out,HZa.out,?_⟩;rw[Hc.out,Hfin.out];exact hS
     have e16:decide ((16:Int)<=n)=false:=decide_eq_false (by omega);have hsf:=Hsf.out hr;clear Hsf
     cases f with
     | false=>
      have Hno:=jH (show p9 l hot (Z.take (k+1)) (pn0,16-zs.length-c)=(s,r)from hsf);clear hsf hr;go_wp2_with(first|go_big_skip|refine zl1 hS ?_ (v:=.I z0) (hc:=by exact a8.old (by exact b8) hy0)|(go_at_call 52);((have hS9:=g8 (D:=⟨pb,ver,nxt,.slice (some ⟨zb,zoff,none⟩) zs.length cap,hv,lv⟩) (hS.s (blk pb _ 69::row nv 1 4 _ _::row ov 5 64 _ _::row tv 1 3 _ _::Old V::blk b7 [.I x0,.I x1,.string x2] 71::R)));clear hS;(have hS:=hS9);clear hS9);refine(Ar7 (D:=⟨pb,ver,nxt,.slice (some ⟨zb,zoff,none⟩) zs.length cap,hv,lv⟩) Hz.out (Ak7 zs s.nm) hil Hfr.out .head .head hS).mono ?_;clear hS;rintro e w ⟨rfl,hS⟩;((obtain⟨nv,ov,tv,hS9⟩:=i6 hS);clear hS;(have hS:=hS9);clear hS9;unfold dsB at hS;simp only at hS)|refine zl1 hS ?_|(go_at_call 49);((have hS9:=g8 (D:=⟨pb,ver,nxt,.slice (some ⟨zb,zoff,none⟩) zs.length cap,hv,lv⟩) (hS.s (blk pb _ 69::row nv 1 4 _ _::row ov 5 64 _ _::row tv 1 3 _ _::Old V::R)));clear hS;(have hS:=hS9);clear hS9);refine(Bc7 (D:=⟨pb,ver,nxt,.slice (some ⟨zb,zoff,none⟩) zs.length cap,hv,lv⟩) Hz.out hzl z0 W _ _ hS).mono ?_;clear hS;rintro e w ⟨v,hvx,rfl,hS⟩;(have Hvx:=jH hvx);clear hvx);have hat3:=Hanx.out v Hvx.out;have hmz3:=CA7 HZp.out HZa.out hat3;have Hat3:=jH hat3;have Hmz3:=jH hmz3;clear hat3 hmz3;go_roundw
      case rel=>exact⟨k+1,v,n,s,r,rfl,rfl,hkl,Hno.out,Hat3.out,hnr,hn0,by omega,by omega,hS⟩
      case measure=>
       show mzK zs v<mzK zs i
       rw[Hmz3.out,Hmz.out];omega
     | true=>
      by_cases c2:hot<x1
      ·have e2:decide (hot<x1)=true:=decide_eq_true c2;rw[e2]at hsf;clear c2;have Hno:=jH (show p9 l hot (Z.take (k+1)) (pn0,16-zs.length-c)=(s,r)from hsf);clear hsf hr;go_wp2_with(first|go_big_skip|refine zl1 hS ?_ (v:=.I z0) (hc:=by exact a8.old (by exact b8) hy0)|(go_at_call 52);((have hS9:=g8 (D:=⟨pb,ver,nxt,.slice (some ⟨zb,zoff,none⟩) zs.length cap,hv,lv⟩) (hS.s (blk pb _ 69::row nv 1 4 _ _::row ov 5 64 _ _::row tv 1 3 _ _::Old V::blk b7 [.I x0,.I x1,.string x2] 71::R)));clear hS;(have hS:=hS9);clear hS9);refine(Ar7 (D:=⟨pb,ver,nxt,.slice (some ⟨zb,zoff,none⟩) zs.length cap,hv,lv⟩) Hz.out (Ak7 zs s.nm) hil Hfr.out .head .head hS).mono ?_;clear hS;rintro e w ⟨rfl,hS⟩;((obtain⟨nv,ov,tv,hS9⟩:=i6 hS);clear hS;(have hS:=hS9);clear hS9;unfold dsB at hS;simp only at hS)|refine zl1 hS ?_|(go_at_call 49);((have hS9:=g8 (D:=⟨pb,ver,nxt,.slice (some ⟨zb,zoff,none⟩) zs.length cap,hv,lv⟩) (hS.s (blk pb _ 69::row nv 1 4 _ _::row ov 5 64 _ _::row tv 1 3 _ _::Old V::R)));clear hS;(have hS:=hS9);clear hS9);refine(Bc7 (D:=⟨pb,ver,nxt,.slice (some ⟨zb,zoff,none⟩) zs.length cap,hv,lv⟩) Hz.out hzl z0 W _ _ hS).mono ?_;clear hS;rintro e w ⟨v,hvx,rfl,hS⟩;(have Hvx:=jH hvx);clear hvx);have hat3:=Hanx.out v Hvx.out;have hmz3:=CA7 HZp.out HZa.out hat3;have Hat3:=jH hat3;have Hmz3:=jH hmz3;clear hat3 hmz3;go_roundw
       case rel=>exact⟨k+1,v,n,s,r,rfl,rfl,hkl,Hno.out,Hat3.out,hnr,hn0,by omega,by omega,hS⟩
       case measure=>
        show mzK zs v<mzK zs i
        rw[Hmz3.out,Hmz.out];omega
      ·have e2:decide (hot<x1)=false:=decide_eq_false c2;rw[e2]at hsf;clear c2;have Hno:=jH (show p9 l hot (Z.take (k+1)) (pn0,16-zs.length-c)=(s,r)from hsf);clear hsf hr;go_wp2_with(first|go_big_skip|refine zl1 hS ?_ (v:=.I z0) (hc:=by exact a8.old (by exact b8) hy0)|(go_at_call 52);((have hS9:=g8 (D:=⟨pb,ver,nxt,.slice (some ⟨zb,zoff,none⟩) zs.length cap,hv,lv⟩) (hS.s (blk pb _ 69::row nv 1 4 _ _::row ov 5 64 _ _::row tv 1 3 _ _::Old V::blk b7 [.I x0,.I x1,.string x2] 71::R)));clear hS;(have hS:=hS9);clear hS9);refine(Ar7 (D:=⟨pb,ver,nxt,.slice (some ⟨zb,zoff,none⟩) zs.length cap,hv,lv⟩) Hz.out (Ak7 zs s.nm) hil Hfr.out .head .head hS).mono ?_;clear hS;rintro e w ⟨rfl,hS⟩;((obtain⟨nv,ov,tv,hS9⟩:=i6 hS);clear hS;(have hS:=hS9);clear hS9;unfold dsB at hS;simp only at hS)|refine zl1 hS ?_|(go_at_call 49);((have hS9:=g8 (D:=⟨pb,ver,nxt,.slice (some ⟨zb,zoff,none⟩) zs.length cap,hv,lv⟩) (hS.s (blk pb _ 69::row nv 1 4 _ _::row ov 5 64 _ _::row tv 1 3 _ _::Old V::R)));clear hS;(have hS:=hS9);clear hS9);refine(Bc7 (D:=⟨pb,ver,nxt,.slice (some ⟨zb,zoff,none⟩) zs.length cap,hv,lv⟩) Hz.out hzl z0 W _ _ hS).mono ?_;clear hS;rintro e w ⟨v,hvx,rfl,hS⟩;(have Hvx:=jH hvx);clear hvx);have hat3:=Hanx.out v Hvx.out;have hmz3:=CA7 HZp.out HZa.out hat3;have Hat3:=jH hat3;have Hmz3:=jH hmz3;clear hat3 hmz3;go_roundw
       case rel=>exact⟨k+1,v,n,s,r,rfl,rfl,hkl,Hno.out,Hat3.out,hnr,hn0,by omega,by omega,hS⟩
       case measure=>
        show mzK zs v<mzK zs i
        rw[Hmz3.out,Hmz.out];omega
end Go.Proofs.YtjcfifkjbaffnaaGreat
end
