/-
  How long an economy's bytes are.
-/
import Derived.Test.YtienbkdjkjbelaaGreatJoAM5
import Derived.Test.YtienbkdjkjbelaaGreatJoAM29
import Derived.Test.YtienbkdjkjbelaaGreatJoAM42
set_option maxHeartbeats 16000000
set_option maxRecDepth 100000
set_option linter.unusedSimpArgs false
set_option linter.unusedVariables false
section
namespace Go.Proofs.YtienbkdjkjbelaaGreat
open Go.RowKit Go.Sl
def bq4:List (ByteArray×Vs)->Nat
 | []=>0
 | x::l=>x.2.ps.length+bq4 l
theorem HW7{l l':List (ByteArray×Vs)}(h:l.Perm l'):bq4 l=bq4 l':=by
 induction h with
 | nil=>rfl
 | cons x _ ih=>rw[bq4,bq4,ih]
 | swap x y l=>rw[bq4,bq4,bq4,bq4];omega
 | trans _ _ h1 h2=>rw[h1,h2]
theorem Ow7{l:List (ByteArray×Vs)}(hn:(l.map (·.1)).Nodup)(u:ByteArray):bq4 l=((j8 l u).getD vs0).ps.length+bq4 (j5 l u):=by
 cases hg:j8 l u with
 | none=>rw[BZ7 (Cf7 hg)];show _=0+_;omega
 | some V=>rw[HW7 (BT7 hn hg)];rfl
theorem Ox7{p:Ps}{N:Nat}(h:PsW p N):PsW p p.length:=⟨h.nd,h.nz,h.who,Nat.le_refl _⟩
theorem MN7{V:Vs}{i:Nat}{o:Opn}(h:VOk V.ps V.n i)(hL:∀x∈V.L,MayP x)(hl:V.L.length<=32):(doV V o).2.ps.length<=V.ps.length+100:=by
 have hw:=Ox7 h.w;unfold doV;split
 ·have:=(Gy7 hw o.aw (s9 o.item o.cnt)).len;show(I7 V.ps o.aw (s9 o.item o.cnt)).length<=_
  omega
 split
 ·have:=(Dx7 hw o.aw (s9 o.item o.cnt)).len;show(t8 V.ps o.aw (s9 o.item o.cnt)).length<=_
  omega
 split
 ·exact(LU7 (o:=at4 o) hw hL hl).len
 split
 ·exact(LV7 (who:=o.aw) (id:=o.id) hw hL).len
 split
 ·show V.ps.length<=_
  omega
 split
 ·have:=(Gy7 hw o.aw (s9 o.item o.cnt)).len;show(I7 V.ps o.aw (s9 o.item o.cnt)).length<=_
  omega
 ·show V.ps.length<=_
  omega
structure EnL(e:Ec)(n:Nat):Prop where
 en:EnOk e n
 nd:(e.vs.map (·.1)).Nodup
 ln:bq4 e.vs<=100*n
theorem gL4:EnL ec0 0:=⟨ge4,List.nodup_nil,Nat.le_refl _⟩
theorem MO7{e:Ec}(hn:(e.vs.map (·.1)).Nodup)(k:ByteArray)(V:Vs):((bb4 e k V).vs.map (·.1)).Nodup:=by
 show((if A9 V=true then j5 e.vs k else(k,V)::j5 e.vs k).map (·.1)).Nodup
 have h1:((j5 e.vs k).map (·.1)).Nodup:=hn.sublist (List.filter_sublist.map _);split
 ·exact h1
 ·rw[List.map_cons,List.nodup_cons];refine⟨fun h=>?_,h1⟩;obtain⟨x,hx,hk⟩:=List.mem_map.1 h;have:=(List.mem_filter.1 hx).2;simp only[ne_eq,decide_not,Bool.not_eq_eq_eq_not,Bool.not_true,decide_eq_false_iff_not]at this;exact this hk
theorem EnL.app{e:Ec}{n:Nat}(h:EnL e n)(he:aU4 e)(o:Opn)(hok:EOk (C5 e o).2.2 (n+1)):EnL (C5 e o).2.2 (n+1):=by
 refine⟨h.en.app o hok,?_,?_⟩
 ·cases hp:H6 e o with
  | mk r b=>
  cases b with
  | true=>rw[EL7 hp];exact h.nd
  | false=>
   obtain⟨rfl,hm⟩:=Cq7 hp;rw[DB7 hp];exact MO7 h.nd _ _
 ·cases hp:H6 e o with
  | mk r b=>
  cases b with
  | true=>rw[EL7 hp];have:=h.ln;show bq4 e.vs<=_;omega
  | false=>
   obtain⟨rfl,hm⟩:=Cq7 hp;rw[DB7 hp];show bq4 (if A9 (doV (atV e o.ak) o).2=true then j5 e.vs o.ak else(o.ak,(doV (atV e o.ak) o).2)::j5 e.vs o.ak)<=_
   have h1:=Ow7 h.nd o.ak;have h2:=h.ln
   have h3:(doV (atV e o.ak) o).2.ps.length<=(atV e o.ak).ps.length+100:=by
    unfold atV
    cases hg:j8 e.vs o.ak with
    | none=>exact MN7 (i:=0) (V:=vs0) fs4 (fun x hx=>(by cases hx)) (Nat.zero_le _)
    | some V=>
     have hm:=AN7 hg;exact MN7 (h.en.ok _ hm) (he _ hm).1 (he _ hm).2
   unfold atV at h3 ⊢;split
   ·omega
   ·show(doV ((j8 e.vs o.ak).getD vs0) o).2.ps.length+bq4 (j5 e.vs o.ak)<=_
    omega
theorem MP7{p:Ps}{L:List Ord}{n:Int}{N:Nat}(hw:PsW p N)(hL:∀x∈L,MayP x)(hl:L.length<=32):(av4 p L n).length<=70*p.length+2300:=by
 have h1:=Ak7 ((hdL p).length:Int);have h2:=Ak7 (L.length:Int);have h3:=Ak7 n;have h4:=Br7 bd4 (hdL p) fun x hx=>DO7 x (by have hk:x.who∈(hdL p).map Hd.who:=List.mem_map_of_mem hx;rw[Fy7]at hk;obtain⟨y,hy,e⟩:=JK7 hk;rw[<-e];exact Fo7 (hw.who y hy))
 have h5:=Br7 aE4 L fun x hx=>DP7 x (hL x hx).who1
 have h6:=CD7 p;unfold av4;rw[jA,jA,jA,jA];omega
def enK(e:Ec)(k:ByteArray):List Int:=E5 (A7 k)++E5 (av4 (atV e k).ps (atV e k).L (atV e k).n)
theorem QV7{e:Ec}{n:Nat}(h:EnL e n)(he:aU4 e){x:ByteArray×Vs}(hx:x∈e.vs):(enK e x.1).length<=70*x.2.ps.length+2400:=by
 have hg:j8 e.vs x.1=some x.2:=BD7 h.nd hx;have ha:atV e x.1=x.2:=by unfold atV;rw[hg];rfl
 have h1:=MP7 (n:=x.2.n) (h.en.ok x hx).w (he x hx).1 (he x hx).2;have h2:=AS7 (A7 x.1);have h3:=AS7 (av4 x.2.ps x.2.L x.2.n);have h4:=h.en.vk x hx;rw[AD7]at h2;unfold enK;rw[ha,jA];omega
theorem GN7{e:Ec}{n:Nat}(h:EnL e n)(he:aU4 e):∀l:List (ByteArray×Vs),(∀x∈l,x∈e.vs)->((l.map (·.1)).flatMap (enK e)).length<=70*bq4 l+2400*l.length
 | [],_=>by simp
 | x::l,hl=>by
  have h1:=GN7 h he l fun y hy=>hl y (List.mem_cons_of_mem _ hy)
  have h2:=QV7 h he (hl x (List.mem_cons_self ..));rw[List.map_cons,List.flatMap_cons,jA,bq4,jC];omega
theorem DQ7{α:Type}(f:α->List Int)(xs:List α)(k:Nat):((xs.take k).flatMap f).length<=(xs.flatMap f).length:=by
 have e:xs.flatMap f=(xs.take k).flatMap f++(xs.drop k).flatMap f:=by rw[<-List.flatMap_append,List.take_append_drop]
 rw[e,jA];omega
theorem Qg7{e:Ec}{n:Nat}(h:EnL e n)(he:aU4 e)(hn:n<=600):((ksE e).flatMap (enK e)).length<=6000000:=by
 have h1:=GN7 h he e.vs fun x hx=>hx
 have h2:((ksE e).flatMap (enK e)).length=((e.vs.map (·.1)).flatMap (enK e)).length:=((Aw7 _).flatMap_right _).length_eq;have h3:=h.ln;have h4:=h.en.lv;omega
theorem Oy7{ν:Type}{ev:ν->Value}{m lp g b:Nat}{l:List ((Int×Int)×ν)}{X:List (Int×Int)->HP}{W w:World}{L:List HP}(hY:cF4 Tryz.prog eWh l.length lp W X)(hS:St W (X []::blk g [.map (some b)] 110::d8 eWh ev b l::L) w):
  CallsIn Fence.wide m Tryz.prog 90 #[.func (.yield lp) #[] #[],.P g] w fun e w'=>(∃v,e=.returned v)/\∃ss,ss.Perm (l.map (·.1))/\St W (X ss::blk g [.map (some b)] 110::d8 eWh ev b l::L) w':=by
 refine callsIn_of_wp Tryz.func90 rfl trivial ?_ rfl;simp only[Tryz.ntmps90,List.size_toArray,jC,List.length_nil,Nat.reduceAdd,Nat.reduceSub,Array.replicate_succ,Array.replicate_zero,List.push_toArray,List.append_toArray,jN,jK]
 gi_wp2_with (first|((with_reducible apply CX7 cb4 hS);rfl;rfl;rfl;decide +kernel;exact K9;go_frame)|(gi_at_range;refine El7 (ek:=eWh) (ev:=ev) hS rfl rfl rfl (show D5 Tryz.prog 110=some (127,4)by kernel_rfl) (by exact i8) ?_;clear hS;intro r w hS;go_frame)|gi_in)
 gi_loopw [] (fun wr=>KyR W ev X r b l (blk g [.map (some b)] 110::L) wr) (fun wr=>cq4 r b wr)
 case atStart=>exact⟨[],l,by simp,hS⟩
 case round=>
  clear hS;obtain⟨ss,todo,hp,hS⟩:=hrel;have hm:=Ce7 hS
  gi_wp2_with (first|(gi_at_next;refine Fr7 (ek:=eWh) (ev:=ev) hS rfl rfl rfl ?_ ?_)|gi_in)
  ·intro h0;subst h0
   gi_wp2
   go_end0;exact⟨⟨_,rfl⟩,ss,by simpa using hp,(dD4 hS).s _⟩
  ·intro y1 y2 yv todo' w2 hp2 hy hS2 hen;have hlen:=hp.length_eq;have hlen2:=hp2.length_eq;simp only[jA,jM,jC]at hlen hlen2;have hp3:(ss++[(y1,y2)]++todo'.map (·.1)).Perm (l.map (·.1)):=by rw[jS];refine List.Perm.trans ?_ hp;exact List.Perm.append_left ss (show((((y1,y2),yv)::todo').map (fun x=>x.1)).Perm (todo.map (fun x=>x.1))from(hp2.map (fun x=>x.1)).symm)
   clear hS hy hp hp2;have hS:=hS2;clear hS2
   gi_wp2_with (first|((with_reducible apply Ft7 cb4 hS);rfl;rfl;exact zsS;clear hS;intro bK w hS;go_frame)|((with_reducible apply II7 cb4 hS);rfl;rfl;rfl;(focus((conv=>lhs;whnf);try rfl));kernel_rfl;rfl;exact cp4;simp only[jC,List.length_nil];omega;((simp only[List.set_cons_zero,List.set_cons_succ,A8]);rfl);clear hS;intro w hS;go_frame)|((with_reducible apply IH7 cb4 hS);rfl;rfl;rfl;decide +kernel;kernel_rfl;exact p9;go_frame)|((with_reducible apply Fu7 (k:=(y1,y2)) (pre:=ss) hY hS);rfl;rfl;rfl;rfl;omega;exact i8;clear hS;intro w hS;go_frame)|gi_in)
   go_roundw
   case rel=>exact⟨ss++[(y1,y2)],todo',hp3,hS.s _⟩
   case measure=>
    have hm2:=Ce7 (hS.s (itR eWh ev r b l todo'::X (ss++[(y1,y2)])::blk g [.map (some b)] 110::L));omega
theorem KO7(mb:Option Nat)(W w:World)(L:List HP)(hS:St W L w):
  Calls Tryz.prog 48 #[.map mb] w fun e w'=>∃g,e=.returned (.func (.func 90) #[] #[.P g])/\St W (blk g [.map mb] 110::L) w':=by
 go_enter Tryz.func48,Tryz.ntmps48;go_wp2_with(refine zbx hS ?_;clear hS;intro b w hS);go_ret;exact⟨b,rfl,hS⟩
theorem HX7:∀args w,(callFunc 90 args).run Tryz.prog w=.ok (.enter 90 args) w:=enters_of Tryz.func90 (by kernel_rfl) rfl
theorem IZ7{ν:Type}{ev:ν->Value}{g b:Nat}{l:List ((Int×Int)×ν)}{W:World}{R:List HP}:
  bz4 Tryz.prog eWh (l.map (·.1)).length 90 #[.P g] (fun ss=>ss.Perm (l.map (·.1))) W (blk g [.map (some b)] 110::d8 eWh ev b l::R):=
 fun lp m X w hT hS=>Oy7 (by rw[jM]at hT;exact hT) hS
theorem Oz7(wb:Nat)(d r:List Int)(a:Option Addr)(c b c2:Nat)(hd:d.length<=30000000)(hr:r.length<=5000000)(W w:World)(R:List HP)(hS:St W (wrR wb d::blk b [.slice a r.length c] 73::byR (.slice a r.length c) r::R) w):
  Calls Tryz.prog 42 #[.P wb,.S b 1 c2] w fun e w'=>e=.returned (.tuple #[])/\St W (wrR wb (d++E5 r)::blk b [.slice a r.length c] 73::byR (.slice a r.length c) r::R) w':=by
 have hsr:Src (byR (.slice a r.length c) r::R) (.slice a r.length c) r.length (u8s r):=St.src (by decide) hS.drop.drop
 have h:=IV7 wb d [(a,c,r)] b 0 c2 hd (by simp) (fun x hx=>by rw[List.mem_singleton.1 hx];exact hr) W w (blk b [.slice a r.length c] 73::byR (.slice a r.length c) r::R) (fun i hi=>by
  obtain rfl:i=0:=by simp at hi;omega
  exact i7.here rfl) (fun x hx=>by rw[List.mem_singleton.1 hx];exact hsr.there) hS
 have e:ar4 [(a,c,r)]=E5 r:=by unfold ar4;simp
 rw[e]at h;exact h
theorem OA7(wb:Nat)(d:List Int)(s:ByteArray)(g9 c9:Nat)(r:List Int)(a:Option Addr)(c b c2:Nat)(hd:d.length<=30000000)(hs:s.size<=100)(hr:r.length<=5000000)(W w:World)(R:List HP)(hS:St W (wrR wb d::blk b [.S g9 s.size c9,.slice a r.length c] 73::sbR g9 s::byR (.slice a r.length c) r::R) w):
  Calls Tryz.prog 42 #[.P wb,.S b 2 c2] w fun e w'=>e=.returned (.tuple #[])/\St W (wrR wb (d++(E5 (A7 s)++E5 r))::blk b [.S g9 s.size c9,.slice a r.length c] 73::sbR g9 s::byR (.slice a r.length c) r::R) w':=by
 have hsr:Src (byR (.slice a r.length c) r::R) (.slice a r.length c) r.length (u8s r):=St.src (by decide) hS.drop.drop.drop;have hss:∀L:List HP,Src (sbR g9 s::L) (rbV (some ⟨g9,0,none⟩,c9,A7 s)) (A7 s).length (u8s (A7 s)):=fun L=>Src.mk i6.sb
 have h:=IV7 wb d [(some ⟨g9,0,none⟩,c9,A7 s),(a,c,r)] b 0 c2 hd (by simp) (fun x hx=>by
  rcases List.mem_cons.1 hx with rfl|hx
  ·show(A7 s).length<=_;rw[AD7];omega
  ·rw[List.mem_singleton.1 hx];exact hr) W w (blk b [.S g9 s.size c9,.slice a r.length c] 73::sbR g9 s::byR (.slice a r.length c) r::R) (fun i hi=>by
  have h2:i=0\/i=1:=by simp at hi;omega
  rcases h2 with rfl|rfl
  ·show i7 _ b 0 (.S g9 (A7 s).length c9)
   rw[AD7];exact i7.here rfl
  ·exact i7.here rfl) (fun x hx=>by
  rcases List.mem_cons.1 hx with rfl|hx
  ·exact(hss _).there
  ·rw[List.mem_singleton.1 hx];exact hsr.there.there) hS
 have e:ar4 [(some ⟨g9,0,none⟩,c9,A7 s),(a,c,r)]=E5 (A7 s)++E5 r:=by unfold ar4;simp
 rw[e]at h;exact h
abbrev sbV(g:Nat)(s:ByteArray)(c:Nat):Value:=.S g s.size c
theorem OB7(wb:Nat)(d:List Int)(s1 s2 s3 s4:ByteArray)(g1 g2 g3 g4 c1 c2 c3 c4 b c:Nat)(hd:d.length<=30000000)(h1:s1.size<=100)(h2:s2.size<=100)(h3:s3.size<=100)(h4:s4.size<=100)(W w:World)(R:List HP)(hS:St W (wrR wb d::blk b [sbV g1 s1 c1,sbV g2 s2 c2,sbV g3 s3 c3,sbV g4 s4 c4] 73::sbR g1 s1::sbR g2 s2::sbR g3 s3::sbR g4 s4::R) w):
  Calls Tryz.prog 42 #[.P wb,.S b 4 c] w fun e w'=>e=.returned (.tuple #[])/\St W (wrR wb (d++(E5 (A7 s1)++(E5 (A7 s2)++(E5 (A7 s3)++E5 (A7 s4)))))::blk b [sbV g1 s1 c1,sbV g2 s2 c2,sbV g3 s3 c3,sbV g4 s4 c4] 73::sbR g1 s1::sbR g2 s2::sbR g3 s3::sbR g4 s4::R) w':=by
 have hss:∀(g c:Nat) (s:ByteArray) (L:List HP),Src (sbR g s::L) (rbV (some ⟨g,0,none⟩,c,A7 s)) (A7 s).length (u8s (A7 s)):=fun g c s L=>Src.mk i6.sb
 have h:=IV7 wb d [(some ⟨g1,0,none⟩,c1,A7 s1),(some ⟨g2,0,none⟩,c2,A7 s2),(some ⟨g3,0,none⟩,c3,A7 s3),(some ⟨g4,0,none⟩,c4,A7 s4)] b 0 c hd (by simp) (fun x hx=>by
  simp only[List.mem_cons,List.not_mem_nil,or_false]at hx
  rcases hx with rfl|rfl|rfl|rfl
  all_goals
   dsimp only;rw[AD7];omega) W w (blk b [sbV g1 s1 c1,sbV g2 s2 c2,sbV g3 s3 c3,sbV g4 s4 c4] 73::sbR g1 s1::sbR g2 s2::sbR g3 s3::sbR g4 s4::R) (fun i hi=>by
  have h2:i=0\/i=1\/i=2\/i=3:=by simp at hi;omega
  rcases h2 with rfl|rfl|rfl|rfl
  ·show i7 _ b 0 (.S g1 (A7 s1).length c1)
   rw[AD7];exact i7.here rfl
  ·show i7 _ b 1 (.S g2 (A7 s2).length c2)
   rw[AD7];exact i7.here rfl
  ·show i7 _ b 2 (.S g3 (A7 s3).length c3)
   rw[AD7];exact i7.here rfl
  ·show i7 _ b 3 (.S g4 (A7 s4).length c4)
   rw[AD7];exact i7.here rfl) (fun x hx=>by
  simp only[List.mem_cons,List.not_mem_nil,or_false]at hx
  rcases hx with rfl|rfl|rfl|rfl
  ·exact(hss _ _ _ _).there
  ·exact(hss _ _ _ _).there.there
  ·exact(hss _ _ _ _).there.there.there
  ·exact(hss _ _ _ _).there.there.there.there) hS
 have e:ar4 [(some ⟨g1,0,none⟩,c1,A7 s1),(some ⟨g2,0,none⟩,c2,A7 s2),(some ⟨g3,0,none⟩,c3,A7 s3),(some ⟨g4,0,none⟩,c4,A7 s4)]=E5 (A7 s1)++(E5 (A7 s2)++(E5 (A7 s3)++E5 (A7 s4))):=by unfold ar4;simp
 rw[e]at h;exact h
end Go.Proofs.YtienbkdjkjbelaaGreat
end
