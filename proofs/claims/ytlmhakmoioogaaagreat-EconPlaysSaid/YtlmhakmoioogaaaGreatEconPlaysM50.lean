/-
  What holds of an economy behind requests: keys, sessions, what is under way, what has arrived. The plain law: no program in sight.
  How long an economy's bytes are. The plain law: no program in sight.
  The keys of what has arrived, sorted; rows of bytes that the program's Writer lays. For all of them.
-/
import Derived.Test.YtlmhakmoioogaaaGreatEconPlaysM5
import Derived.Test.YtlmhakmoioogaaaGreatEconPlaysM32
import Derived.Test.YtlmhakmoioogaaaGreatEconPlaysM39
import Derived.Test.YtlmhakmoioogaaaGreatEconPlaysM48
import Derived.Test.YtlmhakmoioogaaaGreatEconPlaysM49
set_option maxHeartbeats 16000000
set_option maxRecDepth 100000
set_option linter.unusedSimpArgs false
set_option linter.unusedVariables false
section
namespace Go.Proofs.YtlmhakmoioogaaaGreat
open Go.RowKit Go.Sl
def whOk(x:Int×Int):Prop:=(1≤x.1∧x.1≤1048576)∧1≤x.2∧x.2≤1099511627776
structure TnOk(t:Tns):Prop where
 w:whOk (t.client,t.seq)
 ak:t.ak.size≤16
 aw:t.aw.size≤16
 tk:t.tk.size≤16
 tw:t.tw.size≤16
 i0:0≤t.item
 i1:t.item<4
 c0:1≤t.cnt
 c1:t.cnt≤1048576
structure EnOk(e:Ec)(n:Nat):Prop where
 ok:EOk e n
 vk:∀x∈e.vs,x.1.size≤16
 sw:∀x∈e.ss,whOk (x.1,x.2.1)
 sr:∀x∈e.ss,RpOk x.2.2
 tw:∀x∈e.ts,TnOk x.2∧x.1=(x.2.client,x.2.seq)
 aw:∀x∈e.ar,whOk x.1
 lv:e.vs.length≤n
 ls:e.ss.length≤n
 lt:e.ts.length≤n
 la:e.ar.length≤n
theorem enOk0:EnOk ec0 0:=⟨eOk0 0,fun _ h=>(by cases h),fun _ h=>(by cases h),fun _ h=>(by cases h),fun _ h=>(by cases h),fun _ h=>(by cases h),Nat.le_refl _,Nat.le_refl _,Nat.le_refl _,Nat.le_refl _⟩
theorem EnOk.on{e:Ec}{n:Nat}(h:EnOk e n):EnOk e (n+1):=⟨fun x hx=>(h.ok x hx).on,h.vk,h.sw,h.sr,h.tw,h.aw,Nat.le_succ_of_le h.lv,Nat.le_succ_of_le h.ls,Nat.le_succ_of_le h.lt,Nat.le_succ_of_le h.la⟩
theorem rpOk0:RpOk rp0:=⟨by decide,by decide,by decide,by decide,rfl⟩
theorem z00:(0:Int)≤0:=by decide
theorem z19:(0:Int)≤19:=by decide
theorem z40:(0:Int)≤1099511627776:=by decide
theorem Rh7{V:Vs}{o:Opn}(hp:PsOk V.ps)(hn:1≤V.n):RpOk (doV V o).1:=by
 unfold doV
 split
 ·have:putE V.ps o.aw (oneI o.item o.cnt)=0∨putE V.ps o.aw (oneI o.item o.cnt)=6∨putE V.ps o.aw (oneI o.item o.cnt)=1:=by
   unfold putE
   repeat' split
   all_goals simp
  exact⟨by show 0≤putE V.ps o.aw (oneI o.item o.cnt);omega,by show putE V.ps o.aw (oneI o.item o.cnt)≤19;omega,z00,z40,rfl⟩
 split
 ·have:takeE V.ps o.aw (oneI o.item o.cnt)=0∨takeE V.ps o.aw (oneI o.item o.cnt)=14∨takeE V.ps o.aw (oneI o.item o.cnt)=1:=by
   unfold takeE
   repeat' split
   all_goals simp
  exact⟨by show 0≤takeE V.ps o.aw (oneI o.item o.cnt);omega,by show takeE V.ps o.aw (oneI o.item o.cnt)≤19;omega,z00,z40,rfl⟩
 split
 ·have:((ordV V (ordOf o)).2.1=0∨(ordV V (ordOf o)).2.1=1∨(ordV V (ordOf o)).2.1=6∨(ordV V (ordOf o)).2.1=14)∧0≤(ordV V (ordOf o)).1∧(ordV V (ordOf o)).1≤1099511627776:=by
   unfold ordV
   split
   ·simp
   ·split
    ·simp
    ·rename_i h
     split
     ·refine⟨.inl rfl,by show 0≤V.n;omega,by show V.n≤1099511627776;omega⟩
     ·simp
  obtain⟨h1,h2,h3⟩:=this
  exact⟨by show 0≤(ordV V (ordOf o)).2.1;omega,by show(ordV V (ordOf o)).2.1≤19;omega,h2,h3,rfl⟩
 split
 ·have:(canV V o.aw o.id).1=0∨(canV V o.aw o.id).1=7:=by
   unfold canV
   split
   ·exact .inl rfl
   ·exact .inr rfl
  exact⟨by show 0≤(canV V o.aw o.id).1;omega,by show(canV V o.aw o.id).1≤19;omega,z00,z40,rfl⟩
 split
 ·exact⟨z00,z19,z00,z40,hp _⟩
 split
 ·exact rpOk0
 ·exact rpOk0
theorem KB7{u:ByteArray}(h:whoB u=true):u.size≤16:=FB7 h
theorem Iz7{o:Opn}(hm:mayO o=true):whOk (o.client,o.seq)∧o.ak.size≤16∧o.aw.size≤16:=by
 unfold mayO headB plcB at hm
 simp only[Bool.and_eq_true,decide_eq_true_eq]at hm
 obtain⟨⟨h1,h2,h3,h4,h5,h6⟩,_⟩:=hm
 exact⟨⟨⟨h1,h2⟩,h3,h4⟩,KB7 h5,KB7 h6⟩
theorem Jx7{o:Opn}(hm:mayO o=true)(hk:o.kind=2):TnOk (tnsOf o):=by
 obtain⟨h1,h2,h3⟩:=Iz7 hm
 have hc:=Gv7 hm (.inr (.inl hk))
 unfold mayO kindB at hm
 rw[if_neg (by omega),if_pos hk]at hm
 unfold sendsB plcB at hm
 simp only[Bool.and_eq_true,decide_eq_true_eq]at hm
 obtain⟨_,⟨h4,h5⟩,_⟩:=hm
 exact⟨h1,h2,h3,KB7 h4,KB7 h5,hc.1.1,by have:=hc.1.2;show o.item<4;omega,hc.2.1,hc.2.2.1⟩
theorem He7{κ ν:Type}[DecidableEq κ](l:List (κ×ν))(k:κ):(delL l k).length≤l.length:=List.length_filter_le _ _
theorem Dn7{κ ν:Type}[DecidableEq κ]{l:List (κ×ν)}{k:κ}{x:κ×ν}(h:x∈delL l k):x∈l:=(List.mem_filter.1 h).1
theorem EnOk.app{e:Ec}{n:Nat}(h:EnOk e n)(o:Opn)(hok:EOk (appE e o).2.2 (n+1)):EnOk (appE e o).2.2 (n+1):=by
 cases hp:peekE e o with
 | mk r b=>
 cases b with
 | true=>
  rw[Db7 hp]
  exact h.on
 | false=>
  obtain⟨rfl,hm⟩:=BB7 hp
  rw[Dc7 hp]at hok ⊢
  dsimp only at hok ⊢
  obtain⟨hw,hak,haw⟩:=Iz7 hm
  have hV:PsOk (atV e o.ak).ps∧1≤(atV e o.ak).n:=by
   unfold atV
   cases hg:getL e.vs o.ak with
   | none=>exact⟨EN7,by decide⟩
   | some V=>exact⟨(h.ok _ (AK7 hg)).ok,(h.ok _ (AK7 hg)).n0⟩
  have hrp:=Rh7 (o:=o) hV.1 hV.2
  have hlv:=h.lv
  have hls:=h.ls
  have hlt:=h.lt
  have hla:=h.la
  refine⟨hok,?_,?_,?_,?_,?_,?_,?_,?_,?_⟩
  ·intro x hx
   have hx2:x∈(if noneV (doV (atV e o.ak) o).2=true then delL e.vs o.ak else(o.ak,(doV (atV e o.ak) o).2)::delL e.vs o.ak):=hx
   split at hx2
   ·exact h.vk x (Dn7 hx2)
   ·rcases List.mem_cons.1 hx2 with rfl|hx2
    ·exact hak
    ·exact h.vk x (Dn7 hx2)
  ·intro x hx
   have hx2:x∈doS e o (doV (atV e o.ak) o).1:=hx
   unfold doS at hx2
   split at hx2
   ·exact h.sw x hx2
   ·rcases List.mem_cons.1 hx2 with rfl|hx2
    ·exact hw
    ·exact h.sw x (Dn7 hx2)
  ·intro x hx
   have hx2:x∈doS e o (doV (atV e o.ak) o).1:=hx
   unfold doS at hx2
   split at hx2
   ·exact h.sr x hx2
   ·rcases List.mem_cons.1 hx2 with rfl|hx2
    ·exact hrp
    ·exact h.sr x (Dn7 hx2)
  ·intro x hx
   have hx2:x∈doT e o (doV (atV e o.ak) o).1:=hx
   unfold doT at hx2
   split at hx2
   ·rename_i h2
    rcases List.mem_cons.1 hx2 with rfl|hx2
    ·exact⟨Jx7 hm h2.1,rfl⟩
    ·exact h.tw x (Dn7 hx2)
   ·split at hx2
    ·exact h.tw x (Dn7 hx2)
    ·exact h.tw x hx2
  ·intro x hx
   have hx2:x∈doA e o:=hx
   unfold doA at hx2
   split at hx2
   ·rcases List.mem_cons.1 hx2 with rfl|hx2
    ·exact hw
    ·exact h.aw x (Dn7 hx2)
   ·exact h.aw x hx2
  ·show(if noneV (doV (atV e o.ak) o).2=true then delL e.vs o.ak else(o.ak,(doV (atV e o.ak) o).2)::delL e.vs o.ak).length≤n+1
   have:=He7 e.vs o.ak
   split
   ·omega
   ·rw[List.length_cons];omega
  ·show(doS e o (doV (atV e o.ak) o).1).length≤n+1
   have:=He7 e.ss o.client
   unfold doS
   split
   ·omega
   ·rw[List.length_cons];omega
  ·show(doT e o (doV (atV e o.ak) o).1).length≤n+1
   have:=He7 e.ts (o.client,o.seq)
   unfold doT
   split
   ·rw[List.length_cons];omega
   ·split <;> omega
  ·show(doA e o).length≤n+1
   have:=He7 e.ar (o.client,o.seq)
   unfold doA
   split
   ·rw[List.length_cons];omega
   ·omega
def sumL:List (ByteArray×Vs)→Nat
 | []=>0
 | x::l=>x.2.ps.length+sumL l
theorem IA7{l l':List (ByteArray×Vs)}(h:l.Perm l'):sumL l=sumL l':=by
 induction h with
 | nil=>rfl
 | cons x _ ih=>rw[sumL,sumL,ih]
 | swap x y l=>rw[sumL,sumL,sumL,sumL];omega
 | trans _ _ h1 h2=>rw[h1,h2]
theorem OK7{l:List (ByteArray×Vs)}(hn:(l.map (·.1)).Nodup)(u:ByteArray):sumL l=((getL l u).getD vs0).ps.length+sumL (delL l u):=by
 cases hg:getL l u with
 | none=>rw[BG7 (BH7 hg)];show _=0+_;omega
 | some V=>rw[IA7 (Bl7 hn hg)];rfl
theorem OL7{p:Ps}{N:Nat}(h:PsW p N):PsW p p.length:=⟨h.nd,h.nz,h.who,Nat.le_refl _⟩
theorem No7{V:Vs}{i:Nat}{o:Opn}(h:VOk V.ps V.n i)(hL:∀x∈V.L,MayP x)(hl:V.L.length≤32):(doV V o).2.ps.length≤V.ps.length+100:=by
 have hw:=OL7 h.w
 unfold doV
 split
 ·have:=(IY7 hw o.aw (oneI o.item o.cnt)).len
  show(putP V.ps o.aw (oneI o.item o.cnt)).length≤_
  omega
 split
 ·have:=(ER7 hw o.aw (oneI o.item o.cnt)).len
  show(takeP V.ps o.aw (oneI o.item o.cnt)).length≤_
  omega
 split
 ·exact(Pg7 (o:=ordOf o) hw hL hl).len
 split
 ·exact(Ph7 (who:=o.aw) (id:=o.id) hw hL).len
 split
 ·show V.ps.length≤_
  omega
 split
 ·have:=(IY7 hw o.aw (oneI o.item o.cnt)).len
  show(putP V.ps o.aw (oneI o.item o.cnt)).length≤_
  omega
 ·show V.ps.length≤_
  omega
structure EnL(e:Ec)(n:Nat):Prop where
 en:EnOk e n
 nd:(e.vs.map (·.1)).Nodup
 ln:sumL e.vs≤100*n
theorem enL0:EnL ec0 0:=⟨enOk0,List.nodup_nil,Nat.le_refl _⟩
theorem Np7{e:Ec}(hn:(e.vs.map (·.1)).Nodup)(k:ByteArray)(V:Vs):((setV e k V).vs.map (·.1)).Nodup:=by
 show((if noneV V=true then delL e.vs k else(k,V)::delL e.vs k).map (·.1)).Nodup
 have h1:((delL e.vs k).map (·.1)).Nodup:=hn.sublist (List.filter_sublist.map _)
 split
 ·exact h1
 ·rw[List.map_cons,List.nodup_cons]
  refine⟨fun h=>?_,h1⟩
  obtain⟨x,hx,hk⟩:=List.mem_map.1 h
  have:=(List.mem_filter.1 hx).2
  simp only[ne_eq,decide_not,Bool.not_eq_eq_eq_not,Bool.not_true,decide_eq_false_iff_not]at this
  exact this hk
theorem EnL.app{e:Ec}{n:Nat}(h:EnL e n)(he:EachV e)(o:Opn)(hok:EOk (appE e o).2.2 (n+1)):EnL (appE e o).2.2 (n+1):=by
 refine⟨h.en.app o hok,?_,?_⟩
 ·cases hp:peekE e o with
  | mk r b=>
  cases b with
  | true=>rw[Db7 hp];exact h.nd
  | false=>
   obtain⟨rfl,hm⟩:=BB7 hp
   rw[Dc7 hp]
   exact Np7 h.nd _ _
 ·cases hp:peekE e o with
  | mk r b=>
  cases b with
  | true=>rw[Db7 hp];have:=h.ln;show sumL e.vs≤_;omega
  | false=>
   obtain⟨rfl,hm⟩:=BB7 hp
   rw[Dc7 hp]
   show sumL (if noneV (doV (atV e o.ak) o).2=true then delL e.vs o.ak else(o.ak,(doV (atV e o.ak) o).2)::delL e.vs o.ak)≤_
   have h1:=OK7 h.nd o.ak
   have h2:=h.ln
   have h3:(doV (atV e o.ak) o).2.ps.length≤(atV e o.ak).ps.length+100:=by
    unfold atV
    cases hg:getL e.vs o.ak with
    | none=>exact No7 (i:=0) (V:=vs0) vOk0 (fun x hx=>(by cases hx)) (Nat.zero_le _)
    | some V=>
     have hm:=AK7 hg
     exact No7 (h.en.ok _ hm) (he _ hm).1 (he _ hm).2
   unfold atV at h3 ⊢
   split
   ·omega
   ·show(doV ((getL e.vs o.ak).getD vs0) o).2.ps.length+sumL (delL e.vs o.ak)≤_
    omega
theorem Nq7{p:Ps}{L:List Ord}{n:Int}{N:Nat}(hw:PsW p N)(hL:∀x∈L,MayP x)(hl:L.length≤32):(encV p L n).length≤70*p.length+2300:=by
 have h1:=Am7 ((hdL p).length:Int)
 have h2:=Am7 (L.length:Int)
 have h3:=Am7 n
 have h4:=Bw7 encH (hdL p) fun x hx=>DM7 x (by
  have hk:x.who∈(hdL p).map Hd.who:=List.mem_map_of_mem hx
  rw[FE7]at hk
  obtain⟨y,hy,e⟩:=Kg7 hk
  rw[←e]
  exact FB7 (hw.who y hy))
 have h5:=Bw7 encO L fun x hx=>DN7 x (hL x hx).who1
 have h6:=Ce7 p
 unfold encV
 rw[List.length_append,List.length_append,List.length_append,List.length_append]
 omega
def enK(e:Ec)(k:ByteArray):List Int:=encR (strI k)++encR (encV (atV e k).ps (atV e k).L (atV e k).n)
theorem Ri7{e:Ec}{n:Nat}(h:EnL e n)(he:EachV e){x:ByteArray×Vs}(hx:x∈e.vs):(enK e x.1).length≤70*x.2.ps.length+2400:=by
 have hg:getL e.vs x.1=some x.2:=Bh7 h.nd hx
 have ha:atV e x.1=x.2:=by unfold atV;rw[hg];rfl
 have h1:=Nq7 (n:=x.2.n) (h.en.ok x hx).w (he x hx).1 (he x hx).2
 have h2:=AS7 (strI x.1)
 have h3:=AS7 (encV x.2.ps x.2.L x.2.n)
 have h4:=h.en.vk x hx
 rw[AE7]at h2
 unfold enK
 rw[ha,List.length_append]
 omega
theorem Hf7{e:Ec}{n:Nat}(h:EnL e n)(he:EachV e):∀l:List (ByteArray×Vs),(∀x∈l,x∈e.vs)→((l.map (·.1)).flatMap (enK e)).length≤70*sumL l+2400*l.length
 | [],_=>by simp
 | x::l,hl=>by
  have h1:=Hf7 h he l fun y hy=>hl y (List.mem_cons_of_mem _ hy)
  have h2:=Ri7 h he (hl x (List.mem_cons_self ..))
  rw[List.map_cons,List.flatMap_cons,List.length_append,sumL,List.length_cons]
  omega
theorem Ea7{α:Type}(f:α→List Int)(xs:List α)(k:Nat):((xs.take k).flatMap f).length≤(xs.flatMap f).length:=by
 have e:xs.flatMap f=(xs.take k).flatMap f++(xs.drop k).flatMap f:=by rw[←List.flatMap_append,List.take_append_drop]
 rw[e,List.length_append]
 omega
theorem Qx7{e:Ec}{n:Nat}(h:EnL e n)(he:EachV e)(hn:n≤600):((ksE e).flatMap (enK e)).length≤6000000:=by
 have h1:=Hf7 h he e.vs fun x hx=>hx
 have h2:((ksE e).flatMap (enK e)).length=((e.vs.map (·.1)).flatMap (enK e)).length:=((Au7 _).flatMap_right _).length_eq
 have h3:=h.ln
 have h4:=h.en.lv
 omega
theorem OM7{ν:Type}{ev:ν→Value}{m lp g b:Nat}{l:List ((Int×Int)×ν)}{X:List (Int×Int)→HP}{W w:World}{L:List HP}(hY:Takes Tryz.prog eWh l.length lp W X)(hS:St W (X []::blk g [.map (some b)] 82::amap eWh ev b l::L) w):
  CallsIn Fence.wide m Tryz.prog 137 #[.func (.yield lp) #[] #[],.pointer (some ⟨g,0,none⟩)] w fun e w'=>(∃v,e=.returned v)∧∃ss,ss.Perm (l.map (·.1))∧St W (X ss::blk g [.map (some b)] 82::amap eWh ev b l::L) w':=by
 refine callsIn_of_wp Tryz.func137 rfl trivial ?_ rfl
 simp only[Tryz.ntmps137,List.size_toArray,List.length_cons,List.length_nil,Nat.reduceAdd,Nat.reduceSub,Array.replicate_succ,Array.replicate_zero,List.push_toArray,List.append_toArray,List.nil_append,List.cons_append]
 gi_wp2_with (first|((with_reducible apply Dj7 allF hS);(with_reducible rfl);rfl;rfl;decide +kernel;(exact celS);go_frame)|(gi_at_range;refine Eu7 (ek:=eWh) (ev:=ev) hS rfl rfl rfl (show tyMap Tryz.prog 82=some (94,4)by kernel_rfl) (by exact takeS) ?_;clear hS;intro r w hS;go_frame)|gi_in)
 gi_loopw [] (fun wr=>KyR W ev X r b l (blk g [.map (some b)] 82::L) wr) (fun wr=>itLeft r b wr)
 case atStart=>exact⟨[],l,by simp,hS⟩
 case round=>
  clear hS
  obtain⟨ss,todo,hp,hS⟩:=hrel
  have hm:=Bp7 hS
  gi_wp2_with (first|(gi_at_next;refine FL7 (ek:=eWh) (ev:=ev) hS rfl rfl rfl ?_ ?_)|gi_in)
  ·intro h0
   subst h0
   gi_wp2
   go_end0
   exact⟨⟨_,rfl⟩,ss,by simpa using hp,(itEnd hS).s _⟩
  ·intro y1 y2 yv todo' w2 hp2 hy hS2 hen
   have hlen:=hp.length_eq
   have hlen2:=hp2.length_eq
   simp only[List.length_append,List.length_map,List.length_cons]at hlen hlen2
   have hp3:(ss++[(y1,y2)]++todo'.map (·.1)).Perm (l.map (·.1)):=by
    rw[List.append_assoc]
    refine List.Perm.trans ?_ hp
    exact List.Perm.append_left ss (show((((y1,y2),yv)::todo').map (fun x=>x.1)).Perm (todo.map (fun x=>x.1))from(hp2.map (fun x=>x.1)).symm)
   clear hS hy hp hp2
   have hS:=hS2
   clear hS2
   gi_wp2_with (first|((with_reducible apply FN7 allF hS);(with_reducible rfl);rfl;(exact zsS);clear hS;intro bK w hS;go_frame)|((with_reducible apply Jn7 allF hS);(with_reducible rfl);rfl;rfl;(focus((conv=>lhs;whnf);try rfl));kernel_rfl;rfl;(exact updS);(simp only[List.length_cons,List.length_nil];omega);((simp only[List.set_cons_zero,List.set_cons_succ,setAll]);rfl);clear hS;intro w hS;go_frame)|((with_reducible apply Jm7 allF hS);(with_reducible rfl);rfl;rfl;decide +kernel;kernel_rfl;(exact cesS);go_frame)|((with_reducible apply FO7 (k:=(y1,y2)) (pre:=ss) hY hS);(with_reducible rfl);rfl;rfl;rfl;omega;(exact takeS);clear hS;intro w hS;go_frame)|gi_in)
   go_roundw
   case rel=>exact⟨ss++[(y1,y2)],todo',hp3,hS.s _⟩
   case measure=>
    have hm2:=Bp7 (hS.s (itR eWh ev r b l todo'::X (ss++[(y1,y2)])::blk g [.map (some b)] 82::L))
    omega
theorem Ls7(mb:Option Nat)(W w:World)(L:List HP)(hS:St W L w):
  Calls Tryz.prog 71 #[.map mb] w fun e w'=>∃g,e=.returned (.func (.func 137) #[] #[.pointer (some ⟨g,0,none⟩)])∧St W (blk g [.map mb] 82::L) w':=by
 go_enter Tryz.func71,Tryz.ntmps71
 go_wp2_with(refine zbx hS ?_;clear hS;intro b w hS)
 go_ret
 exact⟨b,rfl,hS⟩
theorem IB7:∀args w,(callFunc 137 args).run Tryz.prog w=.ok (.enter 137 args) w:=enters_of Tryz.func137 (by kernel_rfl) rfl
theorem Jy7{ν:Type}{ev:ν→Value}{g b:Nat}{l:List ((Int×Int)×ν)}{W:World}{R:List HP}:
  Gives Tryz.prog eWh (l.map (·.1)).length 137 #[.pointer (some ⟨g,0,none⟩)] (fun ss=>ss.Perm (l.map (·.1))) W (blk g [.map (some b)] 82::amap eWh ev b l::R):=
 fun lp m X w hT hS=>OM7 (by rw[List.length_map]at hT;exact hT) hS
theorem ON7(wb:Nat)(d r:List Int)(a:Option Addr)(c b c2:Nat)(hd:d.length≤30000000)(hr:r.length≤5000000)(W w:World)(R:List HP)(hS:St W (wrR wb d::blk b [.slice a r.length c] 63::byR (.slice a r.length c) r::R) w):
  Calls Tryz.prog 66 #[.pointer (some ⟨wb,0,none⟩),.slice (some ⟨b,0,none⟩) 1 c2] w fun e w'=>e=.returned (.tuple #[])∧St W (wrR wb (d++encR r)::blk b [.slice a r.length c] 63::byR (.slice a r.length c) r::R) w':=by
 have hsr:Src (byR (.slice a r.length c) r::R) (.slice a r.length c) r.length (u8s r):=St.src (by decide) hS.drop.drop
 have h:=Jg7 wb d [(a,c,r)] b 0 c2 hd (by simp) (fun x hx=>by rw[List.mem_singleton.1 hx];exact hr) W w (blk b [.slice a r.length c] 63::byR (.slice a r.length c) r::R) (fun i hi=>by
  obtain rfl:i=0:=by simp at hi;omega
  exact Cell.here rfl) (fun x hx=>by rw[List.mem_singleton.1 hx];exact hsr.there) hS
 have e:encRs [(a,c,r)]=encR r:=by unfold encRs;simp
 rw[e]at h
 exact h
theorem OO7(wb:Nat)(d:List Int)(s:ByteArray)(g9 c9:Nat)(r:List Int)(a:Option Addr)(c b c2:Nat)(hd:d.length≤30000000)(hs:s.size≤100)(hr:r.length≤5000000)(W w:World)(R:List HP)(hS:St W (wrR wb d::blk b [.slice (some ⟨g9,0,none⟩) s.size c9,.slice a r.length c] 63::sbR g9 s::byR (.slice a r.length c) r::R) w):
  Calls Tryz.prog 66 #[.pointer (some ⟨wb,0,none⟩),.slice (some ⟨b,0,none⟩) 2 c2] w fun e w'=>e=.returned (.tuple #[])∧St W (wrR wb (d++(encR (strI s)++encR r))::blk b [.slice (some ⟨g9,0,none⟩) s.size c9,.slice a r.length c] 63::sbR g9 s::byR (.slice a r.length c) r::R) w':=by
 have hsr:Src (byR (.slice a r.length c) r::R) (.slice a r.length c) r.length (u8s r):=St.src (by decide) hS.drop.drop.drop
 have hss:∀L:List HP,Src (sbR g9 s::L) (rbV (some ⟨g9,0,none⟩,c9,strI s)) (strI s).length (u8s (strI s)):=fun L=>Src.mk Cells.sb
 have h:=Jg7 wb d [(some ⟨g9,0,none⟩,c9,strI s),(a,c,r)] b 0 c2 hd (by simp) (fun x hx=>by
  rcases List.mem_cons.1 hx with rfl|hx
  ·show(strI s).length≤_;rw[AE7];omega
  ·rw[List.mem_singleton.1 hx];exact hr) W w (blk b [.slice (some ⟨g9,0,none⟩) s.size c9,.slice a r.length c] 63::sbR g9 s::byR (.slice a r.length c) r::R) (fun i hi=>by
  have h2:i=0∨i=1:=by simp at hi;omega
  rcases h2 with rfl|rfl
  ·show Cell _ b 0 (.slice (some ⟨g9,0,none⟩) (strI s).length c9)
   rw[AE7]
   exact Cell.here rfl
  ·exact Cell.here rfl) (fun x hx=>by
  rcases List.mem_cons.1 hx with rfl|hx
  ·exact(hss _).there
  ·rw[List.mem_singleton.1 hx];exact hsr.there.there) hS
 have e:encRs [(some ⟨g9,0,none⟩,c9,strI s),(a,c,r)]=encR (strI s)++encR r:=by unfold encRs;simp
 rw[e]at h
 exact h
abbrev sbV(g:Nat)(s:ByteArray)(c:Nat):Value:=.slice (some ⟨g,0,none⟩) s.size c
theorem OP7(wb:Nat)(d:List Int)(s1 s2 s3 s4:ByteArray)(g1 g2 g3 g4 c1 c2 c3 c4 b c:Nat)(hd:d.length≤30000000)(h1:s1.size≤100)(h2:s2.size≤100)(h3:s3.size≤100)(h4:s4.size≤100)(W w:World)(R:List HP)(hS:St W (wrR wb d::blk b [sbV g1 s1 c1,sbV g2 s2 c2,sbV g3 s3 c3,sbV g4 s4 c4] 63::sbR g1 s1::sbR g2 s2::sbR g3 s3::sbR g4 s4::R) w):
  Calls Tryz.prog 66 #[.pointer (some ⟨wb,0,none⟩),.slice (some ⟨b,0,none⟩) 4 c] w fun e w'=>e=.returned (.tuple #[])∧St W (wrR wb (d++(encR (strI s1)++(encR (strI s2)++(encR (strI s3)++encR (strI s4)))))::blk b [sbV g1 s1 c1,sbV g2 s2 c2,sbV g3 s3 c3,sbV g4 s4 c4] 63::sbR g1 s1::sbR g2 s2::sbR g3 s3::sbR g4 s4::R) w':=by
 have hss:∀(g c:Nat) (s:ByteArray) (L:List HP),Src (sbR g s::L) (rbV (some ⟨g,0,none⟩,c,strI s)) (strI s).length (u8s (strI s)):=fun g c s L=>Src.mk Cells.sb
 have h:=Jg7 wb d [(some ⟨g1,0,none⟩,c1,strI s1),(some ⟨g2,0,none⟩,c2,strI s2),(some ⟨g3,0,none⟩,c3,strI s3),(some ⟨g4,0,none⟩,c4,strI s4)] b 0 c hd (by simp) (fun x hx=>by
  simp only[List.mem_cons,List.not_mem_nil,or_false]at hx
  rcases hx with rfl|rfl|rfl|rfl
  all_goals
   dsimp only
   rw[AE7]
   omega) W w (blk b [sbV g1 s1 c1,sbV g2 s2 c2,sbV g3 s3 c3,sbV g4 s4 c4] 63::sbR g1 s1::sbR g2 s2::sbR g3 s3::sbR g4 s4::R) (fun i hi=>by
  have h2:i=0∨i=1∨i=2∨i=3:=by simp at hi;omega
  rcases h2 with rfl|rfl|rfl|rfl
  ·show Cell _ b 0 (.slice (some ⟨g1,0,none⟩) (strI s1).length c1)
   rw[AE7]
   exact Cell.here rfl
  ·show Cell _ b 1 (.slice (some ⟨g2,0,none⟩) (strI s2).length c2)
   rw[AE7]
   exact Cell.here rfl
  ·show Cell _ b 2 (.slice (some ⟨g3,0,none⟩) (strI s3).length c3)
   rw[AE7]
   exact Cell.here rfl
  ·show Cell _ b 3 (.slice (some ⟨g4,0,none⟩) (strI s4).length c4)
   rw[AE7]
   exact Cell.here rfl) (fun x hx=>by
  simp only[List.mem_cons,List.not_mem_nil,or_false]at hx
  rcases hx with rfl|rfl|rfl|rfl
  ·exact(hss _ _ _ _).there
  ·exact(hss _ _ _ _).there.there
  ·exact(hss _ _ _ _).there.there.there
  ·exact(hss _ _ _ _).there.there.there.there) hS
 have e:encRs [(some ⟨g1,0,none⟩,c1,strI s1),(some ⟨g2,0,none⟩,c2,strI s2),(some ⟨g3,0,none⟩,c3,strI s3),(some ⟨g4,0,none⟩,c4,strI s4)]=encR (strI s1)++(encR (strI s2)++(encR (strI s3)++encR (strI s4))):=by unfold encRs;simp
 rw[e]at h
 exact h
end Go.Proofs.YtlmhakmoioogaaaGreat
end
