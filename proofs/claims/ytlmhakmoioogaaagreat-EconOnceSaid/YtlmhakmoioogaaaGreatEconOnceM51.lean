/-
  played; what was asked once is known. For every row of requests.
  The vault's Total in all cases. For every vault.
  Are the program's vault and the document's alike? They are, when they hold the same. For every vault.
  EconOnce: the walk. For every row of requests, every row of numbers.
  What a law's walk gives its row: true came back, and what was there before the call is as it was: so the arguments read as they did. For every law that writes only what it made itself.
-/
import Derived.Test.YtlmhakmoioogaaaGreatEconOnceM1
import Derived.Test.YtlmhakmoioogaaaGreatEconOnceM5
import Derived.Test.YtlmhakmoioogaaaGreatEconOnceM15
import Derived.Test.YtlmhakmoioogaaaGreatEconOnceM46
import Derived.Test.YtlmhakmoioogaaaGreatEconOnceM47
import Derived.Test.YtlmhakmoioogaaaGreatEconOnceM48
import Derived.Test.YtlmhakmoioogaaaGreatEconOnceM50
import Derived.Laws.BytesString
import Derived.WalkKit
import Derived.ProofKit
import Derived.OpenShut
import Derived.ChangeSame
import Derived.ReadAgain
set_option maxHeartbeats 16000000
set_option maxRecDepth 100000
set_option linter.unusedSimpArgs false
set_option linter.unusedVariables false
section
namespace Go.Proofs.YtlmhakmoioogaaaGreat
open Go.RowKit Go.Sl
def SeenO (e : Ec) (o : Opn) : Prop := mayO o = false ∨ ∃ q r,getL e.ss o.client = some (q,r) ∧ o.seq ≤ q
theorem Mg7 {e : Ec} {o : Opn} (h : SeenO e o) (h6 : o.kind ≠ 6) (h7 : o.kind ≠ 7) : (peekE e o).2 = true := by
 unfold peekE
 rcases h with h|⟨q,r,h,hq⟩
 ·rw [if_pos h]
 ·split
  ·rfl
  ·first|rw [if_neg h6,if_neg h7,h]|rw [h]
   simp only
   by_cases h1 : o.seq < q
   ·rw [if_pos h1]
   ·rw [if_neg h1,if_pos (by omega)]
theorem Mh7 {e : Ec} {o : Opn} (h : (peekE e o).2 = true) (h6 : o.kind ≠ 6) (h7 : o.kind ≠ 7) : SeenO e o := by
 unfold peekE at h
 split at h
 ·rename_i hm
  exact .inl hm
 ·try rw [if_neg h6,if_neg h7] at h
  cases hg : getL e.ss o.client with
  | none => rw [hg] at h;cases h
  | some x =>
   obtain ⟨q,r⟩ := x
   rw [hg] at h
   simp only at h
   refine .inr ⟨q,r,hg,?_⟩
   by_cases h1 : o.seq < q
   ·omega
   ·rw [if_neg h1] at h
    by_cases h2 : o.seq = q
    ·omega
    ·rw [if_neg h2] at h;cases h
theorem Gp7 (e : Ec) (o : Opn) (r : Rpl) (c : Int) : getL (doS e o r) c = if o.kind = 6 ∨ o.kind = 7 then getL e.ss c else if o.client = c then some (o.seq,r) else getL e.ss c := by
 unfold doS
 split
 ·rfl
 ·rw [Jc7]
theorem Nz7 (e : Ec) (o : Opn) (h6 : o.kind ≠ 6) (h7 : o.kind ≠ 7) : SeenO (appE e o).2.2 o := by
 cases hp : peekE e o with
 | mk r b =>
 cases b with
 | true =>
  rw [Cj7 hp]
  exact Mh7 (by rw [hp]) h6 h7
 | false =>
  obtain ⟨rfl,hm⟩ := Bo7 hp
  rw [Ck7 hp]
  refine .inr ⟨o.seq,(doV (atV e o.ak) o).1,?_,Int.le_refl _⟩
  show getL (doS e o _) o.client = _
  rw [Gp7,if_neg (by omega),if_pos rfl]
theorem OZ7 {e : Ec} {o : Opn} (h : SeenO e o) (p : Opn) : SeenO (appE e p).2.2 o := by
 cases hp : peekE e p with
 | mk r b =>
 cases b with
 | true => rw [Cj7 hp];exact h
 | false =>
  obtain ⟨rfl,hm⟩ := Bo7 hp
  rw [Ck7 hp]
  rcases h with h|⟨q,r,hg,hq⟩
  ·exact .inl h
  ·by_cases hk : p.kind = 6 ∨ p.kind = 7
   ·refine .inr ⟨q,r,?_,hq⟩
    show getL (doS e p _) o.client = _
    rw [Gp7,if_pos hk,hg]
   ·by_cases hc : p.client = o.client
    ·refine .inr ⟨p.seq,(doV (atV e p.ak) p).1,?_,?_⟩
     ·show getL (doS e p _) o.client = _
      rw [Gp7,if_neg hk,if_pos hc]
     ·unfold peekE at hp
      rw [if_neg (by rw [hm];exact Bool.noConfusion),if_neg (by omega),if_neg (by omega),hc,hg] at hp
      simp only at hp
      by_cases h1 : p.seq < q
      ·rw [if_pos h1] at hp;cases hp
      ·omega
    ·refine .inr ⟨q,r,?_,hq⟩
     show getL (doS e p _) o.client = _
     rw [Gp7,if_neg hk,if_neg hc,hg]
theorem Ju7 : ∀ (l : List Opn) {e : Ec} {o : Opn},SeenO e o → SeenO (runE l e) o
 | [],_,_,h => h
 | p :: l,e,o,h => Ju7 l (OZ7 h p)
theorem Jv7 : ∀ (l : List Opn) (e : Ec), ∀ o ∈ l,o.kind ≠ 6 → o.kind ≠ 7 → SeenO (runE l e) o
 | [],_,_,h,_,_ => by cases h
 | p :: l,e,o,h,h6,h7 => by
  rcases List.mem_cons.1 h with rfl|h
  ·exact Ju7 l (Nz7 e o h6 h7)
  ·exact Jv7 l _ o h h6 h7
theorem Km7 {l : List Opn} {o : Opn} (h : o ∈ l) (h6 : o.kind ≠ 6) (h7 : o.kind ≠ 7) : ∃ r,appE (runE l ec0) o = (r,false,runE l ec0) := by
 have h1 := Mg7 (Jv7 l ec0 o h h6 h7) h6 h7
 exact ⟨(peekE (runE l ec0) o).1,Cj7 (Prod.ext rfl h1)⟩
theorem and16 (n : Int) : bits .and .i64 n 65535 = n % 65536 := by
 have h7 : (BitVec.ofInt 64 65535).toNat = 2 ^ 16 - 1 := by decide
 have key : (BitVec.ofInt 64 n &&& BitVec.ofInt 64 65535).toNat = (n % ((2 ^ 64 : Nat) : Int)).toNat % 2 ^ 16 := by
  rw [BitVec.toNat_and,BitVec.toNat_ofInt,h7,Nat.and_two_pow_sub_one_eq_mod]
 show IntKind.i64.wrap ((BitVec.ofInt 64 n &&& BitVec.ofInt 64 65535).toNat : Nat) = n % 65536
 rw [key,IntKind.wrap_i64]
 omega
theorem NA7 : KeepE EnL := fun _ _ o h he hok => h.app he o hok
theorem Iy7 (xs : List Opn) (hlen : xs.length ≤ 150) (v : Value) (V : World) (hv : SliceV Opn.cells 12 V v xs) (W w : World) (Lr : List HP) (hS : St W (Old V :: Lr) w) :
  Calls Tryz.prog 23 #[v] w fun r w' => ∃ eb xb,r = .returned (.tuple #[.pointer (some ⟨eb,0,none⟩),.pointer (some ⟨xb,0,none⟩),.bool true]) ∧ GOk (runD xs ec0) (runE xs ec0) xs.length ∧ EnL (runE xs ec0) xs.length ∧ St W (ecP eb (runE xs ec0) :: xecP xb (runD xs ec0) :: Old V :: Lr) w' := by
 have Hv := Lib.hid hv
 clear hv
 go_enter Tryz.func23,Tryz.ntmps23
 go_wp2_with (first|go_big_skip|(go_at_call 15;refine (Hg7 W _ _ hS).mono ?_;clear hS;rintro e w ⟨eb,rfl,hS⟩)|(refine zbx hS ?_;clear hS;intro xb w hS)|(go_at_call 32;(have hS1 := xec0 (hS.sel (L' := xeB xb (.slice none 0 0) (.slice none 0 0) (.slice none 0 0) (.slice none 0 0) :: ecP eb ec0 :: Old V :: Lr) (by exact selS)));clear hS;refine (LS7 xs hlen _ V Hv.out (n := 0) (by decide) gOk0 NA7 enL0 eb xb W _ _ (hS1.sel (L' := ecP eb ec0 :: xecP xb ec0 :: Old V :: Lr) (by exact selS))).mono ?_;clear hS1;rintro e w ⟨rfl,hG,hN,hS⟩;have HG := Lib.hid hG;have HN := Lib.hid hN;clear hG hN))
 go_ret3
 exact ⟨eb,xb,rfl,by have := HG.out;rwa [Nat.zero_add] at this,by have := HN.out;rwa [Nat.zero_add] at this,hS⟩
end Go.Proofs.YtlmhakmoioogaaaGreat
end
section
namespace Go.Sl
open Go.RowKit
structure Same (L L' : List HP) : Prop where
 to : ∀ {f : Frag},sats L f → sats L' f
 back : ∀ {f : Frag},sats L' f → sats L f
theorem Same.refl {L : List HP} : Same L L := ⟨fun h => h,fun h => h⟩
theorem Same.of {A : HP} {L R R' : List HP} (h : Take L A R) (h2 : Same R R') : Same L (A :: R') :=
 ⟨fun hs => AL7 (fun _ x => x) (fun _ x => h2.to x) (h.sats hs),fun hs => h.back (AL7 (fun _ x => x) (fun _ x => h2.back x) hs)⟩
theorem Same.st {W w : World} {L L' : List HP} (h : Same L L') (hS : St W L w) : St W L' w := ⟨hS.os,hS.tape,hS.output,h.to hS.sat⟩
theorem Same.ts {W w : World} {L L' : List HP} {X : HP} (h : Same L L') (hS : St W (X :: L') w) : St W (X :: L) w := ⟨hS.os,hS.tape,hS.output,AL7 (fun _ x => x) (fun _ x => h.back x) hS.sat⟩
def bstr (ns : List Int) : ByteArray := ns.foldl (fun r n => r.push (UInt8.ofNat n.toNat)) ByteArray.empty
section
variable {P : Program} {W : World} {ops : Array Oper} {t : List Nat} {toks : List Tok} {fresh : Nat → Bool} {pin : Nat → Option Value} {Qf : Act → Prop} {nd : Nat → Value} {i : Nat} {l : List Oper} {a : Act} {o : Oper}
theorem Cn7 {src dst e : TypeId} {x : Operand} {v0 : Value} {ns : List Int} (hf : fresh i = false) (hn : noTok toks i = true) (ho : o.op = .convert src dst x) (hg : Region.wanted o (yielded ops a.tmps) = true) (hx : a.eval x = v0)
  (hs : P.underlying src = some (.slice e)) (he : P.underlying e = some (.int .u8)) (hd : P.underlying dst = some .string) (hp : 0 < ns.length) (hr : ∀ F, ∃ R,Take (kpL toks t i nd ++ F) (row v0 1 e ns.length (ns.map (Value.int .u8))) R)
  (h : Chain P W ops t toks fresh pin Qf nd (i + 1) l (a.put o.dst (.string (bstr ns)))) : Chain P W ops t toks fresh pin Qf nd i (o :: l) a :=
 EH7 hf hn hg (fun F w hS => by
  obtain ⟨R,hu⟩ := hr F
  have hS1 := hS.take hu
  obtain ⟨b,c,rfl⟩ := hS1.rowVal
  obtain ⟨⟨g,rfl⟩,_,_⟩ := St.rowAddr hS1 hp
  have h1 := run_loadCells_list (P := P) w ⟨g,0,none⟩ (ns.map (Value.int .u8)) (fun j v hj => by
   rw [Addr.add_lit,Nat.zero_add]
   exact Cell.row hp hj W w hS1)
  rw [List.length_map] at h1
  have h2 := run_bytesToString (P := P) w ⟨g,0,none⟩ ns.length c ns h1
  unfold execOp
  simp [ho,hx,run_convert_bytes_string w src dst e (some ⟨g,0,none⟩) ns.length c hs he hd,h2,bstr]) h
end
end Go.Sl
namespace Go.Proofs.YtlmhakmoioogaaaGreat
open Go.RowKit Go.Sl
section
variable {W w : World} {vb mb bb xb xB : Nat} {p : Ps} {L : List Ord} {n : Int} {N : Nat} {L1 R3 : List HP}
end
theorem Mi7 {e : Ec} {d : List Int} (h : EncIs e d) : 0 < d.length := by
 obtain ⟨T,A,_,_,_,_,rfl⟩ := h
 have := Ex7 (e.vs.length : Int)
 simp only [List.length_append]
 omega
theorem HC7 {eb : Nat} {e : Ec} {n : Nat} {d : List Int} (hd : EncIs e d) (hE : EnL e n) (hn : n ≤ 600) {W w : World} {L R : List HP} (ht : Take L (ecP eb e) R) (hS : St W L w) :
  Calls Tryz.prog 27 #[.pointer (some ⟨eb,0,none⟩)] w fun x w' => ∃ v,x = .returned v ∧ St W (byR v d :: L) w' := by
 refine (Fo7 hE hn W w R (hS.take ht)).mono ?_
 rintro x w' ⟨v,d',rfl,hd',hS⟩
 obtain rfl := Ny7 hd hd'
 refine ⟨v,rfl,?_⟩
 exact hS.swap.back (Take.tail ht)
def OnR (W : World) (L : List HP) (n : Nat) (v : Value) (w : World) : Prop := ∃ i : Nat,v = .int .i64 i ∧ i ≤ n ∧ St W L w
theorem once_spec (xs : List Opn) (zs : List Int) (v v' : Value) (V : World) (hv : SliceV Opn.cells 12 V v xs) (hz : IntsV V v' zs) (W w : World) (Lr : List HP) (hS : St W (Old V :: Lr) w) :
  Calls Tryz.prog 6 #[v,v'] w fun e w' => e = .returned (.bool true) ∧ St W (Old V :: Lr) w' := by
 have Hv := Lib.hid hv
 obtain ⟨a,cap,rfl,h63,hact⟩ := hv.opn
 obtain ⟨za,zc,rfl,hz63,hzc⟩ := hz.flat
 have Ha := Lib.hid hact
 have Hz := Lib.hid hzc
 clear hact hv hz hzc
 go_enter Tryz.func6,Tryz.ntmps6
 by_cases h100 : 100 < zs.length
 ·have d1 : decide ((100 : Int) < (zs.length : Int)) = true := by simp;omega
  go_wp2_with (first|(go_at_call 20;refine (Dl7 xs a cap h63 (fun i hi => (Ha.out i hi).imp fun b h => h.imp fun off h => ⟨h.1,fun j v hj => Cell.old .head (h.2.all j v hj)⟩) W _ hS).mono ?_;clear hS;rintro e w ⟨hv,h150,rfl,hS⟩;cases hv))
  ·go_ret
   exact ⟨rfl,hS⟩
  ·go_ret
   exact ⟨rfl,hS⟩
 have d1 : decide ((100 : Int) < (zs.length : Int)) = false := by simp;omega
 go_wp2_with (first|(go_at_call 20;refine (Dl7 xs a cap h63 (fun i hi => (Ha.out i hi).imp fun b h => h.imp fun off h => ⟨h.1,fun j v hj => Cell.old .head (h.2.all j v hj)⟩) W _ hS).mono ?_;clear hS;rintro e w ⟨hv,h150,rfl,hS⟩;cases hv))
 rotate_left
 ·go_ret
  exact ⟨rfl,hS⟩
 have hlen : xs.length ≤ 150 := by first|exact h150 rfl|exact h150 trivial
 clear h150
 refine (Iy7 xs hlen _ V Hv.out W _ _ hS).mono ?_
 clear hS
 rintro r w ⟨eb,xb,rfl,hG,hN,hS⟩
 have hkn : ∀ (j : Nat) (hj : j < xs.length),xs[j].kind ≠ 6 → xs[j].kind ≠ 7 → ∃ r,appE (runE xs ec0) xs[j] = (r,false,runE xs ec0) := fun j hj h6 h7 => Km7 (List.getElem_mem hj) h6 h7
 have Hkn0 := Lib.hid hkn
 have HN := Lib.hid hN
 clear hG hkn hN
 generalize runE xs ec0 = e at hS Hkn0 HN
 generalize runD xs ec0 = dd at hS
 go_wp2_with (first|(go_at_call 27;refine (Fo7 HN.out (by omega) W _ _ hS).mono ?_;clear hS;rintro x w ⟨v1,d,rfl,hd,hS⟩;have Hd := Lib.hid hd;clear hd))
 have Hpos := Lib.hid (Mi7 Hd.out)
 have hn6 : xs.length ≤ 600 := by omega
 go_loopw [9] (fun v wr => OnR W (byR v1 d :: ecP eb e :: xecP xb dd :: Old V :: Lr) zs.length v wr) (fun v _ => zs.length - (intOf v).toNat)
 case atStart => exact ⟨0,rfl,Nat.zero_le _,hS⟩
 case round =>
  clear hS
  obtain ⟨i,rfl,hi,hS⟩ := hrel
  by_cases hiz : i < zs.length
  case neg =>
   have hd1 : decide (i < zs.length) = false := by simp;omega
   clear hi hiz
   go_wp2_with (fail)
   refine Aa7 [0,1,3,0,8,31,63,127,255,511] (fun i => i == 1) (fun i => if i == 7 then some (.bool true) else none) [⟨some 1,none,fun nd => byR (nd 1) d⟩] [none,none,none,none] (by kernel_rfl) (by kernel_rfl) rfl hS (CongOk.cons (fun nd nd' h => by dsimp only;rw [h 1 rfl rfl]) CongOk.nil) ?_
   clear hS
   intro nd
   (refine cQ ?_;intro K hK;go_big_quiet_op;go_big_quiet_on)
   (apply AV7;rfl;rfl;(with_reducible rfl);decide +kernel;(focus (simp only [fD,fI,fJ,Act.eval,fE,fF,fG,fH,fK];try rfl));(intro _;rfl);(intro F w hS;exact HC7 Hd.out HN.out hn6 (.tail .head) hS);(refine frS ?_))
   (apply Cn7 (ns := d);rfl;kernel_rfl;(with_reducible rfl);rfl;rfl;exact Tryz.underlying63;exact Tryz.underlying5;exact Tryz.underlying9;exact Hpos.out;(intro F;exact ⟨_,by exact takO⟩);(refine frS ?_))
   (refine cQ ?_;intro K hK;go_big_quiet_op;go_big_quiet_on)
   (apply Cn7 (ns := d);rfl;kernel_rfl;(with_reducible rfl);rfl;rfl;exact Tryz.underlying63;exact Tryz.underlying5;exact Tryz.underlying9;exact Hpos.out;(intro F;exact ⟨_,by exact takO⟩);(refine frS ?_))
   iterate 2 (refine cQ ?_;intro K hK;go_big_quiet_op;go_big_quiet_on)
   (refine zcv ?_ (hs := by (intro F w hS;(try clear hS0);exact Fc7 W w _ hS)))
   iterate 2 (refine cQ ?_;intro K hK;go_big_quiet_op;go_big_quiet_on)
   refine Af7 ?_
   intro w hS
   have hS2 : St W [byR (nd 1) d,byR v1 d,ecP eb e,xecP xb dd,Old V,sats Lr] w := hS
   clear hS
   have hS := hS2.unpack [_,_,_,_,_]
   clear hS2
   simp only [fL,fM] at hS
   go_wp2_with fail
   go_ret
   exact ⟨rfl,hS.sel (by exact selS)⟩
  have hd1 : decide (i < zs.length) = true := by simp;omega
  by_cases hx0 : 0 < xs.length
  case neg =>
   have hd2 : decide (0 < xs.length) = false := decide_eq_false hx0
   clear hi hx0
   go_wp2_with (fail)
   refine Aa7 [0,1,3,0,8,31,63,127,255,511] (fun i => i == 1) (fun i => if i == 7 then some (.bool true) else none) [⟨some 1,none,fun nd => byR (nd 1) d⟩] [none,none,none,none] (by kernel_rfl) (by kernel_rfl) rfl hS (CongOk.cons (fun nd nd' h => by dsimp only;rw [h 1 rfl rfl]) CongOk.nil) ?_
   clear hS
   intro nd
   (refine cQ ?_;intro K hK;go_big_quiet_op;go_big_quiet_on)
   (apply AV7;rfl;rfl;(with_reducible rfl);decide +kernel;(focus (simp only [fD,fI,fJ,Act.eval,fE,fF,fG,fH,fK];try rfl));(intro _;rfl);(intro F w hS;exact HC7 Hd.out HN.out hn6 (.tail .head) hS);(refine frS ?_))
   (apply Cn7 (ns := d);rfl;kernel_rfl;(with_reducible rfl);rfl;rfl;exact Tryz.underlying63;exact Tryz.underlying5;exact Tryz.underlying9;exact Hpos.out;(intro F;exact ⟨_,by exact takO⟩);(refine frS ?_))
   (refine cQ ?_;intro K hK;go_big_quiet_op;go_big_quiet_on)
   (apply Cn7 (ns := d);rfl;kernel_rfl;(with_reducible rfl);rfl;rfl;exact Tryz.underlying63;exact Tryz.underlying5;exact Tryz.underlying9;exact Hpos.out;(intro F;exact ⟨_,by exact takO⟩);(refine frS ?_))
   iterate 2 (refine cQ ?_;intro K hK;go_big_quiet_op;go_big_quiet_on)
   (refine zcv ?_ (hs := by (intro F w hS;(try clear hS0);exact Fc7 W w _ hS)))
   iterate 2 (refine cQ ?_;intro K hK;go_big_quiet_op;go_big_quiet_on)
   refine Af7 ?_
   intro w hS
   have hS2 : St W [byR (nd 1) d,byR v1 d,ecP eb e,xecP xb dd,Old V,sats Lr] w := hS
   clear hS
   have hS := hS2.unpack [_,_,_,_,_]
   clear hS2
   simp only [fL,fM] at hS
   go_wp2_with fail
   go_ret
   exact ⟨rfl,hS.sel (by exact selS)⟩
  have hd2 : decide (0 < xs.length) = true := decide_eq_true hx0
  obtain ⟨zb,zoff,rfl,hcz⟩ := Hz.out i hiz
  generalize zs.getD i 0 = z at hcz
  obtain ⟨j0,hj0⟩ : ∃ j0 : Nat,z % 65536 = j0 := ⟨(z % 65536).toNat,by omega⟩
  have hz16 : bits .and .i64 z 65535 = ((j0 : Nat) : Int) := by rw [and16,hj0]
  have hjl : j0 % xs.length < xs.length := Nat.mod_lt _ hx0
  obtain ⟨pb,poff,rfl,hA⟩ := Ha.out (j0 % xs.length) hjl
  have hall := hA.all
  clear hA hj0
  have hk := Hkn0.out (j0 % xs.length) hjl
  generalize xs[j0 % xs.length] = x at hall hk
  obtain ⟨kd,cl,sq,ak,aw,tk,tw,it,ct,pr,bu,id⟩ := x
  simp only [Opn.cells] at hall
  dsimp only at hk
  by_cases k7 : kd = 7
  ·have q7 : (kd == 7) = true := by simpa using k7
   clear k7 hk
   go_wp2_with (first|go_big_skip|(refine zlN hS ?_ (vs := [.int .i64 kd,.int .i64 cl,.int .i64 sq,.string ak,.string aw,.string tk,.string tw,.int .i64 it,.int .i64 ct,.int .i64 pr,.bool bu,.int .i64 id]) (hc := by exact Cells.old (by exact memS) hall))|(refine zl1 hS ?_ (hc := by exact Cell.old (by exact memS) hcz))|((fail_if_success (have := gA));(refine zal hS ?_;clear hS;have gA : Nat := 0;intro bA w hS))|(refine zl1 hS ?_)|(refine zsN hS ?_;clear hS;intro w hS))
   go_roundw
   case rel => exact ⟨i + 1,rfl,hiz,hS.sel (by exact selS)⟩
   case measure => simp [intOf];try omega
  have q7 : (kd == 7) = false := by simpa using k7
  by_cases k6 : kd = 6
  ·have q6 : (kd == 6) = true := by simpa using k6
   clear k6 k7 hk
   go_wp2_with (first|(refine zlN hS ?_ (vs := [.int .i64 kd,.int .i64 cl,.int .i64 sq,.string ak,.string aw,.string tk,.string tw,.int .i64 it,.int .i64 ct,.int .i64 pr,.bool bu,.int .i64 id]) (hc := by exact Cells.old (by exact memS) hall))|(refine zl1 hS ?_ (hc := by exact Cell.old (by exact memS) hcz))|((fail_if_success (have := gA));(refine zal hS ?_;clear hS;have gA : Nat := 0;intro bA w hS))|(refine zl1 hS ?_)|(refine zsN hS ?_;clear hS;intro w hS))
   go_roundw
   case rel => exact ⟨i + 1,rfl,hiz,hS.sel (by exact selS)⟩
   case measure => simp [intOf];try omega
  have q6 : (kd == 6) = false := by simpa using k6
  obtain ⟨⟨r0,r1,⟨r2,r3,r4,r5⟩⟩,hkn⟩ := hk k6 k7
  have Hkn := Lib.hid hkn
  clear hk hkn k6 k7
  go_wp2_with (first|(refine zlN hS ?_ (vs := [.int .i64 kd,.int .i64 cl,.int .i64 sq,.string ak,.string aw,.string tk,.string tw,.int .i64 it,.int .i64 ct,.int .i64 pr,.bool bu,.int .i64 id]) (hc := by exact Cells.old (by exact memS) hall))|(refine zl1 hS ?_ (hc := by exact Cell.old (by exact memS) hcz))|((fail_if_success (have := gA));(refine zal hS ?_;clear hS;have gA : Nat := 0;intro bA w hS))|((have := gA);(refine zal hS ?_;clear hS;intro bB w hS))|(refine zl1 hS ?_)|(refine zlN hS ?_)|(refine zsN hS ?_;clear hS;intro w hS)|(go_at_call 16;refine (Hu7 HN.out.en.ok (by omega) Hkn.out W _ _ (hS.sel (L' := ecP eb e :: blk bA _ _ :: byR v1 d :: xecP xb dd :: Old V :: Lr) (by exact selS))).mono ?_;clear hS;rintro ex w ⟨_,rfl,hS⟩))
  go_roundw
  case rel => exact ⟨i + 1,rfl,hiz,hS.sel (by exact selS)⟩
  case measure => simp [intOf];try omega
end Go.Proofs.YtlmhakmoioogaaaGreat
end
section
namespace Go.Sl
open Go.ChangeShapes Go.WideShapes Go.ChangeAt Go.RowKit
section
variable {H : Type} {enc : TypeId × Value → H} {P : Program}
theorem DA7 {w w' : World} {base : Nat} {spare : Nat → Bool} {held : Bool} : ∀ {ts : List TypeId} {vs : List Value} {ds : List (DataW H)} {ps : List MemPlace},
  DataW.TrodAll enc P w base spare held ts vs ds ps → (∀ p ∈ ps,w.sameAt w' p) → DataW.TrodAll enc P w' base spare held ts vs ds ps
 | [],[],[],_,h,_ => h
 | _ :: _,_ :: _,_ :: _,_,⟨p,q,⟨n,hn⟩,h2,e⟩,hs =>
  ⟨p,q,⟨n,DataW.trod_carry n _ _ _ hn fun x hx => hs x (by rw [e];exact List.mem_append_left _ hx)⟩,DA7 h2 (fun x hx => hs x (by rw [e];exact List.mem_append_right _ hx)),e⟩
theorem law_post {f : Func} {s : ChangeSpec} {apart fresh handsOn again : Bool} {W W' : World} {args : Array Value} {ds gs : List (DataW H)} {before : List MemPlace} {tb : TypeId}
  (hl : laidOutB P = true) (hm : mapsRowed P = true) (hz : ((List.range P.types.size).all fun t => match P.underlying t with|some (.slice e) => decide (0 < P.cellsOf e)|_ => true) = true)
  (hT : f.params.toList.all (· < P.types.size) = true) (hr : f.resultTypes = #[tb]) (hb : P.underlying tb = some .bool) (hv : s.vars = [])
  (hW : DataW.Whole enc P f.params.toList s.vars apart W args.toList ds gs before)
  (hres : (s.fn H (ds ++ gs)).results = [.lit (.bool true)]) (hargs : (s.fn H (ds ++ gs)).args = ds) (hvars : (s.fn H (ds ++ gs)).vars = [])
  (hB : Below W.heap.size W W') : s.post enc P f apart fresh handsOn again W args (.bool true) W' := by
 have hW0 := hW
 obtain ⟨p,q,hA,hV,rfl,hfz,hnd⟩ := hW
 rw [hv] at hV
 obtain ⟨rfl,rfl⟩ := trodVars_none hV
 have hlt : ∀ x ∈ p ++ [],x.block < W.heap.size := fun x hx => hW0.lt x hx
 have hA' : ∀ sp : Nat → Bool,(∀ x ∈ p ++ [],sp x.block = true) → DataW.TrodAll enc P W' 0 sp true f.params.toList args.toList (s.fn H (ds ++ [])).args p := fun sp hs => by
  rw [hargs]
  refine DA7 (DataW.TrodAll.respare (kids_rows hl hm) (fun t e => slices_full_of P hz t e) (fun t ht => by simpa using List.all_eq_true.1 hT t ht) hA fun x hx => hs x (by simpa using hx)) fun x hx => hB.same (hlt x (by simpa using hx))
 have hR : ∀ (b : Nat) (sp : Nat → Bool) (hd : Bool),DataW.TrodAll enc P W' b sp hd f.resultTypes.toList ((Value.bool true).resultList f.resultTypes.size) (s.fn H (ds ++ [])).results [] := fun b sp hd => by
  rw [hres,hr]
  exact trodAll_cons_mk (shut_bool hb _) trodAll_mk0
 have hU : ∀ sp : Nat → Bool,DataW.TrodVars enc P W' sp s.vars (s.fn H (ds ++ [])).vars [] := fun sp => by
  rw [hv,hvars];rfl
 have hold : ∀ x ∈ p ++ [],(fun b => decide (b < W.heap.size)) x.block = true := fun x hx => by simpa using hlt x hx
 refine ⟨ds,[],p ++ [],[],p,[],hW0,hR _ _ _,hA' _ hold,hU _,World.keptBut_mono (fun x hx => ⟨hx,?_⟩) (hB.frame (· ∈ p ++ [])),fun _ => ?_⟩
 ·exact Or.inr (by simpa using hx)
 ·refine ⟨ok_one hr rfl (okWide_bool_mk hb _),_,_,([] ++ p) ++ [],⟨[] ++ p,[],trodAll_append (hA' _ (fun _ _ => rfl)) (hR _ _ _),hU _,rfl,?_,?_⟩,?_⟩
  ·intro b off hx
   rw [hB.frozen (hlt _ (by simpa using hx))]
   exact hfz b off (by simpa using hx)
  ·intro ha
   simpa using hnd ha
  ·intro x hx _
   simpa using hx
end
end Go.Sl
end
