/-
  The document's At, Peek, Arrived over its economy as one resource; both economies go on alike. For every economy, all requests.
  Requests go on in both economies, and both say the same. For every two that are alike, all requests.
  The program's Total of an economy. For every economy.
  What a request changes of all that an economy has. The plain law: no program in sight.
  EconTotal: the walk. For every row of requests.
  The library's contracts laid at this program: written by the kit's tool lay-plain.
-/
import Derived.Test.YtlmhakmoioogaaaGreatEconOnceM5
import Derived.Test.YtlmhakmoioogaaaGreatEconOnceM30
import Derived.Test.YtlmhakmoioogaaaGreatEconOnceM32
import Derived.Test.YtlmhakmoioogaaaGreatEconOnceM37
import Derived.Test.YtlmhakmoioogaaaGreatEconOnceM44
import Derived.Test.YtlmhakmoioogaaaGreatEconOnceM45
import Derived.Test.YtlmhakmoioogaaaGreatProg
import Derived.Shelf.Sort.Plain
import Derived.Ground.NamesProg
set_option maxHeartbeats 16000000
set_option maxRecDepth 100000
set_option linter.unusedSimpArgs false
set_option linter.unusedVariables false
section
namespace Go.Proofs.YtlmhakmoioogaaaGreat
open Go.RowKit Go.Sl
section
variable {W w : World} {R : List HP} {xb eb : Nat} {d e : Ec} {i : Nat}
theorem OK7 (hk : TsK d.ts) {kd cl sq : Int} {ak aw tk tw : ByteArray} {it ct pr : Int} {bu : Bool} {id : Int} {r0 r1 r2 r3 r4 r5 : Int} {b : Bool} (hp : peekD d ⟨kd,cl,sq,ak,aw,tk,tw,it,ct,pr,bu,id⟩ = (⟨r0,r1,⟨r2,r3,r4,r5⟩⟩,b)) (hS : St W (xecP xb d :: R) w) :
  Calls Tryz.prog 48 #[.pointer (some ⟨xb,0,none⟩),oV kd cl sq ak aw tk tw it ct pr bu id] w fun e w' => e = .returned (.tuple #[rV r0 r1 r2 r3 r4 r5,.bool b]) ∧ St W (xecP xb d :: R) w' := by
 obtain ⟨v1,v2,v3,v4,D,hd,hS⟩ := xecOpen hS
 refine (peek8 (d := d) hk hp (hS.sel (L' := xeB xb v1 v2 v3 v4 :: xsP v2 d.ss :: xtP v3 d.ts :: xmP v4 d.ar :: xrP v1 D :: dvaP D :: R) (by exact selS))).mono ?_
 rintro e w' ⟨rfl,hS⟩
 exact ⟨rfl,xecShut hd (hS.sel (by exact selS))⟩
theorem Kf7 (cl sq : Int) {b : Bool} (hb : (getL d.ar (cl,sq)).isSome = b) (hS : St W (xecP xb d :: R) w) :
  Calls Tryz.prog 82 #[.pointer (some ⟨xb,0,none⟩),.int .i64 cl,.int .i64 sq] w fun e w' => e = .returned (.bool b) ∧ St W (xecP xb d :: R) w' := by
 obtain ⟨v1,v2,v3,v4,D,hd,hS⟩ := xecOpen hS
 refine (Dt7 d.ar cl sq hb xb v1 v2 v3 v4 W _ _ (hS.sel (L' := xeB xb v1 v2 v3 v4 :: xmP v4 d.ar :: xsP v2 d.ss :: xtP v3 d.ts :: xrP v1 D :: dvaP D :: R) (by exact selS))).mono ?_
 rintro e w' ⟨rfl,hS⟩
 exact ⟨rfl,xecShut hd (hS.sel (by exact selS))⟩
theorem at8_x (hA0 : Asc ltB d.vs) (k u : ByteArray) (hok : VOk (atV d k).ps (atV d k).n i) {x0 x1 x2 x3 : Int} (hx : purseA (atV d k).ps u = ⟨x0,x1,x2,x3⟩) (hS : St W (xecP xb d :: R) w) :
  Calls Tryz.prog 84 #[.pointer (some ⟨xb,0,none⟩),.agg #[.string k,.string u]] w fun e w' => e = .returned (.agg #[.int .i64 x0,.int .i64 x1,.int .i64 x2,.int .i64 x3]) ∧ St W (xecP xb d :: R) w' := by
 obtain ⟨v1,v2,v3,v4,D,hd,hS⟩ := xecOpen hS
 have hA : Asc ltB D := Hr7 (hd.symm ▸ hA0)
 have hV : atV d k = vAt D k := (vAt_d hA0 hd k).symm
 rw [hV] at hok hx
 clear hV
 have Hd := Lib.hid hd
 obtain ⟨p,hp⟩ : ∃ p,plI ltB D k = p := ⟨_,rfl⟩
 have Hp := Lib.hid hp
 cases hb : plB ltB D k with
 | false =>
  rw [Jm7 hA hb] at hx
  cases hx
  have Hb := Lib.hid hb
  clear hb hp hd hok hA0 hA
  go_enter Tryz.func84,Tryz.ntmps84
  go_wp2_with (first|(refine zbx hS ?_;clear hS;intro bO w hS)|(refine zal hS ?_;clear hS;intro bR w hS)|(refine zl1 hS ?_)|(refine zsN hS ?_;clear hS;intro w hS)|(go_at_call 80;refine (Dr7 Hp.out Hb.out xb v1 v2 v3 v4 W _ _ (hS.sel (L' := xeB xb v1 v2 v3 v4 :: xrP v1 D :: blk bR _ _ :: blk bO _ _ :: dvaP D :: xsP v2 d.ss :: xtP v3 d.ts :: xmP v4 d.ar :: R) (by exact selS))).mono ?_;clear hS;rintro e w ⟨rfl,hS⟩))
  (apply Aq7;rfl;rfl;rfl;exact hS;decide +kernel;(exact cesS);kernel_rfl)
  exact ⟨rfl,xecShut Hd.out (hS.sel (by exact selS))⟩
 | true =>
  obtain ⟨hpl,vb,V,hxx,hv,hD⟩ := Jl7 hA hb
  rw [hv] at hok hx
  obtain ⟨a,cap,rfl⟩ := hS.drop.rowVal
  obtain ⟨⟨g,rfl⟩,hcap,hcn⟩ := St.rowAddr hS.drop (by omega)
  have hc : ∀ {K K' : List HP},Take K (xrP (.slice (some ⟨g,0,none⟩) D.length cap) D) K' → Cell K g (plI ltB D k * 2 + 1) (.pointer (some ⟨vb,0,none⟩)) := fun hu => Cells.elemM (enc := rwC) BA7 hu hpl 1 _ (by rw [hxx];rfl)
  rw [hp] at hc hpl
  have h1 := hS.sel (L' := dvaP D :: xeB xb (.slice (some ⟨g,0,none⟩) D.length cap) v2 v3 v4 :: xrP (.slice (some ⟨g,0,none⟩) D.length cap) D :: xsP v2 d.ss :: xtP v3 d.ts :: xmP v4 d.ar :: R) (by exact selS)
  clear hS
  obtain ⟨A,hA1⟩ : ∃ A,loA D k = A := ⟨_,rfl⟩
  obtain ⟨B,hB1⟩ : ∃ B,hiA D k = B := ⟨_,rfl⟩
  rw [hA1,hB1] at hD
  have hback : ∀ w' K,St W (dvP vb V :: dvaP (A ++ B) :: K) w' → St W (dvaP D :: K) w' := by
   intro w' K h
   have h3 := dvaShut (x := (k,(vb,V))) h
   rw [← hD] at h3
   exact h3
  have h2 : St W (dvP vb V :: dvaP (A ++ B) :: xeB xb (.slice (some ⟨g,0,none⟩) D.length cap) v2 v3 v4 :: xrP (.slice (some ⟨g,0,none⟩) D.length cap) D :: xsP v2 d.ss :: xtP v3 d.ts :: xmP v4 d.ar :: R) w := by
   have h4 : St W (dvaP (A ++ (k,(vb,V)) :: B) :: xeB xb (.slice (some ⟨g,0,none⟩) D.length cap) v2 v3 v4 :: xrP (.slice (some ⟨g,0,none⟩) D.length cap) D :: xsP v2 d.ss :: xtP v3 d.ts :: xmP v4 d.ar :: R) w := by rw [← hD];exact h1
   exact dvaOpen h4
  obtain ⟨xB,hS⟩ := dvOpen h2
  have Hb := Lib.hid hb
  have Hback := Lib.hid hback
  have Hx := Lib.hid hx
  have Hok := Lib.hid hok
  clear h1 h2 hback hD hA1 hB1 hxx hv hb hp hd hx hok hA0 hA
  go_enter Tryz.func84,Tryz.ntmps84
  go_wp2_with (first|(refine zbx hS ?_;clear hS;intro bO w hS)|(refine zal hS ?_;clear hS;intro bR w hS)|(refine zl1 hS ?_)|(go_at_call 80;refine (Dr7 Hp.out Hb.out xb _ v2 v3 v4 W _ _ (hS.sel (L' := xeB xb (.slice (some ⟨g,0,none⟩) D.length cap) v2 v3 v4 :: xrP (.slice (some ⟨g,0,none⟩) D.length cap) D :: xvP vb _ V.n V.ps :: xkP xB V.L V.n :: blk bR _ _ :: blk bO _ _ :: dvaP (A ++ B) :: xsP v2 d.ss :: xtP v3 d.ts :: xmP v4 d.ar :: R) (by exact selS))).mono ?_;clear hS;rintro e w ⟨rfl,hS⟩))
  have hS1 := hS.sel (L' := xvP vb (.pointer (some ⟨xB,0,none⟩)) V.n V.ps :: xkP xB V.L V.n :: xeB xb (.slice (some ⟨g,0,none⟩) D.length cap) v2 v3 v4 :: xrP (.slice (some ⟨g,0,none⟩) D.length cap) D :: blk bR _ _ :: blk bO _ _ :: dvaP (A ++ B) :: xsP v2 d.ss :: xtP v3 d.ts :: xmP v4 d.ar :: R) (by exact selS)
  clear hS
  refine Ag7 11 (by kernel_rfl) (by kernel_rfl) hS1 ?_
  repeat (first|(refine zq1 ?_)|(refine zqn ?_)|(apply Ar7;(with_reducible rfl);rfl;rfl;decide +kernel;(exact hc (by exact takeS));(refine frS ?_))|(apply As7;rfl;(intro w;apply Ai7;(with_reducible rfl);decide +kernel;(focus (simp only [fD,fI,fJ,Act.eval,fE,fF,fG,fH,fK];try rfl)));(intro w hS;exact has8P Hok.out.w Hx.out hS);(refine frS ?_))|(refine qQ ?_;intro K hK;go_big_quiet_op;go_big_quiet_on))
  clear hS1
  intro w hS
  simp only [List.drop_succ_cons,List.drop_zero]
  go_wp2_with (first|(refine zsN hS ?_;clear hS;intro w hS))
  (apply Aq7;rfl;rfl;rfl;exact hS;decide +kernel;(exact cesS);kernel_rfl)
  have h1 := dvShut (V := V) (hS.sel (L' := xvP vb (.pointer (some ⟨xB,0,none⟩)) V.n V.ps :: xkP xB V.L V.n :: dvaP (A ++ B) :: xeB xb (.slice (some ⟨g,0,none⟩) D.length cap) v2 v3 v4 :: xrP (.slice (some ⟨g,0,none⟩) D.length cap) D :: xsP v2 d.ss :: xtP v3 d.ts :: xmP v4 d.ar :: R) (by exact selS))
  have h2 := Hback.out _ _ h1
  exact ⟨rfl,xecShut Hd.out (h2.sel (by exact selS))⟩
theorem OL7 {kd cl sq : Int} {ak aw tk tw : ByteArray} {it ct pr : Int} {bu : Bool} {id : Int} {r0 r1 r2 r3 r4 r5 : Int} {b : Bool} (hp : peekE e ⟨kd,cl,sq,ak,aw,tk,tw,it,ct,pr,bu,id⟩ = (⟨r0,r1,⟨r2,r3,r4,r5⟩⟩,b)) (hS : St W (ecP eb e :: R) w) :
  Calls Tryz.prog 33 #[.pointer (some ⟨eb,0,none⟩),oV kd cl sq ak aw tk tw it ct pr bu id] w fun x w' => x = .returned (.tuple #[rV r0 r1 r2 r3 r4 r5,.bool b]) ∧ St W (ecP eb e :: R) w' := by
 obtain ⟨m1,m2,m3,m4,E,h1,hn,hS⟩ := ecOpenR hS
 refine (AU7 (vs := e.vs) hp W _ _ hS).mono ?_
 rintro x w' ⟨rfl,hS⟩
 exact ⟨rfl,ecShut h1 (evOpen hS)⟩
theorem Jo7 : ∀ {E : Ev} {R : List HP},St W (vauP E :: R) w → ∀ x ∈ E,(∀ o ∈ x.2.2.L,MayP o) ∧ x.2.2.L.length ≤ 32
 | [],_,_,_,hx => by cases hx
 | y :: E,R,h,x,hx => by
  have h1 := vauOpen (E := E) h
  rcases List.mem_cons.1 hx with rfl|hx
  ·obtain ⟨mb,bb,h2⟩ := vaultOpen h1
   exact ⟨fun o ho => (Bs7 h2.drop.drop o ho).1,BZ7 h2.drop.drop⟩
  ·exact Jo7 h1.drop x hx
theorem In7 (h : St W (ecP eb e :: R) w) : ∀ x ∈ e.vs,(∀ o ∈ x.2.L,MayP o) ∧ x.2.L.length ≤ 32 := by
 obtain ⟨m1,m2,m3,m4,E,hp,h⟩ := ecOpen h
 have h1 : St W (vauP E :: R) w := h.sel (by exact selS)
 intro x hx
 obtain ⟨y,hy,rfl⟩ := List.mem_map.1 (hp.mem_iff.2 hx)
 exact Jo7 h1 y hy
end
theorem vOk_i (i : Nat) : VOk [] 1 i := ⟨FW7,Lh7 _,by decide,by omega⟩
structure GOk (d e : Ec) (n : Nat) : Prop where
 sim : SimE d e
 ok : EOk e n
 lv : d.vs.length ≤ n
 ls : d.ss.length ≤ n
 lt : d.ts.length ≤ n
 la : d.ar.length ≤ n
theorem gOk0 : GOk ec0 ec0 0 := ⟨sim0,eOk0 0,Nat.le_refl _,Nat.le_refl _,Nat.le_refl _,Nat.le_refl _⟩
theorem GOk.dok {d e : Ec} {n : Nat} (h : GOk d e n) (hn : n ≤ 5000) (he : ∀ x ∈ e.vs,(∀ o ∈ x.2.L,MayP o) ∧ x.2.L.length ≤ 32) (k : ByteArray) : DOk d k n := by
 have h1 : VOk (atV d k).ps (atV d k).n n ∧ (∀ x ∈ (atV d k).L,MayP x) ∧ (atV d k).L.length ≤ 32 := by
  rw [h.sim.at]
  unfold atV
  cases hg : getL e.vs k with
  | none => exact ⟨vOk_i n,fun x hx => (by cases hx),Nat.zero_le _⟩
  | some V =>
   have h2 := AH7 hg
   exact ⟨h.ok _ h2,(he _ h2).1,(he _ h2).2⟩
 have := h.lv;have := h.ls;have := h.lt;have := h.la
 exact ⟨h.sim.va,h.sim.sn,h.sim.tk,by omega,by omega,by omega,by omega,h1.1,h1.2.1,h1.2.2⟩
section
variable {κ ν : Type} [DecidableEq κ]
theorem LQ7 {lt : κ → κ → Bool} (l : List (κ × ν)) (k : κ) (v : ν) : (plS lt l k v).length ≤ l.length + 1 := by
 have h := Hl7 lt k l
 unfold plS
 rw [List.length_append,List.length_cons,List.length_take,List.length_drop]
 split <;> omega
theorem Jp7 (l : List ((Int × Int) × ν)) (k : Int × Int) (v : ν) : (insW l k v).length ≤ l.length + 1 := by
 have h := Hl7 ltW k l
 unfold insW
 rw [List.length_append,List.length_cons,List.length_take,List.length_drop]
 omega
theorem OM7 {α : Type} (l : List α) (i : Int) : (rmI l i).length ≤ l.length := by
 unfold rmI
 rw [List.length_append,List.length_take,List.length_drop]
 omega
end
theorem ON7 (l : List (ByteArray × Vs)) : (clV l).length ≤ l.length := List.length_filter_le _ _
theorem Np7 (d : Ec) (o : Opn) : (appD d o).2.2.vs.length ≤ d.vs.length + 1 ∧ (appD d o).2.2.ss.length ≤ d.ss.length + 1 ∧ (appD d o).2.2.ts.length ≤ d.ts.length + 1 ∧ (appD d o).2.2.ar.length ≤ d.ar.length + 1 := by
 unfold appD
 split
 ·exact ⟨Nat.le_succ _,Nat.le_succ _,Nat.le_succ _,Nat.le_succ _⟩
 ·refine ⟨?_,?_,?_,?_⟩
  ·show (vsD d o).length ≤ _
   unfold vsD
   refine Nat.le_trans (ON7 _) ?_
   split
   ·omega
   ·exact LQ7 _ _ _
  ·show (ssD d o _).length ≤ _
   unfold ssD
   split
   ·omega
   ·exact LQ7 _ _ _
  ·show (tsD d o _).length ≤ _
   unfold tsD
   split
   ·exact Jp7 _ _ _
   ·split
    ·exact Nat.le_trans (OM7 _ _) (by omega)
    ·omega
  ·show (arD d o).length ≤ _
   unfold arD
   split
   ·exact Jp7 _ _ _
   ·omega
theorem GOk.app {d e : Ec} {n : Nat} (h : GOk d e n) (o : Opn) (hok : EOk (appE e o).2.2 (n + 1)) : GOk (appD d o).2.2 (appE e o).2.2 (n + 1) := by
 obtain ⟨h1,h2,h3,h4⟩ := Np7 d o
 have := h.lv;have := h.ls;have := h.lt;have := h.la
 exact ⟨(Im7 h.sim o).2.2,hok,by omega,by omega,by omega,by omega⟩
def runD (l : List Opn) (d : Ec) : Ec := l.foldl (fun d o => (appD d o).2.2) d
theorem OO7 {xs : List Opn} {i : Nat} (h : i < xs.length) (e : Ec) : runE (xs.take (i + 1)) e = (appE (runE (xs.take i) e) xs[i]).2.2 := by
 unfold runE
 rw [List.take_succ_eq_append_getElem h,List.foldl_append]
 rfl
theorem OP7 {xs : List Opn} {i : Nat} (h : i < xs.length) (d : Ec) : runD (xs.take (i + 1)) d = (appD (runD (xs.take i) d) xs[i]).2.2 := by
 unfold runD
 rw [List.take_succ_eq_append_getElem h,List.foldl_append]
 rfl
theorem OQ7 (e : Ec) (o : Opn) : (appE e o).2.1 = !(peekE e o).2 := by
 unfold appE
 by_cases h : (peekE e o).2 = true
 ·rw [if_pos h,h];rfl
 ·rw [if_neg h]
  have : (peekE e o).2 = false := by simpa using h
  rw [this];rfl
theorem GOk.vok {d e : Ec} {n : Nat} (h : GOk d e n) (k : ByteArray) : VOk (atV d k).ps (atV d k).n n := by
 rw [h.sim.at]
 unfold atV
 cases hg : getL e.vs k with
 | none => exact vOk_i n
 | some V => exact h.ok _ (AH7 hg)
def KeepE (I : Ec → Nat → Prop) : Prop := ∀ (e : Ec) (n : Nat) (o : Opn),I e n → (∀ x ∈ e.vs,(∀ o ∈ x.2.L,MayP o) ∧ x.2.L.length ≤ 32) → EOk (appE e o).2.2 (n + 1) → I (appE e o).2.2 (n + 1)
def GoR (I : Ec → Nat → Prop) (W : World) (Lr : List HP) (eb xb : Nat) (xs : List Opn) (d e : Ec) (n : Nat) (v : Value) (w : World) : Prop :=
 ∃ i : Nat,v = .int .i64 i ∧ i ≤ xs.length ∧ GOk (runD (xs.take i) d) (runE (xs.take i) e) (n + i) ∧ I (runE (xs.take i) e) (n + i) ∧ St W (ecP eb (runE (xs.take i) e) :: xecP xb (runD (xs.take i) d) :: Lr) w
section
variable {W w : World} {L R : List HP} {eb xb : Nat} {d e : Ec} {i : Nat} {k u : ByteArray} {x0 x1 x2 x3 cl sq : Int} {b : Bool}
theorem atA (ht : Take L (ecP eb e) R) (hx : purseA (atV e k).ps u = ⟨x0,x1,x2,x3⟩) (hS : St W L w) :
  Calls Tryz.prog 18 #[.pointer (some ⟨eb,0,none⟩),.agg #[.string k,.string u]] w fun x w' => x = .returned (.agg #[.int .i64 x0,.int .i64 x1,.int .i64 x2,.int .i64 x3]) ∧ St W L w' := by
 refine (Jg7 k u hx W w R (hS.take ht)).mono ?_
 rintro x w' ⟨rfl,hS⟩
 exact ⟨rfl,hS.back ht⟩
theorem at8A (ht : Take L (xecP xb d) R) (hA : Asc ltB d.vs) (hok : VOk (atV d k).ps (atV d k).n i) (hx : purseA (atV d k).ps u = ⟨x0,x1,x2,x3⟩) (hS : St W L w) :
  Calls Tryz.prog 84 #[.pointer (some ⟨xb,0,none⟩),.agg #[.string k,.string u]] w fun x w' => x = .returned (.agg #[.int .i64 x0,.int .i64 x1,.int .i64 x2,.int .i64 x3]) ∧ St W L w' := by
 refine (at8_x hA k u hok hx (hS.take ht)).mono ?_
 rintro x w' ⟨rfl,hS⟩
 exact ⟨rfl,hS.back ht⟩
theorem arrA (ht : Take L (ecP eb e) R) (hb : (getL e.ar (cl,sq)).isSome = b) (hS : St W L w) :
  Calls Tryz.prog 19 #[.pointer (some ⟨eb,0,none⟩),.int .i64 cl,.int .i64 sq] w fun x w' => x = .returned (.bool b) ∧ St W L w' := by
 refine (Hk7 cl sq hb W w R (hS.take ht)).mono ?_
 rintro x w' ⟨rfl,hS⟩
 exact ⟨rfl,hS.back ht⟩
theorem arr8A (ht : Take L (xecP xb d) R) (hb : (getL d.ar (cl,sq)).isSome = b) (hS : St W L w) :
  Calls Tryz.prog 82 #[.pointer (some ⟨xb,0,none⟩),.int .i64 cl,.int .i64 sq] w fun x w' => x = .returned (.bool b) ∧ St W L w' := by
 refine (Kf7 cl sq hb (hS.take ht)).mono ?_
 rintro x w' ⟨rfl,hS⟩
 exact ⟨rfl,hS.back ht⟩
end
theorem LR7 {xb : Nat} {d d2 : Ec} {i : Nat} (hi : i ≤ 5000) {kd cl sq : Int} {ak aw tk tw : ByteArray} {it ct pr : Int} {bu : Bool} {id : Int} (hd0 : DOk d ak i) {r0 r1 r2 r3 r4 r5 : Int} {b : Bool} (h : appD d ⟨kd,cl,sq,ak,aw,tk,tw,it,ct,pr,bu,id⟩ = (⟨r0,r1,⟨r2,r3,r4,r5⟩⟩,b,d2)) (W w : World) (R : List HP) (hS : St W (xecP xb d :: R) w) :
  Calls Tryz.prog 21 #[.pointer (some ⟨xb,0,none⟩),oV kd cl sq ak aw tk tw it ct pr bu id] w fun x w' => x = .returned (.tuple #[rV r0 r1 r2 r3 r4 r5,.bool b]) ∧ St W (xecP xb d2 :: R) w' := by
 have h1 := No7 hi (kd := kd) (cl := cl) (sq := sq) (aw := aw) (tk := tk) (tw := tw) (it := it) (ct := ct) (pr := pr) (bu := bu) (id := id) hd0 W w R hS
 rw [h] at h1
 exact h1
theorem Hu7 {eb : Nat} {e e2 : Ec} {i : Nat} (hE : EOk e i) (hi : i ≤ 1000000) {kd cl sq : Int} {ak aw tk tw : ByteArray} {it ct pr : Int} {bu : Bool} {id : Int} {r0 r1 r2 r3 r4 r5 : Int} {b : Bool} (h : appE e ⟨kd,cl,sq,ak,aw,tk,tw,it,ct,pr,bu,id⟩ = (⟨r0,r1,⟨r2,r3,r4,r5⟩⟩,b,e2)) (W w : World) (R : List HP) (hS : St W (ecP eb e :: R) w) :
  Calls Tryz.prog 16 #[.pointer (some ⟨eb,0,none⟩),oV kd cl sq ak aw tk tw it ct pr bu id] w fun x w' => EOk e2 (i + 1) ∧ x = .returned (.tuple #[rV r0 r1 r2 r3 r4 r5,.bool b]) ∧ St W (ecP eb e2 :: R) w' := Gd7 hE hi h W w R hS
theorem LS7 (xs : List Opn) (hlen : xs.length ≤ 150) (v : Value) (V : World) (hv : SliceV Opn.cells 12 V v xs) {d e : Ec} {n : Nat} (hn : n ≤ 4000) (h : GOk d e n) {I : Ec → Nat → Prop} (hI : KeepE I) (hi0 : I e n) (eb xb : Nat) (W w : World) (Lr : List HP) (hS : St W (ecP eb e :: xecP xb d :: Old V :: Lr) w) :
  Calls Tryz.prog 32 #[.pointer (some ⟨eb,0,none⟩),.pointer (some ⟨xb,0,none⟩),v] w fun r w' => r = .returned (.bool true) ∧ GOk (runD xs d) (runE xs e) (n + xs.length) ∧ I (runE xs e) (n + xs.length) ∧ St W (ecP eb (runE xs e) :: xecP xb (runD xs d) :: Old V :: Lr) w' := by
 obtain ⟨a,cap,rfl,h63,hact⟩ := hv.opn
 have Ha := Lib.hid hact
 have HG0 := Lib.hid h
 have HI := Lib.hid hI
 have HI0 := Lib.hid hi0
 clear hact hv h hI hi0
 go_enter Tryz.func32,Tryz.ntmps32
 go_wp2_with (first|go_big_skip)
 go_loopw [7] (fun v wr => GoR I W (Old V :: Lr) eb xb xs d e n v wr) (fun v _ => xs.length - (intOf v).toNat)
 case atStart => exact ⟨0,rfl,Nat.zero_le _,HG0.out,HI0.out,hS⟩
 case round =>
  clear hS
  obtain ⟨i,rfl,hi,hG,hi1,hS⟩ := hrel
  by_cases hend : i = xs.length
  ·subst hend
   have d3 : decide ((xs.length : Int) < (xs.length : Int)) = false := by simp
   rw [List.take_length] at hS hG hi1
   have HG := Lib.hid hG
   have HI1 := Lib.hid hi1
   clear hG hi1
   go_wp2_with (first|go_big_skip)
   go_ret
   exact ⟨rfl,HG.out,HI1.out,hS⟩
  have hil : i < xs.length := by omega
  have dil : decide ((i : Int) < (xs.length : Int)) = true := by simp;omega
  have hi6 : n + i ≤ 4150 := by omega
  clear hend hi
  obtain ⟨pb,poff,rfl,hA⟩ := Ha.out i hil
  have hall := hA.all
  have hcl := hA.client
  have hsq := hA.seq
  have hpl : ∀ (j : Nat) (v : Value),([.string xs[i].ak,.string xs[i].aw] : List Value)[j]? = some v → V.cell? ⟨pb,poff + i * 12 + 3 + j,none⟩ = some v := by
   intro j v hj
   match j,hj with
   | 0,hj => cases hj;exact hA.ak
   | 1,hj => cases hj;exact hA.aw
   | j + 2,hj => simp at hj
  clear hA
  have hs1 := OO7 hil e
  have hs2 := OP7 hil d
  obtain ⟨e1,he⟩ : ∃ z,runE (xs.take i) e = z := ⟨_,rfl⟩
  obtain ⟨d1,hd⟩ : ∃ z,runD (xs.take i) d = z := ⟨_,rfl⟩
  rw [he] at hG hS hs1 hi1
  rw [hd] at hG hS hs2
  clear he hd
  generalize xs[i] = x at hall hcl hsq hpl hs1 hs2
  obtain ⟨kd,cl,sq,ak,aw,tk,tw,it,ct,pr,bu,id⟩ := x
  simp only [Opn.cells] at hall hcl hsq hpl
  obtain ⟨⟨⟨p0,p1,⟨p2,p3,p4,p5⟩⟩,pk⟩,hp⟩ : ∃ z,peekE e1 ⟨kd,cl,sq,ak,aw,tk,tw,it,ct,pr,bu,id⟩ = z := ⟨_,rfl⟩
  obtain ⟨⟨⟨r0,r1,⟨r2,r3,r4,r5⟩⟩,rb,e2⟩,h1⟩ : ∃ z,appE e1 ⟨kd,cl,sq,ak,aw,tk,tw,it,ct,pr,bu,id⟩ = z := ⟨_,rfl⟩
  have hrb : rb = !pk := by
   have := OQ7 e1 ⟨kd,cl,sq,ak,aw,tk,tw,it,ct,pr,bu,id⟩
   rw [h1,hp] at this
   exact this
  have hq : peekD d1 ⟨kd,cl,sq,ak,aw,tk,tw,it,ct,pr,bu,id⟩ = (⟨p0,p1,⟨p2,p3,p4,p5⟩⟩,pk) := by rw [hG.sim.peek,hp]
  obtain ⟨d2,hd2⟩ : ∃ z,(appD d1 ⟨kd,cl,sq,ak,aw,tk,tw,it,ct,pr,bu,id⟩).2.2 = z := ⟨_,rfl⟩
  have h2 : appD d1 ⟨kd,cl,sq,ak,aw,tk,tw,it,ct,pr,bu,id⟩ = (⟨r0,r1,⟨r2,r3,r4,r5⟩⟩,rb,d2) := by
   obtain ⟨g1,g2,_⟩ := Im7 hG.sim ⟨kd,cl,sq,ak,aw,tk,tw,it,ct,pr,bu,id⟩
   rw [h1] at g1 g2
   exact Prod.ext g1 (Prod.ext g2 hd2)
  have hgn := hG.app ⟨kd,cl,sq,ak,aw,tk,tw,it,ct,pr,bu,id⟩
  have hin := HI.out e1 (n + i) ⟨kd,cl,sq,ak,aw,tk,tw,it,ct,pr,bu,id⟩ hi1
  rw [h1] at hs1 hgn hin
  rw [h2] at hs2 hgn
  dsimp only at hs1 hs2 hgn hin
  have hsim2 : SimE d2 e2 := by
   have := (Im7 hG.sim ⟨kd,cl,sq,ak,aw,tk,tw,it,ct,pr,bu,id⟩).2.2
   rw [h1,h2] at this
   exact this
  obtain ⟨⟨z0,z1,z2,z3⟩,hz⟩ : ∃ z,purseA (atV e2 ak).ps aw = z := ⟨_,rfl⟩
  have hz2 : purseA (atV d2 ak).ps aw = ⟨z0,z1,z2,z3⟩ := by rw [hsim2.at];exact hz
  obtain ⟨y,hy⟩ : ∃ y,(getL e2.ar (cl,sq)).isSome = y := ⟨_,rfl⟩
  have hy2 : (getL d2.ar (cl,sq)).isSome = y := by rw [AE7 hsim2.an hsim2.a];exact hy
  have Htk := Lib.hid hG.sim.tk
  have HG := Lib.hid hG
  have Hp := Lib.hid hp
  have Hq := Lib.hid hq
  have H1 := Lib.hid h1
  have H2 := Lib.hid h2
  have G2 := Lib.hid hgn
  have HIn := Lib.hid hin
  have S1 := Lib.hid hs1
  have S2 := Lib.hid hs2
  have Hz := Lib.hid hz
  have Hz2 := Lib.hid hz2
  have Hy := Lib.hid hy
  have Hy2 := Lib.hid hy2
  clear hi1 hin hG hp hq h1 h2 hgn hs1 hs2 hz hz2 hy hy2 hd2 hsim2
  have heq : ((z0 == z0) && ((z1 == z1) && ((z2 == z2) && (z3 == z3)))) = true := by simp
  have hep : Rpl.eqB ⟨p0,p1,⟨p2,p3,p4,p5⟩⟩ ⟨p0,p1,⟨p2,p3,p4,p5⟩⟩ = true := by unfold Rpl.eqB;simp
  have her : Rpl.eqB ⟨r0,r1,⟨r2,r3,r4,r5⟩⟩ ⟨r0,r1,⟨r2,r3,r4,r5⟩⟩ = true := by unfold Rpl.eqB;simp
  subst hrb
  cases pk
  all_goals cases y
  all_goals
   go_wp2_with (first|go_big_skip|(refine zlN hS ?_ (vs := [.int .i64 kd,.int .i64 cl,.int .i64 sq,.string ak,.string aw,.string tk,.string tw,.int .i64 it,.int .i64 ct,.int .i64 pr,.bool bu,.int .i64 id]) (hc := by exact Cells.old (by exact memS) hall))|((fail_if_success (have := gA));(refine zal hS ?_;clear hS;have gA : Nat := 0;intro bA w hS))|((have := gA);(fail_if_success (have := gB));(refine zal hS ?_;clear hS;have gB : Nat := 0;intro bB w hS))|((have := gB);(fail_if_success (have := gC));(refine zal hS ?_;clear hS;have gC : Nat := 0;intro bC w hS))|((have := gC);(refine zal hS ?_;clear hS;intro bD w hS))|(refine zsN hS ?_;clear hS;intro w hS)|(go_at_call 33;refine (OL7 Hp.out (hS.sel (L' := ecP eb e1 :: xecP xb d1 :: Old V :: Lr) (by exact selS))).mono ?_;clear hS;rintro ex w ⟨rfl,hS⟩)|(go_at_call 48;refine (OK7 Htk.out Hq.out (hS.sel (L' := xecP xb d1 :: ecP eb e1 :: blk bA _ _ :: Old V :: Lr) (by exact selS))).mono ?_;clear hS;rintro ex w ⟨rfl,hS⟩)|(go_at_call 16;have hS9 := hS.sel (L' := ecP eb e1 :: xecP xb d1 :: blk bB _ _ :: blk bA _ _ :: Old V :: Lr) (by exact selS);clear hS;have hdk := HG.out.dok (by omega) (In7 hS9) ak;have Hdk := Lib.hid hdk;clear hdk;have heE := In7 hS9;have HeE := Lib.hid heE;clear heE;refine (Hu7 HG.out.ok (by omega) H1.out W _ _ hS9).mono ?_;clear hS9;rintro ex w ⟨hok2,rfl,hS⟩;have Hok2 := Lib.hid hok2;clear hok2)|(go_at_call 21;refine (LR7 (by omega) Hdk.out H2.out W _ _ (hS.sel (L' := xecP xb d1 :: ecP eb e2 :: blk bC _ _ :: blk bB _ _ :: blk bA _ _ :: Old V :: Lr) (by exact selS))).mono ?_;clear hS;rintro ex w ⟨rfl,hS⟩))
   have hg2 := G2.out Hok2.out
   have HG2 := Lib.hid hg2
   have HA2 := Lib.hid hg2.sim.va
   have HV2 := Lib.hid (hg2.vok ak)
   have HI2 := Lib.hid (HIn.out HeE.out Hok2.out)
   clear hg2
   have hS1 := hS.sel (L' := ecP eb e2 :: xecP xb d2 :: blk bA _ _ :: blk bB _ _ :: blk bC _ _ :: blk bD _ _ :: Old V :: Lr) (by exact selS)
   clear hS
   refine Ab7 (by kernel_rfl) (by kernel_rfl) hS1 ?_
   repeat (first|go_big_quiet_skip|(refine zqN ?_)|(refine zqN ?_ (vs := [.string ak,.string aw]) (hc := by exact Cells.old (by exact memS) hpl))|(refine zq1 ?_ (hc := by first|exact Cell.old (by exact memS) hcl|exact Cell.old (by exact memS) hsq))|((apply Lj7);(with_reducible rfl);rfl;rfl;rfl;kernel_rfl;exact Ge7 hep;(simp only [Bool.not_true]);(refine frS ?_))|((apply Lj7);(with_reducible rfl);rfl;rfl;rfl;kernel_rfl;exact Ge7 her;(simp only [Bool.not_true]);(refine frS ?_))|((apply Lj7);(with_reducible rfl);rfl;rfl;rfl;kernel_rfl;exact eqI _ _ _ _ _ _ _ _;(rw [heq]);(simp only [Bool.not_true]);(refine frS ?_))|(apply As7;rfl;(intro w;apply Ai7;(with_reducible rfl);decide +kernel;(focus (simp only [fD,fI,fJ,Act.eval,fE,fF,fG,fH,fK];try rfl)));(intro w hS;exact atA .head Hz.out hS);(refine frS ?_))|(apply As7;rfl;(intro w;apply Ai7;(with_reducible rfl);decide +kernel;(focus (simp only [fD,fI,fJ,Act.eval,fE,fF,fG,fH,fK];try rfl)));(intro w hS;exact at8A (.tail .head) HA2.out HV2.out Hz2.out hS);(refine frS ?_))|(apply As7;rfl;(intro w;apply Ai7;(with_reducible rfl);decide +kernel;(focus (simp only [fD,fI,fJ,Act.eval,fE,fF,fG,fH,fK];try rfl)));(intro w hS;exact arrA .head Hy.out hS);(refine frS ?_))|(apply As7;rfl;(intro w;apply Ai7;(with_reducible rfl);decide +kernel;(focus (simp only [fD,fI,fJ,Act.eval,fE,fF,fG,fH,fK];try rfl)));(intro w hS;exact arr8A (.tail .head) Hy2.out hS);(refine frS ?_))|(refine qQ ?_;intro K hK;go_big_quiet_op;go_big_quiet_on))
   clear hS1
   intro w hS
   go_wp2_with (first|go_big_skip)
   go_roundw
   case rel => exact ⟨i + 1,rfl,hil,by rw [S1.out,S2.out];exact HG2.out,by rw [S1.out];exact HI2.out,by rw [S1.out,S2.out];exact hS.sel (by exact selS)⟩
   case measure => simp [intOf];try omega
def TeR (W : World) (R : List HP) (E : Ev) (m1 r : Nat) (v4 : Value) (w : World) : Prop :=
 ∃ done todo : List (ByteArray × Nat),(done ++ todo).Perm (ptrsE E) ∧ St W (itsR v4 (done.map fun y => totI (vAt E y.1)) :: itR eS eN r m1 (ptrsE E) todo :: vauP E :: R) w
def sumVs (k : Int) : List (ByteArray × Vs) → Int
 | [] => 0
 | x :: l => totV x.2 k + sumVs k l
def totE (e : Ec) (k : Int) : Int := sumVs k e.vs
def EachV (e : Ec) : Prop := ∀ x ∈ e.vs,(∀ o ∈ x.2.L,MayP o) ∧ x.2.L.length ≤ 32
def addK (o : Opn) (r : Rpl) (b : Bool) (k : Int) : Int :=
 if b = true ∧ r.err = 0 then (if o.kind = 1 ∨ o.kind = 6 then (if k = o.item then o.cnt else 0) else if o.kind = 2 then -(if k = o.item then o.cnt else 0) else 0) else 0
section
variable {e : Ec} {o : Opn} {n : Nat}
theorem Py7 (hm : mayO o = true) (h : o.kind = 1 ∨ o.kind = 2 ∨ o.kind = 6) : Kx o.item ∧ 1 ≤ o.cnt ∧ o.cnt ≤ 1048576 ∧ whoB o.aw = true := by
 unfold mayO headB plcB at hm
 simp only [Bool.and_eq_true] at hm
 obtain ⟨⟨_,_,_,_,_,hw⟩,hk⟩ := hm
 have hc : cntB o = true := by
  unfold kindB at hk
  rcases h with h|h|h
  ·rw [if_pos h] at hk
   unfold countsB at hk
   simp only [Bool.and_eq_true] at hk
   exact hk.1
  ·rw [if_neg (by omega),if_pos h] at hk
   unfold sendsB at hk
   simp only [Bool.and_eq_true] at hk
   exact hk.2.1
  ·rw [if_neg (by omega),if_neg (by omega),if_neg (by omega),if_neg (by omega),if_neg (by omega),if_pos h] at hk
   unfold countsB at hk
   simp only [Bool.and_eq_true] at hk
   exact hk.1
 obtain ⟨h0,h4,c0,c1⟩ := Cw7 hc
 exact ⟨⟨h0,by omega⟩,c0,c1,hw⟩
end
theorem xec0 {W w : World} {R : List HP} {xb : Nat} (h : St W (xeB xb (.slice none 0 0) (.slice none 0 0) (.slice none 0 0) (.slice none 0 0) :: R) w) : St W (xecP xb ec0 :: R) w := by
 have h1 := h.rowNil (k := 2) (T := 140)
 have h2 := h1.rowNil (k := 8) (T := 40)
 have h3 := h2.rowNil (k := 8) (T := 143)
 have h4 : St W (sats [] :: _) w := St.shutS [] h3
 have h5 := h4.rowNil (k := 2) (T := 137)
 have h6 : St W (xrP (.slice none 0 0) [] :: dvaP [] :: xsP (.slice none 0 0) [] :: xtP (.slice none 0 0) [] :: xmP (.slice none 0 0) [] :: xeB xb (.slice none 0 0) (.slice none 0 0) (.slice none 0 0) (.slice none 0 0) :: R) w := h5
 exact xecShut (D := []) (d := ec0) rfl (h6.sel (by exact selS))
abbrev sumR (b : Nat) (s0 s1 s2 s3 : Int) : HP := blk b [.int .i64 s0,.int .i64 s1,.int .i64 s2,.int .i64 s3] 28
def TlR (W : World) (Lr : List HP) (eb xb sb : Nat) (xs : List Opn) (v : Value) (w : World) : Prop :=
 ∃ i : Nat,v = .int .i64 i ∧ i ≤ xs.length ∧ GOk (runD (xs.take i) ec0) (runE (xs.take i) ec0) i ∧ (∀ k,Kx k → totE (runE (xs.take i) ec0) k ≤ i * 1048576) ∧
  St W (ecP eb (runE (xs.take i) ec0) :: xecP xb (runD (xs.take i) ec0) :: sumR sb (totE (runE (xs.take i) ec0) 0) (totE (runE (xs.take i) ec0) 1) (totE (runE (xs.take i) ec0) 2) (totE (runE (xs.take i) ec0) 3) :: Lr) w
end Go.Proofs.YtlmhakmoioogaaaGreat
end
section
namespace Go.Proofs.YtlmhakmoioogaaaGreat
open Go.Shelf
def Tryz.sortInts_ren : Go.Shelf.Ren := ⟨fun|189 => 134|125 => 177|257 => 191|128 => 224|129 => 225|294 => 239|295 => 240|296 => 241|297 => 242|298 => 243|299 => 244|216 => 245|300 => 246|301 => 247|328 => 261|329 => 252|330 => 253|331 => 262|332 => 263|215 => 178|343 => 274|n => n,fun|28 => 62|3 => 3|46 => 195|0 => 0|51 => 295|53 => 194|4 => 4|183 => 289|182 => 288|131 => 134|5 => 5|9 => 9|218 => 318|222 => 262|228 => 332|229 => 181|n => n,fun|n => n⟩
theorem Tryz.sortInts : Go.Proofs.Lays.n189 Tryz.prog Tryz.sortInts_ren := {
 mixed := by kernel_rfl
 f125 := Tryz.func177.trans (congrArg some (by kernel_rfl))
 f128 := Tryz.func224.trans (congrArg some (by kernel_rfl))
 f129 := Tryz.func225.trans (congrArg some (by kernel_rfl))
 f189 := Tryz.func134.trans (congrArg some (by kernel_rfl))
 f215 := Tryz.func178.trans (congrArg some (by kernel_rfl))
 f216 := Tryz.func245.trans (congrArg some (by kernel_rfl))
 f257 := Tryz.func191.trans (congrArg some (by kernel_rfl))
 f294 := Tryz.func239.trans (congrArg some (by kernel_rfl))
 f295 := Tryz.func240.trans (congrArg some (by kernel_rfl))
 f296 := Tryz.func241.trans (congrArg some (by kernel_rfl))
 f297 := Tryz.func242.trans (congrArg some (by kernel_rfl))
 f298 := Tryz.func243.trans (congrArg some (by kernel_rfl))
 f299 := Tryz.func244.trans (congrArg some (by kernel_rfl))
 f300 := Tryz.func246.trans (congrArg some (by kernel_rfl))
 f301 := Tryz.func247.trans (congrArg some (by kernel_rfl))
 f328 := Tryz.func261.trans (congrArg some (by kernel_rfl))
 f329 := Tryz.func252.trans (congrArg some (by kernel_rfl))
 f330 := Tryz.func253.trans (congrArg some (by kernel_rfl))
 f331 := Tryz.func262.trans (congrArg some (by kernel_rfl))
 f332 := Tryz.func263.trans (congrArg some (by kernel_rfl))
 f343 := Tryz.func274.trans (congrArg some (by kernel_rfl))
 t0 := Tryz.underlying0
 a0 := Tryz.isAgg0
 z0 := Tryz.sizeOf0
 v0 := Tryz.zeroValue0
 t3 := Tryz.underlying3
 a3 := Tryz.isAgg3
 z3 := Tryz.sizeOf3
 v3 := Tryz.zeroValue3
 t4 := Tryz.underlying4
 a4 := Tryz.isAgg4
 z4 := Tryz.sizeOf4
 v4 := Tryz.zeroValue4
 t5 := Tryz.underlying5
 a5 := Tryz.isAgg5
 z5 := Tryz.sizeOf5
 v5 := Tryz.zeroValue5
 t9 := Tryz.underlying9
 a9 := Tryz.isAgg9
 z9 := Tryz.sizeOf9
 v9 := Tryz.zeroValue9
 t28 := Tryz.underlying62
 a28 := Tryz.isAgg62
 z28 := Tryz.sizeOf62
 v28 := Tryz.zeroValue62
 t46 := Tryz.underlying195
 a46 := Tryz.isAgg195
 z46 := Tryz.sizeOf195
 v46 := Tryz.zeroValue195
 t51 := Tryz.underlying295
 a51 := Tryz.isAgg295
 z51 := Tryz.sizeOf295
 v51 := Tryz.zeroValue295
 t53 := Tryz.underlying194
 a53 := Tryz.isAgg194
 z53 := Tryz.sizeOf194
 v53 := Tryz.zeroValue194
 t131 := Tryz.underlying134
 a131 := Tryz.isAgg134
 z131 := Tryz.sizeOf134
 v131 := Tryz.zeroValue134
 t182 := Tryz.underlying288
 a182 := Tryz.isAgg288
 z182 := Tryz.sizeOf288
 v182 := Tryz.zeroValue288
 t183 := Tryz.underlying289
 a183 := Tryz.isAgg289
 z183 := Tryz.sizeOf289
 v183 := Tryz.zeroValue289
 t218 := Tryz.underlying318
 a218 := Tryz.isAgg318
 z218 := Tryz.sizeOf318
 v218 := Tryz.zeroValue318
 t222 := Tryz.underlying262
 a222 := Tryz.isAgg262
 z222 := Tryz.sizeOf262
 v222 := Tryz.zeroValue262
 t228 := Tryz.underlying332
 a228 := Tryz.isAgg332
 z228 := Tryz.sizeOf332
 v228 := Tryz.zeroValue332
 t229 := Tryz.underlying181
 a229 := Tryz.isAgg181
 z229 := Tryz.sizeOf181
 v229 := Tryz.zeroValue181 }
end Go.Proofs.YtlmhakmoioogaaaGreat
end
