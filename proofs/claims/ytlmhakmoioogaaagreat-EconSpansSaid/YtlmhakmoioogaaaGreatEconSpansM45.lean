/-
  The document's At, Peek, Arrived over its economy as one resource; both economies go on alike. For every economy, all requests.
  Is it a span; is a key one of a span's: of the program, of the document. For all of them.
  The library's contracts laid at this program: written by the kit's tool lay-plain.
  maps.Clone of maps as resources: one more map with the same entries. For every map.
-/
import Derived.Test.YtlmhakmoioogaaaGreatEconSpansM5
import Derived.Test.YtlmhakmoioogaaaGreatEconSpansM29
import Derived.Test.YtlmhakmoioogaaaGreatEconSpansM44
import Derived.Test.YtlmhakmoioogaaaGreatProg
import Derived.Shelf.SlMaps.Clone
import Derived.Ground.SlmcProg
set_option maxHeartbeats 16000000
set_option maxRecDepth 100000
set_option linter.unusedSimpArgs false
set_option linter.unusedVariables false
section
namespace Go.Proofs.YtlmhakmoioogaaaGreat
open Go.RowKit Go.Sl
section
variable {W w : World} {R : List HP} {xb eb : Nat} {d e : Ec} {i : Nat}
theorem NU7 (hk : TsK d.ts) {kd cl sq : Int} {ak aw tk tw : ByteArray} {it ct pr : Int} {bu : Bool} {id : Int} {r0 r1 r2 r3 r4 r5 : Int} {b : Bool} (hp : peekD d ⟨kd,cl,sq,ak,aw,tk,tw,it,ct,pr,bu,id⟩ = (⟨r0,r1,⟨r2,r3,r4,r5⟩⟩,b)) (hS : St W (xecP xb d :: R) w) :
  Calls Tryz.prog 48 #[.pointer (some ⟨xb,0,none⟩),oV kd cl sq ak aw tk tw it ct pr bu id] w fun e w' => e = .returned (.tuple #[rV r0 r1 r2 r3 r4 r5,.bool b]) ∧ St W (xecP xb d :: R) w' := by
 obtain ⟨v1,v2,v3,v4,D,hd,hS⟩ := xecOpen hS
 refine (peek8 (d := d) hk hp (hS.sel (L' := xeB xb v1 v2 v3 v4 :: xsP v2 d.ss :: xtP v3 d.ts :: xmP v4 d.ar :: xrP v1 D :: dvaP D :: R) (by exact selS))).mono ?_
 rintro e w' ⟨rfl,hS⟩
 exact ⟨rfl,xecShut hd (hS.sel (by exact selS))⟩
theorem JF7 (cl sq : Int) {b : Bool} (hb : (getL d.ar (cl,sq)).isSome = b) (hS : St W (xecP xb d :: R) w) :
  Calls Tryz.prog 82 #[.pointer (some ⟨xb,0,none⟩),.int .i64 cl,.int .i64 sq] w fun e w' => e = .returned (.bool b) ∧ St W (xecP xb d :: R) w' := by
 obtain ⟨v1,v2,v3,v4,D,hd,hS⟩ := xecOpen hS
 refine (Dk7 d.ar cl sq hb xb v1 v2 v3 v4 W _ _ (hS.sel (L' := xeB xb v1 v2 v3 v4 :: xmP v4 d.ar :: xsP v2 d.ss :: xtP v3 d.ts :: xrP v1 D :: dvaP D :: R) (by exact selS))).mono ?_
 rintro e w' ⟨rfl,hS⟩
 exact ⟨rfl,xecShut hd (hS.sel (by exact selS))⟩
theorem at8_x (hA0 : Asc ltB d.vs) (k u : ByteArray) (hok : VOk (atV d k).ps (atV d k).n i) {x0 x1 x2 x3 : Int} (hx : purseA (atV d k).ps u = ⟨x0,x1,x2,x3⟩) (hS : St W (xecP xb d :: R) w) :
  Calls Tryz.prog 84 #[.pointer (some ⟨xb,0,none⟩),.agg #[.string k,.string u]] w fun e w' => e = .returned (.agg #[.int .i64 x0,.int .i64 x1,.int .i64 x2,.int .i64 x3]) ∧ St W (xecP xb d :: R) w' := by
 obtain ⟨v1,v2,v3,v4,D,hd,hS⟩ := xecOpen hS
 have hA : Asc ltB D := Hc7 (hd.symm ▸ hA0)
 have hV : atV d k = vAt D k := (vAt_d hA0 hd k).symm
 rw [hV] at hok hx
 clear hV
 have Hd := Lib.hid hd
 obtain ⟨p,hp⟩ : ∃ p,plI ltB D k = p := ⟨_,rfl⟩
 have Hp := Lib.hid hp
 cases hb : plB ltB D k with
 | false =>
  rw [IP7 hA hb] at hx
  cases hx
  have Hb := Lib.hid hb
  clear hb hp hd hok hA0 hA
  go_enter Tryz.func84,Tryz.ntmps84
  go_wp2_with (first|(refine zbx hS ?_;clear hS;intro bO w hS)|(refine zal hS ?_;clear hS;intro bR w hS)|(refine zl1 hS ?_)|(refine zsN hS ?_;clear hS;intro w hS)|(go_at_call 80;refine (Di7 Hp.out Hb.out xb v1 v2 v3 v4 W _ _ (hS.sel (L' := xeB xb v1 v2 v3 v4 :: xrP v1 D :: blk bR _ _ :: blk bO _ _ :: dvaP D :: xsP v2 d.ss :: xtP v3 d.ts :: xmP v4 d.ar :: R) (by exact selS))).mono ?_;clear hS;rintro e w ⟨rfl,hS⟩))
  (apply Ap7;rfl;rfl;rfl;exact hS;decide +kernel;(exact cesS);kernel_rfl)
  exact ⟨rfl,xecShut Hd.out (hS.sel (by exact selS))⟩
 | true =>
  obtain ⟨hpl,vb,V,hxx,hv,hD⟩ := IO7 hA hb
  rw [hv] at hok hx
  obtain ⟨a,cap,rfl⟩ := hS.drop.rowVal
  obtain ⟨⟨g,rfl⟩,hcap,hcn⟩ := St.rowAddr hS.drop (by omega)
  have hc : ∀ {K K' : List HP},Take K (xrP (.slice (some ⟨g,0,none⟩) D.length cap) D) K' → Cell K g (plI ltB D k * 2 + 1) (.pointer (some ⟨vb,0,none⟩)) := fun hu => Cells.elemM (enc := rwC) Bw7 hu hpl 1 _ (by rw [hxx];rfl)
  rw [hp] at hc hpl
  have h1 := hS.sel (L' := dvaP D :: xeB xb (.slice (some ⟨g,0,none⟩) D.length cap) v2 v3 v4 :: xrP (.slice (some ⟨g,0,none⟩) D.length cap) D :: xsP v2 d.ss :: xtP v3 d.ts :: xmP v4 d.ar :: R) (by exact selS)
  clear hS
  obtain ⟨A,hA1⟩ : ∃ A,loA D k = A := ⟨_,rfl⟩
  obtain ⟨B,hB1⟩ : ∃ B,hiA D k = B := ⟨_,rfl⟩
  rw [hA1,hB1] at hD
  have hback : ∀ w' K,St W (dvP vb V :: dvaP (A ++ B) :: K) w' → St W (dvaP D :: K) w' := by
   intro w' K h
   have h3 := dvaShut (x := (k,(vb,V))) h
   rw [← hD] at h3
   exact h3
  have h2 : St W (dvP vb V :: dvaP (A ++ B) :: xeB xb (.slice (some ⟨g,0,none⟩) D.length cap) v2 v3 v4 :: xrP (.slice (some ⟨g,0,none⟩) D.length cap) D :: xsP v2 d.ss :: xtP v3 d.ts :: xmP v4 d.ar :: R) w := by
   have h4 : St W (dvaP (A ++ (k,(vb,V)) :: B) :: xeB xb (.slice (some ⟨g,0,none⟩) D.length cap) v2 v3 v4 :: xrP (.slice (some ⟨g,0,none⟩) D.length cap) D :: xsP v2 d.ss :: xtP v3 d.ts :: xmP v4 d.ar :: R) w := by rw [← hD];exact h1
   exact dvaOpen h4
  obtain ⟨xB,hS⟩ := dvOpen h2
  have Hb := Lib.hid hb
  have Hback := Lib.hid hback
  have Hx := Lib.hid hx
  have Hok := Lib.hid hok
  clear h1 h2 hback hD hA1 hB1 hxx hv hb hp hd hx hok hA0 hA
  go_enter Tryz.func84,Tryz.ntmps84
  go_wp2_with (first|(refine zbx hS ?_;clear hS;intro bO w hS)|(refine zal hS ?_;clear hS;intro bR w hS)|(refine zl1 hS ?_)|(go_at_call 80;refine (Di7 Hp.out Hb.out xb _ v2 v3 v4 W _ _ (hS.sel (L' := xeB xb (.slice (some ⟨g,0,none⟩) D.length cap) v2 v3 v4 :: xrP (.slice (some ⟨g,0,none⟩) D.length cap) D :: xvP vb _ V.n V.ps :: xkP xB V.L V.n :: blk bR _ _ :: blk bO _ _ :: dvaP (A ++ B) :: xsP v2 d.ss :: xtP v3 d.ts :: xmP v4 d.ar :: R) (by exact selS))).mono ?_;clear hS;rintro e w ⟨rfl,hS⟩))
  have hS1 := hS.sel (L' := xvP vb (.pointer (some ⟨xB,0,none⟩)) V.n V.ps :: xkP xB V.L V.n :: xeB xb (.slice (some ⟨g,0,none⟩) D.length cap) v2 v3 v4 :: xrP (.slice (some ⟨g,0,none⟩) D.length cap) D :: blk bR _ _ :: blk bO _ _ :: dvaP (A ++ B) :: xsP v2 d.ss :: xtP v3 d.ts :: xmP v4 d.ar :: R) (by exact selS)
  clear hS
  refine Af7 11 (by kernel_rfl) (by kernel_rfl) hS1 ?_
  repeat (first|(refine zq1 ?_)|(refine zqn ?_)|(apply Aq7;(with_reducible rfl);rfl;rfl;decide +kernel;(exact hc (by exact takeS));(refine frS ?_))|(apply Ar7;rfl;(intro w;apply Ai7;(with_reducible rfl);decide +kernel;(focus (simp only [fD,fI,fJ,Act.eval,fE,fF,fG,fH,fK];try rfl)));(intro w hS;exact has8P Hok.out.w Hx.out hS);(refine frS ?_))|(refine qQ ?_;intro K hK;go_big_quiet_op;go_big_quiet_on))
  clear hS1
  intro w hS
  simp only [List.drop_succ_cons,List.drop_zero]
  go_wp2_with (first|(refine zsN hS ?_;clear hS;intro w hS))
  (apply Ap7;rfl;rfl;rfl;exact hS;decide +kernel;(exact cesS);kernel_rfl)
  have h1 := dvShut (V := V) (hS.sel (L' := xvP vb (.pointer (some ⟨xB,0,none⟩)) V.n V.ps :: xkP xB V.L V.n :: dvaP (A ++ B) :: xeB xb (.slice (some ⟨g,0,none⟩) D.length cap) v2 v3 v4 :: xrP (.slice (some ⟨g,0,none⟩) D.length cap) D :: xsP v2 d.ss :: xtP v3 d.ts :: xmP v4 d.ar :: R) (by exact selS))
  have h2 := Hback.out _ _ h1
  exact ⟨rfl,xecShut Hd.out (h2.sel (by exact selS))⟩
theorem NV7 {kd cl sq : Int} {ak aw tk tw : ByteArray} {it ct pr : Int} {bu : Bool} {id : Int} {r0 r1 r2 r3 r4 r5 : Int} {b : Bool} (hp : peekE e ⟨kd,cl,sq,ak,aw,tk,tw,it,ct,pr,bu,id⟩ = (⟨r0,r1,⟨r2,r3,r4,r5⟩⟩,b)) (hS : St W (ecP eb e :: R) w) :
  Calls Tryz.prog 33 #[.pointer (some ⟨eb,0,none⟩),oV kd cl sq ak aw tk tw it ct pr bu id] w fun x w' => x = .returned (.tuple #[rV r0 r1 r2 r3 r4 r5,.bool b]) ∧ St W (ecP eb e :: R) w' := by
 obtain ⟨m1,m2,m3,m4,E,h1,hn,hS⟩ := ecOpenR hS
 refine (AR7 (vs := e.vs) hp W _ _ hS).mono ?_
 rintro x w' ⟨rfl,hS⟩
 exact ⟨rfl,ecShut h1 (evOpen hS)⟩
theorem IR7 : ∀ {E : Ev} {R : List HP},St W (vauP E :: R) w → ∀ x ∈ E,(∀ o ∈ x.2.2.L,MayP o) ∧ x.2.2.L.length ≤ 32
 | [],_,_,_,hx => by cases hx
 | y :: E,R,h,x,hx => by
  have h1 := vauOpen (E := E) h
  rcases List.mem_cons.1 hx with rfl|hx
  ·obtain ⟨mb,bb,h2⟩ := vaultOpen h1
   exact ⟨fun o ho => (BP7 h2.drop.drop o ho).1,Cl7 h2.drop.drop⟩
  ·exact IR7 h1.drop x hx
theorem HW7 (h : St W (ecP eb e :: R) w) : ∀ x ∈ e.vs,(∀ o ∈ x.2.L,MayP o) ∧ x.2.L.length ≤ 32 := by
 obtain ⟨m1,m2,m3,m4,E,hp,h⟩ := ecOpen h
 have h1 : St W (vauP E :: R) w := h.sel (by exact selS)
 intro x hx
 obtain ⟨y,hy,rfl⟩ := List.mem_map.1 (hp.mem_iff.2 hx)
 exact IR7 h1 y hy
end
theorem vOk_i (i : Nat) : VOk [] 1 i := ⟨FJ7,KE7 _,by decide,by omega⟩
structure GOk (d e : Ec) (n : Nat) : Prop where
 sim : SimE d e
 ok : EOk e n
 lv : d.vs.length ≤ n
 ls : d.ss.length ≤ n
 lt : d.ts.length ≤ n
 la : d.ar.length ≤ n
theorem gOk0 : GOk ec0 ec0 0 := ⟨sim0,eOk0 0,Nat.le_refl _,Nat.le_refl _,Nat.le_refl _,Nat.le_refl _⟩
theorem GOk.dok {d e : Ec} {n : Nat} (h : GOk d e n) (hn : n ≤ 5000) (he : ∀ x ∈ e.vs,(∀ o ∈ x.2.L,MayP o) ∧ x.2.L.length ≤ 32) (k : ByteArray) : DOk d k n := by
 have h1 : VOk (atV d k).ps (atV d k).n n ∧ (∀ x ∈ (atV d k).L,MayP x) ∧ (atV d k).L.length ≤ 32 := by
  rw [h.sim.at]
  unfold atV
  cases hg : getL e.vs k with
  | none => exact ⟨vOk_i n,fun x hx => (by cases hx),Nat.zero_le _⟩
  | some V =>
   have h2 := AG7 hg
   exact ⟨h.ok _ h2,(he _ h2).1,(he _ h2).2⟩
 have := h.lv;have := h.ls;have := h.lt;have := h.la
 exact ⟨h.sim.va,h.sim.sn,h.sim.tk,by omega,by omega,by omega,by omega,h1.1,h1.2.1,h1.2.2⟩
section
variable {κ ν : Type} [DecidableEq κ]
theorem Lq7 {lt : κ → κ → Bool} (l : List (κ × ν)) (k : κ) (v : ν) : (plS lt l k v).length ≤ l.length + 1 := by
 have h := GW7 lt k l
 unfold plS
 rw [List.length_append,List.length_cons,List.length_take,List.length_drop]
 split <;> omega
theorem IS7 (l : List ((Int × Int) × ν)) (k : Int × Int) (v : ν) : (insW l k v).length ≤ l.length + 1 := by
 have h := GW7 ltW k l
 unfold insW
 rw [List.length_append,List.length_cons,List.length_take,List.length_drop]
 omega
theorem NW7 {α : Type} (l : List α) (i : Int) : (rmI l i).length ≤ l.length := by
 unfold rmI
 rw [List.length_append,List.length_take,List.length_drop]
 omega
end
theorem NX7 (l : List (ByteArray × Vs)) : (clV l).length ≤ l.length := List.length_filter_le _ _
theorem MG7 (d : Ec) (o : Opn) : (appD d o).2.2.vs.length ≤ d.vs.length + 1 ∧ (appD d o).2.2.ss.length ≤ d.ss.length + 1 ∧ (appD d o).2.2.ts.length ≤ d.ts.length + 1 ∧ (appD d o).2.2.ar.length ≤ d.ar.length + 1 := by
 unfold appD
 split
 ·exact ⟨Nat.le_succ _,Nat.le_succ _,Nat.le_succ _,Nat.le_succ _⟩
 ·refine ⟨?_,?_,?_,?_⟩
  ·show (vsD d o).length ≤ _
   unfold vsD
   refine Nat.le_trans (NX7 _) ?_
   split
   ·omega
   ·exact Lq7 _ _ _
  ·show (ssD d o _).length ≤ _
   unfold ssD
   split
   ·omega
   ·exact Lq7 _ _ _
  ·show (tsD d o _).length ≤ _
   unfold tsD
   split
   ·exact IS7 _ _ _
   ·split
    ·exact Nat.le_trans (NW7 _ _) (by omega)
    ·omega
  ·show (arD d o).length ≤ _
   unfold arD
   split
   ·exact IS7 _ _ _
   ·omega
theorem GOk.app {d e : Ec} {n : Nat} (h : GOk d e n) (o : Opn) (hok : EOk (appE e o).2.2 (n + 1)) : GOk (appD d o).2.2 (appE e o).2.2 (n + 1) := by
 obtain ⟨h1,h2,h3,h4⟩ := MG7 d o
 have := h.lv;have := h.ls;have := h.lt;have := h.la
 exact ⟨(HV7 h.sim o).2.2,hok,by omega,by omega,by omega,by omega⟩
def isB (f t : ByteArray) : Bool := decide ((f.size : Int) ≤ 16) && (decide ((t.size : Int) ≤ 16) && ((t.toList == []) || (!ltB t f && !(t.toList == f.toList))))
def inB (f t k : ByteArray) : Bool := isB f t && (decide (1 ≤ (k.size : Int)) && (decide ((k.size : Int) ≤ 16) && (!(ltB k f) && ((t.toList == []) || ltB k t))))
theorem Fv7 {f t : ByteArray} {r : Bool} (hr : isB f t = r) (W w : World) (R : List HP) (hS : St W R w) :
  Calls Tryz.prog 128 #[.agg #[.string f,.string t]] w fun e w' => e = .returned (.bool r) ∧ St W R w' := by
 go_enter Tryz.func128,Tryz.ntmps128
 unfold isB at hr
 cases h1 : decide ((f.size : Int) ≤ 16) with
 | false =>
  rw [h1] at hr
  obtain rfl : false = r := hr
  go_wp2_with (first|go_big_skip|(refine zbx hS ?_;clear hS;intro bO w hS)|(refine zl1 hS ?_))
  go_ret
  exact ⟨rfl,hS.drop⟩
 | true =>
  rw [h1] at hr
  cases h2 : decide ((t.size : Int) ≤ 16) with
  | false =>
   rw [h2] at hr
   obtain rfl : false = r := hr
   go_wp2_with (first|go_big_skip|(refine zbx hS ?_;clear hS;intro bO w hS)|(refine zl1 hS ?_))
   go_ret
   exact ⟨rfl,hS.drop⟩
  | true =>
   rw [h2] at hr
   cases h3 : t.toList == [] with
   | true =>
    rw [h3] at hr
    obtain rfl : true = r := hr
    go_wp2_with (first|go_big_skip|(refine zbx hS ?_;clear hS;intro bO w hS)|(refine zl1 hS ?_))
    go_ret
    exact ⟨rfl,hS.drop⟩
   | false =>
    rw [h3] at hr
    have hr2 : (!ltB t f && !(t.toList == f.toList)) = r := hr
    have Hr := Lib.hid hr2
    clear hr hr2
    go_wp2_with (first|(refine zbx hS ?_;clear hS;intro bO w hS)|(refine zl1 hS ?_))
    go_ret
    rw [← Hr.out]
    exact ⟨rfl,hS.drop⟩
theorem Fw7 {f t : ByteArray} {r : Bool} (hr : isB f t = r) (W w : World) (R : List HP) (hS : St W R w) :
  Calls Tryz.prog 64 #[.agg #[.string f,.string t]] w fun e w' => e = .returned (.bool r) ∧ St W R w' := by
 go_enter Tryz.func64,Tryz.ntmps64
 unfold isB at hr
 cases h1 : decide ((f.size : Int) ≤ 16) with
 | false =>
  rw [h1] at hr
  obtain rfl : false = r := hr
  go_wp2_with (first|go_big_skip|(refine zbx hS ?_;clear hS;intro bO w hS)|(refine zl1 hS ?_))
  go_ret
  exact ⟨rfl,hS.drop⟩
 | true =>
  rw [h1] at hr
  cases h2 : decide ((t.size : Int) ≤ 16) with
  | false =>
   rw [h2] at hr
   obtain rfl : false = r := hr
   go_wp2_with (first|go_big_skip|(refine zbx hS ?_;clear hS;intro bO w hS)|(refine zl1 hS ?_))
   go_ret
   exact ⟨rfl,hS.drop⟩
  | true =>
   rw [h2] at hr
   cases h3 : t.toList == [] with
   | true =>
    rw [h3] at hr
    obtain rfl : true = r := hr
    go_wp2_with (first|go_big_skip|(refine zbx hS ?_;clear hS;intro bO w hS)|(refine zl1 hS ?_))
    go_ret
    exact ⟨rfl,hS.drop⟩
   | false =>
    rw [h3] at hr
    have hr2 : (!ltB t f && !(t.toList == f.toList)) = r := hr
    have Hr := Lib.hid hr2
    clear hr hr2
    go_wp2_with (first|(refine zbx hS ?_;clear hS;intro bO w hS)|(refine zl1 hS ?_))
    go_ret
    rw [← Hr.out]
    exact ⟨rfl,hS.drop⟩
theorem IT7 {f t k : ByteArray} {r : Bool} (hr : inB f t k = r) (W w : World) (R : List HP) (hS : St W R w) :
  Calls Tryz.prog 61 #[.agg #[.string f,.string t],.string k] w fun e w' => e = .returned (.bool r) ∧ St W R w' := by
 go_enter Tryz.func61,Tryz.ntmps61
 unfold inB at hr
 cases h1 : isB f t with
 | false =>
  rw [h1] at hr
  obtain rfl : false = r := hr
  have H1 := Lib.hid h1
  clear h1
  go_wp2_with (first|go_big_skip|(refine zbx hS ?_;clear hS;intro bO w hS)|(refine zlN hS ?_)|(go_at_call 128;refine (Fv7 H1.out W _ _ hS).mono ?_;clear hS;rintro e w ⟨rfl,hS⟩))
  go_ret
  exact ⟨rfl,hS.drop⟩
 | true =>
  rw [h1] at hr
  have H1 := Lib.hid h1
  clear h1
  cases h2 : decide (1 ≤ (k.size : Int)) with
  | false =>
   rw [h2] at hr
   obtain rfl : false = r := hr
   go_wp2_with (first|go_big_skip|(refine zbx hS ?_;clear hS;intro bO w hS)|(refine zlN hS ?_)|(go_at_call 128;refine (Fv7 H1.out W _ _ hS).mono ?_;clear hS;rintro e w ⟨rfl,hS⟩))
   go_ret
   exact ⟨rfl,hS.drop⟩
  | true =>
   rw [h2] at hr
   cases h3 : decide ((k.size : Int) ≤ 16) with
   | false =>
    rw [h3] at hr
    obtain rfl : false = r := hr
    go_wp2_with (first|go_big_skip|(refine zbx hS ?_;clear hS;intro bO w hS)|(refine zlN hS ?_)|(go_at_call 128;refine (Fv7 H1.out W _ _ hS).mono ?_;clear hS;rintro e w ⟨rfl,hS⟩))
    go_ret
    exact ⟨rfl,hS.drop⟩
   | true =>
    rw [h3] at hr
    cases h4 : Op.bytesLess k.toList f.toList with
    | true =>
     rw [show ltB k f = true from h4] at hr
     obtain rfl : false = r := hr
     go_wp2_with (first|go_big_skip|(refine zbx hS ?_;clear hS;intro bO w hS)|(refine zlN hS ?_)|(refine zl1 hS ?_)|(go_at_call 128;refine (Fv7 H1.out W _ _ hS).mono ?_;clear hS;rintro e w ⟨rfl,hS⟩))
     go_ret
     exact ⟨rfl,hS.drop⟩
    | false =>
     rw [show ltB k f = false from h4] at hr
     cases h5 : t.toList == [] with
     | true =>
      rw [h5] at hr
      obtain rfl : true = r := hr
      go_wp2_with (first|(refine zbx hS ?_;clear hS;intro bO w hS)|(refine zlN hS ?_)|(refine zl1 hS ?_)|(go_at_call 128;refine (Fv7 H1.out W _ _ hS).mono ?_;clear hS;rintro e w ⟨rfl,hS⟩))
      go_ret
      exact ⟨rfl,hS.drop⟩
     | false =>
      rw [h5] at hr
      have hr2 : ltB k t = r := hr
      have Hr := Lib.hid hr2
      clear hr hr2
      go_wp2_with (first|(refine zbx hS ?_;clear hS;intro bO w hS)|(refine zlN hS ?_)|(refine zl1 hS ?_)|(go_at_call 128;refine (Fv7 H1.out W _ _ hS).mono ?_;clear hS;rintro e w ⟨rfl,hS⟩))
      go_ret
      rw [← Hr.out]
      exact ⟨rfl,hS.drop⟩
theorem IU7 {f t k : ByteArray} {r : Bool} (hr : inB f t k = r) (W w : World) (R : List HP) (hS : St W R w) :
  Calls Tryz.prog 26 #[.agg #[.string f,.string t],.string k] w fun e w' => e = .returned (.bool r) ∧ St W R w' := by
 go_enter Tryz.func26,Tryz.ntmps26
 unfold inB at hr
 cases h1 : isB f t with
 | false =>
  rw [h1] at hr
  obtain rfl : false = r := hr
  have H1 := Lib.hid h1
  clear h1
  go_wp2_with (first|go_big_skip|(refine zbx hS ?_;clear hS;intro bO w hS)|(refine zlN hS ?_)|(go_at_call 64;refine (Fw7 H1.out W _ _ hS).mono ?_;clear hS;rintro e w ⟨rfl,hS⟩))
  go_ret
  exact ⟨rfl,hS.drop⟩
 | true =>
  rw [h1] at hr
  have H1 := Lib.hid h1
  clear h1
  cases h2 : decide (1 ≤ (k.size : Int)) with
  | false =>
   rw [h2] at hr
   obtain rfl : false = r := hr
   go_wp2_with (first|go_big_skip|(refine zbx hS ?_;clear hS;intro bO w hS)|(refine zlN hS ?_)|(go_at_call 64;refine (Fw7 H1.out W _ _ hS).mono ?_;clear hS;rintro e w ⟨rfl,hS⟩))
   go_ret
   exact ⟨rfl,hS.drop⟩
  | true =>
   rw [h2] at hr
   cases h3 : decide ((k.size : Int) ≤ 16) with
   | false =>
    rw [h3] at hr
    obtain rfl : false = r := hr
    go_wp2_with (first|go_big_skip|(refine zbx hS ?_;clear hS;intro bO w hS)|(refine zlN hS ?_)|(go_at_call 64;refine (Fw7 H1.out W _ _ hS).mono ?_;clear hS;rintro e w ⟨rfl,hS⟩))
    go_ret
    exact ⟨rfl,hS.drop⟩
   | true =>
    rw [h3] at hr
    cases h4 : Op.bytesLess k.toList f.toList with
    | true =>
     rw [show ltB k f = true from h4] at hr
     obtain rfl : false = r := hr
     go_wp2_with (first|go_big_skip|(refine zbx hS ?_;clear hS;intro bO w hS)|(refine zlN hS ?_)|(refine zl1 hS ?_)|(go_at_call 64;refine (Fw7 H1.out W _ _ hS).mono ?_;clear hS;rintro e w ⟨rfl,hS⟩))
     go_ret
     exact ⟨rfl,hS.drop⟩
    | false =>
     rw [show ltB k f = false from h4] at hr
     cases h5 : t.toList == [] with
     | true =>
      rw [h5] at hr
      obtain rfl : true = r := hr
      go_wp2_with (first|(refine zbx hS ?_;clear hS;intro bO w hS)|(refine zlN hS ?_)|(refine zl1 hS ?_)|(go_at_call 64;refine (Fw7 H1.out W _ _ hS).mono ?_;clear hS;rintro e w ⟨rfl,hS⟩))
      go_ret
      exact ⟨rfl,hS.drop⟩
     | false =>
      rw [h5] at hr
      have hr2 : ltB k t = r := hr
      have Hr := Lib.hid hr2
      clear hr hr2
      go_wp2_with (first|(refine zbx hS ?_;clear hS;intro bO w hS)|(refine zlN hS ?_)|(refine zl1 hS ?_)|(go_at_call 64;refine (Fw7 H1.out W _ _ hS).mono ?_;clear hS;rintro e w ⟨rfl,hS⟩))
      go_ret
      rw [← Hr.out]
      exact ⟨rfl,hS.drop⟩
end Go.Proofs.YtlmhakmoioogaaaGreat
end
section
namespace Go.Proofs.YtlmhakmoioogaaaGreat
open Go.Shelf
def Tryz.cloneSs_ren : Go.Shelf.Ren := ⟨fun|5 => 59|7 => 127|n => n,fun|23 => 80|25 => 3|3 => 90|4 => 4|20 => 20|n => n,fun|n => n⟩
theorem Tryz.cloneSs : Go.Proofs.SlLaysW.n5 Tryz.prog Tryz.cloneSs_ren := {
 mixed := by kernel_rfl
 f5 := ⟨Tryz.f59.name,by decide,Tryz.func59.trans (congrArg some (by kernel_rfl))⟩
 f7 := Tryz.func127.trans (congrArg some (by kernel_rfl))
 t4 := Tryz.underlying4
 a4 := Tryz.isAgg4
 z4 := Tryz.sizeOf4
 v4 := Tryz.zeroValue4
 t20 := Tryz.underlying20
 a20 := Tryz.isAgg20
 z20 := Tryz.sizeOf20
 v20 := Tryz.zeroValue20
 t23 := Tryz.underlying80
 a23 := Tryz.isAgg80
 z23 := Tryz.sizeOf80
 v23 := Tryz.zeroValue80 }
def Tryz.cloneAr_ren : Go.Shelf.Ren := ⟨fun|5 => 60|7 => 127|n => n,fun|23 => 82|25 => 94|3 => 4|4 => 4|20 => 20|n => n,fun|n => n⟩
theorem Tryz.cloneAr : Go.Proofs.SlLaysW.n5 Tryz.prog Tryz.cloneAr_ren := {
 mixed := by kernel_rfl
 f5 := ⟨Tryz.f60.name,by decide,Tryz.func60.trans (congrArg some (by kernel_rfl))⟩
 f7 := Tryz.func127.trans (congrArg some (by kernel_rfl))
 t4 := Tryz.underlying4
 a4 := Tryz.isAgg4
 z4 := Tryz.sizeOf4
 v4 := Tryz.zeroValue4
 t20 := Tryz.underlying20
 a20 := Tryz.isAgg20
 z20 := Tryz.sizeOf20
 v20 := Tryz.zeroValue20
 t23 := Tryz.underlying82
 a23 := Tryz.isAgg82
 z23 := Tryz.sizeOf82
 v23 := Tryz.zeroValue82 }
end Go.Proofs.YtlmhakmoioogaaaGreat
end
section
namespace Go.Sl
open Go.RowKit
section
variable {κ ν : Type} {ek : κ → Value} {ev : ν → Value} {W w : World} {L : List HP} {b : Nat} {l : List (κ × ν)}
theorem amapTwice (h : St W (amap ek ev b l :: L) w) : ∃ es c,w.heap[b]? = some (.map es c) ∧ St W (amap ek ev w.heap.size l :: amap ek ev b l :: L) (w.alloc (.map es c)) := by
 obtain ⟨ps,c,h1,h2,h3⟩ := amapOpen h
 unfold mapV mapR at h3
 have hb := h3.get (b := b) .head
 refine ⟨_,_,hb,?_⟩
 have h4 := h3.alloc (Obj.map (List.map (entA ek) (List.map (evs ev) ps)).toArray c)
 have h5 : St W (mapV ek ev w.heap.size ps c :: mapV ek ev b ps c :: L) _ := h4
 exact amapShut h1 h2 (amapShut h1 h2 h5.swap).swap
end
end Go.Sl
namespace Go.Proofs.YtlmhakmoioogaaaGreat
open Go.RowKit Go.Shelf Go.Sl
theorem Hf7 {b : Nat} {l : List (Int × (Int × Rpl))} {W w : World} {L : List HP} (hS : St W (amap eI eSs b l :: L) w) :
  Calls Tryz.prog 59 #[.map (some b)] w fun e w' => ∃ b',e = .returned (.map (some b')) ∧ St W (amap eI eSs b' l :: amap eI eSs b l :: L) w' := by
 obtain ⟨es,c,hb,hS2⟩ := amapTwice hS
 have h := AnyW.maps_Clone Tryz.cloneSs b es c w hb
 change Calls Tryz.prog 59 _ _ _ at h
 refine h.mono ?_
 rintro e w' ⟨rfl,rfl⟩
 exact ⟨_,rfl,hS2⟩
theorem Hg7 {b : Nat} {l : List ((Int × Int) × Unit)} {W w : World} {L : List HP} (hS : St W (amap eW eU b l :: L) w) :
  Calls Tryz.prog 60 #[.map (some b)] w fun e w' => ∃ b',e = .returned (.map (some b')) ∧ St W (amap eW eU b' l :: amap eW eU b l :: L) w' := by
 obtain ⟨es,c,hb,hS2⟩ := amapTwice hS
 have h := AnyW.maps_Clone Tryz.cloneAr b es c w hb
 change Calls Tryz.prog 60 _ _ _ at h
 refine h.mono ?_
 rintro e w' ⟨rfl,rfl⟩
 exact ⟨_,rfl,hS2⟩
end Go.Proofs.YtlmhakmoioogaaaGreat
end
