/-
  PlanEvens.
-/
import Derived.Test.YtjcfifkjbaffnaaPeQM5
import Derived.Test.YtjcfifkjbaffnaaPeQM11
import Derived.Test.YtjcfifkjbaffnaaPeQM22
set_option maxHeartbeats 16000000
set_option maxRecDepth 100000
set_option linter.unusedSimpArgs false
set_option linter.unusedVariables false
section
namespace Go.Proofs.Ytjcfifkjbaffnaa
open Go.RowKit Go.Sl
theorem GE7{P:Program}{ops:Array Oper}{Q:Exit->Act->World->Prop}{a:Act}{w:World}{rest:List Oper}{o:Oper}{t:TypeId}{x y z:Operand}{i j k m:Int}(ho:o.op=.call { callee:=.builtin .max,args:=#[x,y,z],argTypes:=#[t,t,t] })(hg:Region.wanted o (yielded ops a.tmps)=true)(hx:a.eval x=.I i)(hy:a.eval y=.I j)(hz:a.eval z=.I k)
  (hm:(if k>(if j>i then j else i)then k else(if j>i then j else i))=m) (h:wpList P ops Q rest (a.put o.dst (.I m)) w):wpList P ops Q (o::rest) a w:=by
 refine Ag7 hg (v:=.I m) (w':=w) ?_ h;unfold execOp;simp only[ho,resolve,invoke,builtin,Sem.run_bind,Sem.run_pure,Result.andThen_ok,List.map_toArray,List.map_cons,List.map_nil,hx,hy,hz,run_max_int3,hm]
theorem GF7(i j k:Int):∃m,(if k>(if j>i then j else i)then k else(if j>i then j else i))=m/\i<=m/\j<=m/\k<=m/\(m=i\/m=j\/m=k):=by refine⟨_,rfl,?_⟩;split <;> split <;> omega
theorem ai4(x y:Int)(w:World):(Instr.build 26 #[(0,.I x),(1,.I y)]).run Try.prog w=.ok (.agg #[.I x,.I y,.slice none 0 0]) w:=by kernel_rfl
theorem aj4(w:World):(Instr.build 36 #[]).run Try.prog w=.ok (.agg #[.I 0,.I 0,.I 0]) w:=by kernel_rfl
theorem wl_bytesStrC{P:Program}{ops:Array Oper}{Q:Exit->Act->World->Prop}{a:Act}{w:World}{W:World}{L:List HP}{rest:List Oper}{o:Oper}{src dst e:TypeId}{x:Operand}{b off n c:Nat}{ns:List Int}(hS:St W L w)(ho:o.op=.convert src dst x)(hg:Region.wanted o (yielded ops a.tmps)=true)(hx:a.eval x=.slice (some ⟨b,off,none⟩) n c)
  (hs:P.underlying src=some (.slice e)) (he:P.underlying e=some (.int .u8)) (hd:P.underlying dst=some .string) (hc:a7 L b off (ns.map (Value.int .u8))) (hn:n=ns.length)
  (h:wpList P ops Q rest (a.put o.dst (.string (C8 ns))) w):wpList P ops Q (o::rest) a w:=by
 refine Ag7 hg (v:=.string (C8 ns)) (w':=w) ?_ h;have h1:=run_loadCells_list (P:=P) w ⟨b,off,none⟩ (ns.map (Value.int .u8)) (fun j v hj=>by rw[Addr.add_lit];exact hc j v hj W w hS);rw[jM,<-hn]at h1;have h2:=run_bytesToString (P:=P) w ⟨b,off,none⟩ n c ns h1;unfold execOp;simp[ho,hx,run_convert_bytes_string w src dst e (some ⟨b,off,none⟩) n c hs he hd,h2,C8]
theorem CX7(n:Int):(C8 [n]).size<=60:=by
 show(ByteArray.empty.push _).size<=60
 rw[ByteArray.size_push];decide
theorem aF4(n:Int):bits .and .i64 n 255=n%256:=by
 have h7:(BitVec.ofInt 64 255).toNat=2^8-1:=by decide
 have key:(BitVec.ofInt 64 n &&& BitVec.ofInt 64 255).toNat=(n%((2^64:Nat):Int)).toNat%2^8:=by rw[BitVec.toNat_and,BitVec.toNat_ofInt,h7,Nat.and_two_pow_sub_one_eq_mod]
 show IntKind.i64.wrap ((BitVec.ofInt 64 n &&& BitVec.ofInt 64 255).toNat:Nat)=n%256
 rw[key,IntKind.wrap_i64];omega
theorem cm4(n:Int):bits .and .i64 n 1=n%2:=by
 have h7:(BitVec.ofInt 64 1).toNat=2^1-1:=by decide
 have key:(BitVec.ofInt 64 n &&& BitVec.ofInt 64 1).toNat=(n%((2^64:Nat):Int)).toNat%2^1:=by rw[BitVec.toNat_and,BitVec.toNat_ofInt,h7,Nat.and_two_pow_sub_one_eq_mod]
 show IntKind.i64.wrap ((BitVec.ofInt 64 n &&& BitVec.ofInt 64 1).toNat:Nat)=n%2
 rw[key,IntKind.wrap_i64];omega
def EwR(W:World)(R:List HP)(hs:List Int)(zs:List Zo)(b3 b7 g zc:Nat)(lv:Value)(v8:Value)(w:World):Prop:=
 ∃i:Nat,v8=.I i/\i<=hs.length/\St W (blk b7 [.I (i9 hs 8 i),.I (i9 hs 9 i),.I 0] 36::blk b3 [.I 1,.I (hs.length+1),.S g hs.length zc] 26::row (.S g hs.length zc) 9 32 hs.length (zs.flatMap Zo.cells)::row lv 3 35 hs.length ((evL hs hs.length).flatMap Ro.cells)::R) w
theorem bi4{zs:List Zo}{n g c k:Nat}(hzl:zs.length=n){K K':List HP}(hu:Take K (row (.S g n c) 9 32 n (zs.flatMap Zo.cells)) K')(h:k<n):a7 K g (k*9) (Zo.cells (zs[k]'(by omega))):=by subst hzl;exact a7.elemM Zo.len hu h
theorem aN4{hs:List Int}{zs:List Zo}{n g c k:Nat}(hz:O7 hs zs)(hzl:zs.length=n){K K':List HP}(hu:Take K (row (.S g n c) 9 32 n (zs.flatMap Zo.cells)) K')(h:k<n):b8 K g (k*9+3) (.I (r7 hs k)):=by obtain⟨f,t,_,_,e⟩:=hz k (by omega);have h9:=bi4 hzl hu h;rw[e]at h9;exact h9 3 _ rfl
theorem bb4{zs:List Zo}{n:Nat}(hzl:zs.length=n){W w:World}{L:List HP}{v:Value}{T:TypeId}(h:St W (row v 9 T n (zs.flatMap Zo.cells)::L) w):c9 Zo.cells 9 w v zs:=by subst hzl;exact St.sliceV Zo.len h
theorem bc4{l:List Ro}{n:Nat}(hl:l.length=n){W w:World}{L:List HP}{v:Value}{T:TypeId}(h:St W (row v 3 T n (l.flatMap Ro.cells)::L) w):c9 Ro.cells 3 w v l:=by subst hl;exact St.sliceV Ro.len h
def ExR(W:World)(R:List HP)(hs:List Int)(was:Int)(out:List Cg)(b7:Nat)(v11:Value)(w:World):Prop:=
 ∃(j:Nat) (ld:Int->Int),v11=.I j/\j<=out.length/\EvJ hs hs.length was ld (out.drop j)/\(∀h, -(255*(j:Int))<=ld h/\ld h<=3060+255*(j:Int))/\St W (blk b7 [.I (ld 8),.I (ld 9),.I (ld 10)] 36::R) w
theorem HC7{W w:World}{R:List HP}{hs:List Int}{was s8 s9:Int}{out:List Cg}{b7:Nat}(h8:i9 hs 8 hs.length=s8)(h9:i9 hs 9 hs.length=s9)(hJ:EvJ hs hs.length was (fun h=>i9 hs h hs.length) out)(hl:hs.length<=12)(hS:St W (blk b7 [.I s8,.I s9,.I 0] 36::R) w):ExR W R hs was out b7 (.I 0) w:=by
 subst h8 h9;refine⟨0,_,rfl,Nat.zero_le _,hJ,fun h=>?_,?_⟩
 ·have:=Bc7 hs h hs.length;show _<=i9 hs h hs.length/\i9 hs h hs.length<=_
  omega
 ·show St W (blk b7 [.I (i9 hs 8 hs.length),.I (i9 hs 9 hs.length),.I (i9 hs 10 hs.length)] 36::R) w
  rw[Ca7];exact hS
def EvR(W:World)(R:List HP)(hs:List Int)(b3:Nat)(v4 v5:Value)(w:World):Prop:=
 ∃(i:Nat) (zs:List Zo) (zv:Value),v5=.I i/\i<=hs.length/\zs.length=i/\O7 hs zs/\St W (blk b3 [.I 1,.I (hs.length+1),zv] 26::row zv 9 32 i (zs.flatMap Zo.cells)::row v4 3 35 i ((evL hs i).flatMap Ro.cells)::R) w
theorem Ej7{W w:World}{R:List HP}{hs:List Int}{b3 i:Nat}{zs:List Zo}{zv u:Value}{y lo:Int}{f t:ByteArray}(hf:f.size<=60)(ht:t.size<=60)(hil:i<hs.length)(hz:O7 hs zs)(hl:zs.length=i)(ho:r7 hs i=8+y)(hx:t7 hs i=lo)
  (hS:St W (blk b3 [.I 1,.I (hs.length+1),zv] 26::row zv 9 32 (i+1) (zs.flatMap Zo.cells++[.I (i+1),.string f,.string t,.I (8+y),.I 1,.I 0,.I 0,.string bN,.I 0])::row u 3 35 (i+1) ((evL hs i).flatMap Ro.cells++[.I (i+1),.I lo,.string bN])::R) w):EvR W R hs b3 u (.I (i+1)) w:=by
 subst hl;refine⟨zs.length+1,_,zv,rfl,hil,by simp,Hr7 hz hf ht,?_⟩;rw[It7,List.flatMap_append,List.flatMap_append,ho,hx];simpa[Zo.cells,Ro.cells]using hS
theorem evensL_at{hs:List Int}{hv:Value}{V:World}(hh:c9 hC 1 V hv hs)(W w:World)(R:List HP)(hS:St W (Old V::R) w):
  Calls Try.prog 3 #[hv] w fun e w'=>e=.returned (.bool true)/\St W (Old V::R) w':=by
 obtain⟨ha,hc,rfl,_,hat⟩:=hh;have Hat:=jH hat
 clear hat
 go_enter Try.func3,Try.ntmps3;by_cases c1:hs.length<2
 ·have d1:decide ((hs.length:Int)<2)=true:=by simp;omega
  clear c1;go_wp2_with(first|go_big_skip|go_at_call 7;refine(CW7 W _ _ hS).mono ?_;clear hS;rintro e w ⟨rfl,hS⟩);go_ret;exact⟨rfl,hS⟩
 have d1:decide ((hs.length:Int)<2)=false:=by simp;omega
 by_cases c2:12<hs.length
 ·have d2:decide ((12:Int)<(hs.length:Int))=true:=by simp;omega
  clear c1 c2;go_wp2_with(first|go_big_skip|go_at_call 7;refine(CW7 W _ _ hS).mono ?_;clear hS;rintro e w ⟨rfl,hS⟩);go_ret;exact⟨rfl,hS⟩
 have d2:decide ((12:Int)<(hs.length:Int))=false:=by simp;omega
 have hl2:2<=hs.length:=by omega
 have hl12:hs.length<=12:=by omega
 clear c1 c2;go_wp2_with(first|go_big_skip|(with_reducible apply AC7);rfl;rfl;(focus(simp only[fD,fI,fJ,Act.eval,fE,fF,fG,fH,fK];try rfl));(intro w;first|exact aC4 _ _ _ w|exact ai4 _ _ w|exact aD4 _ _ w|exact aE4 _ w|exact aj4 w);refine frS ?_|refine zal hS ?_;clear hS;intro b3 w hS|refine zsN hS ?_;clear hS;intro w hS);have hS1:=(((hS.s (blk b3 _ _::Old V::R)).rowNil (k:=3) (T:=35)).swap).rowNil (k:=9) (T:=32);clear hS
 go_loopw [4,5] (fun v4 v5 wr=>EvR W (Old V::R) hs b3 v4 v5 wr) (fun _ v5 _=>hs.length-(intOf v5).toNat)
 case atStart=>exact⟨0,[],_,rfl,Nat.zero_le _,rfl,Hq7 hs,hS1.s _⟩
 case round=>
  clear hS1;obtain⟨i,zs,zv,rfl,hi,hzl,hze,hS⟩:=hrel;have Hzl:=jH hzl;have Hze:=jH hze;clear hzl hze;obtain⟨la,lc,rfl⟩:=(hS.s (row _ 3 35 i _::Old V::R)).rowVal;obtain⟨za,zc,rfl⟩:=(hS.s (row _ 9 32 i _::Old V::R)).rowVal;by_cases hil:i<hs.length
  case neg=>
   have d3:decide (i<hs.length)=false:=decide_eq_false hil;obtain rfl:i=hs.length:=by omega
   clear hi hil;obtain⟨⟨g,rfl⟩,_,_⟩:=St.rowAddr (hS.s (row _ 9 32 hs.length _::Old V::R)) (by omega);have Hoc:=jH (fun(K K':List HP) (c k:Nat) (hu:Take K (row (.S g hs.length c) 9 32 hs.length (zs.flatMap Zo.cells)) K') (h:k<hs.length)=>aN4 Hze.out Hzl.out hu h);go_wp2_with(first|go_big_skip|(with_reducible apply AC7);rfl;rfl;(focus(simp only[fD,fI,fJ,Act.eval,fE,fF,fG,fH,fK];try rfl));(intro w;first|exact aC4 _ _ _ w|exact ai4 _ _ w|exact aD4 _ _ w|exact aE4 _ w|exact aj4 w);refine frS ?_|refine zal hS ?_;clear hS;intro b7 w hS|refine zsN hS ?_;clear hS;intro w hS)
   go_loopw [8] (fun v8 wr=>EwR W (Old V::R) hs zs b3 b7 g zc (.slice la hs.length lc) v8 wr) (fun v8 _=>hs.length-(intOf v8).toNat)
   case atStart=>exact⟨0,rfl,Nat.zero_le _,hS.s _⟩
   case round=>
    clear hS;obtain⟨i,rfl,hi,hS⟩:=hrel;by_cases hil:i<hs.length
    case pos=>
     have d3:decide (i<hs.length)=true:=decide_eq_true hil;obtain⟨pb,poff,rfl,hall⟩:=Hat.out i hil;have hx:V.cell? ⟨pb,poff+i,none⟩=some (.I hs[i]):=by have h9:=hall 0 _ rfl;rwa [Nat.mul_one,Nat.add_zero]at h9
     have hxd:hs.getD i 0=hs[i]:=by simp[List.getD,hil]
     obtain⟨lo,hlo⟩:∃lo,bits .and .i64 hs[i] 255=lo:=⟨_,rfl⟩
     have hlo2:t7 hs i=lo:=by unfold t7;rw[hxd,<-hlo,aF4]
     have hlo3:0<=lo/\lo<=255:=by have:=Bb7 hs i;omega
     obtain⟨l1,l2⟩:=hlo3;have hoc:=fun{K K':List HP} (hu:Take K (row (.S g hs.length zc) 9 32 hs.length (zs.flatMap Zo.cells)) K')=>Hoc.out K K' zc i hu hil
     clear hall hxd;generalize hs[i]=x at hx hlo;have hi12:i<=12:=by omega
     have n8:i9 hs 8 (i+1)=i9 hs 8 i+(if r7 hs i=8 then t7 hs i else 0):=rfl;have n9:i9 hs 9 (i+1)=i9 hs 9 i+(if r7 hs i=9 then t7 hs i else 0):=rfl;obtain⟨p1,p2⟩:=Bc7 hs 8 i;obtain⟨q1,q2⟩:=Bc7 hs 9 i;rw[hlo2]at n8 n9;have ho:=Bq7 hs i;generalize i9 hs 8 i=s8 at n8 p1 p2 hS;generalize i9 hs 9 i=s9 at n9 q1 q2 hS;generalize r7 hs i=o at n8 n9 ho hoc;clear hlo2 hi
     rcases ho with rfl|rfl
     ·have h8:i9 hs 8 (i+1)=s8+lo:=n8;have h9:i9 hs 9 (i+1)=s9:=by rw[n9];simp
      have H8:=jH h8;have H9:=jH h9;clear n8 n9 h8 h9;go_wp2_with(first|go_big_skip|refine zl1 hS ?_);refine rt 16 hS ?_
      repeat(first|go_big_quiet_skip|refine zq1 ?_ (hc:=by exact hoc (by exact c7))|refine zq1 ?_ (v:=.I x) (hc:=by exact b8.old (by exact f9) hx)|refine zq1 ?_|refine zqN ?_|refine zqn ?_|refine qR ?_)
      clear hS;intro w hS;simp only[jD,List.drop_zero];go_wp2_with(first|go_big_skip|refine zs1 hS ?_;clear hS;intro w hS);go_roundw
      case rel=>exact⟨i+1,rfl,hil,by rw[H8.out,H9.out];exact hS.s _⟩
      case measure=>simp[intOf];omega
     ·have h8:i9 hs 8 (i+1)=s8:=by rw[n8];simp
      have h9:i9 hs 9 (i+1)=s9+lo:=n9;have H8:=jH h8;have H9:=jH h9;clear n8 n9 h8 h9;go_wp2_with(first|go_big_skip|refine zl1 hS ?_);refine rt 16 hS ?_
      repeat(first|go_big_quiet_skip|refine zq1 ?_ (hc:=by exact hoc (by exact c7))|refine zq1 ?_ (v:=.I x) (hc:=by exact b8.old (by exact f9) hx)|refine zq1 ?_|refine zqN ?_|refine zqn ?_|refine qR ?_)
      clear hS;intro w hS;simp only[jD,List.drop_zero];go_wp2_with(first|go_big_skip|refine zs1 hS ?_;clear hS;intro w hS);go_roundw
      case rel=>exact⟨i+1,rfl,hil,by rw[H8.out,H9.out];exact hS.s _⟩
      case measure=>simp[intOf];omega
    case neg=>
     have d3:decide (i<hs.length)=false:=decide_eq_false hil;obtain rfl:i=hs.length:=by omega
     clear hi hil;obtain⟨p1,p2⟩:=Bc7 hs 8 hs.length;obtain⟨q1,q2⟩:=Bc7 hs 9 hs.length;have Hpk:=jH (fun(was v nx:Int) (out:List Cg)=>Hu7 (was:=was) (v:=v) (nx:=nx) (out:=out) Hze.out Hzl.out);obtain⟨s8,h8⟩:∃s8,i9 hs 8 hs.length=s8:=⟨_,rfl⟩
     obtain⟨s9,h9⟩:∃s9,i9 hs 9 hs.length=s9:=⟨_,rfl⟩
     rw[h8]at p1 p2 hS;rw[h9]at q1 q2 hS;have H8:=jH h8;have H9:=jH h9;clear h8 h9;obtain⟨was,hwas,wx8,wx9,wx0,wx4⟩:=GF7 s8 s9 0;have Hwas:=jH hwas;have wx5:was<=4000:=by omega
     clear hwas wx4;go_wp2_with(first|go_big_skip|(with_reducible apply AC7);rfl;rfl;(focus(simp only[fD,fI,fJ,Act.eval,fE,fF,fG,fH,fK];try rfl));(intro w;first|exact aC4 _ _ _ w|exact ai4 _ _ w|exact aD4 _ _ w|exact aE4 _ w|exact aj4 w);refine frS ?_|refine zl1 hS ?_|refine zlN hS ?_|refine zbs hS ?_;clear hS;intro bS w hS|go_at_call 8;refine(DQ7 (zs:=zs) (hs:=[8,9,10]) (l:=evL hs hs.length) (bb4 Hzl.out (hS.s (row _ 9 32 hs.length _::Old V::R))) (Bd7 DG7 (by decide) (by(focus((repeat(first|exact .head|apply Take.tail));done))) rfl hS) (bc4 (Eg7 hs hs.length) (hS.s (row _ 3 35 hs.length _::Old V::R))) (Iu7 Hze.out (by rw[Hzl.out];exact hl12)) (by rw[Hzl.out];omega) (by unfold rgI;omega) (by unfold rgI;omega) (by decide) (by rw[Eg7];omega) hS).mono ?_;clear hS;rintro e w ⟨u,out,rfl,hmk,hS⟩|(with_reducible apply GE7);rfl;rfl;rfl;rfl;rfl;exact Hwas.out;refine frS ?_);have hpk:=Hpk.out was 1 (hs.length+1) out (by rw[H8.out];omega) (by rw[H9.out];omega) (by omega) hmk;obtain⟨hJ,ho2⟩:=hpk;have hS1:=hS.s (blk b7 [.I s8,.I s9,.I 0] 36::row u 5 42 out.length (out.flatMap Cg.cells)::blk b3 [.I 1,.I (hs.length+1),.S g hs.length zc] 26::row (.S g hs.length zc) 9 32 hs.length (zs.flatMap Zo.cells)::Old V::R);have HJ:=jH hJ;clear hS hmk hJ;obtain⟨ua,uc,rfl⟩:=(hS1.drop).rowVal
     go_loopw [11] (fun v11 wr=>ExR W (row (.slice ua out.length uc) 5 42 out.length (out.flatMap Cg.cells)::blk b3 [.I 1,.I (hs.length+1),.S g hs.length zc] 26::row (.S g hs.length zc) 9 32 hs.length (zs.flatMap Zo.cells)::Old V::R) hs was out b7 v11 wr) (fun v11 _=>out.length-(intOf v11).toNat)
     case atStart=>exact HC7 H8.out H9.out HJ.out hl12 hS1
     case round=>
      clear hS1 HJ;obtain⟨j,ld,rfl,hj,hJ,hb,hS⟩:=hrel;have hb8:=hb 8;have hb9:=hb 9;have hb10:=hb 10;by_cases hjl:j<out.length
      case neg=>
       have d4:decide (j<out.length)=false:=decide_eq_false hjl;rw[List.drop_eq_nil_of_le (by omega)]at hJ;have g8:ld 8<=was:=hJ 8 (by omega) (by omega);have g9:ld 9<=was:=hJ 9 (by omega) (by omega);have g10:ld 10<=was:=hJ 10 (by omega) (by omega);generalize ld 8=a8 at hS hb8 g8;generalize ld 9=a9 at hS hb9 g9;generalize ld 10=a10 at hS hb10 g10;clear hJ hb;obtain⟨m3,hm3,kx1,kx2,kx3,kx4⟩:=GF7 a8 a9 a10;have Hm3:=jH hm3;have f8:decide (m3<=was)=true:=decide_eq_true (by omega);clear p1 p2 q1 q2 hb8 hb9 hb10 g8 g9 g10 hm3 kx1 kx2 kx3 kx4;go_wp2_with(first|go_big_skip|refine zl1 hS ?_|go_at_call 7;refine(CW7 W _ _ hS).mono ?_;clear hS;rintro e w ⟨rfl,hS⟩|(with_reducible apply GE7);rfl;rfl;rfl;rfl;rfl;exact Hm3.out;refine frS ?_);go_ret;exact⟨rfl,hS.s _⟩
      have d4:decide (j<out.length)=true:=decide_eq_true hjl;obtain⟨⟨og,rfl⟩,_,_⟩:=St.rowAddr (hS.drop) (by omega);have hcx:∀{K K':List HP},Take K (row (.S og out.length uc) 5 42 out.length (out.flatMap Cg.cells)) K'->a7 K og (j*5) (Cg.cells out[j]):=fun{K K'} hu=>a7.elemM (enc:=Cg.cells) Cg.len hu hjl
      rw[List.drop_eq_getElem_cons hjl]at hJ;have hj2:j<=2:=by omega
      generalize out[j]=c at hcx hJ;obtain⟨k0,zn,ep,t,key⟩:=c;obtain⟨j1,j2,j3,k,hk,j4,j5,j6⟩:=hJ;simp only at j1 j2 j3 j4 j5 j6;subst j1 j4;have hq0:∀{K K':List HP},Take K (row (.S og out.length uc) 5 42 out.length (out.flatMap Cg.cells)) K'->b8 K og (j*5) (.I 3):=fun{K K'} hu W w hS=>hcx hu 0 _ rfl W w hS
      have hq1:∀{K K':List HP},Take K (row (.S og out.length uc) 5 42 out.length (out.flatMap Cg.cells)) K'->b8 K og (j*5+1) (.I (k+1)):=fun{K K'} hu W w hS=>hcx hu 1 _ rfl W w hS
      have hq3:∀{K K':List HP},Take K (row (.S og out.length uc) 5 42 out.length (out.flatMap Cg.cells)) K'->b8 K og (j*5+3) (.I t):=fun{K K'} hu W w hS=>hcx hu 3 _ rfl W w hS
      clear hcx;obtain⟨pb,poff,rfl,hall⟩:=Hat.out k hk;have hx:V.cell? ⟨pb,poff+k,none⟩=some (.I hs[k]):=by have h9:=hall 0 _ rfl;rwa [Nat.mul_one,Nat.add_zero]at h9
      have hxd:hs.getD k 0=hs[k]:=by simp[List.getD,hk]
      obtain⟨lo,hlo⟩:∃lo,bits .and .i64 hs[k] 255=lo:=⟨_,rfl⟩
      have hlo2:t7 hs k=lo:=by unfold t7;rw[hxd,<-hlo,aF4]
      have hlo3:0<=lo/\lo<=255:=by have:=Bb7 hs k;omega
      obtain⟨l1,l2⟩:=hlo3;have hoc:=fun{K K':List HP} (hu:Take K (row (.S g hs.length zc) 9 32 hs.length (zs.flatMap Zo.cells)) K')=>Hoc.out K K' zc k hu hk
      clear hall hxd;generalize hs[k]=x at hx hlo;have ho:=Bq7 hs k;rw[hlo2]at j5 j6;generalize r7 hs k=o at j5 j6 ho hoc;have hk12:k<=12:=by omega
      have b1:decide ((k:Int)+1<1)=false:=decide_eq_false (by omega);have b2:decide ((hs.length:Int)<(k:Int)+1)=false:=decide_eq_false (by omega);have b3':decide (t<8)=false:=decide_eq_false (by omega);have b4:decide (10<t)=false:=decide_eq_false (by omega);have hb':∀h, -(255*((j+1:Nat):Int))<=evF ld o t lo h/\evF ld o t lo h<=3060+255*((j+1:Nat):Int):=fun h=>by have:=hb h;unfold evF;split <;> split <;> omega
      have n8:evF ld o t lo 8=ld 8-(if o=8 then lo else 0)+(if t=8 then lo else 0):=rfl;have n9:evF ld o t lo 9=ld 9-(if o=9 then lo else 0)+(if t=9 then lo else 0):=rfl;have n10:evF ld o t lo 10=ld 10-(if o=10 then lo else 0)+(if t=10 then lo else 0):=rfl;have Hb':=jH hb';have Hj6:=jH j6;obtain⟨x1,x2⟩:=hb8;obtain⟨x3,x4⟩:=hb9;obtain⟨x5,x6⟩:=hb10;have ht:t=8\/t=9\/t=10:=by omega
      generalize hld:evF ld o t lo=ld' at n8 n9 n10 j5;have Hld:=jH hld;generalize ld 8=a8 at hS x1 x2 n8;generalize ld 9=a9 at hS x3 x4 n9;generalize ld 10=a10 at hS x5 x6 n10;clear hlo2 hj hb hb' j6 hld j2 j3
      rcases ho with rfl|rfl <;> rcases ht with rfl|rfl|rfl
      all_goals(simp only[reduceIte,Int.reduceEq,Int.sub_zero,Int.add_zero,Int.sub_add_cancel]at n8 n9 n10)
      ·skip
       rw[n8]at j5;have b5:=decide_eq_false (Int.not_le.2 j5);have N8:=jH n8;have N9:=jH n9;have N10:=jH n10;clear n8 n9 n10 j5;go_wp2_with(first|go_big_skip|(fail_if_success (have:=f0));refine zl1 hS ?_ (v:=.I 3) (hc:=by exact hq0 (by exact c7));have f0:Nat:=0|(have:=f0);(fail_if_success (have:=f1));refine zl1 hS ?_ (v:=.I (k+1)) (hc:=by exact hq1 (by exact c7));have f1:Nat:=0|(have:=f1);(fail_if_success (have:=f2));refine zl1 hS ?_ (v:=.I (k+1)) (hc:=by exact hq1 (by exact c7));have f2:Nat:=0|(have:=f2);(fail_if_success (have:=f3));refine zl1 hS ?_ (hc:=by exact hq3 (by exact c7));have f3:Nat:=0|(have:=f3);(fail_if_success (have:=f4));refine zl1 hS ?_ (hc:=by exact hq3 (by exact c7));have f4:Nat:=0|(have:=f4);(fail_if_success (have:=f5));refine zl1 hS ?_ (v:=.I (k+1)) (hc:=by exact hq1 (by exact c7));have f5:Nat:=0|(have:=f5);refine zl1 hS ?_ (v:=.I x) (hc:=by exact b8.old (by exact f9) hx));refine rt 17 hS ?_
       repeat(first|go_big_quiet_skip|(fail_if_success (have:=g1));refine zq1 ?_;have g1:Nat:=0|(have:=g1);(fail_if_success (have:=g2));refine zq1 ?_ (v:=.I (k+1)) (hc:=by exact hq1 (by exact c7));have g2:Nat:=0|(have:=g2);(fail_if_success (have:=g3));refine zq1 ?_ (hc:=by exact hoc (by exact c7));have g3:Nat:=0|(have:=g3);refine zq1 ?_|refine zqn ?_|refine qR ?_)
       clear hS;intro w hS;simp only[jD,List.drop_zero];go_wp2_with(first|go_big_skip|(fail_if_success (have:=i1));refine zl1 hS ?_ (hc:=by exact hq3 (by exact c7));have i1:Nat:=0|(have:=i1);(fail_if_success (have:=i2));refine zl1 hS ?_;have i2:Nat:=0|(have:=i2);(fail_if_success (have:=i3));refine zl1 hS ?_ (hc:=by exact hq3 (by exact c7));have i3:Nat:=0|(have:=i3);refine zl1 hS ?_|refine zs1 hS ?_;clear hS;intro w hS);go_roundw
       case rel=>exact⟨j+1,ld',rfl,hjl,by rw[<-Hld.out];exact Hj6.out,by rw[<-Hld.out];exact Hb'.out,by rw[N8.out,N9.out,N10.out];exact hS⟩
       case measure=>simp[intOf];omega
      ·skip
       rw[n9]at j5;have b5:=decide_eq_false (Int.not_le.2 j5);have N8:=jH n8;have N9:=jH n9;have N10:=jH n10;clear n8 n9 n10 j5;go_wp2_with(first|go_big_skip|(fail_if_success (have:=f0));refine zl1 hS ?_ (v:=.I 3) (hc:=by exact hq0 (by exact c7));have f0:Nat:=0|(have:=f0);(fail_if_success (have:=f1));refine zl1 hS ?_ (v:=.I (k+1)) (hc:=by exact hq1 (by exact c7));have f1:Nat:=0|(have:=f1);(fail_if_success (have:=f2));refine zl1 hS ?_ (v:=.I (k+1)) (hc:=by exact hq1 (by exact c7));have f2:Nat:=0|(have:=f2);(fail_if_success (have:=f3));refine zl1 hS ?_ (hc:=by exact hq3 (by exact c7));have f3:Nat:=0|(have:=f3);(fail_if_success (have:=f4));refine zl1 hS ?_ (hc:=by exact hq3 (by exact c7));have f4:Nat:=0|(have:=f4);(fail_if_success (have:=f5));refine zl1 hS ?_ (v:=.I (k+1)) (hc:=by exact hq1 (by exact c7));have f5:Nat:=0|(have:=f5);refine zl1 hS ?_ (v:=.I x) (hc:=by exact b8.old (by exact f9) hx));refine rt 17 hS ?_
       repeat(first|go_big_quiet_skip|(fail_if_success (have:=g1));refine zq1 ?_;have g1:Nat:=0|(have:=g1);(fail_if_success (have:=g2));refine zq1 ?_ (v:=.I (k+1)) (hc:=by exact hq1 (by exact c7));have g2:Nat:=0|(have:=g2);(fail_if_success (have:=g3));refine zq1 ?_ (hc:=by exact hoc (by exact c7));have g3:Nat:=0|(have:=g3);refine zq1 ?_|refine zqn ?_|refine qR ?_)
       clear hS;intro w hS;simp only[jD,List.drop_zero];go_wp2_with(first|go_big_skip|(fail_if_success (have:=i1));refine zl1 hS ?_ (hc:=by exact hq3 (by exact c7));have i1:Nat:=0|(have:=i1);(fail_if_success (have:=i2));refine zl1 hS ?_;have i2:Nat:=0|(have:=i2);(fail_if_success (have:=i3));refine zl1 hS ?_ (hc:=by exact hq3 (by exact c7));have i3:Nat:=0|(have:=i3);refine zl1 hS ?_|refine zs1 hS ?_;clear hS;intro w hS);go_roundw
       case rel=>exact⟨j+1,ld',rfl,hjl,by rw[<-Hld.out];exact Hj6.out,by rw[<-Hld.out];exact Hb'.out,by rw[N8.out,N9.out,N10.out];exact hS⟩
       case measure=>simp[intOf];omega
      ·skip
       rw[n10]at j5;have b5:=decide_eq_false (Int.not_le.2 j5);have N8:=jH n8;have N9:=jH n9;have N10:=jH n10;clear n8 n9 n10 j5;go_wp2_with(first|go_big_skip|(fail_if_success (have:=f0));refine zl1 hS ?_ (v:=.I 3) (hc:=by exact hq0 (by exact c7));have f0:Nat:=0|(have:=f0);(fail_if_success (have:=f1));refine zl1 hS ?_ (v:=.I (k+1)) (hc:=by exact hq1 (by exact c7));have f1:Nat:=0|(have:=f1);(fail_if_success (have:=f2));refine zl1 hS ?_ (v:=.I (k+1)) (hc:=by exact hq1 (by exact c7));have f2:Nat:=0|(have:=f2);(fail_if_success (have:=f3));refine zl1 hS ?_ (hc:=by exact hq3 (by exact c7));have f3:Nat:=0|(have:=f3);(fail_if_success (have:=f4));refine zl1 hS ?_ (hc:=by exact hq3 (by exact c7));have f4:Nat:=0|(have:=f4);(fail_if_success (have:=f5));refine zl1 hS ?_ (v:=.I (k+1)) (hc:=by exact hq1 (by exact c7));have f5:Nat:=0|(have:=f5);refine zl1 hS ?_ (v:=.I x) (hc:=by exact b8.old (by exact f9) hx));refine rt 17 hS ?_
       repeat(first|go_big_quiet_skip|(fail_if_success (have:=g1));refine zq1 ?_;have g1:Nat:=0|(have:=g1);(fail_if_success (have:=g2));refine zq1 ?_ (v:=.I (k+1)) (hc:=by exact hq1 (by exact c7));have g2:Nat:=0|(have:=g2);(fail_if_success (have:=g3));refine zq1 ?_ (hc:=by exact hoc (by exact c7));have g3:Nat:=0|(have:=g3);refine zq1 ?_|refine zqn ?_|refine qR ?_)
       clear hS;intro w hS;simp only[jD,List.drop_zero];go_wp2_with(first|go_big_skip|(fail_if_success (have:=i1));refine zl1 hS ?_ (hc:=by exact hq3 (by exact c7));have i1:Nat:=0|(have:=i1);(fail_if_success (have:=i2));refine zl1 hS ?_;have i2:Nat:=0|(have:=i2);(fail_if_success (have:=i3));refine zl1 hS ?_ (hc:=by exact hq3 (by exact c7));have i3:Nat:=0|(have:=i3);refine zl1 hS ?_|refine zs1 hS ?_;clear hS;intro w hS);go_roundw
       case rel=>exact⟨j+1,ld',rfl,hjl,by rw[<-Hld.out];exact Hj6.out,by rw[<-Hld.out];exact Hb'.out,by rw[N8.out,N9.out,N10.out];exact hS⟩
       case measure=>simp[intOf];omega
      ·skip
       rw[n8]at j5;have b5:=decide_eq_false (Int.not_le.2 j5);have N8:=jH n8;have N9:=jH n9;have N10:=jH n10;clear n8 n9 n10 j5;go_wp2_with(first|go_big_skip|(fail_if_success (have:=f0));refine zl1 hS ?_ (v:=.I 3) (hc:=by exact hq0 (by exact c7));have f0:Nat:=0|(have:=f0);(fail_if_success (have:=f1));refine zl1 hS ?_ (v:=.I (k+1)) (hc:=by exact hq1 (by exact c7));have f1:Nat:=0|(have:=f1);(fail_if_success (have:=f2));refine zl1 hS ?_ (v:=.I (k+1)) (hc:=by exact hq1 (by exact c7));have f2:Nat:=0|(have:=f2);(fail_if_success (have:=f3));refine zl1 hS ?_ (hc:=by exact hq3 (by exact c7));have f3:Nat:=0|(have:=f3);(fail_if_success (have:=f4));refine zl1 hS ?_ (hc:=by exact hq3 (by exact c7));have f4:Nat:=0|(have:=f4);(fail_if_success (have:=f5));refine zl1 hS ?_ (v:=.I (k+1)) (hc:=by exact hq1 (by exact c7));have f5:Nat:=0|(have:=f5);refine zl1 hS ?_ (v:=.I x) (hc:=by exact b8.old (by exact f9) hx));refine rt 17 hS ?_
       repeat(first|go_big_quiet_skip|(fail_if_success (have:=g1));refine zq1 ?_;have g1:Nat:=0|(have:=g1);(fail_if_success (have:=g2));refine zq1 ?_ (v:=.I (k+1)) (hc:=by exact hq1 (by exact c7));have g2:Nat:=0|(have:=g2);(fail_if_success (have:=g3));refine zq1 ?_ (hc:=by exact hoc (by exact c7));have g3:Nat:=0|(have:=g3);refine zq1 ?_|refine zqn ?_|refine qR ?_)
       clear hS;intro w hS;simp only[jD,List.drop_zero];go_wp2_with(first|go_big_skip|(fail_if_success (have:=i1));refine zl1 hS ?_ (hc:=by exact hq3 (by exact c7));have i1:Nat:=0|(have:=i1);(fail_if_success (have:=i2));refine zl1 hS ?_;have i2:Nat:=0|(have:=i2);(fail_if_success (have:=i3));refine zl1 hS ?_ (hc:=by exact hq3 (by exact c7));have i3:Nat:=0|(have:=i3);refine zl1 hS ?_|refine zs1 hS ?_;clear hS;intro w hS);go_roundw
       case rel=>exact⟨j+1,ld',rfl,hjl,by rw[<-Hld.out];exact Hj6.out,by rw[<-Hld.out];exact Hb'.out,by rw[N8.out,N9.out,N10.out];exact hS⟩
       case measure=>simp[intOf];omega
      ·skip
       rw[n9]at j5;have b5:=decide_eq_false (Int.not_le.2 j5);have N8:=jH n8;have N9:=jH n9;have N10:=jH n10;clear n8 n9 n10 j5;go_wp2_with(first|go_big_skip|(fail_if_success (have:=f0));refine zl1 hS ?_ (v:=.I 3) (hc:=by exact hq0 (by exact c7));have f0:Nat:=0|(have:=f0);(fail_if_success (have:=f1));refine zl1 hS ?_ (v:=.I (k+1)) (hc:=by exact hq1 (by exact c7));have f1:Nat:=0|(have:=f1);(fail_if_success (have:=f2));refine zl1 hS ?_ (v:=.I (k+1)) (hc:=by exact hq1 (by exact c7));have f2:Nat:=0|(have:=f2);(fail_if_success (have:=f3));refine zl1 hS ?_ (hc:=by exact hq3 (by exact c7));have f3:Nat:=0|(have:=f3);(fail_if_success (have:=f4));refine zl1 hS ?_ (hc:=by exact hq3 (by exact c7));have f4:Nat:=0|(have:=f4);(fail_if_success (have:=f5));refine zl1 hS ?_ (v:=.I (k+1)) (hc:=by exact hq1 (by exact c7));have f5:Nat:=0|(have:=f5);refine zl1 hS ?_ (v:=.I x) (hc:=by exact b8.old (by exact f9) hx));refine rt 17 hS ?_
       repeat(first|go_big_quiet_skip|(fail_if_success (have:=g1));refine zq1 ?_;have g1:Nat:=0|(have:=g1);(fail_if_success (have:=g2));refine zq1 ?_ (v:=.I (k+1)) (hc:=by exact hq1 (by exact c7));have g2:Nat:=0|(have:=g2);(fail_if_success (have:=g3));refine zq1 ?_ (hc:=by exact hoc (by exact c7));have g3:Nat:=0|(have:=g3);refine zq1 ?_|refine zqn ?_|refine qR ?_)
       clear hS;intro w hS;simp only[jD,List.drop_zero];go_wp2_with(first|go_big_skip|(fail_if_success (have:=i1));refine zl1 hS ?_ (hc:=by exact hq3 (by exact c7));have i1:Nat:=0|(have:=i1);(fail_if_success (have:=i2));refine zl1 hS ?_;have i2:Nat:=0|(have:=i2);(fail_if_success (have:=i3));refine zl1 hS ?_ (hc:=by exact hq3 (by exact c7));have i3:Nat:=0|(have:=i3);refine zl1 hS ?_|refine zs1 hS ?_;clear hS;intro w hS);go_roundw
       case rel=>exact⟨j+1,ld',rfl,hjl,by rw[<-Hld.out];exact Hj6.out,by rw[<-Hld.out];exact Hb'.out,by rw[N8.out,N9.out,N10.out];exact hS⟩
       case measure=>simp[intOf];omega
      ·skip
       rw[n10]at j5;have b5:=decide_eq_false (Int.not_le.2 j5);have N8:=jH n8;have N9:=jH n9;have N10:=jH n10;clear n8 n9 n10 j5;go_wp2_with(first|go_big_skip|(fail_if_success (have:=f0));refine zl1 hS ?_ (v:=.I 3) (hc:=by exact hq0 (by exact c7));have f0:Nat:=0|(have:=f0);(fail_if_success (have:=f1));refine zl1 hS ?_ (v:=.I (k+1)) (hc:=by exact hq1 (by exact c7));have f1:Nat:=0|(have:=f1);(fail_if_success (have:=f2));refine zl1 hS ?_ (v:=.I (k+1)) (hc:=by exact hq1 (by exact c7));have f2:Nat:=0|(have:=f2);(fail_if_success (have:=f3));refine zl1 hS ?_ (hc:=by exact hq3 (by exact c7));have f3:Nat:=0|(have:=f3);(fail_if_success (have:=f4));refine zl1 hS ?_ (hc:=by exact hq3 (by exact c7));have f4:Nat:=0|(have:=f4);(fail_if_success (have:=f5));refine zl1 hS ?_ (v:=.I (k+1)) (hc:=by exact hq1 (by exact c7));have f5:Nat:=0|(have:=f5);refine zl1 hS ?_ (v:=.I x) (hc:=by exact b8.old (by exact f9) hx));refine rt 17 hS ?_
       repeat(first|go_big_quiet_skip|(fail_if_success (have:=g1));refine zq1 ?_;have g1:Nat:=0|(have:=g1);(fail_if_success (have:=g2));refine zq1 ?_ (v:=.I (k+1)) (hc:=by exact hq1 (by exact c7));have g2:Nat:=0|(have:=g2);(fail_if_success (have:=g3));refine zq1 ?_ (hc:=by exact hoc (by exact c7));have g3:Nat:=0|(have:=g3);refine zq1 ?_|refine zqn ?_|refine qR ?_)
       clear hS;intro w hS;simp only[jD,List.drop_zero];go_wp2_with(first|go_big_skip|(fail_if_success (have:=i1));refine zl1 hS ?_ (hc:=by exact hq3 (by exact c7));have i1:Nat:=0|(have:=i1);(fail_if_success (have:=i2));refine zl1 hS ?_;have i2:Nat:=0|(have:=i2);(fail_if_success (have:=i3));refine zl1 hS ?_ (hc:=by exact hq3 (by exact c7));have i3:Nat:=0|(have:=i3);refine zl1 hS ?_|refine zs1 hS ?_;clear hS;intro w hS);go_roundw
       case rel=>exact⟨j+1,ld',rfl,hjl,by rw[<-Hld.out];exact Hj6.out,by rw[<-Hld.out];exact Hb'.out,by rw[N8.out,N9.out,N10.out];exact hS⟩
       case measure=>simp[intOf];omega
  have d3:decide (i<hs.length)=true:=decide_eq_true hil;obtain⟨pb,poff,rfl,hall⟩:=Hat.out i hil;have hx:V.cell? ⟨pb,poff+i,none⟩=some (.I hs[i]):=by have h9:=hall 0 _ rfl;rwa [Nat.mul_one,Nat.add_zero]at h9
  have hxd:hs.getD i 0=hs[i]:=by simp[List.getD,hil]
  obtain⟨y,hy⟩:∃y,bits .and .i64 (hs[i] / 256) 1=y:=⟨_,rfl⟩
  obtain⟨lo,hlo⟩:∃lo,bits .and .i64 hs[i] 255=lo:=⟨_,rfl⟩
  have hlo2:t7 hs i=lo:=by unfold t7;rw[hxd,<-hlo,aF4]
  have how:r7 hs i=8+y:=by unfold r7;rw[hxd,<-hy,cm4]
  have hy2:0<=y/\y<=1:=by have:=Bq7 hs i;omega
  have hlo3:0<=lo/\lo<=255:=by have:=Bb7 hs i;omega
  obtain⟨y1,y2⟩:=hy2;obtain⟨l1,l2⟩:=hlo3;clear hall hxd;generalize hs[i]=x at hx hlo hy;have Hlo:=jH hlo2;have How:=jH how;clear hlo2 how;by_cases c3:0<i
  ·have e3:decide ((0:Int)<(i:Int))=true:=by simp;omega
   have e3':decide (0<i)=true:=decide_eq_true c3;by_cases c4:i+1<hs.length
   ·have e4:decide ((i:Int)+1<(hs.length:Int))=true:=by simp;omega
    have e4':decide (i+1<hs.length)=true:=decide_eq_true c4;go_wp2_with(first|go_big_skip|(with_reducible apply AC7);rfl;rfl;(focus(simp only[fD,fI,fJ,Act.eval,fE,fF,fG,fH,fK];try rfl));(intro w;first|exact aC4 _ _ _ w|exact ai4 _ _ w|exact aD4 _ _ w|exact aE4 _ w|exact aj4 w);refine frS ?_|refine zal hS ?_;clear hS;intro b6 w hS|refine zl1 hS ?_ (v:=.I x) (hc:=by exact b8.old (by exact f9) hx)|refine zlN hS ?_|refine zl1 hS ?_|(with_reducible apply wl_bytesStrC (ns:=[_]) hS);rfl;rfl;rfl;exact Try.underlying33;exact Try.underlying5;exact Try.underlying9;exact a7.whole;rfl;refine frS ?_|refine zbs hS ?_;clear hS;intro bS w hS|refine zsN hS ?_;clear hS;intro w hS|refine zs1 hS ?_;clear hS;intro w hS|(fail_if_success (have:=mAZ));refine zap hS ?_ (h63:=by unfold maxLen;omega) (hb:=by omega);clear hS;intro v w hS;obtain⟨ya,yc,rfl⟩:=hS.rowVal;have mAZ:Nat:=0|(have:=mAZ);refine zap hS ?_ (h63:=by unfold maxLen;omega) (hb:=by omega);clear hS;intro u w hS);have hS1:=hS.s (blk b3 [.I 1,.I (hs.length+1),.slice ya (i+1) yc] 26::row (.slice ya (i+1) yc) 9 32 (i+1) _::row u 3 35 (i+1) _::Old V::R);clear hS;go_roundw
    case rel=>
     refine Ej7 (hf:=?_) (ht:=?_) hil Hze.out Hzl.out How.out Hlo.out hS1
     all_goals(first|exact CX7 _|exact(by decide:(0:Nat)<=60))
    case measure=>simp[intOf];omega
   ·have e4:decide ((i:Int)+1<(hs.length:Int))=false:=by simp;omega
    have e4':decide (i+1<hs.length)=false:=decide_eq_false c4;go_wp2_with(first|go_big_skip|(with_reducible apply AC7);rfl;rfl;(focus(simp only[fD,fI,fJ,Act.eval,fE,fF,fG,fH,fK];try rfl));(intro w;first|exact aC4 _ _ _ w|exact ai4 _ _ w|exact aD4 _ _ w|exact aE4 _ w|exact aj4 w);refine frS ?_|refine zal hS ?_;clear hS;intro b6 w hS|refine zl1 hS ?_ (v:=.I x) (hc:=by exact b8.old (by exact f9) hx)|refine zlN hS ?_|refine zl1 hS ?_|(with_reducible apply wl_bytesStrC (ns:=[_]) hS);rfl;rfl;rfl;exact Try.underlying33;exact Try.underlying5;exact Try.underlying9;exact a7.whole;rfl;refine frS ?_|refine zbs hS ?_;clear hS;intro bS w hS|refine zsN hS ?_;clear hS;intro w hS|refine zs1 hS ?_;clear hS;intro w hS|(fail_if_success (have:=mAZ));refine zap hS ?_ (h63:=by unfold maxLen;omega) (hb:=by omega);clear hS;intro v w hS;obtain⟨ya,yc,rfl⟩:=hS.rowVal;have mAZ:Nat:=0|(have:=mAZ);refine zap hS ?_ (h63:=by unfold maxLen;omega) (hb:=by omega);clear hS;intro u w hS);have hS1:=hS.s (blk b3 [.I 1,.I (hs.length+1),.slice ya (i+1) yc] 26::row (.slice ya (i+1) yc) 9 32 (i+1) _::row u 3 35 (i+1) _::Old V::R);clear hS;go_roundw
    case rel=>
     refine Ej7 (hf:=?_) (ht:=?_) hil Hze.out Hzl.out How.out Hlo.out hS1
     all_goals(first|exact CX7 _|exact(by decide:(0:Nat)<=60))
    case measure=>simp[intOf];omega
  ·have e3:decide ((0:Int)<(i:Int))=false:=by simp;omega
   have e3':decide (0<i)=false:=decide_eq_false c3;have c4:i+1<hs.length:=by omega
   have e4:decide ((i:Int)+1<(hs.length:Int))=true:=by simp;omega
   have e4':decide (i+1<hs.length)=true:=decide_eq_true c4;go_wp2_with(first|go_big_skip|(with_reducible apply AC7);rfl;rfl;(focus(simp only[fD,fI,fJ,Act.eval,fE,fF,fG,fH,fK];try rfl));(intro w;first|exact aC4 _ _ _ w|exact ai4 _ _ w|exact aD4 _ _ w|exact aE4 _ w|exact aj4 w);refine frS ?_|refine zal hS ?_;clear hS;intro b6 w hS|refine zl1 hS ?_ (v:=.I x) (hc:=by exact b8.old (by exact f9) hx)|refine zlN hS ?_|refine zl1 hS ?_|(with_reducible apply wl_bytesStrC (ns:=[_]) hS);rfl;rfl;rfl;exact Try.underlying33;exact Try.underlying5;exact Try.underlying9;exact a7.whole;rfl;refine frS ?_|refine zbs hS ?_;clear hS;intro bS w hS|refine zsN hS ?_;clear hS;intro w hS|refine zs1 hS ?_;clear hS;intro w hS|(fail_if_success (have:=mAZ));refine zap hS ?_ (h63:=by unfold maxLen;omega) (hb:=by omega);clear hS;intro v w hS;obtain⟨ya,yc,rfl⟩:=hS.rowVal;have mAZ:Nat:=0|(have:=mAZ);refine zap hS ?_ (h63:=by unfold maxLen;omega) (hb:=by omega);clear hS;intro u w hS);have hS1:=hS.s (blk b3 [.I 1,.I (hs.length+1),.slice ya (i+1) yc] 26::row (.slice ya (i+1) yc) 9 32 (i+1) _::row u 3 35 (i+1) _::Old V::R);clear hS;go_roundw
   case rel=>
    refine Ej7 (hf:=?_) (ht:=?_) hil Hze.out Hzl.out How.out Hlo.out hS1
    all_goals(first|exact CX7 _|exact(by decide:(0:Nat)<=60))
   case measure=>simp[intOf];omega
end Go.Proofs.Ytjcfifkjbaffnaa
end
