/-
  The program's Writer.
-/
import Derived.Test.YtjcfifkjbaffnaaGreatPkQM5
import Derived.Test.YtjcfifkjbaffnaaGreatPkQM7
import Derived.Laws.BytesString
set_option maxHeartbeats 16000000
set_option maxRecDepth 100000
set_option linter.unusedSimpArgs false
set_option linter.unusedVariables false
section
namespace Go.Proofs.YtjcfifkjbaffnaaGreat
open Go.RowKit Go.Sl
abbrev Rb:=Option Addr×Nat×List Int
abbrev rbV(x:Rb):Value:=.slice x.1 x.2.2.length x.2.1
def aR4(r:List Int):List Int:=r9 r.length++r
def C6(rs:List Rb):List Int:=rs.flatMap fun x=>aR4 x.2.2
theorem HM7(r:List Int):(aR4 r).length<=r.length+9:=by have:=AB7 r.length;unfold aR4;rw[jA];omega
theorem bA4(wb:Nat)(d:List Int)(a:Option Addr)(c:Nat)(r:List Int)(hd:d.length<=90000000)(hr:r.length<=10000000)(W w:World)(R:List HP)(hsrc:Src R (.slice a r.length c) r.length (u8s r))(hS:St W (wrR wb d::R) w):
  Calls Tryz.prog 67 #[.P wb,.slice a r.length c] w fun e w'=>e=.returned (.tuple #[])/\St W (wrR wb (d++r)::R) w':=by
 obtain⟨wa,wc,hS1⟩:=au4 hS;clear hS;have hS:=hS1;clear hS1;have Hsrc:=jH hsrc;clear hsrc;go_enter Tryz.func67,Tryz.ntmps67;go_wp2_with(first|refine zl1 hS ?_|(with_reducible apply At7 hS);rfl;rfl;rfl;rfl;exact esS;exact rsS;rfl;decide;exact d7;exact Hsrc.out.there.there;(focus(rw[ED7,Nat.mul_one]));exact Fe7 _;(focus(unfold maxLen;omega));(focus(omega));clear hS;intro v w hS;(have hv:=hS.rowVal;obtain⟨va,vc,rfl⟩:=hv);refine frS ?_|refine zs1 hS ?_;clear hS;intro w hS);go_end0;have hS1:=hS.s (row (.slice va (d.length+r.length) vc) 1 _ _ _::blk wb _ _::R);have h0:St W (row (.slice va (d.length+r.length) vc) 1 5 (d.length+r.length) (u8s d++u8s r)::_) w:=hS1;rw[<-GB7]at h0;exact⟨rfl,K8 (CS7 (by rw[jA]) h0).swap⟩
def bR4(W:World)(R:List HP)(wb:Nat)(d:List Int)(rs:List Rb)(v:Value)(w:World):Prop:=
 ∃k:Nat,v=.I k/\k<=rs.length/\St W (wrR wb (d++C6 (rs.take k))::R) w
theorem FC7{rs:List Rb}{k:Nat}(h:k<rs.length):C6 (rs.take (k+1))=C6 (rs.take k)++(r9 rs[k].2.2.length++rs[k].2.2):=by unfold C6;rw[List.take_succ_eq_append_getElem h,List.flatMap_append];simp[aR4]
theorem DZ7:∀{rs:List Rb},(∀x∈rs,x.2.2.length<=5000000)->(C6 rs).length<=rs.length*5000009
 | [],_=>by simp[C6]
 | x::rs,h=>by
  have h1:=DZ7 (rs:=rs) fun y hy=>h y (List.mem_cons_of_mem _ hy)
  have h2:=h x (List.mem_cons_self ..);have h3:=HM7 x.2.2;unfold C6 at h1 ⊢;rw[List.flatMap_cons,jA,jC];omega
theorem Jb7(wb:Nat)(d:List Int)(rs:List Rb)(b off c:Nat)(hd:d.length<=30000000)(hl:rs.length<=8)(hlen:∀x∈rs,x.2.2.length<=5000000)(W w:World)(R:List HP)(hcell:∀i, ∀hi:i<rs.length,a8 R b (off+i) (rbV rs[i]))(hsrc:∀x∈rs,Src R (rbV x) x.2.2.length (u8s x.2.2))(hS:St W (wrR wb d::R) w):
  Calls Tryz.prog 34 #[.P wb,.slice (some ⟨b,off,none⟩) rs.length c] w fun e w'=>e=.returned (.tuple #[])/\St W (wrR wb (d++C6 rs)::R) w':=by
 have Hcell:=jH hcell;have Hsrc:=jH hsrc;have Hlen:=jH hlen;clear hcell hsrc hlen;go_enter Tryz.func34,Tryz.ntmps34;go_wp2_with(fail)
 go_loopw [8] (fun v wr=>bR4 W R wb d rs v wr) (fun v _=>rs.length-(intOf v).toNat)
 case atStart=>exact⟨0,rfl,Nat.zero_le _,by simpa[C6]using hS⟩
 case round=>
  clear hS;obtain⟨k,rfl,hkl,hS⟩:=hrel;by_cases hkn:k=rs.length
  ·subst hkn;have d3:decide ((rs.length:Int)<(rs.length:Int))=false:=by simp
   rw[List.take_length]at hS;go_wp2_with(fail);go_end0;exact⟨rfl,hS⟩
  ·have hk1:k<rs.length:=by omega
   have dk:decide ((k:Int)<(rs.length:Int))=true:=by simp;omega
   have hc:=(Hcell.out k hk1).there (X:=wrR wb (d++C6 (rs.take k)));have hs:=Hsrc.out _ (jW hk1);have hln:=Hlen.out _ (jW hk1);have hst:=FC7 hk1;have htl:=DZ7 (rs:=rs.take k) fun x hx=>Hlen.out x (List.mem_of_mem_take hx)
   rw[jT]at htl;have hnl:=AB7 (rs[k].2.2.length:Int);generalize rs[k]=x at hc hs hln hst hnl;obtain⟨xa,xc,r⟩:=x;simp only at hc hs hln hst hnl;generalize hE:C6 (rs.take k)=E at hS hst htl hc;have hdl:(d++E).length<=80000000:=by rw[jA];omega
   have Hs:=jH hs;have Hst:=jH hst;have Hdl:=jH hdl;have hdl2:(d++E++r9 (r.length:Int)).length<=90000000:=by rw[jA];omega
   have Hdl2:=jH hdl2;clear hs hst htl hE hkn hkl hdl hdl2;go_wp2_with(first|refine zl1 hS ?_ (hc:=by exact hc)|refine zbs hS ?_;clear hS;intro bS w hS|go_at_call 33;refine(bl4 wb _ (r.length:Int) bS 1 (by have:=Hdl.out;omega) ⟨by omega,by omega⟩ W _ _ (hS.s (wrR wb (d++E)::blk bS _ _::R))).mono ?_;clear hS;rintro e w ⟨rfl,hS⟩|go_at_call 67;refine(bA4 wb _ xa xc r Hdl2.out (by omega) W _ _ Hs.out.there hS).mono ?_;clear hS;rintro e w ⟨rfl,hS⟩);go_roundw
   case rel=>exact⟨k+1,rfl,hk1,by rw[Hst.out,<-jS,<-jS];exact hS.s _⟩
   case measure=>simp[intOf];omega
end Go.Proofs.YtjcfifkjbaffnaaGreat
end
section
namespace Go.Sl
open Go.RowKit
structure Same(L L':List HP):Prop where
 to:∀{f:t7},sats L f->sats L' f
 back:∀{f:t7},sats L' f->sats L f
theorem Same.refl{L:List HP}:Same L L:=⟨fun h=>h,fun h=>h⟩
def G8(ns:List Int):ByteArray:=ns.foldl (fun r n=>r.push (UInt8.ofNat n.toNat)) ByteArray.empty
section
variable{P:Program}{W:World}{ops:Array Oper}{t:List Nat}{toks:List Tok}{fresh:Nat->Bool}{pin:Nat->Option Value}{Qf:Act->Prop}{nd:Nat->Value}{i:Nat}{l:List Oper}{a:Act}{o:Oper}
end
end Go.Sl
namespace Go.Proofs.YtjcfifkjbaffnaaGreat
open Go.RowKit Go.Sl
section
variable{W w:World}{vb mb bb xb xB:Nat}{p:Ps}{L:List Ord}{n:Int}{N:Nat}{L1 R3:List HP}
end
def ByB(s:List Int):Prop:=∀c∈s,0<=c/\c<=255
theorem HN7{s:List Int}(h:ByB s)(n:Nat):ByB (s.drop n):=fun c hc=>h c (List.mem_of_mem_drop hc)
theorem Jc7{s t:List Int}(h:ByB (s++t)):ByB s/\ByB t:=⟨fun c hc=>h c (List.mem_append_left _ hc),fun c hc=>h c (List.mem_append_right _ hc)⟩
def A9:Nat->Bool->List Int->Option (Nat×List Int)
 | _,_,[]=>none
 | f,z,c::s=>if c<128 then(if z=false/\c=0 then none else some (c.toNat,s))else
  match f with
  | 0=>none
  | f+1=>
   match A9 f false s with
   | none=>none
   | some (v,r)=>some ((c-128).toNat+128*v,r)
theorem HO7(f:Nat)(z:Bool):A9 f z []=none:=by unfold A9;rfl
theorem CT7{f:Nat}{z:Bool}{c:Int}{s:List Int}(h:c<128):A9 f z (c::s)=if z=false/\c=0 then none else some (c.toNat,s):=by unfold A9;rw[if_pos h]
theorem GD7{z:Bool}{c:Int}{s:List Int}(h:¬c<128):A9 0 z (c::s)=none:=by unfold A9;rw[if_neg h]
theorem HP7{f:Nat}{z:Bool}{c:Int}{s:List Int}(h:¬c<128):A9 (f+1) z (c::s)=match A9 f false s with
  | none=>none
  | some (v,r)=>some ((c-128).toNat+128*v,r):=by
 rw[A9,if_neg h]
def K9(s:List Int):Option (Nat×List Int):=
 match A9 8 true s with
 | none=>none
 | some (u,r)=>if u<=4611686018427387904 then some (u,r)else none
theorem Ff7:∀(f u:Nat) (z:Bool) (r:List Int),u<128^(f+1)->(z=true\/u≠0)->A9 f z (D8 f u++r)=some (u,r)
 | 0,u,z,r,hu,hz=>by
  show A9 0 z ((u:Int)::r)=_
  have h1:(u:Int)<128:=by simp at hu;omega
  have h2:¬(z=false/\(u:Int)=0):=by
   rintro⟨h3,h4⟩
   rcases hz with h5|h5
   ·rw[h3]at h5;cases h5
   ·omega
  unfold A9;rw[if_pos h1,if_neg h2];simp
 | f+1,u,z,r,hu,hz=>by
  rw[D8];by_cases h:128<=u
  ·rw[if_pos h,jK];have hu3:u / 128<128^(f+1):=Nat.div_lt_of_lt_mul (by rw[Nat.pow_succ]at hu;omega);have ih:=Ff7 f (u / 128) false r hu3 (.inr (by omega));unfold A9;rw[if_neg (by omega)];dsimp only;rw[ih];simp only[Option.some.injEq,Prod.mk.injEq,and_true];omega
  ·rw[if_neg h];have h1:(u:Int)<128:=by omega
   have h2:¬(z=false/\(u:Int)=0):=by
    rintro⟨h3,h4⟩
    rcases hz with h5|h5
    ·rw[h3]at h5;cases h5
    ·omega
   show A9 (f+1) z ((u:Int)::r)=_
   unfold A9;rw[if_pos h1,if_neg h2];simp
theorem HQ7(n:Int)(r:List Int):K9 (r9 n++r)=some (F5 n,r):=by have h:=Dn7 n;unfold K9 r9;rw[Ff7 8 (F5 n) true r (EC7 h) (.inl rfl)];exact if_pos h
theorem Fg7:∀(s:List Int) (f:Nat) (z:Bool) (u:Nat) (r:List Int),ByB s->A9 f z s=some (u,r)->s=D8 f u++r/\u<128^(f+1)/\(z=false->u≠0)
 | [],f,z,u,r,_,h=>by
  unfold A9 at h
  cases h
 | c::s,f,z,u,r,hb,h=>by
  have hc:=hb c (List.mem_cons_self ..);unfold A9 at h;by_cases h1:c<128
  ·rw[if_pos h1]at h;by_cases h2:z=false/\c=0
   ·rw[if_pos h2]at h;cases h
   ·rw[if_neg h2]at h;simp only[Option.some.injEq,Prod.mk.injEq]at h;obtain⟨rfl,rfl⟩:=h;have h3:((c.toNat:Nat):Int)=c:=by omega
    have h4:c.toNat<128:=by omega
    refine⟨?_,?_,?_⟩
    ·rw[CR7 h4,h3];rfl
    ·have h5:0<128^f:=Nat.pow_pos (by decide);rw[Nat.pow_succ];omega
    ·intro hz h5;exact h2 ⟨hz,by omega⟩
  ·rw[if_neg h1]at h
   cases f with
   | zero=>cases h
   | succ f=>
    simp only at h
    cases hd:A9 f false s with
    | none=>rw[hd]at h;cases h
    | some x=>
     obtain⟨v,r2⟩:=x;rw[hd]at h;simp only[Option.some.injEq,Prod.mk.injEq]at h;obtain⟨rfl,rfl⟩:=h;obtain⟨i1,i2,i3⟩:=Fg7 s f false v r2 (fun x hx=>hb x (List.mem_cons_of_mem _ hx)) hd;have hv:=i3 rfl;have h6:(c-128).toNat<128:=by omega
     refine⟨?_,?_,?_⟩
     ·rw[D8,if_pos (by omega)];have e1:((c-128).toNat+128*v) / 128=v:=by omega
      have e2:((((c-128).toNat+128*v)%128+128:Nat):Int)=c:=by omega
      rw[e1,e2,jK,<-i1]
     ·rw[Nat.pow_succ];omega
     ·omega
theorem HR7{s r:List Int}{u:Nat}(hb:ByB s)(h:K9 s=some (u,r)):s=r9 u++r/\u<=4611686018427387904:=by
 unfold K9 at h
 cases hd:A9 8 true s with
 | none=>rw[hd]at h;cases h
 | some x=>
  obtain⟨v,r2⟩:=x;rw[hd]at h;simp only at h;by_cases hv:v<=4611686018427387904
  ·rw[if_pos hv]at h;simp only[Option.some.injEq,Prod.mk.injEq]at h;obtain⟨rfl,rfl⟩:=h;obtain⟨i1,i2,i3⟩:=Fg7 s 8 true v r2 hb hd;refine⟨?_,hv⟩
   have e:F5 (v:Int)=v:=by
    unfold F5;split
    ·omega
    ·split
     ·simp
     ·omega
   unfold r9;rw[e];exact i1
  ·rw[if_neg hv]at h;cases h
theorem HS7{n:Int}(h0:0<=n)(h1:n<=4611686018427387904):((F5 n:Nat):Int)=n:=by
 unfold F5
 repeat' split
 all_goals omega
abbrev RS:=Option (List Int)
def k6:RS->Int×RS
 | none=>(0,none)
 | some l=>
  match K9 l with
  | none=>(0,none)
  | some (u,r)=>((u:Int),some r)
def J8(n:Int):RS->List Int×RS
 | none=>([],none)
 | some l=>if 0<=n/\n<=l.length then(l.take n.toNat,some (l.drop n.toNat))else([],none)
def B8(s:RS):List Int×RS:=J8 (k6 s).1 (k6 s).2
def k5:Nat->RS->List Int×RS
 | 0,s=>([],s)
 | k+1,s=>((k6 s).1::(k5 k (k6 s).2).1,(k5 k (k6 s).2).2)
def BS(s:RS):Prop:=∀l,s=some l->ByB l
theorem CU7{l r:List Int}{n:Int}(hb:ByB l)(h:k6 (some l)=(n,some r)):l=r9 n++r/\0<=n/\n<=4611686018427387904/\ByB r:=by
 unfold k6 at h;simp only at h
 cases hd:K9 l with
 | none=>rw[hd]at h;cases h
 | some x=>
  obtain⟨u,r2⟩:=x;rw[hd]at h;simp only[Prod.mk.injEq,Option.some.injEq]at h;obtain⟨rfl,rfl⟩:=h;obtain⟨h1,h2⟩:=HR7 hb hd;refine⟨h1,by omega,by omega,?_⟩;rw[h1]at hb;exact(Jc7 hb).2
theorem FD7:k6 none=(0,none):=rfl
theorem FE7(n:Int):J8 n none=([],none):=rfl
theorem Ea7:∀(l:List Int) (b:ByteArray),(l.foldl (fun r n=>r.push (UInt8.ofNat n.toNat)) b).data.toList=b.data.toList++l.map fun n=>UInt8.ofNat n.toNat
 | [],b=>by simp
 | n::l,b=>by rw[List.foldl_cons,Ea7 l];simp[ByteArray.push]
theorem GE7(l:List Int):(G8 l).data.toList=l.map fun n=>UInt8.ofNat n.toNat:=by unfold G8;rw[Ea7];rfl
theorem Cn7(u:ByteArray):G8 (w9 u)=u:=by
 refine AU7 ?_;rw[GE7];unfold w9;rw[List.map_map];refine(List.map_congr_left fun n hn=>?_).trans (List.map_id _);show UInt8.ofNat (((n.toNat:Nat):Int)).toNat=n
 simp
theorem HT7(u:ByteArray):ByB (w9 u):=by intro c hc;unfold w9 at hc;obtain⟨b,_,rfl⟩:=List.mem_map.1 hc;have:=b.toNat_lt;omega
end Go.Proofs.YtjcfifkjbaffnaaGreat
end
section
namespace Go.Sl
open Go.RowKit
section
variable{P:Program}{ops:Array Oper}{Q:Exit->Act->World->Prop}{a:Act}{w:World}{W:World}{L R:List HP}{rest:List Oper}{o:Oper}
theorem BT7(t ty e:TypeId)(i:TypeInfo)(ht:P.underlying t=some (.slice e))(hi:P.info? e=some i)(b:Option Addr)(n cap:Nat)(hn:n<=cap)(p:Addr)(c:Nat):
  (Builtin.append_ #[t,t] ty #[.slice b n cap,.slice (some p) 0 c]).run P w=.ok (.slice b n cap) w:=by
 cases b with
 | none=>simp[Builtin.append_,run_underlying ht,sizeOf,typeInfo,hi,Builtin.lenOf,hn,Builtin.firstCells,loadCells,loadCellsFrom]
 | some q=>simp[Builtin.append_,run_underlying ht,sizeOf,typeInfo,hi,Builtin.lenOf,hn,Builtin.firstCells,loadCells,loadCellsFrom,storeCells]
theorem FF7{s x:Operand}{t e:TypeId}{z:Value}{k k2 bytes:Nat}{v:Value}{n c:Nat}{p:Addr}{cs:List Value}(hS:St W L w)(ho:o.op=.call { callee:=.builtin .append,args:=#[s,x],argTypes:=#[t,t] })
  (hg:Region.wanted o (yielded ops a.tmps)=true) (hs:a.eval s=v) (hx:a.eval x=.slice (some p) 0 c) (ht:j5 P t=some e) (hi:k8 P e=some (some z,k2,bytes)) (hu:Take L (row v k e n cs) R)
  (h:wpList P ops Q rest (a.put o.dst v) w):wpList P ops Q (o::rest) a w:=by
 have ht':=AF7 ht;unfold k8 at hi;obtain⟨i,hi',hi2⟩:=Option.map_eq_some_iff.1 hi
 obtain⟨b,n',cap,hv,hn⟩:∃b n' cap,v=.slice b n' cap/\n'<=cap:=by
  rcases(hS.take hu).rowOpen with ⟨hv,_⟩|⟨g,cap,junk,hv,hn,_⟩
  ·exact⟨_,_,_,hv,Nat.le_refl _⟩
  ·exact⟨_,_,_,hv,hn⟩
 have h1:=BT7 (P:=P) (w:=w) t o.type e i ht' hi' b n' cap hn p c;refine Al7 hg (v:=v) (w':=w) ?_ h;rw[<-hv]at h1;unfold execOp;simp only[ho,resolve,invoke,builtin,Sem.run_bind,Sem.run_pure,Result.andThen_ok,List.map_toArray,List.map_cons,List.map_nil,hs,hx,h1]
theorem Co7{t t2 e:TypeId}{x y:Operand}{a0:Option Addr}{n c:Nat}(ho:o.op=.binOp .eql t x y t2)(hg:Region.wanted o (yielded ops a.tmps)=true)(hx:a.eval x=.slice a0 n c)(hy:a.eval y=.slice none 0 0)(ht:P.underlying t=some (.slice e))
  (h:wpList P ops Q rest (a.put o.dst (.bool a0.isNone)) w):wpList P ops Q (o::rest) a w:=by
 refine Al7 hg (v:=.bool a0.isNone) (w':=w) ?_ h;have h1:(binOp .eql t (.slice a0 n c) (.slice none 0 0)).run P w=.ok (.bool a0.isNone) w:=Lib.run_eql_slice_nil w t e a0 n c 0 0 ht;unfold execOp;simp[ho,hx,hy,eqGuard,h1]
end
end Go.Sl
namespace Go.Proofs.YtjcfifkjbaffnaaGreat
open Go.RowKit Go.Sl
def Dat(D:HP)(g off:Nat)(l:List Int):Prop:=∀K K',Take K D K'->a7 K g off (u8s l)
theorem Dat.drop{D:HP}{g off:Nat}{l:List Int}(h:Dat D g off l)(n:Nat):Dat D g (off+n) (l.drop n):=fun K K' ht j v hj=>by unfold u8s at hj;rw[List.map_drop,List.getElem?_drop]at hj;rw[Nat.add_assoc];exact h K K' ht (n+j) v hj
theorem Dat.take{D:HP}{g off:Nat}{l:List Int}(h:Dat D g off l)(n:Nat):Dat D g off (l.take n):=fun K K' ht j v hj=>by
 unfold u8s at hj;rw[List.map_take,List.getElem?_take]at hj;split at hj
 ·exact h K K' ht j v hj
 ·cases hj
theorem Dat.old{V:World}{g off:Nat}{l:List Int}(h:∀(j:Nat) (v:Value),(u8s l)[j]? = some v->V.cell? ⟨g,off+j,none⟩=some v):Dat (Old V) g off l:=fun K K' ht j v hj W w hS=>(hS.take ht).oldCell .head (h j v hj)
theorem Dat.row{g c:Nat}{l:List Int}(h:0<l.length):Dat (byR (.S g l.length c) l) g 0 l:=fun K K' ht j v hj W w hS=>by rw[Nat.zero_add];exact a8.row h hj W w (hS.take ht)
def rdV(D:HP)(v:Value)(e:Bool):RS->Prop
 | none=>v=.slice none 0 0/\e=true
 | some l=>e=false/\∃a c,v=.slice a l.length c/\l.length<=c/\c<=9223372036854775807/\((l=[]/\a=none/\c=0)\/(l=[]/\∃p,a=some p)\/∃g off,a=some ⟨g,off,none⟩/\Dat D g off l)
def rdR(T:TypeId)(D:HP)(rb:Nat)(s:RS):HP:=fun f=>∃v e,rdV D v e s/\blk rb [v,.bool e] T f
section
variable{W w:World}{T:TypeId}{D:HP}{rb:Nat}{s:RS}{R:List HP}
theorem G5(h:St W (rdR T D rb s::R) w):∃v e,rdV D v e s/\St W (blk rb [v,.bool e] T::R) w:=by obtain⟨v,h⟩:=St.ex h;obtain⟨e,h⟩:=St.ex h;obtain⟨h1,h⟩:=St.and h;exact⟨v,e,h1,h⟩
theorem av4{v:Value}{e:Bool}{l:List Int}(h:rdV D v e (some l)):∃a c,e=false/\v=.slice a l.length c/\RowKit.Hid (rdV D (.slice a l.length c) false (some l)):=by obtain⟨rfl,a,c,rfl,h⟩:=h;exact⟨a,c,rfl,rfl,jH ⟨rfl,a,c,rfl,h⟩⟩
theorem l6{v:Value}{e:Bool}(h1:rdV D v e s)(h:St W (blk rb [v,.bool e] T::R) w):St W (rdR T D rb s::R) w:=St.mkEx v (St.mkEx e (St.mkAnd h1 h))
end
theorem AE7{P:Program}{ops:Array Oper}{Q:Exit->Act->World->Prop}{a:Act}{w:World}{W:World}{L R:List HP}{rest:List Oper}{o:Oper}{src dst e:TypeId}{x:Operand}{v0:Value}{ns:List Int}(hS:St W L w)(ho:o.op=.convert src dst x)(hg:Region.wanted o (yielded ops a.tmps)=true)(hx:a.eval x=v0)
  (hs:P.underlying src=some (.slice e)) (he:P.underlying e=some (.int .u8)) (hd:P.underlying dst=some .string) (hu:Take L (row v0 1 e ns.length (ns.map (Value.int .u8))) R)
  (h:wpList P ops Q rest (a.put o.dst (.string (G8 ns))) w):wpList P ops Q (o::rest) a w:=by
 refine Al7 hg (v:=.string (G8 ns)) (w':=w) ?_ h;rcases(hS.take hu).rowOpen with ⟨rfl,h0,_,_⟩|⟨g,cap,junk,rfl,_,_,_,_,hS'⟩
 ·have hn:ns=[]:=List.eq_nil_of_length_eq_zero h0;subst hn;unfold execOp;simp[ho,hx,run_convert_bytes_string w src dst e none 0 0 hs he hd,Conv.bytesToString,G8,Sem.run_pure]
 ·have h1:=run_loadCells_list (P:=P) w ⟨g,0,none⟩ (ns.map (Value.int .u8)) (fun j v hj=>by
   rw[Addr.add_lit,Nat.zero_add];exact hS'.cell .head (by rw[List.getElem?_append_left (List.getElem?_eq_some_iff.1 hj).1];exact hj))
  rw[jM]at h1;have h2:=run_bytesToString (P:=P) w ⟨g,0,none⟩ ns.length cap ns h1;unfold execOp;simp[ho,hx,run_convert_bytes_string w src dst e (jP g) ns.length cap hs he hd,h2,G8]
theorem JU7{u v k:Nat}(hu:u<2^k):u ||| v*2^k=u+v*2^k:=by rw[Nat.or_comm,Nat.mul_comm v,Nat.add_comm];exact(Nat.two_pow_add_eq_or_of_lt hu v).symm
abbrev rdG:=rdR 113
theorem H7(D:HP)(rb:Nat)(s:RS)(W w:World)(R:List HP)(hS:St W (rdG D rb s::R) w):
  Calls Tryz.prog 58 #[.P rb] w fun e w'=>e=.returned (.tuple #[])/\St W (rdG D rb none::R) w':=by
 obtain⟨v0,e0,hv,hS1⟩:=G5 hS;clear hS;have hS:=hS1;clear hS1;go_enter Tryz.func58,Tryz.ntmps58;go_wp2_with(first|refine zs1 hS ?_;clear hS;intro w hS);go_end0;exact⟨rfl,l6 ⟨rfl,rfl⟩ hS⟩
theorem Fh7(D:HP)(rb:Nat)(s:RS)(W w:World)(R:List HP)(hS:St W (rdG D rb s::R) w):
  Calls Tryz.prog 28 #[.P rb] w fun e w'=>e=.returned (.bool s.isSome)/\St W (rdG D rb s::R) w':=by
 obtain⟨v0,e0,hv,hS1⟩:=G5 hS;clear hS;have hS:=hS1;clear hS1
 cases s with
 | none=>
  obtain⟨rfl,rfl⟩:=hv;go_enter Tryz.func28,Tryz.ntmps28;go_wp2_with(first|refine zl1 hS ?_);go_ret;exact⟨rfl,l6 ⟨rfl,rfl⟩ hS⟩
 | some l=>
  obtain⟨rfl,hv⟩:=hv;go_enter Tryz.func28,Tryz.ntmps28;go_wp2_with(first|refine zl1 hS ?_);go_ret;exact⟨rfl,l6 ⟨rfl,hv⟩ hS⟩
def aJ4(s:RS):Bool:=match s with
 | some []=>true
 | _=>false
theorem Jd7(D:HP)(rb:Nat)(s:RS)(W w:World)(R:List HP)(hS:St W (rdG D rb s::R) w):
  Calls Tryz.prog 30 #[.P rb] w fun e w'=>e=.returned (.bool (aJ4 s))/\St W (rdG D rb s::R) w':=by
 cases s with
 | none=>
  go_enter Tryz.func30,Tryz.ntmps30;go_wp2_with(first|go_at_call 28;refine(Fh7 D rb none W _ _ hS).mono ?_;clear hS;rintro e w ⟨rfl,hS⟩);go_ret;exact⟨rfl,hS⟩
 | some l=>
  cases l with
  | nil=>
   go_enter Tryz.func30,Tryz.ntmps30;go_wp2_with(first|refine zl1 hS ?_|go_at_call 28;refine(Fh7 D rb (some []) W _ _ hS).mono ?_;clear hS;rintro e w ⟨rfl,hS1⟩;obtain⟨v0,e0,hv,hS⟩:=G5 hS1;clear hS1;obtain⟨a0,c0,rfl,rfl,Hv⟩:=av4 hv;clear hv);go_ret;exact⟨rfl,l6 Hv.out hS⟩
  | cons x t=>
   have h0:decide (((x::t).length:Int)=0)=false:=by simp;omega
   go_enter Tryz.func30,Tryz.ntmps30;go_wp2_with(first|refine zl1 hS ?_|go_at_call 28;refine(Fh7 D rb (some (x::t)) W _ _ hS).mono ?_;clear hS;rintro e w ⟨rfl,hS1⟩;obtain⟨v0,e0,hv,hS⟩:=G5 hS1;clear hS1;obtain⟨a0,c0,rfl,rfl,Hv⟩:=av4 hv;clear hv);go_ret;refine⟨?_,l6 Hv.out hS⟩;simp[aJ4]
   try omega
def At(D:HP)(a:Option Addr)(c:Nat)(l:List Int):Prop:=(l=[]/\a=none/\c=0)\/(l=[]/\∃p,a=some p)\/∃g off,a=some ⟨g,off,none⟩/\Dat D g off l
theorem BK7(D:HP)(a:Option Addr)(c:Nat)(l:List Int)(h:At D a c l)(hl:l.length<=100000000)(W w:World)(R R':List HP)(ht:Take R D R')(hS:St W R w):
  Calls Tryz.prog 57 #[.slice a l.length c] w fun e w'=>∃v,e=.returned v/\St W (byR v l::R) w':=by
 rcases h with ⟨rfl,rfl,rfl⟩|⟨rfl,p,rfl⟩|⟨g,off,rfl,hD⟩
 ·go_enter Tryz.func57,Tryz.ntmps57;go_wp2_with(first|(with_reducible apply Co7);rfl;rfl;rfl;rfl;exact Tryz.underlying46;simp only[Option.isNone_some,Option.isNone_none];refine frS ?_);go_ret;exact⟨_,rfl,hS.rowNil⟩
 ·go_enter Tryz.func57,Tryz.ntmps57;go_wp2_with(first|(with_reducible apply Co7);rfl;rfl;rfl;rfl;exact Tryz.underlying46;simp only[Option.isNone_some,Option.isNone_none];refine frS ?_|(with_reducible apply Ci7 (n:=0) hS);rfl;rfl;(focus(simp only[fD,fI,fJ,Act.eval,fE,fF,fG,fH,fK];try rfl));exact esS;exact rsS;rfl;rfl;rfl;rfl;rfl;decide;clear hS;intro bv w hS;refine frS ?_|(with_reducible apply FF7 hS);rfl;rfl;rfl;rfl;exact esS;exact rsS;exact d7;refine frS ?_);go_ret;exact⟨_,rfl,hS⟩
 ·have hsrc:Src R (.slice (some ⟨g,off,none⟩) l.length c) l.length (u8s l):=Src.mk (hD _ _ ht);go_enter Tryz.func57,Tryz.ntmps57;go_wp2_with(first|(with_reducible apply Co7);rfl;rfl;rfl;rfl;exact Tryz.underlying46;simp only[Option.isNone_some,Option.isNone_none];refine frS ?_|(with_reducible apply Ci7 (n:=0) hS);rfl;rfl;(focus(simp only[fD,fI,fJ,Act.eval,fE,fF,fG,fH,fK];try rfl));exact esS;exact rsS;rfl;rfl;rfl;rfl;rfl;decide;clear hS;intro bv w hS;refine frS ?_|(with_reducible apply At7 hS);rfl;rfl;rfl;rfl;exact esS;exact rsS;rfl;decide;exact d7;exact hsrc.there;(focus(rw[ED7,Nat.mul_one]));exact Fe7 _;(focus(unfold maxLen;omega));(focus(omega));clear hS;intro v w hS;(have hv:=hS.rowVal;obtain⟨va,vc,rfl⟩:=hv);refine frS ?_);go_ret;refine⟨_,rfl,?_⟩;have h0:St W (row (.slice va (0+l.length) vc) 1 5 (0+l.length) (u8s ([]++l))::_) w:=hS;have h2:=CS7 (by rw[jN,Nat.zero_add]) h0;rw[jN]at h2;exact h2
theorem GF7(D:HP)(a:Option Addr)(c:Nat){n:Nat}(l:List Int)(h:At D a c l)(hl:l.length<=100000000)(hn:l.length=n)(W w:World)(R R':List HP)(ht:Take R D R')(hS:St W R w):
  Calls Tryz.prog 57 #[.slice a n c] w fun e w'=>∃v,e=.returned v/\St W (byR v l::R) w':=hn▸BK7 D a c l h hl W w R R' ht hS
theorem IE7{W w:World}{v:Value}{l:List Int}{R:List HP}(h:St W (byR v l::R) w):∃a c,v=.slice a l.length c/\rdV (byR (.slice a l.length c) l) (.slice a l.length c) false (some l):=by
 rcases h.rowOpen with ⟨rfl,h0,_,_⟩|⟨g,cap,junk,rfl,hn,hm,_,_,_⟩
 ·have hl:l=[]:=List.eq_nil_of_length_eq_zero h0;subst hl;exact⟨none,0,rfl,rfl,none,0,rfl,Nat.le_refl _,by decide,.inl ⟨rfl,rfl,rfl⟩⟩
 ·refine⟨_,_,rfl,rfl,_,_,rfl,hn,by unfold maxLen at hm;omega,?_⟩;by_cases h0:0<l.length
  ·exact .inr (.inr ⟨g,0,rfl,Dat.row h0⟩)
  ·exact .inr (.inl ⟨List.eq_nil_of_length_eq_zero (by omega),_,rfl⟩)
theorem GG7{D:HP}{a:Option Addr}{c:Nat}{l:List Int}(h:rdV D (.slice a l.length c) false (some l)):At D a c l:=by
 obtain⟨_,a2,c2,e,_,_,h⟩:=h
 cases e
 exact h
theorem GH7{D:HP}{a:Option Addr}{c:Nat}{l:List Int}(h:rdV D (.slice a l.length c) false (some l)):l.length<=c/\c<=9223372036854775807:=by
 obtain⟨_,a2,c2,e,h1,h2,_⟩:=h
 cases e
 exact⟨h1,h2⟩
theorem JV7(D:HP)(a:Option Addr)(c:Nat)(l:List Int)(h:At D a c l)(hl:l.length<=100000000)(W w:World)(R R':List HP)(ht:Take R D R')(hS:St W R w):
  Calls Tryz.prog 25 #[.slice a l.length c] w fun e w'=>∃v rb,e=.returned (.P rb)/\St W (rdG (byR v l) rb (some l)::byR v l::R) w':=by
 go_enter Tryz.func25,Tryz.ntmps25;go_wp2_with(first|go_at_call 57;refine(BK7 D a c l h hl W _ _ _ ht hS).mono ?_;clear hS;rintro e w ⟨v,rfl,hS⟩;(have hv:=hS.rowVal;obtain⟨va,vc,rfl⟩:=hv)|refine zbx hS ?_;clear hS;intro b w hS);go_ret;obtain⟨a1,c1,e1,hv⟩:=IE7 hS.drop
 cases e1
 exact⟨_,_,rfl,l6 hv hS⟩
theorem bB4{n:Int}{l:List Int}(h:¬(0<=n/\n<=l.length)):J8 n (some l)=([],none):=if_neg h
theorem bC4{m:Nat}{l:List Int}(h:m<=l.length):J8 (m:Int) (some l)=(l.take m,some (l.drop m)):=by unfold J8;simp only;rw[if_pos ⟨by omega,by omega⟩];simp
theorem JW7(D:HP)(rb:Nat)(s:RS)(n:Int)(hn : -9223372036854775808<=n/\n<=9223372036854775807)(hl:∀l,s=some l->l.length<=100000000)(W w:World)(R R':List HP)(ht:Take R D R')(hS:St W (rdG D rb s::R) w):
  Calls Tryz.prog 59 #[.P rb,.I n] w fun e w'=>∃v,e=.returned v/\St W (byR v (J8 n s).1::rdG D rb (J8 n s).2::R) w':=by
 cases s with
 | none=>
  rw[FE7];obtain⟨v0,e0,hv,hS1⟩:=G5 hS;clear hS hl;obtain⟨rfl,rfl⟩:=hv;have hS:=hS1;clear hS1;by_cases hlo:n<0
  ·go_enter Tryz.func59,Tryz.ntmps59;go_wp2_with(first|go_at_call 58;refine(H7 D rb none W _ _ (l6 ⟨rfl,rfl⟩ hS)).mono ?_;clear hS;rintro e w ⟨rfl,hS⟩);go_ret;exact⟨_,rfl,hS.rowNil⟩
  ·by_cases hhi:0<n
   ·go_enter Tryz.func59,Tryz.ntmps59;go_wp2_with(first|refine zl1 hS ?_|go_at_call 58;refine(H7 D rb none W _ _ (l6 ⟨rfl,rfl⟩ hS)).mono ?_;clear hS;rintro e w ⟨rfl,hS⟩);go_ret;exact⟨_,rfl,hS.rowNil⟩
   ·obtain rfl:n=0:=by omega
    clear hlo hhi hn;go_enter Tryz.func59,Tryz.ntmps59;go_wp2_with(first|refine zl1 hS ?_|go_at_call 57;refine(BK7 D none 0 [] (.inl ⟨rfl,rfl,rfl⟩) (by simp) W _ _ _ ht.tail hS).mono ?_;clear hS;rintro e w ⟨v,rfl,hS⟩;(have hv:=hS.rowVal;obtain⟨va,vc,rfl⟩:=hv)|refine zs1 hS ?_;clear hS;intro w hS);go_ret;exact⟨_,rfl,St.swap (l6 ⟨rfl,rfl⟩ hS.swap)⟩
 | some l=>
  have hll:=hl l rfl;clear hl;obtain⟨v0,e0,hv,hS1⟩:=G5 hS;clear hS;have hS:=hS1;clear hS1;obtain⟨a0,c0,rfl,rfl,Hv⟩:=av4 hv;clear hv;by_cases hlo:n<0
  ·rw[bB4 (by omega)];go_enter Tryz.func59,Tryz.ntmps59;go_wp2_with(first|go_at_call 58;refine(H7 D rb (some l) W _ _ (l6 Hv.out hS)).mono ?_;clear hS;rintro e w ⟨rfl,hS⟩);go_ret;exact⟨_,rfl,hS.rowNil⟩
  ·obtain⟨m,rfl⟩:∃m:Nat,n=m:=⟨n.toNat,by omega⟩
   by_cases hhi:m<=l.length
   ·rw[bC4 hhi];have hsl:=GG7 Hv.out;obtain⟨hcl,hcm⟩:=GH7 Hv.out;have hmc:m<=c0:=by omega
    have hd:decide ((l.length:Int)<(m:Int))=false:=by simp;omega
    rcases hsl with ⟨rfl,rfl,rfl⟩|⟨rfl,p,rfl⟩|⟨g,off,rfl,hD⟩
    ·obtain rfl:m=0:=by simpa using hhi
     go_enter Tryz.func59,Tryz.ntmps59;go_wp2_with(first|refine zl1 hS ?_|go_at_call 57;refine(BK7 D none 0 [] (.inl ⟨rfl,rfl,rfl⟩) (by simp) W _ _ _ ht.tail hS).mono ?_;clear hS;rintro e w ⟨v,rfl,hS⟩;(have hv:=hS.rowVal;obtain⟨va,vc,rfl⟩:=hv)|refine zs1 hS ?_;clear hS;intro w hS);go_ret;exact⟨_,rfl,St.swap (l6 Hv.out hS.swap)⟩
    ·obtain rfl:m=0:=by simpa using hhi
     by_cases hc0:c0=0
     ·subst hc0;go_enter Tryz.func59,Tryz.ntmps59;go_wp2_with(first|refine zl1 hS ?_|go_at_call 57;refine(BK7 D (some p) _ [] (.inr (.inl ⟨rfl,p,rfl⟩)) (by simp) W _ _ _ ht.tail hS).mono ?_;clear hS;rintro e w ⟨v,rfl,hS⟩;(have hv:=hS.rowVal;obtain⟨va,vc,rfl⟩:=hv)|refine zs1 hS ?_;clear hS;intro w hS);go_ret;exact⟨_,rfl,St.swap (l6 Hv.out hS.swap)⟩
     ·go_enter Tryz.func59,Tryz.ntmps59;go_wp2_with(first|refine zl1 hS ?_|go_at_call 57;refine(BK7 D (some p) _ [] (.inr (.inl ⟨rfl,p,rfl⟩)) (by simp) W _ _ _ ht.tail hS).mono ?_;clear hS;rintro e w ⟨v,rfl,hS⟩;(have hv:=hS.rowVal;obtain⟨va,vc,rfl⟩:=hv)|refine zs1 hS ?_;clear hS;intro w hS);go_ret;refine⟨_,rfl,St.swap (l6 (v:=.slice (some _) 0 c0) ⟨rfl,_,c0,rfl,Nat.zero_le _,hcm,.inr (.inl ⟨rfl,_,rfl⟩)⟩ hS.swap)⟩
    ·have hD1:=hD.take m;have hlm:(l.take m).length=m:=by rw[jT];omega
     have hld:(l.drop m).length=l.length-m:=List.length_drop ..;by_cases hc0:c0=m
     ·go_enter Tryz.func59,Tryz.ntmps59;go_wp2_with(first|refine zl1 hS ?_|go_at_call 57;refine(GF7 D (some ⟨g,off,none⟩) _ (l.take m) (.inr (.inr ⟨g,off,rfl,hD1⟩)) (by omega) hlm W _ _ _ ht.tail hS).mono ?_;clear hS;rintro e w ⟨v,rfl,hS⟩;(have hv:=hS.rowVal;obtain⟨va,vc,rfl⟩:=hv);rw[hlm]at hS|refine zs1 hS ?_;clear hS;intro w hS);go_ret;refine⟨_,rfl,St.swap (l6 ?_ hS.swap)⟩;refine⟨rfl,_,_,by rw[hld],by rw[hld];omega,by omega,.inr (.inl ⟨List.eq_nil_of_length_eq_zero (by rw[hld];omega),_,rfl⟩)⟩
     ·go_enter Tryz.func59,Tryz.ntmps59;go_wp2_with(first|refine zl1 hS ?_|go_at_call 57;refine(GF7 D (some ⟨g,off,none⟩) _ (l.take m) (.inr (.inr ⟨g,off,rfl,hD1⟩)) (by omega) hlm W _ _ _ ht.tail hS).mono ?_;clear hS;rintro e w ⟨v,rfl,hS⟩;(have hv:=hS.rowVal;obtain⟨va,vc,rfl⟩:=hv);rw[hlm]at hS|refine zs1 hS ?_;clear hS;intro w hS);go_ret;refine⟨_,rfl,St.swap (l6 ?_ hS.swap)⟩;refine⟨rfl,_,_,by rw[hld],by rw[hld];omega,by omega,.inr (.inr ⟨_,_,rfl,hD.drop m⟩)⟩
   ·rw[bB4 (by omega)];have hd:decide ((l.length:Int)<(m:Int))=true:=by simp;omega
    go_enter Tryz.func59,Tryz.ntmps59;go_wp2_with(first|refine zl1 hS ?_|go_at_call 58;refine(H7 D rb (some l) W _ _ (l6 Hv.out hS)).mono ?_;clear hS;rintro e w ⟨rfl,hS⟩);go_ret;exact⟨_,rfl,hS.rowNil⟩
end Go.Proofs.YtjcfifkjbaffnaaGreat
end
