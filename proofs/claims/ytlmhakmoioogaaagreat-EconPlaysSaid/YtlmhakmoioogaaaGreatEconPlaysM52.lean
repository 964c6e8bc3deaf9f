/-
  The document's economy as bytes. For every economy behind requests.
-/
import Derived.Test.YtlmhakmoioogaaaGreatEconPlaysM5
import Derived.Test.YtlmhakmoioogaaaGreatEconPlaysM32
import Derived.Test.YtlmhakmoioogaaaGreatEconPlaysM48
import Derived.Test.YtlmhakmoioogaaaGreatEconPlaysM51
set_option maxHeartbeats 16000000
set_option maxRecDepth 100000
set_option linter.unusedSimpArgs false
set_option linter.unusedVariables false
section
namespace Go.Proofs.YtlmhakmoioogaaaGreat
open Go.RowKit Go.Sl
theorem bytes8r(v:Value)(l:List Int)(hl:l.length≤60000000)(W w:World)(R:List HP)(hS:St W (byR v l::R) w):
  Calls Tryz.prog 141 #[v] w fun e w'=>∃v',e=.returned v'∧St W (byR v' (encR l)::R) w':=by
 obtain⟨a,c,rfl⟩:=hS.rowVal
 have hln:=Am7 (l.length:Int)
 go_enter Tryz.func141,Tryz.ntmps141
 go_wp2_with(first|(go_at_call 140;refine(num8 _ ⟨by omega,by omega⟩ W _ _ hS).mono ?_;clear hS;rintro e w ⟨vn,rfl,hS⟩;(have hv:=hS.rowVal;obtain⟨na,nc,rfl⟩:=hv))|((with_reducible apply Ae7 hS);(with_reducible rfl);rfl;rfl;rfl;(exact esS);(exact rsS);rfl;decide;(exact takeS);exact(St.src (by decide) hS.drop).there;(focus(rw[AL7,Nat.mul_one]));(exact AY7 _);(focus(unfold maxLen;omega));(focus(omega));clear hS;intro v w hS;(refine frS ?_)))
 go_ret
 refine⟨v,rfl,?_⟩
 have h0:St W (row v 1 5 ((numB l.length).length+l.length) (u8s (numB l.length)++u8s l)::_) w:=hS
 rw[←Aw7]at h0
 unfold encR
 exact(AD7 (by rw[List.length_append]) h0).s _
theorem Ns7{vb N:Nat}{V:Vs}(hp:PsOk V.ps)(hw:PsW V.ps N)(hN:N≤1000000)(hmay:∀x∈V.L,MayP x)(hl32:V.L.length≤32)(hn0:1≤V.n)(hn1:V.n≤1099511627777){W w:World}{R:List HP}(hS:St W (dvP vb V::R) w):
  Calls Tryz.prog 142 #[.pointer (some ⟨vb,0,none⟩)] w fun e w'=>∃v,e=.returned v∧St W (byR v (encV V.ps V.L V.n)::dvP vb V::R) w':=by
 obtain⟨xB,hS0⟩:=dvOpen hS
 obtain⟨xv,hS1⟩:=xvOpen hS0
 obtain⟨la,lc,last,hlast,hS2⟩:=xkOpen (hS1.s (xkP xB V.L V.n::blk vb _ _::hdR _ (hdL V.ps)::R))
 clear hS hS0 hS1
 obtain⟨ha,hc,rfl⟩:=hS2.drop.drop.drop.rowVal
 refine(MI7 vb xB ha la hc lc last V.ps V.L V.n hp hw hN hmay hl32 hn0 hn1 W w R hS2).mono ?_
 rintro e w' ⟨v,rfl,hS⟩
 refine⟨v,rfl,?_⟩
 have hS3:=xkShut hlast (hS.s (blk xB _ _::pileR _ V.L::blk vb _ _::hdR _ (hdL V.ps)::byR v _::R))
 exact(dvShut (xvShut (hS3.s (blk vb _ _::hdR _ (hdL V.ps)::xkP xB V.L V.n::byR v _::R)))).swap
def fKv(x:ByteArray×(Nat×Vs)):List Int:=strE x.1++encR (encV x.2.2.ps x.2.2.L x.2.2.n)
def fSe(x:Int×(Int×Rpl)):List Int:=numsB [x.1,x.2.1]++encR (rpB x.2.2)
def fAr(x:(Int×Int)×Unit):List Int:=numsB [x.1.1,x.1.2]
theorem Ew7{α β:Type}{f g:α→List β}:∀{l:List α},(∀x∈l,f x=g x)→l.flatMap f=l.flatMap g
 | [],_=>rfl
 | x::l,h=>by rw[List.flatMap_cons,List.flatMap_cons,h x (List.mem_cons_self ..),Ew7 fun y hy=>h y (List.mem_cons_of_mem _ hy)]
theorem Nt7{d:Ec}{D:Ev}(hd:stripE D=d.vs)(hn:(d.vs.map (·.1)).Nodup):D.flatMap fKv=(d.vs.map (·.1)).flatMap (enK d):=by
 rw[←hd,Bk7,List.flatMap_map]
 refine Ew7 fun x hx=>?_
 have h1:(x.1,x.2.2)∈d.vs:=by rw[←hd];exact List.mem_map.2 ⟨x,hx,rfl⟩
 have h2:atV d x.1=x.2.2:=by unfold atV;rw[Bh7 hn h1];rfl
 unfold fKv enK
 rw[h2]
 unfold strE encR
 rw[AE7]
theorem QA7{d:Ec}(hn:(d.ss.map (·.1)).Nodup):d.ss.flatMap fSe=(d.ss.map (·.1)).flatMap (enS d):=by
 rw[List.flatMap_map]
 refine Ew7 fun x hx=>?_
 unfold fSe enS
 rw[Bh7 (v:=x.2) hn hx]
 rfl
theorem QB7(d:Ec):d.ar.flatMap fAr=(d.ar.map (·.1)).flatMap enA:=by
 rw[List.flatMap_map]
 rfl
end Go.Proofs.YtlmhakmoioogaaaGreat
end
