/-
  JudgeTotals.
-/
import Derived.Test.YtienbkdjkjbelaaGreatJuTM5
import Derived.Test.YtienbkdjkjbelaaGreatJuTM47
set_option maxHeartbeats 16000000
set_option maxRecDepth 100000
set_option linter.unusedSimpArgs false
set_option linter.unusedVariables false
section
namespace Go.Proofs.YtienbkdjkjbelaaGreat
open Go.RowKit Go.Sl
theorem Ij7{w:World}:∀{ps:List (Value×List Opn)},(∀p∈ps,C8 Opn.cells 12 w p.1 p.2)->(ps.flatMap fun p=>[p.1]).all (·.oneCell')=true
 | [],_=>rfl
 | p::ps,h=>by
  obtain⟨a,c,e,_⟩:=h p (List.mem_cons_self ..);have h2:=Ij7 fun x hx=>h x (List.mem_cons_of_mem p hx)
  rw[List.flatMap_cons,List.all_append,h2,e];rfl
theorem RA7{V:World}{ps:List (Value×List Opn)}{ua:Option Addr}{uc:Nat}(h:∀i (h:i<ps.length), ∃b off,ua=some ⟨b,off,none⟩/\∀(j:Nat) (u:Value),([ps[i].1]:List Value)[j]? = some u->V.cell? ⟨b,off+i*1+j,none⟩=some u){K:List HP}(hm:Mem (Old V) K):
  (ps.length=0/\(ps.flatMap fun p=>[p.1])=[])\/Src K (.slice ua ps.length uc) ps.length (ps.flatMap fun p=>[p.1]):=by
 by_cases h0:ps.length=0
 ·refine .inl ⟨h0,?_⟩;rw[List.length_eq_zero_iff]at h0;rw[h0];rfl
 ·obtain⟨b,off,rfl,_⟩:=h 0 (by omega);refine .inr (Src.mk fun j u hj=>i6.old hm ?_);have hl:j<ps.length:=by have:=(List.getElem?_eq_some_iff.1 hj).1;rwa [Ab7 (enc:=fun p:Value×List Opn=>[p.1]) (k:=1) (fun _=>rfl),Nat.mul_one]at this
  obtain⟨b2,off2,e,hc⟩:=h j hl
  injection e with e
  injection e with e1 e2
  subst e1 e2;have h3:=AS7 (enc:=fun p:Value×List Opn=>[p.1]) (k:=1) (fun _=>rfl) ps [] j hl 0 (by decide);rw[List.append_nil]at h3
  have h4:(ps.flatMap fun p=>[p.1])[j]? = some ps[j].1:=by
   have:j*1+0=j:=by omega
   rw[this]at h3;rw[h3];rfl
  rw[h4]at hj;have:=hc 0 ps[j].1 rfl;rw[show off+j*1+0=off+j by omega]at this;rw[this];exact hj
abbrev tB47a:List Nat:=[0,0,3,7,15,15,63,127,255,511,511,1535,4095,511,511,16895,65535,131071,262143,524287,1048575,2097151,4194303]
abbrev tB47b:List Nat:=[0,1,3,0,8,31,63,127,127,0,767,2047]
theorem totalsJ_spec{yss:List (List Opn)}{xs:List Opn}{zs:List Zj}{u v zv:Value}{ver nxt:Int}{V:World}(hu:at4 Opn.cells 12 V u yss)(hby:yss.length*24<=140737488351232)(hv:C8 Opn.cells 12 V v xs)(hz:C8 Zj.cells 9 V zv zs)(W w:World)(Lr:List HP)(hS:St W (Old V::Lr) w):
  Calls Tryz.prog 5 #[u,v,.agg #[.I ver,.I nxt,zv]] w fun e w'=>e=.returned (.bool true)/\St W (Old V::Lr) w':=by
 have Hv:=jH hv;have Hz:=jH hz;obtain⟨ps,rfl,⟨ua,ucap,rfl,hu63,huc⟩,hpu⟩:=hu;obtain⟨wa,wc,rfl,hw63,_⟩:=hv;obtain⟨za,zc,rfl,hz63,hzc⟩:=hz;have Hpu:=jH hpu;have Hone:=jH (Ij7 hpu);have Hnl:=jH (show(ps.flatMap fun p=>[p.1]).length=ps.length*1 from Ab7 (enc:=fun p:Value×List Opn=>[p.1]) (k:=1) (fun _=>rfl) ps);have Hsrc:=jH (fun(K:List HP) (hm:Mem (Old V) K)=>RA7 (uc:=ucap) huc hm);have Hzc:=jH hzc;rw[jM]at hby;clear hpu huc hzc;go_enter Tryz.func5,Tryz.ntmps5;go_wp2_with(first|go_big_skip|refine zbx hS ?_;clear hS;intro bM w hS|(with_reducible apply Be7 hS);rfl;rfl;(focus(simp only[fD,fI,fJ,Act.eval,fE,fF,fG,fH,fK];try rfl));exact esS;exact rsS;rfl;rfl;rfl;rfl;rfl;decide;clear hS;intro vr w hS;refine frS ?_|(with_reducible apply La7 (ua:=ua) (m:=ps.length) (c:=ucap) (news:=ps.flatMap fun p=>[p.1]) hS);rfl;rfl;rfl;rfl;exact esS;exact rsS;rfl;decide;exact i7;exact Hsrc.out _ (by exact aR4);exact Hnl.out;exact Hone.out;unfold maxLen;omega;omega;clear hS;intro vq w hS;refine frS ?_);have hS0:=hS.s (row vq 1 22 (1+ps.length) ([.slice wa xs.length wc]++ps.flatMap fun p=>[p.1])::blk bM [.I ver,.I nxt,.slice za zs.length zc] 58::Old V::Lr);have hS1:St W (row vq 1 22 (((.slice wa xs.length wc,xs)::ps:List (Value×List Opn)).length) (((.slice wa xs.length wc,xs)::ps:List (Value×List Opn)).flatMap fun q=>[q.1])::blk bM [.I ver,.I nxt,.slice za zs.length zc] 58::Old V::Lr) w:=by rw[jC,Nat.add_comm];exact hS0
 have hvv:=QQ7 hS1 (fun q hq=>by
  rcases List.mem_cons.1 hq with rfl|hq
  ·exact Hv.out.old hS1 (.tail (.tail .head))
  ·exact(Hpu.out q hq).old hS1 (.tail (.tail .head)))
 have Hvv:=jH hvv;have hS:=hS1.drop;clear hS0 hS1 hvv;go_wp2_with(first|go_big_skip|go_at_call 15;refine(Pi7 Hvv.out hS).mono ?_;clear hS;rintro ex w (⟨rfl,hS⟩|⟨va,vb,es,ds,rfl,he,hd,h150,h5,hS⟩)|refine zlN hS ?_)
 ·go_ret;exact⟨rfl,hS.drop⟩
 cases es with
 | nil=>cases he
 | cons p0 es=>
 cases ds with
 | nil=>cases hd
 | cons q0 ds=>
 obtain⟨b0,x0⟩:=p0;obtain⟨c0,y0⟩:=q0;simp only[List.map_cons,List.cons.injEq]at he hd;obtain⟨he0,he⟩:=he;obtain⟨hd0,hd⟩:=hd;obtain rfl:xs=x0:=he0.symm;obtain rfl:xs=y0:=hd0.symm;have hx0:xs.length<=150:=h150 (b0,xs) (List.mem_cons_self ..);have hes:∀p∈es,p.2.length<=150:=fun p hp=>h150 p (List.mem_cons_of_mem _ hp)
 have hds:∀p∈ds,p.2.length<=150:=fun p hp=>by have h1:p.2∈ds.map (·.2):=List.mem_map.2 ⟨p,hp,rfl⟩;rw[hd,<-he]at h1;obtain⟨q,hq,e⟩:=List.mem_map.1 h1;rw[<-e];exact hes q hq
 have hel:es.length=ps.length:=by have:=congrArg List.length he;simpa using this
 have hdl:ds.length=ps.length:=by have:=congrArg List.length hd;simpa using this
 rw[jM,jC]at h5;have hes5:es.length<=5:=by omega
 have hds5:ds.length<=5:=by omega
 obtain⟨⟨f0,f1,f2,f3⟩,hf⟩:∃z,al4 (aL4 xs (ps.map (·.2)))=z:=⟨_,rfl⟩
 obtain⟨fb,hfb⟩:∃z,(B5 (aL4 xs (ps.map (·.2))) it0).isSome=z:=⟨_,rfl⟩
 obtain⟨pb,hpb⟩:∃z,aq4 zs (ps.map (·.2))=z:=⟨_,rfl⟩
 have Hfe:=jH (show al4 (aL4 xs (es.map (·.2)))=⟨f0,f1,f2,f3⟩by rw[he];exact hf);have Hfbe:=jH (show(B5 (aL4 xs (es.map (·.2))) it0).isSome=fb by rw[he];exact hfb);have Hfd:=jH (show al4 (aL4 xs (ds.map (·.2)))=⟨f0,f1,f2,f3⟩by rw[hd];exact hf);have Hfbd:=jH (show(B5 (aL4 xs (ds.map (·.2))) it0).isSome=fb by rw[hd];exact hfb);have Hpbe:=jH (show aq4 zs (es.map (·.2))=pb by rw[he];exact hpb);have Hpbd:=jH (show aq4 zs (ds.map (·.2))=pb by rw[hd];exact hpb);have Hes:=jH hes;have Hds:=jH hds;obtain⟨aa,ac,rfl⟩:=hS.rowVal;obtain⟨ba,bc,rfl⟩:=hS.drop.rowVal;obtain⟨⟨ga,rfl⟩,hacap,hacn⟩:=St.rowAddr hS (by rw[jC];omega);obtain⟨⟨gb,rfl⟩,hbcap,hbcn⟩:=St.rowAddr hS.drop (by rw[jC];omega);clear he hd hf hfb hpb hes hds h150 hel hdl;go_wp2_with(first|go_big_skip|refine zlN hS ?_|(go_at_call 16;refine(Ny7 (Hz.out.old hS (by exact aR4)) hS).mono ?_;clear hS;rintro ex w ⟨hv9,h60,rfl,hS⟩;cases hv9))
 rotate_left
 ·go_ret;exact⟨rfl,hS.s _⟩
 have hz60:zs.length<=60:=by first|exact h60 rfl|exact h60 trivial
 clear h60;have h1:St W (ecX (b0,xs)::k8 ecX es::k8 w7 ((c0,xs)::ds)::row (.S ga ((b0,xs)::es).length ac) 1 66 ((b0,xs)::es).length (((b0,xs)::es).flatMap ptC)::row (.S gb ((c0,xs)::ds).length bc) 1 49 ((c0,xs)::ds).length (((c0,xs)::ds).flatMap ptC)::blk bM [.I ver,.I nxt,.slice za zs.length zc] 58::Old V::Lr) w:=St.split (hS.s (k8 ecX ((b0,xs)::es)::k8 w7 ((c0,xs)::ds)::row (.S ga ((b0,xs)::es).length ac) 1 66 ((b0,xs)::es).length (((b0,xs)::es).flatMap ptC)::row (.S gb ((c0,xs)::ds).length bc) 1 49 ((c0,xs)::ds).length (((c0,xs)::ds).flatMap ptC)::blk bM [.I ver,.I nxt,.slice za zs.length zc] 58::Old V::Lr));have h2:St W (w7 (c0,xs)::k8 w7 ds::ecX (b0,xs)::k8 ecX es::row (.S ga ((b0,xs)::es).length ac) 1 66 ((b0,xs)::es).length (((b0,xs)::es).flatMap ptC)::row (.S gb ((c0,xs)::ds).length bc) 1 49 ((c0,xs)::ds).length (((c0,xs)::ds).flatMap ptC)::blk bM [.I ver,.I nxt,.slice za zs.length zc] 58::Old V::Lr) w:=St.split (h1.s (k8 w7 ((c0,xs)::ds)::ecX (b0,xs)::k8 ecX es::row (.S ga ((b0,xs)::es).length ac) 1 66 ((b0,xs)::es).length (((b0,xs)::es).flatMap ptC)::row (.S gb ((c0,xs)::ds).length bc) 1 49 ((c0,xs)::ds).length (((c0,xs)::ds).flatMap ptC)::blk bM [.I ver,.I nxt,.slice za zs.length zc] 58::Old V::Lr));have h3:St W (s8 c0 (D6 xs ec0)::k8 w7 ds::ecP b0 (l6 xs ec0)::k8 ecX es::row (.S ga (es.length+1) ac) 1 66 (es.length+1) (((b0,xs)::es).flatMap ptC)::row (.S gb (ds.length+1) bc) 1 49 (ds.length+1) (((c0,xs)::ds).flatMap ptC)::blk bM [.I ver,.I nxt,.slice za zs.length zc] 58::Old V::Lr) w:=h2;clear hS h1 h2
 have hS:=h3.s (ecP b0 (l6 xs ec0)::k8 ecX es::s8 c0 (D6 xs ec0)::k8 w7 ds::row (.S ga (es.length+1) ac) 1 66 (es.length+1) (((b0,xs)::es).flatMap ptC)::row (.S gb (ds.length+1) bc) 1 49 (ds.length+1) (((c0,xs)::ds).flatMap ptC)::blk bM [.I ver,.I nxt,.slice za zs.length zc] 58::Old V::Lr);clear h3;have hca:∀{K K':List HP},Take K (row (.S ga (es.length+1) ac) 1 66 (es.length+1) (((b0,xs)::es).flatMap ptC)) K'->i6 K ga 0 (.P b0):=fun hu=>i6.rowM hu rfl
 have hcb:∀{K K':List HP},Take K (row (.S gb (ds.length+1) bc) 1 49 (ds.length+1) (((c0,xs)::ds).flatMap ptC)) K'->i6 K gb 0 (.P c0):=fun hu=>i6.rowM hu rfl
 have hna:∀{K K':List HP},Take K (row (.S ga (es.length+1) ac) 1 66 (es.length+1) (((b0,xs)::es).flatMap ptC)) K'->∀i (h:i<es.length), ∃b off,(if ac=1 then some (⟨ga,0,none⟩:Addr)else some ⟨ga,1,none⟩)=some ⟨b,off,none⟩/\i6 K b (off+i) (.pointer (some ⟨es[i].1,0,none⟩)):=fun hu i hi=>by rw[if_neg (by rw[jC]at hacn;omega)];refine⟨ga,1,rfl,i6.rowM hu ?_⟩;have:=AS7 (enc:=ptC) (k:=1) Nv7 es [] i hi 0 (by decide);rw[List.append_nil,Nat.mul_one,Nat.add_zero]at this;rw[List.flatMap_cons,Nat.add_comm];exact this
 have hnb:∀{K K':List HP},Take K (row (.S gb (ds.length+1) bc) 1 49 (ds.length+1) (((c0,xs)::ds).flatMap ptC)) K'->∀i (h:i<ds.length), ∃b off,(if bc=1 then some (⟨gb,0,none⟩:Addr)else some ⟨gb,1,none⟩)=some ⟨b,off,none⟩/\i6 K b (off+i) (.pointer (some ⟨ds[i].1,0,none⟩)):=fun hu i hi=>by rw[if_neg (by rw[jC]at hbcn;omega)];refine⟨gb,1,rfl,i6.rowM hu ?_⟩;have:=AS7 (enc:=ptC) (k:=1) Nv7 ds [] i hi 0 (by decide);rw[List.append_nil,Nat.mul_one,Nat.add_zero]at this;rw[List.flatMap_cons,Nat.add_comm];exact this
 have hzr:∀{K:List HP},Mem (Old V) K->∀i (h:i<zs.length), ∃b off,za=some ⟨b,off,none⟩/\d8 K b (off+i*9) zs[i].cells:=fun hm i hi=>by obtain⟨b,off,ea,hc⟩:=Hzc.out i hi;exact⟨b,off,ea,fun j u hj=>i6.old hm (hc j u hj)⟩
 have heq:((f0==f0)&&((f1==f1)&&((f2==f2)&&(f3==f3))))=true:=by simp
 by_cases hac:ac=1
 all_goals by_cases hbc:bc=1
 ·
  have haE:∀{K K':List HP},Take K (row (.S ga (es.length+1) ac) 1 66 (es.length+1) (((b0,xs)::es).flatMap ptC)) K'->∀i (h:i<es.length), ∃b off,(some ⟨ga,0,none⟩:Option Addr)=some ⟨b,off,none⟩/\i6 K b (off+i) (.pointer (some ⟨es[i].1,0,none⟩)):=fun hu i hi=>absurd hi (by rw[jC]at hacn;omega)
  have hbE:∀{K K':List HP},Take K (row (.S gb (ds.length+1) bc) 1 49 (ds.length+1) (((c0,xs)::ds).flatMap ptC)) K'->∀i (h:i<ds.length), ∃b off,(some ⟨gb,0,none⟩:Option Addr)=some ⟨b,off,none⟩/\i6 K b (off+i) (.pointer (some ⟨ds[i].1,0,none⟩)):=fun hu i hi=>absurd hi (by rw[jC]at hbcn;omega)
  subst hac;subst hbc;refine rf3 tB47b (fun i=>i==9) (fun i=>if i==5 then some (.tuple #[.agg #[.I f0,.I f1,.I f2,.I f3],.bool fb])else none) [⟨some 9,some 10,fun nd=>i8 (nd 9) [.I 0,.I 0,.I 0,.I 0] 34⟩,⟨some 10,none,fun nd=>i8 (nd 9) [.I f0,.I f1,.I f2,.I f3] 34⟩] [none,none,none,none,none,none,none,none] hS ?_;clear hS;intro nd
  iterate 2 (refine cR ?_)
  (refine zc1 ?_ (hc:=by(intro F;exact hca (by exact A6))))
  iterate 2 (refine cR ?_)
  (refine zcv ?_ (hs:=by(intro F w hS;(try clear hS0);exact DR7 hx0 Hes.out hes5 Hfe.out Hfbe.out .head .head (haE (.tail (.tail .head))) hS)));clear hna
  iterate 3 (refine cR ?_)
  (refine zca ?_);refine zct ?_;refine cR ?_;refine Ad7 ?_;intro w hS;have hS2:St W [i8 (nd 9) _ _,ecP b0 _,k8 ecX es,s8 c0 _,k8 w7 ds,row _ 1 _ _ _,row _ 1 _ _ _,blk bM _ _,Old V,sats Lr] w:=hS;clear hS;have hS3:=hS2.unpack [_,_,_,_,_,_,_,_,_];clear hS2;simp only[jK,jN]at hS3;have hS:=hS3;clear hS3;generalize nd 9=n9 at *;have h1:=hS.ptr;clear hS;obtain⟨b10,rfl,hS⟩:=h1;clear nd;go_wp2_with fail;refine rf3 tB47b (fun i=>i==9) (fun i=>if i==5 then some (.tuple #[.agg #[.I f0,.I f1,.I f2,.I f3],.bool fb])else none) [⟨some 9,some 10,fun nd=>i8 (nd 9) [.I 0,.I 0,.I 0,.I 0] 34⟩,⟨some 10,none,fun nd=>i8 (nd 9) [.I f0,.I f1,.I f2,.I f3] 34⟩] [none,none,none,none,none,none,none,none,none] hS ?_;clear hS;intro nd
  iterate 2 (refine cR ?_)
  (refine zc1 ?_ (hc:=by(intro F;exact hcb (.tail (.tail (.tail (.tail (.tail (.tail .head)))))))))
  iterate 2 (refine cR ?_)
  (refine zcv ?_ (hs:=by(intro F w hS;(try clear hS0);exact DS7 hx0 Hds.out hds5 Hfd.out Hfbd.out (.tail (.tail (.tail .head))) (.tail (.tail (.tail .head))) (hbE (.tail (.tail (.tail (.tail .head))))) hS)));clear hnb
  iterate 3 (refine cR ?_)
  (refine zca ?_);refine zct ?_;refine cR ?_;refine Ad7 ?_;intro w hS;have hS2:St W [i8 (nd 9) _ _,blk b10 _ _,ecP b0 _,k8 ecX es,s8 c0 _,k8 w7 ds,row _ 1 _ _ _,row _ 1 _ _ _,blk bM _ _,Old V,sats Lr] w:=hS;clear hS;have hS3:=hS2.unpack [_,_,_,_,_,_,_,_,_,_];clear hS2;simp only[jK,jN]at hS3;have hS:=hS3;clear hS3;generalize nd 9=n9 at *;have h1:=hS.ptr;clear hS;obtain⟨b12,rfl,hS⟩:=h1;clear nd;go_wp2_with fail
  cases fb
  all_goals cases pb
  case false.false=>
   refine rf3 tB47a (fun _=>false) (fun i=>if i==12 then some (.bool false)else if i==16 then some (.bool false)else if i==20 then some (.bool true)else none) [] [none,none,none,none,none,none,none,none,none,none] hS ?_;clear hS;intro nd
   iterate 2 (refine zcN ?_)
   (apply Bo7;rfl;kernel_rfl;rfl;rfl;rfl;rfl;kernel_rfl;exact eqI _ _ _ _ _ _ _ _;rw[heq];refine frS ?_)
   iterate 6 (refine cR ?_)
   (refine zcN ?_ (vs:=[.I ver,.I nxt,.slice za zs.length zc]) (hc:=by(intro F;exact d8.there (d8.there (d8.there (d8.there (d8.there (d8.there (d8.there (d8.there (d8.whole)))))))))))
   iterate 2 (refine cR ?_)
   (refine zcv ?_ (hs:=by(intro F w hS;(try clear hS0);exact Au7 Hes.out hes5 hz60 Hpbe.out (.tail (.tail (.tail .head))) (haE (.tail (.tail (.tail (.tail (.tail .head)))))) (hzr (.tail (.tail (.tail (.tail (.tail (.tail (.tail (.tail .head))))))))) hS)));refine zcN ?_ (vs:=[.I ver,.I nxt,.slice za zs.length zc]) (hc:=by(intro F;exact d8.there (d8.there (d8.there (d8.there (d8.there (d8.there (d8.there (d8.there (d8.whole))))))))))
   iterate 2 (refine cR ?_)
   (refine zcv ?_ (hs:=by(intro F w hS;(try clear hS0);exact Av7 Hds.out hds5 hz60 Hpbd.out (.tail (.tail (.tail (.tail (.tail .head))))) (hbE (.tail (.tail (.tail (.tail (.tail (.tail .head))))))) (hzr (.tail (.tail (.tail (.tail (.tail (.tail (.tail (.tail .head))))))))) hS)))
   iterate 3 (refine cR ?_)
   (refine zcv ?_ (hs:=by(intro F w hS;(try clear hS0);exact Aq7 W w _ hS)))
   iterate 2 (refine cR ?_)
   refine Ad7 ?_;intro w hS;have hS2:St W [blk b12 _ _,blk b10 _ _,ecP b0 _,k8 ecX es,s8 c0 _,k8 w7 ds,row _ 1 _ _ _,row _ 1 _ _ _,blk bM _ _,Old V,sats Lr] w:=hS;have hS3:=hS2.unpack [_,_,_,_,_,_,_,_,_,_];simp only[jK,jN]at hS3;clear hS hS2;go_wp2_with fail;go_ret;exact⟨rfl,hS3.s _⟩
  case false.true=>
   refine rf3 tB47a (fun _=>false) (fun i=>if i==12 then some (.bool true)else if i==16 then some (.bool true)else if i==20 then some (.bool true)else none) [] [none,none,none,none,none,none,none,none,none,none] hS ?_;clear hS;intro nd
   iterate 2 (refine zcN ?_)
   (apply Bo7;rfl;kernel_rfl;rfl;rfl;rfl;rfl;kernel_rfl;exact eqI _ _ _ _ _ _ _ _;rw[heq];refine frS ?_)
   iterate 6 (refine cR ?_)
   (refine zcN ?_ (vs:=[.I ver,.I nxt,.slice za zs.length zc]) (hc:=by(intro F;exact d8.there (d8.there (d8.there (d8.there (d8.there (d8.there (d8.there (d8.there (d8.whole)))))))))))
   iterate 2 (refine cR ?_)
   (refine zcv ?_ (hs:=by(intro F w hS;(try clear hS0);exact Au7 Hes.out hes5 hz60 Hpbe.out (.tail (.tail (.tail .head))) (haE (.tail (.tail (.tail (.tail (.tail .head)))))) (hzr (.tail (.tail (.tail (.tail (.tail (.tail (.tail (.tail .head))))))))) hS)));refine zcN ?_ (vs:=[.I ver,.I nxt,.slice za zs.length zc]) (hc:=by(intro F;exact d8.there (d8.there (d8.there (d8.there (d8.there (d8.there (d8.there (d8.there (d8.whole))))))))))
   iterate 2 (refine cR ?_)
   (refine zcv ?_ (hs:=by(intro F w hS;(try clear hS0);exact Av7 Hds.out hds5 hz60 Hpbd.out (.tail (.tail (.tail (.tail (.tail .head))))) (hbE (.tail (.tail (.tail (.tail (.tail (.tail .head))))))) (hzr (.tail (.tail (.tail (.tail (.tail (.tail (.tail (.tail .head))))))))) hS)))
   iterate 3 (refine cR ?_)
   (refine zcv ?_ (hs:=by(intro F w hS;(try clear hS0);exact Aq7 W w _ hS)))
   iterate 2 (refine cR ?_)
   refine Ad7 ?_;intro w hS;have hS2:St W [blk b12 _ _,blk b10 _ _,ecP b0 _,k8 ecX es,s8 c0 _,k8 w7 ds,row _ 1 _ _ _,row _ 1 _ _ _,blk bM _ _,Old V,sats Lr] w:=hS;have hS3:=hS2.unpack [_,_,_,_,_,_,_,_,_,_];simp only[jK,jN]at hS3;clear hS hS2;go_wp2_with fail;go_ret;exact⟨rfl,hS3.s _⟩
  case true.false=>
   refine rf3 tB47a (fun _=>false) (fun i=>if i==12 then some (.bool false)else if i==16 then some (.bool false)else if i==20 then some (.bool true)else none) [] [none,none,none,none,none,none,none,none,none,none] hS ?_;clear hS;intro nd
   iterate 2 (refine zcN ?_)
   (apply Bo7;rfl;kernel_rfl;rfl;rfl;rfl;rfl;kernel_rfl;exact eqI _ _ _ _ _ _ _ _;rw[heq];refine frS ?_)
   iterate 6 (refine cR ?_)
   (refine zcN ?_ (vs:=[.I ver,.I nxt,.slice za zs.length zc]) (hc:=by(intro F;exact d8.there (d8.there (d8.there (d8.there (d8.there (d8.there (d8.there (d8.there (d8.whole)))))))))))
   iterate 2 (refine cR ?_)
   (refine zcv ?_ (hs:=by(intro F w hS;(try clear hS0);exact Au7 Hes.out hes5 hz60 Hpbe.out (.tail (.tail (.tail .head))) (haE (.tail (.tail (.tail (.tail (.tail .head)))))) (hzr (.tail (.tail (.tail (.tail (.tail (.tail (.tail (.tail .head))))))))) hS)));refine zcN ?_ (vs:=[.I ver,.I nxt,.slice za zs.length zc]) (hc:=by(intro F;exact d8.there (d8.there (d8.there (d8.there (d8.there (d8.there (d8.there (d8.there (d8.whole))))))))))
   iterate 2 (refine cR ?_)
   (refine zcv ?_ (hs:=by(intro F w hS;(try clear hS0);exact Av7 Hds.out hds5 hz60 Hpbd.out (.tail (.tail (.tail (.tail (.tail .head))))) (hbE (.tail (.tail (.tail (.tail (.tail (.tail .head))))))) (hzr (.tail (.tail (.tail (.tail (.tail (.tail (.tail (.tail .head))))))))) hS)))
   iterate 3 (refine cR ?_)
   (refine zcv ?_ (hs:=by(intro F w hS;(try clear hS0);exact Aq7 W w _ hS)))
   iterate 2 (refine cR ?_)
   refine Ad7 ?_;intro w hS;have hS2:St W [blk b12 _ _,blk b10 _ _,ecP b0 _,k8 ecX es,s8 c0 _,k8 w7 ds,row _ 1 _ _ _,row _ 1 _ _ _,blk bM _ _,Old V,sats Lr] w:=hS;have hS3:=hS2.unpack [_,_,_,_,_,_,_,_,_,_];simp only[jK,jN]at hS3;clear hS hS2;go_wp2_with fail;go_ret;exact⟨rfl,hS3.s _⟩
  case true.true=>
   refine rf3 tB47a (fun _=>false) (fun i=>if i==12 then some (.bool true)else if i==16 then some (.bool true)else if i==20 then some (.bool true)else none) [] [none,none,none,none,none,none,none,none,none,none] hS ?_;clear hS;intro nd
   iterate 2 (refine zcN ?_)
   (apply Bo7;rfl;kernel_rfl;rfl;rfl;rfl;rfl;kernel_rfl;exact eqI _ _ _ _ _ _ _ _;rw[heq];refine frS ?_)
   iterate 6 (refine cR ?_)
   (refine zcN ?_ (vs:=[.I ver,.I nxt,.slice za zs.length zc]) (hc:=by(intro F;exact d8.there (d8.there (d8.there (d8.there (d8.there (d8.there (d8.there (d8.there (d8.whole)))))))))))
   iterate 2 (refine cR ?_)
   (refine zcv ?_ (hs:=by(intro F w hS;(try clear hS0);exact Au7 Hes.out hes5 hz60 Hpbe.out (.tail (.tail (.tail .head))) (haE (.tail (.tail (.tail (.tail (.tail .head)))))) (hzr (.tail (.tail (.tail (.tail (.tail (.tail (.tail (.tail .head))))))))) hS)));refine zcN ?_ (vs:=[.I ver,.I nxt,.slice za zs.length zc]) (hc:=by(intro F;exact d8.there (d8.there (d8.there (d8.there (d8.there (d8.there (d8.there (d8.there (d8.whole))))))))))
   iterate 2 (refine cR ?_)
   (refine zcv ?_ (hs:=by(intro F w hS;(try clear hS0);exact Av7 Hds.out hds5 hz60 Hpbd.out (.tail (.tail (.tail (.tail (.tail .head))))) (hbE (.tail (.tail (.tail (.tail (.tail (.tail .head))))))) (hzr (.tail (.tail (.tail (.tail (.tail (.tail (.tail (.tail .head))))))))) hS)))
   iterate 3 (refine cR ?_)
   (refine zcv ?_ (hs:=by(intro F w hS;(try clear hS0);exact Aq7 W w _ hS)))
   iterate 2 (refine cR ?_)
   refine Ad7 ?_;intro w hS;have hS2:St W [blk b12 _ _,blk b10 _ _,ecP b0 _,k8 ecX es,s8 c0 _,k8 w7 ds,row _ 1 _ _ _,row _ 1 _ _ _,blk bM _ _,Old V,sats Lr] w:=hS;have hS3:=hS2.unpack [_,_,_,_,_,_,_,_,_,_];simp only[jK,jN]at hS3;clear hS hS2;go_wp2_with fail;go_ret;exact⟨rfl,hS3.s _⟩
 ·
  have haE:∀{K K':List HP},Take K (row (.S ga (es.length+1) ac) 1 66 (es.length+1) (((b0,xs)::es).flatMap ptC)) K'->∀i (h:i<es.length), ∃b off,(some ⟨ga,0,none⟩:Option Addr)=some ⟨b,off,none⟩/\i6 K b (off+i) (.pointer (some ⟨es[i].1,0,none⟩)):=fun hu i hi=>absurd hi (by rw[jC]at hacn;omega)
  have hbE:∀{K K':List HP},Take K (row (.S gb (ds.length+1) bc) 1 49 (ds.length+1) (((c0,xs)::ds).flatMap ptC)) K'->∀i (h:i<ds.length), ∃b off,(some ⟨gb,1,none⟩:Option Addr)=some ⟨b,off,none⟩/\i6 K b (off+i) (.pointer (some ⟨ds[i].1,0,none⟩)):=fun hu i hi=>by have h7:=hnb hu i hi;rw[if_neg hbc]at h7;exact h7
  subst hac;refine rf3 tB47b (fun i=>i==9) (fun i=>if i==5 then some (.tuple #[.agg #[.I f0,.I f1,.I f2,.I f3],.bool fb])else none) [⟨some 9,some 10,fun nd=>i8 (nd 9) [.I 0,.I 0,.I 0,.I 0] 34⟩,⟨some 10,none,fun nd=>i8 (nd 9) [.I f0,.I f1,.I f2,.I f3] 34⟩] [none,none,none,none,none,none,none,none] hS ?_;clear hS;intro nd
  iterate 2 (refine cR ?_)
  (refine zc1 ?_ (hc:=by(intro F;exact hca (by exact A6))))
  iterate 2 (refine cR ?_)
  (refine zcv ?_ (hs:=by(intro F w hS;(try clear hS0);exact DR7 hx0 Hes.out hes5 Hfe.out Hfbe.out .head .head (haE (.tail (.tail .head))) hS)));clear hna
  iterate 3 (refine cR ?_)
  (refine zca ?_);refine zct ?_;refine cR ?_;refine Ad7 ?_;intro w hS;have hS2:St W [i8 (nd 9) _ _,ecP b0 _,k8 ecX es,s8 c0 _,k8 w7 ds,row _ 1 _ _ _,row _ 1 _ _ _,blk bM _ _,Old V,sats Lr] w:=hS;clear hS;have hS3:=hS2.unpack [_,_,_,_,_,_,_,_,_];clear hS2;simp only[jK,jN]at hS3;have hS:=hS3;clear hS3;generalize nd 9=n9 at *;have h1:=hS.ptr;clear hS;obtain⟨b10,rfl,hS⟩:=h1;clear nd;go_wp2_with fail;refine rf3 tB47b (fun i=>i==9) (fun i=>if i==5 then some (.tuple #[.agg #[.I f0,.I f1,.I f2,.I f3],.bool fb])else none) [⟨some 9,some 10,fun nd=>i8 (nd 9) [.I 0,.I 0,.I 0,.I 0] 34⟩,⟨some 10,none,fun nd=>i8 (nd 9) [.I f0,.I f1,.I f2,.I f3] 34⟩] [none,none,none,none,none,none,none,none,none] hS ?_;clear hS;intro nd
  iterate 2 (refine cR ?_)
  (refine zc1 ?_ (hc:=by(intro F;exact hcb (.tail (.tail (.tail (.tail (.tail (.tail .head)))))))))
  iterate 2 (refine cR ?_)
  (refine zcv ?_ (hs:=by(intro F w hS;(try clear hS0);exact DS7 hx0 Hds.out hds5 Hfd.out Hfbd.out (.tail (.tail (.tail .head))) (.tail (.tail (.tail .head))) (hbE (.tail (.tail (.tail (.tail .head))))) hS)));clear hnb
  iterate 3 (refine cR ?_)
  (refine zca ?_);refine zct ?_;refine cR ?_;refine Ad7 ?_;intro w hS;have hS2:St W [i8 (nd 9) _ _,blk b10 _ _,ecP b0 _,k8 ecX es,s8 c0 _,k8 w7 ds,row _ 1 _ _ _,row _ 1 _ _ _,blk bM _ _,Old V,sats Lr] w:=hS;clear hS;have hS3:=hS2.unpack [_,_,_,_,_,_,_,_,_,_];clear hS2;simp only[jK,jN]at hS3;have hS:=hS3;clear hS3;generalize nd 9=n9 at *;have h1:=hS.ptr;clear hS;obtain⟨b12,rfl,hS⟩:=h1;clear nd;go_wp2_with fail
  cases fb
  all_goals cases pb
  case false.false=>
   refine rf3 tB47a (fun _=>false) (fun i=>if i==12 then some (.bool false)else if i==16 then some (.bool false)else if i==20 then some (.bool true)else none) [] [none,none,none,none,none,none,none,none,none,none] hS ?_;clear hS;intro nd
   iterate 2 (refine zcN ?_)
   (apply Bo7;rfl;kernel_rfl;rfl;rfl;rfl;rfl;kernel_rfl;exact eqI _ _ _ _ _ _ _ _;rw[heq];refine frS ?_)
   iterate 6 (refine cR ?_)
   (refine zcN ?_ (vs:=[.I ver,.I nxt,.slice za zs.length zc]) (hc:=by(intro F;exact d8.there (d8.there (d8.there (d8.there (d8.there (d8.there (d8.there (d8.there (d8.whole)))))))))))
   iterate 2 (refine cR ?_)
   (refine zcv ?_ (hs:=by(intro F w hS;(try clear hS0);exact Au7 Hes.out hes5 hz60 Hpbe.out (.tail (.tail (.tail .head))) (haE (.tail (.tail (.tail (.tail (.tail .head)))))) (hzr (.tail (.tail (.tail (.tail (.tail (.tail (.tail (.tail .head))))))))) hS)));refine zcN ?_ (vs:=[.I ver,.I nxt,.slice za zs.length zc]) (hc:=by(intro F;exact d8.there (d8.there (d8.there (d8.there (d8.there (d8.there (d8.there (d8.there (d8.whole))))))))))
   iterate 2 (refine cR ?_)
   (refine zcv ?_ (hs:=by(intro F w hS;(try clear hS0);exact Av7 Hds.out hds5 hz60 Hpbd.out (.tail (.tail (.tail (.tail (.tail .head))))) (hbE (.tail (.tail (.tail (.tail (.tail (.tail .head))))))) (hzr (.tail (.tail (.tail (.tail (.tail (.tail (.tail (.tail .head))))))))) hS)))
   iterate 3 (refine cR ?_)
   (refine zcv ?_ (hs:=by(intro F w hS;(try clear hS0);exact Aq7 W w _ hS)))
   iterate 2 (refine cR ?_)
   refine Ad7 ?_;intro w hS;have hS2:St W [blk b12 _ _,blk b10 _ _,ecP b0 _,k8 ecX es,s8 c0 _,k8 w7 ds,row _ 1 _ _ _,row _ 1 _ _ _,blk bM _ _,Old V,sats Lr] w:=hS;have hS3:=hS2.unpack [_,_,_,_,_,_,_,_,_,_];simp only[jK,jN]at hS3;clear hS hS2;go_wp2_with fail;go_ret;exact⟨rfl,hS3.s _⟩
  case false.true=>
   refine rf3 tB47a (fun _=>false) (fun i=>if i==12 then some (.bool true)else if i==16 then some (.bool true)else if i==20 then some (.bool true)else none) [] [none,none,none,none,none,none,none,none,none,none] hS ?_;clear hS;intro nd
   iterate 2 (refine zcN ?_)
   (apply Bo7;rfl;kernel_rfl;rfl;rfl;rfl;rfl;kernel_rfl;exact eqI _ _ _ _ _ _ _ _;rw[heq];refine frS ?_)
   iterate 6 (refine cR ?_)
   (refine zcN ?_ (vs:=[.I ver,.I nxt,.slice za zs.length zc]) (hc:=by(intro F;exact d8.there (d8.there (d8.there (d8.there (d8.there (d8.there (d8.there (d8.there (d8.whole)))))))))))
   iterate 2 (refine cR ?_)
   (refine zcv ?_ (hs:=by(intro F w hS;(try clear hS0);exact Au7 Hes.out hes5 hz60 Hpbe.out (.tail (.tail (.tail .head))) (haE (.tail (.tail (.tail (.tail (.tail .head)))))) (hzr (.tail (.tail (.tail (.tail (.tail (.tail (.tail (.tail .head))))))))) hS)));refine zcN ?_ (vs:=[.I ver,.I nxt,.slice za zs.length zc]) (hc:=by(intro F;exact d8.there (d8.there (d8.there (d8.there (d8.there (d8.there (d8.there (d8.there (d8.whole))))))))))
   iterate 2 (refine cR ?_)
   (refine zcv ?_ (hs:=by(intro F w hS;(try clear hS0);exact Av7 Hds.out hds5 hz60 Hpbd.out (.tail (.tail (.tail (.tail (.tail .head))))) (hbE (.tail (.tail (.tail (.tail (.tail (.tail .head))))))) (hzr (.tail (.tail (.tail (.tail (.tail (.tail (.tail (.tail .head))))))))) hS)))
   iterate 3 (refine cR ?_)
   (refine zcv ?_ (hs:=by(intro F w hS;(try clear hS0);exact Aq7 W w _ hS)))
   iterate 2 (refine cR ?_)
   refine Ad7 ?_;intro w hS;have hS2:St W [blk b12 _ _,blk b10 _ _,ecP b0 _,k8 ecX es,s8 c0 _,k8 w7 ds,row _ 1 _ _ _,row _ 1 _ _ _,blk bM _ _,Old V,sats Lr] w:=hS;have hS3:=hS2.unpack [_,_,_,_,_,_,_,_,_,_];simp only[jK,jN]at hS3;clear hS hS2;go_wp2_with fail;go_ret;exact⟨rfl,hS3.s _⟩
  case true.false=>
   refine rf3 tB47a (fun _=>false) (fun i=>if i==12 then some (.bool false)else if i==16 then some (.bool false)else if i==20 then some (.bool true)else none) [] [none,none,none,none,none,none,none,none,none,none] hS ?_;clear hS;intro nd
   iterate 2 (refine zcN ?_)
   (apply Bo7;rfl;kernel_rfl;rfl;rfl;rfl;rfl;kernel_rfl;exact eqI _ _ _ _ _ _ _ _;rw[heq];refine frS ?_)
   iterate 6 (refine cR ?_)
   (refine zcN ?_ (vs:=[.I ver,.I nxt,.slice za zs.length zc]) (hc:=by(intro F;exact d8.there (d8.there (d8.there (d8.there (d8.there (d8.there (d8.there (d8.there (d8.whole)))))))))))
   iterate 2 (refine cR ?_)
   (refine zcv ?_ (hs:=by(intro F w hS;(try clear hS0);exact Au7 Hes.out hes5 hz60 Hpbe.out (.tail (.tail (.tail .head))) (haE (.tail (.tail (.tail (.tail (.tail .head)))))) (hzr (.tail (.tail (.tail (.tail (.tail (.tail (.tail (.tail .head))))))))) hS)));refine zcN ?_ (vs:=[.I ver,.I nxt,.slice za zs.length zc]) (hc:=by(intro F;exact d8.there (d8.there (d8.there (d8.there (d8.there (d8.there (d8.there (d8.there (d8.whole))))))))))
   iterate 2 (refine cR ?_)
   (refine zcv ?_ (hs:=by(intro F w hS;(try clear hS0);exact Av7 Hds.out hds5 hz60 Hpbd.out (.tail (.tail (.tail (.tail (.tail .head))))) (hbE (.tail (.tail (.tail (.tail (.tail (.tail .head))))))) (hzr (.tail (.tail (.tail (.tail (.tail (.tail (.tail (.tail .head))))))))) hS)))
   iterate 3 (refine cR ?_)
   (refine zcv ?_ (hs:=by(intro F w hS;(try clear hS0);exact Aq7 W w _ hS)))
   iterate 2 (refine cR ?_)
   refine Ad7 ?_;intro w hS;have hS2:St W [blk b12 _ _,blk b10 _ _,ecP b0 _,k8 ecX es,s8 c0 _,k8 w7 ds,row _ 1 _ _ _,row _ 1 _ _ _,blk bM _ _,Old V,sats Lr] w:=hS;have hS3:=hS2.unpack [_,_,_,_,_,_,_,_,_,_];simp only[jK,jN]at hS3;clear hS hS2;go_wp2_with fail;go_ret;exact⟨rfl,hS3.s _⟩
  case true.true=>
   refine rf3 tB47a (fun _=>false) (fun i=>if i==12 then some (.bool true)else if i==16 then some (.bool true)else if i==20 then some (.bool true)else none) [] [none,none,none,none,none,none,none,none,none,none] hS ?_;clear hS;intro nd
   iterate 2 (refine zcN ?_)
   (apply Bo7;rfl;kernel_rfl;rfl;rfl;rfl;rfl;kernel_rfl;exact eqI _ _ _ _ _ _ _ _;rw[heq];refine frS ?_)
   iterate 6 (refine cR ?_)
   (refine zcN ?_ (vs:=[.I ver,.I nxt,.slice za zs.length zc]) (hc:=by(intro F;exact d8.there (d8.there (d8.there (d8.there (d8.there (d8.there (d8.there (d8.there (d8.whole)))))))))))
   iterate 2 (refine cR ?_)
   (refine zcv ?_ (hs:=by(intro F w hS;(try clear hS0);exact Au7 Hes.out hes5 hz60 Hpbe.out (.tail (.tail (.tail .head))) (haE (.tail (.tail (.tail (.tail (.tail .head)))))) (hzr (.tail (.tail (.tail (.tail (.tail (.tail (.tail (.tail .head))))))))) hS)));refine zcN ?_ (vs:=[.I ver,.I nxt,.slice za zs.length zc]) (hc:=by(intro F;exact d8.there (d8.there (d8.there (d8.there (d8.there (d8.there (d8.there (d8.there (d8.whole))))))))))
   iterate 2 (refine cR ?_)
   (refine zcv ?_ (hs:=by(intro F w hS;(try clear hS0);exact Av7 Hds.out hds5 hz60 Hpbd.out (.tail (.tail (.tail (.tail (.tail .head))))) (hbE (.tail (.tail (.tail (.tail (.tail (.tail .head))))))) (hzr (.tail (.tail (.tail (.tail (.tail (.tail (.tail (.tail .head))))))))) hS)))
   iterate 3 (refine cR ?_)
   (refine zcv ?_ (hs:=by(intro F w hS;(try clear hS0);exact Aq7 W w _ hS)))
   iterate 2 (refine cR ?_)
   refine Ad7 ?_;intro w hS;have hS2:St W [blk b12 _ _,blk b10 _ _,ecP b0 _,k8 ecX es,s8 c0 _,k8 w7 ds,row _ 1 _ _ _,row _ 1 _ _ _,blk bM _ _,Old V,sats Lr] w:=hS;have hS3:=hS2.unpack [_,_,_,_,_,_,_,_,_,_];simp only[jK,jN]at hS3;clear hS hS2;go_wp2_with fail;go_ret;exact⟨rfl,hS3.s _⟩
 ·
  have haE:∀{K K':List HP},Take K (row (.S ga (es.length+1) ac) 1 66 (es.length+1) (((b0,xs)::es).flatMap ptC)) K'->∀i (h:i<es.length), ∃b off,(some ⟨ga,1,none⟩:Option Addr)=some ⟨b,off,none⟩/\i6 K b (off+i) (.pointer (some ⟨es[i].1,0,none⟩)):=fun hu i hi=>by have h7:=hna hu i hi;rw[if_neg hac]at h7;exact h7
  have hbE:∀{K K':List HP},Take K (row (.S gb (ds.length+1) bc) 1 49 (ds.length+1) (((c0,xs)::ds).flatMap ptC)) K'->∀i (h:i<ds.length), ∃b off,(some ⟨gb,0,none⟩:Option Addr)=some ⟨b,off,none⟩/\i6 K b (off+i) (.pointer (some ⟨ds[i].1,0,none⟩)):=fun hu i hi=>absurd hi (by rw[jC]at hbcn;omega)
  subst hbc;refine rf3 tB47b (fun i=>i==9) (fun i=>if i==5 then some (.tuple #[.agg #[.I f0,.I f1,.I f2,.I f3],.bool fb])else none) [⟨some 9,some 10,fun nd=>i8 (nd 9) [.I 0,.I 0,.I 0,.I 0] 34⟩,⟨some 10,none,fun nd=>i8 (nd 9) [.I f0,.I f1,.I f2,.I f3] 34⟩] [none,none,none,none,none,none,none,none] hS ?_;clear hS;intro nd
  iterate 2 (refine cR ?_)
  (refine zc1 ?_ (hc:=by(intro F;exact hca (by exact A6))))
  iterate 2 (refine cR ?_)
  (refine zcv ?_ (hs:=by(intro F w hS;(try clear hS0);exact DR7 hx0 Hes.out hes5 Hfe.out Hfbe.out .head .head (haE (.tail (.tail .head))) hS)));clear hna
  iterate 3 (refine cR ?_)
  (refine zca ?_);refine zct ?_;refine cR ?_;refine Ad7 ?_;intro w hS;have hS2:St W [i8 (nd 9) _ _,ecP b0 _,k8 ecX es,s8 c0 _,k8 w7 ds,row _ 1 _ _ _,row _ 1 _ _ _,blk bM _ _,Old V,sats Lr] w:=hS;clear hS;have hS3:=hS2.unpack [_,_,_,_,_,_,_,_,_];clear hS2;simp only[jK,jN]at hS3;have hS:=hS3;clear hS3;generalize nd 9=n9 at *;have h1:=hS.ptr;clear hS;obtain⟨b10,rfl,hS⟩:=h1;clear nd;go_wp2_with fail;refine rf3 tB47b (fun i=>i==9) (fun i=>if i==5 then some (.tuple #[.agg #[.I f0,.I f1,.I f2,.I f3],.bool fb])else none) [⟨some 9,some 10,fun nd=>i8 (nd 9) [.I 0,.I 0,.I 0,.I 0] 34⟩,⟨some 10,none,fun nd=>i8 (nd 9) [.I f0,.I f1,.I f2,.I f3] 34⟩] [none,none,none,none,none,none,none,none,none] hS ?_;clear hS;intro nd
  iterate 2 (refine cR ?_)
  (refine zc1 ?_ (hc:=by(intro F;exact hcb (.tail (.tail (.tail (.tail (.tail (.tail .head)))))))))
  iterate 2 (refine cR ?_)
  (refine zcv ?_ (hs:=by(intro F w hS;(try clear hS0);exact DS7 hx0 Hds.out hds5 Hfd.out Hfbd.out (.tail (.tail (.tail .head))) (.tail (.tail (.tail .head))) (hbE (.tail (.tail (.tail (.tail .head))))) hS)));clear hnb
  iterate 3 (refine cR ?_)
  (refine zca ?_);refine zct ?_;refine cR ?_;refine Ad7 ?_;intro w hS;have hS2:St W [i8 (nd 9) _ _,blk b10 _ _,ecP b0 _,k8 ecX es,s8 c0 _,k8 w7 ds,row _ 1 _ _ _,row _ 1 _ _ _,blk bM _ _,Old V,sats Lr] w:=hS;clear hS;have hS3:=hS2.unpack [_,_,_,_,_,_,_,_,_,_];clear hS2;simp only[jK,jN]at hS3;have hS:=hS3;clear hS3;generalize nd 9=n9 at *;have h1:=hS.ptr;clear hS;obtain⟨b12,rfl,hS⟩:=h1;clear nd;go_wp2_with fail
  cases fb
  all_goals cases pb
  case false.false=>
   refine rf3 tB47a (fun _=>false) (fun i=>if i==12 then some (.bool false)else if i==16 then some (.bool false)else if i==20 then some (.bool true)else none) [] [none,none,none,none,none,none,none,none,none,none] hS ?_;clear hS;intro nd
   iterate 2 (refine zcN ?_)
   (apply Bo7;rfl;kernel_rfl;rfl;rfl;rfl;rfl;kernel_rfl;exact eqI _ _ _ _ _ _ _ _;rw[heq];refine frS ?_)
   iterate 6 (refine cR ?_)
   (refine zcN ?_ (vs:=[.I ver,.I nxt,.slice za zs.length zc]) (hc:=by(intro F;exact d8.there (d8.there (d8.there (d8.there (d8.there (d8.there (d8.there (d8.there (d8.whole)))))))))))
   iterate 2 (refine cR ?_)
   (refine zcv ?_ (hs:=by(intro F w hS;(try clear hS0);exact Au7 Hes.out hes5 hz60 Hpbe.out (.tail (.tail (.tail .head))) (haE (.tail (.tail (.tail (.tail (.tail .head)))))) (hzr (.tail (.tail (.tail (.tail (.tail (.tail (.tail (.tail .head))))))))) hS)));refine zcN ?_ (vs:=[.I ver,.I nxt,.slice za zs.length zc]) (hc:=by(intro F;exact d8.there (d8.there (d8.there (d8.there (d8.there (d8.there (d8.there (d8.there (d8.whole))))))))))
   iterate 2 (refine cR ?_)
   (refine zcv ?_ (hs:=by(intro F w hS;(try clear hS0);exact Av7 Hds.out hds5 hz60 Hpbd.out (.tail (.tail (.tail (.tail (.tail .head))))) (hbE (.tail (.tail (.tail (.tail (.tail (.tail .head))))))) (hzr (.tail (.tail (.tail (.tail (.tail (.tail (.tail (.tail .head))))))))) hS)))
   iterate 3 (refine cR ?_)
   (refine zcv ?_ (hs:=by(intro F w hS;(try clear hS0);exact Aq7 W w _ hS)))
   iterate 2 (refine cR ?_)
   refine Ad7 ?_;intro w hS;have hS2:St W [blk b12 _ _,blk b10 _ _,ecP b0 _,k8 ecX es,s8 c0 _,k8 w7 ds,row _ 1 _ _ _,row _ 1 _ _ _,blk bM _ _,Old V,sats Lr] w:=hS;have hS3:=hS2.unpack [_,_,_,_,_,_,_,_,_,_];simp only[jK,jN]at hS3;clear hS hS2;go_wp2_with fail;go_ret;exact⟨rfl,hS3.s _⟩
  case false.true=>
   refine rf3 tB47a (fun _=>false) (fun i=>if i==12 then some (.bool true)else if i==16 then some (.bool true)else if i==20 then some (.bool true)else none) [] [none,none,none,none,none,none,none,none,none,none] hS ?_;clear hS;intro nd
   iterate 2 (refine zcN ?_)
   (apply Bo7;rfl;kernel_rfl;rfl;rfl;rfl;rfl;kernel_rfl;exact eqI _ _ _ _ _ _ _ _;rw[heq];refine frS ?_)
   iterate 6 (refine cR ?_)
   (refine zcN ?_ (vs:=[.I ver,.I nxt,.slice za zs.length zc]) (hc:=by(intro F;exact d8.there (d8.there (d8.there (d8.there (d8.there (d8.there (d8.there (d8.there (d8.whole)))))))))))
   iterate 2 (refine cR ?_)
   (refine zcv ?_ (hs:=by(intro F w hS;(try clear hS0);exact Au7 Hes.out hes5 hz60 Hpbe.out (.tail (.tail (.tail .head))) (haE (.tail (.tail (.tail (.tail (.tail .head)))))) (hzr (.tail (.tail (.tail (.tail (.tail (.tail (.tail (.tail .head))))))))) hS)));refine zcN ?_ (vs:=[.I ver,.I nxt,.slice za zs.length zc]) (hc:=by(intro F;exact d8.there (d8.there (d8.there (d8.there (d8.there (d8.there (d8.there (d8.there (d8.whole))))))))))
   iterate 2 (refine cR ?_)
   (refine zcv ?_ (hs:=by(intro F w hS;(try clear hS0);exact Av7 Hds.out hds5 hz60 Hpbd.out (.tail (.tail (.tail (.tail (.tail .head))))) (hbE (.tail (.tail (.tail (.tail (.tail (.tail .head))))))) (hzr (.tail (.tail (.tail (.tail (.tail (.tail (.tail (.tail .head))))))))) hS)))
   iterate 3 (refine cR ?_)
   (refine zcv ?_ (hs:=by(intro F w hS;(try clear hS0);exact Aq7 W w _ hS)))
   iterate 2 (refine cR ?_)
   refine Ad7 ?_;intro w hS;have hS2:St W [blk b12 _ _,blk b10 _ _,ecP b0 _,k8 ecX es,s8 c0 _,k8 w7 ds,row _ 1 _ _ _,row _ 1 _ _ _,blk bM _ _,Old V,sats Lr] w:=hS;have hS3:=hS2.unpack [_,_,_,_,_,_,_,_,_,_];simp only[jK,jN]at hS3;clear hS hS2;go_wp2_with fail;go_ret;exact⟨rfl,hS3.s _⟩
  case true.false=>
   refine rf3 tB47a (fun _=>false) (fun i=>if i==12 then some (.bool false)else if i==16 then some (.bool false)else if i==20 then some (.bool true)else none) [] [none,none,none,none,none,none,none,none,none,none] hS ?_;clear hS;intro nd
   iterate 2 (refine zcN ?_)
   (apply Bo7;rfl;kernel_rfl;rfl;rfl;rfl;rfl;kernel_rfl;exact eqI _ _ _ _ _ _ _ _;rw[heq];refine frS ?_)
   iterate 6 (refine cR ?_)
   (refine zcN ?_ (vs:=[.I ver,.I nxt,.slice za zs.length zc]) (hc:=by(intro F;exact d8.there (d8.there (d8.there (d8.there (d8.there (d8.there (d8.there (d8.there (d8.whole)))))))))))
   iterate 2 (refine cR ?_)
   (refine zcv ?_ (hs:=by(intro F w hS;(try clear hS0);exact Au7 Hes.out hes5 hz60 Hpbe.out (.tail (.tail (.tail .head))) (haE (.tail (.tail (.tail (.tail (.tail .head)))))) (hzr (.tail (.tail (.tail (.tail (.tail (.tail (.tail (.tail .head))))))))) hS)));refine zcN ?_ (vs:=[.I ver,.I nxt,.slice za zs.length zc]) (hc:=by(intro F;exact d8.there (d8.there (d8.there (d8.there (d8.there (d8.there (d8.there (d8.there (d8.whole))))))))))
   iterate 2 (refine cR ?_)
   (refine zcv ?_ (hs:=by(intro F w hS;(try clear hS0);exact Av7 Hds.out hds5 hz60 Hpbd.out (.tail (.tail (.tail (.tail (.tail .head))))) (hbE (.tail (.tail (.tail (.tail (.tail (.tail .head))))))) (hzr (.tail (.tail (.tail (.tail (.tail (.tail (.tail (.tail .head))))))))) hS)))
   iterate 3 (refine cR ?_)
   (refine zcv ?_ (hs:=by(intro F w hS;(try clear hS0);exact Aq7 W w _ hS)))
   iterate 2 (refine cR ?_)
   refine Ad7 ?_;intro w hS;have hS2:St W [blk b12 _ _,blk b10 _ _,ecP b0 _,k8 ecX es,s8 c0 _,k8 w7 ds,row _ 1 _ _ _,row _ 1 _ _ _,blk bM _ _,Old V,sats Lr] w:=hS;have hS3:=hS2.unpack [_,_,_,_,_,_,_,_,_,_];simp only[jK,jN]at hS3;clear hS hS2;go_wp2_with fail;go_ret;exact⟨rfl,hS3.s _⟩
  case true.true=>
   refine rf3 tB47a (fun _=>false) (fun i=>if i==12 then some (.bool true)else if i==16 then some (.bool true)else if i==20 then some (.bool true)else none) [] [none,none,none,none,none,none,none,none,none,none] hS ?_;clear hS;intro nd
   iterate 2 (refine zcN ?_)
   (apply Bo7;rfl;kernel_rfl;rfl;rfl;rfl;rfl;kernel_rfl;exact eqI _ _ _ _ _ _ _ _;rw[heq];refine frS ?_)
   iterate 6 (refine cR ?_)
   (refine zcN ?_ (vs:=[.I ver,.I nxt,.slice za zs.length zc]) (hc:=by(intro F;exact d8.there (d8.there (d8.there (d8.there (d8.there (d8.there (d8.there (d8.there (d8.whole)))))))))))
   iterate 2 (refine cR ?_)
   (refine zcv ?_ (hs:=by(intro F w hS;(try clear hS0);exact Au7 Hes.out hes5 hz60 Hpbe.out (.tail (.tail (.tail .head))) (haE (.tail (.tail (.tail (.tail (.tail .head)))))) (hzr (.tail (.tail (.tail (.tail (.tail (.tail (.tail (.tail .head))))))))) hS)));refine zcN ?_ (vs:=[.I ver,.I nxt,.slice za zs.length zc]) (hc:=by(intro F;exact d8.there (d8.there (d8.there (d8.there (d8.there (d8.there (d8.there (d8.there (d8.whole))))))))))
   iterate 2 (refine cR ?_)
   (refine zcv ?_ (hs:=by(intro F w hS;(try clear hS0);exact Av7 Hds.out hds5 hz60 Hpbd.out (.tail (.tail (.tail (.tail (.tail .head))))) (hbE (.tail (.tail (.tail (.tail (.tail (.tail .head))))))) (hzr (.tail (.tail (.tail (.tail (.tail (.tail (.tail (.tail .head))))))))) hS)))
   iterate 3 (refine cR ?_)
   (refine zcv ?_ (hs:=by(intro F w hS;(try clear hS0);exact Aq7 W w _ hS)))
   iterate 2 (refine cR ?_)
   refine Ad7 ?_;intro w hS;have hS2:St W [blk b12 _ _,blk b10 _ _,ecP b0 _,k8 ecX es,s8 c0 _,k8 w7 ds,row _ 1 _ _ _,row _ 1 _ _ _,blk bM _ _,Old V,sats Lr] w:=hS;have hS3:=hS2.unpack [_,_,_,_,_,_,_,_,_,_];simp only[jK,jN]at hS3;clear hS hS2;go_wp2_with fail;go_ret;exact⟨rfl,hS3.s _⟩
 ·
  have haE:∀{K K':List HP},Take K (row (.S ga (es.length+1) ac) 1 66 (es.length+1) (((b0,xs)::es).flatMap ptC)) K'->∀i (h:i<es.length), ∃b off,(some ⟨ga,1,none⟩:Option Addr)=some ⟨b,off,none⟩/\i6 K b (off+i) (.pointer (some ⟨es[i].1,0,none⟩)):=fun hu i hi=>by have h7:=hna hu i hi;rw[if_neg hac]at h7;exact h7
  have hbE:∀{K K':List HP},Take K (row (.S gb (ds.length+1) bc) 1 49 (ds.length+1) (((c0,xs)::ds).flatMap ptC)) K'->∀i (h:i<ds.length), ∃b off,(some ⟨gb,1,none⟩:Option Addr)=some ⟨b,off,none⟩/\i6 K b (off+i) (.pointer (some ⟨ds[i].1,0,none⟩)):=fun hu i hi=>by have h7:=hnb hu i hi;rw[if_neg hbc]at h7;exact h7
  refine rf3 tB47b (fun i=>i==9) (fun i=>if i==5 then some (.tuple #[.agg #[.I f0,.I f1,.I f2,.I f3],.bool fb])else none) [⟨some 9,some 10,fun nd=>i8 (nd 9) [.I 0,.I 0,.I 0,.I 0] 34⟩,⟨some 10,none,fun nd=>i8 (nd 9) [.I f0,.I f1,.I f2,.I f3] 34⟩] [none,none,none,none,none,none,none,none] hS ?_;clear hS;intro nd
  iterate 2 (refine cR ?_)
  (refine zc1 ?_ (hc:=by(intro F;exact hca (by exact A6))))
  iterate 2 (refine cR ?_)
  (refine zcv ?_ (hs:=by(intro F w hS;(try clear hS0);exact DR7 hx0 Hes.out hes5 Hfe.out Hfbe.out .head .head (haE (.tail (.tail .head))) hS)));clear hna
  iterate 3 (refine cR ?_)
  (refine zca ?_);refine zct ?_;refine cR ?_;refine Ad7 ?_;intro w hS;have hS2:St W [i8 (nd 9) _ _,ecP b0 _,k8 ecX es,s8 c0 _,k8 w7 ds,row _ 1 _ _ _,row _ 1 _ _ _,blk bM _ _,Old V,sats Lr] w:=hS;clear hS;have hS3:=hS2.unpack [_,_,_,_,_,_,_,_,_];clear hS2;simp only[jK,jN]at hS3;have hS:=hS3;clear hS3;generalize nd 9=n9 at *;have h1:=hS.ptr;clear hS;obtain⟨b10,rfl,hS⟩:=h1;clear nd;go_wp2_with fail;refine rf3 tB47b (fun i=>i==9) (fun i=>if i==5 then some (.tuple #[.agg #[.I f0,.I f1,.I f2,.I f3],.bool fb])else none) [⟨some 9,some 10,fun nd=>i8 (nd 9) [.I 0,.I 0,.I 0,.I 0] 34⟩,⟨some 10,none,fun nd=>i8 (nd 9) [.I f0,.I f1,.I f2,.I f3] 34⟩] [none,none,none,none,none,none,none,none,none] hS ?_;clear hS;intro nd
  iterate 2 (refine cR ?_)
  (refine zc1 ?_ (hc:=by(intro F;exact hcb (.tail (.tail (.tail (.tail (.tail (.tail .head)))))))))
  iterate 2 (refine cR ?_)
  (refine zcv ?_ (hs:=by(intro F w hS;(try clear hS0);exact DS7 hx0 Hds.out hds5 Hfd.out Hfbd.out (.tail (.tail (.tail .head))) (.tail (.tail (.tail .head))) (hbE (.tail (.tail (.tail (.tail .head))))) hS)));clear hnb
  iterate 3 (refine cR ?_)
  (refine zca ?_);refine zct ?_;refine cR ?_;refine Ad7 ?_;intro w hS;have hS2:St W [i8 (nd 9) _ _,blk b10 _ _,ecP b0 _,k8 ecX es,s8 c0 _,k8 w7 ds,row _ 1 _ _ _,row _ 1 _ _ _,blk bM _ _,Old V,sats Lr] w:=hS;clear hS;have hS3:=hS2.unpack [_,_,_,_,_,_,_,_,_,_];clear hS2;simp only[jK,jN]at hS3;have hS:=hS3;clear hS3;generalize nd 9=n9 at *;have h1:=hS.ptr;clear hS;obtain⟨b12,rfl,hS⟩:=h1;clear nd;go_wp2_with fail
  cases fb
  all_goals cases pb
  case false.false=>
   refine rf3 tB47a (fun _=>false) (fun i=>if i==12 then some (.bool false)else if i==16 then some (.bool false)else if i==20 then some (.bool true)else none) [] [none,none,none,none,none,none,none,none,none,none] hS ?_;clear hS;intro nd
   iterate 2 (refine zcN ?_)
   (apply Bo7;rfl;kernel_rfl;rfl;rfl;rfl;rfl;kernel_rfl;exact eqI _ _ _ _ _ _ _ _;rw[heq];refine frS ?_)
   iterate 6 (refine cR ?_)
   (refine zcN ?_ (vs:=[.I ver,.I nxt,.slice za zs.length zc]) (hc:=by(intro F;exact d8.there (d8.there (d8.there (d8.there (d8.there (d8.there (d8.there (d8.there (d8.whole)))))))))))
   iterate 2 (refine cR ?_)
   (refine zcv ?_ (hs:=by(intro F w hS;(try clear hS0);exact Au7 Hes.out hes5 hz60 Hpbe.out (.tail (.tail (.tail .head))) (haE (.tail (.tail (.tail (.tail (.tail .head)))))) (hzr (.tail (.tail (.tail (.tail (.tail (.tail (.tail (.tail .head))))))))) hS)));refine zcN ?_ (vs:=[.I ver,.I nxt,.slice za zs.length zc]) (hc:=by(intro F;exact d8.there (d8.there (d8.there (d8.there (d8.there (d8.there (d8.there (d8.there (d8.whole))))))))))
   iterate 2 (refine cR ?_)
   (refine zcv ?_ (hs:=by(intro F w hS;(try clear hS0);exact Av7 Hds.out hds5 hz60 Hpbd.out (.tail (.tail (.tail (.tail (.tail .head))))) (hbE (.tail (.tail (.tail (.tail (.tail (.tail .head))))))) (hzr (.tail (.tail (.tail (.tail (.tail (.tail (.tail (.tail .head))))))))) hS)))
   iterate 3 (refine cR ?_)
   (refine zcv ?_ (hs:=by(intro F w hS;(try clear hS0);exact Aq7 W w _ hS)))
   iterate 2 (refine cR ?_)
   refine Ad7 ?_;intro w hS;have hS2:St W [blk b12 _ _,blk b10 _ _,ecP b0 _,k8 ecX es,s8 c0 _,k8 w7 ds,row _ 1 _ _ _,row _ 1 _ _ _,blk bM _ _,Old V,sats Lr] w:=hS;have hS3:=hS2.unpack [_,_,_,_,_,_,_,_,_,_];simp only[jK,jN]at hS3;clear hS hS2;go_wp2_with fail;go_ret;exact⟨rfl,hS3.s _⟩
  case false.true=>
   refine rf3 tB47a (fun _=>false) (fun i=>if i==12 then some (.bool true)else if i==16 then some (.bool true)else if i==20 then some (.bool true)else none) [] [none,none,none,none,none,none,none,none,none,none] hS ?_;clear hS;intro nd
   iterate 2 (refine zcN ?_)
   (apply Bo7;rfl;kernel_rfl;rfl;rfl;rfl;rfl;kernel_rfl;exact eqI _ _ _ _ _ _ _ _;rw[heq];refine frS ?_)
   iterate 6 (refine cR ?_)
   (refine zcN ?_ (vs:=[.I ver,.I nxt,.slice za zs.length zc]) (hc:=by(intro F;exact d8.there (d8.there (d8.there (d8.there (d8.there (d8.there (d8.there (d8.there (d8.whole)))))))))))
   iterate 2 (refine cR ?_)
   (refine zcv ?_ (hs:=by(intro F w hS;(try clear hS0);exact Au7 Hes.out hes5 hz60 Hpbe.out (.tail (.tail (.tail .head))) (haE (.tail (.tail (.tail (.tail (.tail .head)))))) (hzr (.tail (.tail (.tail (.tail (.tail (.tail (.tail (.tail .head))))))))) hS)));refine zcN ?_ (vs:=[.I ver,.I nxt,.slice za zs.length zc]) (hc:=by(intro F;exact d8.there (d8.there (d8.there (d8.there (d8.there (d8.there (d8.there (d8.there (d8.whole))))))))))
   iterate 2 (refine cR ?_)
   (refine zcv ?_ (hs:=by(intro F w hS;(try clear hS0);exact Av7 Hds.out hds5 hz60 Hpbd.out (.tail (.tail (.tail (.tail (.tail .head))))) (hbE (.tail (.tail (.tail (.tail (.tail (.tail .head))))))) (hzr (.tail (.tail (.tail (.tail (.tail (.tail (.tail (.tail .head))))))))) hS)))
   iterate 3 (refine cR ?_)
   (refine zcv ?_ (hs:=by(intro F w hS;(try clear hS0);exact Aq7 W w _ hS)))
   iterate 2 (refine cR ?_)
   refine Ad7 ?_;intro w hS;have hS2:St W [blk b12 _ _,blk b10 _ _,ecP b0 _,k8 ecX es,s8 c0 _,k8 w7 ds,row _ 1 _ _ _,row _ 1 _ _ _,blk bM _ _,Old V,sats Lr] w:=hS;have hS3:=hS2.unpack [_,_,_,_,_,_,_,_,_,_];simp only[jK,jN]at hS3;clear hS hS2;go_wp2_with fail;go_ret;exact⟨rfl,hS3.s _⟩
  case true.false=>
   refine rf3 tB47a (fun _=>false) (fun i=>if i==12 then some (.bool false)else if i==16 then some (.bool false)else if i==20 then some (.bool true)else none) [] [none,none,none,none,none,none,none,none,none,none] hS ?_;clear hS;intro nd
   iterate 2 (refine zcN ?_)
   (apply Bo7;rfl;kernel_rfl;rfl;rfl;rfl;rfl;kernel_rfl;exact eqI _ _ _ _ _ _ _ _;rw[heq];refine frS ?_)
   iterate 6 (refine cR ?_)
   (refine zcN ?_ (vs:=[.I ver,.I nxt,.slice za zs.length zc]) (hc:=by(intro F;exact d8.there (d8.there (d8.there (d8.there (d8.there (d8.there (d8.there (d8.there (d8.whole)))))))))))
   iterate 2 (refine cR ?_)
   (refine zcv ?_ (hs:=by(intro F w hS;(try clear hS0);exact Au7 Hes.out hes5 hz60 Hpbe.out (.tail (.tail (.tail .head))) (haE (.tail (.tail (.tail (.tail (.tail .head)))))) (hzr (.tail (.tail (.tail (.tail (.tail (.tail (.tail (.tail .head))))))))) hS)));refine zcN ?_ (vs:=[.I ver,.I nxt,.slice za zs.length zc]) (hc:=by(intro F;exact d8.there (d8.there (d8.there (d8.there (d8.there (d8.there (d8.there (d8.there (d8.whole))))))))))
   iterate 2 (refine cR ?_)
   (refine zcv ?_ (hs:=by(intro F w hS;(try clear hS0);exact Av7 Hds.out hds5 hz60 Hpbd.out (.tail (.tail (.tail (.tail (.tail .head))))) (hbE (.tail (.tail (.tail (.tail (.tail (.tail .head))))))) (hzr (.tail (.tail (.tail (.tail (.tail (.tail (.tail (.tail .head))))))))) hS)))
   iterate 3 (refine cR ?_)
   (refine zcv ?_ (hs:=by(intro F w hS;(try clear hS0);exact Aq7 W w _ hS)))
   iterate 2 (refine cR ?_)
   refine Ad7 ?_;intro w hS;have hS2:St W [blk b12 _ _,blk b10 _ _,ecP b0 _,k8 ecX es,s8 c0 _,k8 w7 ds,row _ 1 _ _ _,row _ 1 _ _ _,blk bM _ _,Old V,sats Lr] w:=hS;have hS3:=hS2.unpack [_,_,_,_,_,_,_,_,_,_];simp only[jK,jN]at hS3;clear hS hS2;go_wp2_with fail;go_ret;exact⟨rfl,hS3.s _⟩
  case true.true=>
   refine rf3 tB47a (fun _=>false) (fun i=>if i==12 then some (.bool true)else if i==16 then some (.bool true)else if i==20 then some (.bool true)else none) [] [none,none,none,none,none,none,none,none,none,none] hS ?_;clear hS;intro nd
   iterate 2 (refine zcN ?_)
   (apply Bo7;rfl;kernel_rfl;rfl;rfl;rfl;rfl;kernel_rfl;exact eqI _ _ _ _ _ _ _ _;rw[heq];refine frS ?_)
   iterate 6 (refine cR ?_)
   (refine zcN ?_ (vs:=[.I ver,.I nxt,.slice za zs.length zc]) (hc:=by(intro F;exact d8.there (d8.there (d8.there (d8.there (d8.there (d8.there (d8.there (d8.there (d8.whole)))))))))))
   iterate 2 (refine cR ?_)
   (refine zcv ?_ (hs:=by(intro F w hS;(try clear hS0);exact Au7 Hes.out hes5 hz60 Hpbe.out (.tail (.tail (.tail .head))) (haE (.tail (.tail (.tail (.tail (.tail .head)))))) (hzr (.tail (.tail (.tail (.tail (.tail (.tail (.tail (.tail .head))))))))) hS)));refine zcN ?_ (vs:=[.I ver,.I nxt,.slice za zs.length zc]) (hc:=by(intro F;exact d8.there (d8.there (d8.there (d8.there (d8.there (d8.there (d8.there (d8.there (d8.whole))))))))))
   iterate 2 (refine cR ?_)
   (refine zcv ?_ (hs:=by(intro F w hS;(try clear hS0);exact Av7 Hds.out hds5 hz60 Hpbd.out (.tail (.tail (.tail (.tail (.tail .head))))) (hbE (.tail (.tail (.tail (.tail (.tail (.tail .head))))))) (hzr (.tail (.tail (.tail (.tail (.tail (.tail (.tail (.tail .head))))))))) hS)))
   iterate 3 (refine cR ?_)
   (refine zcv ?_ (hs:=by(intro F w hS;(try clear hS0);exact Aq7 W w _ hS)))
   iterate 2 (refine cR ?_)
   refine Ad7 ?_;intro w hS;have hS2:St W [blk b12 _ _,blk b10 _ _,ecP b0 _,k8 ecX es,s8 c0 _,k8 w7 ds,row _ 1 _ _ _,row _ 1 _ _ _,blk bM _ _,Old V,sats Lr] w:=hS;have hS3:=hS2.unpack [_,_,_,_,_,_,_,_,_,_];simp only[jK,jN]at hS3;clear hS hS2;go_wp2_with fail;go_ret;exact⟨rfl,hS3.s _⟩
end Go.Proofs.YtienbkdjkjbelaaGreat
end
