import Derived.Test.YtphkhfdmlcnoeaaGreatDoorP36
namespace Go.Proofs.YtphkhfdmlcnoeaaGreatDoor
set_option linter.unusedVariables false
set_option linter.unusedSimpArgs false
open Go.RowKit
section
variable {W w w':World}{z:Wz}{B g c n:Nat}{F:List Rl}{A:Option Addr}{xs:List UInt8}{k:Int}{d:Nd}{p:VF}{v:Value}
set_option maxRecDepth 100000 in
set_option maxHeartbeats 32000000 in
theorem QfQ(hall:VF.All (WvC z B g F) p)(hgp:Kq p)(hfp:Zq p)(hv:Fm F)(hk:0≤k∧k<F.length)(h:XI W z B g F A c xs n)(hval:VIn W B v d p)(hd1:d.bs.length≤1048576)(hd2:d.ns.length≤1048576)(hn0:Xi d p.len=0)(hpl6:p.len≤1048576)(hsz:xs.length+QK d p≤1099511627776)(hno:n+QK d p≤1099511627776)(hfit:X8 F (Qd F k) d p=true)(hkind:(Qd F k).kind=8):
  Calls Tryz.prog 45 #[.pointer (some ⟨g,0,none⟩),.int .i64 k,v] W (WrE z g W A c xs (QA F k d p n) n (QK d p)):=by
 have hF8:=Q2x (F:=F) (d:=d) (p:=p) hkind;rw[hfit] at hF8
 replace hF8:=hF8.symm
 simp only[Bool.and_eq_true,beq_iff_eq,decide_eq_true_iff] at hF8
 obtain⟨⟨⟨⟨_,h2⟩,h3⟩,h4⟩,h5⟩:=hF8
 obtain⟨d1,p1,d2,p2,rfl⟩:∃d1 p1 d2 p2,p=.cons d1 p1 (.cons d2 p2 .nil):=by
  cases p with
  |nil=>cases h2
  |cons d1 p1 r=>
   cases r with
   |nil=>cases h2
   |cons d2 p2 r=>
    cases r with
    |nil=>exact⟨d1,p1,d2,p2,rfl⟩
    |cons d3 p3 r=>simp [VF.len] at h2
 clear h2
 simp only[VF.hdN] at h3 h4 h5
 have H:=Lib.hid h;have HV0:=Lib.hid hv;have hwd:=h.wd;have hFn:=h.len;have hr:=hv.toUsd.rok hk
 have hfc:=fun(w:World) (Ab An Ap:Option Addr) (cb cn cp:Nat) (hw:XI w z B g F A c xs n) (hru:RuB w B (Qd F k) Ab cb An cn Ap cp) (hval:VIn w B v d (.cons d1 p1 (.cons d2 p2 .nil)))=>XW hw hv hk hru hval hd1 hd2
 rw[hfit] at hfc;obtain⟨RES,hres⟩:∃x,QA F k d (.cons d1 p1 (.cons d2 p2 .nil)) n=x:=⟨_,rfl⟩;have HVAL:=Lib.hid hval;have HALL:=Lib.hid hall;have HGP:=Lib.hid hgp;have HFP:=Lib.hid hfp;clear hall hgp hfp;have HK0:=Lib.hid (show (Qd F k).kind=8 from hkind);have HL:=Lib.hid (show RES=QA F ((Qd F k).parts.getD d1.n.toNat 0) d2 p2 (n+2) by rw[← hres];exact Qbt hfit hkind);have hpt:=hr.parts (.inr hkind);rw[hres];obtain⟨Af,nn,cf⟩:=z
 simp only at hFn
 obtain⟨bf,of,haf,_⟩:=h.fm.2 (show 0<nn by omega)
 simp only at haf
 subst haf;obtain⟨hbB,Ab,cb,An,cn,Ap,cp,hrg,hru⟩:=h.fm.ruleB (k:=k) (by simp only;omega)
 have hbM:bf∉wM g A xs.length c:=fun hm=>by
  rcases Z3.1 hm with e|e
  ·have:=h.hB;omega
  ·have:=(h.far _ e).1;omega
 have hkn:0≤k∧k<(nn:Int):=by omega
 have hBW:B≤W.heap.size:=by have:=h.hB;have:=h.lt;omega
 replace hfc:=fun(w:World) (hw:XI w _ B g F A c xs n) (hr:RuB w B (Qd F k) Ab cb An cn Ap cp) (hvl:VIn w B v d (.cons d1 p1 (.cons d2 p2 .nil)))=>hfc w Ab An Ap cb cn cp hw hr hvl
 clear h;obtain⟨r,er⟩:∃r,Qd F k=r:=⟨_,rfl⟩;rw[er] at hr hrg hru hfc HK0 HL hpt h5;clear er hfit;obtain⟨sb,sn,sp,rfl,Abv,nb,cbv,Anv,nnv,cnv,Apv,cpv,rfl,rfl,rfl,hnb,hnn,hpl,hcm,hrb,hrn,hch⟩:=hval
 have hnbl:d.bs.length=nb:=by have:=hrb.len;rw[Xu] at this;exact this
 have hnnl:d.ns.length=nnv:=by have:=hrn.len;rw[XB] at this;exact this
 subst hnbl hnnl;have HRB:=Lib.hid hrb;have HCH:=Lib.hid hch;have HRU:=Lib.hid hru;have HRK:=Lib.hid hr;have HD:=Lib.hid (Eq.refl d);obtain⟨dk,dn,dbs,dns⟩:=d
 simp only[QK] at hsz hno hd1 hd2 hnb hnn ⊢
 clear hrb hrn hch hru hv;obtain⟨name,kind,bs,size,big,mn,mx,stop,count,elem,names,parts⟩:=r
 simp only[ruC] at hr hrg hfc HK0
 have HFC:=Lib.hid hfc;have HRUB:=Lib.hid (show Rd W B 1 Ab bs.length (bv bs) from HRU.out.b);clear hfc
 go_enter Tryz.func45,Tryz.ntmps45
 haveI:Pan (bodyPost Tryz.prog Tryz.f45 (WrE ⟨some ⟨bf,of,none⟩,nn,cf⟩ g W A c xs RES n (300+dbs.length+X3 (VF.cons d1 p1 (.cons d2 p2 .nil))))) (Vb RES (wM g A xs.length c) W):=Pan.body fun ch w' ⟨x,h1,h2,h3⟩=>⟨h3,.inl ⟨x,h1,by rw[h2]⟩⟩
 refine QE (M:=wM g A xs.length c) (W:=W) (N:=223) (E:=[(0,.pointer (some ⟨g,0,none⟩)),(1,.int .i64 k),(2,.agg [.int .i64 dk,.int .i64 dn,.slice Abv dbs.length cbv,.slice Anv dns.length cnv,.slice Apv (VF.cons d1 p1 (.cons d2 p2 .nil)).len cpv].toArray)]) (O:=[.blk g (.cells ([.slice (some ⟨bf,of,none⟩) nn cf,.slice A xs.length c,.int .i64 (n:Int)]:List Value).toArray 77 (0,0)),.row A xs.length c 5 1 (bv xs)]) ?_ (Ag.cons (Ag.cons (Ag.cons (Ag.nil rfl rfl) rfl) rfl) rfl) hwd;clear hwd;refine yq<|yr ?_;refine yB fun b5=>?_;refine yl<|yn<|yq<|yr<|yo zM ?_;refine Q1 (Qp rfl rfl (by decide) rfl rfl) ?_;refine yo zF<|yo zF<|yo (zB 1)<|yo zM ?_;refine Q1 (Qm rfl rfl (by decide) rfl rfl rfl hkn) ?_;refine Q1 (QB rfl rfl (by decide) rfl rfl (fun w hw=>hw.range_old hrg hbM) rfl) ?_;refine yA fun b6=>?_;refine yW 0 ?_;refine yl<|yn<|yq<|yq<|yr<|yo zM<|yo (zD 0)<|yo (zD 1) ?_;refine Q1 (Qb rfl rfl (by decide) rfl rfl (fun w hw=>HFC.out w (H.out.nextW hw 2 3 rfl rfl) (HRU.out.below (H.out.below hw.k)) (HVAL.out.below (H.out.below hw.k) (Nat.le_refl _)))) ?_;refine yo zO<|yl ?_;have hkd:kind=8:=HK0.out;subst hkd
 replace h5:d1.n<(parts.length:Int):=h5
 obtain⟨j,hj⟩:∃j:Nat,d1.n=(j:Int):=⟨d1.n.toNat,by omega⟩
 have hjp:j<parts.length:=by omega
 obtain⟨bv0,ov0,hApv,hbv,⟨sb1,sn1,sp1,hc1,_⟩,⟨sb2,sn2,sp2,hc2,hd2'⟩,_⟩:=HCH.out (Nat.succ_pos _);subst hApv;have HV2:=Lib.hid (show VIn W B (.agg #[.int .i64 d2.k,.int .i64 d2.n,sb2,sn2,sp2]) d2 p2 from ⟨sb2,sn2,sp2,rfl,hd2'⟩);have hrv:=hc2.range
 have hcn:W.cell? ⟨bv0,ov0+1,none⟩=some (.int .i64 (j:Int)):=by rw[← hj];exact hc1.2.1
 have hbvM:bv0∉wM g A xs.length c:=fun hm=>by
  rcases Z3.1 hm with e|e
  ·have:=H.out.hB;omega
  ·have:=(H.out.far _ e).1;omega
 obtain⟨bp,op,x,hAp,hbp,hx,hcx⟩:=Q1V HRU.out.p hjp;subst hAp
 have hbpM:bp∉wM g A xs.length c:=fun hm=>by
  rcases Z3.1 hm with e|e
  ·have:=H.out.hB;omega
  ·have:=(H.out.far _ e).1;omega
 have hxk:0≤x∧x<F.length:=hpt x (List.mem_of_getElem? hx)
 have HX:=Lib.hid (show RES=QA F x d2 p2 (n+2) by
  have h:=HL.out
  simp only at h
  rw[hj,Int.toNat_natCast,List.getD_eq_getElem?_getD,hx] at h
  exact h)
 simp only[X3] at hsz hno
 have hsz1:xs.length+QK d2 p2≤1099511627776:=by unfold QK;omega
 have hno1:(n+1+1)+QK d2 p2≤1099511627776:=by unfold QK;omega
 clear hc1 hc2 hd2' hx;have e1:(n:Int)+1=((n+1:Nat):Int):=rfl;refine yn<|y0<|ys<|yn<|yq<|yr<|yo zM ?_;refine Q1 (Qp rfl rfl (by decide) rfl rfl) ?_;refine yo zF<|yo (zB 2)<|yo zP ?_;refine Q1 (Qp rfl rfl (by decide) rfl rfl) ?_;refine yo zF ?_;refine yS 2 ?_;refine yl<|yn<|yq<|yr<|yo zF<|yo (zB 0)<|yl<|yn<|yb<|yq<|yr<|yo zef<|yo zA<|yl<|yn<|y0<|yq<|yq<|yr<|yo zef<|yo zA<|yl<|yn<|y0<|yr<|yo zef<|yo zA<|yl<|yn<|y0<|yq<|yr<|yo zef<|yo zA<|yl<|yn<|y0<|yq<|yr<|yo zef<|yo zA<|yl<|yn<|y0<|yq<|yr<|yo zef<|yo zA<|yl<|yn<|y0<|yq<|yr<|yo zef<|yo zA<|yl<|yn<|y0<|yq<|yr<|yo zef<|yo zA<|yl<|yn<|y0<|yq<|yr<|yo zet<|yo zA<|yl ?_;rw[e1];refine yn<|y1<|yq<|yr<|yo zM ?_;refine Q1 (Qp rfl rfl (by decide) rfl rfl) ?_;refine yo zF<|yo (zB 2)<|yo zP ?_;refine Q1 (Qp rfl rfl (by decide) rfl rfl) ?_;refine yo zF ?_;refine yS 2 ?_;refine yl<|yn ?_;have e2:((n+1:Nat):Int)+1=((n+1+1:Nat):Int):=rfl;rw[e2];refine JR (B:=Vb RES (wM g A xs.length c) W) [.blk b6 (.cells ([.string ⟨name.toArray⟩,.int .i64 8,.slice Ab bs.length cb,.int .i64 size,.bool big,.int .i64 mn,.int .i64 mx,.int .i64 stop,.int .i64 count,.int .i64 elem,.slice An names.length cn,.slice (some ⟨bp,op,none⟩) parts.length cp]:List Value).toArray 65 (0,0)),.blk b5 (.cells ([.int .i64 dk,.int .i64 dn,.slice Abv dbs.length cbv,.slice Anv dns.length cnv,.slice (some ⟨bv0,ov0,none⟩) (VF.cons d1 p1 (.cons d2 p2 .nil)).len cpv]:List Value).toArray 30 (0,0))] [14] (by kernel_rfl) ?_ ?_
 ·infer_instance
 refine Xp 0 rfl (by kernel_rfl) (Q2.sel [0,1] (by decide) rfl) zM ?_;refine Xp 1 rfl (by kernel_rfl) (Q2.sel [0,1] (by decide) rfl) zF ?_;refine Xp 2 rfl (by kernel_rfl) (Q2.sel [0,1] (by decide) rfl) (zB 0) ?_;refine Xp 3 rfl (by kernel_rfl) (Q2.sel [0,1] (by decide) rfl) zF ?_;refine Xp 4 rfl (by kernel_rfl) (Q2.sel [0,1] (by decide) rfl) (zB 1) ?_;refine Xp 5 rfl (by kernel_rfl) (Q2.sel [0,1] (by decide) rfl) (QY (j:=0) rfl rfl (by decide) rfl rfl rfl (Nat.succ_pos _)) ?_;refine Xp 6 rfl (by kernel_rfl) (Q2.sel [0,1] (by decide) rfl) zF ?_;refine Xp 7 rfl (by kernel_rfl) (Q2.sel [0,1] (by decide) rfl) (QW rfl rfl (by decide) rfl rfl (fun w hw=>hw.cell_old hcn hbvM)) ?_;refine Xp 8 rfl (by kernel_rfl) (Q2.sel [0,1] (by decide) rfl) (zi1 (j:=j) (hj:=hjp)) ?_;refine Xp 9 rfl (by kernel_rfl) (Q2.sel [0,1] (by decide) rfl) (QW rfl rfl (by decide) rfl rfl (fun w hw=>hw.cell_old hcx hbpM)) ?_;refine Xp 10 rfl (by kernel_rfl) (Q2.sel [0,1] (by decide) rfl) zF ?_;refine Xp 11 rfl (by kernel_rfl) (Q2.sel [0,1] (by decide) rfl) (zB 1) ?_;refine Xp 12 rfl (by kernel_rfl) (Q2.sel [0,1] (by decide) rfl) (QY (j:=1) rfl rfl (by decide) rfl rfl rfl (Nat.succ_lt_succ (Nat.succ_pos _))) ?_;refine Xp 13 rfl (by kernel_rfl) (Q2.sel [0,1] (by decide) rfl) (QB rfl rfl (by decide) rfl rfl (fun w hw=>hw.range_old hrv hbvM) rfl) ?_;refine Ks 14 (by kernel_rfl) rfl rfl (QV _ _ _ rfl rfl rfl (fun w hw=>(HALL.out.2.1 HGP.out.2.2.1 HGP.out.2.2.2.1 HFP.out.2.2.2.1 HFP.out.2.2.2.2.2.1 HFP.out.2.2.2.2.1 w A c xs (n+1+1) x _ hxk (H.out.nextW hw 2 3 rfl rfl) (HV2.out.below (H.out.below hw.k) (Nat.le_refl _)) hsz1 hno1).mono (fun e w' h=>Q0T 2 3 (by decide) hw rfl rfl (fun x hx=>HX.out.trans hx) h))) (fun i=>.inl (by decide)) rfl (by decide) (fun y hy=>?_);refine Q4s ?_ (by kernel_rfl);obtain⟨uy,um,uA,uc⟩:=y;obtain⟨hz1,hz2,hz3⟩:=hy
 replace hz2:uy.length≤QK d2 p2:=hz2
 replace hz3:um≤n+1+1+QK d2 p2:=hz3
 have HZ:=Lib.hid (show RES=.ok (uy,um) from HX.out.trans hz1);clear hz1
 unfold QK at hz2 hz3
 simp only[X3]
 refine yd ?_;exact XT (by exact .inl rfl) rfl (fun w hw=>JB H.out 2 3 (b:=uy) (m:=um) hw rfl rfl HZ.out (by omega) (by omega))
structure Qw where
 i:Nat
 l:VF
 uy:List UInt8
 m:Nat
 A:Option Addr
 c:Nat
 Ar:Option Addr
 cr:Nat
theorem Q0w{s:List UInt8}{l:List (List UInt8)}:QZ (s::l)=if s=[] then QZ l else s::QZ l:=by
 unfold QZ
 by_cases h:s=[]
 ·rw[if_pos h,h];rfl
 ·rw[if_neg h,List.filter_cons_of_pos (by simpa using h)]
set_option maxRecDepth 100000 in
set_option maxHeartbeats 32000000 in
theorem QfS(hall:VF.All (WvC z B g F) p)(hgp:Kq p)(hfp:Zq p)(hv:Fm F)(hk:0≤k∧k<F.length)(h:XI W z B g F A c xs n)(hval:VIn W B v d p)(hd1:d.bs.length≤1048576)(hd2:d.ns.length≤1048576)(hn0:Xi d p.len=0)(hpl6:p.len≤1048576)(hsz:xs.length+QK d p≤1099511627776)(hno:n+QK d p≤1099511627776)(hfit:X8 F (Qd F k) d p=true)(hkind:(Qd F k).kind=7):
  Calls Tryz.prog 45 #[.pointer (some ⟨g,0,none⟩),.int .i64 k,v] W (WrE z g W A c xs (QA F k d p n) n (QK d p)):=by
 have H:=Lib.hid h;have HV0:=Lib.hid hv;have hwd:=h.wd;have hFn:=h.len;have hr:=hv.toUsd.rok hk
 have hfc:=fun(w:World) (Ab An Ap:Option Addr) (cb cn cp:Nat) (hw:XI w z B g F A c xs n) (hru:RuB w B (Qd F k) Ab cb An cn Ap cp) (hval:VIn w B v d p)=>XW hw hv hk hru hval hd1 hd2
 rw[hfit] at hfc;obtain⟨RES,hres⟩:∃x,QA F k d p n=x:=⟨_,rfl⟩;have HVAL:=Lib.hid hval;have HALL:=Lib.hid hall;have HGP:=Lib.hid hgp;have HFP:=Lib.hid hfp;clear hall hgp hfp;have HK0:=Lib.hid (show (Qd F k).kind=7 from hkind)
 have hpn:p.len=(QZ (Qd F k).names).length:=by
  have hf:=hfit;rw[Q5u hkind,Bool.and_eq_true,beq_iff_eq,beq_iff_eq] at hf;rw[← hf.2];exact((Yp hn0).2.2.2.2 hf.1).symm
 have HL:=Lib.hid (show RES=KV F (Qd F k).names (Qd F k).parts p (n+1) by rw[← hres];exact QaK hfit hkind (hr.seven hkind).1 hpn);have hse:=hr.seven hkind;have hp12:=hr.p12;have hpt:=hr.parts (.inl hkind);rw[hres];obtain⟨Af,nn,cf⟩:=z
 simp only at hFn
 obtain⟨bf,of,haf,_⟩:=h.fm.2 (show 0<nn by omega)
 simp only at haf
 subst haf;obtain⟨hbB,Ab,cb,An,cn,Ap,cp,hrg,hru⟩:=h.fm.ruleB (k:=k) (by simp only;omega)
 have hbM:bf∉wM g A xs.length c:=fun hm=>by
  rcases Z3.1 hm with e|e
  ·have:=h.hB;omega
  ·have:=(h.far _ e).1;omega
 have hkn:0≤k∧k<(nn:Int):=by omega
 have hBW:B≤W.heap.size:=by have:=h.hB;have:=h.lt;omega
 replace hfc:=fun(w:World) (hw:XI w _ B g F A c xs n) (hr:RuB w B (Qd F k) Ab cb An cn Ap cp) (hvl:VIn w B v d p)=>hfc w Ab An Ap cb cn cp hw hr hvl
 clear h;obtain⟨r,er⟩:∃r,Qd F k=r:=⟨_,rfl⟩;rw[er] at hr hrg hru hfc HK0 HL hpn hse hp12 hpt;clear er hfit;obtain⟨sb,sn,sp,rfl,Abv,nb,cbv,Anv,nnv,cnv,Apv,cpv,rfl,rfl,rfl,hnb,hnn,hpl,hcm,hrb,hrn,hch⟩:=hval
 have hnbl:d.bs.length=nb:=by have:=hrb.len;rw[Xu] at this;exact this
 have hnnl:d.ns.length=nnv:=by have:=hrn.len;rw[XB] at this;exact this
 subst hnbl hnnl;have HRB:=Lib.hid hrb;have HCH:=Lib.hid hch;have HRU:=Lib.hid hru;have HRK:=Lib.hid hr;have HD:=Lib.hid (Eq.refl d);obtain⟨dk,dn,dbs,dns⟩:=d
 simp only[QK] at hsz hno hd1 hd2 hnb hnn ⊢
 clear hrb hrn hch hru hv;obtain⟨name,kind,bs,size,big,mn,mx,stop,count,elem,names,parts⟩:=r
 simp only[ruC] at hr hrg hfc HK0
 have HFC:=Lib.hid hfc;have HRUB:=Lib.hid (show Rd W B 1 Ab bs.length (bv bs) from HRU.out.b);clear hfc
 go_enter Tryz.func45,Tryz.ntmps45
 haveI:Pan (bodyPost Tryz.prog Tryz.f45 (WrE ⟨some ⟨bf,of,none⟩,nn,cf⟩ g W A c xs RES n (300+dbs.length+X3 p))) (Vb RES (wM g A xs.length c) W):=Pan.body fun ch w' ⟨x,h1,h2,h3⟩=>⟨h3,.inl ⟨x,h1,by rw[h2]⟩⟩
 refine QE (M:=wM g A xs.length c) (W:=W) (N:=223) (E:=[(0,.pointer (some ⟨g,0,none⟩)),(1,.int .i64 k),(2,.agg [.int .i64 dk,.int .i64 dn,.slice Abv dbs.length cbv,.slice Anv dns.length cnv,.slice Apv p.len cpv].toArray)]) (O:=[.blk g (.cells ([.slice (some ⟨bf,of,none⟩) nn cf,.slice A xs.length c,.int .i64 (n:Int)]:List Value).toArray 77 (0,0)),.row A xs.length c 5 1 (bv xs)]) ?_ (Ag.cons (Ag.cons (Ag.cons (Ag.nil rfl rfl) rfl) rfl) rfl) hwd;clear hwd;refine yq<|yr ?_;refine yB fun b5=>?_;refine yl<|yn<|yq<|yr<|yo zM ?_;refine Q1 (Qp rfl rfl (by decide) rfl rfl) ?_;refine yo zF<|yo zF<|yo (zB 1)<|yo zM ?_;refine Q1 (Qm rfl rfl (by decide) rfl rfl rfl hkn) ?_;refine Q1 (QB rfl rfl (by decide) rfl rfl (fun w hw=>hw.range_old hrg hbM) rfl) ?_;refine yA fun b6=>?_;refine yW 0 ?_;refine yl<|yn<|yq<|yq<|yr<|yo zM<|yo (zD 0)<|yo (zD 1) ?_;refine Q1 (Qb rfl rfl (by decide) rfl rfl (fun w hw=>HFC.out w (H.out.nextW hw 2 3 rfl rfl) (HRU.out.below (H.out.below hw.k)) (HVAL.out.below (H.out.below hw.k) (Nat.le_refl _)))) ?_;refine yo zO<|yl ?_;have hkd:kind=7:=HK0.out;subst hkd
 replace hse:names.length=parts.length∧1≤parts.length:=hse
 replace hp12:parts.length≤12:=hp12
 replace hpn:p.len=(QZ names).length:=hpn
 have HPT:=Lib.hid (show ∀x∈parts,0≤x∧x<(F.length:Int) from hpt);have HRP:=Lib.hid (show Rd W B 1 Ap parts.length (iv parts) from HRU.out.p);have HRN:=Lib.hid (show Rd W B 1 An names.length (sv names) from HRU.out.n);obtain⟨CP,hCP⟩:∃CP,X3 p=CP:=⟨_,rfl⟩;have HCP:=Lib.hid hCP;have HPN:=Lib.hid hpn;rw[hCP] at hsz hno;have HS0:=Lib.hid (show RES=apW [] (KV F (names.drop 0) (parts.drop 0) p (n+1)) by rw[JM];exact HL.out);have hpl0:=hpl
 have hfar:∀b,b<B→b∉wM g A xs.length c:=fun b hb hm=>by
  rcases Z3.1 hm with e|e
  ·have:=H.out.hB;omega
  ·have:=(H.out.far _ e).1;omega
 clear hpt hCP hpn;have e1:(n:Int)+1=((n+1:Nat):Int):=rfl;refine yn<|y0<|ys<|yn<|yq<|yr<|yo zM ?_;refine Q1 (Qp rfl rfl (by decide) rfl rfl) ?_;refine yo zF<|yo (zB 2)<|yo zP ?_;refine Q1 (Qp rfl rfl (by decide) rfl rfl) ?_;refine yo zF ?_;refine yS 2 ?_;refine yl<|yn<|yq<|yr<|yo zF<|yo (zB 0)<|yl<|yn<|yb<|yq<|yr<|yo zef<|yo zA<|yl<|yn<|y0<|yq<|yq<|yr<|yo zef<|yo zA<|yl<|yn<|y0<|yr<|yo zef<|yo zA<|yl<|yn<|y0<|yq<|yr<|yo zef<|yo zA<|yl<|yn<|y0<|yq<|yr<|yo zef<|yo zA<|yl<|yn<|y0<|yq<|yr<|yo zef<|yo zA<|yl<|yn<|y0<|yq<|yr<|yo zef<|yo zA<|yl<|yn<|y0<|yq<|yr<|yo zef<|yo zA<|yl<|yn<|y0<|yq<|yr<|yo zef<|yo zA<|yl<|yn<|y0<|yq<|yr<|yo zet<|yo zA<|yl ?_;rw[e1];refine yn<|y1<|yq<|yr<|yo zF<|yo (zB 1)<|yo zA<|yl<|yn<|yq<|yr<|yo zF<|yo (zB 0)<|yo zL<|yo zM<|yl<|yn<|yb ?_;refine Z8 (ι:=Qw) (fun y=>VF.All (WvC ⟨some ⟨bf,of,none⟩,nn,cf⟩ B g F) y.l∧Kq y.l∧Zq y.l∧(0<y.l.len→∃b o,y.Ar=some ⟨b,o,none⟩∧b<B∧FIn W B y.l b o)∧y.i≤parts.length∧y.l.len=(QZ (names.drop y.i)).length∧RES=apW y.uy (KV F (names.drop y.i) (parts.drop y.i) y.l y.m)∧y.uy.length+X3 y.l≤CP+16*y.i∧y.m+X3 y.l≤n+1+CP∧y.l.len≤y.cr) (fun y=>parts.length - y.i) (fun y=>[(0,.pointer (some ⟨g,0,none⟩)),(6,.pointer (some ⟨b6,0,none⟩)),(7,.slice y.Ar y.l.len y.cr),(184,.slice Ap parts.length cp),(185,.int .i64 (parts.length:Int)),(186,.int .i64 (y.i:Int))]) (fun y=>[.blk b6 (.cells ([.string ⟨name.toArray⟩,.int .i64 7,.slice Ab bs.length cb,.int .i64 size,.bool big,.int .i64 mn,.int .i64 mx,.int .i64 stop,.int .i64 count,.int .i64 elem,.slice An names.length cn,.slice Ap parts.length cp]:List Value).toArray 65 (0,0)),.blk g (.cells ([.slice (some ⟨bf,of,none⟩) nn cf,.slice y.A (xs++y.uy).length y.c,.int .i64 (y.m:Int)]:List Value).toArray 77 (0,0)),.row y.A (xs++y.uy).length y.c 5 1 (bv (xs++y.uy))]) ⟨0,p,[],n+1,A,c,Apv,cpv⟩ ⟨HALL.out,HGP.out,HFP.out,HCH.out,Nat.zero_le _,HPN.out,HS0.out,by show 0+X3 p≤CP+16*0;rw[HCP.out];omega,by show n+1+X3 p≤n+1+CP;rw[HCP.out];omega,hpl0⟩ (.cons rfl rfl (.cons rfl rfl (.cons rfl rfl (.cons rfl rfl (.cons rfl rfl (.cons rfl rfl .nil)))))) (fun w hw=>?_) ?_
 ·simp only[List.append_nil]
  exact hw.sel [0,2,3] (by decide)
 rintro⟨i,l,uy,m,A',c',Ar,cr⟩ ⟨hall,hgl,hfl,hch,hi,hln,hres,hy,hm,hcr⟩
 replace hi:i≤parts.length:=hi
 replace hy:uy.length+X3 l≤CP+16*i:=hy
 replace hm:m+X3 l≤n+1+CP:=hm
 replace hcr:l.len≤cr:=hcr
 have HLN:=Lib.hid (show l.len=(QZ (names.drop i)).length from hln);have HR:=Lib.hid (show RES=apW uy (KV F (names.drop i) (parts.drop i) l m) from hres);have HAL:=Lib.hid (show VF.All (WvC ⟨some ⟨bf,of,none⟩,nn,cf⟩ B g F) l from hall);have HGL:=Lib.hid (show Kq l from hgl);have HFL:=Lib.hid (show Zq l from hfl);have HCL:=Lib.hid (show 0<l.len→∃b o,Ar=some ⟨b,o,none⟩∧b<B∧FIn W B l b o from hch);clear hall hgl hfl hch hres hln
 show sE _ _ _ _ _ [(0,.pointer (some ⟨g,0,none⟩)),(6,.pointer (some ⟨b6,0,none⟩)),(7,.slice Ar l.len cr),(184,.slice Ap parts.length cp),(185,.int .i64 (parts.length:Int)),(186,.int .i64 (i:Int))] [.blk b6 (.cells ([.string ⟨name.toArray⟩,.int .i64 7,.slice Ab bs.length cb,.int .i64 size,.bool big,.int .i64 mn,.int .i64 mx,.int .i64 stop,.int .i64 count,.int .i64 elem,.slice An names.length cn,.slice Ap parts.length cp]:List Value).toArray 65 (0,0)),.blk g (.cells ([.slice (some ⟨bf,of,none⟩) nn cf,.slice A' (xs++uy).length c',.int .i64 (m:Int)]:List Value).toArray 77 (0,0)),.row A' (xs++uy).length c' 5 1 (bv (xs++uy))] _
 by_cases hlt:i<parts.length
 case neg=>
  have HZ:=Lib.hid (show RES=.ok (uy,m) by
   rw[HR.out,List.drop_of_length_le (l:=parts) (by omega),List.drop_of_length_le (l:=names) (by omega)]
   show Except.ok (uy++[],m)=_
   rw[List.append_nil])
  have hz1:uy.length≤300+dbs.length+X3 p:=by rw[HCP.out];omega
  have hz2:m≤n+(300+dbs.length+X3 p):=by rw[HCP.out];omega
  refine yq<|yr<|yo zlf<|yl<|yn<|yq<|y0<|ye<|yx<|yx<|yu<|yd ?_;exact XT (by exact .inl rfl) rfl (fun w hw=>JB H.out 1 2 (b:=uy) hw rfl rfl HZ.out hz1 hz2)
 case pos=>
  obtain⟨bp,op,x,rfl,hbp,hx,hcx⟩:=Q1V HRP.out hlt;obtain⟨bm,om,s,rfl,hbm,hs,hcs⟩:=YW HRN.out (show i<names.length by omega);have hxk:=HPT.out x (List.mem_of_getElem? hx);have hbpM:=hfar bp hbp;have hbmM:=hfar bm hbm
  have HR2:=Lib.hid (show RES=apW uy (KV F (s.data.toList::names.drop (i+1)) (x::parts.drop (i+1)) l m) by
   have h:=HR.out;rw[Yz hx,Yz hs] at h
   exact h)
  have HLN2:=Lib.hid (show l.len=(QZ (s.data.toList::names.drop (i+1))).length by
   have h:=HLN.out;rw[Yz hs] at h
   exact h)
  clear hx hs
  by_cases hz:s.data.toList=[]
  ·have hst:(s.data.toList==(⟨#[]⟩:ByteArray).data.toList)=true:=by rw[hz];rfl
   obtain⟨hbB2,Ab2,cb2,An2,cn2,Ap2,cp2,hrg2,hru2⟩:=H.out.fm.ruleB (k:=x) (by simp only;exact⟨hxk.1,by rw[← hFn];exact hxk.2⟩);have hxn:0≤x∧x<(nn:Int):=⟨hxk.1,by rw[← hFn];exact hxk.2⟩;have hb16:=(HV0.out.toUsd.rok hxk).bs16;obtain⟨r2,er2⟩:∃r,Qd F x=r:=⟨_,rfl⟩
   have HN0:=Lib.hid (show RES=apW (uy++r2.bs) (KV F (names.drop (i+1)) (parts.drop (i+1)) l m) by
    rw[HR2.out,Q1t,if_pos hz,er2,Q0H])
   rw[er2] at hrg2 hru2 hb16;have HRB2:=Lib.hid (show Rd W B 1 Ab2 r2.bs.length (bv r2.bs) from hru2.b);clear hru2 er2;obtain⟨us,hzs⟩:∃us,r2.bs=us:=⟨_,rfl⟩
   simp only[ruC,hzs] at hrg2
   rw[hzs] at hb16 HN0 HRB2;have hc2:W.cell? ⟨bf,of+x.toNat*12+2,none⟩=some (.slice Ab2 us.length cb2):=hrg2 2 _ rfl;clear hrg2 hzs
   have hl1:(xs++uy).length+us.length=(xs++(uy++us)).length:=by simp only[List.length_append];omega
   have hb1:bv (xs++uy)++bv us=bv (xs++(uy++us)):=by unfold bv;simp
   have hbnd:(xs++uy).length≤1099511627776+16*i:=by rw[List.length_append];omega
   refine yq<|yr<|yo zlt<|yl<|yn<|yq<|y1<|ys<|yn<|yq<|yb<|yq<|yr<|yo zM<|yo (zi1 (hj:=hlt)) ?_;refine Q1 (QW rfl rfl (by decide) rfl rfl (fun w hw=>hw.cell_old hcx hbpM)) ?_;refine yo zA<|yo zA<|yl<|yn<|yq<|yq<|yr<|yo zF<|yo (zB 0)<|yo zM ?_;refine Q1 (QS rfl rfl (by decide) rfl rfl rfl (show i<names.length by omega)) ?_;refine Q1 (QW rfl rfl (by decide) rfl rfl (fun w hw=>hw.cell_old hcs hbmM)) ?_;refine Q1 (Q09 rfl rfl (by decide) rfl rfl rfl hst) ?_;refine yl<|yn<|y1<|yq ?_;refine XQ [.blk g (.cells ([.slice (some ⟨bf,of,none⟩) nn cf,.slice A' (xs++uy).length c',.int .i64 (m:Int)]:List Value).toArray 77 (0,0))] [17] (by kernel_rfl) ?_;refine Qe 0 rfl (by kernel_rfl) (Q2.sel [1] (by decide) rfl) zM ?_;refine Qe 1 rfl (by kernel_rfl) (Q2.sel [1] (by decide) rfl) zM ?_;refine Qe 2 rfl (by kernel_rfl) (Q2.sel [1] (by decide) rfl) (Qp rfl rfl (by decide) rfl rfl) ?_;refine Qe 3 rfl (by kernel_rfl) (Q2.sel [1] (by decide) rfl) zF ?_;refine Qe 4 rfl (by kernel_rfl) (Q2.sel [1] (by decide) rfl) (zB 0) ?_;refine Qe 5 rfl (by kernel_rfl) (Q2.sel [1] (by decide) rfl) zM ?_;refine Qe 6 rfl (by kernel_rfl) (Q2.sel [1] (by decide) rfl) (Qp rfl rfl (by decide) rfl rfl) ?_;refine Qe 7 rfl (by kernel_rfl) (Q2.sel [1] (by decide) rfl) zF ?_;refine Qe 8 rfl (by kernel_rfl) (Q2.sel [1] (by decide) rfl) zF ?_;refine Qe 9 rfl (by kernel_rfl) (Q2.sel [1] (by decide) rfl) (zB 0) ?_;refine Qe 10 rfl (by kernel_rfl) (Q2.sel [1] (by decide) rfl) zM ?_;refine Qe 11 rfl (by kernel_rfl) (Q2.sel [1] (by decide) rfl) (Qm rfl rfl (by decide) rfl rfl rfl hxn) ?_;refine Qe 12 rfl (by kernel_rfl) (Q2.sel [1] (by decide) rfl) zF ?_;refine Qe 13 rfl (by kernel_rfl) (Q2.sel [1] (by decide) rfl) (QW rfl rfl (by decide) rfl rfl (fun w hw=>hw.cell_old hc2 hbM)) ?_;refine QC 14 (by kernel_rfl) rfl rfl (X9 2 rfl rfl rfl rfl rfl (fun w hw=>(HRB2.out.below (H.out.below hw.k)).more (by have:=hw.k.size;omega)) (ZO _) (by omega)) (fun _=>.inr (Q2.sel [1] (by decide) rfl)) rfl (by decide) (fun z1 _=>?_);rw[hl1,hb1];refine Qe 15 rfl (by kernel_rfl) (Q2.sel [1] (by decide) rfl) (Qp rfl rfl (by decide) rfl rfl) ?_;refine Qe 16 rfl (by kernel_rfl) (Q2.sel [1] (by decide) rfl) zF ?_;refine Qu 17 (by kernel_rfl) rfl rfl (X0 1 rfl rfl rfl rfl rfl rfl rfl) (fun _=>.inl (by decide)) rfl (fun _ _=>?_);refine Xh ?_ (by kernel_rfl);refine yn<|ye<|yn<|yr<|yo zP<|yo zM<|yl ?_;refine Xb ⟨i+1,l,uy++us,m,z1.1,z1.2,Ar,cr⟩ ⟨HAL.out,HGL.out,HFL.out,HCL.out,hlt,by show l.len=(QZ (names.drop (i+1))).length;rw[HLN2.out,Q0w,if_pos hz],HN0.out,by show (uy++us).length+X3 l≤CP+16*(i+1);rw[List.length_append];omega,hm,hcr⟩ (by show parts.length - (i+1)<parts.length - i;omega) (.cons rfl rfl (.cons rfl rfl (.cons rfl rfl (.cons rfl rfl (.cons rfl rfl (.cons rfl (by go_num) .nil)))))) (fun w hw=>hw)
  ·have hst:(s.data.toList==(⟨#[]⟩:ByteArray).data.toList)=false:=beq_eq_false_iff_ne.2 hz
   cases l with
   |nil=>
    have h:=HLN2.out;rw[Q0w,if_neg hz] at h
    simp [VF.len] at h
   |cons d1 p1 r1=>
    obtain⟨bq,oq,hAr,hbq,⟨sb1,sn1,sp1,hc5,hd5⟩,hrest⟩:=HCL.out (Nat.succ_pos _);subst hAr;have HV1:=Lib.hid (show VIn W B (.agg #[.int .i64 d1.k,.int .i64 d1.n,sb1,sn1,sp1]) d1 p1 from ⟨sb1,sn1,sp1,rfl,hd5⟩);have hrgv:=hc5.range;have HRS:=Lib.hid hrest;have hbqM:=hfar bq hbq;clear hc5 hd5 hrest
    simp only[X3] at hy hm
    have hlen1:(VF.cons d1 p1 r1).len=r1.len+1:=rfl;rw[hlen1] at hcr ⊢
    have hsz1:(xs++uy).length+QK d1 p1≤1099511627776:=by rw[List.length_append];unfold QK;omega
    have hno1:m+QK d1 p1≤1099511627776:=by unfold QK;omega
    have HR3:=Lib.hid (show RES=apW uy (bnW (QA F x d1 p1 m) fun m=>KV F (names.drop (i+1)) (parts.drop (i+1)) r1 m) by
     rw[HR2.out,Q1t,if_neg hz])
    refine yq<|yr<|yo zlt<|yl<|yn<|yq<|y1<|ys<|yn<|yq<|yb<|yq<|yr<|yo zM<|yo (zi1 (hj:=hlt)) ?_;refine Q1 (QW rfl rfl (by decide) rfl rfl (fun w hw=>hw.cell_old hcx hbpM)) ?_;refine yo zA<|yo zA<|yl<|yn<|yq<|yq<|yr<|yo zF<|yo (zB 0)<|yo zM ?_;refine Q1 (QS rfl rfl (by decide) rfl rfl rfl (show i<names.length by omega)) ?_;refine Q1 (QW rfl rfl (by decide) rfl rfl (fun w hw=>hw.cell_old hcs hbmM)) ?_;refine Q1 (Q09 rfl rfl (by decide) rfl rfl rfl hst) ?_;refine yl<|yn<|y0<|ys<|yn<|yq<|yr<|yo zM<|yo zM<|yo zM ?_;refine Q1 (QY (j:=0) rfl rfl (by decide) rfl rfl rfl (Nat.succ_pos _)) ?_;refine Q1 (QB rfl rfl (by decide) rfl rfl (fun w hw=>hw.range_old hrgv hbqM) rfl) ?_;refine XY (QV _ _ _ rfl rfl rfl (fun w hw=>(HAL.out.1 HGL.out.1 HGL.out.2.1 HFL.out.1 HFL.out.2.2.1 HFL.out.2.1 w A' c' (xs++uy) m x _ hxk (H.out.nextW hw 1 2 rfl rfl) (HV1.out.below (H.out.below hw.k) (Nat.le_refl _)) hsz1 hno1).mono (fun e w' h=>Q0T 1 2 (by decide) hw rfl rfl (fun x hx=>by rw[HR3.out,hx];rfl) h))) rfl (by decide) (fun y hy2=>?_);refine yl ?_;obtain⟨ub,um,uA,uc⟩:=y;obtain⟨hy3,hy4,hy5⟩:=hy2
    replace hy3:QA F x d1 p1 m=.ok (ub,um):=hy3
    replace hy4:ub.length≤QK d1 p1:=hy4
    replace hy5:um≤m+QK d1 p1:=hy5
    have HN:=Lib.hid (show RES=apW (uy++ub) (KV F (names.drop (i+1)) (parts.drop (i+1)) r1 um) by rw[HR3.out,hy3,Qba,Q0H]);clear hy3
    unfold QK at hy4 hy5
    refine yn<|yr<|yo zM ?_;refine Q1 (Yu (l:=1) rfl rfl (by decide) rfl rfl rfl (by omega)) ?_;refine yo zA<|yl<|yn<|yr<|yo zP<|yo zM<|yl ?_
    refine Xb ⟨i+1,r1,uy++ub,um,uA,uc,ZU (some ⟨bq,oq,none⟩) cr 1 5,cr - 1⟩ ⟨HAL.out.2,HGL.out.2.2,HFL.out.2.2.2,fun h0=>⟨bq,oq+5,by show ZU _ cr 1 5=_;unfold ZU;rw[if_neg (by have:0<r1.len:=h0;omega)];rfl,hbq,HRS.out⟩,hlt,by
     show r1.len=(QZ (names.drop (i+1))).length
     have h:=HLN2.out;rw[Q0w,if_neg hz] at h
     simp only[VF.len,List.length_cons] at h
     omega,HN.out,by show (uy++ub).length+X3 r1≤CP+16*(i+1);rw[List.length_append];omega,by show um+X3 r1≤n+1+CP;omega,by show r1.len≤cr - 1;omega⟩ (by show parts.length - (i+1)<parts.length - i;omega) (.cons rfl rfl (.cons rfl rfl (.cons rfl rfl (.cons rfl rfl (.cons rfl rfl (.cons rfl (by go_num) .nil)))))) (fun w hw=>?_)
    simp only[← List.append_assoc]
    exact hw
end
end Go.Proofs.YtphkhfdmlcnoeaaGreatDoor
