import Derived.Test.YtphkhfdmlcnoeaaGreatDoorP33
namespace Go.Proofs.YtphkhfdmlcnoeaaGreatDoor
set_option linter.unusedVariables false
set_option linter.unusedSimpArgs false
open Go.RowKit
section
variable {P:Program}{ops:Array Oper}{Q:Exit→Act→World→Prop}{N:Nat}{M:List Nat}{W:World}{E:Env}{O:List Qc}{o:Oper}{rest:List Oper}{B:List PanicEntry→World→Prop}{C:World→Prop}{d:Nat}
theorem Qdb[dq:DQ]{t:TypeId}{x:Operand}{v:Value}[hB:Pan Q B](ho:o.op=.panic x)(hw:Qj ops E o=some true)(hx:ev E x=some (.iface t v))(h:∀w,Wd M W O w→B [{ v:=.iface t v,recovered:=false }] w):lE P ops Q N M W E O (o::rest):=fun a w ha hW=>by
 refine wpList_step fun K hK=>?_
 rw[if_pos (ha.want hw)]
 have hr:∀ρ:Operand→Value,ρ x=.iface t v→(execOp ρ o).run P w=.halt (.panic (.iface t v)) w:=fun ρ hx=>by simp [execOp,ho,hx,go_sem]
 unfold Oper.wp
 rw[hr a.eval (ha.eval hx)];exact hB.on a _ w ha.df (h w hW)
theorem Qf6[dq:DQ]{t:TypeId}{x:Operand}{v:Value}(hm:∀w,(Instr.makeInterface t v).run P w=.ok (.iface t v) w)(ho:o.op=.makeInterface t x)(hd:o.dst=some d)(hN:d<N)(hw:Qj ops E o=some true)(hx:ev E x=some v):oE P ops C N E ((d,.iface t v)::E) o:=
 Xq hd hN hw fun ρ w ha _=>by
  simp only[execOp,ho,ha.eval hx,Sem.run_bind,hm w,Result.andThen_ok]
  rfl
end
section
variable {W w w':World}{z:Wz}{B g c n:Nat}{F:List Rl}{A:Option Addr}{xs:List UInt8}{k:Int}{d:Nd}{p:VF}{v:Value}
set_option maxRecDepth 100000 in
set_option maxHeartbeats 32000000 in
theorem QeA(hv:Fm F)(hk:0≤k∧k<F.length)(h:XI W z B g F A c xs n)(hval:VIn W B v d p)(hd1:d.bs.length≤1048576)(hd2:d.ns.length≤1048576)(hn0:Xi d p.len=0)(hpl6:p.len≤1048576)(hsz:xs.length+QK d p≤1099511627776)(hno:n+QK d p≤1099511627776)(hfit:X8 F (Qd F k) d p=false):
  Calls Tryz.prog 45 #[.pointer (some ⟨g,0,none⟩),.int .i64 k,v] W (WrE z g W A c xs (QA F k d p n) n (QK d p)):=by
 have H:=Lib.hid h;have HV0:=Lib.hid hv;have hwd:=h.wd;have hFn:=h.len;have hr:=hv.toUsd.rok hk
 have hfc:=fun(w:World) (Ab An Ap:Option Addr) (cb cn cp:Nat) (hw:XI w z B g F A c xs n) (hru:RuB w B (Qd F k) Ab cb An cn Ap cp) (hval:VIn w B v d p)=>XW hw hv hk hru hval hd1 hd2
 rw[hfit] at hfc;obtain⟨RES,hres⟩:∃x,QA F k d p n=x:=⟨_,rfl⟩;have HVAL:=Lib.hid hval;have HK0:=Lib.hid (show Qd F k=Qd F k from rfl);have HZ:=Lib.hid (show RES=.error n by rw[← hres,Q7V hfit]);rw[hres];obtain⟨Af,nn,cf⟩:=z
 simp only at hFn
 obtain⟨bf,of,haf,_⟩:=h.fm.2 (show 0<nn by omega)
 simp only at haf
 subst haf;obtain⟨hbB,Ab,cb,An,cn,Ap,cp,hrg,hru⟩:=h.fm.ruleB (k:=k) (by simp only;omega)
 have hbM:bf∉wM g A xs.length c:=fun hm=>by
  rcases Z3.1 hm with e|e
  ·have:=h.hB;omega
  ·have:=(h.far _ e).1;omega
 have hkn:0≤k∧k<(nn:Int):=by omega
 have hBW:B≤W.heap.size:=by have:=h.hB;have:=h.lt;omega
 replace hfc:=fun(w:World) (hw:XI w _ B g F A c xs n) (hr:RuB w B (Qd F k) Ab cb An cn Ap cp) (hvl:VIn w B v d p)=>hfc w Ab An Ap cb cn cp hw hr hvl
 clear h;obtain⟨r,er⟩:∃r,Qd F k=r:=⟨_,rfl⟩;rw[er] at hr hrg hru hfc HK0;clear er hfit;obtain⟨sb,sn,sp,rfl,Abv,nb,cbv,Anv,nnv,cnv,Apv,cpv,rfl,rfl,rfl,hnb,hnn,hpl,hcm,hrb,hrn,hch⟩:=hval
 have hnbl:d.bs.length=nb:=by have:=hrb.len;rw[Xu] at this;exact this
 have hnnl:d.ns.length=nnv:=by have:=hrn.len;rw[XB] at this;exact this
 subst hnbl hnnl;have HRB:=Lib.hid hrb;have HCH:=Lib.hid hch;have HRU:=Lib.hid hru;have HRK:=Lib.hid hr;have HD:=Lib.hid (Eq.refl d);obtain⟨dk,dn,dbs,dns⟩:=d
 simp only[QK] at hsz hno hd1 hd2 hnb hnn ⊢
 clear hrb hrn hch hru hv;obtain⟨name,kind,bs,size,big,mn,mx,stop,count,elem,names,parts⟩:=r
 simp only[ruC] at hr hrg hfc HK0
 have HFC:=Lib.hid hfc;have HRUB:=Lib.hid (show Rd W B 1 Ab bs.length (bv bs) from HRU.out.b);clear hfc
 go_enter Tryz.func45,Tryz.ntmps45
 haveI:Pan (bodyPost Tryz.prog Tryz.f45 (WrE ⟨some ⟨bf,of,none⟩,nn,cf⟩ g W A c xs RES n (300+dbs.length+X3 p))) (Vb RES (wM g A xs.length c) W):=Pan.body fun ch w' ⟨x,h1,h2,h3⟩=>⟨h3,.inl ⟨x,h1,by rw[h2]⟩⟩
 refine QE (M:=wM g A xs.length c) (W:=W) (N:=223) (E:=[(0,.pointer (some ⟨g,0,none⟩)),(1,.int .i64 k),(2,.agg [.int .i64 dk,.int .i64 dn,.slice Abv dbs.length cbv,.slice Anv dns.length cnv,.slice Apv p.len cpv].toArray)]) (O:=[.blk g (.cells ([.slice (some ⟨bf,of,none⟩) nn cf,.slice A xs.length c,.int .i64 (n:Int)]:List Value).toArray 77 (0,0)),.row A xs.length c 5 1 (bv xs)]) ?_ (Ag.cons (Ag.cons (Ag.cons (Ag.nil rfl rfl) rfl) rfl) rfl) hwd;clear hwd;refine yq<|yr ?_;refine yB fun b5=>?_;refine yl<|yn<|yq<|yr<|yo zM ?_;refine Q1 (Qp rfl rfl (by decide) rfl rfl) ?_;refine yo zF<|yo zF<|yo (zB 1)<|yo zM ?_;refine Q1 (Qm rfl rfl (by decide) rfl rfl rfl hkn) ?_;refine Q1 (QB rfl rfl (by decide) rfl rfl (fun w hw=>hw.range_old hrg hbM) rfl) ?_;refine yA fun b6=>?_;refine yW 0 ?_;refine yl<|yn<|yq<|yq<|yr<|yo zM<|yo (zD 0)<|yo (zD 1) ?_;refine Q1 (Qb rfl rfl (by decide) rfl rfl (fun w hw=>HFC.out w (H.out.nextW hw 2 3 rfl rfl) (HRU.out.below (H.out.below hw.k)) (HVAL.out.below (H.out.below hw.k) (Nat.le_refl _)))) ?_;refine yo zO<|yl<|yn<|y1<|yr<|yo zM ?_;refine Q1 (Qp rfl rfl (by decide) rfl rfl) ?_;refine yo zF<|yo (zB 2) ?_;refine Q1 (Qb rfl rfl (by decide) rfl rfl (fun w hw=>(J5 _ _ w).mono (fun e w2 h=>⟨h.1,h.2▸Zm _ _⟩))) ?_;refine Q1 (Qf6 (fun w=>by kernel_rfl) rfl rfl (by decide) rfl rfl) ?_;exact Qdb rfl rfl rfl (fun w hw=>⟨n,HZ.out,rfl,hw.k⟩)
set_option maxRecDepth 100000 in
set_option maxHeartbeats 32000000 in
theorem Qg3(hv:Fm F)(hk:0≤k∧k<F.length)(h:XI W z B g F A c xs n)(hval:VIn W B v d p)(hd1:d.bs.length≤1048576)(hd2:d.ns.length≤1048576)(hn0:Xi d p.len=0)(hpl6:p.len≤1048576)(hsz:xs.length+QK d p≤1099511627776)(hno:n+QK d p≤1099511627776)(hfit:X8 F (Qd F k) d p=true)(hkind:(Qd F k).kind=1):
  Calls Tryz.prog 45 #[.pointer (some ⟨g,0,none⟩),.int .i64 k,v] W (WrE z g W A c xs (QA F k d p n) n (QK d p)):=by
 have H:=Lib.hid h;have HV0:=Lib.hid hv;have hwd:=h.wd;have hFn:=h.len;have hr:=hv.toUsd.rok hk
 have hfc:=fun(w:World) (Ab An Ap:Option Addr) (cb cn cp:Nat) (hw:XI w z B g F A c xs n) (hru:RuB w B (Qd F k) Ab cb An cn Ap cp) (hval:VIn w B v d p)=>XW hw hv hk hru hval hd1 hd2
 rw[hfit] at hfc;obtain⟨RES,hres⟩:∃x,QA F k d p n=x:=⟨_,rfl⟩;have HVAL:=Lib.hid hval;have HL:=Lib.hid (show RES=.ok (Xy F (Qd F k) d p,n+1) by rw[← hres];exact Jj hfit (by unfold Za;rw[if_neg (by omega),if_neg (by omega),if_neg (by omega)]) (X6 (by omega) (by omega)));have HK0:=Lib.hid (show (Qd F k).kind=1∧Xy F (Qd F k) d p=(Qd F k).bs from ⟨hkind,by unfold Xy;rw[if_pos hkind]⟩);rw[HK0.out.2] at HL;rw[hres];obtain⟨Af,nn,cf⟩:=z
 simp only at hFn
 obtain⟨bf,of,haf,_⟩:=h.fm.2 (show 0<nn by omega)
 simp only at haf
 subst haf;obtain⟨hbB,Ab,cb,An,cn,Ap,cp,hrg,hru⟩:=h.fm.ruleB (k:=k) (by simp only;omega)
 have hbM:bf∉wM g A xs.length c:=fun hm=>by
  rcases Z3.1 hm with e|e
  ·have:=h.hB;omega
  ·have:=(h.far _ e).1;omega
 have hkn:0≤k∧k<(nn:Int):=by omega
 have hBW:B≤W.heap.size:=by have:=h.hB;have:=h.lt;omega
 replace hfc:=fun(w:World) (hw:XI w _ B g F A c xs n) (hr:RuB w B (Qd F k) Ab cb An cn Ap cp) (hvl:VIn w B v d p)=>hfc w Ab An Ap cb cn cp hw hr hvl
 clear h;obtain⟨r,er⟩:∃r,Qd F k=r:=⟨_,rfl⟩;rw[er] at hr hrg hru hfc HK0 HL;clear er hfit;obtain⟨sb,sn,sp,rfl,Abv,nb,cbv,Anv,nnv,cnv,Apv,cpv,rfl,rfl,rfl,hnb,hnn,hpl,hcm,hrb,hrn,hch⟩:=hval
 have hnbl:d.bs.length=nb:=by have:=hrb.len;rw[Xu] at this;exact this
 have hnnl:d.ns.length=nnv:=by have:=hrn.len;rw[XB] at this;exact this
 subst hnbl hnnl;have HRB:=Lib.hid hrb;have HCH:=Lib.hid hch;have HRU:=Lib.hid hru;have HRK:=Lib.hid hr;have HD:=Lib.hid (Eq.refl d);obtain⟨dk,dn,dbs,dns⟩:=d
 simp only[QK] at hsz hno hd1 hd2 hnb hnn ⊢
 clear hrb hrn hch hru hv;obtain⟨name,kind,bs,size,big,mn,mx,stop,count,elem,names,parts⟩:=r
 simp only[ruC] at hr hrg hfc HK0 HL
 have HFC:=Lib.hid hfc;have HRUB:=Lib.hid (show Rd W B 1 Ab bs.length (bv bs) from HRU.out.b);clear hfc
 go_enter Tryz.func45,Tryz.ntmps45
 haveI:Pan (bodyPost Tryz.prog Tryz.f45 (WrE ⟨some ⟨bf,of,none⟩,nn,cf⟩ g W A c xs RES n (300+dbs.length+X3 p))) (Vb RES (wM g A xs.length c) W):=Pan.body fun ch w' ⟨x,h1,h2,h3⟩=>⟨h3,.inl ⟨x,h1,by rw[h2]⟩⟩
 refine QE (M:=wM g A xs.length c) (W:=W) (N:=223) (E:=[(0,.pointer (some ⟨g,0,none⟩)),(1,.int .i64 k),(2,.agg [.int .i64 dk,.int .i64 dn,.slice Abv dbs.length cbv,.slice Anv dns.length cnv,.slice Apv p.len cpv].toArray)]) (O:=[.blk g (.cells ([.slice (some ⟨bf,of,none⟩) nn cf,.slice A xs.length c,.int .i64 (n:Int)]:List Value).toArray 77 (0,0)),.row A xs.length c 5 1 (bv xs)]) ?_ (Ag.cons (Ag.cons (Ag.cons (Ag.nil rfl rfl) rfl) rfl) rfl) hwd;clear hwd;refine yq<|yr ?_;refine yB fun b5=>?_;refine yl<|yn<|yq<|yr<|yo zM ?_;refine Q1 (Qp rfl rfl (by decide) rfl rfl) ?_;refine yo zF<|yo zF<|yo (zB 1)<|yo zM ?_;refine Q1 (Qm rfl rfl (by decide) rfl rfl rfl hkn) ?_;refine Q1 (QB rfl rfl (by decide) rfl rfl (fun w hw=>hw.range_old hrg hbM) rfl) ?_;refine yA fun b6=>?_;refine yW 0 ?_;refine yl<|yn<|yq<|yq<|yr<|yo zM<|yo (zD 0)<|yo (zD 1) ?_;refine Q1 (Qb rfl rfl (by decide) rfl rfl (fun w hw=>HFC.out w (H.out.nextW hw 2 3 rfl rfl) (HRU.out.below (H.out.below hw.k)) (HVAL.out.below (H.out.below hw.k) (Nat.le_refl _)))) ?_;refine yo zO<|yl ?_;obtain⟨hkd,_⟩:=HK0.out
 replace hkd:kind=1:=hkd
 subst hkd;have hb16:=hr.bs16
 replace hb16:bs.length≤16:=hb16
 have HZ:=Lib.hid (show RES=.ok (bs,n+1) from HL.out);have hl1:xs.length+bs.length=(xs++bs).length:=(List.length_append ..).symm
 have hb1:bv xs++bv bs=bv (xs++bs):=by unfold bv;rw[List.map_append]
 have e1:(n:Int)+1=((n+1:Nat):Int):=rfl;refine yn<|y0<|ys<|yn<|yq<|yr<|yo zM ?_;refine Q1 (Qp rfl rfl (by decide) rfl rfl) ?_;refine yo zF<|yo (zB 2)<|yo zP ?_;refine Q1 (Qp rfl rfl (by decide) rfl rfl) ?_;refine yo zF ?_;refine yS 2 ?_;refine yl<|yn<|yq<|yr<|yo zF<|yo (zB 0)<|yl<|yn<|yb<|yq<|yr<|yo zet<|yo zA<|yl<|yn<|y1 ?_;rw[e1];refine XQ [.blk b6 (.cells ([.string ⟨name.toArray⟩,.int .i64 1,.slice Ab bs.length cb,.int .i64 size,.bool big,.int .i64 mn,.int .i64 mx,.int .i64 stop,.int .i64 count,.int .i64 elem,.slice An names.length cn,.slice Ap parts.length cp]:List Value).toArray 65 (0,0)),.blk g (.cells ([.slice (some ⟨bf,of,none⟩) nn cf,.slice A xs.length c,.int .i64 (n+1:Int)]:List Value).toArray 77 (0,0))] [10] (by kernel_rfl) ?_;refine Qe 0 rfl (by kernel_rfl) (Q2.sel [0,2] (by decide) rfl) zM ?_;refine Qe 1 rfl (by kernel_rfl) (Q2.sel [0,2] (by decide) rfl) zM ?_;refine Qe 2 rfl (by kernel_rfl) (Q2.sel [0,2] (by decide) rfl) (Qp rfl rfl (by decide) rfl rfl) ?_;refine Qe 3 rfl (by kernel_rfl) (Q2.sel [0,2] (by decide) rfl) zF ?_;refine Qe 4 rfl (by kernel_rfl) (Q2.sel [0,2] (by decide) rfl) (zB 1) ?_;refine Qe 5 rfl (by kernel_rfl) (Q2.sel [0,2] (by decide) rfl) zF ?_;refine Qe 6 rfl (by kernel_rfl) (Q2.sel [0,2] (by decide) rfl) (zB 0) ?_;refine QC 7 (by kernel_rfl) rfl rfl (X9 3 rfl rfl rfl rfl rfl (fun w hw=>(HRUB.out.below (H.out.below hw.k)).more (by have:=hw.k.size;omega)) (ZO _) (by omega)) (fun _=>.inr (Q2.sel [0,2] (by decide) rfl)) rfl (by decide) (fun z1 _=>?_);rw[hl1,hb1];refine Qe 8 rfl (by kernel_rfl) (Q2.sel [0,2] (by decide) rfl) (Qp rfl rfl (by decide) rfl rfl) ?_;refine Qe 9 rfl (by kernel_rfl) (Q2.sel [0,2] (by decide) rfl) zF ?_;refine Qu 10 (by kernel_rfl) rfl rfl (X0 2 rfl rfl rfl rfl rfl rfl rfl) (fun _=>.inl (by decide)) rfl (fun _ _=>?_);refine Xh ?_ (by kernel_rfl);refine yd ?_;exact XT (by exact .inl rfl) rfl (fun w hw=>JB H.out 2 3 (b:=bs) hw rfl rfl HZ.out (by omega) (by omega))
set_option maxRecDepth 100000 in
set_option maxHeartbeats 32000000 in
theorem QfT(hv:Fm F)(hk:0≤k∧k<F.length)(h:XI W z B g F A c xs n)(hval:VIn W B v d p)(hd1:d.bs.length≤1048576)(hd2:d.ns.length≤1048576)(hn0:Xi d p.len=0)(hpl6:p.len≤1048576)(hsz:xs.length+QK d p≤1099511627776)(hno:n+QK d p≤1099511627776)(hfit:X8 F (Qd F k) d p=true)(hkind:(Qd F k).kind=2):
  Calls Tryz.prog 45 #[.pointer (some ⟨g,0,none⟩),.int .i64 k,v] W (WrE z g W A c xs (QA F k d p n) n (QK d p)):=by
 have H:=Lib.hid h;have HV0:=Lib.hid hv;have hwd:=h.wd;have hFn:=h.len;have hr:=hv.toUsd.rok hk
 have hfc:=fun(w:World) (Ab An Ap:Option Addr) (cb cn cp:Nat) (hw:XI w z B g F A c xs n) (hru:RuB w B (Qd F k) Ab cb An cn Ap cp) (hval:VIn w B v d p)=>XW hw hv hk hru hval hd1 hd2
 rw[hfit] at hfc;obtain⟨RES,hres⟩:∃x,QA F k d p n=x:=⟨_,rfl⟩;have HVAL:=Lib.hid hval;have HL:=Lib.hid (show RES=.ok (Xy F (Qd F k) d p,n+1) by rw[← hres];exact Jj hfit (by unfold Za;rw[if_neg (by omega),if_neg (by omega),if_neg (by omega)]) (X6 (by omega) (by omega)));have HK0:=Lib.hid (show (Qd F k).kind=2∧Xy F (Qd F k) d p=VN (Qd F k) d.n from ⟨hkind,by unfold Xy;rw[if_neg (by omega),if_pos (.inl hkind)]⟩);rw[HK0.out.2] at HL
 have hcnt:Ju (Qd F k) d.n=true:=by rw[Yv (.inl hkind),Bool.and_eq_true] at hfit;exact hfit.2
 have hNO:=J6.of hr (.inl hkind);rw[hres];obtain⟨Af,nn,cf⟩:=z
 simp only at hFn
 obtain⟨bf,of,haf,_⟩:=h.fm.2 (show 0<nn by omega)
 simp only at haf
 subst haf;obtain⟨hbB,Ab,cb,An,cn,Ap,cp,hrg,hru⟩:=h.fm.ruleB (k:=k) (by simp only;omega)
 have hbM:bf∉wM g A xs.length c:=fun hm=>by
  rcases Z3.1 hm with e|e
  ·have:=h.hB;omega
  ·have:=(h.far _ e).1;omega
 have hkn:0≤k∧k<(nn:Int):=by omega
 have hBW:B≤W.heap.size:=by have:=h.hB;have:=h.lt;omega
 replace hfc:=fun(w:World) (hw:XI w _ B g F A c xs n) (hr:RuB w B (Qd F k) Ab cb An cn Ap cp) (hvl:VIn w B v d p)=>hfc w Ab An Ap cb cn cp hw hr hvl
 clear h;obtain⟨r,er⟩:∃r,Qd F k=r:=⟨_,rfl⟩;rw[er] at hr hrg hru hfc HK0 HL hcnt hNO;clear er hfit;obtain⟨sb,sn,sp,rfl,Abv,nb,cbv,Anv,nnv,cnv,Apv,cpv,rfl,rfl,rfl,hnb,hnn,hpl,hcm,hrb,hrn,hch⟩:=hval
 have hnbl:d.bs.length=nb:=by have:=hrb.len;rw[Xu] at this;exact this
 have hnnl:d.ns.length=nnv:=by have:=hrn.len;rw[XB] at this;exact this
 subst hnbl hnnl;have HRB:=Lib.hid hrb;have HCH:=Lib.hid hch;have HRU:=Lib.hid hru;have HRK:=Lib.hid hr;have HD:=Lib.hid (Eq.refl d);obtain⟨dk,dn,dbs,dns⟩:=d
 simp only[QK] at hsz hno hd1 hd2 hnb hnn ⊢
 clear hrb hrn hch hru hv;obtain⟨name,kind,bs,size,big,mn,mx,stop,count,elem,names,parts⟩:=r
 have hnc:=fun(w:World) (hw:XI w ⟨some ⟨bf,of,none⟩,nn,cf⟩ B g F A c xs (n+1))=>YK hw (sb:=.slice Ab bs.length cb) (sn:=.slice An names.length cn) (sp:=.slice Ap parts.length cp) hNO hcnt (by omega)
 have hnl:=Kx hNO hcnt;obtain⟨uy,hys⟩:∃uy,VN ⟨name,kind,bs,size,big,mn,mx,stop,count,elem,names,parts⟩ dn=uy:=⟨_,rfl⟩
 simp only[hys] at hnc hnl HL
 simp only[ruC] at hr hrg hfc HK0 hnc
 have HNC:=Lib.hid hnc;clear hnc hNO hcnt;have HFC:=Lib.hid hfc;have HRUB:=Lib.hid (show Rd W B 1 Ab bs.length (bv bs) from HRU.out.b);clear hfc
 go_enter Tryz.func45,Tryz.ntmps45
 haveI:Pan (bodyPost Tryz.prog Tryz.f45 (WrE ⟨some ⟨bf,of,none⟩,nn,cf⟩ g W A c xs RES n (300+dbs.length+X3 p))) (Vb RES (wM g A xs.length c) W):=Pan.body fun ch w' ⟨x,h1,h2,h3⟩=>⟨h3,.inl ⟨x,h1,by rw[h2]⟩⟩
 refine QE (M:=wM g A xs.length c) (W:=W) (N:=223) (E:=[(0,.pointer (some ⟨g,0,none⟩)),(1,.int .i64 k),(2,.agg [.int .i64 dk,.int .i64 dn,.slice Abv dbs.length cbv,.slice Anv dns.length cnv,.slice Apv p.len cpv].toArray)]) (O:=[.blk g (.cells ([.slice (some ⟨bf,of,none⟩) nn cf,.slice A xs.length c,.int .i64 (n:Int)]:List Value).toArray 77 (0,0)),.row A xs.length c 5 1 (bv xs)]) ?_ (Ag.cons (Ag.cons (Ag.cons (Ag.nil rfl rfl) rfl) rfl) rfl) hwd;clear hwd;refine yq<|yr ?_;refine yB fun b5=>?_;refine yl<|yn<|yq<|yr<|yo zM ?_;refine Q1 (Qp rfl rfl (by decide) rfl rfl) ?_;refine yo zF<|yo zF<|yo (zB 1)<|yo zM ?_;refine Q1 (Qm rfl rfl (by decide) rfl rfl rfl hkn) ?_;refine Q1 (QB rfl rfl (by decide) rfl rfl (fun w hw=>hw.range_old hrg hbM) rfl) ?_;refine yA fun b6=>?_;refine yW 0 ?_;refine yl<|yn<|yq<|yq<|yr<|yo zM<|yo (zD 0)<|yo (zD 1) ?_;refine Q1 (Qb rfl rfl (by decide) rfl rfl (fun w hw=>HFC.out w (H.out.nextW hw 2 3 rfl rfl) (HRU.out.below (H.out.below hw.k)) (HVAL.out.below (H.out.below hw.k) (Nat.le_refl _)))) ?_;refine yo zO<|yl ?_;obtain⟨hkd,_⟩:=HK0.out
 replace hkd:kind=2:=hkd
 subst hkd;have HZ:=Lib.hid (show RES=.ok (uy,n+1) from HL.out);have e1:(n:Int)+1=((n+1:Nat):Int):=rfl;refine yn<|y0<|ys<|yn<|yq<|yr<|yo zM ?_;refine Q1 (Qp rfl rfl (by decide) rfl rfl) ?_;refine yo zF<|yo (zB 2)<|yo zP ?_;refine Q1 (Qp rfl rfl (by decide) rfl rfl) ?_;refine yo zF ?_;refine yS 2 ?_;refine yl<|yn<|yq<|yr<|yo zF<|yo (zB 0)<|yl<|yn<|yb<|yq<|yr<|yo zef<|yo zA<|yl<|yn<|y0<|yq<|yq<|yr<|yo zet<|yo zA<|yl ?_;rw[e1];refine yn<|y1<|ys<|yn<|y1<|yr<|yo zM<|yo (zD 0)<|yo zF<|yo (zB 1) ?_;refine XY (QV _ _ _ rfl rfl rfl (fun w hw=>(HNC.out w (H.out.nextW hw 2 3 rfl rfl)).mono (fun e w' h=>Q0T 2 3 (by decide) hw rfl rfl (fun x hx=>by cases hx) h))) rfl (by decide) (fun y hy=>?_);refine yl ?_;obtain⟨ub,um,uA,uc⟩:=y;obtain⟨hy1,hy2,hy3⟩:=hy
 injection hy1 with hy1
 injection hy1 with hyb hym
 simp only at hyb hym
 subst hyb hym;refine yd ?_;exact XT (by exact .inl rfl) rfl (fun w hw=>JB H.out 2 3 (b:=uy) hw rfl rfl HZ.out (by omega) (by omega))
set_option maxRecDepth 100000 in
set_option maxHeartbeats 32000000 in
theorem QfR(hv:Fm F)(hk:0≤k∧k<F.length)(h:XI W z B g F A c xs n)(hval:VIn W B v d p)(hd1:d.bs.length≤1048576)(hd2:d.ns.length≤1048576)(hn0:Xi d p.len=0)(hpl6:p.len≤1048576)(hsz:xs.length+QK d p≤1099511627776)(hno:n+QK d p≤1099511627776)(hfit:X8 F (Qd F k) d p=true)(hkind:(Qd F k).kind=3):
  Calls Tryz.prog 45 #[.pointer (some ⟨g,0,none⟩),.int .i64 k,v] W (WrE z g W A c xs (QA F k d p n) n (QK d p)):=by
 have H:=Lib.hid h;have HV0:=Lib.hid hv;have hwd:=h.wd;have hFn:=h.len;have hr:=hv.toUsd.rok hk
 have hfc:=fun(w:World) (Ab An Ap:Option Addr) (cb cn cp:Nat) (hw:XI w z B g F A c xs n) (hru:RuB w B (Qd F k) Ab cb An cn Ap cp) (hval:VIn w B v d p)=>XW hw hv hk hru hval hd1 hd2
 rw[hfit] at hfc;obtain⟨RES,hres⟩:∃x,QA F k d p n=x:=⟨_,rfl⟩;have HVAL:=Lib.hid hval;have HL:=Lib.hid (show RES=.ok (Xy F (Qd F k) d p,n+1) by rw[← hres];exact Jj hfit (by unfold Za;rw[if_neg (by omega),if_neg (by omega),if_neg (by omega)]) (X6 (by omega) (by omega)));have HK0:=Lib.hid (show (Qd F k).kind=3∧Xy F (Qd F k) d p=VN (Qd F k) d.n from ⟨hkind,by unfold Xy;rw[if_neg (by omega),if_pos (.inr hkind)]⟩);rw[HK0.out.2] at HL
 have hcnt:Ju (Qd F k) d.n=true:=by rw[Yv (.inr hkind),Bool.and_eq_true] at hfit;exact hfit.2
 have hNO:=J6.of hr (.inr hkind);rw[hres];obtain⟨Af,nn,cf⟩:=z
 simp only at hFn
 obtain⟨bf,of,haf,_⟩:=h.fm.2 (show 0<nn by omega)
 simp only at haf
 subst haf;obtain⟨hbB,Ab,cb,An,cn,Ap,cp,hrg,hru⟩:=h.fm.ruleB (k:=k) (by simp only;omega)
 have hbM:bf∉wM g A xs.length c:=fun hm=>by
  rcases Z3.1 hm with e|e
  ·have:=h.hB;omega
  ·have:=(h.far _ e).1;omega
 have hkn:0≤k∧k<(nn:Int):=by omega
 have hBW:B≤W.heap.size:=by have:=h.hB;have:=h.lt;omega
 replace hfc:=fun(w:World) (hw:XI w _ B g F A c xs n) (hr:RuB w B (Qd F k) Ab cb An cn Ap cp) (hvl:VIn w B v d p)=>hfc w Ab An Ap cb cn cp hw hr hvl
 clear h;obtain⟨r,er⟩:∃r,Qd F k=r:=⟨_,rfl⟩;rw[er] at hr hrg hru hfc HK0 HL hcnt hNO;clear er hfit;obtain⟨sb,sn,sp,rfl,Abv,nb,cbv,Anv,nnv,cnv,Apv,cpv,rfl,rfl,rfl,hnb,hnn,hpl,hcm,hrb,hrn,hch⟩:=hval
 have hnbl:d.bs.length=nb:=by have:=hrb.len;rw[Xu] at this;exact this
 have hnnl:d.ns.length=nnv:=by have:=hrn.len;rw[XB] at this;exact this
 subst hnbl hnnl;have HRB:=Lib.hid hrb;have HCH:=Lib.hid hch;have HRU:=Lib.hid hru;have HRK:=Lib.hid hr;have HD:=Lib.hid (Eq.refl d);obtain⟨dk,dn,dbs,dns⟩:=d
 simp only[QK] at hsz hno hd1 hd2 hnb hnn ⊢
 clear hrb hrn hch hru hv;obtain⟨name,kind,bs,size,big,mn,mx,stop,count,elem,names,parts⟩:=r
 have hnc:=fun(w:World) (hw:XI w ⟨some ⟨bf,of,none⟩,nn,cf⟩ B g F A c xs (n+1))=>YK hw (sb:=.slice Ab bs.length cb) (sn:=.slice An names.length cn) (sp:=.slice Ap parts.length cp) hNO hcnt (by omega)
 have hnl:=Kx hNO hcnt;obtain⟨uy,hys⟩:∃uy,VN ⟨name,kind,bs,size,big,mn,mx,stop,count,elem,names,parts⟩ dn=uy:=⟨_,rfl⟩
 simp only[hys] at hnc hnl HL
 simp only[ruC] at hr hrg hfc HK0 hnc
 have HNC:=Lib.hid hnc;clear hnc hNO hcnt;have HFC:=Lib.hid hfc;have HRUB:=Lib.hid (show Rd W B 1 Ab bs.length (bv bs) from HRU.out.b);clear hfc
 go_enter Tryz.func45,Tryz.ntmps45
 haveI:Pan (bodyPost Tryz.prog Tryz.f45 (WrE ⟨some ⟨bf,of,none⟩,nn,cf⟩ g W A c xs RES n (300+dbs.length+X3 p))) (Vb RES (wM g A xs.length c) W):=Pan.body fun ch w' ⟨x,h1,h2,h3⟩=>⟨h3,.inl ⟨x,h1,by rw[h2]⟩⟩
 refine QE (M:=wM g A xs.length c) (W:=W) (N:=223) (E:=[(0,.pointer (some ⟨g,0,none⟩)),(1,.int .i64 k),(2,.agg [.int .i64 dk,.int .i64 dn,.slice Abv dbs.length cbv,.slice Anv dns.length cnv,.slice Apv p.len cpv].toArray)]) (O:=[.blk g (.cells ([.slice (some ⟨bf,of,none⟩) nn cf,.slice A xs.length c,.int .i64 (n:Int)]:List Value).toArray 77 (0,0)),.row A xs.length c 5 1 (bv xs)]) ?_ (Ag.cons (Ag.cons (Ag.cons (Ag.nil rfl rfl) rfl) rfl) rfl) hwd;clear hwd;refine yq<|yr ?_;refine yB fun b5=>?_;refine yl<|yn<|yq<|yr<|yo zM ?_;refine Q1 (Qp rfl rfl (by decide) rfl rfl) ?_;refine yo zF<|yo zF<|yo (zB 1)<|yo zM ?_;refine Q1 (Qm rfl rfl (by decide) rfl rfl rfl hkn) ?_;refine Q1 (QB rfl rfl (by decide) rfl rfl (fun w hw=>hw.range_old hrg hbM) rfl) ?_;refine yA fun b6=>?_;refine yW 0 ?_;refine yl<|yn<|yq<|yq<|yr<|yo zM<|yo (zD 0)<|yo (zD 1) ?_;refine Q1 (Qb rfl rfl (by decide) rfl rfl (fun w hw=>HFC.out w (H.out.nextW hw 2 3 rfl rfl) (HRU.out.below (H.out.below hw.k)) (HVAL.out.below (H.out.below hw.k) (Nat.le_refl _)))) ?_;refine yo zO<|yl ?_;obtain⟨hkd,_⟩:=HK0.out
 replace hkd:kind=3:=hkd
 subst hkd;have HZ:=Lib.hid (show RES=.ok (uy,n+1) from HL.out);have e1:(n:Int)+1=((n+1:Nat):Int):=rfl;refine yn<|y0<|ys<|yn<|yq<|yr<|yo zM ?_;refine Q1 (Qp rfl rfl (by decide) rfl rfl) ?_;refine yo zF<|yo (zB 2)<|yo zP ?_;refine Q1 (Qp rfl rfl (by decide) rfl rfl) ?_;refine yo zF ?_;refine yS 2 ?_;refine yl<|yn<|yq<|yr<|yo zF<|yo (zB 0)<|yl<|yn<|yb<|yq<|yr<|yo zef<|yo zA<|yl<|yn<|y0<|yq<|yq<|yr<|yo zef<|yo zA<|yl<|yn<|y0<|yr<|yo zet<|yo zA<|yl ?_;rw[e1];refine yn<|y1<|yr<|yo zM<|yo (zD 0)<|yo zF<|yo (zB 1) ?_;refine XY (QV _ _ _ rfl rfl rfl (fun w hw=>(HNC.out w (H.out.nextW hw 2 3 rfl rfl)).mono (fun e w' h=>Q0T 2 3 (by decide) hw rfl rfl (fun x hx=>by cases hx) h))) rfl (by decide) (fun y hy=>?_);refine yl ?_;obtain⟨ub,um,uA,uc⟩:=y;obtain⟨hy1,hy2,hy3⟩:=hy
 injection hy1 with hy1
 injection hy1 with hyb hym
 simp only at hyb hym
 subst hyb hym;refine yd ?_;exact XT (by exact .inl rfl) rfl (fun w hw=>JB H.out 2 3 (b:=uy) hw rfl rfl HZ.out (by omega) (by omega))
set_option maxRecDepth 100000 in
set_option maxHeartbeats 32000000 in
theorem QfY(hv:Fm F)(hk:0≤k∧k<F.length)(h:XI W z B g F A c xs n)(hval:VIn W B v d p)(hd1:d.bs.length≤1048576)(hd2:d.ns.length≤1048576)(hn0:Xi d p.len=0)(hpl6:p.len≤1048576)(hsz:xs.length+QK d p≤1099511627776)(hno:n+QK d p≤1099511627776)(hfit:X8 F (Qd F k) d p=true)(hkind:(Qd F k).kind=4):
  Calls Tryz.prog 45 #[.pointer (some ⟨g,0,none⟩),.int .i64 k,v] W (WrE z g W A c xs (QA F k d p n) n (QK d p)):=by
 have H:=Lib.hid h;have HV0:=Lib.hid hv;have hwd:=h.wd;have hFn:=h.len;have hr:=hv.toUsd.rok hk
 have hfc:=fun(w:World) (Ab An Ap:Option Addr) (cb cn cp:Nat) (hw:XI w z B g F A c xs n) (hru:RuB w B (Qd F k) Ab cb An cn Ap cp) (hval:VIn w B v d p)=>XW hw hv hk hru hval hd1 hd2
 rw[hfit] at hfc;obtain⟨RES,hres⟩:∃x,QA F k d p n=x:=⟨_,rfl⟩;have HVAL:=Lib.hid hval;have HL:=Lib.hid (show RES=.ok (Xy F (Qd F k) d p,n+1) by rw[← hres];exact Jj hfit (by unfold Za;rw[if_neg (by omega),if_neg (by omega),if_neg (by omega)]) (X6 (by omega) (by omega)));have HK0:=Lib.hid (show (Qd F k).kind=4∧Xy F (Qd F k) d p=d.bs from ⟨hkind,by unfold Xy;rw[if_neg (by omega),if_neg (by omega),if_pos hkind]⟩);rw[HK0.out.2] at HL;rw[hres];obtain⟨Af,nn,cf⟩:=z
 simp only at hFn
 obtain⟨bf,of,haf,_⟩:=h.fm.2 (show 0<nn by omega)
 simp only at haf
 subst haf;obtain⟨hbB,Ab,cb,An,cn,Ap,cp,hrg,hru⟩:=h.fm.ruleB (k:=k) (by simp only;omega)
 have hbM:bf∉wM g A xs.length c:=fun hm=>by
  rcases Z3.1 hm with e|e
  ·have:=h.hB;omega
  ·have:=(h.far _ e).1;omega
 have hkn:0≤k∧k<(nn:Int):=by omega
 have hBW:B≤W.heap.size:=by have:=h.hB;have:=h.lt;omega
 replace hfc:=fun(w:World) (hw:XI w _ B g F A c xs n) (hr:RuB w B (Qd F k) Ab cb An cn Ap cp) (hvl:VIn w B v d p)=>hfc w Ab An Ap cb cn cp hw hr hvl
 clear h;obtain⟨r,er⟩:∃r,Qd F k=r:=⟨_,rfl⟩;rw[er] at hr hrg hru hfc HK0;clear er hfit;obtain⟨sb,sn,sp,rfl,Abv,nb,cbv,Anv,nnv,cnv,Apv,cpv,rfl,rfl,rfl,hnb,hnn,hpl,hcm,hrb,hrn,hch⟩:=hval
 have hnbl:d.bs.length=nb:=by have:=hrb.len;rw[Xu] at this;exact this
 have hnnl:d.ns.length=nnv:=by have:=hrn.len;rw[XB] at this;exact this
 subst hnbl hnnl;have HRB:=Lib.hid hrb;have HCH:=Lib.hid hch;have HRU:=Lib.hid hru;have HRK:=Lib.hid hr;have HD:=Lib.hid (Eq.refl d);obtain⟨dk,dn,dbs,dns⟩:=d
 simp only[QK] at hsz hno hd1 hd2 hnb hnn ⊢
 clear hrb hrn hch hru hv;obtain⟨name,kind,bs,size,big,mn,mx,stop,count,elem,names,parts⟩:=r
 simp only[ruC] at hr hrg hfc HK0 HL
 have HFC:=Lib.hid hfc;have HRUB:=Lib.hid (show Rd W B 1 Ab bs.length (bv bs) from HRU.out.b);clear hfc
 go_enter Tryz.func45,Tryz.ntmps45
 haveI:Pan (bodyPost Tryz.prog Tryz.f45 (WrE ⟨some ⟨bf,of,none⟩,nn,cf⟩ g W A c xs RES n (300+dbs.length+X3 p))) (Vb RES (wM g A xs.length c) W):=Pan.body fun ch w' ⟨x,h1,h2,h3⟩=>⟨h3,.inl ⟨x,h1,by rw[h2]⟩⟩
 refine QE (M:=wM g A xs.length c) (W:=W) (N:=223) (E:=[(0,.pointer (some ⟨g,0,none⟩)),(1,.int .i64 k),(2,.agg [.int .i64 dk,.int .i64 dn,.slice Abv dbs.length cbv,.slice Anv dns.length cnv,.slice Apv p.len cpv].toArray)]) (O:=[.blk g (.cells ([.slice (some ⟨bf,of,none⟩) nn cf,.slice A xs.length c,.int .i64 (n:Int)]:List Value).toArray 77 (0,0)),.row A xs.length c 5 1 (bv xs)]) ?_ (Ag.cons (Ag.cons (Ag.cons (Ag.nil rfl rfl) rfl) rfl) rfl) hwd;clear hwd;refine yq<|yr ?_;refine yB fun b5=>?_;refine yl<|yn<|yq<|yr<|yo zM ?_;refine Q1 (Qp rfl rfl (by decide) rfl rfl) ?_;refine yo zF<|yo zF<|yo (zB 1)<|yo zM ?_;refine Q1 (Qm rfl rfl (by decide) rfl rfl rfl hkn) ?_;refine Q1 (QB rfl rfl (by decide) rfl rfl (fun w hw=>hw.range_old hrg hbM) rfl) ?_;refine yA fun b6=>?_;refine yW 0 ?_;refine yl<|yn<|yq<|yq<|yr<|yo zM<|yo (zD 0)<|yo (zD 1) ?_;refine Q1 (Qb rfl rfl (by decide) rfl rfl (fun w hw=>HFC.out w (H.out.nextW hw 2 3 rfl rfl) (HRU.out.below (H.out.below hw.k)) (HVAL.out.below (H.out.below hw.k) (Nat.le_refl _)))) ?_;refine yo zO<|yl ?_;obtain⟨hkd,_⟩:=HK0.out
 replace hkd:kind=4:=hkd
 subst hkd;have HZ:=Lib.hid (show RES=.ok (dbs,n+1) from HL.out);have hl1:xs.length+dbs.length=(xs++dbs).length:=(List.length_append ..).symm
 have hb1:bv xs++bv dbs=bv (xs++dbs):=by unfold bv;rw[List.map_append]
 have e1:(n:Int)+1=((n+1:Nat):Int):=rfl;refine yn<|y0<|ys<|yn<|yq<|yr<|yo zM ?_;refine Q1 (Qp rfl rfl (by decide) rfl rfl) ?_;refine yo zF<|yo (zB 2)<|yo zP ?_;refine Q1 (Qp rfl rfl (by decide) rfl rfl) ?_;refine yo zF ?_;refine yS 2 ?_;refine yl<|yn<|yq<|yr<|yo zF<|yo (zB 0)<|yl<|yn<|yb<|yq<|yr<|yo zef<|yo zA<|yl<|yn<|y0<|yq<|yq<|yr<|yo zef<|yo zA<|yl<|yn<|y0<|yr<|yo zef<|yo zA<|yl<|yn<|y0<|yq<|yr<|yo zet<|yo zA<|yl<|yn<|y1 ?_;rw[e1];refine XQ [.blk b5 (.cells ([.int .i64 dk,.int .i64 dn,.slice Abv dbs.length cbv,.slice Anv dns.length cnv,.slice Apv p.len cpv]:List Value).toArray 30 (0,0)),.blk g (.cells ([.slice (some ⟨bf,of,none⟩) nn cf,.slice A xs.length c,.int .i64 (n+1:Int)]:List Value).toArray 77 (0,0))] [10] (by kernel_rfl) ?_;refine Qe 0 rfl (by kernel_rfl) (Q2.sel [1,2] (by decide) rfl) zM ?_;refine Qe 1 rfl (by kernel_rfl) (Q2.sel [1,2] (by decide) rfl) zM ?_;refine Qe 2 rfl (by kernel_rfl) (Q2.sel [1,2] (by decide) rfl) (Qp rfl rfl (by decide) rfl rfl) ?_;refine Qe 3 rfl (by kernel_rfl) (Q2.sel [1,2] (by decide) rfl) zF ?_;refine Qe 4 rfl (by kernel_rfl) (Q2.sel [1,2] (by decide) rfl) (zB 1) ?_;refine Qe 5 rfl (by kernel_rfl) (Q2.sel [1,2] (by decide) rfl) zF ?_;refine Qe 6 rfl (by kernel_rfl) (Q2.sel [1,2] (by decide) rfl) (zB 0) ?_;refine QC 7 (by kernel_rfl) rfl rfl (X9 3 rfl rfl rfl rfl rfl (fun w hw=>(HRB.out.below (H.out.below hw.k)).more (by have:=hw.k.size;omega)) (ZO _) (by omega)) (fun _=>.inr (Q2.sel [1,2] (by decide) rfl)) rfl (by decide) (fun z1 _=>?_);rw[hl1,hb1];refine Qe 8 rfl (by kernel_rfl) (Q2.sel [1,2] (by decide) rfl) (Qp rfl rfl (by decide) rfl rfl) ?_;refine Qe 9 rfl (by kernel_rfl) (Q2.sel [1,2] (by decide) rfl) zF ?_;refine Qu 10 (by kernel_rfl) rfl rfl (X0 2 rfl rfl rfl rfl rfl rfl rfl) (fun _=>.inl (by decide)) rfl (fun _ _=>?_);refine Xh ?_ (by kernel_rfl);refine yd ?_;exact XT (by exact .inl rfl) rfl (fun w hw=>JB H.out 2 3 (b:=dbs) hw rfl rfl HZ.out (by omega) (by omega))
set_option maxRecDepth 100000 in
set_option maxHeartbeats 32000000 in
theorem QfW(hv:Fm F)(hk:0≤k∧k<F.length)(h:XI W z B g F A c xs n)(hval:VIn W B v d p)(hd1:d.bs.length≤1048576)(hd2:d.ns.length≤1048576)(hn0:Xi d p.len=0)(hpl6:p.len≤1048576)(hsz:xs.length+QK d p≤1099511627776)(hno:n+QK d p≤1099511627776)(hfit:X8 F (Qd F k) d p=true)(hkind:(Qd F k).kind=5):
  Calls Tryz.prog 45 #[.pointer (some ⟨g,0,none⟩),.int .i64 k,v] W (WrE z g W A c xs (QA F k d p n) n (QK d p)):=by
 have H:=Lib.hid h;have HV0:=Lib.hid hv;have hwd:=h.wd;have hFn:=h.len;have hr:=hv.toUsd.rok hk
 have hfc:=fun(w:World) (Ab An Ap:Option Addr) (cb cn cp:Nat) (hw:XI w z B g F A c xs n) (hru:RuB w B (Qd F k) Ab cb An cn Ap cp) (hval:VIn w B v d p)=>XW hw hv hk hru hval hd1 hd2
 rw[hfit] at hfc;obtain⟨RES,hres⟩:∃x,QA F k d p n=x:=⟨_,rfl⟩;have HVAL:=Lib.hid hval;have HL:=Lib.hid (show RES=.ok (Xy F (Qd F k) d p,n+1) by rw[← hres];exact Jj hfit (by unfold Za;rw[if_neg (by omega),if_neg (by omega),if_neg (by omega)]) (X6 (by omega) (by omega)));have HK0:=Lib.hid (show (Qd F k).kind=5∧Xy F (Qd F k) d p=d.bs++[Zk (Qd F k)] from ⟨hkind,by unfold Xy;rw[if_neg (by omega),if_neg (by omega),if_neg (by omega),if_neg (by omega),if_pos hkind]⟩);rw[HK0.out.2] at HL;rw[hres];obtain⟨Af,nn,cf⟩:=z
 simp only at hFn
 obtain⟨bf,of,haf,_⟩:=h.fm.2 (show 0<nn by omega)
 simp only at haf
 subst haf;obtain⟨hbB,Ab,cb,An,cn,Ap,cp,hrg,hru⟩:=h.fm.ruleB (k:=k) (by simp only;omega)
 have hbM:bf∉wM g A xs.length c:=fun hm=>by
  rcases Z3.1 hm with e|e
  ·have:=h.hB;omega
  ·have:=(h.far _ e).1;omega
 have hkn:0≤k∧k<(nn:Int):=by omega
 have hBW:B≤W.heap.size:=by have:=h.hB;have:=h.lt;omega
 replace hfc:=fun(w:World) (hw:XI w _ B g F A c xs n) (hr:RuB w B (Qd F k) Ab cb An cn Ap cp) (hvl:VIn w B v d p)=>hfc w Ab An Ap cb cn cp hw hr hvl
 clear h;obtain⟨r,er⟩:∃r,Qd F k=r:=⟨_,rfl⟩;rw[er] at hr hrg hru hfc HK0 HL;clear er hfit;obtain⟨sb,sn,sp,rfl,Abv,nb,cbv,Anv,nnv,cnv,Apv,cpv,rfl,rfl,rfl,hnb,hnn,hpl,hcm,hrb,hrn,hch⟩:=hval
 have hnbl:d.bs.length=nb:=by have:=hrb.len;rw[Xu] at this;exact this
 have hnnl:d.ns.length=nnv:=by have:=hrn.len;rw[XB] at this;exact this
 subst hnbl hnnl;have HRB:=Lib.hid hrb;have HCH:=Lib.hid hch;have HRU:=Lib.hid hru;have HRK:=Lib.hid hr;have HD:=Lib.hid (Eq.refl d);obtain⟨dk,dn,dbs,dns⟩:=d
 simp only[QK] at hsz hno hd1 hd2 hnb hnn ⊢
 clear hrb hrn hch hru hv;obtain⟨name,kind,bs,size,big,mn,mx,stop,count,elem,names,parts⟩:=r
 simp only[ruC,Zk] at hr hrg hfc HK0 HL
 have HFC:=Lib.hid hfc;have HRUB:=Lib.hid (show Rd W B 1 Ab bs.length (bv bs) from HRU.out.b);clear hfc
 go_enter Tryz.func45,Tryz.ntmps45
 haveI:Pan (bodyPost Tryz.prog Tryz.f45 (WrE ⟨some ⟨bf,of,none⟩,nn,cf⟩ g W A c xs RES n (300+dbs.length+X3 p))) (Vb RES (wM g A xs.length c) W):=Pan.body fun ch w' ⟨x,h1,h2,h3⟩=>⟨h3,.inl ⟨x,h1,by rw[h2]⟩⟩
 refine QE (M:=wM g A xs.length c) (W:=W) (N:=223) (E:=[(0,.pointer (some ⟨g,0,none⟩)),(1,.int .i64 k),(2,.agg [.int .i64 dk,.int .i64 dn,.slice Abv dbs.length cbv,.slice Anv dns.length cnv,.slice Apv p.len cpv].toArray)]) (O:=[.blk g (.cells ([.slice (some ⟨bf,of,none⟩) nn cf,.slice A xs.length c,.int .i64 (n:Int)]:List Value).toArray 77 (0,0)),.row A xs.length c 5 1 (bv xs)]) ?_ (Ag.cons (Ag.cons (Ag.cons (Ag.nil rfl rfl) rfl) rfl) rfl) hwd;clear hwd;refine yq<|yr ?_;refine yB fun b5=>?_;refine yl<|yn<|yq<|yr<|yo zM ?_;refine Q1 (Qp rfl rfl (by decide) rfl rfl) ?_;refine yo zF<|yo zF<|yo (zB 1)<|yo zM ?_;refine Q1 (Qm rfl rfl (by decide) rfl rfl rfl hkn) ?_;refine Q1 (QB rfl rfl (by decide) rfl rfl (fun w hw=>hw.range_old hrg hbM) rfl) ?_;refine yA fun b6=>?_;refine yW 0 ?_;refine yl<|yn<|yq<|yq<|yr<|yo zM<|yo (zD 0)<|yo (zD 1) ?_;refine Q1 (Qb rfl rfl (by decide) rfl rfl (fun w hw=>HFC.out w (H.out.nextW hw 2 3 rfl rfl) (HRU.out.below (H.out.below hw.k)) (HVAL.out.below (H.out.below hw.k) (Nat.le_refl _)))) ?_;refine yo zO<|yl ?_;obtain⟨hkd,_⟩:=HK0.out
 replace hkd:kind=5:=hkd
 subst hkd;obtain⟨sB,hsB⟩:∃b:UInt8,UInt8.ofNat (stop % 256).toNat=b:=⟨_,rfl⟩
 have hcv:IntKind.u8.wrap stop=(sB.toNat:Int):=by rw[Q7e,hsB]
 have HZ:=Lib.hid (show RES=.ok (dbs++[sB],n+1) by rw[← hsB];exact HL.out);have hl1:xs.length+dbs.length=(xs++dbs).length:=(List.length_append ..).symm
 have hb1:bv xs++bv dbs=bv (xs++dbs):=by unfold bv;rw[List.map_append]
 have hl2:(xs++dbs).length+1=(xs++(dbs++[sB])).length:=by simp only[List.length_append,List.length_cons,List.length_nil];omega
 have hb2:bv (xs++dbs)++[.int .u8 (sB.toNat:Int)]=bv (xs++(dbs++[sB])):=by unfold bv;simp
 have hbl:(dbs++[sB]).length=dbs.length+1:=List.length_append ..
 have hbnd:(xs++dbs).length≤1099511627776:=by rw[← hl1];omega
 have e1:(n:Int)+1=((n+1:Nat):Int):=rfl;refine yn<|y0<|ys<|yn<|yq<|yr<|yo zM ?_;refine Q1 (Qp rfl rfl (by decide) rfl rfl) ?_;refine yo zF<|yo (zB 2)<|yo zP ?_;refine Q1 (Qp rfl rfl (by decide) rfl rfl) ?_;refine yo zF ?_;refine yS 2 ?_;refine yl<|yn<|yq<|yr<|yo zF<|yo (zB 0)<|yl<|yn<|yb<|yq<|yr<|yo zef<|yo zA<|yl<|yn<|y0<|yq<|yq<|yr<|yo zef<|yo zA<|yl<|yn<|y0<|yr<|yo zef<|yo zA<|yl<|yn<|y0<|yq<|yr<|yo zef<|yo zA<|yl<|yn<|y0<|yq<|yr<|yo zef<|yo zA<|yl<|yn<|y0<|yq<|yr<|yo zet<|yo zA<|yl<|yn<|y1 ?_;rw[e1];refine XQ [.blk b6 (.cells ([.string ⟨name.toArray⟩,.int .i64 5,.slice Ab bs.length cb,.int .i64 size,.bool big,.int .i64 mn,.int .i64 mx,.int .i64 stop,.int .i64 count,.int .i64 elem,.slice An names.length cn,.slice Ap parts.length cp]:List Value).toArray 65 (0,0)),.blk b5 (.cells ([.int .i64 dk,.int .i64 dn,.slice Abv dbs.length cbv,.slice Anv dns.length cnv,.slice Apv p.len cpv]:List Value).toArray 30 (0,0)),.blk g (.cells ([.slice (some ⟨bf,of,none⟩) nn cf,.slice A xs.length c,.int .i64 (n+1:Int)]:List Value).toArray 77 (0,0))] [15] (by kernel_rfl) ?_;refine Qe 0 rfl (by kernel_rfl) (Q2.sel [0,1,2] (by decide) rfl) zM ?_;refine Qe 1 rfl (by kernel_rfl) (Q2.sel [0,1,2] (by decide) rfl) zM ?_;refine Qe 2 rfl (by kernel_rfl) (Q2.sel [0,1,2] (by decide) rfl) (Qp rfl rfl (by decide) rfl rfl) ?_;refine Qe 3 rfl (by kernel_rfl) (Q2.sel [0,1,2] (by decide) rfl) zF ?_;refine Qe 4 rfl (by kernel_rfl) (Q2.sel [0,1,2] (by decide) rfl) (zB 2) ?_;refine Qe 5 rfl (by kernel_rfl) (Q2.sel [0,1,2] (by decide) rfl) zF ?_;refine Qe 6 rfl (by kernel_rfl) (Q2.sel [0,1,2] (by decide) rfl) (zB 1) ?_;refine Qe 8 rfl (by kernel_rfl) (Q2.sel [0,1,2] (by decide) rfl) zF ?_;refine Qe 9 rfl (by kernel_rfl) (Q2.sel [0,1,2] (by decide) rfl) (zB 0) ?_;refine Qe 10 rfl (by kernel_rfl) (Q2.sel [0,1,2] (by decide) rfl) (XE rfl rfl (by decide) rfl rfl (by rw[Tryz.underlying3];rfl) Tryz.underlying5 hcv) ?_;refine VQ 7 11 (by kernel_rfl) (Xn rfl rfl (X9 3 rfl rfl rfl rfl rfl (fun w hw=>(HRB.out.below (H.out.below hw.k)).more (by have:=hw.k.size;omega)) (ZO _) (by omega)) (fun _=>.inr (Q2.sel [0,1,2] (by decide) rfl)) rfl (by decide) (fun z1 _=>?_)) (Xn rfl rfl (XF rfl rfl rfl rfl rfl (by simp)) (fun _=>.inr (Q2.sel [1,2,3] (by decide) rfl)) rfl (by decide) (fun bn _=>?_))
 ·rw[hl1,hb1];refine QC 11 (by kernel_rfl) rfl rfl (XF rfl rfl rfl rfl rfl (by simp)) (fun _=>.inr (Q2.sel [1,2,3] (by decide) rfl)) rfl (by decide) (fun bn _=>?_);refine QC 12 (by kernel_rfl) rfl rfl (X9 4 rfl rfl rfl rfl rfl (fun w hw=>hw.rd_blk 0 rfl rfl) (by simp [Value.oneCell']) (by omega)) (fun _=>.inr (Q2.sel [1,2,3] (by decide) rfl)) rfl (by decide) (fun z2 _=>?_);rw[hl2,hb2];refine Qe 13 rfl (by kernel_rfl) (Q2.sel [1,2,3] (by decide) rfl) (Qp rfl rfl (by decide) rfl rfl) ?_;refine Qe 14 rfl (by kernel_rfl) (Q2.sel [1,2,3] (by decide) rfl) zF ?_;refine Qu 15 (by kernel_rfl) rfl rfl (X0 3 rfl rfl rfl rfl rfl rfl rfl) (fun _=>.inl (by decide)) rfl (fun _ _=>?_);refine Xh ?_ (by kernel_rfl);refine yd ?_;exact XT (by exact .inl rfl) rfl (fun w hw=>JB H.out 3 4 (b:=dbs++[sB]) hw rfl rfl HZ.out (by omega) (by omega))
 ·refine QC 7 (by kernel_rfl) rfl rfl (X9 4 rfl rfl rfl rfl rfl (fun w hw=>(HRB.out.below (H.out.below hw.k)).more (by have:=hw.k.size;omega)) (ZO _) (by omega)) (fun _=>.inr (Q2.sel [1,2,3] (by decide) rfl)) rfl (by decide) (fun z1 _=>?_);rw[hl1,hb1];refine QC 12 (by kernel_rfl) rfl rfl (X9 4 rfl rfl rfl rfl rfl (fun w hw=>hw.rd_blk 0 rfl rfl) (by simp [Value.oneCell']) (by omega)) (fun _=>.inr (Q2.sel [1,2,3] (by decide) rfl)) rfl (by decide) (fun z2 _=>?_);rw[hl2,hb2];refine Qe 13 rfl (by kernel_rfl) (Q2.sel [1,2,3] (by decide) rfl) (Qp rfl rfl (by decide) rfl rfl) ?_;refine Qe 14 rfl (by kernel_rfl) (Q2.sel [1,2,3] (by decide) rfl) zF ?_;refine Qu 15 (by kernel_rfl) rfl rfl (X0 3 rfl rfl rfl rfl rfl rfl rfl) (fun _=>.inl (by decide)) rfl (fun _ _=>?_);refine Xh ?_ (by kernel_rfl);refine yd ?_;exact XT (by exact .inl rfl) rfl (fun w hw=>JB H.out 3 4 (b:=dbs++[sB]) hw rfl rfl HZ.out (by omega) (by omega))
set_option maxRecDepth 100000 in
set_option maxHeartbeats 32000000 in
theorem Qfe(hv:Fm F)(hk:0≤k∧k<F.length)(h:XI W z B g F A c xs n)(hval:VIn W B v d p)(hd1:d.bs.length≤1048576)(hd2:d.ns.length≤1048576)(hn0:Xi d p.len=0)(hpl6:p.len≤1048576)(hsz:xs.length+QK d p≤1099511627776)(hno:n+QK d p≤1099511627776)(hfit:X8 F (Qd F k) d p=true)(hkind:(Qd F k).kind=10):
  Calls Tryz.prog 45 #[.pointer (some ⟨g,0,none⟩),.int .i64 k,v] W (WrE z g W A c xs (QA F k d p n) n (QK d p)):=by
 have H:=Lib.hid h;have HV0:=Lib.hid hv;have hwd:=h.wd;have hFn:=h.len;have hr:=hv.toUsd.rok hk
 have hfc:=fun(w:World) (Ab An Ap:Option Addr) (cb cn cp:Nat) (hw:XI w z B g F A c xs n) (hru:RuB w B (Qd F k) Ab cb An cn Ap cp) (hval:VIn w B v d p)=>XW hw hv hk hru hval hd1 hd2
 rw[hfit] at hfc;obtain⟨RES,hres⟩:∃x,QA F k d p n=x:=⟨_,rfl⟩;have HVAL:=Lib.hid hval;have HL:=Lib.hid (show RES=.ok (Xy F (Qd F k) d p,n+1) by rw[← hres];exact Jj hfit (by unfold Za;rw[if_neg (by omega),if_neg (by omega),if_neg (by omega)]) (X6 (by omega) (by omega)));have HK0:=Lib.hid (show (Qd F k).kind=10∧Xy F (Qd F k) d p=VN (Qd F (Qd F k).count) (d.bs.length:Int)++d.bs from ⟨hkind,by unfold Xy;rw[if_neg (by omega),if_neg (by omega),if_neg (by omega),if_pos hkind]⟩);rw[HK0.out.2] at HL
 have hcnt:Ju (Qd F (Qd F k).count) (d.bs.length:Int)=true:=by rw[Q37 hkind,Bool.and_eq_true] at hfit;exact hfit.2
 have hNO:=hv.numOk hk (.inr hkind);have hct:=hr.count (.inr hkind);rw[hres];obtain⟨Af,nn,cf⟩:=z
 simp only at hFn
 obtain⟨bf,of,haf,_⟩:=h.fm.2 (show 0<nn by omega)
 simp only at haf
 subst haf;obtain⟨hbB,Ab,cb,An,cn,Ap,cp,hrg,hru⟩:=h.fm.ruleB (k:=k) (by simp only;omega)
 have hbM:bf∉wM g A xs.length c:=fun hm=>by
  rcases Z3.1 hm with e|e
  ·have:=h.hB;omega
  ·have:=(h.far _ e).1;omega
 have hkn:0≤k∧k<(nn:Int):=by omega
 have hBW:B≤W.heap.size:=by have:=h.hB;have:=h.lt;omega
 replace hfc:=fun(w:World) (hw:XI w _ B g F A c xs n) (hr:RuB w B (Qd F k) Ab cb An cn Ap cp) (hvl:VIn w B v d p)=>hfc w Ab An Ap cb cn cp hw hr hvl
 clear h;obtain⟨r,er⟩:∃r,Qd F k=r:=⟨_,rfl⟩;rw[er] at hr hrg hru hfc HK0 HL hcnt hNO hct;clear er hfit;obtain⟨sb,sn,sp,rfl,Abv,nb,cbv,Anv,nnv,cnv,Apv,cpv,rfl,rfl,rfl,hnb,hnn,hpl,hcm,hrb,hrn,hch⟩:=hval
 have hnbl:d.bs.length=nb:=by have:=hrb.len;rw[Xu] at this;exact this
 have hnnl:d.ns.length=nnv:=by have:=hrn.len;rw[XB] at this;exact this
 subst hnbl hnnl;have HRB:=Lib.hid hrb;have HCH:=Lib.hid hch;have HRU:=Lib.hid hru;have HRK:=Lib.hid hr;have HD:=Lib.hid (Eq.refl d);obtain⟨dk,dn,dbs,dns⟩:=d
 simp only[QK] at hsz hno hd1 hd2 hnb hnn ⊢
 clear hrb hrn hch hru hv;obtain⟨name,kind,bs,size,big,mn,mx,stop,count,elem,names,parts⟩:=r;obtain⟨hbB2,Ab2,cb2,An2,cn2,Ap2,cp2,hrg2,hru2⟩:=H.out.fm.ruleB (k:=count) (by simp only;exact⟨hct.1,by rw[← hFn];exact hct.2⟩);have hct2:0≤count∧count<(nn:Int):=⟨hct.1,by rw[← hFn];exact hct.2⟩
 simp only at hcnt hNO HL
 obtain⟨r2,er2⟩:∃r,Qd F count=r:=⟨_,rfl⟩;rw[er2] at hrg2 hcnt hNO HL;clear er2 hru2
 have hnc:=fun(w:World) (hw:XI w ⟨some ⟨bf,of,none⟩,nn,cf⟩ B g F A c xs (n+1))=>YK hw (sb:=.slice Ab2 r2.bs.length cb2) (sn:=.slice An2 r2.names.length cn2) (sp:=.slice Ap2 r2.parts.length cp2) hNO hcnt (by omega)
 have hnl:=Kx hNO hcnt;obtain⟨uy,hys⟩:∃uy,VN r2 (dbs.length:Int)=uy:=⟨_,rfl⟩
 simp only[hys] at hnc hnl HL
 clear hys hNO hcnt hct;obtain⟨name2,kind2,bs2,size2,big2,mn2,mx2,stop2,count2,elem2,names2,parts2⟩:=r2
 simp only[ruC] at hnc hrg2
 have HNC:=Lib.hid hnc;clear hnc
 simp only[ruC] at hr hrg hfc HK0
 have HFC:=Lib.hid hfc;have HRUB:=Lib.hid (show Rd W B 1 Ab bs.length (bv bs) from HRU.out.b);clear hfc
 go_enter Tryz.func45,Tryz.ntmps45
 haveI:Pan (bodyPost Tryz.prog Tryz.f45 (WrE ⟨some ⟨bf,of,none⟩,nn,cf⟩ g W A c xs RES n (300+dbs.length+X3 p))) (Vb RES (wM g A xs.length c) W):=Pan.body fun ch w' ⟨x,h1,h2,h3⟩=>⟨h3,.inl ⟨x,h1,by rw[h2]⟩⟩
 refine QE (M:=wM g A xs.length c) (W:=W) (N:=223) (E:=[(0,.pointer (some ⟨g,0,none⟩)),(1,.int .i64 k),(2,.agg [.int .i64 dk,.int .i64 dn,.slice Abv dbs.length cbv,.slice Anv dns.length cnv,.slice Apv p.len cpv].toArray)]) (O:=[.blk g (.cells ([.slice (some ⟨bf,of,none⟩) nn cf,.slice A xs.length c,.int .i64 (n:Int)]:List Value).toArray 77 (0,0)),.row A xs.length c 5 1 (bv xs)]) ?_ (Ag.cons (Ag.cons (Ag.cons (Ag.nil rfl rfl) rfl) rfl) rfl) hwd;clear hwd;refine yq<|yr ?_;refine yB fun b5=>?_;refine yl<|yn<|yq<|yr<|yo zM ?_;refine Q1 (Qp rfl rfl (by decide) rfl rfl) ?_;refine yo zF<|yo zF<|yo (zB 1)<|yo zM ?_;refine Q1 (Qm rfl rfl (by decide) rfl rfl rfl hkn) ?_;refine Q1 (QB rfl rfl (by decide) rfl rfl (fun w hw=>hw.range_old hrg hbM) rfl) ?_;refine yA fun b6=>?_;refine yW 0 ?_;refine yl<|yn<|yq<|yq<|yr<|yo zM<|yo (zD 0)<|yo (zD 1) ?_;refine Q1 (Qb rfl rfl (by decide) rfl rfl (fun w hw=>HFC.out w (H.out.nextW hw 2 3 rfl rfl) (HRU.out.below (H.out.below hw.k)) (HVAL.out.below (H.out.below hw.k) (Nat.le_refl _)))) ?_;refine yo zO<|yl ?_;obtain⟨hkd,_⟩:=HK0.out
 replace hkd:kind=10:=hkd
 subst hkd;have HZ:=Lib.hid (show RES=.ok (uy++dbs,n+1) from HL.out)
 have hl1:(xs++uy).length+dbs.length=(xs++(uy++dbs)).length:=by simp only[List.length_append];omega
 have hb1:bv (xs++uy)++bv dbs=bv (xs++(uy++dbs)):=by unfold bv;simp
 have hyl:(uy++dbs).length=uy.length+dbs.length:=List.length_append ..
 have hbnd:(xs++uy).length+dbs.length≤1099511627776:=by rw[List.length_append];omega
 have e1:(n:Int)+1=((n+1:Nat):Int):=rfl;refine yn<|y0<|ys<|yn<|yq<|yr<|yo zM ?_;refine Q1 (Qp rfl rfl (by decide) rfl rfl) ?_;refine yo zF<|yo (zB 2)<|yo zP ?_;refine Q1 (Qp rfl rfl (by decide) rfl rfl) ?_;refine yo zF ?_;refine yS 2 ?_;refine yl<|yn<|yq<|yr<|yo zF<|yo (zB 0)<|yl<|yn<|yb<|yq<|yr<|yo zef<|yo zA<|yl<|yn<|y0<|yq<|yq<|yr<|yo zef<|yo zA<|yl<|yn<|y0<|yr<|yo zef<|yo zA<|yl<|yn<|y0<|yq<|yr<|yo zef<|yo zA<|yl<|yn<|y0<|yq<|yr<|yo zet<|yo zA<|yl<|yn<|y1<|yq ?_;rw[e1];refine JR (B:=Vb RES (wM g A xs.length c) W) [.blk b6 (.cells ([.string ⟨name.toArray⟩,.int .i64 10,.slice Ab bs.length cb,.int .i64 size,.bool big,.int .i64 mn,.int .i64 mx,.int .i64 stop,.int .i64 count,.int .i64 elem,.slice An names.length cn,.slice Ap parts.length cp]:List Value).toArray 65 (0,0)),.blk b5 (.cells ([.int .i64 dk,.int .i64 dn,.slice Abv dbs.length cbv,.slice Anv dns.length cnv,.slice Apv p.len cpv]:List Value).toArray 30 (0,0)),.blk g (.cells ([.slice (some ⟨bf,of,none⟩) nn cf,.slice A xs.length c,.int .i64 (n+1:Int)]:List Value).toArray 77 (0,0))] [13] (by kernel_rfl) ?_ ?_
 ·infer_instance
 refine Xp 0 rfl (by kernel_rfl) (Q2.sel [0,1,2] (by decide) rfl) zM ?_;refine Xp 1 rfl (by kernel_rfl) (Q2.sel [0,1,2] (by decide) rfl) zM ?_;refine Xp 2 rfl (by kernel_rfl) (Q2.sel [0,1,2] (by decide) rfl) (Qp rfl rfl (by decide) rfl rfl) ?_;refine Xp 3 rfl (by kernel_rfl) (Q2.sel [0,1,2] (by decide) rfl) zF ?_;refine Xp 4 rfl (by kernel_rfl) (Q2.sel [0,1,2] (by decide) rfl) zF ?_;refine Xp 5 rfl (by kernel_rfl) (Q2.sel [0,1,2] (by decide) rfl) (zB 2) ?_;refine Xp 6 rfl (by kernel_rfl) (Q2.sel [0,1,2] (by decide) rfl) zF ?_;refine Xp 7 rfl (by kernel_rfl) (Q2.sel [0,1,2] (by decide) rfl) (zB 0) ?_;refine Xp 8 rfl (by kernel_rfl) (Q2.sel [0,1,2] (by decide) rfl) (Qm rfl rfl (by decide) rfl rfl rfl hct2) ?_;refine Xp 9 rfl (by kernel_rfl) (Q2.sel [0,1,2] (by decide) rfl) (QB rfl rfl (by decide) rfl rfl (fun w hw=>hw.range_old hrg2 hbM) rfl) ?_;refine Xp 10 rfl (by kernel_rfl) (Q2.sel [0,1,2] (by decide) rfl) zF ?_;refine Xp 11 rfl (by kernel_rfl) (Q2.sel [0,1,2] (by decide) rfl) (zB 1) ?_;refine Xp 12 rfl (by kernel_rfl) (Q2.sel [0,1,2] (by decide) rfl) zL ?_;refine Ks 13 (by kernel_rfl) rfl rfl (QV _ _ _ rfl rfl rfl (fun w hw=>(HNC.out w (H.out.nextW hw 2 3 rfl rfl)).mono (fun e w' h=>Q0T 2 3 (by decide) hw rfl rfl (fun x hx=>by cases hx) h))) (fun i=>.inl (by decide)) rfl (by decide) (fun y hy=>?_);refine Q4s ?_ (by kernel_rfl);obtain⟨ub,um,uA,uc⟩:=y;obtain⟨hy1,hy2,hy3⟩:=hy
 injection hy1 with hy1
 injection hy1 with hyb hym
 simp only at hyb hym
 subst hyb hym;refine yn ?_;refine XQ [.blk b5 (.cells ([.int .i64 dk,.int .i64 dn,.slice Abv dbs.length cbv,.slice Anv dns.length cnv,.slice Apv p.len cpv]:List Value).toArray 30 (0,0)),.blk g (.cells ([.slice (some ⟨bf,of,none⟩) nn cf,.slice uA (xs++uy).length uc,.int .i64 (n+1:Int)]:List Value).toArray 77 (0,0))] [10] (by kernel_rfl) ?_;refine Qe 0 rfl (by kernel_rfl) (Q2.sel [1,2] (by decide) rfl) zM ?_;refine Qe 1 rfl (by kernel_rfl) (Q2.sel [1,2] (by decide) rfl) zM ?_;refine Qe 2 rfl (by kernel_rfl) (Q2.sel [1,2] (by decide) rfl) (Qp rfl rfl (by decide) rfl rfl) ?_;refine Qe 3 rfl (by kernel_rfl) (Q2.sel [1,2] (by decide) rfl) zF ?_;refine Qe 4 rfl (by kernel_rfl) (Q2.sel [1,2] (by decide) rfl) (zB 1) ?_;refine Qe 5 rfl (by kernel_rfl) (Q2.sel [1,2] (by decide) rfl) zF ?_;refine Qe 6 rfl (by kernel_rfl) (Q2.sel [1,2] (by decide) rfl) (zB 0) ?_;refine QC 7 (by kernel_rfl) rfl rfl (X9 3 rfl rfl rfl rfl rfl (fun w hw=>(HRB.out.below (H.out.below hw.k)).more (by have:=hw.k.size;omega)) (ZO _) (by omega)) (fun _=>.inr (Q2.sel [1,2] (by decide) rfl)) rfl (by decide) (fun z1 _=>?_);rw[hl1,hb1];refine Qe 8 rfl (by kernel_rfl) (Q2.sel [1,2] (by decide) rfl) (Qp rfl rfl (by decide) rfl rfl) ?_;refine Qe 9 rfl (by kernel_rfl) (Q2.sel [1,2] (by decide) rfl) zF ?_;refine Qu 10 (by kernel_rfl) rfl rfl (X0 2 rfl rfl rfl rfl rfl rfl rfl) (fun _=>.inl (by decide)) rfl (fun _ _=>?_);refine Xh ?_ (by kernel_rfl);refine yd ?_;exact XT (by exact .inl rfl) rfl (fun w hw=>JB H.out 2 3 (b:=uy++dbs) hw rfl rfl HZ.out (by omega) (by omega))
end
end Go.Proofs.YtphkhfdmlcnoeaaGreatDoor
