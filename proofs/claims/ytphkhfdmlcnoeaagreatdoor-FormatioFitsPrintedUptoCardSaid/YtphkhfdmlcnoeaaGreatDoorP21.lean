import Derived.Test.YtphkhfdmlcnoeaaGreatDoorP19
namespace Go.Proofs.YtphkhfdmlcnoeaaGreatDoor
set_option linter.unusedVariables false
set_option linter.unusedSimpArgs false
set_option maxRecDepth 1000000
set_option maxHeartbeats 32000000
open Go.RowKit
section
variable {t:TypeId}{x:Operand}
section
variable {P:Program}{ops:Array Oper}{Q:Exit->Act->World->Prop}{N:Nat}{M:List Nat}{W:World}{E:Env}{O:List Qb}{o:Oper}{rest:List Oper}{B:List PanicEntry->World->Prop}{C:World->Prop}{d:Nat}
theorem QpB[dq:DQ]{v:Value}[hB:Pan Q B](ho:o.op=.panic x)(hw:Qi ops E o=some true)(hx:ev E x=some (.iface t v))(h:∀w,Wd M W O w->B [{ v:=.iface t v,recovered:=false }] w):lE P ops Q N M W E O (o::rest):=fun a w ha hW=>by
 refine wpList_step fun K hK=>?_;rw[if_pos (ha.want hw)];have hr:∀ρ:Operand->Value,ρ x=.iface t v->(execOp ρ o).run P w=.halt (.panic (.iface t v)) w:=fun ρ hx=>by simp [execOp,ho,hx,go_sem]
 unfold Oper.wp;rw[hr a.eval (ha.eval hx)];exact hB.on a _ w ha.df (h w hW)
theorem QvB[dq:DQ]{v:Value}(hm:∀w,(Instr.makeInterface t v).run P w=.ok (.iface t v) w)(ho:o.op=.makeInterface t x)(hd:o.dst=some d)(hN:d<N)(hw:Qi ops E o=some true)(hx:ev E x=some v):oE P ops C N E ((d,.iface t v)::E) o:=
 Xd hd hN hw fun ρ w ha _=>by
  simp only[execOp,ho,ha.eval hx,Sem.run_bind,hm w,Result.andThen_ok];rfl
end
section
variable {W w w':World}{z:Wz}{B g c n:Nat}{F:List Rl}{A:Option Addr}{xs:List UInt8}{k:Int}{d:Nd}{p:VF}{v:Value}
theorem Qub(hv:Fm F)(hk:0<=k/\k<F.length)(h:XV W z B g F A c xs n)(hval:VIn W B v d p)(hd1:d.bs.length<=1048576)(hd2:d.ns.length<=1048576)(hn0:QL d p.len=0)(hpl6:p.len<=1048576)(hsz:xs.length+QH d p<=1099511627776)(hno:n+QH d p<=1099511627776)(hfit:Xm F (Qg F k) d p=false):
  Calls Tryz.prog 45 #[.pointer (some ⟨g,0,none⟩),.int .i64 k,v] W (WrE z g W A c xs (QD F k d p n) n (QH d p)):=by
 have H:=Q2 h;have HV0:=Q2 hv;have hwd:=h.wd;have hFn:=h.len;have hr:=hv.toUsd.rok hk;have hfc:=Qbd
 rw[hfit] at hfc;obtain⟨RES,hres⟩:∃x,QD F k d p n=x:=⟨_,rfl⟩;have HVAL:=Q2 hval;have HK0:=Q2 (show Qg F k=Qg F k from rfl);have HZ:=Q2 (show RES=.error n by rw[<- hres,Qep hfit]);rw[hres];obtain⟨Af,nn,cf⟩:=z;simp only at hFn;obtain⟨bf,of,haf,_⟩:=h.fm.2 Vf;simp only at haf;subst haf;obtain⟨hbB,Ab,cb,An,cn,Ap,cp,hrg,hru⟩:=h.fm.ruleB (k:=k) Jx;have hbM:bf∉wM g A xs.length c:=fun hm=>by
  rcases Z1.1 hm with e|e
  ·exact Vu
  ·exact Q0w
 have hkn:0<=k/\k<(nn:Int):=by omega
 have hBW:B<=W.heap.size:=by have:=h.hB;have:=h.lt;omega
 replace hfc:=fun(w:World) (hw:XV w _ B g F A c xs n) (hr:RuB w B (Qg F k) Ab cb An cn Ap cp) (hvl:VIn w B v d p)=>hfc w Ab An Ap cb cn cp hw hr hvl
 clear h;obtain⟨r,er⟩:∃r,Qg F k=r:=⟨_,rfl⟩;rw[er] at hr hrg hru hfc HK0;clear er hfit;obtain⟨sb,sn,sp,rfl,Abv,nb,cbv,Anv,nnv,cnv,Apv,cpv,rfl,rfl,rfl,hnb,hnn,hpl,hcm,hrb,hrn,hch⟩:=hval;have hnbl:d.bs.length=nb:=by have:=hrb.len;rw[X5] at this;exact this
 have hnnl:d.ns.length=nnv:=by have:=hrn.len;rw[XQ] at this;exact this
 subst hnbl hnnl;have HRB:=Q2 hrb;have HCH:=Q2 hch;have HRU:=Q2 hru;have HRK:=Q2 hr;have HD:=Q2 (Eq.refl d);obtain⟨dk,dn,dbs,dns⟩:=d;simp only[QH] at hsz hno hd1 hd2 hnb hnn ⊢;clear hrb hrn hch hru hv;obtain⟨name,kind,bs,size,big,mn,mx,stop,count,elem,names,parts⟩:=r;simp only[ruC] at hr hrg hfc HK0;have HFC:=Q2 hfc;have HRUB:=Q2D;clear hfc;go_enter Tryz.func45,Tryz.ntmps45;haveI:Pan (bodyPost Tryz.prog Tryz.f45 (WrE ⟨some ⟨bf,of,none⟩,nn,cf⟩ g W A c xs RES n (300+dbs.length+QU p))) (VJ RES (wM g A xs.length c) W):=Pan.body fun ch w' ⟨x,h1,h2,h3⟩=>J6
 refine Qs (M:=wM g A xs.length c) (W:=W) (N:=223) (E:=Q9I) (O:=Q7U) ?_ Z0 hwd;clear hwd;refine yq<|yr ?_;refine yB fun b5=>?_;refine Q0y ?_;refine yA fun b6=>?_;refine Qvh ?_;refine yo zO<|yl<|yn<|y1<|yr<|yo zM ?_;refine Q4 mc5 ?_;refine yo zF<|yo (zB 2) ?_;refine Q4 Qhd ?_;refine Q4 (QvB (fun w=>by kernel_rfl) rfl rfl Q1 rfl rfl) ?_;exact QpB rfl rfl rfl (fun w hw=>⟨n,HZ.out,rfl,hw.k⟩)
theorem QwD(hv:Fm F)(hk:0<=k/\k<F.length)(h:XV W z B g F A c xs n)(hval:VIn W B v d p)(hd1:d.bs.length<=1048576)(hd2:d.ns.length<=1048576)(hn0:QL d p.len=0)(hpl6:p.len<=1048576)(hsz:xs.length+QH d p<=1099511627776)(hno:n+QH d p<=1099511627776)(hfit:Xm F (Qg F k) d p=true)(hkind:(Qg F k).kind=1):
  Calls Tryz.prog 45 #[.pointer (some ⟨g,0,none⟩),.int .i64 k,v] W (WrE z g W A c xs (QD F k d p n) n (QH d p)):=by
 have H:=Q2 h;have HV0:=Q2 hv;have hwd:=h.wd;have hFn:=h.len;have hr:=hv.toUsd.rok hk;have hfc:=Qbd
 rw[hfit] at hfc;obtain⟨RES,hres⟩:∃x,QD F k d p n=x:=⟨_,rfl⟩;have HVAL:=Q2 hval;have HL:=Qj6;have HK0:=Q2 (show (Qg F k).kind=1/\ZG F (Qg F k) d p=(Qg F k).bs from ⟨hkind,by unfold ZG;rw[if_pos hkind]⟩);rw[HK0.out.2] at HL;rw[hres];obtain⟨Af,nn,cf⟩:=z;simp only at hFn;obtain⟨bf,of,haf,_⟩:=h.fm.2 Vf;simp only at haf;subst haf;obtain⟨hbB,Ab,cb,An,cn,Ap,cp,hrg,hru⟩:=h.fm.ruleB (k:=k) Jx;have hbM:bf∉wM g A xs.length c:=fun hm=>by
  rcases Z1.1 hm with e|e
  ·exact Vu
  ·exact Q0w
 have hkn:0<=k/\k<(nn:Int):=by omega
 have hBW:B<=W.heap.size:=by have:=h.hB;have:=h.lt;omega
 replace hfc:=fun(w:World) (hw:XV w _ B g F A c xs n) (hr:RuB w B (Qg F k) Ab cb An cn Ap cp) (hvl:VIn w B v d p)=>hfc w Ab An Ap cb cn cp hw hr hvl
 clear h;obtain⟨r,er⟩:∃r,Qg F k=r:=⟨_,rfl⟩;rw[er] at hr hrg hru hfc HK0 HL;clear er hfit;obtain⟨sb,sn,sp,rfl,Abv,nb,cbv,Anv,nnv,cnv,Apv,cpv,rfl,rfl,rfl,hnb,hnn,hpl,hcm,hrb,hrn,hch⟩:=hval;have hnbl:d.bs.length=nb:=by have:=hrb.len;rw[X5] at this;exact this
 have hnnl:d.ns.length=nnv:=by have:=hrn.len;rw[XQ] at this;exact this
 subst hnbl hnnl;have HRB:=Q2 hrb;have HCH:=Q2 hch;have HRU:=Q2 hru;have HRK:=Q2 hr;have HD:=Q2 (Eq.refl d);obtain⟨dk,dn,dbs,dns⟩:=d;simp only[QH] at hsz hno hd1 hd2 hnb hnn ⊢;clear hrb hrn hch hru hv;obtain⟨name,kind,bs,size,big,mn,mx,stop,count,elem,names,parts⟩:=r;simp only[ruC] at hr hrg hfc HK0 HL;have HFC:=Q2 hfc;have HRUB:=Q2D;clear hfc;go_enter Tryz.func45,Tryz.ntmps45;haveI:Pan (bodyPost Tryz.prog Tryz.f45 (WrE ⟨some ⟨bf,of,none⟩,nn,cf⟩ g W A c xs RES n (300+dbs.length+QU p))) (VJ RES (wM g A xs.length c) W):=Pan.body fun ch w' ⟨x,h1,h2,h3⟩=>J6
 refine Qs (M:=wM g A xs.length c) (W:=W) (N:=223) (E:=Q9I) (O:=Q7U) ?_ Z0 hwd;clear hwd;refine yq<|yr ?_;refine yB fun b5=>?_;refine Q0y ?_;refine yA fun b6=>?_;refine Q1M ?_;obtain⟨hkd,_⟩:=HK0.out;replace hkd:kind=1:=hkd;subst hkd;have hb16:=hr.bs16;replace hb16:bs.length<=16:=hb16;have HZ:=Q2 (show RES=.ok (bs,n+1) from HL.out);have hl1:xs.length+bs.length=(xs++bs).length:=Qfs;have hb1:bv xs++bv bs=bv (xs++bs):=by unfold bv;rw[List.map_append]
 have e1:(n:Int)+1=((n+1:Nat):Int):=rfl;refine Q85 ?_;refine yl<|yn<|yq<|yr<|yo zF<|yo (zB 0)<|yl<|yn<|yb<|yq<|yr<|yo zet<|yo zA<|yl<|yn<|y1 ?_;rw[e1];refine Z7 [.blk b6 (.cells ([.string ⟨name.toArray⟩,.int .i64 1,.slice Ab bs.length cb,.int .i64 size,.bool big,.int .i64 mn,.int .i64 mx,.int .i64 stop,.int .i64 count,.int .i64 elem,.slice An names.length cn,.slice Ap parts.length cp]:List Value).toArray 65 (0,0)),.blk g Qds] [10] Q5 ?_;refine QrN ?_;refine QS 7 Q5 rfl rfl (Z8 3 rfl rfl rfl rfl rfl (fun w hw=>(HRUB.out.below Q4w).more Q96) (Jg _) Q3) (fun _=>.inr Q6j) rfl Q1 (fun z1 _=>?_);rw[hl1,hb1];refine Qn 8 rfl Q5 Q6j mc5 ?_;refine Qn 9 rfl Q5 Q6j zF ?_;refine QI 10 Q5 rfl rfl Q36 J0 rfl (fun _ _=>?_);refine Xu ?_ Q5;refine yd ?_;exact Zc Yu rfl (fun w hw=>Yd H.out 2 3 (b:=bs) hw rfl rfl HZ.out Q3 Q3)
theorem Qwy(hv:Fm F)(hk:0<=k/\k<F.length)(h:XV W z B g F A c xs n)(hval:VIn W B v d p)(hd1:d.bs.length<=1048576)(hd2:d.ns.length<=1048576)(hn0:QL d p.len=0)(hpl6:p.len<=1048576)(hsz:xs.length+QH d p<=1099511627776)(hno:n+QH d p<=1099511627776)(hfit:Xm F (Qg F k) d p=true)(hkind:(Qg F k).kind=2):
  Calls Tryz.prog 45 #[.pointer (some ⟨g,0,none⟩),.int .i64 k,v] W (WrE z g W A c xs (QD F k d p n) n (QH d p)):=by
 have H:=Q2 h;have HV0:=Q2 hv;have hwd:=h.wd;have hFn:=h.len;have hr:=hv.toUsd.rok hk;have hfc:=Qbd
 rw[hfit] at hfc;obtain⟨RES,hres⟩:∃x,QD F k d p n=x:=⟨_,rfl⟩;have HVAL:=Q2 hval;have HL:=Qj6;have HK0:=Q2 (show (Qg F k).kind=2/\ZG F (Qg F k) d p=YO (Qg F k) d.n from ⟨hkind,by unfold ZG;rw[if_neg Q3,if_pos KY]⟩);rw[HK0.out.2] at HL;have hcnt:Vc (Qg F k) d.n=true:=by rw[K9 KY,Bool.and_eq_true] at hfit;exact hfit.2
 have hNO:=Yh.of hr KY;rw[hres];obtain⟨Af,nn,cf⟩:=z;simp only at hFn;obtain⟨bf,of,haf,_⟩:=h.fm.2 Vf;simp only at haf;subst haf;obtain⟨hbB,Ab,cb,An,cn,Ap,cp,hrg,hru⟩:=h.fm.ruleB (k:=k) Jx;have hbM:bf∉wM g A xs.length c:=fun hm=>by
  rcases Z1.1 hm with e|e
  ·exact Vu
  ·exact Q0w
 have hkn:0<=k/\k<(nn:Int):=by omega
 have hBW:B<=W.heap.size:=by have:=h.hB;have:=h.lt;omega
 replace hfc:=fun(w:World) (hw:XV w _ B g F A c xs n) (hr:RuB w B (Qg F k) Ab cb An cn Ap cp) (hvl:VIn w B v d p)=>hfc w Ab An Ap cb cn cp hw hr hvl
 clear h;obtain⟨r,er⟩:∃r,Qg F k=r:=⟨_,rfl⟩;rw[er] at hr hrg hru hfc HK0 HL hcnt hNO;clear er hfit;obtain⟨sb,sn,sp,rfl,Abv,nb,cbv,Anv,nnv,cnv,Apv,cpv,rfl,rfl,rfl,hnb,hnn,hpl,hcm,hrb,hrn,hch⟩:=hval;have hnbl:d.bs.length=nb:=by have:=hrb.len;rw[X5] at this;exact this
 have hnnl:d.ns.length=nnv:=by have:=hrn.len;rw[XQ] at this;exact this
 subst hnbl hnnl;have HRB:=Q2 hrb;have HCH:=Q2 hch;have HRU:=Q2 hru;have HRK:=Q2 hr;have HD:=Q2 (Eq.refl d);obtain⟨dk,dn,dbs,dns⟩:=d;simp only[QH] at hsz hno hd1 hd2 hnb hnn ⊢;clear hrb hrn hch hru hv;obtain⟨name,kind,bs,size,big,mn,mx,stop,count,elem,names,parts⟩:=r;have hnc:=Qrf
 have hnl:=Q01 hNO hcnt;obtain⟨uy,hys⟩:∃uy,YO ⟨name,kind,bs,size,big,mn,mx,stop,count,elem,names,parts⟩ dn=uy:=⟨_,rfl⟩;simp only[hys] at hnc hnl HL;simp only[ruC] at hr hrg hfc HK0 hnc;have HNC:=Q2 hnc;clear hnc hNO hcnt;have HFC:=Q2 hfc;have HRUB:=Q2D;clear hfc;go_enter Tryz.func45,Tryz.ntmps45;haveI:Pan (bodyPost Tryz.prog Tryz.f45 (WrE ⟨some ⟨bf,of,none⟩,nn,cf⟩ g W A c xs RES n (300+dbs.length+QU p))) (VJ RES (wM g A xs.length c) W):=Pan.body fun ch w' ⟨x,h1,h2,h3⟩=>J6
 refine Qs (M:=wM g A xs.length c) (W:=W) (N:=223) (E:=Q9I) (O:=Q7U) ?_ Z0 hwd;clear hwd;refine yq<|yr ?_;refine yB fun b5=>?_;refine Q0y ?_;refine yA fun b6=>?_;refine Q1M ?_;obtain⟨hkd,_⟩:=HK0.out;replace hkd:kind=2:=hkd;subst hkd;have HZ:=Q2 (show RES=.ok (uy,n+1) from HL.out);have e1:(n:Int)+1=((n+1:Nat):Int):=rfl;refine Q85 ?_;refine yl<|yn<|yq<|yr<|yo zF<|yo (zB 0)<|yl<|yn<|yb<|yq<|yr<|yo zef<|yo zA<|yl<|yn<|y0<|yq<|yq<|yr<|yo zet<|yo zA<|yl ?_;rw[e1];refine yn<|y1<|ys<|yn<|y1<|yr<|yo zM<|yo (zD 0)<|yo zF<|yo (zB 1) ?_;refine ZP Qhy rfl Q1 (fun y hy=>?_);refine yl ?_;obtain⟨ub,um,uA,uc⟩:=y;obtain⟨hy1,hy2,hy3⟩:=hy;injection hy1 with hy1;injection hy1 with hyb hym;simp only at hyb hym;subst hyb hym;refine yd ?_;exact QsP
theorem Qwp(hv:Fm F)(hk:0<=k/\k<F.length)(h:XV W z B g F A c xs n)(hval:VIn W B v d p)(hd1:d.bs.length<=1048576)(hd2:d.ns.length<=1048576)(hn0:QL d p.len=0)(hpl6:p.len<=1048576)(hsz:xs.length+QH d p<=1099511627776)(hno:n+QH d p<=1099511627776)(hfit:Xm F (Qg F k) d p=true)(hkind:(Qg F k).kind=3):
  Calls Tryz.prog 45 #[.pointer (some ⟨g,0,none⟩),.int .i64 k,v] W (WrE z g W A c xs (QD F k d p n) n (QH d p)):=by
 have H:=Q2 h;have HV0:=Q2 hv;have hwd:=h.wd;have hFn:=h.len;have hr:=hv.toUsd.rok hk;have hfc:=Qbd
 rw[hfit] at hfc;obtain⟨RES,hres⟩:∃x,QD F k d p n=x:=⟨_,rfl⟩;have HVAL:=Q2 hval;have HL:=Qj6;have HK0:=Q2 (show (Qg F k).kind=3/\ZG F (Qg F k) d p=YO (Qg F k) d.n from ⟨hkind,by unfold ZG;rw[if_neg Q3,if_pos Q07]⟩);rw[HK0.out.2] at HL;have hcnt:Vc (Qg F k) d.n=true:=by rw[K9 Q07,Bool.and_eq_true] at hfit;exact hfit.2
 have hNO:=Yh.of hr Q07;rw[hres];obtain⟨Af,nn,cf⟩:=z;simp only at hFn;obtain⟨bf,of,haf,_⟩:=h.fm.2 Vf;simp only at haf;subst haf;obtain⟨hbB,Ab,cb,An,cn,Ap,cp,hrg,hru⟩:=h.fm.ruleB (k:=k) Jx;have hbM:bf∉wM g A xs.length c:=fun hm=>by
  rcases Z1.1 hm with e|e
  ·exact Vu
  ·exact Q0w
 have hkn:0<=k/\k<(nn:Int):=by omega
 have hBW:B<=W.heap.size:=by have:=h.hB;have:=h.lt;omega
 replace hfc:=fun(w:World) (hw:XV w _ B g F A c xs n) (hr:RuB w B (Qg F k) Ab cb An cn Ap cp) (hvl:VIn w B v d p)=>hfc w Ab An Ap cb cn cp hw hr hvl
 clear h;obtain⟨r,er⟩:∃r,Qg F k=r:=⟨_,rfl⟩;rw[er] at hr hrg hru hfc HK0 HL hcnt hNO;clear er hfit;obtain⟨sb,sn,sp,rfl,Abv,nb,cbv,Anv,nnv,cnv,Apv,cpv,rfl,rfl,rfl,hnb,hnn,hpl,hcm,hrb,hrn,hch⟩:=hval;have hnbl:d.bs.length=nb:=by have:=hrb.len;rw[X5] at this;exact this
 have hnnl:d.ns.length=nnv:=by have:=hrn.len;rw[XQ] at this;exact this
 subst hnbl hnnl;have HRB:=Q2 hrb;have HCH:=Q2 hch;have HRU:=Q2 hru;have HRK:=Q2 hr;have HD:=Q2 (Eq.refl d);obtain⟨dk,dn,dbs,dns⟩:=d;simp only[QH] at hsz hno hd1 hd2 hnb hnn ⊢;clear hrb hrn hch hru hv;obtain⟨name,kind,bs,size,big,mn,mx,stop,count,elem,names,parts⟩:=r;have hnc:=Qrf
 have hnl:=Q01 hNO hcnt;obtain⟨uy,hys⟩:∃uy,YO ⟨name,kind,bs,size,big,mn,mx,stop,count,elem,names,parts⟩ dn=uy:=⟨_,rfl⟩;simp only[hys] at hnc hnl HL;simp only[ruC] at hr hrg hfc HK0 hnc;have HNC:=Q2 hnc;clear hnc hNO hcnt;have HFC:=Q2 hfc;have HRUB:=Q2D;clear hfc;go_enter Tryz.func45,Tryz.ntmps45;haveI:Pan (bodyPost Tryz.prog Tryz.f45 (WrE ⟨some ⟨bf,of,none⟩,nn,cf⟩ g W A c xs RES n (300+dbs.length+QU p))) (VJ RES (wM g A xs.length c) W):=Pan.body fun ch w' ⟨x,h1,h2,h3⟩=>J6
 refine Qs (M:=wM g A xs.length c) (W:=W) (N:=223) (E:=Q9I) (O:=Q7U) ?_ Z0 hwd;clear hwd;refine yq<|yr ?_;refine yB fun b5=>?_;refine Q0y ?_;refine yA fun b6=>?_;refine Q1M ?_;obtain⟨hkd,_⟩:=HK0.out;replace hkd:kind=3:=hkd;subst hkd;have HZ:=Q2 (show RES=.ok (uy,n+1) from HL.out);have e1:(n:Int)+1=((n+1:Nat):Int):=rfl;refine Q85 ?_;refine yl<|yn<|yq<|yr<|yo zF<|yo (zB 0)<|yl<|yn<|yb<|yq<|yr<|yo zef<|yo zA<|yl<|yn<|y0<|yq<|yq<|yr<|yo zef<|yo zA<|yl<|yn<|y0<|yr<|yo zet<|yo zA<|yl ?_;rw[e1];refine yn<|y1<|yr<|yo zM<|yo (zD 0)<|yo zF<|yo (zB 1) ?_;refine ZP Qhy rfl Q1 (fun y hy=>?_);refine yl ?_;obtain⟨ub,um,uA,uc⟩:=y;obtain⟨hy1,hy2,hy3⟩:=hy;injection hy1 with hy1;injection hy1 with hyb hym;simp only at hyb hym;subst hyb hym;refine yd ?_;exact QsP
theorem QwC(hv:Fm F)(hk:0<=k/\k<F.length)(h:XV W z B g F A c xs n)(hval:VIn W B v d p)(hd1:d.bs.length<=1048576)(hd2:d.ns.length<=1048576)(hn0:QL d p.len=0)(hpl6:p.len<=1048576)(hsz:xs.length+QH d p<=1099511627776)(hno:n+QH d p<=1099511627776)(hfit:Xm F (Qg F k) d p=true)(hkind:(Qg F k).kind=4):
  Calls Tryz.prog 45 #[.pointer (some ⟨g,0,none⟩),.int .i64 k,v] W (WrE z g W A c xs (QD F k d p n) n (QH d p)):=by
 have H:=Q2 h;have HV0:=Q2 hv;have hwd:=h.wd;have hFn:=h.len;have hr:=hv.toUsd.rok hk;have hfc:=Qbd
 rw[hfit] at hfc;obtain⟨RES,hres⟩:∃x,QD F k d p n=x:=⟨_,rfl⟩;have HVAL:=Q2 hval;have HL:=Qj6;have HK0:=Q2 (show (Qg F k).kind=4/\ZG F (Qg F k) d p=d.bs from ⟨hkind,by unfold ZG;rw[if_neg Q3,if_neg Q3,if_pos hkind]⟩);rw[HK0.out.2] at HL;rw[hres];obtain⟨Af,nn,cf⟩:=z;simp only at hFn;obtain⟨bf,of,haf,_⟩:=h.fm.2 Vf;simp only at haf;subst haf;obtain⟨hbB,Ab,cb,An,cn,Ap,cp,hrg,hru⟩:=h.fm.ruleB (k:=k) Jx;have hbM:bf∉wM g A xs.length c:=fun hm=>by
  rcases Z1.1 hm with e|e
  ·exact Vu
  ·exact Q0w
 have hkn:0<=k/\k<(nn:Int):=by omega
 have hBW:B<=W.heap.size:=by have:=h.hB;have:=h.lt;omega
 replace hfc:=fun(w:World) (hw:XV w _ B g F A c xs n) (hr:RuB w B (Qg F k) Ab cb An cn Ap cp) (hvl:VIn w B v d p)=>hfc w Ab An Ap cb cn cp hw hr hvl
 clear h;obtain⟨r,er⟩:∃r,Qg F k=r:=⟨_,rfl⟩;rw[er] at hr hrg hru hfc HK0;clear er hfit;obtain⟨sb,sn,sp,rfl,Abv,nb,cbv,Anv,nnv,cnv,Apv,cpv,rfl,rfl,rfl,hnb,hnn,hpl,hcm,hrb,hrn,hch⟩:=hval;have hnbl:d.bs.length=nb:=by have:=hrb.len;rw[X5] at this;exact this
 have hnnl:d.ns.length=nnv:=by have:=hrn.len;rw[XQ] at this;exact this
 subst hnbl hnnl;have HRB:=Q2 hrb;have HCH:=Q2 hch;have HRU:=Q2 hru;have HRK:=Q2 hr;have HD:=Q2 (Eq.refl d);obtain⟨dk,dn,dbs,dns⟩:=d;simp only[QH] at hsz hno hd1 hd2 hnb hnn ⊢;clear hrb hrn hch hru hv;obtain⟨name,kind,bs,size,big,mn,mx,stop,count,elem,names,parts⟩:=r;simp only[ruC] at hr hrg hfc HK0 HL;have HFC:=Q2 hfc;have HRUB:=Q2D;clear hfc;go_enter Tryz.func45,Tryz.ntmps45;haveI:Pan (bodyPost Tryz.prog Tryz.f45 (WrE ⟨some ⟨bf,of,none⟩,nn,cf⟩ g W A c xs RES n (300+dbs.length+QU p))) (VJ RES (wM g A xs.length c) W):=Pan.body fun ch w' ⟨x,h1,h2,h3⟩=>J6
 refine Qs (M:=wM g A xs.length c) (W:=W) (N:=223) (E:=Q9I) (O:=Q7U) ?_ Z0 hwd;clear hwd;refine yq<|yr ?_;refine yB fun b5=>?_;refine Q0y ?_;refine yA fun b6=>?_;refine Q1M ?_;obtain⟨hkd,_⟩:=HK0.out;replace hkd:kind=4:=hkd;subst hkd;have HZ:=Q2 (show RES=.ok (dbs,n+1) from HL.out);have hl1:xs.length+dbs.length=(xs++dbs).length:=Qfs;have hb1:bv xs++bv dbs=bv (xs++dbs):=by unfold bv;rw[List.map_append]
 have e1:(n:Int)+1=((n+1:Nat):Int):=rfl;refine Q85 ?_;refine yl<|yn<|yq<|yr<|yo zF<|yo (zB 0)<|yl<|yn<|yb<|yq<|yr<|yo zef<|yo zA<|yl<|yn<|y0<|yq<|yq<|yr<|yo zef<|yo zA<|yl<|yn<|y0<|yr<|yo zef<|yo zA<|yl<|yn<|y0<|yq<|yr<|yo zet<|yo zA<|yl<|yn<|y1 ?_;rw[e1];refine Z7 [.blk b5 QcQ,.blk g Qds] [10] Q5 ?_;refine Qti ?_;refine QS 7 Q5 rfl rfl Qmj Q1W rfl Q1 (fun z1 _=>?_);rw[hl1,hb1];refine Qn 8 rfl Q5 Q0P mc5 ?_;refine Qn 9 rfl Q5 Q0P zF ?_;refine QI 10 Q5 rfl rfl Q36 J0 rfl (fun _ _=>?_);refine Xu ?_ Q5;refine yd ?_;exact Zc Yu rfl (fun w hw=>Yd H.out 2 3 (b:=dbs) hw rfl rfl HZ.out Q3 Q3)
theorem Qwn(hv:Fm F)(hk:0<=k/\k<F.length)(h:XV W z B g F A c xs n)(hval:VIn W B v d p)(hd1:d.bs.length<=1048576)(hd2:d.ns.length<=1048576)(hn0:QL d p.len=0)(hpl6:p.len<=1048576)(hsz:xs.length+QH d p<=1099511627776)(hno:n+QH d p<=1099511627776)(hfit:Xm F (Qg F k) d p=true)(hkind:(Qg F k).kind=5):
  Calls Tryz.prog 45 #[.pointer (some ⟨g,0,none⟩),.int .i64 k,v] W (WrE z g W A c xs (QD F k d p n) n (QH d p)):=by
 have H:=Q2 h;have HV0:=Q2 hv;have hwd:=h.wd;have hFn:=h.len;have hr:=hv.toUsd.rok hk;have hfc:=Qbd
 rw[hfit] at hfc;obtain⟨RES,hres⟩:∃x,QD F k d p n=x:=⟨_,rfl⟩;have HVAL:=Q2 hval;have HL:=Qj6;have HK0:=Q2 (show (Qg F k).kind=5/\ZG F (Qg F k) d p=d.bs++[Yq (Qg F k)] from ⟨hkind,by unfold ZG;rw[if_neg Q3,if_neg Q3,if_neg Q3,if_neg Q3,if_pos hkind]⟩);rw[HK0.out.2] at HL;rw[hres];obtain⟨Af,nn,cf⟩:=z;simp only at hFn;obtain⟨bf,of,haf,_⟩:=h.fm.2 Vf;simp only at haf;subst haf;obtain⟨hbB,Ab,cb,An,cn,Ap,cp,hrg,hru⟩:=h.fm.ruleB (k:=k) Jx;have hbM:bf∉wM g A xs.length c:=fun hm=>by
  rcases Z1.1 hm with e|e
  ·exact Vu
  ·exact Q0w
 have hkn:0<=k/\k<(nn:Int):=by omega
 have hBW:B<=W.heap.size:=by have:=h.hB;have:=h.lt;omega
 replace hfc:=fun(w:World) (hw:XV w _ B g F A c xs n) (hr:RuB w B (Qg F k) Ab cb An cn Ap cp) (hvl:VIn w B v d p)=>hfc w Ab An Ap cb cn cp hw hr hvl
 clear h;obtain⟨r,er⟩:∃r,Qg F k=r:=⟨_,rfl⟩;rw[er] at hr hrg hru hfc HK0 HL;clear er hfit;obtain⟨sb,sn,sp,rfl,Abv,nb,cbv,Anv,nnv,cnv,Apv,cpv,rfl,rfl,rfl,hnb,hnn,hpl,hcm,hrb,hrn,hch⟩:=hval;have hnbl:d.bs.length=nb:=by have:=hrb.len;rw[X5] at this;exact this
 have hnnl:d.ns.length=nnv:=by have:=hrn.len;rw[XQ] at this;exact this
 subst hnbl hnnl;have HRB:=Q2 hrb;have HCH:=Q2 hch;have HRU:=Q2 hru;have HRK:=Q2 hr;have HD:=Q2 (Eq.refl d);obtain⟨dk,dn,dbs,dns⟩:=d;simp only[QH] at hsz hno hd1 hd2 hnb hnn ⊢;clear hrb hrn hch hru hv;obtain⟨name,kind,bs,size,big,mn,mx,stop,count,elem,names,parts⟩:=r;simp only[ruC,Yq] at hr hrg hfc HK0 HL;have HFC:=Q2 hfc;have HRUB:=Q2D;clear hfc;go_enter Tryz.func45,Tryz.ntmps45;haveI:Pan (bodyPost Tryz.prog Tryz.f45 (WrE ⟨some ⟨bf,of,none⟩,nn,cf⟩ g W A c xs RES n (300+dbs.length+QU p))) (VJ RES (wM g A xs.length c) W):=Pan.body fun ch w' ⟨x,h1,h2,h3⟩=>J6
 refine Qs (M:=wM g A xs.length c) (W:=W) (N:=223) (E:=Q9I) (O:=Q7U) ?_ Z0 hwd;clear hwd;refine yq<|yr ?_;refine yB fun b5=>?_;refine Q0y ?_;refine yA fun b6=>?_;refine Q1M ?_;obtain⟨hkd,_⟩:=HK0.out;replace hkd:kind=5:=hkd;subst hkd;obtain⟨sB,hsB⟩:∃b:UInt8,UInt8.ofNat (stop % 256).toNat=b:=⟨_,rfl⟩;have hcv:IntKind.u8.wrap stop=(sB.toNat:Int):=by rw[Qcn,hsB]
 have HZ:=Q2 (show RES=.ok (dbs++[sB],n+1) by rw[<- hsB];exact HL.out);have hl1:xs.length+dbs.length=(xs++dbs).length:=Qfs;have hb1:bv xs++bv dbs=bv (xs++dbs):=by unfold bv;rw[List.map_append]
 have hl2:(xs++dbs).length+1=(xs++(dbs++[sB])).length:=by simp only[List.length_append,List.length_cons,List.length_nil];omega
 have hb2:bv (xs++dbs)++[.int .u8 (sB.toNat:Int)]=bv (xs++(dbs++[sB])):=by unfold bv;simp
 have hbl:(dbs++[sB]).length=dbs.length+1:=Qay;have hbnd:(xs++dbs).length<=1099511627776:=by rw[<- hl1];omega
 have e1:(n:Int)+1=((n+1:Nat):Int):=rfl;refine Q85 ?_;refine yl<|yn<|yq<|yr<|yo zF<|yo (zB 0)<|yl<|yn<|yb<|yq<|yr<|yo zef<|yo zA<|yl<|yn<|y0<|yq<|yq<|yr<|yo zef<|yo zA<|yl<|yn<|y0<|yr<|yo zef<|yo zA<|yl<|yn<|y0<|yq<|yr<|yo zef<|yo zA<|yl<|yn<|y0<|yq<|yr<|yo zef<|yo zA<|yl<|yn<|y0<|yq<|yr<|yo zet<|yo zA<|yl<|yn<|y1 ?_;rw[e1];refine Z7 [.blk b6 (.cells (Qss:List Value).toArray 65 (0,0)),.blk b5 QcQ,.blk g Qds] [15] Q5 ?_;refine Qn 0 rfl Q5 VT zM ?_;refine Qn 1 rfl Q5 VT zM ?_;refine Qn 2 rfl Q5 VT mc5 ?_;refine Qn 3 rfl Q5 VT zF ?_;refine Qn 4 rfl Q5 VT (zB 2) ?_;refine Qn 5 rfl Q5 VT zF ?_;refine Qn 6 rfl Q5 VT (zB 1) ?_;refine Qn 8 rfl Q5 VT zF ?_;refine Qn 9 rfl Q5 VT (zB 0) ?_;refine Qn 10 rfl Q5 VT Qcr ?_;refine Q6f 7 11 Q5 (Js rfl rfl Qmj (fun _=>.inr VT) rfl Q1 (fun z1 _=>?_)) (Js rfl rfl VG Q7m rfl Q1 (fun bn _=>?_))
 ·rw[hl1,hb1];refine QS 11 Q5 rfl rfl VG Q7m rfl Q1 (fun bn _=>?_);refine QS 12 Q5 rfl rfl QhA Q7m rfl Q1 (fun z2 _=>?_);refine QmM ?_;refine QI 15 Q5 rfl rfl Qho J0 rfl (fun _ _=>?_);refine Xu ?_ Q5;refine yd ?_;exact Qtp
 ·refine QS 7 Q5 rfl rfl (Z8 4 rfl rfl rfl rfl rfl (fun w hw=>(HRB.out.below Q4w).more Q96) (Jg _) Q3) Q7m rfl Q1 (fun z1 _=>?_);rw[hl1,hb1];refine QS 12 Q5 rfl rfl QhA Q7m rfl Q1 (fun z2 _=>?_);refine QmM ?_;refine QI 15 Q5 rfl rfl Qho J0 rfl (fun _ _=>?_);refine Xu ?_ Q5;refine yd ?_;exact Qtp
theorem Qvv(hv:Fm F)(hk:0<=k/\k<F.length)(h:XV W z B g F A c xs n)(hval:VIn W B v d p)(hd1:d.bs.length<=1048576)(hd2:d.ns.length<=1048576)(hn0:QL d p.len=0)(hpl6:p.len<=1048576)(hsz:xs.length+QH d p<=1099511627776)(hno:n+QH d p<=1099511627776)(hfit:Xm F (Qg F k) d p=true)(hkind:(Qg F k).kind=10):
  Calls Tryz.prog 45 #[.pointer (some ⟨g,0,none⟩),.int .i64 k,v] W (WrE z g W A c xs (QD F k d p n) n (QH d p)):=by
 have H:=Q2 h;have HV0:=Q2 hv;have hwd:=h.wd;have hFn:=h.len;have hr:=hv.toUsd.rok hk;have hfc:=Qbd
 rw[hfit] at hfc;obtain⟨RES,hres⟩:∃x,QD F k d p n=x:=⟨_,rfl⟩;have HVAL:=Q2 hval;have HL:=Qj6;have HK0:=Q2 (show (Qg F k).kind=10/\ZG F (Qg F k) d p=YO (Qg F (Qg F k).count) (d.bs.length:Int)++d.bs from ⟨hkind,by unfold ZG;rw[if_neg Q3,if_neg Q3,if_neg Q3,if_pos hkind]⟩);rw[HK0.out.2] at HL;have hcnt:Vc (Qg F (Qg F k).count) (d.bs.length:Int)=true:=by rw[Q6v hkind,Bool.and_eq_true] at hfit;exact hfit.2
 have hNO:=hv.numOk hk Q07;have hct:=hr.count Q07;rw[hres];obtain⟨Af,nn,cf⟩:=z;simp only at hFn;obtain⟨bf,of,haf,_⟩:=h.fm.2 Vf;simp only at haf;subst haf;obtain⟨hbB,Ab,cb,An,cn,Ap,cp,hrg,hru⟩:=h.fm.ruleB (k:=k) Jx;have hbM:bf∉wM g A xs.length c:=fun hm=>by
  rcases Z1.1 hm with e|e
  ·exact Vu
  ·exact Q0w
 have hkn:0<=k/\k<(nn:Int):=by omega
 have hBW:B<=W.heap.size:=by have:=h.hB;have:=h.lt;omega
 replace hfc:=fun(w:World) (hw:XV w _ B g F A c xs n) (hr:RuB w B (Qg F k) Ab cb An cn Ap cp) (hvl:VIn w B v d p)=>hfc w Ab An Ap cb cn cp hw hr hvl
 clear h;obtain⟨r,er⟩:∃r,Qg F k=r:=⟨_,rfl⟩;rw[er] at hr hrg hru hfc HK0 HL hcnt hNO hct;clear er hfit;obtain⟨sb,sn,sp,rfl,Abv,nb,cbv,Anv,nnv,cnv,Apv,cpv,rfl,rfl,rfl,hnb,hnn,hpl,hcm,hrb,hrn,hch⟩:=hval;have hnbl:d.bs.length=nb:=by have:=hrb.len;rw[X5] at this;exact this
 have hnnl:d.ns.length=nnv:=by have:=hrn.len;rw[XQ] at this;exact this
 subst hnbl hnnl;have HRB:=Q2 hrb;have HCH:=Q2 hch;have HRU:=Q2 hru;have HRK:=Q2 hr;have HD:=Q2 (Eq.refl d);obtain⟨dk,dn,dbs,dns⟩:=d;simp only[QH] at hsz hno hd1 hd2 hnb hnn ⊢;clear hrb hrn hch hru hv;obtain⟨name,kind,bs,size,big,mn,mx,stop,count,elem,names,parts⟩:=r;obtain⟨hbB2,Ab2,cb2,An2,cn2,Ap2,cp2,hrg2,hru2⟩:=H.out.fm.ruleB (k:=count) (by simp only;exact Qgs);have hct2:0<=count/\count<(nn:Int):=Qgs;simp only at hcnt hNO HL;obtain⟨r2,er2⟩:∃r,Qg F count=r:=⟨_,rfl⟩;rw[er2] at hrg2 hcnt hNO HL;clear er2 hru2;have hnc:=QsC
 have hnl:=Q01 hNO hcnt;obtain⟨uy,hys⟩:∃uy,YO r2 (dbs.length:Int)=uy:=⟨_,rfl⟩;simp only[hys] at hnc hnl HL;clear hys hNO hcnt hct;obtain⟨name2,kind2,bs2,size2,big2,mn2,mx2,stop2,count2,elem2,names2,parts2⟩:=r2;simp only[ruC] at hnc hrg2;have HNC:=Q2 hnc;clear hnc;simp only[ruC] at hr hrg hfc HK0;have HFC:=Q2 hfc;have HRUB:=Q2D;clear hfc;go_enter Tryz.func45,Tryz.ntmps45;haveI:Pan (bodyPost Tryz.prog Tryz.f45 (WrE ⟨some ⟨bf,of,none⟩,nn,cf⟩ g W A c xs RES n (300+dbs.length+QU p))) (VJ RES (wM g A xs.length c) W):=Pan.body fun ch w' ⟨x,h1,h2,h3⟩=>J6
 refine Qs (M:=wM g A xs.length c) (W:=W) (N:=223) (E:=Q9I) (O:=Q7U) ?_ Z0 hwd;clear hwd;refine yq<|yr ?_;refine yB fun b5=>?_;refine Q0y ?_;refine yA fun b6=>?_;refine Q1M ?_;obtain⟨hkd,_⟩:=HK0.out;replace hkd:kind=10:=hkd;subst hkd;have HZ:=Q2 (show RES=.ok (uy++dbs,n+1) from HL.out);have hl1:(xs++uy).length+dbs.length=(xs++(uy++dbs)).length:=by simp only[List.length_append];omega
 have hb1:bv (xs++uy)++bv dbs=bv (xs++(uy++dbs)):=by unfold bv;simp
 have hyl:(uy++dbs).length=uy.length+dbs.length:=Qay;have hbnd:(xs++uy).length+dbs.length<=1099511627776:=by rw[List.length_append];omega
 have e1:(n:Int)+1=((n+1:Nat):Int):=rfl;refine Q85 ?_;refine yl<|yn<|yq<|yr<|yo zF<|yo (zB 0)<|yl<|yn<|yb<|yq<|yr<|yo zef<|yo zA<|yl<|yn<|y0<|yq<|yq<|yr<|yo zef<|yo zA<|yl<|yn<|y0<|yr<|yo zef<|yo zA<|yl<|yn<|y0<|yq<|yr<|yo zef<|yo zA<|yl<|yn<|y0<|yq<|yr<|yo zet<|yo zA<|yl<|yn<|y1<|yq ?_;rw[e1];refine Vb (B:=VJ RES (wM g A xs.length c) W) [.blk b6 (.cells (Qov:List Value).toArray 65 (0,0)),.blk b5 QcQ,.blk g Qds] [13] Q5 ?_ ?_
 ·infer_instance
 refine Qt9 ?_;refine Q0I 13 Q5 rfl rfl Qhy (fun i=>.inl Q1) rfl Q1 (fun y hy=>?_);refine Q91 ?_ Q5;obtain⟨ub,um,uA,uc⟩:=y;obtain⟨hy1,hy2,hy3⟩:=hy;injection hy1 with hy1;injection hy1 with hyb hym;simp only at hyb hym;subst hyb hym;refine yn ?_;refine Z7 [.blk b5 QcQ,.blk g (.cells ([.slice Q8X nn cf,.slice uA (xs++uy).length uc,.int .i64 (n+1:Int)]:List Value).toArray 77 (0,0))] [10] Q5 ?_;refine Qti ?_;refine QS 7 Q5 rfl rfl Qmj Q1W rfl Q1 (fun z1 _=>?_);rw[hl1,hb1];refine Qn 8 rfl Q5 Q0P mc5 ?_;refine Qn 9 rfl Q5 Q0P zF ?_;refine QI 10 Q5 rfl rfl Q36 J0 rfl (fun _ _=>?_);refine Xu ?_ Q5;refine yd ?_;exact Zc Yu rfl (fun w hw=>Yd H.out 2 3 (b:=uy++dbs) hw rfl rfl HZ.out Q3 Q3)
end
end
end Go.Proofs.YtphkhfdmlcnoeaaGreatDoor
