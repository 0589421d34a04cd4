import Derived.Test.YtphkhfdmlcnoeaaGreatDoorP14
namespace Go.Proofs.YtphkhfdmlcnoeaaGreatDoor
set_option linter.unusedVariables false
set_option linter.unusedSimpArgs false
set_option maxRecDepth 1000000
set_option maxHeartbeats 32000000
open Go.RowKit
section
variable {t:TypeId}{x:Operand}
section
variable {P:Program}{ops:Array Oper}{Q:Exit->Act->World->Prop}{N:Nat}{M:List Nat}{W:World}{E:Env}{O:List Qf}{o:Oper}{rest:List Oper}{B:List PanicEntry->World->Prop}{C:World->Prop}{d:Nat}
theorem Qpn[dq:DQ]{v:Value}[hB:Pan Q B](ho:o.op=.panic x)(hw:Qo ops E o=some true)(hx:ev E x=some (.iface t v))(h:∀w,Wd M W O w->B [{ v:=.iface t v,recovered:=false }] w):lE P ops Q N M W E O (o::rest):=fun a w ha hW=>by
 refine wpList_step fun K hK=>?_;rw[if_pos (ha.want hw)];have hr:∀ρ:Operand->Value,ρ x=.iface t v->(execOp ρ o).run P w=.halt (.panic (.iface t v)) w:=fun ρ hx=>by simp [execOp,ho,hx,go_sem]
 unfold Oper.wp;rw[hr a.eval (ha.eval hx)];exact hB.on a _ w ha.df (h w hW)
theorem Qva[dq:DQ]{v:Value}(hm:∀w,(Instr.makeInterface t v).run P w=.ok (.iface t v) w)(ho:o.op=.makeInterface t x)(hd:o.dst=some d)(hN:d<N)(hw:Qo ops E o=some true)(hx:ev E x=some v):oE P ops C N E ((d,.iface t v)::E) o:=
 Xi hd hN hw fun ρ w ha _=>by
  simp only[execOp,ho,ha.eval hx,Sem.run_bind,hm w,Result.andThen_ok];rfl
end
section
variable {W w w':World}{z:Wz}{B g c n:Nat}{F:List Rl}{A:Option Addr}{xs:List UInt8}{k:Int}{d:Nd}{p:VF}{v:Value}
theorem Qtq(hv:Fm F)(hk:0<=k/\k<F.length)(h:XV W z B g F A c xs n)(hval:VIn W B v d p)(hd1:d.bs.length<=1048576)(hd2:d.ns.length<=1048576)(hn0:QJ d p.len=0)(hpl6:p.len<=1048576)(hsz:xs.length+Qy d p<=1099511627776)(hno:n+Qy d p<=1099511627776)(hfit:X0 F (Qh F k) d p=false):
  Calls Tryz.prog 45 #[.pointer (some ⟨g,0,none⟩),.int .i64 k,v] W (WrE z g W A c xs (Qs F k d p n) n (Qy d p)):=by
 have H:=Q2 h;have HV0:=Q2 hv;have hwd:=h.wd;have hFn:=h.len;have hr:=hv.toUsd.rok hk;have hfc:=Q8e
 rw[hfit] at hfc;obtain⟨RES,hres⟩:∃x,Qs F k d p n=x:=⟨_,rfl⟩;have HVAL:=Q2 hval;have HK0:=Q2 (show Qh F k=Qh F k from rfl);have HZ:=Q2 (show RES=.error n by rw[<- hres,Y4 hfit]);rw[hres];obtain⟨Af,nn,cf⟩:=z;simp only at hFn;obtain⟨bf,of,haf,_⟩:=h.fm.2 VX;simp only at haf;subst haf;obtain⟨hbB,Ab,cb,An,cn,Ap,cp,hrg,hru⟩:=h.fm.ruleB (k:=k) Yx;have hbM:bf∉wM g A xs.length c:=fun hm=>by
  rcases XX.1 hm with e|e
  ·exact Vp
  ·exact Q0i
 have hkn:0<=k/\k<(nn:Int):=by omega
 have hBW:B<=W.heap.size:=by have:=h.hB;have:=h.lt;omega
 replace hfc:=fun(w:World) (hw:XV w _ B g F A c xs n) (hr:RuB w B (Qh F k) Ab cb An cn Ap cp) (hvl:VIn w B v d p)=>hfc w Ab An Ap cb cn cp hw hr hvl
 clear h;obtain⟨r,er⟩:∃r,Qh F k=r:=⟨_,rfl⟩;rw[er] at hr hrg hru hfc HK0;clear er hfit;obtain⟨sb,sn,sp,rfl,Abv,nb,cbv,Anv,nnv,cnv,Apv,cpv,rfl,rfl,rfl,hnb,hnn,hpl,hcm,hrb,hrn,hch⟩:=hval;have hnbl:d.bs.length=nb:=by have:=hrb.len;rw[QM] at this;exact this
 have hnnl:d.ns.length=nnv:=by have:=hrn.len;rw[Xw] at this;exact this
 subst hnbl hnnl;have HRB:=Q2 hrb;have HCH:=Q2 hch;have HRU:=Q2 hru;have HRK:=Q2 hr;have HD:=Q2 (Eq.refl d);obtain⟨dk,dn,dbs,dns⟩:=d;simp only[Qy] at hsz hno hd1 hd2 hnb hnn ⊢;clear hrb hrn hch hru hv;obtain⟨name,kind,bs,size,big,mn,mx,stop,count,elem,names,parts⟩:=r;simp only[ruC] at hr hrg hfc HK0;have HFC:=Q2 hfc;have HRUB:=Q3Z;clear hfc;go_enter Tryz.func45,Tryz.ntmps45;haveI:Pan (bodyPost Tryz.prog Tryz.f45 (WrE ⟨some ⟨bf,of,none⟩,nn,cf⟩ g W A c xs RES n (300+dbs.length+Qv p))) (Vx RES (wM g A xs.length c) W):=Pan.body fun ch w' ⟨x,h1,h2,h3⟩=>VY
 refine Qz (M:=wM g A xs.length c) (W:=W) (N:=223) (E:=Q8k) (O:=Q6O) ?_ XW hwd;clear hwd;refine yq<|yr ?_;refine yB fun b5=>?_;refine Q0x ?_;refine yA fun b6=>?_;refine Qvv ?_;refine yo zO<|yl<|yn<|y1<|yr<|yo zM ?_;refine Q4 mc5 ?_;refine yo zF<|yo (zB 2) ?_;refine Q4 QsK ?_;refine Q4 (Qva (fun w=>by kernel_rfl) rfl rfl Q1 rfl rfl) ?_;exact Qpn rfl rfl rfl (fun w hw=>⟨n,HZ.out,rfl,hw.k⟩)
theorem Qw2(hv:Fm F)(hk:0<=k/\k<F.length)(h:XV W z B g F A c xs n)(hval:VIn W B v d p)(hd1:d.bs.length<=1048576)(hd2:d.ns.length<=1048576)(hn0:QJ d p.len=0)(hpl6:p.len<=1048576)(hsz:xs.length+Qy d p<=1099511627776)(hno:n+Qy d p<=1099511627776)(hfit:X0 F (Qh F k) d p=true)(hkind:(Qh F k).kind=1):
  Calls Tryz.prog 45 #[.pointer (some ⟨g,0,none⟩),.int .i64 k,v] W (WrE z g W A c xs (Qs F k d p n) n (Qy d p)):=by
 have H:=Q2 h;have HV0:=Q2 hv;have hwd:=h.wd;have hFn:=h.len;have hr:=hv.toUsd.rok hk;have hfc:=Q8e
 rw[hfit] at hfc;obtain⟨RES,hres⟩:∃x,Qs F k d p n=x:=⟨_,rfl⟩;have HVAL:=Q2 hval;have HL:=Qj5;have HK0:=Q2 (show (Qh F k).kind=1/\Zo F (Qh F k) d p=(Qh F k).bs from ⟨hkind,by unfold Zo;rw[if_pos hkind]⟩);rw[HK0.out.2] at HL;rw[hres];obtain⟨Af,nn,cf⟩:=z;simp only at hFn;obtain⟨bf,of,haf,_⟩:=h.fm.2 VX;simp only at haf;subst haf;obtain⟨hbB,Ab,cb,An,cn,Ap,cp,hrg,hru⟩:=h.fm.ruleB (k:=k) Yx;have hbM:bf∉wM g A xs.length c:=fun hm=>by
  rcases XX.1 hm with e|e
  ·exact Vp
  ·exact Q0i
 have hkn:0<=k/\k<(nn:Int):=by omega
 have hBW:B<=W.heap.size:=by have:=h.hB;have:=h.lt;omega
 replace hfc:=fun(w:World) (hw:XV w _ B g F A c xs n) (hr:RuB w B (Qh F k) Ab cb An cn Ap cp) (hvl:VIn w B v d p)=>hfc w Ab An Ap cb cn cp hw hr hvl
 clear h;obtain⟨r,er⟩:∃r,Qh F k=r:=⟨_,rfl⟩;rw[er] at hr hrg hru hfc HK0 HL;clear er hfit;obtain⟨sb,sn,sp,rfl,Abv,nb,cbv,Anv,nnv,cnv,Apv,cpv,rfl,rfl,rfl,hnb,hnn,hpl,hcm,hrb,hrn,hch⟩:=hval;have hnbl:d.bs.length=nb:=by have:=hrb.len;rw[QM] at this;exact this
 have hnnl:d.ns.length=nnv:=by have:=hrn.len;rw[Xw] at this;exact this
 subst hnbl hnnl;have HRB:=Q2 hrb;have HCH:=Q2 hch;have HRU:=Q2 hru;have HRK:=Q2 hr;have HD:=Q2 (Eq.refl d);obtain⟨dk,dn,dbs,dns⟩:=d;simp only[Qy] at hsz hno hd1 hd2 hnb hnn ⊢;clear hrb hrn hch hru hv;obtain⟨name,kind,bs,size,big,mn,mx,stop,count,elem,names,parts⟩:=r;simp only[ruC] at hr hrg hfc HK0 HL;have HFC:=Q2 hfc;have HRUB:=Q3Z;clear hfc;go_enter Tryz.func45,Tryz.ntmps45;haveI:Pan (bodyPost Tryz.prog Tryz.f45 (WrE ⟨some ⟨bf,of,none⟩,nn,cf⟩ g W A c xs RES n (300+dbs.length+Qv p))) (Vx RES (wM g A xs.length c) W):=Pan.body fun ch w' ⟨x,h1,h2,h3⟩=>VY
 refine Qz (M:=wM g A xs.length c) (W:=W) (N:=223) (E:=Q8k) (O:=Q6O) ?_ XW hwd;clear hwd;refine yq<|yr ?_;refine yB fun b5=>?_;refine Q0x ?_;refine yA fun b6=>?_;refine Q26 ?_;obtain⟨hkd,_⟩:=HK0.out;replace hkd:kind=1:=hkd;subst hkd;have hb16:=hr.bs16;replace hb16:bs.length<=16:=hb16;have HZ:=Q2 (show RES=.ok (bs,n+1) from HL.out);have hl1:xs.length+bs.length=(xs++bs).length:=Qfv;have hb1:bv xs++bv bs=bv (xs++bs):=by unfold bv;rw[List.map_append]
 have e1:(n:Int)+1=((n+1:Nat):Int):=rfl;refine Q7U ?_;refine yl<|yn<|yq<|yr<|yo zF<|yo (zB 0)<|yl<|yn<|yb<|yq<|yr<|yo zet<|yo zA<|yl<|yn<|y1 ?_;rw[e1];refine Xk [.blk b6 QsZ,.blk g QbB] [10] Q5 ?_;refine QqX ?_;refine QL 7 Q5 rfl rfl (Zt 3 rfl rfl rfl rfl rfl (fun w hw=>(HRUB.out.below Q5i).more Q9b) (ZX _) Q3) (fun _=>.inr Q6y) rfl Q1 (fun z1 _=>?_);rw[hl1,hb1];refine Qc 8 rfl Q5 Q6y mc5 ?_;refine Qc 9 rfl Q5 Q6y zF ?_;refine X6 10 Q5 rfl rfl Q3A JR rfl (fun _ _=>?_);refine X8 ?_ Q5;refine yd ?_;exact Zi Kf rfl (fun w hw=>Ye H.out 2 3 (b:=bs) hw rfl rfl HZ.out Q3 Q3)
theorem QvY(hv:Fm F)(hk:0<=k/\k<F.length)(h:XV W z B g F A c xs n)(hval:VIn W B v d p)(hd1:d.bs.length<=1048576)(hd2:d.ns.length<=1048576)(hn0:QJ d p.len=0)(hpl6:p.len<=1048576)(hsz:xs.length+Qy d p<=1099511627776)(hno:n+Qy d p<=1099511627776)(hfit:X0 F (Qh F k) d p=true)(hkind:(Qh F k).kind=2):
  Calls Tryz.prog 45 #[.pointer (some ⟨g,0,none⟩),.int .i64 k,v] W (WrE z g W A c xs (Qs F k d p n) n (Qy d p)):=by
 have H:=Q2 h;have HV0:=Q2 hv;have hwd:=h.wd;have hFn:=h.len;have hr:=hv.toUsd.rok hk;have hfc:=Q8e
 rw[hfit] at hfc;obtain⟨RES,hres⟩:∃x,Qs F k d p n=x:=⟨_,rfl⟩;have HVAL:=Q2 hval;have HL:=Qj5;have HK0:=Q2 (show (Qh F k).kind=2/\Zo F (Qh F k) d p=Z2 (Qh F k) d.n from ⟨hkind,by unfold Zo;rw[if_neg Q3,if_pos Q0Z]⟩);rw[HK0.out.2] at HL;have hcnt:XP (Qh F k) d.n=true:=by rw[J5 Q0Z,Bool.and_eq_true] at hfit;exact hfit.2
 have hNO:=JO.of hr Q0Z;rw[hres];obtain⟨Af,nn,cf⟩:=z;simp only at hFn;obtain⟨bf,of,haf,_⟩:=h.fm.2 VX;simp only at haf;subst haf;obtain⟨hbB,Ab,cb,An,cn,Ap,cp,hrg,hru⟩:=h.fm.ruleB (k:=k) Yx;have hbM:bf∉wM g A xs.length c:=fun hm=>by
  rcases XX.1 hm with e|e
  ·exact Vp
  ·exact Q0i
 have hkn:0<=k/\k<(nn:Int):=by omega
 have hBW:B<=W.heap.size:=by have:=h.hB;have:=h.lt;omega
 replace hfc:=fun(w:World) (hw:XV w _ B g F A c xs n) (hr:RuB w B (Qh F k) Ab cb An cn Ap cp) (hvl:VIn w B v d p)=>hfc w Ab An Ap cb cn cp hw hr hvl
 clear h;obtain⟨r,er⟩:∃r,Qh F k=r:=⟨_,rfl⟩;rw[er] at hr hrg hru hfc HK0 HL hcnt hNO;clear er hfit;obtain⟨sb,sn,sp,rfl,Abv,nb,cbv,Anv,nnv,cnv,Apv,cpv,rfl,rfl,rfl,hnb,hnn,hpl,hcm,hrb,hrn,hch⟩:=hval;have hnbl:d.bs.length=nb:=by have:=hrb.len;rw[QM] at this;exact this
 have hnnl:d.ns.length=nnv:=by have:=hrn.len;rw[Xw] at this;exact this
 subst hnbl hnnl;have HRB:=Q2 hrb;have HCH:=Q2 hch;have HRU:=Q2 hru;have HRK:=Q2 hr;have HD:=Q2 (Eq.refl d);obtain⟨dk,dn,dbs,dns⟩:=d;simp only[Qy] at hsz hno hd1 hd2 hnb hnn ⊢;clear hrb hrn hch hru hv;obtain⟨name,kind,bs,size,big,mn,mx,stop,count,elem,names,parts⟩:=r;have hnc:=QrT
 have hnl:=Jw hNO hcnt;obtain⟨uy,hys⟩:∃uy,Z2 ⟨name,kind,bs,size,big,mn,mx,stop,count,elem,names,parts⟩ dn=uy:=⟨_,rfl⟩;simp only[hys] at hnc hnl HL;simp only[ruC] at hr hrg hfc HK0 hnc;have HNC:=Q2 hnc;clear hnc hNO hcnt;have HFC:=Q2 hfc;have HRUB:=Q3Z;clear hfc;go_enter Tryz.func45,Tryz.ntmps45;haveI:Pan (bodyPost Tryz.prog Tryz.f45 (WrE ⟨some ⟨bf,of,none⟩,nn,cf⟩ g W A c xs RES n (300+dbs.length+Qv p))) (Vx RES (wM g A xs.length c) W):=Pan.body fun ch w' ⟨x,h1,h2,h3⟩=>VY
 refine Qz (M:=wM g A xs.length c) (W:=W) (N:=223) (E:=Q8k) (O:=Q6O) ?_ XW hwd;clear hwd;refine yq<|yr ?_;refine yB fun b5=>?_;refine Q0x ?_;refine yA fun b6=>?_;refine Q26 ?_;obtain⟨hkd,_⟩:=HK0.out;replace hkd:kind=2:=hkd;subst hkd;have HZ:=Q2 (show RES=.ok (uy,n+1) from HL.out);have e1:(n:Int)+1=((n+1:Nat):Int):=rfl;refine Q7U ?_;refine yl<|yn<|yq<|yr<|yo zF<|yo (zB 0)<|yl<|yn<|yb<|yq<|yr<|yo zef<|yo zA<|yl<|yn<|y0<|yq<|yq<|yr<|yo zet<|yo zA<|yl ?_;rw[e1];refine yn<|y1<|ys<|yn<|y1<|yr<|yo zM<|yo (zD 0)<|yo zF<|yo (zB 1) ?_;refine Q0V Qgi rfl Q1 (fun y hy=>?_);refine yl ?_;obtain⟨ub,um,uA,uc⟩:=y;obtain⟨hy1,hy2,hy3⟩:=hy;injection hy1 with hy1;injection hy1 with hyb hym;simp only at hyb hym;subst hyb hym;refine yd ?_;exact Qsf
theorem QvL(hv:Fm F)(hk:0<=k/\k<F.length)(h:XV W z B g F A c xs n)(hval:VIn W B v d p)(hd1:d.bs.length<=1048576)(hd2:d.ns.length<=1048576)(hn0:QJ d p.len=0)(hpl6:p.len<=1048576)(hsz:xs.length+Qy d p<=1099511627776)(hno:n+Qy d p<=1099511627776)(hfit:X0 F (Qh F k) d p=true)(hkind:(Qh F k).kind=3):
  Calls Tryz.prog 45 #[.pointer (some ⟨g,0,none⟩),.int .i64 k,v] W (WrE z g W A c xs (Qs F k d p n) n (Qy d p)):=by
 have H:=Q2 h;have HV0:=Q2 hv;have hwd:=h.wd;have hFn:=h.len;have hr:=hv.toUsd.rok hk;have hfc:=Q8e
 rw[hfit] at hfc;obtain⟨RES,hres⟩:∃x,Qs F k d p n=x:=⟨_,rfl⟩;have HVAL:=Q2 hval;have HL:=Qj5;have HK0:=Q2 (show (Qh F k).kind=3/\Zo F (Qh F k) d p=Z2 (Qh F k) d.n from ⟨hkind,by unfold Zo;rw[if_neg Q3,if_pos Q4S]⟩);rw[HK0.out.2] at HL;have hcnt:XP (Qh F k) d.n=true:=by rw[J5 Q4S,Bool.and_eq_true] at hfit;exact hfit.2
 have hNO:=JO.of hr Q4S;rw[hres];obtain⟨Af,nn,cf⟩:=z;simp only at hFn;obtain⟨bf,of,haf,_⟩:=h.fm.2 VX;simp only at haf;subst haf;obtain⟨hbB,Ab,cb,An,cn,Ap,cp,hrg,hru⟩:=h.fm.ruleB (k:=k) Yx;have hbM:bf∉wM g A xs.length c:=fun hm=>by
  rcases XX.1 hm with e|e
  ·exact Vp
  ·exact Q0i
 have hkn:0<=k/\k<(nn:Int):=by omega
 have hBW:B<=W.heap.size:=by have:=h.hB;have:=h.lt;omega
 replace hfc:=fun(w:World) (hw:XV w _ B g F A c xs n) (hr:RuB w B (Qh F k) Ab cb An cn Ap cp) (hvl:VIn w B v d p)=>hfc w Ab An Ap cb cn cp hw hr hvl
 clear h;obtain⟨r,er⟩:∃r,Qh F k=r:=⟨_,rfl⟩;rw[er] at hr hrg hru hfc HK0 HL hcnt hNO;clear er hfit;obtain⟨sb,sn,sp,rfl,Abv,nb,cbv,Anv,nnv,cnv,Apv,cpv,rfl,rfl,rfl,hnb,hnn,hpl,hcm,hrb,hrn,hch⟩:=hval;have hnbl:d.bs.length=nb:=by have:=hrb.len;rw[QM] at this;exact this
 have hnnl:d.ns.length=nnv:=by have:=hrn.len;rw[Xw] at this;exact this
 subst hnbl hnnl;have HRB:=Q2 hrb;have HCH:=Q2 hch;have HRU:=Q2 hru;have HRK:=Q2 hr;have HD:=Q2 (Eq.refl d);obtain⟨dk,dn,dbs,dns⟩:=d;simp only[Qy] at hsz hno hd1 hd2 hnb hnn ⊢;clear hrb hrn hch hru hv;obtain⟨name,kind,bs,size,big,mn,mx,stop,count,elem,names,parts⟩:=r;have hnc:=QrT
 have hnl:=Jw hNO hcnt;obtain⟨uy,hys⟩:∃uy,Z2 ⟨name,kind,bs,size,big,mn,mx,stop,count,elem,names,parts⟩ dn=uy:=⟨_,rfl⟩;simp only[hys] at hnc hnl HL;simp only[ruC] at hr hrg hfc HK0 hnc;have HNC:=Q2 hnc;clear hnc hNO hcnt;have HFC:=Q2 hfc;have HRUB:=Q3Z;clear hfc;go_enter Tryz.func45,Tryz.ntmps45;haveI:Pan (bodyPost Tryz.prog Tryz.f45 (WrE ⟨some ⟨bf,of,none⟩,nn,cf⟩ g W A c xs RES n (300+dbs.length+Qv p))) (Vx RES (wM g A xs.length c) W):=Pan.body fun ch w' ⟨x,h1,h2,h3⟩=>VY
 refine Qz (M:=wM g A xs.length c) (W:=W) (N:=223) (E:=Q8k) (O:=Q6O) ?_ XW hwd;clear hwd;refine yq<|yr ?_;refine yB fun b5=>?_;refine Q0x ?_;refine yA fun b6=>?_;refine Q26 ?_;obtain⟨hkd,_⟩:=HK0.out;replace hkd:kind=3:=hkd;subst hkd;have HZ:=Q2 (show RES=.ok (uy,n+1) from HL.out);have e1:(n:Int)+1=((n+1:Nat):Int):=rfl;refine Q7U ?_;refine yl<|yn<|yq<|yr<|yo zF<|yo (zB 0)<|yl<|yn<|yb<|yq<|yr<|yo zef<|yo zA<|yl<|yn<|y0<|yq<|yq<|yr<|yo zef<|yo zA<|yl<|yn<|y0<|yr<|yo zet<|yo zA<|yl ?_;rw[e1];refine yn<|y1<|yr<|yo zM<|yo (zD 0)<|yo zF<|yo (zB 1) ?_;refine Q0V Qgi rfl Q1 (fun y hy=>?_);refine yl ?_;obtain⟨ub,um,uA,uc⟩:=y;obtain⟨hy1,hy2,hy3⟩:=hy;injection hy1 with hy1;injection hy1 with hyb hym;simp only at hyb hym;subst hyb hym;refine yd ?_;exact Qsf
theorem Qw0(hv:Fm F)(hk:0<=k/\k<F.length)(h:XV W z B g F A c xs n)(hval:VIn W B v d p)(hd1:d.bs.length<=1048576)(hd2:d.ns.length<=1048576)(hn0:QJ d p.len=0)(hpl6:p.len<=1048576)(hsz:xs.length+Qy d p<=1099511627776)(hno:n+Qy d p<=1099511627776)(hfit:X0 F (Qh F k) d p=true)(hkind:(Qh F k).kind=4):
  Calls Tryz.prog 45 #[.pointer (some ⟨g,0,none⟩),.int .i64 k,v] W (WrE z g W A c xs (Qs F k d p n) n (Qy d p)):=by
 have H:=Q2 h;have HV0:=Q2 hv;have hwd:=h.wd;have hFn:=h.len;have hr:=hv.toUsd.rok hk;have hfc:=Q8e
 rw[hfit] at hfc;obtain⟨RES,hres⟩:∃x,Qs F k d p n=x:=⟨_,rfl⟩;have HVAL:=Q2 hval;have HL:=Qj5;have HK0:=Q2 (show (Qh F k).kind=4/\Zo F (Qh F k) d p=d.bs from ⟨hkind,by unfold Zo;rw[if_neg Q3,if_neg Q3,if_pos hkind]⟩);rw[HK0.out.2] at HL;rw[hres];obtain⟨Af,nn,cf⟩:=z;simp only at hFn;obtain⟨bf,of,haf,_⟩:=h.fm.2 VX;simp only at haf;subst haf;obtain⟨hbB,Ab,cb,An,cn,Ap,cp,hrg,hru⟩:=h.fm.ruleB (k:=k) Yx;have hbM:bf∉wM g A xs.length c:=fun hm=>by
  rcases XX.1 hm with e|e
  ·exact Vp
  ·exact Q0i
 have hkn:0<=k/\k<(nn:Int):=by omega
 have hBW:B<=W.heap.size:=by have:=h.hB;have:=h.lt;omega
 replace hfc:=fun(w:World) (hw:XV w _ B g F A c xs n) (hr:RuB w B (Qh F k) Ab cb An cn Ap cp) (hvl:VIn w B v d p)=>hfc w Ab An Ap cb cn cp hw hr hvl
 clear h;obtain⟨r,er⟩:∃r,Qh F k=r:=⟨_,rfl⟩;rw[er] at hr hrg hru hfc HK0;clear er hfit;obtain⟨sb,sn,sp,rfl,Abv,nb,cbv,Anv,nnv,cnv,Apv,cpv,rfl,rfl,rfl,hnb,hnn,hpl,hcm,hrb,hrn,hch⟩:=hval;have hnbl:d.bs.length=nb:=by have:=hrb.len;rw[QM] at this;exact this
 have hnnl:d.ns.length=nnv:=by have:=hrn.len;rw[Xw] at this;exact this
 subst hnbl hnnl;have HRB:=Q2 hrb;have HCH:=Q2 hch;have HRU:=Q2 hru;have HRK:=Q2 hr;have HD:=Q2 (Eq.refl d);obtain⟨dk,dn,dbs,dns⟩:=d;simp only[Qy] at hsz hno hd1 hd2 hnb hnn ⊢;clear hrb hrn hch hru hv;obtain⟨name,kind,bs,size,big,mn,mx,stop,count,elem,names,parts⟩:=r;simp only[ruC] at hr hrg hfc HK0 HL;have HFC:=Q2 hfc;have HRUB:=Q3Z;clear hfc;go_enter Tryz.func45,Tryz.ntmps45;haveI:Pan (bodyPost Tryz.prog Tryz.f45 (WrE ⟨some ⟨bf,of,none⟩,nn,cf⟩ g W A c xs RES n (300+dbs.length+Qv p))) (Vx RES (wM g A xs.length c) W):=Pan.body fun ch w' ⟨x,h1,h2,h3⟩=>VY
 refine Qz (M:=wM g A xs.length c) (W:=W) (N:=223) (E:=Q8k) (O:=Q6O) ?_ XW hwd;clear hwd;refine yq<|yr ?_;refine yB fun b5=>?_;refine Q0x ?_;refine yA fun b6=>?_;refine Q26 ?_;obtain⟨hkd,_⟩:=HK0.out;replace hkd:kind=4:=hkd;subst hkd;have HZ:=Q2 (show RES=.ok (dbs,n+1) from HL.out);have hl1:xs.length+dbs.length=(xs++dbs).length:=Qfv;have hb1:bv xs++bv dbs=bv (xs++dbs):=by unfold bv;rw[List.map_append]
 have e1:(n:Int)+1=((n+1:Nat):Int):=rfl;refine Q7U ?_;refine yl<|yn<|yq<|yr<|yo zF<|yo (zB 0)<|yl<|yn<|yb<|yq<|yr<|yo zef<|yo zA<|yl<|yn<|y0<|yq<|yq<|yr<|yo zef<|yo zA<|yl<|yn<|y0<|yr<|yo zef<|yo zA<|yl<|yn<|y0<|yq<|yr<|yo zet<|yo zA<|yl<|yn<|y1 ?_;rw[e1];refine Xk [.blk b5 Qcb,.blk g QbB] [10] Q5 ?_;refine Qqh ?_;refine QL 7 Q5 rfl rfl Qmk KZ rfl Q1 (fun z1 _=>?_);rw[hl1,hb1];refine Qc 8 rfl Q5 Q0G mc5 ?_;refine Qc 9 rfl Q5 Q0G zF ?_;refine X6 10 Q5 rfl rfl Q3A JR rfl (fun _ _=>?_);refine X8 ?_ Q5;refine yd ?_;exact Zi Kf rfl (fun w hw=>Ye H.out 2 3 (b:=dbs) hw rfl rfl HZ.out Q3 Q3)
theorem QvO(hv:Fm F)(hk:0<=k/\k<F.length)(h:XV W z B g F A c xs n)(hval:VIn W B v d p)(hd1:d.bs.length<=1048576)(hd2:d.ns.length<=1048576)(hn0:QJ d p.len=0)(hpl6:p.len<=1048576)(hsz:xs.length+Qy d p<=1099511627776)(hno:n+Qy d p<=1099511627776)(hfit:X0 F (Qh F k) d p=true)(hkind:(Qh F k).kind=5):
  Calls Tryz.prog 45 #[.pointer (some ⟨g,0,none⟩),.int .i64 k,v] W (WrE z g W A c xs (Qs F k d p n) n (Qy d p)):=by
 have H:=Q2 h;have HV0:=Q2 hv;have hwd:=h.wd;have hFn:=h.len;have hr:=hv.toUsd.rok hk;have hfc:=Q8e
 rw[hfit] at hfc;obtain⟨RES,hres⟩:∃x,Qs F k d p n=x:=⟨_,rfl⟩;have HVAL:=Q2 hval;have HL:=Qj5;have HK0:=Q2 (show (Qh F k).kind=5/\Zo F (Qh F k) d p=d.bs++[ZJ (Qh F k)] from ⟨hkind,by unfold Zo;rw[if_neg Q3,if_neg Q3,if_neg Q3,if_neg Q3,if_pos hkind]⟩);rw[HK0.out.2] at HL;rw[hres];obtain⟨Af,nn,cf⟩:=z;simp only at hFn;obtain⟨bf,of,haf,_⟩:=h.fm.2 VX;simp only at haf;subst haf;obtain⟨hbB,Ab,cb,An,cn,Ap,cp,hrg,hru⟩:=h.fm.ruleB (k:=k) Yx;have hbM:bf∉wM g A xs.length c:=fun hm=>by
  rcases XX.1 hm with e|e
  ·exact Vp
  ·exact Q0i
 have hkn:0<=k/\k<(nn:Int):=by omega
 have hBW:B<=W.heap.size:=by have:=h.hB;have:=h.lt;omega
 replace hfc:=fun(w:World) (hw:XV w _ B g F A c xs n) (hr:RuB w B (Qh F k) Ab cb An cn Ap cp) (hvl:VIn w B v d p)=>hfc w Ab An Ap cb cn cp hw hr hvl
 clear h;obtain⟨r,er⟩:∃r,Qh F k=r:=⟨_,rfl⟩;rw[er] at hr hrg hru hfc HK0 HL;clear er hfit;obtain⟨sb,sn,sp,rfl,Abv,nb,cbv,Anv,nnv,cnv,Apv,cpv,rfl,rfl,rfl,hnb,hnn,hpl,hcm,hrb,hrn,hch⟩:=hval;have hnbl:d.bs.length=nb:=by have:=hrb.len;rw[QM] at this;exact this
 have hnnl:d.ns.length=nnv:=by have:=hrn.len;rw[Xw] at this;exact this
 subst hnbl hnnl;have HRB:=Q2 hrb;have HCH:=Q2 hch;have HRU:=Q2 hru;have HRK:=Q2 hr;have HD:=Q2 (Eq.refl d);obtain⟨dk,dn,dbs,dns⟩:=d;simp only[Qy] at hsz hno hd1 hd2 hnb hnn ⊢;clear hrb hrn hch hru hv;obtain⟨name,kind,bs,size,big,mn,mx,stop,count,elem,names,parts⟩:=r;simp only[ruC,ZJ] at hr hrg hfc HK0 HL;have HFC:=Q2 hfc;have HRUB:=Q3Z;clear hfc;go_enter Tryz.func45,Tryz.ntmps45;haveI:Pan (bodyPost Tryz.prog Tryz.f45 (WrE ⟨some ⟨bf,of,none⟩,nn,cf⟩ g W A c xs RES n (300+dbs.length+Qv p))) (Vx RES (wM g A xs.length c) W):=Pan.body fun ch w' ⟨x,h1,h2,h3⟩=>VY
 refine Qz (M:=wM g A xs.length c) (W:=W) (N:=223) (E:=Q8k) (O:=Q6O) ?_ XW hwd;clear hwd;refine yq<|yr ?_;refine yB fun b5=>?_;refine Q0x ?_;refine yA fun b6=>?_;refine Q26 ?_;obtain⟨hkd,_⟩:=HK0.out;replace hkd:kind=5:=hkd;subst hkd;obtain⟨sB,hsB⟩:∃b:UInt8,UInt8.ofNat (stop % 256).toNat=b:=⟨_,rfl⟩;have hcv:IntKind.u8.wrap stop=(sB.toNat:Int):=by rw[Q1X,hsB]
 have HZ:=Q2 (show RES=.ok (dbs++[sB],n+1) by rw[<- hsB];exact HL.out);have hl1:xs.length+dbs.length=(xs++dbs).length:=Qfv;have hb1:bv xs++bv dbs=bv (xs++dbs):=by unfold bv;rw[List.map_append]
 have hl2:(xs++dbs).length+1=(xs++(dbs++[sB])).length:=by simp only[List.length_append,List.length_cons,List.length_nil];omega
 have hb2:bv (xs++dbs)++[.int .u8 (sB.toNat:Int)]=bv (xs++(dbs++[sB])):=by unfold bv;simp
 have hbl:(dbs++[sB]).length=dbs.length+1:=Q9w;have hbnd:(xs++dbs).length<=1099511627776:=by rw[<- hl1];omega
 have e1:(n:Int)+1=((n+1:Nat):Int):=rfl;refine Q7U ?_;refine yl<|yn<|yq<|yr<|yo zF<|yo (zB 0)<|yl<|yn<|yb<|yq<|yr<|yo zef<|yo zA<|yl<|yn<|y0<|yq<|yq<|yr<|yo zef<|yo zA<|yl<|yn<|y0<|yr<|yo zef<|yo zA<|yl<|yn<|y0<|yq<|yr<|yo zef<|yo zA<|yl<|yn<|y0<|yq<|yr<|yo zef<|yo zA<|yl<|yn<|y0<|yq<|yr<|yo zet<|yo zA<|yl<|yn<|y1 ?_;rw[e1];refine Xk [.blk b6 QkF,.blk b5 Qcb,.blk g QbB] [15] Q5 ?_;refine Qc 0 rfl Q5 VH zM ?_;refine Qc 1 rfl Q5 VH zM ?_;refine Qc 2 rfl Q5 VH mc5 ?_;refine Qc 3 rfl Q5 VH zF ?_;refine Qc 4 rfl Q5 VH (zB 2) ?_;refine Qc 5 rfl Q5 VH zF ?_;refine Qc 6 rfl Q5 VH (zB 1) ?_;refine Qc 8 rfl Q5 VH zF ?_;refine Qc 9 rfl Q5 VH (zB 0) ?_;refine Qc 10 rfl Q5 VH Q2b ?_;refine Q6u 7 11 Q5 (Jr rfl rfl Qmk (fun _=>.inr VH) rfl Q1 (fun z1 _=>?_)) (Jr rfl rfl VE Q6Y rfl Q1 (fun bn _=>?_))
 ·rw[hl1,hb1];refine QL 11 Q5 rfl rfl VE Q6Y rfl Q1 (fun bn _=>?_);refine QL 12 Q5 rfl rfl Qmt Q6Y rfl Q1 (fun z2 _=>?_);refine QmJ ?_;refine X6 15 Q5 rfl rfl Qhi JR rfl (fun _ _=>?_);refine X8 ?_ Q5;refine yd ?_;exact Qqs
 ·refine QL 7 Q5 rfl rfl (Zt 4 rfl rfl rfl rfl rfl (fun w hw=>(HRB.out.below Q5i).more Q9b) (ZX _) Q3) Q6Y rfl Q1 (fun z1 _=>?_);rw[hl1,hb1];refine QL 12 Q5 rfl rfl Qmt Q6Y rfl Q1 (fun z2 _=>?_);refine QmJ ?_;refine X6 15 Q5 rfl rfl Qhi JR rfl (fun _ _=>?_);refine X8 ?_ Q5;refine yd ?_;exact Qqs
theorem Qvw(hv:Fm F)(hk:0<=k/\k<F.length)(h:XV W z B g F A c xs n)(hval:VIn W B v d p)(hd1:d.bs.length<=1048576)(hd2:d.ns.length<=1048576)(hn0:QJ d p.len=0)(hpl6:p.len<=1048576)(hsz:xs.length+Qy d p<=1099511627776)(hno:n+Qy d p<=1099511627776)(hfit:X0 F (Qh F k) d p=true)(hkind:(Qh F k).kind=10):
  Calls Tryz.prog 45 #[.pointer (some ⟨g,0,none⟩),.int .i64 k,v] W (WrE z g W A c xs (Qs F k d p n) n (Qy d p)):=by
 have H:=Q2 h;have HV0:=Q2 hv;have hwd:=h.wd;have hFn:=h.len;have hr:=hv.toUsd.rok hk;have hfc:=Q8e
 rw[hfit] at hfc;obtain⟨RES,hres⟩:∃x,Qs F k d p n=x:=⟨_,rfl⟩;have HVAL:=Q2 hval;have HL:=Qj5;have HK0:=Q2 (show (Qh F k).kind=10/\Zo F (Qh F k) d p=Z2 Qf4 (d.bs.length:Int)++d.bs from ⟨hkind,by unfold Zo;rw[if_neg Q3,if_neg Q3,if_neg Q3,if_pos hkind]⟩);rw[HK0.out.2] at HL;have hcnt:XP (Qh F (Qh F k).count) (d.bs.length:Int)=true:=by rw[Q12 hkind,Bool.and_eq_true] at hfit;exact hfit.2
 have hNO:=hv.numOk hk Q4S;have hct:=hr.count Q4S;rw[hres];obtain⟨Af,nn,cf⟩:=z;simp only at hFn;obtain⟨bf,of,haf,_⟩:=h.fm.2 VX;simp only at haf;subst haf;obtain⟨hbB,Ab,cb,An,cn,Ap,cp,hrg,hru⟩:=h.fm.ruleB (k:=k) Yx;have hbM:bf∉wM g A xs.length c:=fun hm=>by
  rcases XX.1 hm with e|e
  ·exact Vp
  ·exact Q0i
 have hkn:0<=k/\k<(nn:Int):=by omega
 have hBW:B<=W.heap.size:=by have:=h.hB;have:=h.lt;omega
 replace hfc:=fun(w:World) (hw:XV w _ B g F A c xs n) (hr:RuB w B (Qh F k) Ab cb An cn Ap cp) (hvl:VIn w B v d p)=>hfc w Ab An Ap cb cn cp hw hr hvl
 clear h;obtain⟨r,er⟩:∃r,Qh F k=r:=⟨_,rfl⟩;rw[er] at hr hrg hru hfc HK0 HL hcnt hNO hct;clear er hfit;obtain⟨sb,sn,sp,rfl,Abv,nb,cbv,Anv,nnv,cnv,Apv,cpv,rfl,rfl,rfl,hnb,hnn,hpl,hcm,hrb,hrn,hch⟩:=hval;have hnbl:d.bs.length=nb:=by have:=hrb.len;rw[QM] at this;exact this
 have hnnl:d.ns.length=nnv:=by have:=hrn.len;rw[Xw] at this;exact this
 subst hnbl hnnl;have HRB:=Q2 hrb;have HCH:=Q2 hch;have HRU:=Q2 hru;have HRK:=Q2 hr;have HD:=Q2 (Eq.refl d);obtain⟨dk,dn,dbs,dns⟩:=d;simp only[Qy] at hsz hno hd1 hd2 hnb hnn ⊢;clear hrb hrn hch hru hv;obtain⟨name,kind,bs,size,big,mn,mx,stop,count,elem,names,parts⟩:=r;obtain⟨hbB2,Ab2,cb2,An2,cn2,Ap2,cp2,hrg2,hru2⟩:=H.out.fm.ruleB (k:=count) (by simp only;exact Qgm);have hct2:0<=count/\count<(nn:Int):=Qgm;simp only at hcnt hNO HL;obtain⟨r2,er2⟩:∃r,Qh F count=r:=⟨_,rfl⟩;rw[er2] at hrg2 hcnt hNO HL;clear er2 hru2;have hnc:=Qs7
 have hnl:=Jw hNO hcnt;obtain⟨uy,hys⟩:∃uy,Z2 r2 (dbs.length:Int)=uy:=⟨_,rfl⟩;simp only[hys] at hnc hnl HL;clear hys hNO hcnt hct;obtain⟨name2,kind2,bs2,size2,big2,mn2,mx2,stop2,count2,elem2,names2,parts2⟩:=r2;simp only[ruC] at hnc hrg2;have HNC:=Q2 hnc;clear hnc;simp only[ruC] at hr hrg hfc HK0;have HFC:=Q2 hfc;have HRUB:=Q3Z;clear hfc;go_enter Tryz.func45,Tryz.ntmps45;haveI:Pan (bodyPost Tryz.prog Tryz.f45 (WrE ⟨some ⟨bf,of,none⟩,nn,cf⟩ g W A c xs RES n (300+dbs.length+Qv p))) (Vx RES (wM g A xs.length c) W):=Pan.body fun ch w' ⟨x,h1,h2,h3⟩=>VY
 refine Qz (M:=wM g A xs.length c) (W:=W) (N:=223) (E:=Q8k) (O:=Q6O) ?_ XW hwd;clear hwd;refine yq<|yr ?_;refine yB fun b5=>?_;refine Q0x ?_;refine yA fun b6=>?_;refine Q26 ?_;obtain⟨hkd,_⟩:=HK0.out;replace hkd:kind=10:=hkd;subst hkd;have HZ:=Q2 (show RES=.ok (uy++dbs,n+1) from HL.out);have hl1:(xs++uy).length+dbs.length=(xs++(uy++dbs)).length:=by simp only[List.length_append];omega
 have hb1:bv (xs++uy)++bv dbs=bv (xs++(uy++dbs)):=by unfold bv;simp
 have hyl:(uy++dbs).length=uy.length+dbs.length:=Q9w;have hbnd:(xs++uy).length+dbs.length<=1099511627776:=by rw[List.length_append];omega
 have e1:(n:Int)+1=((n+1:Nat):Int):=rfl;refine Q7U ?_;refine yl<|yn<|yq<|yr<|yo zF<|yo (zB 0)<|yl<|yn<|yb<|yq<|yr<|yo zef<|yo zA<|yl<|yn<|y0<|yq<|yq<|yr<|yo zef<|yo zA<|yl<|yn<|y0<|yr<|yo zef<|yo zA<|yl<|yn<|y0<|yq<|yr<|yo zef<|yo zA<|yl<|yn<|y0<|yq<|yr<|yo zet<|yo zA<|yl<|yn<|y1<|yq ?_;rw[e1];refine Q3f (B:=Vx RES (wM g A xs.length c) W) [.blk b6 (.cells (QoI:List Value).toArray 65 (0,0)),.blk b5 Qcb,.blk g QbB] [13] Q5 ?_ ?_
 ·infer_instance
 refine Qs0 ?_;refine QhC 13 Q5 rfl rfl Qgi (fun i=>.inl Q1) rfl Q1 (fun y hy=>?_);refine QgW ?_ Q5;obtain⟨ub,um,uA,uc⟩:=y;obtain⟨hy1,hy2,hy3⟩:=hy;injection hy1 with hy1;injection hy1 with hyb hym;simp only at hyb hym;subst hyb hym;refine yn ?_;refine Xk [.blk b5 Qcb,.blk g (.cells ([.slice Vz nn cf,.slice uA (xs++uy).length uc,.int .i64 (n+1:Int)]:List Value).toArray 77 (0,0))] [10] Q5 ?_;refine Qqh ?_;refine QL 7 Q5 rfl rfl Qmk KZ rfl Q1 (fun z1 _=>?_);rw[hl1,hb1];refine Qc 8 rfl Q5 Q0G mc5 ?_;refine Qc 9 rfl Q5 Q0G zF ?_;refine X6 10 Q5 rfl rfl Q3A JR rfl (fun _ _=>?_);refine X8 ?_ Q5;refine yd ?_;exact Zi Kf rfl (fun w hw=>Ye H.out 2 3 (b:=uy++dbs) hw rfl rfl HZ.out Q3 Q3)
end
end
end Go.Proofs.YtphkhfdmlcnoeaaGreatDoor
