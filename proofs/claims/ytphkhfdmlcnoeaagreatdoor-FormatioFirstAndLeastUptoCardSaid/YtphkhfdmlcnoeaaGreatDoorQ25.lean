import Derived.Test.YtphkhfdmlcnoeaaGreatDoorQ23
namespace Go.Proofs.YtphkhfdmlcnoeaaGreatDoor
set_option linter.unusedVariables false
set_option linter.unusedSimpArgs false
set_option maxRecDepth 1000000
set_option maxHeartbeats 32000000
open Go.RowKit
section
variable {t:TypeId}{x:Operand}
section
variable {P:Program}{ops:Array Oper}{Q:Exit->Act->World->Prop}{N:Nat}{M:List Nat}{W:World}{E:Env}{O:List Qf}{o:Oper}{rest:List Oper}{B:List PanicEntry->World->Prop}{C:World->Prop}{d:Nat}
theorem Qq9[dq:DQ]{v:Value}[hB:Pan Q B](ho:o.op=.panic x)(hw:Qm ops E o=some true)(hx:ev E x=some (.iface t v))(h:∀w,Wd M W O w->B [{ v:=.iface t v,recovered:=false }] w):lE P ops Q N M W E O (o::rest):=fun a w ha hW=>by
 refine wpList_step fun K hK=>?_;rw[if_pos (ha.want hw)];have hr:∀ρ:Operand->Value,ρ x=.iface t v->(execOp ρ o).run P w=.halt (.panic (.iface t v)) w:=fun ρ hx=>by simp [execOp,ho,hx,go_sem]
 unfold Oper.wp;rw[hr a.eval (ha.eval hx)];exact hB.on a _ w ha.df (h w hW)
theorem Qvy[dq:DQ]{v:Value}(hm:∀w,(Instr.makeInterface t v).run P w=.ok (.iface t v) w)(ho:o.op=.makeInterface t x)(hd:o.dst=some d)(hN:d<N)(hw:Qm ops E o=some true)(hx:ev E x=some v):oE P ops C N E ((d,.iface t v)::E) o:=
 Xl hd hN hw fun ρ w ha _=>by
  simp only[execOp,ho,ha.eval hx,Sem.run_bind,hm w,Result.andThen_ok];rfl
end
section
variable {W w w':World}{z:Wz}{B g c n:Nat}{F:List Rl}{A:Option Addr}{xs:List UInt8}{k:Int}{d:Nd}{p:VF}{v:Value}
theorem QtU(hv:Fm F)(hk:0<=k/\k<F.length)(h:Z6 W z B g F A c xs n)(hval:VIn W B v d p)(hd1:d.bs.length<=1048576)(hd2:d.ns.length<=1048576)(hn0:Xu d p.len=0)(hpl6:p.len<=1048576)(hsz:xs.length+QK d p<=1099511627776)(hno:n+QK d p<=1099511627776)(hfit:XB F (Qj F k) d p=false):
  Calls Tryz.prog 45 #[.pointer (some ⟨g,0,none⟩),.int .i64 k,v] W (WrE z g W A c xs (QD F k d p n) n (QK d p)):=by
 have H:=Q3 h;have HV0:=Q3 hv;have hwd:=h.wd;have hFn:=h.len;have hr:=hv.toUsd.rok hk;have hfc:=Q9E
 rw[hfit] at hfc;obtain⟨RES,hres⟩:∃x,QD F k d p n=x:=⟨_,rfl⟩;have HVAL:=Q3 hval;have HK0:=Q3 (show Qj F k=Qj F k from rfl);have HZ:=Q3 (show RES=.error n by rw[<- hres,QeH hfit]);rw[hres];obtain⟨Af,nn,cf⟩:=z;simp only at hFn;obtain⟨bf,of,haf,_⟩:=h.fm.2 Y0;simp only at haf;subst haf;obtain⟨hbB,Ab,cb,An,cn,Ap,cp,hrg,hru⟩:=h.fm.ruleB (k:=k) Va;have hbM:bf∉wM g A xs.length c:=fun hm=>by
  rcases Zh.1 hm with e|e
  ·exact Yg
  ·exact Q1x
 have hkn:0<=k/\k<(nn:Int):=by omega
 have hBW:B<=W.heap.size:=by have:=h.hB;have:=h.lt;omega
 replace hfc:=fun(w:World) (hw:Z6 w _ B g F A c xs n) (hr:RuB w B (Qj F k) Ab cb An cn Ap cp) (hvl:VIn w B v d p)=>hfc w Ab An Ap cb cn cp hw hr hvl
 clear h;obtain⟨r,er⟩:∃r,Qj F k=r:=⟨_,rfl⟩;rw[er] at hr hrg hru hfc HK0;clear er hfit;obtain⟨sb,sn,sp,rfl,Abv,nb,cbv,Anv,nnv,cnv,Apv,cpv,rfl,rfl,rfl,hnb,hnn,hpl,hcm,hrb,hrn,hch⟩:=hval;have hnbl:d.bs.length=nb:=by have:=hrb.len;rw[XD] at this;exact this
 have hnnl:d.ns.length=nnv:=by have:=hrn.len;rw[Z8] at this;exact this
 subst hnbl hnnl;have HRB:=Q3 hrb;have HCH:=Q3 hch;have HRU:=Q3 hru;have HRK:=Q3 hr;have HD:=Q3 (Eq.refl d);obtain⟨dk,dn,dbs,dns⟩:=d;simp only[QK] at hsz hno hd1 hd2 hnb hnn ⊢;clear hrb hrn hch hru hv;obtain⟨name,kind,bs,size,big,mn,mx,stop,count,elem,names,parts⟩:=r;simp only[ruC] at hr hrg hfc HK0;have HFC:=Q3 hfc;have HRUB:=Q2b;clear hfc;go_enter Tryz.func45,Tryz.ntmps45;haveI:Pan (bodyPost Tryz.prog Tryz.f45 (WrE ⟨some ⟨bf,of,none⟩,nn,cf⟩ g W A c xs RES n (300+dbs.length+X0 p))) (VV RES (wM g A xs.length c) W):=Pan.body fun ch w' ⟨x,h1,h2,h3⟩=>JF
 refine Qy (M:=wM g A xs.length c) (W:=W) (N:=223) (E:=Qb0) (O:=Q7B) ?_ Ze hwd;clear hwd;refine yq<|yr ?_;refine yB fun b5=>?_;refine Q1n ?_;refine yA fun b6=>?_;refine QvW ?_;refine yo zO<|yl<|yn<|y1<|yr<|yo zM ?_;refine Q4 mc5 ?_;refine yo zF<|yo (zB 2) ?_;refine Q4 QhS ?_;refine Q4 (Qvy (fun w=>by kernel_rfl) rfl rfl Q1 rfl rfl) ?_;exact Qq9 rfl rfl rfl (fun w hw=>⟨n,HZ.out,rfl,hw.k⟩)
theorem QwL(hv:Fm F)(hk:0<=k/\k<F.length)(h:Z6 W z B g F A c xs n)(hval:VIn W B v d p)(hd1:d.bs.length<=1048576)(hd2:d.ns.length<=1048576)(hn0:Xu d p.len=0)(hpl6:p.len<=1048576)(hsz:xs.length+QK d p<=1099511627776)(hno:n+QK d p<=1099511627776)(hfit:XB F (Qj F k) d p=true)(hkind:(Qj F k).kind=1):
  Calls Tryz.prog 45 #[.pointer (some ⟨g,0,none⟩),.int .i64 k,v] W (WrE z g W A c xs (QD F k d p n) n (QK d p)):=by
 have H:=Q3 h;have HV0:=Q3 hv;have hwd:=h.wd;have hFn:=h.len;have hr:=hv.toUsd.rok hk;have hfc:=Q9E
 rw[hfit] at hfc;obtain⟨RES,hres⟩:∃x,QD F k d p n=x:=⟨_,rfl⟩;have HVAL:=Q3 hval;have HL:=Qiu;have HK0:=Q3 (show (Qj F k).kind=1/\J0 F (Qj F k) d p=(Qj F k).bs from ⟨hkind,by unfold J0;rw[if_pos hkind]⟩);rw[HK0.out.2] at HL;rw[hres];obtain⟨Af,nn,cf⟩:=z;simp only at hFn;obtain⟨bf,of,haf,_⟩:=h.fm.2 Y0;simp only at haf;subst haf;obtain⟨hbB,Ab,cb,An,cn,Ap,cp,hrg,hru⟩:=h.fm.ruleB (k:=k) Va;have hbM:bf∉wM g A xs.length c:=fun hm=>by
  rcases Zh.1 hm with e|e
  ·exact Yg
  ·exact Q1x
 have hkn:0<=k/\k<(nn:Int):=by omega
 have hBW:B<=W.heap.size:=by have:=h.hB;have:=h.lt;omega
 replace hfc:=fun(w:World) (hw:Z6 w _ B g F A c xs n) (hr:RuB w B (Qj F k) Ab cb An cn Ap cp) (hvl:VIn w B v d p)=>hfc w Ab An Ap cb cn cp hw hr hvl
 clear h;obtain⟨r,er⟩:∃r,Qj F k=r:=⟨_,rfl⟩;rw[er] at hr hrg hru hfc HK0 HL;clear er hfit;obtain⟨sb,sn,sp,rfl,Abv,nb,cbv,Anv,nnv,cnv,Apv,cpv,rfl,rfl,rfl,hnb,hnn,hpl,hcm,hrb,hrn,hch⟩:=hval;have hnbl:d.bs.length=nb:=by have:=hrb.len;rw[XD] at this;exact this
 have hnnl:d.ns.length=nnv:=by have:=hrn.len;rw[Z8] at this;exact this
 subst hnbl hnnl;have HRB:=Q3 hrb;have HCH:=Q3 hch;have HRU:=Q3 hru;have HRK:=Q3 hr;have HD:=Q3 (Eq.refl d);obtain⟨dk,dn,dbs,dns⟩:=d;simp only[QK] at hsz hno hd1 hd2 hnb hnn ⊢;clear hrb hrn hch hru hv;obtain⟨name,kind,bs,size,big,mn,mx,stop,count,elem,names,parts⟩:=r;simp only[ruC] at hr hrg hfc HK0 HL;have HFC:=Q3 hfc;have HRUB:=Q2b;clear hfc;go_enter Tryz.func45,Tryz.ntmps45;haveI:Pan (bodyPost Tryz.prog Tryz.f45 (WrE ⟨some ⟨bf,of,none⟩,nn,cf⟩ g W A c xs RES n (300+dbs.length+X0 p))) (VV RES (wM g A xs.length c) W):=Pan.body fun ch w' ⟨x,h1,h2,h3⟩=>JF
 refine Qy (M:=wM g A xs.length c) (W:=W) (N:=223) (E:=Qb0) (O:=Q7B) ?_ Ze hwd;clear hwd;refine yq<|yr ?_;refine yB fun b5=>?_;refine Q1n ?_;refine yA fun b6=>?_;refine Q36 ?_;obtain⟨hkd,_⟩:=HK0.out;replace hkd:kind=1:=hkd;subst hkd;have hb16:=hr.bs16;replace hb16:bs.length<=16:=hb16;have HZ:=Q3 (show RES=.ok (bs,n+1) from HL.out);have hl1:xs.length+bs.length=(xs++bs).length:=QdM;have hb1:bv xs++bv bs=bv (xs++bs):=by unfold bv;rw[List.map_append]
 have e1:(n:Int)+1=((n+1:Nat):Int):=rfl;refine Q9A ?_;refine yl<|yn<|yq<|yr<|yo zF<|yo (zB 0)<|yl<|yn<|yb<|yq<|yr<|yo zet<|yo zA<|yl<|yn<|y1 ?_;rw[e1];refine Xw [.blk b6 Qwg,.blk g Qdp] [10] Q5 ?_;refine Qsp ?_;refine QX 7 Q5 rfl rfl (Xp 3 rfl rfl rfl rfl rfl (fun w hw=>(HRUB.out.below Q8m).more Qrw) (Vj _) Q2) (fun _=>.inr Q6u) rfl Q1 (fun z1 _=>?_);rw[hl1,hb1];refine Qi 8 rfl Q5 Q6u mc5 ?_;refine Qi 9 rfl Q5 Q6u zF ?_;refine QB 10 Q5 rfl rfl Q2L ZA rfl (fun _ _=>?_);refine Xi ?_ Q5;refine yd ?_;exact Zc Yh rfl (fun w hw=>Ye H.out 2 3 (b:=bs) hw rfl rfl HZ.out Q2 Q2)
theorem Qwx(hv:Fm F)(hk:0<=k/\k<F.length)(h:Z6 W z B g F A c xs n)(hval:VIn W B v d p)(hd1:d.bs.length<=1048576)(hd2:d.ns.length<=1048576)(hn0:Xu d p.len=0)(hpl6:p.len<=1048576)(hsz:xs.length+QK d p<=1099511627776)(hno:n+QK d p<=1099511627776)(hfit:XB F (Qj F k) d p=true)(hkind:(Qj F k).kind=2):
  Calls Tryz.prog 45 #[.pointer (some ⟨g,0,none⟩),.int .i64 k,v] W (WrE z g W A c xs (QD F k d p n) n (QK d p)):=by
 have H:=Q3 h;have HV0:=Q3 hv;have hwd:=h.wd;have hFn:=h.len;have hr:=hv.toUsd.rok hk;have hfc:=Q9E
 rw[hfit] at hfc;obtain⟨RES,hres⟩:∃x,QD F k d p n=x:=⟨_,rfl⟩;have HVAL:=Q3 hval;have HL:=Qiu;have HK0:=Q3 (show (Qj F k).kind=2/\J0 F (Qj F k) d p=Ku (Qj F k) d.n from ⟨hkind,by unfold J0;rw[if_neg Q2,if_pos Q1Q]⟩);rw[HK0.out.2] at HL;have hcnt:Vl (Qj F k) d.n=true:=by rw[Kn Q1Q,Bool.and_eq_true] at hfit;exact hfit.2
 have hNO:=JG.of hr Q1Q;rw[hres];obtain⟨Af,nn,cf⟩:=z;simp only at hFn;obtain⟨bf,of,haf,_⟩:=h.fm.2 Y0;simp only at haf;subst haf;obtain⟨hbB,Ab,cb,An,cn,Ap,cp,hrg,hru⟩:=h.fm.ruleB (k:=k) Va;have hbM:bf∉wM g A xs.length c:=fun hm=>by
  rcases Zh.1 hm with e|e
  ·exact Yg
  ·exact Q1x
 have hkn:0<=k/\k<(nn:Int):=by omega
 have hBW:B<=W.heap.size:=by have:=h.hB;have:=h.lt;omega
 replace hfc:=fun(w:World) (hw:Z6 w _ B g F A c xs n) (hr:RuB w B (Qj F k) Ab cb An cn Ap cp) (hvl:VIn w B v d p)=>hfc w Ab An Ap cb cn cp hw hr hvl
 clear h;obtain⟨r,er⟩:∃r,Qj F k=r:=⟨_,rfl⟩;rw[er] at hr hrg hru hfc HK0 HL hcnt hNO;clear er hfit;obtain⟨sb,sn,sp,rfl,Abv,nb,cbv,Anv,nnv,cnv,Apv,cpv,rfl,rfl,rfl,hnb,hnn,hpl,hcm,hrb,hrn,hch⟩:=hval;have hnbl:d.bs.length=nb:=by have:=hrb.len;rw[XD] at this;exact this
 have hnnl:d.ns.length=nnv:=by have:=hrn.len;rw[Z8] at this;exact this
 subst hnbl hnnl;have HRB:=Q3 hrb;have HCH:=Q3 hch;have HRU:=Q3 hru;have HRK:=Q3 hr;have HD:=Q3 (Eq.refl d);obtain⟨dk,dn,dbs,dns⟩:=d;simp only[QK] at hsz hno hd1 hd2 hnb hnn ⊢;clear hrb hrn hch hru hv;obtain⟨name,kind,bs,size,big,mn,mx,stop,count,elem,names,parts⟩:=r;have hnc:=Qsa
 have hnl:=Q0v hNO hcnt;obtain⟨uy,hys⟩:∃uy,Ku ⟨name,kind,bs,size,big,mn,mx,stop,count,elem,names,parts⟩ dn=uy:=⟨_,rfl⟩;simp only[hys] at hnc hnl HL;simp only[ruC] at hr hrg hfc HK0 hnc;have HNC:=Q3 hnc;clear hnc hNO hcnt;have HFC:=Q3 hfc;have HRUB:=Q2b;clear hfc;go_enter Tryz.func45,Tryz.ntmps45;haveI:Pan (bodyPost Tryz.prog Tryz.f45 (WrE ⟨some ⟨bf,of,none⟩,nn,cf⟩ g W A c xs RES n (300+dbs.length+X0 p))) (VV RES (wM g A xs.length c) W):=Pan.body fun ch w' ⟨x,h1,h2,h3⟩=>JF
 refine Qy (M:=wM g A xs.length c) (W:=W) (N:=223) (E:=Qb0) (O:=Q7B) ?_ Ze hwd;clear hwd;refine yq<|yr ?_;refine yB fun b5=>?_;refine Q1n ?_;refine yA fun b6=>?_;refine Q36 ?_;obtain⟨hkd,_⟩:=HK0.out;replace hkd:kind=2:=hkd;subst hkd;have HZ:=Q3 (show RES=.ok (uy,n+1) from HL.out);have e1:(n:Int)+1=((n+1:Nat):Int):=rfl;refine Q9A ?_;refine yl<|yn<|yq<|yr<|yo zF<|yo (zB 0)<|yl<|yn<|yb<|yq<|yr<|yo zef<|yo zA<|yl<|yn<|y0<|yq<|yq<|yr<|yo zet<|yo zA<|yl ?_;rw[e1];refine yn<|y1<|ys<|yn<|y1<|yr<|yo zM<|yo (zD 0)<|yo zF<|yo (zB 1) ?_;refine J4 Qh9 rfl Q1 (fun y hy=>?_);refine yl ?_;obtain⟨ub,um,uA,uc⟩:=y;obtain⟨hy1,hy2,hy3⟩:=hy;injection hy1 with hy1;injection hy1 with hyb hym;simp only at hyb hym;subst hyb hym;refine yd ?_;exact Qr8
theorem Qwu(hv:Fm F)(hk:0<=k/\k<F.length)(h:Z6 W z B g F A c xs n)(hval:VIn W B v d p)(hd1:d.bs.length<=1048576)(hd2:d.ns.length<=1048576)(hn0:Xu d p.len=0)(hpl6:p.len<=1048576)(hsz:xs.length+QK d p<=1099511627776)(hno:n+QK d p<=1099511627776)(hfit:XB F (Qj F k) d p=true)(hkind:(Qj F k).kind=3):
  Calls Tryz.prog 45 #[.pointer (some ⟨g,0,none⟩),.int .i64 k,v] W (WrE z g W A c xs (QD F k d p n) n (QK d p)):=by
 have H:=Q3 h;have HV0:=Q3 hv;have hwd:=h.wd;have hFn:=h.len;have hr:=hv.toUsd.rok hk;have hfc:=Q9E
 rw[hfit] at hfc;obtain⟨RES,hres⟩:∃x,QD F k d p n=x:=⟨_,rfl⟩;have HVAL:=Q3 hval;have HL:=Qiu;have HK0:=Q3 (show (Qj F k).kind=3/\J0 F (Qj F k) d p=Ku (Qj F k) d.n from ⟨hkind,by unfold J0;rw[if_neg Q2,if_pos Q0r]⟩);rw[HK0.out.2] at HL;have hcnt:Vl (Qj F k) d.n=true:=by rw[Kn Q0r,Bool.and_eq_true] at hfit;exact hfit.2
 have hNO:=JG.of hr Q0r;rw[hres];obtain⟨Af,nn,cf⟩:=z;simp only at hFn;obtain⟨bf,of,haf,_⟩:=h.fm.2 Y0;simp only at haf;subst haf;obtain⟨hbB,Ab,cb,An,cn,Ap,cp,hrg,hru⟩:=h.fm.ruleB (k:=k) Va;have hbM:bf∉wM g A xs.length c:=fun hm=>by
  rcases Zh.1 hm with e|e
  ·exact Yg
  ·exact Q1x
 have hkn:0<=k/\k<(nn:Int):=by omega
 have hBW:B<=W.heap.size:=by have:=h.hB;have:=h.lt;omega
 replace hfc:=fun(w:World) (hw:Z6 w _ B g F A c xs n) (hr:RuB w B (Qj F k) Ab cb An cn Ap cp) (hvl:VIn w B v d p)=>hfc w Ab An Ap cb cn cp hw hr hvl
 clear h;obtain⟨r,er⟩:∃r,Qj F k=r:=⟨_,rfl⟩;rw[er] at hr hrg hru hfc HK0 HL hcnt hNO;clear er hfit;obtain⟨sb,sn,sp,rfl,Abv,nb,cbv,Anv,nnv,cnv,Apv,cpv,rfl,rfl,rfl,hnb,hnn,hpl,hcm,hrb,hrn,hch⟩:=hval;have hnbl:d.bs.length=nb:=by have:=hrb.len;rw[XD] at this;exact this
 have hnnl:d.ns.length=nnv:=by have:=hrn.len;rw[Z8] at this;exact this
 subst hnbl hnnl;have HRB:=Q3 hrb;have HCH:=Q3 hch;have HRU:=Q3 hru;have HRK:=Q3 hr;have HD:=Q3 (Eq.refl d);obtain⟨dk,dn,dbs,dns⟩:=d;simp only[QK] at hsz hno hd1 hd2 hnb hnn ⊢;clear hrb hrn hch hru hv;obtain⟨name,kind,bs,size,big,mn,mx,stop,count,elem,names,parts⟩:=r;have hnc:=Qsa
 have hnl:=Q0v hNO hcnt;obtain⟨uy,hys⟩:∃uy,Ku ⟨name,kind,bs,size,big,mn,mx,stop,count,elem,names,parts⟩ dn=uy:=⟨_,rfl⟩;simp only[hys] at hnc hnl HL;simp only[ruC] at hr hrg hfc HK0 hnc;have HNC:=Q3 hnc;clear hnc hNO hcnt;have HFC:=Q3 hfc;have HRUB:=Q2b;clear hfc;go_enter Tryz.func45,Tryz.ntmps45;haveI:Pan (bodyPost Tryz.prog Tryz.f45 (WrE ⟨some ⟨bf,of,none⟩,nn,cf⟩ g W A c xs RES n (300+dbs.length+X0 p))) (VV RES (wM g A xs.length c) W):=Pan.body fun ch w' ⟨x,h1,h2,h3⟩=>JF
 refine Qy (M:=wM g A xs.length c) (W:=W) (N:=223) (E:=Qb0) (O:=Q7B) ?_ Ze hwd;clear hwd;refine yq<|yr ?_;refine yB fun b5=>?_;refine Q1n ?_;refine yA fun b6=>?_;refine Q36 ?_;obtain⟨hkd,_⟩:=HK0.out;replace hkd:kind=3:=hkd;subst hkd;have HZ:=Q3 (show RES=.ok (uy,n+1) from HL.out);have e1:(n:Int)+1=((n+1:Nat):Int):=rfl;refine Q9A ?_;refine yl<|yn<|yq<|yr<|yo zF<|yo (zB 0)<|yl<|yn<|yb<|yq<|yr<|yo zef<|yo zA<|yl<|yn<|y0<|yq<|yq<|yr<|yo zef<|yo zA<|yl<|yn<|y0<|yr<|yo zet<|yo zA<|yl ?_;rw[e1];refine yn<|y1<|yr<|yo zM<|yo (zD 0)<|yo zF<|yo (zB 1) ?_;refine J4 Qh9 rfl Q1 (fun y hy=>?_);refine yl ?_;obtain⟨ub,um,uA,uc⟩:=y;obtain⟨hy1,hy2,hy3⟩:=hy;injection hy1 with hy1;injection hy1 with hyb hym;simp only at hyb hym;subst hyb hym;refine yd ?_;exact Qr8
theorem QwA(hv:Fm F)(hk:0<=k/\k<F.length)(h:Z6 W z B g F A c xs n)(hval:VIn W B v d p)(hd1:d.bs.length<=1048576)(hd2:d.ns.length<=1048576)(hn0:Xu d p.len=0)(hpl6:p.len<=1048576)(hsz:xs.length+QK d p<=1099511627776)(hno:n+QK d p<=1099511627776)(hfit:XB F (Qj F k) d p=true)(hkind:(Qj F k).kind=4):
  Calls Tryz.prog 45 #[.pointer (some ⟨g,0,none⟩),.int .i64 k,v] W (WrE z g W A c xs (QD F k d p n) n (QK d p)):=by
 have H:=Q3 h;have HV0:=Q3 hv;have hwd:=h.wd;have hFn:=h.len;have hr:=hv.toUsd.rok hk;have hfc:=Q9E
 rw[hfit] at hfc;obtain⟨RES,hres⟩:∃x,QD F k d p n=x:=⟨_,rfl⟩;have HVAL:=Q3 hval;have HL:=Qiu;have HK0:=Q3 (show (Qj F k).kind=4/\J0 F (Qj F k) d p=d.bs from ⟨hkind,by unfold J0;rw[if_neg Q2,if_neg Q2,if_pos hkind]⟩);rw[HK0.out.2] at HL;rw[hres];obtain⟨Af,nn,cf⟩:=z;simp only at hFn;obtain⟨bf,of,haf,_⟩:=h.fm.2 Y0;simp only at haf;subst haf;obtain⟨hbB,Ab,cb,An,cn,Ap,cp,hrg,hru⟩:=h.fm.ruleB (k:=k) Va;have hbM:bf∉wM g A xs.length c:=fun hm=>by
  rcases Zh.1 hm with e|e
  ·exact Yg
  ·exact Q1x
 have hkn:0<=k/\k<(nn:Int):=by omega
 have hBW:B<=W.heap.size:=by have:=h.hB;have:=h.lt;omega
 replace hfc:=fun(w:World) (hw:Z6 w _ B g F A c xs n) (hr:RuB w B (Qj F k) Ab cb An cn Ap cp) (hvl:VIn w B v d p)=>hfc w Ab An Ap cb cn cp hw hr hvl
 clear h;obtain⟨r,er⟩:∃r,Qj F k=r:=⟨_,rfl⟩;rw[er] at hr hrg hru hfc HK0;clear er hfit;obtain⟨sb,sn,sp,rfl,Abv,nb,cbv,Anv,nnv,cnv,Apv,cpv,rfl,rfl,rfl,hnb,hnn,hpl,hcm,hrb,hrn,hch⟩:=hval;have hnbl:d.bs.length=nb:=by have:=hrb.len;rw[XD] at this;exact this
 have hnnl:d.ns.length=nnv:=by have:=hrn.len;rw[Z8] at this;exact this
 subst hnbl hnnl;have HRB:=Q3 hrb;have HCH:=Q3 hch;have HRU:=Q3 hru;have HRK:=Q3 hr;have HD:=Q3 (Eq.refl d);obtain⟨dk,dn,dbs,dns⟩:=d;simp only[QK] at hsz hno hd1 hd2 hnb hnn ⊢;clear hrb hrn hch hru hv;obtain⟨name,kind,bs,size,big,mn,mx,stop,count,elem,names,parts⟩:=r;simp only[ruC] at hr hrg hfc HK0 HL;have HFC:=Q3 hfc;have HRUB:=Q2b;clear hfc;go_enter Tryz.func45,Tryz.ntmps45;haveI:Pan (bodyPost Tryz.prog Tryz.f45 (WrE ⟨some ⟨bf,of,none⟩,nn,cf⟩ g W A c xs RES n (300+dbs.length+X0 p))) (VV RES (wM g A xs.length c) W):=Pan.body fun ch w' ⟨x,h1,h2,h3⟩=>JF
 refine Qy (M:=wM g A xs.length c) (W:=W) (N:=223) (E:=Qb0) (O:=Q7B) ?_ Ze hwd;clear hwd;refine yq<|yr ?_;refine yB fun b5=>?_;refine Q1n ?_;refine yA fun b6=>?_;refine Q36 ?_;obtain⟨hkd,_⟩:=HK0.out;replace hkd:kind=4:=hkd;subst hkd;have HZ:=Q3 (show RES=.ok (dbs,n+1) from HL.out);have hl1:xs.length+dbs.length=(xs++dbs).length:=QdM;have hb1:bv xs++bv dbs=bv (xs++dbs):=by unfold bv;rw[List.map_append]
 have e1:(n:Int)+1=((n+1:Nat):Int):=rfl;refine Q9A ?_;refine yl<|yn<|yq<|yr<|yo zF<|yo (zB 0)<|yl<|yn<|yb<|yq<|yr<|yo zef<|yo zA<|yl<|yn<|y0<|yq<|yq<|yr<|yo zef<|yo zA<|yl<|yn<|y0<|yr<|yo zef<|yo zA<|yl<|yn<|y0<|yq<|yr<|yo zet<|yo zA<|yl<|yn<|y1 ?_;rw[e1];refine Xw [.blk b5 QdF,.blk g Qdp] [10] Q5 ?_;refine QsE ?_;refine QX 7 Q5 rfl rfl QnK Q1B rfl Q1 (fun z1 _=>?_);rw[hl1,hb1];refine Qi 8 rfl Q5 Q0F mc5 ?_;refine Qi 9 rfl Q5 Q0F zF ?_;refine QB 10 Q5 rfl rfl Q2L ZA rfl (fun _ _=>?_);refine Xi ?_ Q5;refine yd ?_;exact Zc Yh rfl (fun w hw=>Ye H.out 2 3 (b:=dbs) hw rfl rfl HZ.out Q2 Q2)
theorem QwP(hv:Fm F)(hk:0<=k/\k<F.length)(h:Z6 W z B g F A c xs n)(hval:VIn W B v d p)(hd1:d.bs.length<=1048576)(hd2:d.ns.length<=1048576)(hn0:Xu d p.len=0)(hpl6:p.len<=1048576)(hsz:xs.length+QK d p<=1099511627776)(hno:n+QK d p<=1099511627776)(hfit:XB F (Qj F k) d p=true)(hkind:(Qj F k).kind=5):
  Calls Tryz.prog 45 #[.pointer (some ⟨g,0,none⟩),.int .i64 k,v] W (WrE z g W A c xs (QD F k d p n) n (QK d p)):=by
 have H:=Q3 h;have HV0:=Q3 hv;have hwd:=h.wd;have hFn:=h.len;have hr:=hv.toUsd.rok hk;have hfc:=Q9E
 rw[hfit] at hfc;obtain⟨RES,hres⟩:∃x,QD F k d p n=x:=⟨_,rfl⟩;have HVAL:=Q3 hval;have HL:=Qiu;have HK0:=Q3 (show (Qj F k).kind=5/\J0 F (Qj F k) d p=d.bs++[YD (Qj F k)] from ⟨hkind,by unfold J0;rw[if_neg Q2,if_neg Q2,if_neg Q2,if_neg Q2,if_pos hkind]⟩);rw[HK0.out.2] at HL;rw[hres];obtain⟨Af,nn,cf⟩:=z;simp only at hFn;obtain⟨bf,of,haf,_⟩:=h.fm.2 Y0;simp only at haf;subst haf;obtain⟨hbB,Ab,cb,An,cn,Ap,cp,hrg,hru⟩:=h.fm.ruleB (k:=k) Va;have hbM:bf∉wM g A xs.length c:=fun hm=>by
  rcases Zh.1 hm with e|e
  ·exact Yg
  ·exact Q1x
 have hkn:0<=k/\k<(nn:Int):=by omega
 have hBW:B<=W.heap.size:=by have:=h.hB;have:=h.lt;omega
 replace hfc:=fun(w:World) (hw:Z6 w _ B g F A c xs n) (hr:RuB w B (Qj F k) Ab cb An cn Ap cp) (hvl:VIn w B v d p)=>hfc w Ab An Ap cb cn cp hw hr hvl
 clear h;obtain⟨r,er⟩:∃r,Qj F k=r:=⟨_,rfl⟩;rw[er] at hr hrg hru hfc HK0 HL;clear er hfit;obtain⟨sb,sn,sp,rfl,Abv,nb,cbv,Anv,nnv,cnv,Apv,cpv,rfl,rfl,rfl,hnb,hnn,hpl,hcm,hrb,hrn,hch⟩:=hval;have hnbl:d.bs.length=nb:=by have:=hrb.len;rw[XD] at this;exact this
 have hnnl:d.ns.length=nnv:=by have:=hrn.len;rw[Z8] at this;exact this
 subst hnbl hnnl;have HRB:=Q3 hrb;have HCH:=Q3 hch;have HRU:=Q3 hru;have HRK:=Q3 hr;have HD:=Q3 (Eq.refl d);obtain⟨dk,dn,dbs,dns⟩:=d;simp only[QK] at hsz hno hd1 hd2 hnb hnn ⊢;clear hrb hrn hch hru hv;obtain⟨name,kind,bs,size,big,mn,mx,stop,count,elem,names,parts⟩:=r;simp only[ruC,YD] at hr hrg hfc HK0 HL;have HFC:=Q3 hfc;have HRUB:=Q2b;clear hfc;go_enter Tryz.func45,Tryz.ntmps45;haveI:Pan (bodyPost Tryz.prog Tryz.f45 (WrE ⟨some ⟨bf,of,none⟩,nn,cf⟩ g W A c xs RES n (300+dbs.length+X0 p))) (VV RES (wM g A xs.length c) W):=Pan.body fun ch w' ⟨x,h1,h2,h3⟩=>JF
 refine Qy (M:=wM g A xs.length c) (W:=W) (N:=223) (E:=Qb0) (O:=Q7B) ?_ Ze hwd;clear hwd;refine yq<|yr ?_;refine yB fun b5=>?_;refine Q1n ?_;refine yA fun b6=>?_;refine Q36 ?_;obtain⟨hkd,_⟩:=HK0.out;replace hkd:kind=5:=hkd;subst hkd;obtain⟨sB,hsB⟩:∃b:UInt8,UInt8.ofNat (stop % 256).toNat=b:=⟨_,rfl⟩;have hcv:IntKind.u8.wrap stop=(sB.toNat:Int):=by rw[Qcs,hsB]
 have HZ:=Q3 (show RES=.ok (dbs++[sB],n+1) by rw[<- hsB];exact HL.out);have hl1:xs.length+dbs.length=(xs++dbs).length:=QdM;have hb1:bv xs++bv dbs=bv (xs++dbs):=by unfold bv;rw[List.map_append]
 have hl2:(xs++dbs).length+1=(xs++(dbs++[sB])).length:=by simp only[List.length_append,List.length_cons,List.length_nil];omega
 have hb2:bv (xs++dbs)++[.int .u8 (sB.toNat:Int)]=bv (xs++(dbs++[sB])):=by unfold bv;simp
 have hbl:(dbs++[sB]).length=dbs.length+1:=Q9C;have hbnd:(xs++dbs).length<=1099511627776:=by rw[<- hl1];omega
 have e1:(n:Int)+1=((n+1:Nat):Int):=rfl;refine Q9A ?_;refine yl<|yn<|yq<|yr<|yo zF<|yo (zB 0)<|yl<|yn<|yb<|yq<|yr<|yo zef<|yo zA<|yl<|yn<|y0<|yq<|yq<|yr<|yo zef<|yo zA<|yl<|yn<|y0<|yr<|yo zef<|yo zA<|yl<|yn<|y0<|yq<|yr<|yo zef<|yo zA<|yl<|yn<|y0<|yq<|yr<|yo zef<|yo zA<|yl<|yn<|y0<|yq<|yr<|yo zet<|yo zA<|yl<|yn<|y1 ?_;rw[e1];refine Xw [.blk b6 QuJ,.blk b5 QdF,.blk g Qdp] [15] Q5 ?_;refine Qi 0 rfl Q5 Y5 zM ?_;refine Qi 1 rfl Q5 Y5 zM ?_;refine Qi 2 rfl Q5 Y5 mc5 ?_;refine Qi 3 rfl Q5 Y5 zF ?_;refine Qi 4 rfl Q5 Y5 (zB 2) ?_;refine Qi 5 rfl Q5 Y5 zF ?_;refine Qi 6 rfl Q5 Y5 (zB 1) ?_;refine Qi 8 rfl Q5 Y5 zF ?_;refine Qi 9 rfl Q5 Y5 (zB 0) ?_;refine Qi 10 rfl Q5 Y5 QhI ?_;refine Q6l 7 11 Q5 (V4 rfl rfl QnK (fun _=>.inr Y5) rfl Q1 (fun z1 _=>?_)) (V4 rfl rfl Y1 Q78 rfl Q1 (fun bn _=>?_))
 ·rw[hl1,hb1];refine QX 11 Q5 rfl rfl Y1 Q78 rfl Q1 (fun bn _=>?_);refine QX 12 Q5 rfl rfl Qg2 Q78 rfl Q1 (fun z2 _=>?_);refine Qka ?_;refine QB 15 Q5 rfl rfl QhC ZA rfl (fun _ _=>?_);refine Xi ?_ Q5;refine yd ?_;exact QrP
 ·refine QX 7 Q5 rfl rfl (Xp 4 rfl rfl rfl rfl rfl (fun w hw=>(HRB.out.below Q8m).more Qrw) (Vj _) Q2) Q78 rfl Q1 (fun z1 _=>?_);rw[hl1,hb1];refine QX 12 Q5 rfl rfl Qg2 Q78 rfl Q1 (fun z2 _=>?_);refine Qka ?_;refine QB 15 Q5 rfl rfl QhC ZA rfl (fun _ _=>?_);refine Xi ?_ Q5;refine yd ?_;exact QrP
theorem QvE(hv:Fm F)(hk:0<=k/\k<F.length)(h:Z6 W z B g F A c xs n)(hval:VIn W B v d p)(hd1:d.bs.length<=1048576)(hd2:d.ns.length<=1048576)(hn0:Xu d p.len=0)(hpl6:p.len<=1048576)(hsz:xs.length+QK d p<=1099511627776)(hno:n+QK d p<=1099511627776)(hfit:XB F (Qj F k) d p=true)(hkind:(Qj F k).kind=10):
  Calls Tryz.prog 45 #[.pointer (some ⟨g,0,none⟩),.int .i64 k,v] W (WrE z g W A c xs (QD F k d p n) n (QK d p)):=by
 have H:=Q3 h;have HV0:=Q3 hv;have hwd:=h.wd;have hFn:=h.len;have hr:=hv.toUsd.rok hk;have hfc:=Q9E
 rw[hfit] at hfc;obtain⟨RES,hres⟩:∃x,QD F k d p n=x:=⟨_,rfl⟩;have HVAL:=Q3 hval;have HL:=Qiu;have HK0:=Q3 (show (Qj F k).kind=10/\J0 F (Qj F k) d p=Ku Qmj (d.bs.length:Int)++d.bs from ⟨hkind,by unfold J0;rw[if_neg Q2,if_neg Q2,if_neg Q2,if_pos hkind]⟩);rw[HK0.out.2] at HL;have hcnt:Vl (Qj F (Qj F k).count) (d.bs.length:Int)=true:=by rw[Q5M hkind,Bool.and_eq_true] at hfit;exact hfit.2
 have hNO:=hv.numOk hk Q0r;have hct:=hr.count Q0r;rw[hres];obtain⟨Af,nn,cf⟩:=z;simp only at hFn;obtain⟨bf,of,haf,_⟩:=h.fm.2 Y0;simp only at haf;subst haf;obtain⟨hbB,Ab,cb,An,cn,Ap,cp,hrg,hru⟩:=h.fm.ruleB (k:=k) Va;have hbM:bf∉wM g A xs.length c:=fun hm=>by
  rcases Zh.1 hm with e|e
  ·exact Yg
  ·exact Q1x
 have hkn:0<=k/\k<(nn:Int):=by omega
 have hBW:B<=W.heap.size:=by have:=h.hB;have:=h.lt;omega
 replace hfc:=fun(w:World) (hw:Z6 w _ B g F A c xs n) (hr:RuB w B (Qj F k) Ab cb An cn Ap cp) (hvl:VIn w B v d p)=>hfc w Ab An Ap cb cn cp hw hr hvl
 clear h;obtain⟨r,er⟩:∃r,Qj F k=r:=⟨_,rfl⟩;rw[er] at hr hrg hru hfc HK0 HL hcnt hNO hct;clear er hfit;obtain⟨sb,sn,sp,rfl,Abv,nb,cbv,Anv,nnv,cnv,Apv,cpv,rfl,rfl,rfl,hnb,hnn,hpl,hcm,hrb,hrn,hch⟩:=hval;have hnbl:d.bs.length=nb:=by have:=hrb.len;rw[XD] at this;exact this
 have hnnl:d.ns.length=nnv:=by have:=hrn.len;rw[Z8] at this;exact this
 subst hnbl hnnl;have HRB:=Q3 hrb;have HCH:=Q3 hch;have HRU:=Q3 hru;have HRK:=Q3 hr;have HD:=Q3 (Eq.refl d);obtain⟨dk,dn,dbs,dns⟩:=d;simp only[QK] at hsz hno hd1 hd2 hnb hnn ⊢;clear hrb hrn hch hru hv;obtain⟨name,kind,bs,size,big,mn,mx,stop,count,elem,names,parts⟩:=r;obtain⟨hbB2,Ab2,cb2,An2,cn2,Ap2,cp2,hrg2,hru2⟩:=H.out.fm.ruleB (k:=count) (by simp only;exact Qhz);have hct2:0<=count/\count<(nn:Int):=Qhz;simp only at hcnt hNO HL;obtain⟨r2,er2⟩:∃r,Qj F count=r:=⟨_,rfl⟩;rw[er2] at hrg2 hcnt hNO HL;clear er2 hru2;have hnc:=QrO
 have hnl:=Q0v hNO hcnt;obtain⟨uy,hys⟩:∃uy,Ku r2 (dbs.length:Int)=uy:=⟨_,rfl⟩;simp only[hys] at hnc hnl HL;clear hys hNO hcnt hct;obtain⟨name2,kind2,bs2,size2,big2,mn2,mx2,stop2,count2,elem2,names2,parts2⟩:=r2;simp only[ruC] at hnc hrg2;have HNC:=Q3 hnc;clear hnc;simp only[ruC] at hr hrg hfc HK0;have HFC:=Q3 hfc;have HRUB:=Q2b;clear hfc;go_enter Tryz.func45,Tryz.ntmps45;haveI:Pan (bodyPost Tryz.prog Tryz.f45 (WrE ⟨some ⟨bf,of,none⟩,nn,cf⟩ g W A c xs RES n (300+dbs.length+X0 p))) (VV RES (wM g A xs.length c) W):=Pan.body fun ch w' ⟨x,h1,h2,h3⟩=>JF
 refine Qy (M:=wM g A xs.length c) (W:=W) (N:=223) (E:=Qb0) (O:=Q7B) ?_ Ze hwd;clear hwd;refine yq<|yr ?_;refine yB fun b5=>?_;refine Q1n ?_;refine yA fun b6=>?_;refine Q36 ?_;obtain⟨hkd,_⟩:=HK0.out;replace hkd:kind=10:=hkd;subst hkd;have HZ:=Q3 (show RES=.ok (uy++dbs,n+1) from HL.out);have hl1:(xs++uy).length+dbs.length=(xs++(uy++dbs)).length:=by simp only[List.length_append];omega
 have hb1:bv (xs++uy)++bv dbs=bv (xs++(uy++dbs)):=by unfold bv;simp
 have hyl:(uy++dbs).length=uy.length+dbs.length:=Q9C;have hbnd:(xs++uy).length+dbs.length<=1099511627776:=by rw[List.length_append];omega
 have e1:(n:Int)+1=((n+1:Nat):Int):=rfl;refine Q9A ?_;refine yl<|yn<|yq<|yr<|yo zF<|yo (zB 0)<|yl<|yn<|yb<|yq<|yr<|yo zef<|yo zA<|yl<|yn<|y0<|yq<|yq<|yr<|yo zef<|yo zA<|yl<|yn<|y0<|yr<|yo zef<|yo zA<|yl<|yn<|y0<|yq<|yr<|yo zef<|yo zA<|yl<|yn<|y0<|yq<|yr<|yo zet<|yo zA<|yl<|yn<|y1<|yq ?_;rw[e1];refine VE (B:=VV RES (wM g A xs.length c) W) [.blk b6 (.cells (Qsw:List Value).toArray 65 (0,0)),.blk b5 QdF,.blk g Qdp] [13] Q5 ?_ ?_
 ·infer_instance
 refine Qqn ?_;refine Q0y 13 Q5 rfl rfl Qh9 (fun i=>.inl Q1) rfl Q1 (fun y hy=>?_);refine Q89 ?_ Q5;obtain⟨ub,um,uA,uc⟩:=y;obtain⟨hy1,hy2,hy3⟩:=hy;injection hy1 with hy1;injection hy1 with hyb hym;simp only at hyb hym;subst hyb hym;refine yn ?_;refine Xw [.blk b5 QdF,.blk g (.cells ([.slice Q8w nn cf,.slice uA (xs++uy).length uc,.int .i64 (n+1:Int)]:List Value).toArray 77 (0,0))] [10] Q5 ?_;refine QsE ?_;refine QX 7 Q5 rfl rfl QnK Q1B rfl Q1 (fun z1 _=>?_);rw[hl1,hb1];refine Qi 8 rfl Q5 Q0F mc5 ?_;refine Qi 9 rfl Q5 Q0F zF ?_;refine QB 10 Q5 rfl rfl Q2L ZA rfl (fun _ _=>?_);refine Xi ?_ Q5;refine yd ?_;exact Zc Yh rfl (fun w hw=>Ye H.out 2 3 (b:=uy++dbs) hw rfl rfl HZ.out Q2 Q2)
end
end
end Go.Proofs.YtphkhfdmlcnoeaaGreatDoor
