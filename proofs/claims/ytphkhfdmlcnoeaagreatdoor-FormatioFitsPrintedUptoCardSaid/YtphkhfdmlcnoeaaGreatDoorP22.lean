import Derived.Test.YtphkhfdmlcnoeaaGreatDoorP20
namespace Go.Proofs.YtphkhfdmlcnoeaaGreatDoor
set_option linter.unusedVariables false
set_option linter.unusedSimpArgs false
set_option maxRecDepth 1000000
set_option maxHeartbeats 32000000
open Go.RowKit
section
variable {W w w':World}{z:Wz}{B g c n:Nat}{F:List Rl}{A:Option Addr}{xs:List UInt8}{k:Int}{d:Nd}{p:VF}{v:Value}
theorem Qwo(hall:VF.All (WvC z B g F) p)(hgp:Q3t p)(hfp:XU p)(hv:Fm F)(hk:0<=k/\k<F.length)(h:XV W z B g F A c xs n)(hval:VIn W B v d p)(hd1:d.bs.length<=1048576)(hd2:d.ns.length<=1048576)(hn0:QL d p.len=0)(hpl6:p.len<=1048576)(hsz:xs.length+QH d p<=1099511627776)(hno:n+QH d p<=1099511627776)(hfit:Xm F (Qg F k) d p=true)(hkind:(Qg F k).kind=8):
  Calls Tryz.prog 45 #[.pointer (some ⟨g,0,none⟩),.int .i64 k,v] W (WrE z g W A c xs (QD F k d p n) n (QH d p)):=by
 have hF8:=Q5u (F:=F) (d:=d) (p:=p) hkind;rw[hfit] at hF8;replace hF8:=hF8.symm;simp only[Bool.and_eq_true,beq_iff_eq,decide_eq_true_iff] at hF8;obtain⟨⟨⟨⟨_,h2⟩,h3⟩,h4⟩,h5⟩:=hF8;obtain⟨d1,p1,d2,p2,rfl⟩:∃d1 p1 d2 p2,p=.cons d1 p1 (.cons d2 p2 .nil):=by
  cases p with
  |nil=>cases h2
  |cons d1 p1 r=>
   cases r with
   |nil=>cases h2
   |cons d2 p2 r=>
    cases r with
    |nil=>exact⟨d1,p1,d2,p2,rfl⟩
    |cons d3 p3 r=>simp [VF.len] at h2
 clear h2;simp only[VF.hdN] at h3 h4 h5;have H:=Q2 h;have HV0:=Q2 hv;have hwd:=h.wd;have hFn:=h.len;have hr:=hv.toUsd.rok hk;have hfc:=fun(w:World) (Ab An Ap:Option Addr) (cb cn cp:Nat) (hw:XV w z B g F A c xs n) (hru:RuB w B (Qg F k) Ab cb An cn Ap cp) (hval:VIn w B v d (.cons d1 p1 (.cons d2 p2 .nil)))=>Q22 hw hv hk hru hval hd1 hd2
 rw[hfit] at hfc;obtain⟨RES,hres⟩:∃x,QD F k d (.cons d1 p1 (.cons d2 p2 .nil)) n=x:=⟨_,rfl⟩;have HVAL:=Q2 hval;have HALL:=Q2 hall;have HGP:=Q2 hgp;have HFP:=Q2 hfp;clear hall hgp hfp;have HK0:=Q2 (show (Qg F k).kind=8 from hkind);have HL:=Q2 (show RES=QD F ((Qg F k).parts.getD d1.n.toNat 0) d2 p2 (n+2) by rw[<- hres];exact QoQ hfit hkind);have hpt:=hr.parts Q07;rw[hres];obtain⟨Af,nn,cf⟩:=z;simp only at hFn;obtain⟨bf,of,haf,_⟩:=h.fm.2 Vf;simp only at haf;subst haf;obtain⟨hbB,Ab,cb,An,cn,Ap,cp,hrg,hru⟩:=h.fm.ruleB (k:=k) Jx;have hbM:bf∉wM g A xs.length c:=fun hm=>by
  rcases Z1.1 hm with e|e
  ·exact Vu
  ·exact Q0w
 have hkn:0<=k/\k<(nn:Int):=by omega
 have hBW:B<=W.heap.size:=by have:=h.hB;have:=h.lt;omega
 replace hfc:=fun(w:World) (hw:XV w _ B g F A c xs n) (hr:RuB w B (Qg F k) Ab cb An cn Ap cp) (hvl:VIn w B v d (.cons d1 p1 (.cons d2 p2 .nil)))=>hfc w Ab An Ap cb cn cp hw hr hvl
 clear h;obtain⟨r,er⟩:∃r,Qg F k=r:=⟨_,rfl⟩;rw[er] at hr hrg hru hfc HK0 HL hpt h5;clear er hfit;obtain⟨sb,sn,sp,rfl,Abv,nb,cbv,Anv,nnv,cnv,Apv,cpv,rfl,rfl,rfl,hnb,hnn,hpl,hcm,hrb,hrn,hch⟩:=hval;have hnbl:d.bs.length=nb:=by have:=hrb.len;rw[X5] at this;exact this
 have hnnl:d.ns.length=nnv:=by have:=hrn.len;rw[XQ] at this;exact this
 subst hnbl hnnl;have HRB:=Q2 hrb;have HCH:=Q2 hch;have HRU:=Q2 hru;have HRK:=Q2 hr;have HD:=Q2 (Eq.refl d);obtain⟨dk,dn,dbs,dns⟩:=d;simp only[QH] at hsz hno hd1 hd2 hnb hnn ⊢;clear hrb hrn hch hru hv;obtain⟨name,kind,bs,size,big,mn,mx,stop,count,elem,names,parts⟩:=r;simp only[ruC] at hr hrg hfc HK0;have HFC:=Q2 hfc;have HRUB:=Q2D;clear hfc;go_enter Tryz.func45,Tryz.ntmps45;haveI:Pan (bodyPost Tryz.prog Tryz.f45 (WrE ⟨some ⟨bf,of,none⟩,nn,cf⟩ g W A c xs RES n (300+dbs.length+QU (VF.cons d1 p1 (.cons d2 p2 .nil))))) (VJ RES (wM g A xs.length c) W):=Pan.body fun ch w' ⟨x,h1,h2,h3⟩=>J6
 refine Qs (M:=wM g A xs.length c) (W:=W) (N:=223) (E:=[ZR,Q5Q,(2,.agg [.int .i64 dk,.int .i64 dn,.slice Abv dbs.length cbv,.slice Anv dns.length cnv,.slice Apv (VF.cons d1 p1 (.cons d2 p2 .nil)).len cpv].toArray)]) (O:=Q7U) ?_ Z0 hwd;clear hwd;refine yq<|yr ?_;refine yB fun b5=>?_;refine Q0y ?_;refine yA fun b6=>?_;refine Q1M ?_;have hkd:kind=8:=HK0.out;subst hkd;replace h5:d1.n<(parts.length:Int):=h5;obtain⟨j,hj⟩:∃j:Nat,d1.n=(j:Int):=⟨d1.n.toNat,by omega⟩;have hjp:j<parts.length:=by omega
 obtain⟨bv0,ov0,hApv,hbv,⟨sb1,sn1,sp1,hc1,_⟩,⟨sb2,sn2,sp2,hc2,hd2'⟩,_⟩:=HCH.out Q7z;subst hApv;have HV2:=Q2 (show VIn W B Qn2 d2 p2 from ⟨sb2,sn2,sp2,rfl,hd2'⟩);have hrv:=hc2.range;have hcn:W.cell? ⟨bv0,ov0+1,none⟩=some (.int .i64 (j:Int)):=by rw[<- hj];exact hc1.2.1
 have hbvM:bv0∉wM g A xs.length c:=fun hm=>by
  rcases Z1.1 hm with e|e
  ·have:=H.out.hB;omega
  ·exact Q9B
 obtain⟨bp,op,x,hAp,hbp,hx,hcx⟩:=Q4F HRU.out.p hjp;subst hAp;have hbpM:bp∉wM g A xs.length c:=fun hm=>by
  rcases Z1.1 hm with e|e
  ·have:=H.out.hB;omega
  ·exact Q9B
 have hxk:0<=x/\x<F.length:=hpt x K4
 have HX:=Q2 (show RES=QD F x d2 p2 (n+2) by
  have h:=HL.out
  simp only at h
  rw[hj,Int.toNat_natCast,List.getD_eq_getElem?_getD,hx] at h
  exact h)
 simp only[QU] at hsz hno;have hsz1:xs.length+QH d2 p2<=1099511627776:=by unfold QH;omega
 have hno1:(n+1+1)+QH d2 p2<=1099511627776:=by unfold QH;omega
 clear hc1 hc2 hd2' hx;have e1:(n:Int)+1=((n+1:Nat):Int):=rfl;refine Q85 ?_;refine yl<|yn<|yq<|yr<|yo zF<|yo (zB 0)<|yl<|yn<|yb<|yq<|yr<|yo zef<|yo zA<|yl<|yn<|y0<|yq<|yq<|yr<|yo zef<|yo zA<|yl<|yn<|y0<|yr<|yo zef<|yo zA<|yl<|yn<|y0<|yq<|yr<|yo zef<|yo zA<|yl<|yn<|y0<|yq<|yr<|yo zef<|yo zA<|yl<|yn<|y0<|yq<|yr<|yo zef<|yo zA<|yl<|yn<|y0<|yq<|yr<|yo zef<|yo zA<|yl<|yn<|y0<|yq<|yr<|yo zef<|yo zA<|yl<|yn<|y0<|yq<|yr<|yo zet<|yo zA<|yl ?_;rw[e1];refine yn<|y1<|yq<|yr<|yo zM ?_;refine Q4 mc5 ?_;refine yo zF<|yo (zB 2)<|yo zP ?_;refine Q4 mc5 ?_;refine yo zF ?_;refine yS 2 ?_;refine yl<|yn ?_;have e2:((n+1:Nat):Int)+1=((n+1+1:Nat):Int):=rfl;rw[e2];refine Vb (B:=VJ RES (wM g A xs.length c) W) [.blk b6 Qvs,.blk b5 (.cells ([.int .i64 dk,.int .i64 dn,.slice Abv dbs.length cbv,.slice Anv dns.length cnv,.slice (some ⟨bv0,ov0,none⟩) (VF.cons d1 p1 (.cons d2 p2 .nil)).len cpv]:List Value).toArray 30 (0,0))] [14] Q5 ?_ ?_
 ·infer_instance
 refine XC 0 rfl Q5 VA zM ?_;refine XC 1 rfl Q5 VA zF ?_;refine XC 2 rfl Q5 VA (zB 0) ?_;refine XC 3 rfl Q5 VA zF ?_;refine XC 4 rfl Q5 VA (zB 1) ?_;refine XC 5 rfl Q5 VA Qp9 ?_;refine XC 6 rfl Q5 VA zF ?_;refine XC 7 rfl Q5 VA (Xq rfl rfl Q1 rfl rfl (fun w hw=>hw.cell_old hcn hbvM)) ?_;refine XC 8 rfl Q5 VA (zi1 (j:=j) (hj:=hjp)) ?_;refine XC 9 rfl Q5 VA (Xq rfl rfl Q1 rfl rfl (fun w hw=>hw.cell_old hcx hbpM)) ?_;refine XC 10 rfl Q5 VA zF ?_;refine XC 11 rfl Q5 VA (zB 1) ?_;refine XC 12 rfl Q5 VA (ZQ (j:=1) rfl rfl Q1 rfl rfl rfl (Nat.succ_lt_succ Q7z)) ?_;refine XC 13 rfl Q5 VA (Xs rfl rfl Q1 rfl rfl (fun w hw=>hw.range_old hrv hbvM) rfl) ?_;refine Q0I 14 Q5 rfl rfl (Xp _ _ _ rfl rfl rfl (fun w hw=>(HALL.out.2.1 HGP.out.2.2.1 HGP.out.2.2.2.1 HFP.out.2.2.2.1 HFP.out.2.2.2.2.2.1 HFP.out.2.2.2.2.1 w A c xs (n+1+1) x _ hxk QfN (HV2.out.below Q4w Xk) hsz1 hno1).mono (fun e w' h=>Q9v 2 3 Q1 hw rfl rfl (fun x hx=>HX.out.trans hx) h))) (fun i=>.inl Q1) rfl Q1 (fun y hy=>?_);refine Q91 ?_ Q5;obtain⟨uy,um,uA,uc⟩:=y;obtain⟨hz1,hz2,hz3⟩:=hy;replace hz2:uy.length<=QH d2 p2:=hz2;replace hz3:um<=n+1+1+QH d2 p2:=hz3;have HZ:=Q2 (show RES=.ok (uy,um) from HX.out.trans hz1);clear hz1;unfold QH at hz2 hz3;simp only[QU];refine yd ?_;exact Zc Yu rfl (fun w hw=>Yd H.out 2 3 (b:=uy) (m:=um) hw rfl rfl HZ.out Q3 Q3)
structure Qw where
 i:Nat
 l:VF
 uy:List UInt8
 m:Nat
 A:Option Addr
 c:Nat
 Ar:Option Addr
 cr:Nat
theorem Q2a{s:List UInt8}{l:List (List UInt8)}:Xa (s::l)=if s=[] then Xa l else s::Xa l:=by
 unfold Xa;by_cases h:s=[]
 ·rw[if_pos h,h];rfl
 ·rw[if_neg h,List.filter_cons_of_pos (by simpa using h)]
theorem Qwf(hall:VF.All (WvC z B g F) p)(hgp:Q3t p)(hfp:XU p)(hv:Fm F)(hk:0<=k/\k<F.length)(h:XV W z B g F A c xs n)(hval:VIn W B v d p)(hd1:d.bs.length<=1048576)(hd2:d.ns.length<=1048576)(hn0:QL d p.len=0)(hpl6:p.len<=1048576)(hsz:xs.length+QH d p<=1099511627776)(hno:n+QH d p<=1099511627776)(hfit:Xm F (Qg F k) d p=true)(hkind:(Qg F k).kind=7):
  Calls Tryz.prog 45 #[.pointer (some ⟨g,0,none⟩),.int .i64 k,v] W (WrE z g W A c xs (QD F k d p n) n (QH d p)):=by
 have H:=Q2 h;have HV0:=Q2 hv;have hwd:=h.wd;have hFn:=h.len;have hr:=hv.toUsd.rok hk;have hfc:=fun(w:World) (Ab An Ap:Option Addr) (cb cn cp:Nat) (hw:XV w z B g F A c xs n) (hru:RuB w B (Qg F k) Ab cb An cn Ap cp) (hval:VIn w B v d p)=>Q22 hw hv hk hru hval hd1 hd2
 rw[hfit] at hfc;obtain⟨RES,hres⟩:∃x,QD F k d p n=x:=⟨_,rfl⟩;have HVAL:=Q2 hval;have HALL:=Q2 hall;have HGP:=Q2 hgp;have HFP:=Q2 hfp;clear hall hgp hfp;have HK0:=Q2 (show (Qg F k).kind=7 from hkind);have hpn:p.len=(Xa (Qg F k).names).length:=by
  have hf:=hfit;rw[Qbb hkind,Bool.and_eq_true,beq_iff_eq,beq_iff_eq] at hf;rw[<- hf.2];exact((Qjh hn0).2.2.2.2 hf.1).symm
 have HL:=Q2 (show RES=Q1d F (Qg F k).names (Qg F k).parts p (n+1) by rw[<- hres];exact QkB hfit hkind (hr.seven hkind).1 hpn);have hse:=hr.seven hkind;have hp12:=hr.p12;have hpt:=hr.parts KY;rw[hres];obtain⟨Af,nn,cf⟩:=z;simp only at hFn;obtain⟨bf,of,haf,_⟩:=h.fm.2 Vf;simp only at haf;subst haf;obtain⟨hbB,Ab,cb,An,cn,Ap,cp,hrg,hru⟩:=h.fm.ruleB (k:=k) Jx;have hbM:bf∉wM g A xs.length c:=fun hm=>by
  rcases Z1.1 hm with e|e
  ·exact Vu
  ·exact Q0w
 have hkn:0<=k/\k<(nn:Int):=by omega
 have hBW:B<=W.heap.size:=by have:=h.hB;have:=h.lt;omega
 replace hfc:=fun(w:World) (hw:XV w _ B g F A c xs n) (hr:RuB w B (Qg F k) Ab cb An cn Ap cp) (hvl:VIn w B v d p)=>hfc w Ab An Ap cb cn cp hw hr hvl
 clear h;obtain⟨r,er⟩:∃r,Qg F k=r:=⟨_,rfl⟩;rw[er] at hr hrg hru hfc HK0 HL hpn hse hp12 hpt;clear er hfit;obtain⟨sb,sn,sp,rfl,Abv,nb,cbv,Anv,nnv,cnv,Apv,cpv,rfl,rfl,rfl,hnb,hnn,hpl,hcm,hrb,hrn,hch⟩:=hval;have hnbl:d.bs.length=nb:=by have:=hrb.len;rw[X5] at this;exact this
 have hnnl:d.ns.length=nnv:=by have:=hrn.len;rw[XQ] at this;exact this
 subst hnbl hnnl;have HRB:=Q2 hrb;have HCH:=Q2 hch;have HRU:=Q2 hru;have HRK:=Q2 hr;have HD:=Q2 (Eq.refl d);obtain⟨dk,dn,dbs,dns⟩:=d;simp only[QH] at hsz hno hd1 hd2 hnb hnn ⊢;clear hrb hrn hch hru hv;obtain⟨name,kind,bs,size,big,mn,mx,stop,count,elem,names,parts⟩:=r;simp only[ruC] at hr hrg hfc HK0;have HFC:=Q2 hfc;have HRUB:=Q2 (show Rd W B 1 Ab bs.length (bv bs) from HRU.out.b);clear hfc;go_enter Tryz.func45,Tryz.ntmps45;haveI:Pan (bodyPost Tryz.prog Tryz.f45 (WrE ⟨some ⟨bf,of,none⟩,nn,cf⟩ g W A c xs RES n (300+dbs.length+QU p))) (VJ RES (wM g A xs.length c) W):=Pan.body fun ch w' ⟨x,h1,h2,h3⟩=>J6
 refine Qs (M:=wM g A xs.length c) (W:=W) (N:=223) (E:=[(0,.pointer (some ⟨g,0,none⟩)),(1,.int .i64 k),(2,.agg [.int .i64 dk,.int .i64 dn,.slice Abv dbs.length cbv,.slice Anv dns.length cnv,.slice Apv p.len cpv].toArray)]) (O:=[.blk g (.cells ([.slice (some ⟨bf,of,none⟩) nn cf,.slice A xs.length c,.int .i64 (n:Int)]:List Value).toArray 77 (0,0)),.row A xs.length c 5 1 (bv xs)]) ?_ Z0 hwd;clear hwd;refine yq<|yr ?_;refine yB fun b5=>?_;refine Q0y ?_;refine yA fun b6=>?_;refine Q1M ?_;have hkd:kind=7:=HK0.out;subst hkd;replace hse:names.length=parts.length/\1<=parts.length:=hse;replace hp12:parts.length<=12:=hp12;replace hpn:p.len=(Xa names).length:=hpn;have HPT:=Q2 (show ∀x∈parts,0<=x/\x<(F.length:Int) from hpt);have HRP:=Q2 (show Rd W B 1 Ap parts.length (iv parts) from HRU.out.p);have HRN:=Q2 (show Rd W B 1 An names.length (sv names) from HRU.out.n);obtain⟨CP,hCP⟩:∃CP,QU p=CP:=⟨_,rfl⟩;have HCP:=Q2 hCP;have HPN:=Q2 hpn;rw[hCP] at hsz hno;have HS0:=Q2 (show RES=apW [] (Q1d F (names.drop 0) (parts.drop 0) p (n+1)) by rw[V7];exact HL.out);have hpl0:=hpl;have hfar:∀b,b<B->b∉wM g A xs.length c:=fun b hb hm=>by
  rcases Z1.1 hm with e|e
  ·have:=H.out.hB;omega
  ·exact Q9B
 clear hpt hCP hpn;have e1:(n:Int)+1=((n+1:Nat):Int):=rfl;refine Q85 ?_;refine yl<|yn<|yq<|yr<|yo zF<|yo (zB 0)<|yl<|yn<|yb<|yq<|yr<|yo zef<|yo zA<|yl<|yn<|y0<|yq<|yq<|yr<|yo zef<|yo zA<|yl<|yn<|y0<|yr<|yo zef<|yo zA<|yl<|yn<|y0<|yq<|yr<|yo zef<|yo zA<|yl<|yn<|y0<|yq<|yr<|yo zef<|yo zA<|yl<|yn<|y0<|yq<|yr<|yo zef<|yo zA<|yl<|yn<|y0<|yq<|yr<|yo zef<|yo zA<|yl<|yn<|y0<|yq<|yr<|yo zef<|yo zA<|yl<|yn<|y0<|yq<|yr<|yo zef<|yo zA<|yl<|yn<|y0<|yq<|yr<|yo zet<|yo zA<|yl ?_;rw[e1];refine yn<|y1<|yq<|yr<|yo zF<|yo (zB 1)<|yo zA<|yl<|yn<|yq<|yr<|yo zF<|yo (zB 0)<|yo zL<|yo zM<|yl<|yn<|yb ?_;refine X8 (ι:=Qw) (fun y=>VF.All (WvC ⟨some ⟨bf,of,none⟩,nn,cf⟩ B g F) y.l/\Q3t y.l/\XU y.l/\(0<y.l.len->∃b o,y.Ar=some ⟨b,o,none⟩/\b<B/\FIn W B y.l b o)/\y.i<=parts.length/\y.l.len=(Xa (names.drop y.i)).length/\RES=apW y.uy (Q1d F (names.drop y.i) (parts.drop y.i) y.l y.m)/\y.uy.length+QU y.l<=CP+16*y.i/\y.m+QU y.l<=n+1+CP/\y.l.len<=y.cr) (fun y=>parts.length - y.i) (fun y=>[(0,.pointer Q54),(6,.pointer (some ⟨b6,0,none⟩)),(7,.slice y.Ar y.l.len y.cr),(184,.slice Ap parts.length cp),(185,.int .i64 (parts.length:Int)),(186,.int .i64 (y.i:Int))]) (fun y=>[.blk b6 (.cells (QuL:List Value).toArray 65 (0,0)),.blk g (.cells ([.slice (some ⟨bf,of,none⟩) nn cf,.slice y.A (xs++y.uy).length y.c,.int .i64 (y.m:Int)]:List Value).toArray 77 (0,0)),.row y.A (xs++y.uy).length y.c 5 1 (bv (xs++y.uy))]) ⟨0,p,[],n+1,A,c,Apv,cpv⟩ ⟨HALL.out,HGP.out,HFP.out,HCH.out,Nat.zero_le _,HPN.out,HS0.out,by show 0+QU p<=CP+16*0;rw[HCP.out];omega,by show n+1+QU p<=n+1+CP;rw[HCP.out];omega,hpl0⟩ Qdu (fun w hw=>?_) ?_
 ·simp only[List.append_nil]
  exact hw.sel [0,2,3] Q1
 rintro⟨i,l,uy,m,A',c',Ar,cr⟩ ⟨hall,hgl,hfl,hch,hi,hln,hres,hy,hm,hcr⟩;replace hi:i<=parts.length:=hi;replace hy:uy.length+QU l<=CP+16*i:=hy;replace hm:m+QU l<=n+1+CP:=hm;replace hcr:l.len<=cr:=hcr;have HLN:=Q2 (show l.len=(Xa (names.drop i)).length from hln);have HR:=Q2 (show RES=apW uy (Q1d F (names.drop i) (parts.drop i) l m) from hres);have HAL:=Q2 (show VF.All (WvC ⟨some ⟨bf,of,none⟩,nn,cf⟩ B g F) l from hall);have HGL:=Q2 (show Q3t l from hgl);have HFL:=Q2 (show XU l from hfl);have HCL:=Q2 (show 0<l.len->∃b o,Ar=some ⟨b,o,none⟩/\b<B/\FIn W B l b o from hch);clear hall hgl hfl hch hres hln;show sE _ _ _ _ _ [(0,.pointer Q54),(6,.pointer (some ⟨b6,0,none⟩)),(7,.slice Ar l.len cr),(184,.slice Ap parts.length cp),(185,.int .i64 (parts.length:Int)),(186,.int .i64 (i:Int))] [.blk b6 (.cells (QuL:List Value).toArray 65 (0,0)),.blk g (.cells ([.slice (some ⟨bf,of,none⟩) nn cf,.slice A' (xs++uy).length c',.int .i64 (m:Int)]:List Value).toArray 77 (0,0)),.row A' (xs++uy).length c' 5 1 (bv (xs++uy))] _;by_cases hlt:i<parts.length
 case neg=>
  have HZ:=Q2 (show RES=.ok (uy,m) by
   rw[HR.out,List.drop_of_length_le (l:=parts) Q3,List.drop_of_length_le (l:=names) Q3]
   show Except.ok (uy++[],m)=_
   rw[List.append_nil])
  have hz1:uy.length<=300+dbs.length+QU p:=by rw[HCP.out];omega
  have hz2:m<=n+(300+dbs.length+QU p):=by rw[HCP.out];omega
  refine yq<|yr<|yo zlf<|yl<|yn<|yq<|y0<|ye<|yx<|yx<|yu<|yd ?_;exact Zc Yu rfl (fun w hw=>Yd H.out 1 2 (b:=uy) hw rfl rfl HZ.out hz1 hz2)
 case pos=>
  obtain⟨bp,op,x,rfl,hbp,hx,hcx⟩:=Q4F HRP.out hlt;obtain⟨bm,om,s,rfl,hbm,hs,hcs⟩:=VI HRN.out (show i<names.length by omega);have hxk:=HPT.out x K4;have hbpM:=hfar bp hbp;have hbmM:=hfar bm hbm
  have HR2:=Q2 (show RES=apW uy (Q1d F (s.data.toList::names.drop (i+1)) (x::parts.drop (i+1)) l m) by
   have h:=HR.out;rw[YU hx,YU hs] at h
   exact h)
  have HLN2:=Q2 (show l.len=(Xa (s.data.toList::names.drop (i+1))).length by
   have h:=HLN.out;rw[YU hs] at h
   exact h)
  clear hx hs;by_cases hz:s.data.toList=[]
  ·have hst:(s.data.toList==(⟨#[]⟩:ByteArray).data.toList)=true:=by rw[hz];rfl
   obtain⟨hbB2,Ab2,cb2,An2,cn2,Ap2,cp2,hrg2,hru2⟩:=H.out.fm.ruleB (k:=x) (by simp only;exact⟨hxk.1,by rw[<- hFn];exact hxk.2⟩);have hxn:0<=x/\x<(nn:Int):=⟨hxk.1,by rw[<- hFn];exact hxk.2⟩;have hb16:=(HV0.out.toUsd.rok hxk).bs16;obtain⟨r2,er2⟩:∃r,Qg F x=r:=⟨_,rfl⟩
   have HN0:=Q2 (show RES=apW (uy++r2.bs) (Q1d F (names.drop (i+1)) (parts.drop (i+1)) l m) by
    rw[HR2.out,Q3Q,if_pos hz,er2,Q3j])
   rw[er2] at hrg2 hru2 hb16;have HRB2:=Q2 (show Rd W B 1 Ab2 r2.bs.length (bv r2.bs) from hru2.b);clear hru2 er2;obtain⟨us,hzs⟩:∃us,r2.bs=us:=⟨_,rfl⟩;simp only[ruC,hzs] at hrg2;rw[hzs] at hb16 HN0 HRB2;have hc2:W.cell? ⟨bf,of+x.toNat*12+2,none⟩=some (.slice Ab2 us.length cb2):=hrg2 2 _ rfl;clear hrg2 hzs;have hl1:(xs++uy).length+us.length=(xs++(uy++us)).length:=by simp only[List.length_append];omega
   have hb1:bv (xs++uy)++bv us=bv (xs++(uy++us)):=by unfold bv;simp
   have hbnd:(xs++uy).length<=1099511627776+16*i:=by rw[List.length_append];omega
   refine Qtn ?_;refine yl<|yn<|y1<|yq ?_;refine Z7 [.blk g (.cells ([.slice (some ⟨bf,of,none⟩) nn cf,.slice A' (xs++uy).length c',.int .i64 (m:Int)]:List Value).toArray 77 (0,0))] [17] Q5 ?_;refine Qn 0 rfl Q5 Vn zM ?_;refine Qn 1 rfl Q5 Vn zM ?_;refine Qn 2 rfl Q5 Vn mc5 ?_;refine Qn 3 rfl Q5 Vn zF ?_;refine Qn 4 rfl Q5 Vn (zB 0) ?_;refine Qn 5 rfl Q5 Vn zM ?_;refine Qn 6 rfl Q5 Vn mc5 ?_;refine Qn 7 rfl Q5 Vn zF ?_;refine Qn 8 rfl Q5 Vn zF ?_;refine Qn 9 rfl Q5 Vn (zB 0) ?_;refine Qn 10 rfl Q5 Vn zM ?_;refine Qn 11 rfl Q5 Vn Q8l ?_;refine Qn 12 rfl Q5 Vn zF ?_;refine Qn 13 rfl Q5 Vn (Xq rfl rfl Q1 rfl rfl (fun w hw=>hw.cell_old hc2 hbM)) ?_;refine QS 14 Q5 rfl rfl (Z8 2 rfl rfl rfl rfl rfl (fun w hw=>(HRB2.out.below Q4w).more Q96) (Jg _) Q3) (fun _=>.inr Vn) rfl Q1 (fun z1 _=>?_);rw[hl1,hb1];refine Qn 15 rfl Q5 Vn mc5 ?_;refine Qn 16 rfl Q5 Vn zF ?_;refine QI 17 Q5 rfl rfl QgK (fun _=>.inl Q1) rfl (fun _ _=>?_);refine Xu ?_ Q5;refine yn<|ye<|yn<|yr<|yo zP<|yo zM<|yl ?_;refine Qr ⟨i+1,l,uy++us,m,z1.1,z1.2,Ar,cr⟩ ⟨HAL.out,HGL.out,HFL.out,HCL.out,hlt,by show l.len=(Xa (names.drop (i+1))).length;rw[HLN2.out,Q2a,if_pos hz],HN0.out,by show (uy++us).length+QU l<=CP+16*(i+1);rw[List.length_append];omega,hm,hcr⟩ QbW QbU Zk
  ·have hst:(s.data.toList==(⟨#[]⟩:ByteArray).data.toList)=false:=beq_eq_false_iff_ne.2 hz
   cases l with
   |nil=>
    have h:=HLN2.out;rw[Q2a,if_neg hz] at h;simp [VF.len] at h
   |cons d1 p1 r1=>
    obtain⟨bq,oq,hAr,hbq,⟨sb1,sn1,sp1,hc5,hd5⟩,hrest⟩:=HCL.out Q7z;subst hAr;have HV1:=Q2 (show VIn W B (.agg #[.int .i64 d1.k,.int .i64 d1.n,sb1,sn1,sp1]) d1 p1 from ⟨sb1,sn1,sp1,rfl,hd5⟩);have hrgv:=hc5.range;have HRS:=Q2 hrest;have hbqM:=hfar bq hbq;clear hc5 hd5 hrest;simp only[QU] at hy hm;have hlen1:(VF.cons d1 p1 r1).len=r1.len+1:=rfl;rw[hlen1] at hcr ⊢;have hsz1:(xs++uy).length+QH d1 p1<=1099511627776:=by rw[List.length_append];unfold QH;omega
    have hno1:m+QH d1 p1<=1099511627776:=by unfold QH;omega
    have HR3:=Q2 (show RES=apW uy (bnW (QD F x d1 p1 m) fun m=>Q1d F (names.drop (i+1)) (parts.drop (i+1)) r1 m) by
     rw[HR2.out,Q3Q,if_neg hz])
    refine Qtn ?_;refine yl<|yn<|y0<|ys<|yn<|yq<|yr<|yo zM<|yo zM<|yo zM ?_;refine Q4 Qp9 ?_;refine Q4 (Xs rfl rfl Q1 rfl rfl (fun w hw=>hw.range_old hrgv hbqM) rfl) ?_;refine ZP (Xp _ _ _ rfl rfl rfl (fun w hw=>(HAL.out.1 HGL.out.1 HGL.out.2.1 HFL.out.1 HFL.out.2.2.1 HFL.out.2.1 w A' c' (xs++uy) m x _ hxk (H.out.nextW hw 1 2 rfl rfl) (HV1.out.below Q4w Xk) hsz1 hno1).mono (fun e w' h=>Q9v 1 2 Q1 hw rfl rfl (fun x hx=>by rw[HR3.out,hx];rfl) h))) rfl Q1 (fun y hy2=>?_);refine yl ?_;obtain⟨ub,um,uA,uc⟩:=y;obtain⟨hy3,hy4,hy5⟩:=hy2;replace hy3:QD F x d1 p1 m=.ok (ub,um):=hy3;replace hy4:ub.length<=QH d1 p1:=hy4;replace hy5:um<=m+QH d1 p1:=hy5;have HN:=Q2 (show RES=apW (uy++ub) (Q1d F (names.drop (i+1)) (parts.drop (i+1)) r1 um) by rw[HR3.out,hy3,Qln,Q3j]);clear hy3;unfold QH at hy4 hy5;refine yn<|yr<|yo zM ?_;refine Q4 (Q3F (l:=1) rfl rfl Q1 rfl rfl rfl Q3) ?_;refine QaG ?_
    refine Qr ⟨i+1,r1,uy++ub,um,uA,uc,ZX (some ⟨bq,oq,none⟩) cr 1 5,cr - 1⟩ ⟨HAL.out.2,HGL.out.2.2,HFL.out.2.2.2,fun h0=>⟨bq,oq+5,by show ZX _ cr 1 5=_;unfold ZX;rw[if_neg (by have:0<r1.len:=h0;omega)];rfl,hbq,HRS.out⟩,hlt,by
     show r1.len=(Xa (names.drop (i+1))).length
     have h:=HLN2.out;rw[Q2a,if_neg hz] at h
     simp only[VF.len,List.length_cons] at h
     omega,HN.out,by show (uy++ub).length+QU r1<=CP+16*(i+1);rw[List.length_append];omega,by show um+QU r1<=n+1+CP;omega,by show r1.len<=cr - 1;omega⟩ QbW QbU (fun w hw=>?_)
    simp only[<- List.append_assoc];exact hw
end
end Go.Proofs.YtphkhfdmlcnoeaaGreatDoor
