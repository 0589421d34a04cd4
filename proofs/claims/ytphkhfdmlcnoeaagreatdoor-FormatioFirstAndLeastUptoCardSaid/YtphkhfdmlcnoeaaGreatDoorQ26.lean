import Derived.Test.YtphkhfdmlcnoeaaGreatDoorQ24
namespace Go.Proofs.YtphkhfdmlcnoeaaGreatDoor
set_option linter.unusedVariables false
set_option linter.unusedSimpArgs false
set_option maxRecDepth 1000000
set_option maxHeartbeats 32000000
open Go.RowKit
section
variable {W w w':World}{z:Wz}{B g c n:Nat}{F:List Rl}{A:Option Addr}{xs:List UInt8}{k:Int}{d:Nd}{p:VF}{v:Value}
theorem Qwl(hall:VF.All (WvC z B g F) p)(hgp:Q33 p)(hfp:ZV p)(hv:Fm F)(hk:0<=k/\k<F.length)(h:Z6 W z B g F A c xs n)(hval:VIn W B v d p)(hd1:d.bs.length<=1048576)(hd2:d.ns.length<=1048576)(hn0:Xu d p.len=0)(hpl6:p.len<=1048576)(hsz:xs.length+QK d p<=1099511627776)(hno:n+QK d p<=1099511627776)(hfit:XB F (Qj F k) d p=true)(hkind:(Qj F k).kind=8):
  Calls Tryz.prog 45 #[.pointer (some ⟨g,0,none⟩),.int .i64 k,v] W (WrE z g W A c xs (QD F k d p n) n (QK d p)):=by
 have hF8:=Q5w (F:=F) (d:=d) (p:=p) hkind;rw[hfit] at hF8;replace hF8:=hF8.symm;simp only[Bool.and_eq_true,beq_iff_eq,decide_eq_true_iff] at hF8;obtain⟨⟨⟨⟨_,h2⟩,h3⟩,h4⟩,h5⟩:=hF8;obtain⟨d1,p1,d2,p2,rfl⟩:∃d1 p1 d2 p2,p=.cons d1 p1 (.cons d2 p2 .nil):=by
  cases p with
  |nil=>cases h2
  |cons d1 p1 r=>
   cases r with
   |nil=>cases h2
   |cons d2 p2 r=>
    cases r with
    |nil=>exact⟨d1,p1,d2,p2,rfl⟩
    |cons d3 p3 r=>simp [VF.len] at h2
 clear h2;simp only[VF.hdN] at h3 h4 h5;have H:=Q3 h;have HV0:=Q3 hv;have hwd:=h.wd;have hFn:=h.len;have hr:=hv.toUsd.rok hk;have hfc:=fun(w:World) (Ab An Ap:Option Addr) (cb cn cp:Nat) (hw:Z6 w z B g F A c xs n) (hru:RuB w B (Qj F k) Ab cb An cn Ap cp) (hval:VIn w B v d (.cons d1 p1 (.cons d2 p2 .nil)))=>Q2a hw hv hk hru hval hd1 hd2
 rw[hfit] at hfc;obtain⟨RES,hres⟩:∃x,QD F k d (.cons d1 p1 (.cons d2 p2 .nil)) n=x:=⟨_,rfl⟩;have HVAL:=Q3 hval;have HALL:=Q3 hall;have HGP:=Q3 hgp;have HFP:=Q3 hfp;clear hall hgp hfp;have HK0:=Q3 (show (Qj F k).kind=8 from hkind);have HL:=Q3 (show RES=QD F ((Qj F k).parts.getD d1.n.toNat 0) d2 p2 (n+2) by rw[<- hres];exact Qoa hfit hkind);have hpt:=hr.parts Q0r;rw[hres];obtain⟨Af,nn,cf⟩:=z;simp only at hFn;obtain⟨bf,of,haf,_⟩:=h.fm.2 Y0;simp only at haf;subst haf;obtain⟨hbB,Ab,cb,An,cn,Ap,cp,hrg,hru⟩:=h.fm.ruleB (k:=k) Va;have hbM:bf∉wM g A xs.length c:=fun hm=>by
  rcases Zh.1 hm with e|e
  ·exact Yg
  ·exact Q1x
 have hkn:0<=k/\k<(nn:Int):=by omega
 have hBW:B<=W.heap.size:=by have:=h.hB;have:=h.lt;omega
 replace hfc:=fun(w:World) (hw:Z6 w _ B g F A c xs n) (hr:RuB w B (Qj F k) Ab cb An cn Ap cp) (hvl:VIn w B v d (.cons d1 p1 (.cons d2 p2 .nil)))=>hfc w Ab An Ap cb cn cp hw hr hvl
 clear h;obtain⟨r,er⟩:∃r,Qj F k=r:=⟨_,rfl⟩;rw[er] at hr hrg hru hfc HK0 HL hpt h5;clear er hfit;obtain⟨sb,sn,sp,rfl,Abv,nb,cbv,Anv,nnv,cnv,Apv,cpv,rfl,rfl,rfl,hnb,hnn,hpl,hcm,hrb,hrn,hch⟩:=hval;have hnbl:d.bs.length=nb:=by have:=hrb.len;rw[XD] at this;exact this
 have hnnl:d.ns.length=nnv:=by have:=hrn.len;rw[Z8] at this;exact this
 subst hnbl hnnl;have HRB:=Q3 hrb;have HCH:=Q3 hch;have HRU:=Q3 hru;have HRK:=Q3 hr;have HD:=Q3 (Eq.refl d);obtain⟨dk,dn,dbs,dns⟩:=d;simp only[QK] at hsz hno hd1 hd2 hnb hnn ⊢;clear hrb hrn hch hru hv;obtain⟨name,kind,bs,size,big,mn,mx,stop,count,elem,names,parts⟩:=r;simp only[ruC] at hr hrg hfc HK0;have HFC:=Q3 hfc;have HRUB:=Q2b;clear hfc;go_enter Tryz.func45,Tryz.ntmps45;haveI:Pan (bodyPost Tryz.prog Tryz.f45 (WrE ⟨some ⟨bf,of,none⟩,nn,cf⟩ g W A c xs RES n (300+dbs.length+X0 (VF.cons d1 p1 (.cons d2 p2 .nil))))) (VV RES (wM g A xs.length c) W):=Pan.body fun ch w' ⟨x,h1,h2,h3⟩=>JF
 refine Qy (M:=wM g A xs.length c) (W:=W) (N:=223) (E:=[J9,Q3C,(2,.agg [.int .i64 dk,.int .i64 dn,.slice Abv dbs.length cbv,.slice Anv dns.length cnv,.slice Apv (VF.cons d1 p1 (.cons d2 p2 .nil)).len cpv].toArray)]) (O:=Q7B) ?_ Ze hwd;clear hwd;refine yq<|yr ?_;refine yB fun b5=>?_;refine Q1n ?_;refine yA fun b6=>?_;refine Q36 ?_;have hkd:kind=8:=HK0.out;subst hkd;replace h5:d1.n<(parts.length:Int):=h5;obtain⟨j,hj⟩:∃j:Nat,d1.n=(j:Int):=⟨d1.n.toNat,by omega⟩;have hjp:j<parts.length:=by omega
 obtain⟨bv0,ov0,hApv,hbv,⟨sb1,sn1,sp1,hc1,_⟩,⟨sb2,sn2,sp2,hc2,hd2'⟩,_⟩:=HCH.out Q7U;subst hApv;have HV2:=Q3 (show VIn W B Qou d2 p2 from ⟨sb2,sn2,sp2,rfl,hd2'⟩);have hrv:=hc2.range;have hcn:W.cell? ⟨bv0,ov0+1,none⟩=some (.int .i64 (j:Int)):=by rw[<- hj];exact hc1.2.1
 have hbvM:bv0∉wM g A xs.length c:=fun hm=>by
  rcases Zh.1 hm with e|e
  ·have:=H.out.hB;omega
  ·exact Qf0
 obtain⟨bp,op,x,hAp,hbp,hx,hcx⟩:=Q1P HRU.out.p hjp;subst hAp;have hbpM:bp∉wM g A xs.length c:=fun hm=>by
  rcases Zh.1 hm with e|e
  ·have:=H.out.hB;omega
  ·exact Qf0
 have hxk:0<=x/\x<F.length:=hpt x Q0G
 have HX:=Q3 (show RES=QD F x d2 p2 (n+2) by
  have h:=HL.out
  simp only at h
  rw[hj,Int.toNat_natCast,List.getD_eq_getElem?_getD,hx] at h
  exact h)
 simp only[X0] at hsz hno;have hsz1:xs.length+QK d2 p2<=1099511627776:=by unfold QK;omega
 have hno1:(n+1+1)+QK d2 p2<=1099511627776:=by unfold QK;omega
 clear hc1 hc2 hd2' hx;have e1:(n:Int)+1=((n+1:Nat):Int):=rfl;refine Q9A ?_;refine yl<|yn<|yq<|yr<|yo zF<|yo (zB 0)<|yl<|yn<|yb<|yq<|yr<|yo zef<|yo zA<|yl<|yn<|y0<|yq<|yq<|yr<|yo zef<|yo zA<|yl<|yn<|y0<|yr<|yo zef<|yo zA<|yl<|yn<|y0<|yq<|yr<|yo zef<|yo zA<|yl<|yn<|y0<|yq<|yr<|yo zef<|yo zA<|yl<|yn<|y0<|yq<|yr<|yo zef<|yo zA<|yl<|yn<|y0<|yq<|yr<|yo zef<|yo zA<|yl<|yn<|y0<|yq<|yr<|yo zef<|yo zA<|yl<|yn<|y0<|yq<|yr<|yo zet<|yo zA<|yl ?_;rw[e1];refine yn<|y1<|yq<|yr<|yo zM ?_;refine Q4 mc5 ?_;refine yo zF<|yo (zB 2)<|yo zP ?_;refine Q4 mc5 ?_;refine yo zF ?_;refine yS 2 ?_;refine yl<|yn ?_;have e2:((n+1:Nat):Int)+1=((n+1+1:Nat):Int):=rfl;rw[e2];refine VE (B:=VV RES (wM g A xs.length c) W) [.blk b6 QvH,.blk b5 (.cells ([.int .i64 dk,.int .i64 dn,.slice Abv dbs.length cbv,.slice Anv dns.length cnv,.slice (some ⟨bv0,ov0,none⟩) (VF.cons d1 p1 (.cons d2 p2 .nil)).len cpv]:List Value).toArray 30 (0,0))] [14] Q5 ?_ ?_
 ·infer_instance
 refine XS 0 rfl Q5 VN zM ?_;refine XS 1 rfl Q5 VN zF ?_;refine XS 2 rfl Q5 VN (zB 0) ?_;refine XS 3 rfl Q5 VN zF ?_;refine XS 4 rfl Q5 VN (zB 1) ?_;refine XS 5 rfl Q5 VN Qu0 ?_;refine XS 6 rfl Q5 VN zF ?_;refine XS 7 rfl Q5 VN (QP rfl rfl Q1 rfl rfl (fun w hw=>hw.cell_old hcn hbvM)) ?_;refine XS 8 rfl Q5 VN (zi1 (j:=j) (hj:=hjp)) ?_;refine XS 9 rfl Q5 VN (QP rfl rfl Q1 rfl rfl (fun w hw=>hw.cell_old hcx hbpM)) ?_;refine XS 10 rfl Q5 VN zF ?_;refine XS 11 rfl Q5 VN (zB 1) ?_;refine XS 12 rfl Q5 VN (QM (j:=1) rfl rfl Q1 rfl rfl rfl (Nat.succ_lt_succ Q7U)) ?_;refine XS 13 rfl Q5 VN (QV rfl rfl Q1 rfl rfl (fun w hw=>hw.range_old hrv hbvM) rfl) ?_;refine Q0y 14 Q5 rfl rfl (XE _ _ _ rfl rfl rfl (fun w hw=>(HALL.out.2.1 HGP.out.2.2.1 HGP.out.2.2.2.1 HFP.out.2.2.2.1 HFP.out.2.2.2.2.2.1 HFP.out.2.2.2.2.1 w A c xs (n+1+1) x _ hxk Qe8 (HV2.out.below Q8m XU) hsz1 hno1).mono (fun e w' h=>Q83 2 3 Q1 hw rfl rfl (fun x hx=>HX.out.trans hx) h))) (fun i=>.inl Q1) rfl Q1 (fun y hy=>?_);refine Q89 ?_ Q5;obtain⟨uy,um,uA,uc⟩:=y;obtain⟨hz1,hz2,hz3⟩:=hy;replace hz2:uy.length<=QK d2 p2:=hz2;replace hz3:um<=n+1+1+QK d2 p2:=hz3;have HZ:=Q3 (show RES=.ok (uy,um) from HX.out.trans hz1);clear hz1;unfold QK at hz2 hz3;simp only[X0];refine yd ?_;exact Zc Yh rfl (fun w hw=>Ye H.out 2 3 (b:=uy) (m:=um) hw rfl rfl HZ.out Q2 Q2)
structure Qw where
 i:Nat
 l:VF
 uy:List UInt8
 m:Nat
 A:Option Addr
 c:Nat
 Ar:Option Addr
 cr:Nat
theorem Q2w{s:List UInt8}{l:List (List UInt8)}:QE (s::l)=if s=[] then QE l else s::QE l:=by
 unfold QE;by_cases h:s=[]
 ·rw[if_pos h,h];rfl
 ·rw[if_neg h,List.filter_cons_of_pos (by simpa using h)]
theorem QwO(hall:VF.All (WvC z B g F) p)(hgp:Q33 p)(hfp:ZV p)(hv:Fm F)(hk:0<=k/\k<F.length)(h:Z6 W z B g F A c xs n)(hval:VIn W B v d p)(hd1:d.bs.length<=1048576)(hd2:d.ns.length<=1048576)(hn0:Xu d p.len=0)(hpl6:p.len<=1048576)(hsz:xs.length+QK d p<=1099511627776)(hno:n+QK d p<=1099511627776)(hfit:XB F (Qj F k) d p=true)(hkind:(Qj F k).kind=7):
  Calls Tryz.prog 45 #[.pointer (some ⟨g,0,none⟩),.int .i64 k,v] W (WrE z g W A c xs (QD F k d p n) n (QK d p)):=by
 have H:=Q3 h;have HV0:=Q3 hv;have hwd:=h.wd;have hFn:=h.len;have hr:=hv.toUsd.rok hk;have hfc:=fun(w:World) (Ab An Ap:Option Addr) (cb cn cp:Nat) (hw:Z6 w z B g F A c xs n) (hru:RuB w B (Qj F k) Ab cb An cn Ap cp) (hval:VIn w B v d p)=>Q2a hw hv hk hru hval hd1 hd2
 rw[hfit] at hfc;obtain⟨RES,hres⟩:∃x,QD F k d p n=x:=⟨_,rfl⟩;have HVAL:=Q3 hval;have HALL:=Q3 hall;have HGP:=Q3 hgp;have HFP:=Q3 hfp;clear hall hgp hfp;have HK0:=Q3 (show (Qj F k).kind=7 from hkind);have hpn:p.len=(QE (Qj F k).names).length:=by
  have hf:=hfit;rw[Q9w hkind,Bool.and_eq_true,beq_iff_eq,beq_iff_eq] at hf;rw[<- hf.2];exact((QiM hn0).2.2.2.2 hf.1).symm
 have HL:=Q3 (show RES=Q1a F (Qj F k).names (Qj F k).parts p (n+1) by rw[<- hres];exact Qmk hfit hkind (hr.seven hkind).1 hpn);have hse:=hr.seven hkind;have hp12:=hr.p12;have hpt:=hr.parts (.inl hkind);rw[hres];obtain⟨Af,nn,cf⟩:=z;simp only at hFn;obtain⟨bf,of,haf,_⟩:=h.fm.2 (show 0<nn by omega);simp only at haf;subst haf;obtain⟨hbB,Ab,cb,An,cn,Ap,cp,hrg,hru⟩:=h.fm.ruleB (k:=k) (by simp only;omega);have hbM:bf∉wM g A xs.length c:=fun hm=>by
  rcases Zh.1 hm with e|e
  ·have:=h.hB;omega
  ·have:=(h.far _ e).1;omega
 have hkn:0<=k/\k<(nn:Int):=by omega
 have hBW:B<=W.heap.size:=by have:=h.hB;have:=h.lt;omega
 replace hfc:=fun(w:World) (hw:Z6 w _ B g F A c xs n) (hr:RuB w B (Qj F k) Ab cb An cn Ap cp) (hvl:VIn w B v d p)=>hfc w Ab An Ap cb cn cp hw hr hvl
 clear h;obtain⟨r,er⟩:∃r,Qj F k=r:=⟨_,rfl⟩;rw[er] at hr hrg hru hfc HK0 HL hpn hse hp12 hpt;clear er hfit;obtain⟨sb,sn,sp,rfl,Abv,nb,cbv,Anv,nnv,cnv,Apv,cpv,rfl,rfl,rfl,hnb,hnn,hpl,hcm,hrb,hrn,hch⟩:=hval;have hnbl:d.bs.length=nb:=by have:=hrb.len;rw[XD] at this;exact this
 have hnnl:d.ns.length=nnv:=by have:=hrn.len;rw[Z8] at this;exact this
 subst hnbl hnnl;have HRB:=Q3 hrb;have HCH:=Q3 hch;have HRU:=Q3 hru;have HRK:=Q3 hr;have HD:=Q3 (Eq.refl d);obtain⟨dk,dn,dbs,dns⟩:=d;simp only[QK] at hsz hno hd1 hd2 hnb hnn ⊢;clear hrb hrn hch hru hv;obtain⟨name,kind,bs,size,big,mn,mx,stop,count,elem,names,parts⟩:=r;simp only[ruC] at hr hrg hfc HK0;have HFC:=Q3 hfc;have HRUB:=Q3 (show Rd W B 1 Ab bs.length (bv bs) from HRU.out.b);clear hfc;go_enter Tryz.func45,Tryz.ntmps45;haveI:Pan (bodyPost Tryz.prog Tryz.f45 (WrE ⟨some ⟨bf,of,none⟩,nn,cf⟩ g W A c xs RES n (300+dbs.length+X0 p))) (VV RES (wM g A xs.length c) W):=Pan.body fun ch w' ⟨x,h1,h2,h3⟩=>⟨h3,.inl ⟨x,h1,by rw[h2]⟩⟩
 refine Qy (M:=wM g A xs.length c) (W:=W) (N:=223) (E:=[(0,.pointer (some ⟨g,0,none⟩)),(1,.int .i64 k),(2,.agg [.int .i64 dk,.int .i64 dn,.slice Abv dbs.length cbv,.slice Anv dns.length cnv,.slice Apv p.len cpv].toArray)]) (O:=[.blk g (.cells ([.slice (some ⟨bf,of,none⟩) nn cf,.slice A xs.length c,.int .i64 (n:Int)]:List Value).toArray 77 (0,0)),.row A xs.length c 5 1 (bv xs)]) ?_ (Ag.cons (Ag.cons (Ag.cons (Ag.nil rfl rfl) rfl) rfl) rfl) hwd;clear hwd;refine yq<|yr ?_;refine yB fun b5=>?_;refine yl<|yn<|yq<|yr<|yo zM ?_;refine Q4 (ZO rfl rfl Q1 rfl rfl) ?_;refine yo zF<|yo zF<|yo (zB 1)<|yo zM ?_;refine Q4 (QF rfl rfl Q1 rfl rfl rfl hkn) ?_;refine Q4 (QV rfl rfl Q1 rfl rfl (fun w hw=>hw.range_old hrg hbM) rfl) ?_;refine yA fun b6=>?_;refine yW 0 ?_;refine yl<|yn<|yq<|yq<|yr<|yo zM<|yo (zD 0)<|yo (zD 1) ?_;refine Q4 (Qg rfl rfl Q1 rfl rfl (fun w hw=>HFC.out w (H.out.nextW hw 2 3 rfl rfl) (HRU.out.below (H.out.below hw.k)) (HVAL.out.below (H.out.below hw.k) (Nat.le_refl _)))) ?_;refine yo zO<|yl ?_;have hkd:kind=7:=HK0.out;subst hkd;replace hse:names.length=parts.length/\1<=parts.length:=hse;replace hp12:parts.length<=12:=hp12;replace hpn:p.len=(QE names).length:=hpn;have HPT:=Q3 (show ∀x∈parts,0<=x/\x<(F.length:Int) from hpt);have HRP:=Q3 (show Rd W B 1 Ap parts.length (iv parts) from HRU.out.p);have HRN:=Q3 (show Rd W B 1 An names.length (sv names) from HRU.out.n);obtain⟨CP,hCP⟩:∃CP,X0 p=CP:=⟨_,rfl⟩;have HCP:=Q3 hCP;have HPN:=Q3 hpn;rw[hCP] at hsz hno;have HS0:=Q3 (show RES=apW [] (Q1a F (names.drop 0) (parts.drop 0) p (n+1)) by rw[Vq];exact HL.out);have hpl0:=hpl;have hfar:∀b,b<B->b∉wM g A xs.length c:=fun b hb hm=>by
  rcases Zh.1 hm with e|e
  ·have:=H.out.hB;omega
  ·have:=(H.out.far _ e).1;omega
 clear hpt hCP hpn;have e1:(n:Int)+1=((n+1:Nat):Int):=rfl;refine yn<|y0<|ys<|yn<|yq<|yr<|yo zM ?_;refine Q4 (ZO rfl rfl Q1 rfl rfl) ?_;refine yo zF<|yo (zB 2)<|yo zP ?_;refine Q4 (ZO rfl rfl Q1 rfl rfl) ?_;refine yo zF ?_;refine yS 2 ?_;refine yl<|yn<|yq<|yr<|yo zF<|yo (zB 0)<|yl<|yn<|yb<|yq<|yr<|yo zef<|yo zA<|yl<|yn<|y0<|yq<|yq<|yr<|yo zef<|yo zA<|yl<|yn<|y0<|yr<|yo zef<|yo zA<|yl<|yn<|y0<|yq<|yr<|yo zef<|yo zA<|yl<|yn<|y0<|yq<|yr<|yo zef<|yo zA<|yl<|yn<|y0<|yq<|yr<|yo zef<|yo zA<|yl<|yn<|y0<|yq<|yr<|yo zef<|yo zA<|yl<|yn<|y0<|yq<|yr<|yo zef<|yo zA<|yl<|yn<|y0<|yq<|yr<|yo zef<|yo zA<|yl<|yn<|y0<|yq<|yr<|yo zet<|yo zA<|yl ?_;rw[e1];refine yn<|y1<|yq<|yr<|yo zF<|yo (zB 1)<|yo zA<|yl<|yn<|yq<|yr<|yo zF<|yo (zB 0)<|yo zL<|yo zM<|yl<|yn<|yb ?_;refine Zb (ι:=Qw) (fun y=>VF.All (WvC ⟨some ⟨bf,of,none⟩,nn,cf⟩ B g F) y.l/\Q33 y.l/\ZV y.l/\(0<y.l.len->∃b o,y.Ar=some ⟨b,o,none⟩/\b<B/\FIn W B y.l b o)/\y.i<=parts.length/\y.l.len=(QE (names.drop y.i)).length/\RES=apW y.uy (Q1a F (names.drop y.i) (parts.drop y.i) y.l y.m)/\y.uy.length+X0 y.l<=CP+16*y.i/\y.m+X0 y.l<=n+1+CP/\y.l.len<=y.cr) (fun y=>parts.length - y.i) (fun y=>[(0,.pointer (some ⟨g,0,none⟩)),(6,.pointer (some ⟨b6,0,none⟩)),(7,.slice y.Ar y.l.len y.cr),(184,.slice Ap parts.length cp),(185,.int .i64 (parts.length:Int)),(186,.int .i64 (y.i:Int))]) (fun y=>[.blk b6 (.cells ([.string ⟨name.toArray⟩,.int .i64 7,.slice Ab bs.length cb,.int .i64 size,.bool big,.int .i64 mn,.int .i64 mx,.int .i64 stop,.int .i64 count,.int .i64 elem,.slice An names.length cn,.slice Ap parts.length cp]:List Value).toArray 65 (0,0)),.blk g (.cells ([.slice (some ⟨bf,of,none⟩) nn cf,.slice y.A (xs++y.uy).length y.c,.int .i64 (y.m:Int)]:List Value).toArray 77 (0,0)),.row y.A (xs++y.uy).length y.c 5 1 (bv (xs++y.uy))]) ⟨0,p,[],n+1,A,c,Apv,cpv⟩ ⟨HALL.out,HGP.out,HFP.out,HCH.out,Nat.zero_le _,HPN.out,HS0.out,by show 0+X0 p<=CP+16*0;rw[HCP.out];omega,by show n+1+X0 p<=n+1+CP;rw[HCP.out];omega,hpl0⟩ (.cons rfl rfl (.cons rfl rfl (.cons rfl rfl (.cons rfl rfl (.cons rfl rfl (.cons rfl rfl .nil)))))) (fun w hw=>?_) ?_
 ·simp only[List.append_nil]
  exact hw.sel [0,2,3] Q1
 rintro⟨i,l,uy,m,A',c',Ar,cr⟩ ⟨hall,hgl,hfl,hch,hi,hln,hres,hy,hm,hcr⟩;replace hi:i<=parts.length:=hi;replace hy:uy.length+X0 l<=CP+16*i:=hy;replace hm:m+X0 l<=n+1+CP:=hm;replace hcr:l.len<=cr:=hcr;have HLN:=Q3 (show l.len=(QE (names.drop i)).length from hln);have HR:=Q3 (show RES=apW uy (Q1a F (names.drop i) (parts.drop i) l m) from hres);have HAL:=Q3 (show VF.All (WvC ⟨some ⟨bf,of,none⟩,nn,cf⟩ B g F) l from hall);have HGL:=Q3 (show Q33 l from hgl);have HFL:=Q3 (show ZV l from hfl);have HCL:=Q3 (show 0<l.len->∃b o,Ar=some ⟨b,o,none⟩/\b<B/\FIn W B l b o from hch);clear hall hgl hfl hch hres hln;show sE _ _ _ _ _ [(0,.pointer (some ⟨g,0,none⟩)),(6,.pointer (some ⟨b6,0,none⟩)),(7,.slice Ar l.len cr),(184,.slice Ap parts.length cp),(185,.int .i64 (parts.length:Int)),(186,.int .i64 (i:Int))] [.blk b6 (.cells ([.string ⟨name.toArray⟩,.int .i64 7,.slice Ab bs.length cb,.int .i64 size,.bool big,.int .i64 mn,.int .i64 mx,.int .i64 stop,.int .i64 count,.int .i64 elem,.slice An names.length cn,.slice Ap parts.length cp]:List Value).toArray 65 (0,0)),.blk g (.cells ([.slice (some ⟨bf,of,none⟩) nn cf,.slice A' (xs++uy).length c',.int .i64 (m:Int)]:List Value).toArray 77 (0,0)),.row A' (xs++uy).length c' 5 1 (bv (xs++uy))] _;by_cases hlt:i<parts.length
 case neg=>
  have HZ:=Q3 (show RES=.ok (uy,m) by
   rw[HR.out,List.drop_of_length_le (l:=parts) Q2,List.drop_of_length_le (l:=names) Q2]
   show Except.ok (uy++[],m)=_
   rw[List.append_nil])
  have hz1:uy.length<=300+dbs.length+X0 p:=by rw[HCP.out];omega
  have hz2:m<=n+(300+dbs.length+X0 p):=by rw[HCP.out];omega
  refine yq<|yr<|yo zlf<|yl<|yn<|yq<|y0<|ye<|yx<|yx<|yu<|yd ?_;exact Zc (by exact .inl rfl) rfl (fun w hw=>Ye H.out 1 2 (b:=uy) hw rfl rfl HZ.out hz1 hz2)
 case pos=>
  obtain⟨bp,op,x,rfl,hbp,hx,hcx⟩:=Q1P HRP.out hlt;obtain⟨bm,om,s,rfl,hbm,hs,hcs⟩:=KZ HRN.out (show i<names.length by omega);have hxk:=HPT.out x (List.mem_of_getElem? hx);have hbpM:=hfar bp hbp;have hbmM:=hfar bm hbm
  have HR2:=Q3 (show RES=apW uy (Q1a F (s.data.toList::names.drop (i+1)) (x::parts.drop (i+1)) l m) by
   have h:=HR.out;rw[Kd hx,Kd hs] at h
   exact h)
  have HLN2:=Q3 (show l.len=(QE (s.data.toList::names.drop (i+1))).length by
   have h:=HLN.out;rw[Kd hs] at h
   exact h)
  clear hx hs;by_cases hz:s.data.toList=[]
  ·have hst:(s.data.toList==(⟨#[]⟩:ByteArray).data.toList)=true:=by rw[hz];rfl
   obtain⟨hbB2,Ab2,cb2,An2,cn2,Ap2,cp2,hrg2,hru2⟩:=H.out.fm.ruleB (k:=x) (by simp only;exact⟨hxk.1,by rw[<- hFn];exact hxk.2⟩);have hxn:0<=x/\x<(nn:Int):=⟨hxk.1,by rw[<- hFn];exact hxk.2⟩;have hb16:=(HV0.out.toUsd.rok hxk).bs16;obtain⟨r2,er2⟩:∃r,Qj F x=r:=⟨_,rfl⟩
   have HN0:=Q3 (show RES=apW (uy++r2.bs) (Q1a F (names.drop (i+1)) (parts.drop (i+1)) l m) by
    rw[HR2.out,Q4m,if_pos hz,er2,Q2V])
   rw[er2] at hrg2 hru2 hb16;have HRB2:=Q3 (show Rd W B 1 Ab2 r2.bs.length (bv r2.bs) from hru2.b);clear hru2 er2;obtain⟨us,hzs⟩:∃us,r2.bs=us:=⟨_,rfl⟩;simp only[ruC,hzs] at hrg2;rw[hzs] at hb16 HN0 HRB2;have hc2:W.cell? ⟨bf,of+x.toNat*12+2,none⟩=some (.slice Ab2 us.length cb2):=hrg2 2 _ rfl;clear hrg2 hzs;have hl1:(xs++uy).length+us.length=(xs++(uy++us)).length:=by simp only[List.length_append];omega
   have hb1:bv (xs++uy)++bv us=bv (xs++(uy++us)):=by unfold bv;simp
   have hbnd:(xs++uy).length<=1099511627776+16*i:=by rw[List.length_append];omega
   refine yq<|yr<|yo zlt<|yl<|yn<|yq<|y1<|ys<|yn<|yq<|yb<|yq<|yr<|yo zM<|yo (zi1 (hj:=hlt)) ?_;refine Q4 (QP rfl rfl Q1 rfl rfl (fun w hw=>hw.cell_old hcx hbpM)) ?_;refine yo zA<|yo zA<|yl<|yn<|yq<|yq<|yr<|yo zF<|yo (zB 0)<|yo zM ?_;refine Q4 (Xd rfl rfl Q1 rfl rfl rfl (show i<names.length by omega)) ?_;refine Q4 (QP rfl rfl Q1 rfl rfl (fun w hw=>hw.cell_old hcs hbmM)) ?_;refine Q4 (Q0E rfl rfl Q1 rfl rfl rfl hst) ?_;refine yl<|yn<|y1<|yq ?_;refine Xw [.blk g (.cells ([.slice (some ⟨bf,of,none⟩) nn cf,.slice A' (xs++uy).length c',.int .i64 (m:Int)]:List Value).toArray 77 (0,0))] [17] Q5 ?_;refine Qi 0 rfl Q5 (Qe.sel [1] Q1 rfl) zM ?_;refine Qi 1 rfl Q5 (Qe.sel [1] Q1 rfl) zM ?_;refine Qi 2 rfl Q5 (Qe.sel [1] Q1 rfl) (ZO rfl rfl Q1 rfl rfl) ?_;refine Qi 3 rfl Q5 (Qe.sel [1] Q1 rfl) zF ?_;refine Qi 4 rfl Q5 (Qe.sel [1] Q1 rfl) (zB 0) ?_;refine Qi 5 rfl Q5 (Qe.sel [1] Q1 rfl) zM ?_;refine Qi 6 rfl Q5 (Qe.sel [1] Q1 rfl) (ZO rfl rfl Q1 rfl rfl) ?_;refine Qi 7 rfl Q5 (Qe.sel [1] Q1 rfl) zF ?_;refine Qi 8 rfl Q5 (Qe.sel [1] Q1 rfl) zF ?_;refine Qi 9 rfl Q5 (Qe.sel [1] Q1 rfl) (zB 0) ?_;refine Qi 10 rfl Q5 (Qe.sel [1] Q1 rfl) zM ?_;refine Qi 11 rfl Q5 (Qe.sel [1] Q1 rfl) (QF rfl rfl Q1 rfl rfl rfl hxn) ?_;refine Qi 12 rfl Q5 (Qe.sel [1] Q1 rfl) zF ?_;refine Qi 13 rfl Q5 (Qe.sel [1] Q1 rfl) (QP rfl rfl Q1 rfl rfl (fun w hw=>hw.cell_old hc2 hbM)) ?_;refine QX 14 Q5 rfl rfl (Xp 2 rfl rfl rfl rfl rfl (fun w hw=>(HRB2.out.below (H.out.below hw.k)).more (by have:=hw.k.size;omega)) (Vj _) Q2) (fun _=>.inr (Qe.sel [1] Q1 rfl)) rfl Q1 (fun z1 _=>?_);rw[hl1,hb1];refine Qi 15 rfl Q5 (Qe.sel [1] Q1 rfl) (ZO rfl rfl Q1 rfl rfl) ?_;refine Qi 16 rfl Q5 (Qe.sel [1] Q1 rfl) zF ?_;refine QB 17 Q5 rfl rfl (ZJ 1 rfl rfl rfl rfl rfl rfl rfl) (fun _=>.inl Q1) rfl (fun _ _=>?_);refine Xi ?_ Q5;refine yn<|ye<|yn<|yr<|yo zP<|yo zM<|yl ?_;refine X7 ⟨i+1,l,uy++us,m,z1.1,z1.2,Ar,cr⟩ ⟨HAL.out,HGL.out,HFL.out,HCL.out,hlt,by show l.len=(QE (names.drop (i+1))).length;rw[HLN2.out,Q2w,if_pos hz],HN0.out,by show (uy++us).length+X0 l<=CP+16*(i+1);rw[List.length_append];omega,hm,hcr⟩ (by show parts.length - (i+1)<parts.length - i;omega) (.cons rfl rfl (.cons rfl rfl (.cons rfl rfl (.cons rfl rfl (.cons rfl rfl (.cons rfl (by go_num) .nil)))))) (fun w hw=>hw)
  ·have hst:(s.data.toList==(⟨#[]⟩:ByteArray).data.toList)=false:=beq_eq_false_iff_ne.2 hz
   cases l with
   |nil=>
    have h:=HLN2.out;rw[Q2w,if_neg hz] at h;simp [VF.len] at h
   |cons d1 p1 r1=>
    obtain⟨bq,oq,hAr,hbq,⟨sb1,sn1,sp1,hc5,hd5⟩,hrest⟩:=HCL.out (Nat.succ_pos _);subst hAr;have HV1:=Q3 (show VIn W B (.agg #[.int .i64 d1.k,.int .i64 d1.n,sb1,sn1,sp1]) d1 p1 from ⟨sb1,sn1,sp1,rfl,hd5⟩);have hrgv:=hc5.range;have HRS:=Q3 hrest;have hbqM:=hfar bq hbq;clear hc5 hd5 hrest;simp only[X0] at hy hm;have hlen1:(VF.cons d1 p1 r1).len=r1.len+1:=rfl;rw[hlen1] at hcr ⊢;have hsz1:(xs++uy).length+QK d1 p1<=1099511627776:=by rw[List.length_append];unfold QK;omega
    have hno1:m+QK d1 p1<=1099511627776:=by unfold QK;omega
    have HR3:=Q3 (show RES=apW uy (bnW (QD F x d1 p1 m) fun m=>Q1a F (names.drop (i+1)) (parts.drop (i+1)) r1 m) by
     rw[HR2.out,Q4m,if_neg hz])
    refine yq<|yr<|yo zlt<|yl<|yn<|yq<|y1<|ys<|yn<|yq<|yb<|yq<|yr<|yo zM<|yo (zi1 (hj:=hlt)) ?_;refine Q4 (QP rfl rfl Q1 rfl rfl (fun w hw=>hw.cell_old hcx hbpM)) ?_;refine yo zA<|yo zA<|yl<|yn<|yq<|yq<|yr<|yo zF<|yo (zB 0)<|yo zM ?_;refine Q4 (Xd rfl rfl Q1 rfl rfl rfl (show i<names.length by omega)) ?_;refine Q4 (QP rfl rfl Q1 rfl rfl (fun w hw=>hw.cell_old hcs hbmM)) ?_;refine Q4 (Q0E rfl rfl Q1 rfl rfl rfl hst) ?_;refine yl<|yn<|y0<|ys<|yn<|yq<|yr<|yo zM<|yo zM<|yo zM ?_;refine Q4 (QM (j:=0) rfl rfl Q1 rfl rfl rfl (Nat.succ_pos _)) ?_;refine Q4 (QV rfl rfl Q1 rfl rfl (fun w hw=>hw.range_old hrgv hbqM) rfl) ?_;refine J4 (XE _ _ _ rfl rfl rfl (fun w hw=>(HAL.out.1 HGL.out.1 HGL.out.2.1 HFL.out.1 HFL.out.2.2.1 HFL.out.2.1 w A' c' (xs++uy) m x _ hxk (H.out.nextW hw 1 2 rfl rfl) (HV1.out.below (H.out.below hw.k) (Nat.le_refl _)) hsz1 hno1).mono (fun e w' h=>Q83 1 2 Q1 hw rfl rfl (fun x hx=>by rw[HR3.out,hx];rfl) h))) rfl Q1 (fun y hy2=>?_);refine yl ?_;obtain⟨ub,um,uA,uc⟩:=y;obtain⟨hy3,hy4,hy5⟩:=hy2;replace hy3:QD F x d1 p1 m=.ok (ub,um):=hy3;replace hy4:ub.length<=QK d1 p1:=hy4;replace hy5:um<=m+QK d1 p1:=hy5;have HN:=Q3 (show RES=apW (uy++ub) (Q1a F (names.drop (i+1)) (parts.drop (i+1)) r1 um) by rw[HR3.out,hy3,Qnj,Q2V]);clear hy3;unfold QK at hy4 hy5;refine yn<|yr<|yo zM ?_;refine Q4 (Q10 (l:=1) rfl rfl Q1 rfl rfl rfl Q2) ?_;refine yo zA<|yl<|yn<|yr<|yo zP<|yo zM<|yl ?_
    refine X7 ⟨i+1,r1,uy++ub,um,uA,uc,ZC (some ⟨bq,oq,none⟩) cr 1 5,cr - 1⟩ ⟨HAL.out.2,HGL.out.2.2,HFL.out.2.2.2,fun h0=>⟨bq,oq+5,by show ZC _ cr 1 5=_;unfold ZC;rw[if_neg (by have:0<r1.len:=h0;omega)];rfl,hbq,HRS.out⟩,hlt,by
     show r1.len=(QE (names.drop (i+1))).length
     have h:=HLN2.out;rw[Q2w,if_neg hz] at h
     simp only[VF.len,List.length_cons] at h
     omega,HN.out,by show (uy++ub).length+X0 r1<=CP+16*(i+1);rw[List.length_append];omega,by show um+X0 r1<=n+1+CP;omega,by show r1.len<=cr - 1;omega⟩ (by show parts.length - (i+1)<parts.length - i;omega) (.cons rfl rfl (.cons rfl rfl (.cons rfl rfl (.cons rfl rfl (.cons rfl rfl (.cons rfl (by go_num) .nil)))))) (fun w hw=>?_)
    simp only[<- List.append_assoc];exact hw
end
end Go.Proofs.YtphkhfdmlcnoeaaGreatDoor
