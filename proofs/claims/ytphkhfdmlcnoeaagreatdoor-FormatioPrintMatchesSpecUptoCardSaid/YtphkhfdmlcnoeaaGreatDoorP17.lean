import Derived.Test.YtphkhfdmlcnoeaaGreatDoorP15
namespace Go.Proofs.YtphkhfdmlcnoeaaGreatDoor
set_option linter.unusedVariables false
set_option linter.unusedSimpArgs false
set_option maxRecDepth 1000000
set_option maxHeartbeats 32000000
open Go.RowKit
section
variable {W w w':World}{z:Wz}{B g c n:Nat}{F:List Rl}{A:Option Addr}{xs:List UInt8}{k:Int}{d:Nd}{p:VF}{v:Value}
theorem QvV(hall:VF.All (WvC z B g F) p)(hgp:Vk p)(hfp:XD p)(hv:Fm F)(hk:0<=k/\k<F.length)(h:XV W z B g F A c xs n)(hval:VIn W B v d p)(hd1:d.bs.length<=1048576)(hd2:d.ns.length<=1048576)(hn0:QJ d p.len=0)(hpl6:p.len<=1048576)(hsz:xs.length+Qy d p<=1099511627776)(hno:n+Qy d p<=1099511627776)(hfit:X0 F (Qh F k) d p=true)(hkind:(Qh F k).kind=8):
  Calls Tryz.prog 45 #[.pointer (some ⟨g,0,none⟩),.int .i64 k,v] W (WrE z g W A c xs (Qs F k d p n) n (Qy d p)):=by
 have hF8:=Q1d (F:=F) (d:=d) (p:=p) hkind;rw[hfit] at hF8;replace hF8:=hF8.symm;simp only[Bool.and_eq_true,beq_iff_eq,decide_eq_true_iff] at hF8;obtain⟨⟨⟨⟨_,h2⟩,h3⟩,h4⟩,h5⟩:=hF8;obtain⟨d1,p1,d2,p2,rfl⟩:∃d1 p1 d2 p2,p=.cons d1 p1 (.cons d2 p2 .nil):=by
  cases p with
  |nil=>cases h2
  |cons d1 p1 r=>
   cases r with
   |nil=>cases h2
   |cons d2 p2 r=>
    cases r with
    |nil=>exact⟨d1,p1,d2,p2,rfl⟩
    |cons d3 p3 r=>simp [VF.len] at h2
 clear h2;simp only[VF.hdN] at h3 h4 h5;have H:=Q2 h;have HV0:=Q2 hv;have hwd:=h.wd;have hFn:=h.len;have hr:=hv.toUsd.rok hk;have hfc:=fun(w:World) (Ab An Ap:Option Addr) (cb cn cp:Nat) (hw:XV w z B g F A c xs n) (hru:RuB w B (Qh F k) Ab cb An cn Ap cp) (hval:VIn w B v d (.cons d1 p1 (.cons d2 p2 .nil)))=>Q7B hw hv hk hru hval hd1 hd2
 rw[hfit] at hfc;obtain⟨RES,hres⟩:∃x,Qs F k d (.cons d1 p1 (.cons d2 p2 .nil)) n=x:=⟨_,rfl⟩;have HVAL:=Q2 hval;have HALL:=Q2 hall;have HGP:=Q2 hgp;have HFP:=Q2 hfp;clear hall hgp hfp;have HK0:=Q2 (show (Qh F k).kind=8 from hkind);have HL:=Q2 (show RES=Qs F ((Qh F k).parts.getD d1.n.toNat 0) d2 p2 (n+2) by rw[<- hres];exact QcT hfit hkind);have hpt:=hr.parts Q4S;rw[hres];obtain⟨Af,nn,cf⟩:=z;simp only at hFn;obtain⟨bf,of,haf,_⟩:=h.fm.2 VX;simp only at haf;subst haf;obtain⟨hbB,Ab,cb,An,cn,Ap,cp,hrg,hru⟩:=h.fm.ruleB (k:=k) Yx;have hbM:bf∉wM g A xs.length c:=fun hm=>by
  rcases XX.1 hm with e|e
  ·exact Vp
  ·exact Q0i
 have hkn:0<=k/\k<(nn:Int):=by omega
 have hBW:B<=W.heap.size:=by have:=h.hB;have:=h.lt;omega
 replace hfc:=fun(w:World) (hw:XV w _ B g F A c xs n) (hr:RuB w B (Qh F k) Ab cb An cn Ap cp) (hvl:VIn w B v d (.cons d1 p1 (.cons d2 p2 .nil)))=>hfc w Ab An Ap cb cn cp hw hr hvl
 clear h;obtain⟨r,er⟩:∃r,Qh F k=r:=⟨_,rfl⟩;rw[er] at hr hrg hru hfc HK0 HL hpt h5;clear er hfit;obtain⟨sb,sn,sp,rfl,Abv,nb,cbv,Anv,nnv,cnv,Apv,cpv,rfl,rfl,rfl,hnb,hnn,hpl,hcm,hrb,hrn,hch⟩:=hval;have hnbl:d.bs.length=nb:=by have:=hrb.len;rw[QM] at this;exact this
 have hnnl:d.ns.length=nnv:=by have:=hrn.len;rw[Xw] at this;exact this
 subst hnbl hnnl;have HRB:=Q2 hrb;have HCH:=Q2 hch;have HRU:=Q2 hru;have HRK:=Q2 hr;have HD:=Q2 (Eq.refl d);obtain⟨dk,dn,dbs,dns⟩:=d;simp only[Qy] at hsz hno hd1 hd2 hnb hnn ⊢;clear hrb hrn hch hru hv;obtain⟨name,kind,bs,size,big,mn,mx,stop,count,elem,names,parts⟩:=r;simp only[ruC] at hr hrg hfc HK0;have HFC:=Q2 hfc;have HRUB:=Q3Z;clear hfc;go_enter Tryz.func45,Tryz.ntmps45;haveI:Pan (bodyPost Tryz.prog Tryz.f45 (WrE ⟨some ⟨bf,of,none⟩,nn,cf⟩ g W A c xs RES n (300+dbs.length+Qv (VF.cons d1 p1 (.cons d2 p2 .nil))))) (Vx RES (wM g A xs.length c) W):=Pan.body fun ch w' ⟨x,h1,h2,h3⟩=>VY
 refine Qz (M:=wM g A xs.length c) (W:=W) (N:=223) (E:=[Yq,Q29,(2,.agg [.int .i64 dk,.int .i64 dn,.slice Abv dbs.length cbv,.slice Anv dns.length cnv,.slice Apv (VF.cons d1 p1 (.cons d2 p2 .nil)).len cpv].toArray)]) (O:=Q6O) ?_ XW hwd;clear hwd;refine yq<|yr ?_;refine yB fun b5=>?_;refine Q0x ?_;refine yA fun b6=>?_;refine Q26 ?_;have hkd:kind=8:=HK0.out;subst hkd;replace h5:d1.n<(parts.length:Int):=h5;obtain⟨j,hj⟩:∃j:Nat,d1.n=(j:Int):=⟨d1.n.toNat,by omega⟩;have hjp:j<parts.length:=by omega
 obtain⟨bv0,ov0,hApv,hbv,⟨sb1,sn1,sp1,hc1,_⟩,⟨sb2,sn2,sp2,hc2,hd2'⟩,_⟩:=HCH.out Q3w;subst hApv;have HV2:=Q2 (show VIn W B Qlp d2 p2 from ⟨sb2,sn2,sp2,rfl,hd2'⟩);have hrv:=hc2.range;have hcn:W.cell? ⟨bv0,ov0+1,none⟩=some (.int .i64 (j:Int)):=by rw[<- hj];exact hc1.2.1
 have hbvM:bv0∉wM g A xs.length c:=fun hm=>by
  rcases XX.1 hm with e|e
  ·have:=H.out.hB;omega
  ·exact QaZ
 obtain⟨bp,op,x,hAp,hbp,hx,hcx⟩:=Q6F HRU.out.p hjp;subst hAp;have hbpM:bp∉wM g A xs.length c:=fun hm=>by
  rcases XX.1 hm with e|e
  ·have:=H.out.hB;omega
  ·exact QaZ
 have hxk:0<=x/\x<F.length:=hpt x Q07
 have HX:=Q2 (show RES=Qs F x d2 p2 (n+2) by
  have h:=HL.out
  simp only at h
  rw[hj,Int.toNat_natCast,List.getD_eq_getElem?_getD,hx] at h
  exact h)
 simp only[Qv] at hsz hno;have hsz1:xs.length+Qy d2 p2<=1099511627776:=by unfold Qy;omega
 have hno1:(n+1+1)+Qy d2 p2<=1099511627776:=by unfold Qy;omega
 clear hc1 hc2 hd2' hx;have e1:(n:Int)+1=((n+1:Nat):Int):=rfl;refine Q7U ?_;refine yl<|yn<|yq<|yr<|yo zF<|yo (zB 0)<|yl<|yn<|yb<|yq<|yr<|yo zef<|yo zA<|yl<|yn<|y0<|yq<|yq<|yr<|yo zef<|yo zA<|yl<|yn<|y0<|yr<|yo zef<|yo zA<|yl<|yn<|y0<|yq<|yr<|yo zef<|yo zA<|yl<|yn<|y0<|yq<|yr<|yo zef<|yo zA<|yl<|yn<|y0<|yq<|yr<|yo zef<|yo zA<|yl<|yn<|y0<|yq<|yr<|yo zef<|yo zA<|yl<|yn<|y0<|yq<|yr<|yo zef<|yo zA<|yl<|yn<|y0<|yq<|yr<|yo zet<|yo zA<|yl ?_;rw[e1];refine yn<|y1<|yq<|yr<|yo zM ?_;refine Q4 mc5 ?_;refine yo zF<|yo (zB 2)<|yo zP ?_;refine Q4 mc5 ?_;refine yo zF ?_;refine yS 2 ?_;refine yl<|yn ?_;have e2:((n+1:Nat):Int)+1=((n+1+1:Nat):Int):=rfl;rw[e2];refine Q3f (B:=Vx RES (wM g A xs.length c) W) [.blk b6 Qtt,.blk b5 (.cells ([.int .i64 dk,.int .i64 dn,.slice Abv dbs.length cbv,.slice Anv dns.length cnv,.slice (some ⟨bv0,ov0,none⟩) (VF.cons d1 p1 (.cons d2 p2 .nil)).len cpv]:List Value).toArray 30 (0,0))] [14] Q5 ?_ ?_
 ·infer_instance
 refine ZT 0 rfl Q5 Jm zM ?_;refine ZT 1 rfl Q5 Jm zF ?_;refine ZT 2 rfl Q5 Jm (zB 0) ?_;refine ZT 3 rfl Q5 Jm zF ?_;refine ZT 4 rfl Q5 Jm (zB 1) ?_;refine ZT 5 rfl Q5 Jm Qev ?_;refine ZT 6 rfl Q5 Jm zF ?_;refine ZT 7 rfl Q5 Jm (Xz rfl rfl Q1 rfl rfl (fun w hw=>hw.cell_old hcn hbvM)) ?_;refine ZT 8 rfl Q5 Jm (zi1 (j:=j) (hj:=hjp)) ?_;refine ZT 9 rfl Q5 Jm (Xz rfl rfl Q1 rfl rfl (fun w hw=>hw.cell_old hcx hbpM)) ?_;refine ZT 10 rfl Q5 Jm zF ?_;refine ZT 11 rfl Q5 Jm (zB 1) ?_;refine ZT 12 rfl Q5 Jm (Xc (j:=1) rfl rfl Q1 rfl rfl rfl (Nat.succ_lt_succ Q3w)) ?_;refine ZT 13 rfl Q5 Jm (X4 rfl rfl Q1 rfl rfl (fun w hw=>hw.range_old hrv hbvM) rfl) ?_;refine QhC 14 Q5 rfl rfl (J9 _ _ _ rfl rfl rfl (fun w hw=>(HALL.out.2.1 HGP.out.2.2.1 HGP.out.2.2.2.1 HFP.out.2.2.2.1 HFP.out.2.2.2.2.2.1 HFP.out.2.2.2.2.1 w A c xs (n+1+1) x _ hxk QdE (HV2.out.below Q5i Xr) hsz1 hno1).mono (fun e w' h=>Q9f 2 3 Q1 hw rfl rfl (fun x hx=>HX.out.trans hx) h))) (fun i=>.inl Q1) rfl Q1 (fun y hy=>?_);refine QgW ?_ Q5;obtain⟨uy,um,uA,uc⟩:=y;obtain⟨hz1,hz2,hz3⟩:=hy;replace hz2:uy.length<=Qy d2 p2:=hz2;replace hz3:um<=n+1+1+Qy d2 p2:=hz3;have HZ:=Q2 (show RES=.ok (uy,um) from HX.out.trans hz1);clear hz1;unfold Qy at hz2 hz3;simp only[Qv];refine yd ?_;exact Zi Kf rfl (fun w hw=>Ye H.out 2 3 (b:=uy) (m:=um) hw rfl rfl HZ.out Q3 Q3)
structure Qw where
 i:Nat
 l:VF
 uy:List UInt8
 m:Nat
 A:Option Addr
 c:Nat
 Ar:Option Addr
 cr:Nat
theorem JZ{s:List UInt8}{l:List (List UInt8)}:QF (s::l)=if s=[] then QF l else s::QF l:=by
 unfold QF;by_cases h:s=[]
 ·rw[if_pos h,h];rfl
 ·rw[if_neg h,List.filter_cons_of_pos (by simpa using h)]
theorem QvF(hall:VF.All (WvC z B g F) p)(hgp:Vk p)(hfp:XD p)(hv:Fm F)(hk:0<=k/\k<F.length)(h:XV W z B g F A c xs n)(hval:VIn W B v d p)(hd1:d.bs.length<=1048576)(hd2:d.ns.length<=1048576)(hn0:QJ d p.len=0)(hpl6:p.len<=1048576)(hsz:xs.length+Qy d p<=1099511627776)(hno:n+Qy d p<=1099511627776)(hfit:X0 F (Qh F k) d p=true)(hkind:(Qh F k).kind=7):
  Calls Tryz.prog 45 #[.pointer (some ⟨g,0,none⟩),.int .i64 k,v] W (WrE z g W A c xs (Qs F k d p n) n (Qy d p)):=by
 have H:=Q2 h;have HV0:=Q2 hv;have hwd:=h.wd;have hFn:=h.len;have hr:=hv.toUsd.rok hk;have hfc:=Q8e
 rw[hfit] at hfc;obtain⟨RES,hres⟩:∃x,Qs F k d p n=x:=⟨_,rfl⟩;have HVAL:=Q2 hval;have HALL:=Q2 hall;have HGP:=Q2 hgp;have HFP:=Q2 hfp;clear hall hgp hfp;have HK0:=Q2 (show (Qh F k).kind=7 from hkind);have hpn:p.len=(QF (Qh F k).names).length:=by
  have hf:=hfit;rw[Q3I hkind,Bool.and_eq_true,beq_iff_eq,beq_iff_eq] at hf;rw[<- hf.2];exact((YY hn0).2.2.2.2 hf.1).symm
 have HL:=Q2 (show RES=Vh F (Qh F k).names (Qh F k).parts p (n+1) by rw[<- hres];exact Qd8 hfit hkind (hr.seven hkind).1 hpn);have hse:=hr.seven hkind;have hp12:=hr.p12;have hpt:=hr.parts Q0Z;rw[hres];obtain⟨Af,nn,cf⟩:=z;simp only at hFn;obtain⟨bf,of,haf,_⟩:=h.fm.2 VX;simp only at haf;subst haf;obtain⟨hbB,Ab,cb,An,cn,Ap,cp,hrg,hru⟩:=h.fm.ruleB (k:=k) Yx;have hbM:bf∉wM g A xs.length c:=fun hm=>by
  rcases XX.1 hm with e|e
  ·exact Vp
  ·exact Q0i
 have hkn:0<=k/\k<(nn:Int):=by omega
 have hBW:B<=W.heap.size:=by have:=h.hB;have:=h.lt;omega
 replace hfc:=fun(w:World) (hw:XV w _ B g F A c xs n) (hr:RuB w B (Qh F k) Ab cb An cn Ap cp) (hvl:VIn w B v d p)=>hfc w Ab An Ap cb cn cp hw hr hvl
 clear h;obtain⟨r,er⟩:∃r,Qh F k=r:=⟨_,rfl⟩;rw[er] at hr hrg hru hfc HK0 HL hpn hse hp12 hpt;clear er hfit;obtain⟨sb,sn,sp,rfl,Abv,nb,cbv,Anv,nnv,cnv,Apv,cpv,rfl,rfl,rfl,hnb,hnn,hpl,hcm,hrb,hrn,hch⟩:=hval;have hnbl:d.bs.length=nb:=by have:=hrb.len;rw[QM] at this;exact this
 have hnnl:d.ns.length=nnv:=by have:=hrn.len;rw[Xw] at this;exact this
 subst hnbl hnnl;have HRB:=Q2 hrb;have HCH:=Q2 hch;have HRU:=Q2 hru;have HRK:=Q2 hr;have HD:=Q2 (Eq.refl d);obtain⟨dk,dn,dbs,dns⟩:=d;simp only[Qy] at hsz hno hd1 hd2 hnb hnn ⊢;clear hrb hrn hch hru hv;obtain⟨name,kind,bs,size,big,mn,mx,stop,count,elem,names,parts⟩:=r;simp only[ruC] at hr hrg hfc HK0;have HFC:=Q2 hfc;have HRUB:=Q3Z;clear hfc;go_enter Tryz.func45,Tryz.ntmps45;haveI:Pan (bodyPost Tryz.prog Tryz.f45 (WrE ⟨some ⟨bf,of,none⟩,nn,cf⟩ g W A c xs RES n (300+dbs.length+Qv p))) (Vx RES (wM g A xs.length c) W):=Pan.body fun ch w' ⟨x,h1,h2,h3⟩=>VY
 refine Qz (M:=wM g A xs.length c) (W:=W) (N:=223) (E:=Q8k) (O:=Q6O) ?_ XW hwd;clear hwd;refine yq<|yr ?_;refine yB fun b5=>?_;refine Q0x ?_;refine yA fun b6=>?_;refine Q26 ?_;have hkd:kind=7:=HK0.out;subst hkd;replace hse:names.length=parts.length/\1<=parts.length:=hse;replace hp12:parts.length<=12:=hp12;replace hpn:p.len=(QF names).length:=hpn;have HPT:=Q2 (show ∀x∈parts,0<=x/\x<(F.length:Int) from hpt);have HRP:=Q2 (show Rd W B 1 Ap parts.length (iv parts) from HRU.out.p);have HRN:=Q2 (show Rd W B 1 An names.length (sv names) from HRU.out.n);obtain⟨CP,hCP⟩:∃CP,Qv p=CP:=⟨_,rfl⟩;have HCP:=Q2 hCP;have HPN:=Q2 hpn;rw[hCP] at hsz hno;have HS0:=Q2 (show RES=apW [] (Vh F (names.drop 0) (parts.drop 0) p (n+1)) by rw[ZG];exact HL.out);have hpl0:=hpl;have hfar:∀b,b<B->b∉wM g A xs.length c:=fun b hb hm=>by
  rcases XX.1 hm with e|e
  ·have:=H.out.hB;omega
  ·exact QaZ
 clear hpt hCP hpn;have e1:(n:Int)+1=((n+1:Nat):Int):=rfl;refine Q7U ?_;refine yl<|yn<|yq<|yr<|yo zF<|yo (zB 0)<|yl<|yn<|yb<|yq<|yr<|yo zef<|yo zA<|yl<|yn<|y0<|yq<|yq<|yr<|yo zef<|yo zA<|yl<|yn<|y0<|yr<|yo zef<|yo zA<|yl<|yn<|y0<|yq<|yr<|yo zef<|yo zA<|yl<|yn<|y0<|yq<|yr<|yo zef<|yo zA<|yl<|yn<|y0<|yq<|yr<|yo zef<|yo zA<|yl<|yn<|y0<|yq<|yr<|yo zef<|yo zA<|yl<|yn<|y0<|yq<|yr<|yo zef<|yo zA<|yl<|yn<|y0<|yq<|yr<|yo zef<|yo zA<|yl<|yn<|y0<|yq<|yr<|yo zet<|yo zA<|yl ?_;rw[e1];refine yn<|y1<|yq<|yr<|yo zF<|yo (zB 1)<|yo zA<|yl<|yn<|yq<|yr<|yo zF<|yo (zB 0)<|yo zL<|yo zM<|yl<|yn<|yb ?_;refine Xu (ι:=Qw) (fun y=>VF.All (WvC ⟨some ⟨bf,of,none⟩,nn,cf⟩ B g F) y.l/\Vk y.l/\XD y.l/\(0<y.l.len->∃b o,y.Ar=some ⟨b,o,none⟩/\b<B/\FIn W B y.l b o)/\y.i<=parts.length/\y.l.len=(QF (names.drop y.i)).length/\RES=apW y.uy (Vh F (names.drop y.i) (parts.drop y.i) y.l y.m)/\y.uy.length+Qv y.l<=CP+16*y.i/\y.m+Qv y.l<=n+1+CP/\y.l.len<=y.cr) (fun y=>parts.length - y.i) (fun y=>[Yq,JI,(7,.slice y.Ar y.l.len y.cr),(184,.slice Ap parts.length cp),(185,.int .i64 (parts.length:Int)),(186,.int .i64 (y.i:Int))]) (fun y=>[.blk b6 (.cells (Q7Z:List Value).toArray 65 (0,0)),.blk g (.cells ([.slice Vz nn cf,.slice y.A (xs++y.uy).length y.c,.int .i64 (y.m:Int)]:List Value).toArray 77 (0,0)),.row y.A (xs++y.uy).length y.c 5 1 (bv (xs++y.uy))]) ⟨0,p,[],n+1,A,c,Apv,cpv⟩ ⟨HALL.out,HGP.out,HFP.out,HCH.out,Nat.zero_le _,HPN.out,HS0.out,by show 0+Qv p<=CP+16*0;rw[HCP.out];omega,by show n+1+Qv p<=n+1+CP;rw[HCP.out];omega,hpl0⟩ Qa7 (fun w hw=>?_) ?_
 ·simp only[List.append_nil]
  exact hw.sel [0,2,3] Q1
 rintro⟨i,l,uy,m,A',c',Ar,cr⟩ ⟨hall,hgl,hfl,hch,hi,hln,hres,hy,hm,hcr⟩;replace hi:i<=parts.length:=hi;replace hy:uy.length+Qv l<=CP+16*i:=hy;replace hm:m+Qv l<=n+1+CP:=hm;replace hcr:l.len<=cr:=hcr;have HLN:=Q2 (show l.len=(QF (names.drop i)).length from hln);have HR:=Q2 (show RES=apW uy (Vh F (names.drop i) (parts.drop i) l m) from hres);have HAL:=Q2 (show VF.All (WvC ⟨some ⟨bf,of,none⟩,nn,cf⟩ B g F) l from hall);have HGL:=Q2 (show Vk l from hgl);have HFL:=Q2 (show XD l from hfl);have HCL:=Q2 (show 0<l.len->∃b o,Ar=some ⟨b,o,none⟩/\b<B/\FIn W B l b o from hch);clear hall hgl hfl hch hres hln;show sE _ _ _ _ _ [(0,.pointer Q6S),(6,.pointer (some ⟨b6,0,none⟩)),(7,.slice Ar l.len cr),(184,.slice Ap parts.length cp),(185,.int .i64 (parts.length:Int)),(186,.int .i64 (i:Int))] [.blk b6 (.cells (Q7Z:List Value).toArray 65 (0,0)),.blk g (.cells ([.slice (some ⟨bf,of,none⟩) nn cf,.slice A' (xs++uy).length c',.int .i64 (m:Int)]:List Value).toArray 77 (0,0)),.row A' (xs++uy).length c' 5 1 (bv (xs++uy))] _;by_cases hlt:i<parts.length
 case neg=>
  have HZ:=Q2 (show RES=.ok (uy,m) by
   rw[HR.out,List.drop_of_length_le (l:=parts) Q3,List.drop_of_length_le (l:=names) Q3]
   show Except.ok (uy++[],m)=_
   rw[List.append_nil])
  have hz1:uy.length<=300+dbs.length+Qv p:=by rw[HCP.out];omega
  have hz2:m<=n+(300+dbs.length+Qv p):=by rw[HCP.out];omega
  refine yq<|yr<|yo zlf<|yl<|yn<|yq<|y0<|ye<|yx<|yx<|yu<|yd ?_;exact Zi Kf rfl (fun w hw=>Ye H.out 1 2 (b:=uy) hw rfl rfl HZ.out hz1 hz2)
 case pos=>
  obtain⟨bp,op,x,rfl,hbp,hx,hcx⟩:=Q6F HRP.out hlt;obtain⟨bm,om,s,rfl,hbm,hs,hcs⟩:=Vb HRN.out (show i<names.length by omega);have hxk:=HPT.out x Q07;have hbpM:=hfar bp hbp;have hbmM:=hfar bm hbm
  have HR2:=Q2 (show RES=apW uy (Vh F (s.data.toList::names.drop (i+1)) (x::parts.drop (i+1)) l m) by
   have h:=HR.out;rw[VS hx,VS hs] at h
   exact h)
  have HLN2:=Q2 (show l.len=(QF (s.data.toList::names.drop (i+1))).length by
   have h:=HLN.out;rw[VS hs] at h
   exact h)
  clear hx hs;by_cases hz:s.data.toList=[]
  ·have hst:(s.data.toList==(⟨#[]⟩:ByteArray).data.toList)=true:=by rw[hz];rfl
   obtain⟨hbB2,Ab2,cb2,An2,cn2,Ap2,cp2,hrg2,hru2⟩:=H.out.fm.ruleB (k:=x) (by simp only;exact⟨hxk.1,by rw[<- hFn];exact hxk.2⟩);have hxn:0<=x/\x<(nn:Int):=⟨hxk.1,by rw[<- hFn];exact hxk.2⟩;have hb16:=(HV0.out.toUsd.rok hxk).bs16;obtain⟨r2,er2⟩:∃r,Qh F x=r:=⟨_,rfl⟩
   have HN0:=Q2 (show RES=apW (uy++r2.bs) (Vh F (names.drop (i+1)) (parts.drop (i+1)) l m) by
    rw[HR2.out,Ke,if_pos hz,er2,Yu])
   rw[er2] at hrg2 hru2 hb16;have HRB2:=Q2 (show Rd W B 1 Ab2 r2.bs.length (bv r2.bs) from hru2.b);clear hru2 er2;obtain⟨us,hzs⟩:∃us,r2.bs=us:=⟨_,rfl⟩;simp only[ruC,hzs] at hrg2;rw[hzs] at hb16 HN0 HRB2;have hc2:W.cell? ⟨bf,of+x.toNat*12+2,none⟩=some (.slice Ab2 us.length cb2):=hrg2 2 _ rfl;clear hrg2 hzs;have hl1:(xs++uy).length+us.length=(xs++(uy++us)).length:=by simp only[List.length_append];omega
   have hb1:bv (xs++uy)++bv us=bv (xs++(uy++us)):=by unfold bv;simp
   have hbnd:(xs++uy).length<=1099511627776+16*i:=by rw[List.length_append];omega
   refine QsT ?_;refine yl<|yn<|y1<|yq ?_;refine Xk [.blk g (.cells ([.slice (some ⟨bf,of,none⟩) nn cf,.slice A' (xs++uy).length c',.int .i64 (m:Int)]:List Value).toArray 77 (0,0))] [17] Q5 ?_;refine Qc 0 rfl Q5 JM zM ?_;refine Qc 1 rfl Q5 JM zM ?_;refine Qc 2 rfl Q5 JM mc5 ?_;refine Qc 3 rfl Q5 JM zF ?_;refine Qc 4 rfl Q5 JM (zB 0) ?_;refine Qc 5 rfl Q5 JM zM ?_;refine Qc 6 rfl Q5 JM mc5 ?_;refine Qc 7 rfl Q5 JM zF ?_;refine Qc 8 rfl Q5 JM zF ?_;refine Qc 9 rfl Q5 JM (zB 0) ?_;refine Qc 10 rfl Q5 JM zM ?_;refine Qc 11 rfl Q5 JM Q6T ?_;refine Qc 12 rfl Q5 JM zF ?_;refine Qc 13 rfl Q5 JM (Xz rfl rfl Q1 rfl rfl (fun w hw=>hw.cell_old hc2 hbM)) ?_;refine QL 14 Q5 rfl rfl (Zt 2 rfl rfl rfl rfl rfl (fun w hw=>(HRB2.out.below Q5i).more Q9b) (ZX _) Q3) (fun _=>.inr JM) rfl Q1 (fun z1 _=>?_);rw[hl1,hb1];refine Qc 15 rfl Q5 JM mc5 ?_;refine Qc 16 rfl Q5 JM zF ?_;refine X6 17 Q5 rfl rfl Qho (fun _=>.inl Q1) rfl (fun _ _=>?_);refine X8 ?_ Q5;refine yn<|ye<|yn<|yr<|yo zP<|yo zM<|yl ?_;refine Qx ⟨i+1,l,uy++us,m,z1.1,z1.2,Ar,cr⟩ ⟨HAL.out,HGL.out,HFL.out,HCL.out,hlt,by show l.len=(QF (names.drop (i+1))).length;rw[HLN2.out,JZ,if_pos hz],HN0.out,by show (uy++us).length+Qv l<=CP+16*(i+1);rw[List.length_append];omega,hm,hcr⟩ Qhu Q8S Zc
  ·have hst:(s.data.toList==(⟨#[]⟩:ByteArray).data.toList)=false:=beq_eq_false_iff_ne.2 hz
   cases l with
   |nil=>
    have h:=HLN2.out;rw[JZ,if_neg hz] at h;simp [VF.len] at h
   |cons d1 p1 r1=>
    obtain⟨bq,oq,hAr,hbq,⟨sb1,sn1,sp1,hc5,hd5⟩,hrest⟩:=HCL.out Q3w;subst hAr;have HV1:=Q2 (show VIn W B Qoe d1 p1 from ⟨sb1,sn1,sp1,rfl,hd5⟩);have hrgv:=hc5.range;have HRS:=Q2 hrest;have hbqM:=hfar bq hbq;clear hc5 hd5 hrest;simp only[Qv] at hy hm;have hlen1:(VF.cons d1 p1 r1).len=r1.len+1:=rfl;rw[hlen1] at hcr ⊢;have hsz1:(xs++uy).length+Qy d1 p1<=1099511627776:=by rw[List.length_append];unfold Qy;omega
    have hno1:m+Qy d1 p1<=1099511627776:=by unfold Qy;omega
    have HR3:=Q2 (show RES=apW uy (bnW (Qs F x d1 p1 m) fun m=>Vh F (names.drop (i+1)) (parts.drop (i+1)) r1 m) by
     rw[HR2.out,Ke,if_neg hz])
    refine QsT ?_;refine yl<|yn<|y0<|ys<|yn<|yq<|yr<|yo zM<|yo zM<|yo zM ?_;refine Q4 Qev ?_;refine Q4 (X4 rfl rfl Q1 rfl rfl (fun w hw=>hw.range_old hrgv hbqM) rfl) ?_;refine Q0V (J9 _ _ _ rfl rfl rfl (fun w hw=>(HAL.out.1 HGL.out.1 HGL.out.2.1 HFL.out.1 HFL.out.2.2.1 HFL.out.2.1 w A' c' (xs++uy) m x _ hxk (H.out.nextW hw 1 2 rfl rfl) (HV1.out.below Q5i Xr) hsz1 hno1).mono (fun e w' h=>Q9f 1 2 Q1 hw rfl rfl (fun x hx=>by rw[HR3.out,hx];rfl) h))) rfl Q1 (fun y hy2=>?_);refine yl ?_;obtain⟨ub,um,uA,uc⟩:=y;obtain⟨hy3,hy4,hy5⟩:=hy2;replace hy3:Qs F x d1 p1 m=.ok (ub,um):=hy3;replace hy4:ub.length<=Qy d1 p1:=hy4;replace hy5:um<=m+Qy d1 p1:=hy5;have HN:=Q2 (show RES=apW (uy++ub) (Vh F (names.drop (i+1)) (parts.drop (i+1)) r1 um) by rw[HR3.out,hy3,Q9U,Yu]);clear hy3;unfold Qy at hy4 hy5;refine yn<|yr<|yo zM ?_;refine Q4 (Q4j (l:=1) rfl rfl Q1 rfl rfl rfl Q3) ?_;refine Qa9 ?_
    refine Qx ⟨i+1,r1,uy++ub,um,uA,uc,ZY (some ⟨bq,oq,none⟩) cr 1 5,cr - 1⟩ ⟨HAL.out.2,HGL.out.2.2,HFL.out.2.2.2,fun h0=>⟨bq,oq+5,by show ZY _ cr 1 5=_;unfold ZY;rw[if_neg (by have:0<r1.len:=h0;omega)];rfl,hbq,HRS.out⟩,hlt,by
     show r1.len=(QF (names.drop (i+1))).length
     have h:=HLN2.out;rw[JZ,if_neg hz] at h
     simp only[VF.len,List.length_cons] at h
     omega,HN.out,by show (uy++ub).length+Qv r1<=CP+16*(i+1);rw[List.length_append];omega,by show um+Qv r1<=n+1+CP;omega,by show r1.len<=cr - 1;omega⟩ Qhu Q8S (fun w hw=>?_)
    simp only[<- List.append_assoc];exact hw
end
end Go.Proofs.YtphkhfdmlcnoeaaGreatDoor
