import Derived.Test.YtphkhfdmlcnoeaaGreatDoorP33
namespace Go.Proofs.YtphkhfdmlcnoeaaGreatDoor
set_option linter.unusedVariables false
set_option linter.unusedSimpArgs false
open Go.RowKit
section
variable {W w w':World}{z:Wz}{B g c n:Nat}{F:List Rl}{A:Option Addr}{xs:List UInt8}{k:Int}{d:Nd}{p:VF}{v:Value}
def WvC(z:Wz)(B g:Nat)(F:List Rl)(d:Nd)(p:VF):Prop:=Xi d p.len=0→Kq p→ZJ d→Zq p→p.len≤1048576→∀(W:World) (A:Option Addr) (c:Nat) (xs:List UInt8) (n:Nat) (k:Int) (v:Value),0≤k∧k<F.length→XI W z B g F A c xs n→VIn W B v d p→xs.length+QK d p≤1099511627776→n+QK d p≤1099511627776→Calls Tryz.prog 45 #[.pointer (some ⟨g,0,none⟩),.int .i64 k,v] W (WrE z g W A c xs (QA F k d p n) n (QK d p))
theorem VK.range{w:World}{b o:Nat}{d:Nd}{sb sn sp:Value}(h:VK w b o d sb sn sp):w.rangeAt b o [.int .i64 d.k,.int .i64 d.n,sb,sn,sp]:=fun j u hu=>by
 obtain⟨h0,h1,h2,h3,h4⟩:=h
 match j,hu with
 |0,hu=>cases hu;exact h0
 |1,hu=>cases hu;exact h1
 |2,hu=>cases hu;exact h2
 |3,hu=>cases hu;exact h3
 |4,hu=>cases hu;exact h4
structure Aw where
 i:Nat
 l:VF
 uy:List UInt8
 m:Nat
 A:Option Addr
 c:Nat
set_option maxRecDepth 100000 in
set_option maxHeartbeats 32000000 in
theorem Q3v{l:VF}(hall:VF.All (WvC z B g F) l)(hgl:Kq l)(hfl:Zq l)(h:XI W z B g F A c xs n)(hk:0≤k∧k<F.length){Ap:Option Addr}{cp:Nat}(hch:0<l.len→∃b o,Ap=some ⟨b,o,none⟩∧b<B∧FIn W B l b o)(hl6:l.len≤1048576)(hsz:xs.length+X3 l≤1099511627776)(hno:n+X3 l≤1099511627776):
  Calls Tryz.prog 85 #[.pointer (some ⟨g,0,none⟩),.int .i64 k,.slice Ap l.len cp] W (WrE z g W A c xs (YF F k l n) n (X3 l)):=by
 have H:=Lib.hid h;have hwd:=h.wd;obtain⟨RES,hres⟩:∃x,YF F k l n=x:=⟨_,rfl⟩;have HR0:=Lib.hid (show RES=apW [] (YF F k l n) by rw[JM,hres]);rw[hres];have HA0:=Lib.hid hall;have HG0:=Lib.hid hgl;have HF0:=Lib.hid hfl;have HC0:=Lib.hid hch;obtain⟨Af,nn,cf⟩:=z;obtain⟨L,hL⟩:∃L,l.len=L:=⟨_,rfl⟩;obtain⟨C,hC⟩:∃C,X3 l=C:=⟨_,rfl⟩;have HLC:=Lib.hid (And.intro hL hC);rw[hL] at hl6 ⊢;rw[hC] at hsz hno ⊢;clear h hres hall hgl hfl hch hL hC
 go_enter Tryz.func85,Tryz.ntmps85
 haveI:Pan (bodyPost Tryz.prog Tryz.f85 (WrE ⟨Af,nn,cf⟩ g W A c xs RES n C)) (Vb RES (wM g A xs.length c) W):=Pan.body fun ch w' ⟨x,h1,h2,h3⟩=>⟨h3,.inl ⟨x,h1,by rw[h2]⟩⟩
 refine QE (M:=wM g A xs.length c) (W:=W) (N:=19) (E:=[(0,.pointer (some ⟨g,0,none⟩)),(1,.int .i64 k),(2,.slice Ap L cp)]) (O:=[.blk g (.cells ([.slice Af nn cf,.slice A xs.length c,.int .i64 (n:Int)]:List Value).toArray 77 (0,0)),.row A xs.length c 5 1 (bv xs)]) ?_ (Ag.cons (Ag.cons (Ag.cons (Ag.nil rfl rfl) rfl) rfl) rfl) hwd;clear hwd;refine yq<|yr<|yo zM<|yo zL<|yo zM<|yl<|yn<|yb ?_;refine Z8 (ι:=Aw) (fun y=>VF.All (WvC ⟨Af,nn,cf⟩ B g F) y.l∧Kq y.l∧Zq y.l∧(0<y.l.len→∃b o,Ap=some ⟨b,o,none⟩∧b<B∧FIn W B y.l b (o+y.i*5))∧y.i+y.l.len=L∧RES=apW y.uy (YF F k y.l y.m)∧y.uy.length+X3 y.l≤C∧y.m+X3 y.l≤n+C) (fun y=>L - y.i) (fun y=>[(0,.pointer (some ⟨g,0,none⟩)),(1,.int .i64 k),(8,.slice Ap L cp),(9,.int .i64 (L:Int)),(10,.int .i64 (y.i:Int))]) (fun y=>[.blk g (.cells ([.slice Af nn cf,.slice y.A (xs++y.uy).length y.c,.int .i64 (y.m:Int)]:List Value).toArray 77 (0,0)),.row y.A (xs++y.uy).length y.c 5 1 (bv (xs++y.uy))]) ⟨0,l,[],n,A,c⟩ ⟨HA0.out,HG0.out,HF0.out,by simpa using HC0.out,by show 0+l.len=L;rw[HLC.out.1,Nat.zero_add],HR0.out,by show 0+X3 l≤C;rw[HLC.out.2];omega,by show n+X3 l≤n+C;rw[HLC.out.2];omega⟩ (.cons rfl rfl (.cons rfl rfl (.cons rfl rfl (.cons rfl rfl (.cons rfl rfl .nil))))) (fun w hw=>?_) ?_
 ·simp only[List.append_nil]
  exact hw
 rintro⟨i,l,uy,m,A',c'⟩ ⟨hall,hgl,hfl,hch,hil,hres,hy,hm⟩
 replace hil:i+l.len=L:=hil
 replace hy:uy.length+X3 l≤C:=hy
 replace hm:m+X3 l≤n+C:=hm
 have HR:=Lib.hid (show RES=apW uy (YF F k l m) from hres);have HAL:=Lib.hid (show VF.All (WvC ⟨Af,nn,cf⟩ B g F) l from hall);have HGL:=Lib.hid (show Kq l from hgl);have HFL:=Lib.hid (show Zq l from hfl);have HCL:=Lib.hid (show 0<l.len→∃b o,Ap=some ⟨b,o,none⟩∧b<B∧FIn W B l b (o+i*5) from hch);clear hall hgl hfl hch hres
 show sE _ _ _ _ _ [(0,.pointer (some ⟨g,0,none⟩)),(1,.int .i64 k),(8,.slice Ap L cp),(9,.int .i64 (L:Int)),(10,.int .i64 (i:Int))] [.blk g (.cells ([.slice Af nn cf,.slice A' (xs++uy).length c',.int .i64 (m:Int)]:List Value).toArray 77 (0,0)),.row A' (xs++uy).length c' 5 1 (bv (xs++uy))] _
 cases l with
 |nil=>
  have hiL:i=L:=hil;have HZ:=Lib.hid (show RES=.ok (uy,m) by rw[HR.out];show Except.ok (uy++[],m)=_;rw[List.append_nil])
  have hy':uy.length≤C:=by simp only[X3] at hy;exact hy
  have hm':m≤n+C:=by simp only[X3] at hm;exact hm
  refine yq<|yr<|yo zlf<|yl<|yn<|yq<|y0<|ye<|yx<|yx<|yu ?_;exact XT (by exact .inl rfl) rfl (fun w hw=>JB H.out 0 1 (b:=uy) hw rfl rfl HZ.out hy' hm')
 |cons d p r=>
  have hilt:i<L:=by simp only[VF.len] at hil;omega
  obtain⟨b,o,rfl,hb,⟨sb,sn,sp,hc5,hd5⟩,hrest⟩:=HCL.out (Nat.succ_pos _);have HV0:=Lib.hid (show VIn W B (.agg #[.int .i64 d.k,.int .i64 d.n,sb,sn,sp]) d p from ⟨sb,sn,sp,rfl,hd5⟩);obtain⟨_,_,_,_,_,_,_,_,rfl,rfl,rfl,_⟩:=hd5;have hrg:=hc5.range;have HV:=HV0;have HRS:=Lib.hid hrest
  have hbM:b∉wM g A xs.length c:=fun hm=>by
   rcases Z3.1 hm with e|e
   ·have:=H.out.hB;omega
   ·have:=(H.out.far _ e).1;omega
  clear hc5 hrest HV0
  simp only[X3] at hy hm
  have hsz1:(xs++uy).length+QK d p≤1099511627776:=by rw[List.length_append];unfold QK;omega
  have hno1:m+QK d p≤1099511627776:=by unfold QK;omega
  refine yq<|yr<|yo zlt<|yl<|yn<|yq<|y1<|ys<|yn<|yq<|yb<|yq<|yr<|yo (zi (hj:=hilt)) ?_;refine Q1 (QB rfl rfl (by decide) rfl rfl (fun w hw=>hw.range_old hrg hbM) rfl) ?_;refine yA fun b7=>?_;refine yW 0 ?_;refine yl<|yn<|yr<|yo zM<|yo zM<|yo (zD 0) ?_;refine XY (QV _ _ _ rfl rfl rfl (fun w hw=>(HAL.out.1 HGL.out.1 HGL.out.2.1 HFL.out.1 HFL.out.2.2.1 HFL.out.2.1 w A' c' (xs++uy) m k _ hk (H.out.nextW hw 1 2 rfl rfl) (HV.out.below (H.out.below hw.k) (Nat.le_refl _)) hsz1 hno1).mono (fun e w' h=>Q0T 1 2 (by decide) hw rfl rfl (fun x hx=>by rw[HR.out];show apW uy (bnW (QA F k d p m) _)=_;rw[hx];rfl) h))) rfl (by decide) (fun y hy2=>?_);refine yl ?_;obtain⟨ub,um,uA,uc⟩:=y;obtain⟨hy3,hy4,hy5⟩:=hy2
  replace hy3:QA F k d p m=.ok (ub,um):=hy3
  replace hy4:ub.length≤QK d p:=hy4
  replace hy5:um≤m+QK d p:=hy5
  have HN:=Lib.hid (show RES=apW (uy++ub) (YF F k r um) by rw[HR.out];show apW uy (bnW (QA F k d p m) _)=_;rw[hy3,Qba,Q0H]);clear hy3
  unfold QK at hy4 hy5
  refine yn<|yr<|yo zP<|yo zM<|yl ?_;refine Xb ⟨i+1,r,uy++ub,um,uA,uc⟩ ⟨HAL.out.2,HGL.out.2.2,HFL.out.2.2.2,fun _=>⟨b,o,rfl,hb,by show FIn W B r b (o+(i+1)*5);rw[show o+(i+1)*5=o+i*5+5 by omega];exact HRS.out⟩,by show i+1+r.len=L;simp only[VF.len] at hil;omega,HN.out,by show (uy++ub).length+X3 r≤C;rw[List.length_append];omega,by show um+X3 r≤n+C;omega⟩ (by show L - (i+1)<L - i;omega) (.cons rfl rfl (.cons rfl rfl (.cons rfl rfl (.cons rfl rfl (.cons rfl (by go_num) .nil))))) (fun w hw=>?_);have h:=hw.tl
  simp only[← List.append_assoc]
  exact h
set_option maxRecDepth 100000 in
set_option maxHeartbeats 32000000 in
theorem QfU(hall:VF.All (WvC z B g F) p)(hgp:Kq p)(hfp:Zq p)(hv:Fm F)(hk:0≤k∧k<F.length)(h:XI W z B g F A c xs n)(hval:VIn W B v d p)(hd1:d.bs.length≤1048576)(hd2:d.ns.length≤1048576)(hn0:Xi d p.len=0)(hpl6:p.len≤1048576)(hsz:xs.length+QK d p≤1099511627776)(hno:n+QK d p≤1099511627776)(hfit:X8 F (Qd F k) d p=true)(hkind:(Qd F k).kind=6):
  Calls Tryz.prog 45 #[.pointer (some ⟨g,0,none⟩),.int .i64 k,v] W (WrE z g W A c xs (QA F k d p n) n (QK d p)):=by
 have H:=Lib.hid h;have HV0:=Lib.hid hv;have hwd:=h.wd;have hFn:=h.len;have hr:=hv.toUsd.rok hk
 have hfc:=fun(w:World) (Ab An Ap:Option Addr) (cb cn cp:Nat) (hw:XI w z B g F A c xs n) (hru:RuB w B (Qd F k) Ab cb An cn Ap cp) (hval:VIn w B v d p)=>XW hw hv hk hru hval hd1 hd2
 rw[hfit] at hfc;obtain⟨RES,hres⟩:∃x,QA F k d p n=x:=⟨_,rfl⟩;have HVAL:=Lib.hid hval;have HALL:=Lib.hid hall;have HGP:=Lib.hid hgp;have HFP:=Lib.hid hfp;clear hall hgp hfp;have HK0:=Lib.hid (show (Qd F k).kind=6 from hkind);have HL:=Lib.hid (show RES=apW (VN (Qd F (Qd F k).count) (p.len:Int)) (YF F (Qd F k).elem p (n+1)) by rw[← hres];exact Qcs hfit hkind)
 have hcnt:Ju (Qd F (Qd F k).count) (p.len:Int)=true:=by rw[Q4T hkind,Bool.and_eq_true] at hfit;exact hfit.2
 have hNO:=hv.numOk hk (.inl hkind);have hct:=hr.count (.inl hkind);have hel:=hr.elem (.inl hkind);rw[hres];obtain⟨Af,nn,cf⟩:=z
 simp only at hFn
 obtain⟨bf,of,haf,_⟩:=h.fm.2 (show 0<nn by omega)
 simp only at haf
 subst haf;obtain⟨hbB,Ab,cb,An,cn,Ap,cp,hrg,hru⟩:=h.fm.ruleB (k:=k) (by simp only;omega)
 have hbM:bf∉wM g A xs.length c:=fun hm=>by
  rcases Z3.1 hm with e|e
  ·have:=h.hB;omega
  ·have:=(h.far _ e).1;omega
 have hkn:0≤k∧k<(nn:Int):=by omega
 have hBW:B≤W.heap.size:=by have:=h.hB;have:=h.lt;omega
 replace hfc:=fun(w:World) (hw:XI w _ B g F A c xs n) (hr:RuB w B (Qd F k) Ab cb An cn Ap cp) (hvl:VIn w B v d p)=>hfc w Ab An Ap cb cn cp hw hr hvl
 clear h;obtain⟨r,er⟩:∃r,Qd F k=r:=⟨_,rfl⟩;rw[er] at hr hrg hru hfc HK0 HL hcnt hNO hct hel;clear er hfit;obtain⟨sb,sn,sp,rfl,Abv,nb,cbv,Anv,nnv,cnv,Apv,cpv,rfl,rfl,rfl,hnb,hnn,hpl,hcm,hrb,hrn,hch⟩:=hval
 have hnbl:d.bs.length=nb:=by have:=hrb.len;rw[Xu] at this;exact this
 have hnnl:d.ns.length=nnv:=by have:=hrn.len;rw[XB] at this;exact this
 subst hnbl hnnl;have HRB:=Lib.hid hrb;have HCH:=Lib.hid hch;have HRU:=Lib.hid hru;have HRK:=Lib.hid hr;have HD:=Lib.hid (Eq.refl d);obtain⟨dk,dn,dbs,dns⟩:=d
 simp only[QK] at hsz hno hd1 hd2 hnb hnn ⊢
 clear hrb hrn hch hru hv;obtain⟨name,kind,bs,size,big,mn,mx,stop,count,elem,names,parts⟩:=r;obtain⟨hbB2,Ab2,cb2,An2,cn2,Ap2,cp2,hrg2,hru2⟩:=H.out.fm.ruleB (k:=count) (by simp only;exact⟨hct.1,by rw[← hFn];exact hct.2⟩);have hct2:0≤count∧count<(nn:Int):=⟨hct.1,by rw[← hFn];exact hct.2⟩
 simp only at hcnt hNO HL
 obtain⟨r2,er2⟩:∃r,Qd F count=r:=⟨_,rfl⟩;rw[er2] at hrg2 hcnt hNO HL;clear er2 hru2
 have hnc:=fun(w:World) (hw:XI w ⟨some ⟨bf,of,none⟩,nn,cf⟩ B g F A c xs (n+1))=>YK hw (sb:=.slice Ab2 r2.bs.length cb2) (sn:=.slice An2 r2.names.length cn2) (sp:=.slice Ap2 r2.parts.length cp2) hNO hcnt (by omega)
 have hnl:=Kx hNO hcnt;obtain⟨uy,hys⟩:∃uy,VN r2 (p.len:Int)=uy:=⟨_,rfl⟩
 simp only[hys] at hnc hnl HL
 clear hys hNO hcnt hct;obtain⟨name2,kind2,bs2,size2,big2,mn2,mx2,stop2,count2,elem2,names2,parts2⟩:=r2
 simp only[ruC] at hnc hrg2
 have HNC:=Lib.hid hnc;clear hnc
 simp only[ruC] at hr hrg hfc HK0
 have HFC:=Lib.hid hfc;have HRUB:=Lib.hid (show Rd W B 1 Ab bs.length (bv bs) from HRU.out.b);clear hfc
 go_enter Tryz.func45,Tryz.ntmps45
 haveI:Pan (bodyPost Tryz.prog Tryz.f45 (WrE ⟨some ⟨bf,of,none⟩,nn,cf⟩ g W A c xs RES n (300+dbs.length+X3 p))) (Vb RES (wM g A xs.length c) W):=Pan.body fun ch w' ⟨x,h1,h2,h3⟩=>⟨h3,.inl ⟨x,h1,by rw[h2]⟩⟩
 refine QE (M:=wM g A xs.length c) (W:=W) (N:=223) (E:=[(0,.pointer (some ⟨g,0,none⟩)),(1,.int .i64 k),(2,.agg [.int .i64 dk,.int .i64 dn,.slice Abv dbs.length cbv,.slice Anv dns.length cnv,.slice Apv p.len cpv].toArray)]) (O:=[.blk g (.cells ([.slice (some ⟨bf,of,none⟩) nn cf,.slice A xs.length c,.int .i64 (n:Int)]:List Value).toArray 77 (0,0)),.row A xs.length c 5 1 (bv xs)]) ?_ (Ag.cons (Ag.cons (Ag.cons (Ag.nil rfl rfl) rfl) rfl) rfl) hwd;clear hwd;refine yq<|yr ?_;refine yB fun b5=>?_;refine yl<|yn<|yq<|yr<|yo zM ?_;refine Q1 (Qp rfl rfl (by decide) rfl rfl) ?_;refine yo zF<|yo zF<|yo (zB 1)<|yo zM ?_;refine Q1 (Qm rfl rfl (by decide) rfl rfl rfl hkn) ?_;refine Q1 (QB rfl rfl (by decide) rfl rfl (fun w hw=>hw.range_old hrg hbM) rfl) ?_;refine yA fun b6=>?_;refine yW 0 ?_;refine yl<|yn<|yq<|yq<|yr<|yo zM<|yo (zD 0)<|yo (zD 1) ?_;refine Q1 (Qb rfl rfl (by decide) rfl rfl (fun w hw=>HFC.out w (H.out.nextW hw 2 3 rfl rfl) (HRU.out.below (H.out.below hw.k)) (HVAL.out.below (H.out.below hw.k) (Nat.le_refl _)))) ?_;refine yo zO<|yl ?_;have hkd:kind=6:=HK0.out;subst hkd;have hel':0≤elem∧elem<F.length:=hel
 have hsz1:(xs++uy).length+X3 p≤1099511627776:=by rw[List.length_append];omega
 have hno1:(n+1)+X3 p≤1099511627776:=by omega
 have e1:(n:Int)+1=((n+1:Nat):Int):=rfl;refine yn<|y0<|ys<|yn<|yq<|yr<|yo zM ?_;refine Q1 (Qp rfl rfl (by decide) rfl rfl) ?_;refine yo zF<|yo (zB 2)<|yo zP ?_;refine Q1 (Qp rfl rfl (by decide) rfl rfl) ?_;refine yo zF ?_;refine yS 2 ?_;refine yl<|yn<|yq<|yr<|yo zF<|yo (zB 0)<|yl<|yn<|yb<|yq<|yr<|yo zef<|yo zA<|yl<|yn<|y0<|yq<|yq<|yr<|yo zef<|yo zA<|yl<|yn<|y0<|yr<|yo zef<|yo zA<|yl<|yn<|y0<|yq<|yr<|yo zef<|yo zA<|yl<|yn<|y0<|yq<|yr<|yo zef<|yo zA<|yl<|yn<|y0<|yq<|yr<|yo zef<|yo zA<|yl<|yn<|y0<|yq<|yr<|yo zet<|yo zA<|yl<|yn<|y1<|yq ?_;rw[e1];refine JR (B:=Vb RES (wM g A xs.length c) W) [.blk b6 (.cells ([.string ⟨name.toArray⟩,.int .i64 6,.slice Ab bs.length cb,.int .i64 size,.bool big,.int .i64 mn,.int .i64 mx,.int .i64 stop,.int .i64 count,.int .i64 elem,.slice An names.length cn,.slice Ap parts.length cp]:List Value).toArray 65 (0,0)),.blk b5 (.cells ([.int .i64 dk,.int .i64 dn,.slice Abv dbs.length cbv,.slice Anv dns.length cnv,.slice Apv p.len cpv]:List Value).toArray 30 (0,0)),.blk g (.cells ([.slice (some ⟨bf,of,none⟩) nn cf,.slice A xs.length c,.int .i64 (n+1:Int)]:List Value).toArray 77 (0,0))] [13] (by kernel_rfl) ?_ ?_
 ·infer_instance
 refine Xp 0 rfl (by kernel_rfl) (Q2.sel [0,1,2] (by decide) rfl) zM ?_;refine Xp 1 rfl (by kernel_rfl) (Q2.sel [0,1,2] (by decide) rfl) zM ?_;refine Xp 2 rfl (by kernel_rfl) (Q2.sel [0,1,2] (by decide) rfl) (Qp rfl rfl (by decide) rfl rfl) ?_;refine Xp 3 rfl (by kernel_rfl) (Q2.sel [0,1,2] (by decide) rfl) zF ?_;refine Xp 4 rfl (by kernel_rfl) (Q2.sel [0,1,2] (by decide) rfl) zF ?_;refine Xp 5 rfl (by kernel_rfl) (Q2.sel [0,1,2] (by decide) rfl) (zB 2) ?_;refine Xp 6 rfl (by kernel_rfl) (Q2.sel [0,1,2] (by decide) rfl) zF ?_;refine Xp 7 rfl (by kernel_rfl) (Q2.sel [0,1,2] (by decide) rfl) (zB 0) ?_;refine Xp 8 rfl (by kernel_rfl) (Q2.sel [0,1,2] (by decide) rfl) (Qm rfl rfl (by decide) rfl rfl rfl hct2) ?_;refine Xp 9 rfl (by kernel_rfl) (Q2.sel [0,1,2] (by decide) rfl) (QB rfl rfl (by decide) rfl rfl (fun w hw=>hw.range_old hrg2 hbM) rfl) ?_;refine Xp 10 rfl (by kernel_rfl) (Q2.sel [0,1,2] (by decide) rfl) zF ?_;refine Xp 11 rfl (by kernel_rfl) (Q2.sel [0,1,2] (by decide) rfl) (zB 1) ?_;refine Xp 12 rfl (by kernel_rfl) (Q2.sel [0,1,2] (by decide) rfl) zL ?_;refine Ks 13 (by kernel_rfl) rfl rfl (QV _ _ _ rfl rfl rfl (fun w hw=>(HNC.out w (H.out.nextW hw 2 3 rfl rfl)).mono (fun e w' h=>Q0T 2 3 (by decide) hw rfl rfl (fun x hx=>by cases hx) h))) (fun i=>.inl (by decide)) rfl (by decide) (fun y hy=>?_);refine Q4s ?_ (by kernel_rfl);obtain⟨ub,um,uA,uc⟩:=y;obtain⟨hy1,hy2,hy3⟩:=hy
 injection hy1 with hy1
 injection hy1 with hyb hym
 simp only at hyb hym
 subst hyb hym;refine yn<|yr<|yo zM<|yo zF<|yo (zB 0)<|yo zF<|yo (zB 1) ?_;refine XY (QV _ _ _ rfl rfl rfl (fun w hw=>(Q3v HALL.out HGP.out HFP.out (H.out.nextW hw 2 3 rfl rfl) hel' (fun h0=>by obtain⟨b,o,h1,h2,h3⟩:=HCH.out h0;exact⟨b,o,h1,h2,h3.below h2 (H.out.below hw.k) (Nat.le_refl _)⟩) hpl6 hsz1 hno1).mono (fun e w' h=>Q0T 2 3 (by decide) hw rfl rfl (fun x hx=>by rw[HL.out];show apW uy (YF F elem p (n+1))=_;rw[hx];rfl) h))) rfl (by decide) (fun y hy=>?_);refine yl ?_;obtain⟨rb1,rm1,rA1,rc1⟩:=y;obtain⟨hz1,hz2,hz3⟩:=hy
 replace hz1:YF F elem p (n+1)=.ok (rb1,rm1):=hz1
 replace hz2:rb1.length≤X3 p:=hz2
 replace hz3:rm1≤n+1+X3 p:=hz3
 have HZ:=Lib.hid (show RES=.ok (uy++rb1,rm1) by rw[HL.out];show apW uy (YF F elem p (n+1))=_;rw[hz1];rfl);clear hz1;have hbl:(uy++rb1).length=uy.length+rb1.length:=List.length_append ..
 simp only[List.append_assoc]
 refine yd ?_;exact XT (by exact .inl rfl) rfl (fun w hw=>JB H.out 2 3 (b:=uy++rb1) hw rfl rfl HZ.out (by omega) (by omega))
set_option maxRecDepth 100000 in
set_option maxHeartbeats 32000000 in
theorem QfV(hall:VF.All (WvC z B g F) p)(hgp:Kq p)(hfp:Zq p)(hv:Fm F)(hk:0≤k∧k<F.length)(h:XI W z B g F A c xs n)(hval:VIn W B v d p)(hd1:d.bs.length≤1048576)(hd2:d.ns.length≤1048576)(hn0:Xi d p.len=0)(hpl6:p.len≤1048576)(hsz:xs.length+QK d p≤1099511627776)(hno:n+QK d p≤1099511627776)(hfit:X8 F (Qd F k) d p=true)(hkind:(Qd F k).kind=9):
  Calls Tryz.prog 45 #[.pointer (some ⟨g,0,none⟩),.int .i64 k,v] W (WrE z g W A c xs (QA F k d p n) n (QK d p)):=by
 have H:=Lib.hid h;have HV0:=Lib.hid hv;have hwd:=h.wd;have hFn:=h.len;have hr:=hv.toUsd.rok hk
 have hfc:=fun(w:World) (Ab An Ap:Option Addr) (cb cn cp:Nat) (hw:XI w z B g F A c xs n) (hru:RuB w B (Qd F k) Ab cb An cn Ap cp) (hval:VIn w B v d p)=>XW hw hv hk hru hval hd1 hd2
 rw[hfit] at hfc;obtain⟨RES,hres⟩:∃x,QA F k d p n=x:=⟨_,rfl⟩;have HVAL:=Lib.hid hval;have HALL:=Lib.hid hall;have HGP:=Lib.hid hgp;have HFP:=Lib.hid hfp;clear hall hgp hfp;have HK0:=Lib.hid (show (Qd F k).kind=9 from hkind);have HL:=Lib.hid (show RES=bnW (YF F (Qd F k).elem p (n+1)) fun m=>.ok ([Zk (Qd F k)],m) by rw[← hres];exact Qb8 hfit hkind);have hel:=hr.elem (.inr hkind);rw[hres];obtain⟨Af,nn,cf⟩:=z
 simp only at hFn
 obtain⟨bf,of,haf,_⟩:=h.fm.2 (show 0<nn by omega)
 simp only at haf
 subst haf;obtain⟨hbB,Ab,cb,An,cn,Ap,cp,hrg,hru⟩:=h.fm.ruleB (k:=k) (by simp only;omega)
 have hbM:bf∉wM g A xs.length c:=fun hm=>by
  rcases Z3.1 hm with e|e
  ·have:=h.hB;omega
  ·have:=(h.far _ e).1;omega
 have hkn:0≤k∧k<(nn:Int):=by omega
 have hBW:B≤W.heap.size:=by have:=h.hB;have:=h.lt;omega
 replace hfc:=fun(w:World) (hw:XI w _ B g F A c xs n) (hr:RuB w B (Qd F k) Ab cb An cn Ap cp) (hvl:VIn w B v d p)=>hfc w Ab An Ap cb cn cp hw hr hvl
 clear h;obtain⟨r,er⟩:∃r,Qd F k=r:=⟨_,rfl⟩;rw[er] at hr hrg hru hfc HK0 HL hel;clear er hfit;obtain⟨sb,sn,sp,rfl,Abv,nb,cbv,Anv,nnv,cnv,Apv,cpv,rfl,rfl,rfl,hnb,hnn,hpl,hcm,hrb,hrn,hch⟩:=hval
 have hnbl:d.bs.length=nb:=by have:=hrb.len;rw[Xu] at this;exact this
 have hnnl:d.ns.length=nnv:=by have:=hrn.len;rw[XB] at this;exact this
 subst hnbl hnnl;have HRB:=Lib.hid hrb;have HCH:=Lib.hid hch;have HRU:=Lib.hid hru;have HRK:=Lib.hid hr;have HD:=Lib.hid (Eq.refl d);obtain⟨dk,dn,dbs,dns⟩:=d
 simp only[QK] at hsz hno hd1 hd2 hnb hnn ⊢
 clear hrb hrn hch hru hv;obtain⟨name,kind,bs,size,big,mn,mx,stop,count,elem,names,parts⟩:=r
 simp only[ruC,Zk] at hr hrg hfc HK0 HL
 have HFC:=Lib.hid hfc;have HRUB:=Lib.hid (show Rd W B 1 Ab bs.length (bv bs) from HRU.out.b);clear hfc
 go_enter Tryz.func45,Tryz.ntmps45
 haveI:Pan (bodyPost Tryz.prog Tryz.f45 (WrE ⟨some ⟨bf,of,none⟩,nn,cf⟩ g W A c xs RES n (300+dbs.length+X3 p))) (Vb RES (wM g A xs.length c) W):=Pan.body fun ch w' ⟨x,h1,h2,h3⟩=>⟨h3,.inl ⟨x,h1,by rw[h2]⟩⟩
 refine QE (M:=wM g A xs.length c) (W:=W) (N:=223) (E:=[(0,.pointer (some ⟨g,0,none⟩)),(1,.int .i64 k),(2,.agg [.int .i64 dk,.int .i64 dn,.slice Abv dbs.length cbv,.slice Anv dns.length cnv,.slice Apv p.len cpv].toArray)]) (O:=[.blk g (.cells ([.slice (some ⟨bf,of,none⟩) nn cf,.slice A xs.length c,.int .i64 (n:Int)]:List Value).toArray 77 (0,0)),.row A xs.length c 5 1 (bv xs)]) ?_ (Ag.cons (Ag.cons (Ag.cons (Ag.nil rfl rfl) rfl) rfl) rfl) hwd;clear hwd;refine yq<|yr ?_;refine yB fun b5=>?_;refine yl<|yn<|yq<|yr<|yo zM ?_;refine Q1 (Qp rfl rfl (by decide) rfl rfl) ?_;refine yo zF<|yo zF<|yo (zB 1)<|yo zM ?_;refine Q1 (Qm rfl rfl (by decide) rfl rfl rfl hkn) ?_;refine Q1 (QB rfl rfl (by decide) rfl rfl (fun w hw=>hw.range_old hrg hbM) rfl) ?_;refine yA fun b6=>?_;refine yW 0 ?_;refine yl<|yn<|yq<|yq<|yr<|yo zM<|yo (zD 0)<|yo (zD 1) ?_;refine Q1 (Qb rfl rfl (by decide) rfl rfl (fun w hw=>HFC.out w (H.out.nextW hw 2 3 rfl rfl) (HRU.out.below (H.out.below hw.k)) (HVAL.out.below (H.out.below hw.k) (Nat.le_refl _)))) ?_;refine yo zO<|yl ?_;have hkd:kind=9:=HK0.out;subst hkd;have hel':0≤elem∧elem<F.length:=hel;obtain⟨sB,hsB⟩:∃b:UInt8,UInt8.ofNat (stop % 256).toNat=b:=⟨_,rfl⟩
 have hcv:IntKind.u8.wrap stop=(sB.toNat:Int):=by rw[Q7e,hsB]
 rw[hsB] at HL
 have hsz1:xs.length+X3 p≤1099511627776:=by omega
 have hno1:(n+1)+X3 p≤1099511627776:=by omega
 have e1:(n:Int)+1=((n+1:Nat):Int):=rfl;refine yn<|y0<|ys<|yn<|yq<|yr<|yo zM ?_;refine Q1 (Qp rfl rfl (by decide) rfl rfl) ?_;refine yo zF<|yo (zB 2)<|yo zP ?_;refine Q1 (Qp rfl rfl (by decide) rfl rfl) ?_;refine yo zF ?_;refine yS 2 ?_;refine yl<|yn<|yq<|yr<|yo zF<|yo (zB 0)<|yl<|yn<|yb<|yq<|yr<|yo zef<|yo zA<|yl<|yn<|y0<|yq<|yq<|yr<|yo zef<|yo zA<|yl<|yn<|y0<|yr<|yo zef<|yo zA<|yl<|yn<|y0<|yq<|yr<|yo zef<|yo zA<|yl<|yn<|y0<|yq<|yr<|yo zef<|yo zA<|yl<|yn<|y0<|yq<|yr<|yo zef<|yo zA<|yl<|yn<|y0<|yq<|yr<|yo zef<|yo zA<|yl<|yn<|y0<|yq<|yr<|yo zet<|yo zA<|yl ?_;rw[e1];refine yn<|y1<|yq<|yr<|yo zM<|yo zF<|yo (zB 0)<|yo zF<|yo (zB 1) ?_;refine XY (QV _ _ _ rfl rfl rfl (fun w hw=>(Q3v HALL.out HGP.out HFP.out (H.out.nextW hw 2 3 rfl rfl) hel' (fun h0=>by obtain⟨b,o,h1,h2,h3⟩:=HCH.out h0;exact⟨b,o,h1,h2,h3.below h2 (H.out.below hw.k) (Nat.le_refl _)⟩) hpl6 hsz1 hno1).mono (fun e w' h=>Q0T 2 3 (by decide) hw rfl rfl (fun x hx=>by rw[HL.out];show bnW (YF F elem p (n+1)) _=_;rw[hx];rfl) h))) rfl (by decide) (fun y hy=>?_);refine yl ?_;obtain⟨uy,um,uA,uc⟩:=y;obtain⟨hz1,hz2,hz3⟩:=hy
 replace hz1:YF F elem p (n+1)=.ok (uy,um):=hz1
 replace hz2:uy.length≤X3 p:=hz2
 replace hz3:um≤n+1+X3 p:=hz3
 have HZ:=Lib.hid (show RES=.ok (uy++[sB],um) by rw[HL.out];show bnW (YF F elem p (n+1)) _=_;rw[hz1];rfl);clear hz1
 have hl1:(xs++uy).length+1=(xs++(uy++[sB])).length:=by simp only[List.length_append,List.length_cons,List.length_nil];omega
 have hb1:bv (xs++uy)++[.int .u8 (sB.toNat:Int)]=bv (xs++(uy++[sB])):=by unfold bv;simp
 have hbl:(uy++[sB]).length=uy.length+1:=List.length_append ..
 have hbnd:(xs++uy).length≤1099511627776:=by rw[List.length_append];omega
 refine yn ?_;refine XQ [.blk b6 (.cells ([.string ⟨name.toArray⟩,.int .i64 9,.slice Ab bs.length cb,.int .i64 size,.bool big,.int .i64 mn,.int .i64 mx,.int .i64 stop,.int .i64 count,.int .i64 elem,.slice An names.length cn,.slice Ap parts.length cp]:List Value).toArray 65 (0,0)),.blk g (.cells ([.slice (some ⟨bf,of,none⟩) nn cf,.slice uA (xs++uy).length uc,.int .i64 (um:Int)]:List Value).toArray 77 (0,0))] [12] (by kernel_rfl) ?_;refine Qe 0 rfl (by kernel_rfl) (Q2.sel [0,2] (by decide) rfl) zM ?_;refine Qe 1 rfl (by kernel_rfl) (Q2.sel [0,2] (by decide) rfl) zM ?_;refine Qe 2 rfl (by kernel_rfl) (Q2.sel [0,2] (by decide) rfl) (Qp rfl rfl (by decide) rfl rfl) ?_;refine Qe 3 rfl (by kernel_rfl) (Q2.sel [0,2] (by decide) rfl) zF ?_;refine Qe 4 rfl (by kernel_rfl) (Q2.sel [0,2] (by decide) rfl) (zB 1) ?_;refine Qe 5 rfl (by kernel_rfl) (Q2.sel [0,2] (by decide) rfl) zF ?_;refine Qe 6 rfl (by kernel_rfl) (Q2.sel [0,2] (by decide) rfl) (zB 0) ?_;refine Qe 7 rfl (by kernel_rfl) (Q2.sel [0,2] (by decide) rfl) (XE rfl rfl (by decide) rfl rfl (by rw[Tryz.underlying3];rfl) Tryz.underlying5 hcv) ?_;refine QC 8 (by kernel_rfl) rfl rfl (XF rfl rfl rfl rfl rfl (by simp)) (fun _=>.inr (Q2.sel [1,3] (by decide) rfl)) rfl (by decide) (fun bn _=>?_);refine QC 9 (by kernel_rfl) rfl rfl (X9 4 rfl rfl rfl rfl rfl (fun w hw=>hw.rd_blk 0 rfl rfl) (by simp [Value.oneCell']) (by omega)) (fun _=>.inr (Q2.sel [1,3] (by decide) rfl)) rfl (by decide) (fun z2 _=>?_);rw[hl1,hb1];refine Qe 10 rfl (by kernel_rfl) (Q2.sel [1,3] (by decide) rfl) (Qp rfl rfl (by decide) rfl rfl) ?_;refine Qe 11 rfl (by kernel_rfl) (Q2.sel [1,3] (by decide) rfl) zF ?_;refine Qu 12 (by kernel_rfl) rfl rfl (X0 3 rfl rfl rfl rfl rfl rfl rfl) (fun _=>.inl (by decide)) rfl (fun _ _=>?_);refine Xh ?_ (by kernel_rfl);refine yd ?_;exact XT (by exact .inl rfl) rfl (fun w hw=>JB H.out 3 4 (b:=uy++[sB]) (m:=um) hw rfl rfl HZ.out (by omega) (by omega))
end
end Go.Proofs.YtphkhfdmlcnoeaaGreatDoor
