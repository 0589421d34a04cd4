import Derived.Test.YtphkhfdmlcnoeaaGreatDoorP29
namespace Go.Proofs.YtphkhfdmlcnoeaaGreatDoor
set_option linter.unusedVariables false
set_option linter.unusedSimpArgs false
open Go.RowKit
theorem Q3A(N:List (List UInt8))(s:ByteArray):sv (N++[s.data.toList])=sv N++[.string s]:=by
 unfold sv
 rw[List.map_append]
 rfl
section
variable {P:Program}{ops:Array Oper}{Q:Exit→Act→World→Prop}{N:Nat}{E E':Env}{o:Oper}{M:List Nat}{W:World}{O O0:List Qc}{T:List Nat}{f:Nat}{listed:Array Bool}
theorem Q7f(k:Nat)(hB:Region.ready .any ops listed=[k])(ho:ops[k]? =some o)(hT:k∈T∨Q2 M W O0 O)(h1:oE P ops (Wd M W O) N E E' o)(h2:dE P ops Q N M W O0 T f (listed.setIfInBounds k true) E' O):dE P ops Q N M W O0 T (f+1) listed E O:=fun hcl a ha=>by
 refine⟨fun h0=>absurd (hB.symm.trans h0) (by simp),fun i hi=>?_⟩;rw[hB] at hi;rw[List.mem_singleton] at hi;subst hi
 have hr':i∈Region.ready .any ops listed:=by rw[hB];exact List.mem_singleton.2 rfl
 have h:=h1 a ha
 have key:∀{v:Value},Zw P ops (Wd M W O) o a v→Ag N E' (a.put o.dst v)→Jy P ops (Wd M W O0) T i a (Wd M W O) (Q0o P ops (Wd M W O0) T Q f (listed.setIfInBounds i true)):=fun hq hE=>by
  have h0:=Zw.step (P:=P) (ops:=ops) (T:=T) (C0:=Wd M W O) (D:=Wd M W O) (K:=Q0o P ops (Wd M W O0) T Q f (listed.setIfInBounds i true)) ho hq Wd.stb (fun w hw=>hw) (h2 (hcl.set hr') _ hE)
  unfold Jy at h0 ⊢
  simp only[ho] at h0 ⊢
  rcases h0 with h0|⟨hw,ι,V,G,h1,h2,h3⟩
  ·exact .inl h0
  ·refine .inr ⟨hw,ι,V,G,h1,fun x=>⟨(h2 x).1,?_⟩,h3⟩
   rcases (h2 x).2 with hx|hx
   ·exact .inl hx
   ·exact hT.imp id fun hT w hw=>hT w (hx w hw)
 split at h
 ·rename_i hw
  obtain⟨v,hv,hE⟩:=h;exact key (.inl ⟨hw,hv⟩) hE
 ·rename_i hw
  exact key (.inr ⟨by simpa using hw,rfl⟩) h
end
section
variable {W w w':World}{z:Rv}{B g p i:Nat}{F:List Rl}{D:List UInt8}{O L:List Qc}{o o':Obj}{e:Ending}{α:Type}{RES:Rdg α}{k:Int}
structure Sq where
 N:List (List UInt8)
 A:VF
 cs:List Value
 Ar:Option Addr
 c:Nat
 Nr:Option Addr
 cN:Nat
 L:List Qc
 q:Nat
 i:Nat
theorem JO.keepL{L:List Qc}{cs:List Value}{l:VF}(h:JO L cs l)(L':List Qc):JO (L++L') cs l:=⟨h.1,fun w hw=>h.2 w fun x hx=>hw x (List.mem_append_left _ hx)⟩
theorem Yz{α:Type}{l:List α}{i:Nat}{x:α}(h:l[i]? =some x):l.drop i=x::l.drop (i+1):=by
 obtain⟨h1,rfl⟩:=List.getElem?_eq_some_iff.1 h;exact List.drop_eq_getElem_cons h1
theorem Qah{one:Int→Nat→Rdg (Nd×VF×Nat)}{N ns:List (List UInt8)}{A:VF}{nm:List UInt8}{k:Int}{ks:List Int}{p:Nat}{γ:Type}{gg:List (List UInt8)×VF×Nat→Rdg γ}(h:∃r,rb (JU one N A (nm::ns) (k::ks) p) gg=some r):∃y,one k p=some y:=by
 obtain⟨r,h⟩:=h
 cases h1:one k p with
 |none=>unfold JU at h;rw[Zt,h1] at h;cases h
 |some y=>exact⟨y,rfl⟩
set_option maxRecDepth 100000 in
set_option maxHeartbeats 32000000 in
theorem Qds(hv:Fm F)(f:Nat)(IH:IHv z B g F D f)(hsome:∃y,Qx F D (f+1) k p=some y)(hk:0≤k∧k<F.length)(h:J0 W z B g F D p)(hkind:(Qd F k).kind=7):
  Calls Tryz.prog 32 #[.pointer (some ⟨g,0,none⟩),.int .i64 k] W (VlE z g W (Qx F D (f+1) k p)):=by
 have H:=Lib.hid h;have hwd:=h.wd;have hp:=h.hp;have hD:=h.hD;have hFn:=h.len.2;have hr:=hv.toUsd.rok hk;obtain⟨RES,hres⟩:∃x,Qx F D (f+1) k p=x:=⟨_,rfl⟩;have e7:=(Qde (F:=F) (D:=D) (f:=f) (p:=p) (k:=k) hkind).symm.trans hres;have hpt:=hr.parts (.inl hkind);have hp12:=hr.p12;have hse:=hr.seven hkind;rw[hres] at hsome ⊢;have HS:=Lib.hid hsome;have HIH:=Lib.hid IH;obtain⟨Af,As,Ad,nn,nd,cf,cs,cd⟩:=z
 simp only at hFn
 obtain⟨bf,of,haf⟩:=h.af (show 0<nn by omega)
 simp only at haf
 subst haf;obtain⟨hbB,Ab,cb,An,cn,Ap,cp,hrg,hru⟩:=h.env.fm.ruleB (k:=k) (by simp only;omega)
 have hbg:¬bf=g:=by have:=h.hB;omega
 have hkn:0≤k∧k<(nn:Int):=by omega
 clear h hres hsome IH;obtain⟨r,er⟩:∃r,Qd F k=r:=⟨_,rfl⟩;rw[er] at hkind hr hrg hru e7 hpt hp12 hse;clear er;have HRK:=Lib.hid hr;have HRU:=Lib.hid hru;clear hru;obtain⟨name,kind,bs,size,big,mn,mx,stop,count,elem,names,parts⟩:=r
 simp only[ruC] at hkind hr hrg e7 hpt hp12 hse
 have HRB:=Lib.hid (show Rd W B 1 Ab bs.length (bv bs) from HRU.out.b)
 go_enter Tryz.func32,Tryz.ntmps32
 haveI:Pan (bodyPost Tryz.prog Tryz.f32 (VlE ⟨some ⟨bf,of,none⟩,As,Ad,nn,nd,cf,cs,cd⟩ g W RES)) (V7 RES g W):=Pan.body fun ch w' ⟨x,h1,h2,h3⟩=>⟨h3,.inl ⟨x,h1,by rw[h2]⟩⟩
 refine QE (M:=[g]) (W:=W) (N:=181) (E:=[(0,.pointer (some ⟨g,0,none⟩)),(1,.int .i64 k)]) (O:=[.blk g (.cells ([.slice (some ⟨bf,of,none⟩) nn cf,.slice As nn cs,.slice Ad nd cd,.int .i64 (p:Int)]:List Value).toArray 60 (0,0))]) ?_ (Ag.cons (Ag.cons (Ag.nil rfl rfl) rfl) rfl) hwd;clear hwd;refine yq<|yr ?_;refine yB fun b2=>?_;refine yA fun b4=>?_;refine yl<|yn<|yq<|yr<|yo (zB 1) ?_;refine Q1 (Qp rfl rfl (by decide) rfl rfl) ?_;refine yo zF<|yo zF<|yo (zB 2)<|yo zM ?_;refine Q1 (Qm rfl rfl (by decide) rfl rfl rfl hkn) ?_;refine Q1 (QB rfl rfl (by decide) rfl rfl (fun w hw=>hw.range_old hrg (by simpa using hbg)) rfl) ?_;refine yA fun b5=>?_;refine yW 0 ?_;refine yl<|yn<|yq<|yq<|yr<|yo zF<|yo (zB 0)<|yl ?_;subst hkind;have HE:=Lib.hid e7;have HPT:=Lib.hid hpt;have HRP:=Lib.hid (show Rd W B 1 Ap parts.length (iv parts) from HRU.out.p);have HRN:=Lib.hid (show Rd W B 1 An names.length (sv names) from HRU.out.n);have hBg:=H.out.hB;clear e7 hpt;have HX:=Lib.hid (show RES=rb (JU (Qx F D f) [] .nil names parts p) fun z=>okR (ndR z.1,z.2.1,z.2.2) by rw[← HE.out,Q6J]);refine yn<|yb<|yq<|yr<|yo zef<|yo zA<|yl<|yn<|y0<|yq<|yq<|yr<|yo zef<|yo zA<|yl<|yn<|y0<|yr<|yo zef<|yo zA<|yl<|yn<|y0<|yq<|yr<|yo zef<|yo zA<|yl<|yn<|y0<|yq<|yr<|yo zef<|yo zA<|yl<|yn<|y0<|yq<|yr<|yo zef<|yo zA<|yl<|yn<|y0<|yq<|yr<|yo zef<|yo zA<|yl<|yn<|y0<|yq<|yr<|yo zef<|yo zA<|yl<|yn<|y0<|yq<|yr<|yo zef<|yo zA<|yl<|yn<|y0<|ys<|yn<|yq<|yr ?_;refine Q1 (QO (xs:=[(0,.const (.int .i64 4))]) (vs:=[(0,.int .i64 4)]) (v:=.agg #[.int .i64 4,.int .i64 0,.slice none 0 0,.slice none 0 0,.slice none 0 0]) rfl rfl (by decide) rfl rfl (fun w=>run_build w _ _ _ (by kernel_rfl))) ?_;refine yA fun b11=>?_;refine yW 0 ?_;refine yl<|yn<|yq<|yq<|yr<|yo zF<|yo (zB 1)<|yo zL<|yo zM<|yl<|yn<|yb ?_;refine Z8 (ι:=Sq) (fun y=>JO y.L y.cs y.A∧Q04 y.L W.heap.size∧y.q≤D.length∧y.i≤parts.length∧y.A.len≤y.i∧y.N.length≤y.i∧RES=rb (JU (Qx F D f) y.N y.A (names.drop y.i) (parts.drop y.i) y.q) fun z=>okR (ndR z.1,z.2.1,z.2.2)) (fun y=>parts.length - y.i) (fun y=>[(2,.pointer (some ⟨b2,0,none⟩)),(4,.pointer (some ⟨b4,0,none⟩)),(5,.pointer (some ⟨b5,0,none⟩)),(11,.pointer (some ⟨b11,0,none⟩)),(147,.slice Ap parts.length cp),(148,.int .i64 (parts.length:Int)),(149,.int .i64 (y.i:Int))]) (fun y=>.row y.Ar y.A.len y.c 30 5 y.cs::.row y.Nr y.N.length y.cN 9 1 (sv y.N)::.blk b11 (.cells ([.int .i64 4,.int .i64 0,.slice none 0 0,.slice y.Nr y.N.length y.cN,.slice y.Ar y.A.len y.c]:List Value).toArray 30 (0,0))::.blk b5 (.cells ([.string ⟨name.toArray⟩,.int .i64 7,.slice Ab bs.length cb,.int .i64 size,.bool big,.int .i64 mn,.int .i64 mx,.int .i64 stop,.int .i64 count,.int .i64 elem,.slice An names.length cn,.slice Ap parts.length cp]:List Value).toArray 65 (0,0))::.blk b4 (.cells ([.int .i64 0,.int .i64 0,.slice none 0 0,.slice none 0 0,.slice none 0 0]:List Value).toArray 30 (0,0))::.blk b2 (.cells ([.pointer (some ⟨g,0,none⟩)]:List Value).toArray 56 (0,0))::.blk g (.cells ([.slice (some ⟨bf,of,none⟩) nn cf,.slice As nn cs,.slice Ad nd cd,.int .i64 (y.q:Int)]:List Value).toArray 60 (0,0))::y.L) ⟨[],.nil,[],none,0,none,0,[],p,0⟩ ⟨.nil,.nil _,hp,Nat.zero_le _,Nat.le_refl _,Nat.le_refl _,HX.out⟩ (.cons rfl rfl (.cons rfl rfl (.cons rfl rfl (.cons rfl rfl (.cons rfl rfl (.cons rfl rfl (.cons rfl rfl .nil))))))) (fun w hw=>(hw.row _ _).row _ _) ?_
 rintro⟨N,A,cs',Ar,c,Nr,cN,L,q,i⟩ ⟨hF,hL,hq,hi,hA,hN,hres⟩
 replace hq:q≤D.length:=hq
 replace hi:i≤parts.length:=hi
 replace hA:A.len≤i:=hA
 replace hN:N.length≤i:=hN
 have HF:=Lib.hid hF;have HL:=Lib.hid hL;have HR:=Lib.hid hres;clear hF hL hres
 show sE _ _ _ _ _ [(2,.pointer (some ⟨b2,0,none⟩)),(4,.pointer (some ⟨b4,0,none⟩)),(5,.pointer (some ⟨b5,0,none⟩)),(11,.pointer (some ⟨b11,0,none⟩)),(147,.slice Ap parts.length cp),(148,.int .i64 (parts.length:Int)),(149,.int .i64 (i:Int))] (.row Ar A.len c 30 5 cs'::.row Nr N.length cN 9 1 (sv N)::.blk b11 (.cells ([.int .i64 4,.int .i64 0,.slice none 0 0,.slice Nr N.length cN,.slice Ar A.len c]:List Value).toArray 30 (0,0))::.blk b5 (.cells ([.string ⟨name.toArray⟩,.int .i64 7,.slice Ab bs.length cb,.int .i64 size,.bool big,.int .i64 mn,.int .i64 mx,.int .i64 stop,.int .i64 count,.int .i64 elem,.slice An names.length cn,.slice Ap parts.length cp]:List Value).toArray 65 (0,0))::.blk b4 (.cells ([.int .i64 0,.int .i64 0,.slice none 0 0,.slice none 0 0,.slice none 0 0]:List Value).toArray 30 (0,0))::.blk b2 (.cells ([.pointer (some ⟨g,0,none⟩)]:List Value).toArray 56 (0,0))::.blk g (.cells ([.slice (some ⟨bf,of,none⟩) nn cf,.slice As nn cs,.slice Ad nd cd,.int .i64 (q:Int)]:List Value).toArray 60 (0,0))::L) _
 by_cases hlt:i<parts.length
 case neg=>
  have HZ:=Lib.hid (show RES=some (.ok (ndR N,A,q)) by
   have h:=HR.out
   simp only at h
   rw[List.drop_of_length_le (l:=parts) (by omega),Qar] at h
   exact h)
  refine yq<|yr<|yo zlf<|yl<|yn<|yq<|y0<|ye<|yn<|yq<|yr<|yo (zD 2) ?_;refine yW 4 ?_;refine yl<|yn<|yt ?_;refine Q7 (by exact .inr rfl) rfl (RsV.blk 4 rfl rfl rfl) (fun w hw=>⟨hw.k,.inr ⟨ndR N,A,q,_,.rd Ar A.len 5 cs'::.rd Nr N.length 1 (sv N)::L,HZ.out,rfl,hw.own 6 _ rfl,XA.rec_ HF.out (Jt 0 hw rfl).1 (Jt 0 hw rfl).2 (Jt 1 hw rfl).1,?_⟩⟩);exact((Q1p 0 6 hw rfl rfl (by decide)).app (Q1p 1 6 hw rfl rfl (by decide))).app (HL.out.new fun x hx=>hw.onAll x (by simp [hx]))
 case pos=>
  obtain⟨bp,op,x,rfl,hbp,hx,hcx⟩:=Q1V HRP.out hlt;obtain⟨bm,om,s,rfl,hbm,hs,hcs⟩:=YW HRN.out (show i<names.length by omega);have hxk:=HPT.out x (List.mem_of_getElem? hx)
  have HR2:=Lib.hid (show RES=rb (JU (Qx F D f) N A (s.data.toList::names.drop (i+1)) (x::parts.drop (i+1)) q) fun z=>okR (ndR z.1,z.2.1,z.2.2) by
   have h:=HR.out
   simp only at h
   rw[Yz hx,Yz hs] at h
   exact h)
  obtain⟨q1,hy1⟩:=Qah (by rw[← HR2.out];exact HS.out);have HY:=Lib.hid hy1;have HSS:=Lib.hid hs;clear hy1 hx hs;have hfar:Far (Qx F D f x) D.length:=QX hv.toUsd f hxk;refine yq<|yr<|yo zlt<|yl<|yn<|yq<|y1<|ys<|yn<|yq<|yb<|yq<|yr<|yo zM<|yo (zi1 (hj:=hlt)) ?_;refine Q1 (QW rfl rfl (by decide) rfl rfl (fun w hw=>hw.cell_old hcx (by simp;omega))) ?_;refine yo zA<|yo zA<|yl<|yn<|yq<|yr<|yo (zB 5)<|yo zM ?_;refine XY (QV _ _ _ rfl rfl rfl (fun w hw=>(HIH.out w x q hxk (H.out.next hw.k hq (hw.own 6 _ rfl)) ⟨q1,HY.out⟩).mono (fun e w' h=>Q5J 6 rfl hw (fun v hv=>by rw[HR2.out,Qc1 hv];rfl) h))) rfl (by decide) (fun y hy=>?_);refine yA fun b14=>?_;refine yW 0 ?_;refine yl ?_
  by_cases hz:s.data.toList=[]
  ·have hst:(s.data.toList != (⟨#[]⟩:ByteArray).data.toList)=false:=bne_eq_false_iff_eq.2 hz;refine yn<|yq<|yr<|yo zF<|yo (zB 4)<|yo zM ?_;refine Q1 (QS rfl rfl (by decide) rfl rfl rfl (show i<names.length by omega)) ?_;refine Q1 (QW rfl rfl (by decide) rfl rfl (fun w hw=>hw.cell_old hcs (by simp;omega))) ?_;refine Q1 (YM rfl rfl (by decide) rfl rfl rfl hst) ?_;refine yl<|yn<|y0<|ys<|yn<|yr<|yo zP<|yo zM<|yl ?_;refine Xb ⟨N,A,cs',Ar,c,Nr,cN,L++y.L,y.r.2.2,i+1⟩ ⟨HF.out.keepL y.L,HL.out.app hy.2.2,(hfar q y.r hq hy.1).2,by show i+1≤_;omega,by show A.len≤i+1;omega,by show N.length≤i+1;omega,by rw[HR2.out,QbP hz hy.1]⟩ (by show parts.length - (i+1)<parts.length - i;omega) (.cons rfl rfl (.cons rfl rfl (.cons rfl rfl (.cons rfl rfl (.cons rfl rfl (.cons rfl rfl (.cons rfl rfl .nil))))))) (fun w hw=>hw.tl)
  ·have hst:(s.data.toList != (⟨#[]⟩:ByteArray).data.toList)=true:=bne_iff_ne.2 hz;refine yn<|yq<|yr<|yo zF<|yo (zB 4)<|yo zM ?_;refine Q1 (QS rfl rfl (by decide) rfl rfl rfl (show i<names.length by omega)) ?_;refine Q1 (QW rfl rfl (by decide) rfl rfl (fun w hw=>hw.cell_old hcs (by simp;omega))) ?_;refine Q1 (YM rfl rfl (by decide) rfl rfl rfl hst) ?_;refine yl<|yn<|y1 ?_;refine XQ [.blk b11 (.cells ([.int .i64 4,.int .i64 0,.slice none 0 0,.slice Nr N.length cN,.slice Ar A.len c]:List Value).toArray 30 (0,0)),.blk b5 (.cells ([.string ⟨name.toArray⟩,.int .i64 7,.slice Ab bs.length cb,.int .i64 size,.bool big,.int .i64 mn,.int .i64 mx,.int .i64 stop,.int .i64 count,.int .i64 elem,.slice (some ⟨bm,om,none⟩) names.length cn,.slice (some ⟨bp,op,none⟩) parts.length cp]:List Value).toArray 65 (0,0)),.blk b14 (.cells (y.cells).toArray 30 (0,0))] [15,16,17] (by kernel_rfl) ?_;refine Qe 0 rfl (by kernel_rfl) (Q2.sel [3,4,0] (by decide) rfl) zF ?_;refine Qe 1 rfl (by kernel_rfl) (Q2.sel [3,4,0] (by decide) rfl) (zB 0) ?_;refine Qe 2 rfl (by kernel_rfl) (Q2.sel [3,4,0] (by decide) rfl) zF ?_;refine Qe 3 rfl (by kernel_rfl) (Q2.sel [3,4,0] (by decide) rfl) (zB 1) ?_;refine Qe 4 rfl (by kernel_rfl) (Q2.sel [3,4,0] (by decide) rfl) zM ?_;refine Qe 5 rfl (by kernel_rfl) (Q2.sel [3,4,0] (by decide) rfl) (QS rfl rfl (by decide) rfl rfl rfl (show i<names.length by omega)) ?_;refine Qe 6 rfl (by kernel_rfl) (Q2.sel [3,4,0] (by decide) rfl) (QW rfl rfl (by decide) rfl rfl (fun w hw=>hw.cell_old hcs (by simp;omega))) ?_;refine Qe 9 rfl (by kernel_rfl) (Q2.sel [3,4,0] (by decide) rfl) zF ?_;refine Qe 10 rfl (by kernel_rfl) (Q2.sel [3,4,0] (by decide) rfl) (zB 0) ?_;refine Qe 11 rfl (by kernel_rfl) (Q2.sel [3,4,0] (by decide) rfl) (zD 2) ?_;refine VQ 7 12 (by kernel_rfl) (Xn rfl rfl (XF rfl rfl rfl rfl rfl (by simp)) (fun _=>.inr (Q2.sel [4,5,1] (by decide) rfl)) rfl (by decide) (fun bs _=>?_)) (Xn rfl rfl (XF rfl rfl rfl rfl rfl (by simp)) (fun _=>.inr (Q2.sel [4,5,1] (by decide) rfl)) rfl (by decide) (fun bv _=>?_))
   ·refine VQ 8 12 (by kernel_rfl) (Xn rfl rfl (X9 3 rfl rfl rfl rfl rfl (fun w hw=>hw.rd_blk 0 rfl rfl) (by simp [Value.oneCell']) (by omega)) (fun _=>.inr (Q2.sel [4,5,1] (by decide) rfl)) rfl (by decide) (fun z1 _=>?_)) (Xn rfl rfl (XF rfl rfl rfl rfl rfl (by simp)) (fun _=>.inr (Q2.sel [5,6,2] (by decide) rfl)) rfl (by decide) (fun bv _=>?_))
    ·refine Qe 14 rfl (by kernel_rfl) (Q2.sel [4,5,1] (by decide) rfl) zF ?_;refine QC 12 (by kernel_rfl) rfl rfl (XF rfl rfl rfl rfl rfl (by simp)) (fun _=>.inr (Q2.sel [5,6,2] (by decide) rfl)) rfl (by decide) (fun bv _=>?_);refine QC 13 (by kernel_rfl) rfl rfl (X9 3 rfl rfl rfl rfl rfl (fun w hw=>hw.rd_blk 0 rfl rfl) (by simp [Value.oneCell']) (by omega)) (fun _=>.inr (Q2.sel [5,6,2] (by decide) rfl)) rfl (by decide) (fun z2 _=>?_);refine Qu 15 (by kernel_rfl) rfl rfl (X0 5 rfl rfl rfl rfl rfl rfl rfl) (fun _=>.inl (by decide)) rfl (fun _ _=>?_);refine Q7f 16 (by kernel_rfl) rfl (.inl (by decide)) zF ?_;refine Qu 17 (by kernel_rfl) rfl rfl (X0 5 rfl rfl rfl rfl rfl rfl rfl) (fun _=>.inl (by decide)) rfl (fun _ _=>?_);refine Xh ?_ (by kernel_rfl);refine yn<|yr<|yo zP<|yo zM<|yl ?_;refine Xb ⟨N++[s.data.toList],A.snoc y.r.1 y.r.2.1,cs'++y.cells,z2.1,z2.2,z1.1,z1.2,L++y.L,y.r.2.2,i+1⟩ ⟨HF.out.snoc hy.2.1,HL.out.app hy.2.2,(hfar q y.r hq hy.1).2,by show i+1≤_;omega,by show (A.snoc _ _).len≤i+1;rw[VF.len_snoc];omega,by show (N++[s.data.toList]).length≤i+1;rw[List.length_append];show N.length+1≤i+1;omega,by rw[HR2.out,Q1P hz hy.1]⟩ (by show parts.length - (i+1)<parts.length - i;omega) (.cons rfl rfl (.cons rfl rfl (.cons rfl rfl (.cons rfl rfl (.cons rfl rfl (.cons rfl rfl (.cons rfl rfl .nil))))))) (fun w hw=>?_);have h:=hw.tl.tl.tl
     simp only[VF.len_snoc,List.length_append,Q3A]
     exact h
    ·refine QC 8 (by kernel_rfl) rfl rfl (X9 4 rfl rfl rfl rfl rfl (fun w hw=>hw.rd_blk 1 rfl rfl) (by simp [Value.oneCell']) (by omega)) (fun _=>.inr (Q2.sel [5,6,2] (by decide) rfl)) rfl (by decide) (fun z1 _=>?_);refine Qe 14 rfl (by kernel_rfl) (Q2.sel [5,6,2] (by decide) rfl) zF ?_;refine QC 13 (by kernel_rfl) rfl rfl (X9 3 rfl rfl rfl rfl rfl (fun w hw=>hw.rd_blk 0 rfl rfl) (by simp [Value.oneCell']) (by omega)) (fun _=>.inr (Q2.sel [5,6,2] (by decide) rfl)) rfl (by decide) (fun z2 _=>?_);refine Qu 15 (by kernel_rfl) rfl rfl (X0 5 rfl rfl rfl rfl rfl rfl rfl) (fun _=>.inl (by decide)) rfl (fun _ _=>?_);refine Q7f 16 (by kernel_rfl) rfl (.inl (by decide)) zF ?_;refine Qu 17 (by kernel_rfl) rfl rfl (X0 5 rfl rfl rfl rfl rfl rfl rfl) (fun _=>.inl (by decide)) rfl (fun _ _=>?_);refine Xh ?_ (by kernel_rfl);refine yn<|yr<|yo zP<|yo zM<|yl ?_;refine Xb ⟨N++[s.data.toList],A.snoc y.r.1 y.r.2.1,cs'++y.cells,z2.1,z2.2,z1.1,z1.2,L++y.L,y.r.2.2,i+1⟩ ⟨HF.out.snoc hy.2.1,HL.out.app hy.2.2,(hfar q y.r hq hy.1).2,by show i+1≤_;omega,by show (A.snoc _ _).len≤i+1;rw[VF.len_snoc];omega,by show (N++[s.data.toList]).length≤i+1;rw[List.length_append];show N.length+1≤i+1;omega,by rw[HR2.out,Q1P hz hy.1]⟩ (by show parts.length - (i+1)<parts.length - i;omega) (.cons rfl rfl (.cons rfl rfl (.cons rfl rfl (.cons rfl rfl (.cons rfl rfl (.cons rfl rfl (.cons rfl rfl .nil))))))) (fun w hw=>?_);have h:=hw.tl.tl.tl
     simp only[VF.len_snoc,List.length_append,Q3A]
     exact h
   ·refine QC 7 (by kernel_rfl) rfl rfl (XF rfl rfl rfl rfl rfl (by simp)) (fun _=>.inr (Q2.sel [5,6,2] (by decide) rfl)) rfl (by decide) (fun bs _=>?_);refine QC 8 (by kernel_rfl) rfl rfl (X9 4 rfl rfl rfl rfl rfl (fun w hw=>hw.rd_blk 0 rfl rfl) (by simp [Value.oneCell']) (by omega)) (fun _=>.inr (Q2.sel [5,6,2] (by decide) rfl)) rfl (by decide) (fun z1 _=>?_);refine Qe 14 rfl (by kernel_rfl) (Q2.sel [5,6,2] (by decide) rfl) zF ?_;refine QC 13 (by kernel_rfl) rfl rfl (X9 3 rfl rfl rfl rfl rfl (fun w hw=>hw.rd_blk 1 rfl rfl) (by simp [Value.oneCell']) (by omega)) (fun _=>.inr (Q2.sel [5,6,2] (by decide) rfl)) rfl (by decide) (fun z2 _=>?_);refine Qu 15 (by kernel_rfl) rfl rfl (X0 5 rfl rfl rfl rfl rfl rfl rfl) (fun _=>.inl (by decide)) rfl (fun _ _=>?_);refine Q7f 16 (by kernel_rfl) rfl (.inl (by decide)) zF ?_;refine Qu 17 (by kernel_rfl) rfl rfl (X0 5 rfl rfl rfl rfl rfl rfl rfl) (fun _=>.inl (by decide)) rfl (fun _ _=>?_);refine Xh ?_ (by kernel_rfl);refine yn<|yr<|yo zP<|yo zM<|yl ?_;refine Xb ⟨N++[s.data.toList],A.snoc y.r.1 y.r.2.1,cs'++y.cells,z2.1,z2.2,z1.1,z1.2,L++y.L,y.r.2.2,i+1⟩ ⟨HF.out.snoc hy.2.1,HL.out.app hy.2.2,(hfar q y.r hq hy.1).2,by show i+1≤_;omega,by show (A.snoc _ _).len≤i+1;rw[VF.len_snoc];omega,by show (N++[s.data.toList]).length≤i+1;rw[List.length_append];show N.length+1≤i+1;omega,by rw[HR2.out,Q1P hz hy.1]⟩ (by show parts.length - (i+1)<parts.length - i;omega) (.cons rfl rfl (.cons rfl rfl (.cons rfl rfl (.cons rfl rfl (.cons rfl rfl (.cons rfl rfl (.cons rfl rfl .nil))))))) (fun w hw=>?_);have h:=hw.tl.tl.tl
    simp only[VF.len_snoc,List.length_append,Q3A]
    exact h
end
end Go.Proofs.YtphkhfdmlcnoeaaGreatDoor
