import Derived.Test.YtphkhfdmlcnoeaaGreatDoorP16
namespace Go.Proofs.YtphkhfdmlcnoeaaGreatDoor
set_option linter.unusedVariables false
set_option linter.unusedSimpArgs false
set_option maxRecDepth 1000000
set_option maxHeartbeats 32000000
open Go.RowKit
theorem QlR(N:List (List UInt8))(s:ByteArray):sv (N++[s.data.toList])=sv N++[.string s]:=by
 unfold sv;rw[List.map_append];rfl
section
variable {P:Program}{ops:Array Oper}{Q:Exit->Act->World->Prop}{N:Nat}{E E':Env}{o:Oper}{M:List Nat}{W:World}{O O0:List Qb}{T:List Nat}{f:Nat}{listed:Array Bool}
theorem Qcb(k:Nat)(hB:Region.ready .any ops listed=[k])(ho:ops[k]? =some o)(hT:k∈T\/QJ M W O0 O)(h1:oE P ops (Wd M W O) N E E' o)(h2:dE P ops Q N M W O0 T f (listed.setIfInBounds k true) E' O):dE P ops Q N M W O0 T (f+1) listed E O:=fun hcl a ha=>by
 refine⟨fun h0=>absurd Q63 Ql,fun i hi=>?_⟩;rw[hB] at hi;rw[List.mem_singleton] at hi;subst hi;have hr':i∈Region.ready .any ops listed:=by rw[hB];exact Q6W
 have h:=h1 a ha;have key:∀{v:Value},Zm P ops (Wd M W O) o a v->Ag N E' (a.put o.dst v)->Yj P ops (Wd M W O0) T i a (Wd M W O) (Q5h P ops (Wd M W O0) T Q f (listed.setIfInBounds i true)):=fun hq hE=>by
  have h0:=Zm.step (P:=P) (ops:=ops) (T:=T) (C0:=Wd M W O) (D:=Wd M W O) (K:=Q5h P ops (Wd M W O0) T Q f (listed.setIfInBounds i true)) ho hq Wd.stb Zk (h2 Q1Q _ hE);unfold Yj at h0 ⊢;simp only[ho] at h0 ⊢;rcases h0 with h0|⟨hw,ι,V,G,h1,h2,h3⟩
  ·exact .inl h0
  ·refine .inr ⟨hw,ι,V,G,h1,fun x=>⟨(h2 x).1,?_⟩,h3⟩
   rcases (h2 x).2 with hx|hx
   ·exact .inl hx
   ·exact hT.imp id fun hT w hw=>hT w (hx w hw)
 split at h
 ·rename_i hw
  obtain⟨v,hv,hE⟩:=h;exact key (.inl ⟨hw,hv⟩) hE
 ·rename_i hw
  exact key QhN h
end
section
variable {W w w':World}{z:Rv}{B g p i:Nat}{F:List Rl}{D:List UInt8}{O L:List Qb}{o o':Obj}{e:Ending}{α:Type}{RES:Rdg α}{k:Int}
structure Sq where
 N:List (List UInt8)
 A:VF
 cs:List Value
 Ar:Option Addr
 c:Nat
 Nr:Option Addr
 cN:Nat
 L:List Qb
 q:Nat
 i:Nat
theorem Vj.keepL{L:List Qb}{cs:List Value}{l:VF}(h:Vj L cs l)(L':List Qb):Vj (L++L') cs l:=⟨h.1,fun w hw=>h.2 w fun x hx=>hw x (List.mem_append_left _ hx)⟩
theorem YU{α:Type}{l:List α}{i:Nat}{x:α}(h:l[i]? =some x):l.drop i=x::l.drop (i+1):=by
 obtain⟨h1,rfl⟩:=List.getElem?_eq_some_iff.1 h;exact List.drop_eq_getElem_cons h1
theorem Qjt{one:Int->Nat->Rdg (Nd×VF×Nat)}{N ns:List (List UInt8)}{A:VF}{nm:List UInt8}{k:Int}{ks:List Int}{p:Nat}{γ:Type}{gg:List (List UInt8)×VF×Nat->Rdg γ}(h:∃r,rb (Vm one N A (nm::ns) (k::ks) p) gg=some r):∃y,one k p=some y:=by
 obtain⟨r,h⟩:=h;cases h1:one k p with
 |none=>unfold Vm at h;rw[Vg,h1] at h;cases h
 |some y=>exact⟨y,rfl⟩
theorem Qq1(hv:Fm F)(f:Nat)(IH:IHv z B g F D f)(hsome:∃y,QE F D (f+1) k p=some y)(hk:0<=k/\k<F.length)(h:J2 W z B g F D p)(hkind:(Qg F k).kind=7):
  Calls Tryz.prog 32 #[.pointer (some ⟨g,0,none⟩),.int .i64 k] W (VlE z g W (QE F D (f+1) k p)):=by
 have H:=Q2 h;have hwd:=h.wd;have hp:=h.hp;have hD:=h.hD;have hFn:=h.len.2;have hr:=hv.toUsd.rok hk;obtain⟨RES,hres⟩:∃x,QE F D (f+1) k p=x:=⟨_,rfl⟩;have e7:=(Qqs (F:=F) (D:=D) (f:=f) (p:=p) (k:=k) hkind).symm.trans hres;have hpt:=hr.parts KY;have hp12:=hr.p12;have hse:=hr.seven hkind;rw[hres] at hsome ⊢;have HS:=Q2 hsome;have HIH:=Q2 IH;obtain⟨Af,As,Ad,nn,nd,cf,cs,cd⟩:=z;simp only at hFn;obtain⟨bf,of,haf⟩:=h.af Vf;simp only at haf;subst haf;obtain⟨hbB,Ab,cb,An,cn,Ap,cp,hrg,hru⟩:=h.env.fm.ruleB (k:=k) Jx;have hbg:¬bf=g:=by have:=h.hB;omega
 have hkn:0<=k/\k<(nn:Int):=by omega
 clear h hres hsome IH;obtain⟨r,er⟩:∃r,Qg F k=r:=⟨_,rfl⟩;rw[er] at hkind hr hrg hru e7 hpt hp12 hse;clear er;have HRK:=Q2 hr;have HRU:=Q2 hru;clear hru;obtain⟨name,kind,bs,size,big,mn,mx,stop,count,elem,names,parts⟩:=r;simp only[ruC] at hkind hr hrg e7 hpt hp12 hse;have HRB:=Q2 (show Rd W B 1 Ab bs.length (bv bs) from HRU.out.b);go_enter Tryz.func32,Tryz.ntmps32;haveI:Pan (bodyPost Tryz.prog Tryz.f32 (VlE ⟨some ⟨bf,of,none⟩,As,Ad,nn,nd,cf,cs,cd⟩ g W RES)) (VK RES g W):=Pan.body fun ch w' ⟨x,h1,h2,h3⟩=>⟨h3,.inl ⟨x,h1,by rw[h2]⟩⟩
 refine Qs (M:=[g]) (W:=W) (N:=181) (E:=[(0,.pointer (some ⟨g,0,none⟩)),(1,.int .i64 k)]) (O:=[.blk g (.cells ([.slice (some ⟨bf,of,none⟩) nn cf,.slice As nn cs,.slice Ad nd cd,.int .i64 (p:Int)]:List Value).toArray 60 (0,0))]) ?_ (Ag.cons (Ag.cons (Ag.nil rfl rfl) rfl) rfl) hwd;clear hwd;refine yq<|yr ?_;refine yB fun b2=>?_;refine yA fun b4=>?_;refine yl<|yn<|yq<|yr<|yo (zB 1) ?_;refine Q4 (QtH rfl rfl Q1 rfl rfl) ?_;refine yo zF<|yo zF<|yo (zB 2)<|yo zM ?_;refine Q4 (QG rfl rfl Q1 rfl rfl rfl hkn) ?_;refine Q4 (Xs rfl rfl Q1 rfl rfl (fun w hw=>hw.range_old hrg (by simpa using hbg)) rfl) ?_;refine yA fun b5=>?_;refine yW 0 ?_;refine yl<|yn<|yq<|yq<|yr<|yo zF<|yo (zB 0)<|yl ?_;subst hkind;have HE:=Q2 e7;have HPT:=Q2 hpt;have HRP:=Q2 (show Rd W B 1 Ap parts.length (iv parts) from HRU.out.p);have HRN:=Q2 (show Rd W B 1 An names.length (sv names) from HRU.out.n);have hBg:=H.out.hB;clear e7 hpt;have HX:=Q2 (show RES=rb (Vm (QE F D f) [] .nil names parts p) fun z=>okR (ndR z.1,z.2.1,z.2.2) by rw[<- HE.out,QdQ]);refine yn<|yb<|yq<|yr<|yo zef<|yo zA<|yl<|yn<|y0<|yq<|yq<|yr<|yo zef<|yo zA<|yl<|yn<|y0<|yr<|yo zef<|yo zA<|yl<|yn<|y0<|yq<|yr<|yo zef<|yo zA<|yl<|yn<|y0<|yq<|yr<|yo zef<|yo zA<|yl<|yn<|y0<|yq<|yr<|yo zef<|yo zA<|yl<|yn<|y0<|yq<|yr<|yo zef<|yo zA<|yl<|yn<|y0<|yq<|yr<|yo zef<|yo zA<|yl<|yn<|y0<|yq<|yr<|yo zef<|yo zA<|yl<|yn<|y0<|ys<|yn<|yq<|yr ?_;refine Q4 (ZW (xs:=[(0,.const (.int .i64 4))]) (vs:=[(0,.int .i64 4)]) (v:=.agg #[.int .i64 4,.int .i64 0,.slice none 0 0,.slice none 0 0,.slice none 0 0]) rfl rfl Q1 rfl rfl (fun w=>run_build w _ _ _ Q5)) ?_;refine yA fun b11=>?_;refine yW 0 ?_;refine yl<|yn<|yq<|yq<|yr<|yo zF<|yo (zB 1)<|yo zL<|yo zM<|yl<|yn<|yb ?_;refine X8 (ι:=Sq) (fun y=>Vj y.L y.cs y.A/\Q2z y.L W.heap.size/\y.q<=D.length/\y.i<=parts.length/\y.A.len<=y.i/\y.N.length<=y.i/\RES=rb (Vm (QE F D f) y.N y.A (names.drop y.i) (parts.drop y.i) y.q) fun z=>okR (ndR z.1,z.2.1,z.2.2)) (fun y=>parts.length - y.i) (fun y=>[(2,.pointer (some ⟨b2,0,none⟩)),(4,.pointer (some ⟨b4,0,none⟩)),(5,.pointer (some ⟨b5,0,none⟩)),(11,.pointer (some ⟨b11,0,none⟩)),(147,.slice Ap parts.length cp),(148,.int .i64 (parts.length:Int)),(149,.int .i64 (y.i:Int))]) (fun y=>.row y.Ar y.A.len y.c 30 5 y.cs::.row y.Nr y.N.length y.cN 9 1 (sv y.N)::.blk b11 (.cells ([.int .i64 4,.int .i64 0,.slice none 0 0,.slice y.Nr y.N.length y.cN,.slice y.Ar y.A.len y.c]:List Value).toArray 30 (0,0))::.blk b5 (.cells ([.string ⟨name.toArray⟩,.int .i64 7,.slice Ab bs.length cb,.int .i64 size,.bool big,.int .i64 mn,.int .i64 mx,.int .i64 stop,.int .i64 count,.int .i64 elem,.slice An names.length cn,.slice Ap parts.length cp]:List Value).toArray 65 (0,0))::.blk b4 (.cells ([.int .i64 0,.int .i64 0,.slice none 0 0,.slice none 0 0,.slice none 0 0]:List Value).toArray 30 (0,0))::.blk b2 (.cells ([.pointer (some ⟨g,0,none⟩)]:List Value).toArray 56 (0,0))::.blk g (.cells ([.slice (some ⟨bf,of,none⟩) nn cf,.slice As nn cs,.slice Ad nd cd,.int .i64 (y.q:Int)]:List Value).toArray 60 (0,0))::y.L) ⟨[],.nil,[],none,0,none,0,[],p,0⟩ ⟨.nil,.nil _,hp,Nat.zero_le _,Nat.le_refl _,Nat.le_refl _,HX.out⟩ (.cons rfl rfl (.cons rfl rfl (.cons rfl rfl mc1))) (fun w hw=>(hw.row _ _).row _ _) ?_;rintro⟨N,A,cs',Ar,c,Nr,cN,L,q,i⟩ ⟨hF,hL,hq,hi,hA,hN,hres⟩;replace hq:q<=D.length:=hq;replace hi:i<=parts.length:=hi;replace hA:A.len<=i:=hA;replace hN:N.length<=i:=hN;have HF:=Q2 hF;have HL:=Q2 hL;have HR:=Q2 hres;clear hF hL hres;show sE _ _ _ _ _ [(2,.pointer (some ⟨b2,0,none⟩)),(4,.pointer (some ⟨b4,0,none⟩)),(5,.pointer (some ⟨b5,0,none⟩)),(11,.pointer (some ⟨b11,0,none⟩)),(147,.slice Ap parts.length cp),(148,.int .i64 (parts.length:Int)),(149,.int .i64 (i:Int))] (.row Ar A.len c 30 5 cs'::.row Nr N.length cN 9 1 (sv N)::.blk b11 (.cells ([.int .i64 4,.int .i64 0,.slice none 0 0,.slice Nr N.length cN,.slice Ar A.len c]:List Value).toArray 30 (0,0))::.blk b5 (.cells ([.string ⟨name.toArray⟩,.int .i64 7,.slice Ab bs.length cb,.int .i64 size,.bool big,.int .i64 mn,.int .i64 mx,.int .i64 stop,.int .i64 count,.int .i64 elem,.slice An names.length cn,.slice Ap parts.length cp]:List Value).toArray 65 (0,0))::.blk b4 (.cells ([.int .i64 0,.int .i64 0,.slice none 0 0,.slice none 0 0,.slice none 0 0]:List Value).toArray 30 (0,0))::.blk b2 (.cells ([.pointer (some ⟨g,0,none⟩)]:List Value).toArray 56 (0,0))::.blk g (.cells ([.slice (some ⟨bf,of,none⟩) nn cf,.slice As nn cs,.slice Ad nd cd,.int .i64 (q:Int)]:List Value).toArray 60 (0,0))::L) _;by_cases hlt:i<parts.length
 case neg=>
  have HZ:=Q2 (show RES=some (.ok (ndR N,A,q)) by
   have h:=HR.out
   simp only at h
   rw[List.drop_of_length_le (l:=parts) Q3,Qiq] at h
   exact h)
  refine yq<|yr<|yo zlf<|yl<|yn<|yq<|y0<|ye<|yn<|yq<|yr<|yo (zD 2) ?_;refine yW 4 ?_;refine yl<|yn<|yt ?_;refine Q7 (by exact .inr rfl) rfl (RsV.blk 4 rfl rfl rfl) (fun w hw=>⟨hw.k,.inr ⟨ndR N,A,q,_,.rd Ar A.len 5 cs'::.rd Nr N.length 1 (sv N)::L,HZ.out,rfl,hw.own 6 _ rfl,XA.rec_ HF.out (JB 0 hw rfl).1 (JB 0 hw rfl).2 (JB 1 hw rfl).1,?_⟩⟩);exact((Q2R 0 6 hw rfl rfl Q1).app (Q2R 1 6 hw rfl rfl Q1)).app (HL.out.new fun x hx=>hw.onAll x (by simp [hx]))
 case pos=>
  obtain⟨bp,op,x,rfl,hbp,hx,hcx⟩:=Q4F HRP.out hlt;obtain⟨bm,om,s,rfl,hbm,hs,hcs⟩:=VI HRN.out (show i<names.length by omega);have hxk:=HPT.out x K4
  have HR2:=Q2 (show RES=rb (Vm (QE F D f) N A (s.data.toList::names.drop (i+1)) (x::parts.drop (i+1)) q) fun z=>okR (ndR z.1,z.2.1,z.2.2) by
   have h:=HR.out
   simp only at h
   rw[YU hx,YU hs] at h
   exact h)
  obtain⟨q1,hy1⟩:=Qjt (by rw[<- HR2.out];exact HS.out);have HY:=Q2 hy1;have HSS:=Q2 hs;clear hy1 hx hs;have hfar:Far (QE F D f x) D.length:=XJ hv.toUsd f hxk;refine yq<|yr<|yo zlt<|yl<|yn<|yq<|y1<|ys<|yn<|yq<|yb<|yq<|yr<|yo zM<|yo (zi1 (hj:=hlt)) ?_;refine Q4 (Xq rfl rfl Q1 rfl rfl (fun w hw=>hw.cell_old hcx (by simp;omega))) ?_;refine yo zA<|yo zA<|yl<|yn<|yq<|yr<|yo (zB 5)<|yo zM ?_;refine ZP (Xp _ _ _ rfl rfl rfl (fun w hw=>(HIH.out w x q hxk (H.out.next hw.k hq (hw.own 6 _ rfl)) ⟨q1,HY.out⟩).mono (fun e w' h=>QaS 6 rfl hw (fun v hv=>by rw[HR2.out,QmC hv];rfl) h))) rfl Q1 (fun y hy=>?_);refine yA fun b14=>?_;refine yW 0 ?_;refine yl ?_;by_cases hz:s.data.toList=[]
  ·have hst:(s.data.toList != (⟨#[]⟩:ByteArray).data.toList)=false:=bne_eq_false_iff_eq.2 hz;refine yn<|yq<|yr<|yo zF<|yo (zB 4)<|yo zM ?_;refine Q4 QjR ?_;refine Q4 Qns ?_;refine Q4 (Q77 rfl rfl Q1 rfl rfl rfl hst) ?_;refine yl<|yn<|y0<|ys<|yn<|yr<|yo zP<|yo zM<|yl ?_;refine Qr ⟨N,A,cs',Ar,c,Nr,cN,L++y.L,y.r.2.2,i+1⟩ ⟨HF.out.keepL y.L,HL.out.app hy.2.2,(hfar q y.r hq hy.1).2,by show i+1<=_;omega,by show A.len<=i+1;omega,by show N.length<=i+1;omega,by rw[HR2.out,QkO hz hy.1]⟩ (by show parts.length - (i+1)<parts.length - i;omega) (.cons rfl rfl Qdu) (fun w hw=>hw.tl)
  ·have hst:(s.data.toList != (⟨#[]⟩:ByteArray).data.toList)=true:=bne_iff_ne.2 hz;refine yn<|yq<|yr<|yo zF<|yo (zB 4)<|yo zM ?_;refine Q4 QjR ?_;refine Q4 Qns ?_;refine Q4 (Q77 rfl rfl Q1 rfl rfl rfl hst) ?_;refine yl<|yn<|y1 ?_;refine Z7 [.blk b11 (.cells ([.int .i64 4,.int .i64 0,.slice none 0 0,.slice Nr N.length cN,.slice Ar A.len c]:List Value).toArray 30 (0,0)),.blk b5 (.cells ([.string ⟨name.toArray⟩,.int .i64 7,.slice Ab bs.length cb,.int .i64 size,.bool big,.int .i64 mn,.int .i64 mx,.int .i64 stop,.int .i64 count,.int .i64 elem,.slice (some ⟨bm,om,none⟩) names.length cn,.slice (some ⟨bp,op,none⟩) parts.length cp]:List Value).toArray 65 (0,0)),.blk b14 (.cells (y.cells).toArray 30 (0,0))] [15,16,17] Q5 ?_;refine Qn 0 rfl Q5 Q1O zF ?_;refine Qn 1 rfl Q5 Q1O (zB 0) ?_;refine Qn 2 rfl Q5 Q1O zF ?_;refine Qn 3 rfl Q5 Q1O (zB 1) ?_;refine Qn 4 rfl Q5 Q1O zM ?_;refine Qn 5 rfl Q5 Q1O QjR ?_;refine Qn 6 rfl Q5 Q1O Qns ?_;refine Qn 9 rfl Q5 Q1O zF ?_;refine Qn 10 rfl Q5 Q1O (zB 0) ?_;refine Qn 11 rfl Q5 Q1O (zD 2) ?_;refine Q6f 7 12 Q5 (Js rfl rfl VG (fun _=>.inr QhU) rfl Q1 (fun bs _=>?_)) (Js rfl rfl VG (fun _=>.inr QhU) rfl Q1 (fun bv _=>?_))
   ·refine Q6f 8 12 Q5 (Js rfl rfl Q0m (fun _=>.inr QhU) rfl Q1 (fun z1 _=>?_)) (Js rfl rfl VG Q51 rfl Q1 (fun bv _=>?_))
    ·refine Qn 14 rfl Q5 QhU zF ?_;refine QS 12 Q5 rfl rfl VG Q51 rfl Q1 (fun bv _=>?_);refine QS 13 Q5 rfl rfl Q0m Q51 rfl Q1 (fun z2 _=>?_);refine QI 15 Q5 rfl rfl Q8R J0 rfl (fun _ _=>?_);refine Qcb 16 Q5 rfl (.inl Q1) zF ?_;refine QI 17 Q5 rfl rfl Q8R J0 rfl (fun _ _=>?_);refine Xu ?_ Q5;refine Q8i ?_;refine Qr Qkk QnP QbW Q1S (fun w hw=>?_);have h:=hw.tl.tl.tl
     exact Qot
    ·refine QS 8 Q5 rfl rfl (Z8 4 rfl rfl rfl rfl rfl (fun w hw=>hw.rd_blk 1 rfl rfl) QaL Q3) Q51 rfl Q1 (fun z1 _=>?_);refine Qn 14 rfl Q5 (QJ.sel [5,6,2] Q1 rfl) zF ?_;refine QS 13 Q5 rfl rfl Q0m Q51 rfl Q1 (fun z2 _=>?_);refine QI 15 Q5 rfl rfl Q8R J0 rfl (fun _ _=>?_);refine Qcb 16 Q5 rfl (.inl Q1) zF ?_;refine QI 17 Q5 rfl rfl Q8R J0 rfl (fun _ _=>?_);refine Xu ?_ Q5;refine Q8i ?_;refine Qr Qkk QnP QbW Q1S (fun w hw=>?_);have h:=hw.tl.tl.tl
     exact Qot
   ·refine QS 7 Q5 rfl rfl VG Q51 rfl Q1 (fun bs _=>?_);refine QS 8 Q5 rfl rfl QhA Q51 rfl Q1 (fun z1 _=>?_);refine Qn 14 rfl Q5 (QJ.sel [5,6,2] Q1 rfl) zF ?_;refine QS 13 Q5 rfl rfl (Z8 3 rfl rfl rfl rfl rfl (fun w hw=>hw.rd_blk 1 rfl rfl) QaL Q3) Q51 rfl Q1 (fun z2 _=>?_);refine QI 15 Q5 rfl rfl Q8R J0 rfl (fun _ _=>?_);refine Qcb 16 Q5 rfl (.inl Q1) zF ?_;refine QI 17 Q5 rfl rfl Q8R J0 rfl (fun _ _=>?_);refine Xu ?_ Q5;refine Q8i ?_;refine Qr Qkk QnP QbW Q1S (fun w hw=>?_);have h:=hw.tl.tl.tl
    exact Qot
end
theorem Q4J{z:Rv}{B g:Nat}{F:List Rl}{D:List UInt8}(hv:Fm F):∀f,IHv z B g F D f
 |0=>fun W k p hk h hs=>by
  obtain⟨y,hy⟩:=hs
  cases hy
 |f+1=>fun W k p hk h hs=>by
  have ih:=Q4J (z:=z) (B:=B) (g:=g) (D:=D) hv f;have hr:=(hv.toUsd.rok hk).kind;by_cases h6:(Qg F k).kind=6
  ·exact Qqt hv f ih hs hk h h6
  by_cases h7:(Qg F k).kind=7
  ·exact Qq1 hv f ih hs hk h h7
  by_cases h8:(Qg F k).kind=8
  ·exact QpQ hv f ih hs hk h h8
  by_cases h9:(Qg F k).kind=9
  ·exact Qqo hv f ih hs hk h h9
  by_cases h10:(Qg F k).kind=10
  ·exact QlA hv f hk h h10
  exact Qfy hv f hk h Q3
section
variable {A:Option Addr}{B n:Nat}{F:List Rl}{W w:World}{xs:List Value}
structure Fs where
 xs:List Value
 Ar:Option Addr
 c:Nat
 L:List Qb
 i:Nat
def Qv7(F:List Rl)(y:Fs):Prop:=∀k,k<y.i->∃Ak ck,y.xs[k]? =some (.slice Ak (V0 F k).length ck)/\Qb.rd Ak (V0 F k).length 1 (iv (V0 F k))∈y.L/\(V0 F k).length<=ck
theorem Quz{M:List Nat}{w':World}{O:List Qb}{e:Ending}{l:List Int}(hw:Wd M W O w)(h:Qlr w l (0,0) e w'):Xo (fun y:Option Addr×Nat=>.tuple #[.slice y.1 l.length y.2,.agg #[.int .i64 0,.int .i64 0]]) (fun y=>l.length<=y.2/\Q2z [.rd y.1 l.length 1 (iv l)] W.heap.size) M W (fun y=>O++[.rd y.1 l.length 1 (iv l)]) e w':=by
 obtain⟨A,c,he,hon,hf,hc,hb⟩:=h;have hn:=Yr hon hf;exact⟨(A,c),he,⟨hc,fun x hx=>⟨hn.rd x hx,fun b hb'=>Nat.le_trans hw.k.size (hn.far x hx b hb')⟩⟩,hw.made hb hn⟩
theorem QkR{k:Int}(h:Qy F=(0,0))(hk:0<=k/\k<F.length):Q57 F k=(0,0)/\Q2s F k=V0 F k:=by
 have e:Q57 F k=(0,0):=by
  unfold Q57;rw[if_neg (by simp [h]),if_pos (QY.2 Q3)]
 exact⟨e,by unfold Q2s;rw[if_pos e]⟩
structure FsL(F:List Rl)(n:Nat)(As:Option Addr)(xs:List Value)(L:List Qb):Prop where
 tab:Qb.rd As n 1 xs∈L
 row:∀k,k<n->∃Ak ck,xs[k]? =some (.slice Ak (V0 F k).length ck)/\Qb.rd Ak (V0 F k).length 1 (iv (V0 F k))∈L/\(V0 F k).length<=ck
theorem Rd.less{B' s:Nat}(h:Rd w B s A n xs)(hf:∀q,(Qb.rd A n s xs).foot=some q->q<B'):Rd w B' s A n xs:=by
 refine⟨h.1,fun h0=>?_⟩;obtain⟨b,o,e,hb,hc⟩:=h.2 h0;subst e;exact⟨b,o,rfl,hf b (by simp only[Qb.foot];rw[if_neg Q3];rfl),hc⟩
theorem FsL.fr{As:Option Addr}{L:List Qb}(h:FsL F n As xs L)(hw:∀x∈L,x.on w)(hB:∀x∈L,∀q,x.foot=some q->q<B)(h0:0<n):QcN w B F As n:=by
 obtain⟨b,o,e,hb,hcc⟩:=(Rd.less (B':=B) (hw _ h.tab) (hB _ h.tab)).2 h0;refine⟨b,o,e,hb,fun k hk=>?_⟩;obtain⟨Ak,ck,h1,h2,h3⟩:=h.row k hk;exact⟨Ak,ck,hcc k _ h1,Rd.less (hw _ h2) (hB _ h2),h3⟩
def FsR(F:List Rl)(n:Nat)(W:World)(e:Ending)(w':World):Prop:=∃As cs xs L,e=.returned (.slice As n cs)/\n<=cs/\FsL F n As xs L/\New L W.heap.size w'/\Below W.heap.size W w'
theorem Q8c{c:Nat}(hf:QX W W.heap.size A n F)(hs:FSm F)(hc:n<=c)(hg:GV W)(hz:Qy F=(0,0))(h0:0<n):
  Calls Tryz.prog 31 #[.agg #[.slice A n c]] W (FsR F n W):=by
 have hlen:F.length=n:=hf.1;have hsz:n<=1048576:=by rw[<- hlen];exact hs.1
 have HF:=Q2 hf;have HS:=Q2 hs;have HG:=Q2 hg;have HZ:=Q2 hz;clear hf hs hg hz;go_enter Tryz.func31,Tryz.ntmps31;refine Qs (M:=[]) (W:=W) (N:=25) (E:=[Vh]) (O:=[]) ?_ Zj QV;refine yq<|yr ?_;refine yB fun b1=>?_;refine yo zA<|yl<|yn<|yq<|yr<|yo zA<|yl<|yn<|yq<|yq<|yr<|yo zF<|yo (zB 0)<|yo zL<|yo zM<|yl<|yn<|yb ?_;refine X8 (ι:=Fs) (fun y=>y.xs.length=y.i/\y.i<=n/\Qv7 F y/\Q2z y.L W.heap.size) (fun y=>n - y.i) (fun y=>[Qi9,(3,.slice y.Ar y.i y.c),(9,.int .i64 (n:Int)),(10,.int .i64 (y.i:Int))]) (fun y=>.row y.Ar y.i y.c 48 1 y.xs::.blk b1 QlK::y.L) ⟨[],none,0,[],0⟩ ⟨rfl,Nat.zero_le _,fun k hk=>absurd hk (Nat.not_lt_zero k),.nil _⟩ mc1 QoC ?_;rintro⟨xs,Ar,cr,L,i⟩ ⟨hxi,hi,hall,hfar⟩;replace hxi:xs.length=i:=hxi;replace hi:i<=n:=hi;have HA:=Q2 hall;have HFA:=Q2 hfar;clear hall hfar;show sE _ _ _ _ _ [Qi9,(3,.slice Ar i cr),(9,.int .i64 (n:Int)),(10,.int .i64 (i:Int))] (.row Ar i cr 48 1 xs::.blk b1 QlK::L) _;by_cases hlt:i<n
 case neg=>
  have hin:i=n:=by omega
  subst hin;refine yq<|yr<|yo zlf<|yl<|yn<|yq<|y0<|ye<|yn<|yq<|yr<|yo zM<|yo zA<|yl<|yn<|yt ?_;refine Q7 mc4 rfl (.tmp rfl) (fun w hw=>⟨Ar,cr,xs,.rd Ar i 1 xs::L,rfl,(JB 0 hw rfl).1,⟨List.mem_cons_self,fun k hk=>?_⟩,?_,hw.k.below⟩)
  ·obtain⟨Ak,ck,h1,h2,h3⟩:=HA.out k hk;exact⟨Ak,ck,h1,List.mem_cons_of_mem _ h2,h3⟩
  ·have hr:Rd w w.heap.size 1 Ar i xs:=Rd.of_own KT
   exact(Yr hr fun b hb=>by
    rcases Nat.lt_or_ge b W.heap.size with hl|hl
    ·have h1:b∈[]:=hw.new 0 _ b rfl (Q5x KT hb) hl
     cases h1
    ·exact hl).app (HFA.out.new fun x hx=>hw.onAll x Q4E)
 case pos=>
  have hck:=QkR HZ.out (k:=(i:Int)) Q3;refine yq<|yr<|yo zlt<|yl<|yn<|yq<|y1<|ys<|yn<|yq<|yb<|yq<|yr<|yo zM<|yo zA<|yl<|yn<|yq<|yr<|yo (zD 1)<|yo zM ?_;refine Qc (XB _ _ _ rfl rfl rfl (fun w hw=>(Qar Q6E HS.out hc KU).mono (fun e w' h=>by rw[hck.1,hck.2] at h;exact Quz hw h))) rfl Q1 (fun y hy=>?_);refine Q4P ?_;refine yA fun b6=>?_;refine Qdy ?_;refine yl<|yn<|yr<|yo zM<|yo zM ?_;refine Qc VG rfl Q1 (fun bn _=>?_);refine Qc KO rfl Q1 (fun z _=>?_);refine QaG ?_;refine Qr ⟨xs++[.slice y.1 (V0 F i).length y.2],z.1,z.2,L++[.rd y.1 (V0 F i).length 1 (iv (V0 F i))],i+1⟩ ⟨by show (xs++[_]).length=i+1;rw[List.length_append,hxi];rfl,by show i+1<=n;omega,fun k hk=>?_,HFA.out.app hy.2⟩ VH mc1 (fun w hw=>?_);rotate_left
  ·exact hw.tl.tl
  by_cases hki:k=i
  ·subst hki;exact⟨y.1,y.2,by show (xs++[_])[k]? =_;rw[List.getElem?_append_right Q3,hxi,Nat.sub_self];rfl,List.mem_append_right _ List.mem_cons_self,hy.1⟩
  ·obtain⟨Ak,ck,h1,h2,h3⟩:=HA.out k (by show k<i;have:k<i+1:=hk;omega);exact⟨Ak,ck,by show (xs++[_])[k]? =_;rw[List.getElem?_append_left (List.getElem?_eq_some_iff.1 h1).1];exact h1,List.mem_append_left _ h2,h3⟩
end
theorem Q9C(g h:Nat)(w:World):
  CallsD Tryz.prog 30 #[.pointer (some ⟨g,0,none⟩),.pointer (some ⟨h,0,none⟩)] .returning w fun e u' w'=>e=.returned (.tuple #[])/\u'=.returning/\w'=w:=by
 refine callsD_of_wpS Tryz.func30 rfl fun c₀ cs hu=>?_;apply wpS_seq;apply wpS_region;simp [wpOpsS,go_sem,recoverD,hu,Tryz.ntmps30,Exit.thenS];refine QgW ?_;go_wp2_with fail
 cases c₀
 simp_all [bodyPostS,results,Tryz.results30]
theorem Q7B{g k:Nat}{c x:Int}{M:List Nat}{W w:World}{O:List Qb}{a0 a1 a2 a3 a4 r0 r1:Value}(hw:Wd M W (.blk g (.cells ([a0,a1,a2,a3,a4]:List Value).toArray 30 (0,0))::.blk k (.cells ([r0,r1]:List Value).toArray 32 (0,0))::O) w):
  CallsD Tryz.prog 30 #[.pointer (some ⟨g,0,none⟩),.pointer (some ⟨k,0,none⟩)] (.panicking (JM c x)) w fun e u' w'=>
   e=.returned (.tuple #[])/\u'=.panicking [{ v:=.iface 32 (.agg #[.int .i64 c,.int .i64 x]),recovered:=true }]/\Wd M W (.blk g (.cells ([.int .i64 0,.int .i64 0,.slice none 0 0,.slice none 0 0,.slice none 0 0]:List Value).toArray 30 (0,0))::.blk k (.cells ([.int .i64 c,.int .i64 x]:List Value).toArray 32 (0,0))::O) w':=by
 refine callsD_of_wpS Tryz.func30 rfl fun c₀ cs hu=>?_;apply wpS_seq;apply wpS_region;unfold JM at hu;simp [wpOpsS,go_sem,recoverD,hu,Tryz.ntmps30,Exit.thenS];refine QgW ?_;have hta:∀W:World,(Instr.typeAssert (.iface 32 (.agg #[.int .i64 c,.int .i64 x])) 20 32 true).run Tryz.prog W=.ok (.tuple #[.agg #[.int .i64 c,.int .i64 x],.bool true]) W:=QaZ
 have heq:∀W:World,(binOp .eql 20 (.iface 32 (.agg #[.int .i64 c,.int .i64 x])) .nilIface).run Tryz.prog W=.ok (.bool false) W:=QaZ
 have hui:Tryz.prog.underlying 20=some (.interface (Tryz.prog.methodsAt 20)):=by kernel_rfl
 refine Qs (M:=M) (W:=W) (N:=13) (E:=Qtk) (O:=.blk g (.cells ([a0,a1,a2,a3,a4]:List Value).toArray 30 (0,0))::.blk k (.cells ([r0,r1]:List Value).toArray 32 (0,0))::O) ?_ Z0 hw;refine QsO ?_;refine yA fun b3=>?_;refine QrT ?_;refine Qn 0 rfl Q5 Q7t QhR ?_;refine Qn 1 rfl Q5 Q7t (zD 0) ?_;refine QI 2 Q5 rfl rfl KH KP rfl (fun _ _=>?_);rw[QF (by rfl)];refine QI 3 Q5 rfl rfl QbY KP rfl (fun _ _=>?_);rw[QF (by rfl)];refine Xu ?_ Q5;refine yd ?_;intro a w' ha hw';exact⟨ha.df,_,rfl,.tuple #[],by simp [results,Tryz.results30],rfl,rfl,hw'.tl⟩
section
variable {P:Program}{ops:Array Oper}{Q:Exit->Act->World->Prop}{N:Nat}{M:List Nat}{W:World}{E:Env}{O:List Qb}{o:Oper}{rest:List Oper}
theorem Qgm[dq:DQ]{fn:Fn}{x:Tmp}{caps:Array Value}(ho:o.op=.defer { callee:=.value (.tmp x),args:=#[],argTypes:=#[] })(hd:o.dst=none)(hw:Qi ops E o=some true)(hx:ev E (.tmp x)=some (.func fn #[] caps))
  (h:∀dq':DQ,dq'.D={ target:=.fn fn caps,args:=#[] }::dq.D->@lE dq' P ops Q N M W E O rest):lE P ops Q N M W E O (o::rest):=fun a w ha hW=>by
 refine wpList_step fun K hK=>?_;rw[if_pos (ha.want hw)];have hr:(execOp a.eval o).run P w=.ok (.defer { target:=.fn fn caps,args:=#[] }) w:=by
  have e:a.tmps[x]?.getD undef=.func fn #[] caps:=by
   have e:=ha.eval hx;simpa [go_sem] using e
  simp [execOp,ho,resolve,e,go_sem]
 unfold Oper.wp;rw[hr];simp only[Oper.upon];refine hK _ _ ((h ⟨{ target:=.fn fn caps,args:=#[] }::dq.D⟩ rfl) _ w ?_ hW);rw[hd];exact @Ag.mk ⟨{ target:=.fn fn caps,args:=#[] }::dq.D⟩ _ _ _ ha.sz (congrArg (List.cons _) ha.df) ha.has
theorem QfJ[dq:DQ]{d:Nat}{B:List PanicEntry->World->Prop}{ι:Type}{V:ι->Value}{G:ι->List Qb}{p:ι->Prop}(h1:pE P ops N M W E O o ι V G p B)(hd:o.dst=some d)(hN:d<N)(hp:∀a ch w,Ag N E a->B ch w->Q (.panic ch) a w)(h:∀i,p i->lE P ops Q N M W ((d,V i)::E) (G i) rest):lE P ops Q N M W E O (o::rest):=fun a w ha hW=>by
 obtain⟨hw,hl⟩:=h1 a w ha hW;refine wpList_step fun K hK=>?_;rw[if_pos hw];refine Oper.wp_of_loudP hl ?_ (fun ch w' hb=>hp a ch w' ha hb);exact Qnu
end
section
variable {a out:List Int}{i k:Nat}{r:Rl}
theorem Kg(l:List Int)(k i:Nat)(b:Int)(hk:k<l.length):(l.set k b).getD i 0=if i=k then b else l.getD i 0:=by
 rw[List.getD_eq_getElem?_getD,List.getElem?_set,List.getD_eq_getElem?_getD];by_cases h:k=i
 ·subst h;simp [hk]
 ·rw[if_neg h,if_neg (fun e=>h e.symm)]
structure Lst(F:List Rl)(out:List Int):Prop where
 len:out.length=F.length
 nn:∀j:Nat,0<=out.getD j 0
 top:∀j:Nat,out.getD j 0<=1001
 post:∀(i:Nat) (r:Rl),F[i]? =some r->out.getD i 0<=min (Q6O F out r) 1001
section
variable {F:List Rl}
theorem Qbt(a b:List Int)(h:∀j:Nat,a.getD j 0<=b.getD j 0):∀(l:List Int) (m n:Int),m<=n->l.foldl (fun s x=>min s (lk a x)) m<=l.foldl (fun s x=>min s (lk b x)) n
 |[],m,n,h0=>h0
 |x::l,m,n,h0=>by
  rw[List.foldl_cons,List.foldl_cons];refine Qbt a b h l _ _ ?_;have:lk a x<=lk b x:=h _
  omega
theorem QjA(hv:Usd F){b:List Int}(hab:∀j:Nat,a.getD j 0<=b.getD j 0)(hr:F[i]? =some r):Q6O F a r<=Q6O F b r:=by
 have hl:∀x,lk a x<=lk b x:=fun x=>hab _;unfold Q6O;split
 ·exact Q6q
 split
 ·exact Q6q
 split
 ·exact Q6q
 split
 ·next h=>have:=hl r.count;omega
 split
 ·next h=>
  have h1:=hl r.count;have h2:=Int.mul_le_mul_of_nonneg_left (hl r.elem) (hv.least hr (.inl h)).1;omega
 split
 ·exact Q3n b a r.parts 0 0 (Int.le_refl _) fun x _=>hl x
 split
 ·exact Qbt a b hab r.parts 1001 1001 (Int.le_refl _)
 ·exact Q6q
theorem Lst.start(F:List Rl)(h:∀(i:Nat) (r:Rl),F[i]? =some r->0<=Q6O F (List.replicate F.length 0) r):Lst F (List.replicate F.length 0):=by
 have h0:∀j:Nat,(List.replicate F.length (0:Int)).getD j 0=0:=fun j=>by
  rw[List.getD_eq_getElem?_getD,List.getElem?_replicate];split<;>rfl
 refine⟨List.length_replicate,fun j=>by rw[h0];omega,fun j=>by rw[h0];omega,fun i r hr=>?_⟩;rw[h0];have:=h i r hr;omega
theorem Lst.put(hv:Usd F)(h:Lst F out)(hr:F[k]? =some r):Lst F (out.set k (min (Q6O F out r) 1001)):=by
 have hk:k<out.length:=by rw[h.len];exact(List.getElem?_eq_some_iff.1 hr).1
 have hp:=h.post k r hr;have h0:=h.nn k;have hge:∀j:Nat,out.getD j 0<=(out.set k (min (Q6O F out r) 1001)).getD j 0:=fun j=>by
  rw[Kg _ _ _ _ hk];split
  ·next e=>subst e;exact hp
  ·exact Q6q
 refine⟨by rw[List.length_set];exact h.len,fun j=>Int.le_trans (h.nn j) (hge j),fun j=>?_,fun i q hq=>?_⟩
 ·rw[Kg _ _ _ _ hk]
  split
  ·omega
  ·exact h.top j
 ·have hm:=QjA hv hge hq;rw[Kg _ _ _ _ hk]
  split
  ·next e=>subst e;rw[hr] at hq;cases hq;omega
  ·have:=h.post i q hq;omega
end
end
section
variable {F p:VF}{d:Nd}{i:Nat}{ns:List (List UInt8)}{rc:Bool}
def Q0E(d:Nd)(np:Nat)(body:List UInt8):List UInt8:=num d.k++(if d.k=1 then num d.n else if d.k=2 then ZF d.bs else num (np:Int)++body)
def XO:VF->Bool->List (List UInt8)->List UInt8
 |.nil,_,_=>[]
 |.cons d p r,rc,ns=>(if rc then ZF (ns.headD []) else [])++(Q0E d p.len (XO p (d.k==4) d.ns)++XO r rc ns.tail)
def XW(d:Nd)(p:VF):List UInt8:=Q0E d p.len (XO p (d.k==4) d.ns)
theorem Qf4(F:VF):∀(rc:Bool) (ns:List (List UInt8)) (i:Nat),XO F rc ns=XO (F.take i) rc ns++XO (F.drop i) rc (ns.drop i):=by
 induction F with
 |nil=>intro rc ns i;cases i<;>rfl
 |cons d p r _ ih=>
  intro rc ns i;cases i with
  |zero=>rw[VF.take_zero,VF.drop_zero,List.drop_zero];rfl
  |succ i=>
   show _=XO (.cons d p (r.take i)) rc ns++XO (r.drop i) rc (ns.drop (i+1));simp only[XO];rw[ih rc ns.tail i,List.drop_tail];simp only[List.append_assoc]
theorem Q4g(F:VF):∀(rc:Bool) (ns:List (List UInt8)) (i:Nat) (d:Nd) (p r:VF),F.drop i=.cons d p r->
  XO (F.take (i+1)) rc ns=XO (F.take i) rc ns++((if rc then ZF ((ns.drop i).headD []) else [])++XW d p):=by
 induction F with
 |nil=>intro rc ns i d p r h;cases i<;>simp [VF.drop] at h
 |cons d' p' r' _ ih=>
  intro rc ns i d p r h;cases i with
  |zero=>
   rw[VF.drop_zero] at h;injection h with h1 h2 h3;subst h1 h2 h3;show XO (.cons d' p' (r'.take 0)) rc ns=_;rw[VF.take_zero,VF.take_zero];simp [XO,XW]
  |succ i=>
   show XO (.cons d' p' (r'.take (i+1))) rc ns=XO (.cons d' p' (r'.take i)) rc ns++_;simp only[XO];rw[ih rc ns.tail i d p r h,List.drop_tail];simp only[List.append_assoc]
theorem Q0M:(XO (F.take i) rc ns).length<=(XO F rc ns).length:=by
 rw[Qf4 F rc ns i,List.length_append];omega
theorem Q2g(h1:¬d.k=1)(h2:¬d.k=2):XW d p=num d.k++(num (p.len:Int)++XO p (d.k==4) d.ns):=by
 unfold XW Q0E;rw[if_neg h1,if_neg h2]
theorem Qc0(h1:d.k=1):XW d p=num d.k++num d.n:=by unfold XW Q0E;rw[if_pos h1]
theorem Q6i(h2:d.k=2):XW d p=num d.k++ZF d.bs:=by unfold XW Q0E;rw[if_neg Q3,if_pos h2]
theorem Q97{r:VF}(h:F.drop i=.cons d p r):(XW d p).length<=(XO F rc ns).length:=by
 have h1:=Q4g F rc ns i d p r h;have h2:=Q0M (F:=F) (rc:=rc) (ns:=ns) (i:=i+1);rw[h1] at h2;simp only[List.length_append] at h2;omega
def Yw:VF->Prop
 |.nil=>True
 |.cons d p r=>QL d p.len=0/\Yw p/\Yw r
theorem Yw.drop:∀(F:VF) (i:Nat),Yw F->Yw (F.drop i):=by
 intro F;induction F with
 |nil=>intro i _;cases i<;>trivial
 |cons d p r _ ih=>
  intro i h;cases i with
  |zero=>exact h
  |succ i=>exact ih i h.2.2
theorem Q44(F:VF):∀(num lev m:Nat),Xe F num lev=.inr m->Yw F:=by
 induction F with
 |nil=>intro _ _ _ _;trivial
 |cons d p r ih1 ih2=>
  intro num lev m h;by_cases h1:600<=num\/10<lev
  ·rw[ZA h1] at h;cases h
  ·by_cases h2:QL d p.len≠0
   ·rw[Z4 h1 h2] at h;cases h
   ·cases hp:Xe p (num+1) (lev+1) with
    |inl f=>rw[Zs h1 h2 hp] at h;cases h
    |inr k=>
     rw[ZU h1 h2 hp] at h;exact⟨by simpa using h2,ih1 _ _ _ hp,ih2 _ _ _ h⟩
theorem Y6{np:Nat}(h:QL d np=0):(1<=d.k/\d.k<=4)/\(d.k=1\/d.n=0)/\(d.k=2\/d.bs=[])/\(d.k=4\/d.ns=[])/\(3<=d.k\/np=0)/\(d.k=4->d.ns.length=np)/\np<=600/\d.ns.all Qv=true/\d.ns.Nodup:=by
 by_cases hk:d.k<1\/4<d.k
 ·rw[Q2y hk] at h;cases h
 ·by_cases hf:(d.k≠1/\d.n≠0)\/(d.k≠2/\0<d.bs.length)\/(d.k≠4/\0<d.ns.length)\/(d.k<3/\0<np)\/(d.k=4/\d.ns.length≠np)
  ·rw[Q21 hk hf] at h;cases h
  ·rw[Q62 hk hf] at h
   have h6:¬600<np:=fun h'=>by rw[Q5A h'] at h;cases h
   have h7:d.ns.all Qv=true:=by
    cases e:d.ns.all Qv with
    |true=>rfl
    |false=>rw[Qfx h6 e] at h;cases h
   have h8:d.ns.Nodup:=by
    by_cases e:d.ns.Nodup
    ·exact e
    ·rw[QfC h6 h7 e] at h;cases h
   have z:∀{α:Type} (l:List α),¬0<l.length->l=[]:=fun l hl=>List.eq_nil_of_length_eq_zero Q3;refine⟨by omega,by omega,?_,?_,by omega,by omega,by omega,h7,h8⟩
   ·by_cases e:d.k=2
    ·exact .inl e
    ·exact .inr (z _ Q3)
   ·by_cases e:d.k=4
    ·exact .inl e
    ·exact .inr (z _ Q3)
def QaW(w:World)(s:ByteArray):Nat:=grownCap w s.size 0 5
def Ku(w:World)(s:ByteArray):World:=w.drew.alloc (.cells (bytesRow s (QaW w s)) 5 ((bytesRow s (QaW w s)).size,(bytesRow s (QaW w s)).size+1))
theorem QiJ(s:ByteArray)(w:World):(convert 9 25 (.string s)).run Tryz.prog w=.ok (.slice (some ⟨w.heap.size,0,none⟩) s.size (QaW w s)) (Ku w s):=
 run_bytes_of_string w 9 25 5 s Tryz.underlying9 Tryz.underlying25 Tryz.underlying5
theorem QaE(w:World)(s:ByteArray):Below w.heap.size w (Ku w s):=((Below.refl _ _).drew).alloc Xk _
theorem QbO(w:World)(s:ByteArray):(Ku w s).heap.size=w.heap.size+1:=by simp [Ku]
theorem Qmb(w:World)(s:ByteArray):Rd (Ku w s) (Ku w s).heap.size 1 (some ⟨w.heap.size,0,none⟩) s.size (bv s.data.toList):=by
 refine⟨by simp [bv],fun _=>⟨_,_,rfl,by rw[QbO];omega,fun j u hu=>?_⟩⟩;have hj:j<s.size:=by
  have:=(List.getElem?_eq_some_iff.1 hu).1;simpa [bv] using this
 unfold Ku;rw[Nat.zero_add];have e:=cell_of_row (w.drew.alloc (.cells (bytesRow s (QaW w s)) 5 ((bytesRow s (QaW w s)).size,(bytesRow s (QaW w s)).size+1))) w.heap.size j (bytesRow s (QaW w s)) 5 _ (heap_alloc_new w.drew _);rw[e];have:(bytesRow s (QaW w s))[j]? =some (.int .u8 (s[j].toNat:Int)):=by
  unfold bytesRow;rw[Array.getElem?_append_left (by simpa using hj)];rw[Array.getElem?_map,Array.getElem?_eq_getElem (by simpa using hj)];rfl
 rw[this,<- hu];simp only[bv,List.getElem?_map,Q1a hj,Option.map_some]
theorem Qih(w:World)(s:ByteArray)(g:Nat)(hg:g=w.heap.size):Rd (Ku w s) (Ku w s).heap.size 1 (some ⟨g,0,none⟩) s.size (bv s.data.toList):=by subst hg;exact Qmb w s
end
section
variable {A:Option Addr}{W1 w:World}{c i:Nat}{d:Nd}{ns:List (List UInt8)}{p:VF}{rc:Bool}{v:Value}
def Qnb(d:Nd)(p:VF):Prop:=XR d->XU p->p.len<=1048576->QL d p.len=0->Yw p->(XW d p).length<=1099511627776->∀(w:World) (v:Value),VIn w w.heap.size v d p->
 Calls Tryz.prog 102 #[v] w (JV w (XW d p))
theorem Qex(hv:VIn w w.heap.size v d p)(hf:XR d)(hk:d.k=1):Calls Tryz.prog 102 #[v] w (JV w (XW d p)):=by
 have HE:=Q2 (Qc0 (d:=d) (p:=p) hk);obtain⟨sb,sn,sp,rfl,Ab,nb,cb,An,nn,cn,Ap,cp,rfl,rfl,rfl,hbc,hnc,hpc,hpm,hrb,hrn,hp⟩:=hv;obtain⟨⟨h1,h2,h3,h4⟩,_⟩:=hf;have hl1:=XK d.k h1 h2;have hl2:=XK d.n h3 h4;have hk1:(d.k==1)=true:=by simp [hk]
 clear hrb hrn hp hk;go_enter Tryz.func102,Tryz.ntmps102;go_wp2_with fail
 refine(Z5 d.k _ h1 h2).mono ?_;rintro e w1 ⟨A1,c1,rfl,hown1,hb1⟩;have hz1:=hb1.size;have q0:w1.cell? ⟨w.heap.size,0,none⟩=some (.int .i64 d.k):=Q50;have q1:w1.cell? ⟨w.heap.size,1,none⟩=some (.int .i64 d.n):=Q50;simp only[Qx] at hz1 hown1;have HB1:=QkZ;clear hb1;go_wp2_with fail
 refine(Z5 d.n _ h3 h4).mono ?_;rintro e w2 ⟨A2,c2,rfl,hown2,hb2⟩;have hz2:=hb2.size;have HB2:=Q2 (X4 HB1.out hb2);have hown1':=QaX;go_wp2_with (at_builtin;refine XT _ slB rfl (.tmp 13) (.tmp 16) rfl (w.heap.size+1) A1 (num d.k).length c1 (bv (num d.k)) rfl hown1' _ A2 (num d.n).length c2 (bv (num d.n)) rfl (Rd.of_own hown2) (Jg _) Q3 Q3 HB2.out Q3 ?_;intro A3 c3 w3 hown3 _ hb3)
 exact QlS
theorem Q9D(hv:VIn w w.heap.size v d p)(hf:XR d)(hk:d.k=2):Calls Tryz.prog 102 #[v] w (JV w (XW d p)):=by
 have HE:=Q2 (Q6i (d:=d) (p:=p) hk);obtain⟨sb,sn,sp,rfl,Ab,nb,cb,An,nn,cn,Ap,cp,rfl,rfl,rfl,hbc,hnc,hpc,hpm,hrb,hrn,hp⟩:=hv;obtain⟨⟨h1,h2,h3,h4⟩,hbl,_⟩:=hf;have hl1:=XK d.k h1 h2;have hnb:d.bs.length=nb:=by have:=hrb.len;rw[X5] at this;exact this
 have hl2:=YW d.bs Q3;have hnb':nb<=1048576:=by omega
 have hk1:(d.k==1)=false:=by simp [hk]
 have hk2:(d.k==2)=true:=by simp [hk]
 have HRB:=Q2 hrb;clear hrb hrn hp hk hnb;go_enter Tryz.func102,Tryz.ntmps102;go_wp2_with fail
 refine(Z5 d.k _ h1 h2).mono ?_;rintro e w1 ⟨A1,c1,rfl,hown1,hb1⟩;have hz1:=hb1.size;have q0:w1.cell? ⟨w.heap.size,0,none⟩=some (.int .i64 d.k):=Q50;have q2:w1.cell? ⟨w.heap.size,2,none⟩=some (.slice Ab nb cb):=Q50;simp only[Qx] at hz1 hown1;have HB1:=QkZ;clear hb1;go_wp2_with fail
 refine(Q4O (bs:=d.bs) ((HRB.out.below HB1.out).more HB1.out.size) Q3).mono ?_;rintro e w2 ⟨A2,c2,rfl,hown2,hb2⟩;have hz2:=hb2.size;have HB2:=Q2 (X4 HB1.out hb2);have hown1':=QaX;go_wp2_with (at_builtin;refine XT _ slB rfl (.tmp 20) (.tmp 23) rfl (w.heap.size+1) A1 (num d.k).length c1 (bv (num d.k)) rfl hown1' _ A2 (ZF d.bs).length c2 (bv (ZF d.bs)) rfl (Rd.of_own hown2) (Jg _) Q3 Q3 HB2.out Q3 ?_;intro A3 c3 w3 hown3 _ hb3)
 exact QlS
def Qag(w W1:World)(pre:List UInt8)(p:VF)(rc:Bool)(ns:List (List UInt8))(out k:Value)(wr:World):Prop:=
 ∃(i:Nat) (A:Option Addr) (c:Nat),i<=p.len/\k=.int .i64 (i:Int)/\out=.slice A (pre++XO (p.take i) rc ns).length c/\
  wr.ownsRow W1.heap.size 5 1 (.slice A (pre++XO (p.take i) rc ns).length c) (pre++XO (p.take i) rc ns).length (bv (pre++XO (p.take i) rc ns))/\Below W1.heap.size W1 wr
theorem Qkq{r F:VF}(h:VF.All Qnb (F.drop i))(hd:F.drop i=.cons d p r)(hf:XU (F.drop i))(hg:Yw (F.drop i))(hl:(XW d p).length<=1099511627776):∀(w:World) (v:Value),VIn w w.heap.size v d p->
  Calls Tryz.prog 102 #[v] w (JV w (XW d p)):=by
 rw[hd] at h hf hg;exact h.1 hf.1 hf.2.2.1 hf.2.1 hg.1 hg.2.1 hl
theorem Q8f{w3:World}{nk nnp:List UInt8}(h:w3.ownsRow W1.heap.size 5 1 (.slice A (nk.length+nnp.length) c) (nk.length+nnp.length) (bv nk++bv nnp))(hb:Below W1.heap.size W1 w3):
  Qag w W1 (nk++nnp) p rc ns (.slice A (nk.length+nnp.length) c) (.int .i64 0) w3:=by
 have e:nk++nnp++XO (p.take 0) rc ns=nk++nnp:=by rw[VF.take_zero];simp [XO]
 refine⟨0,A,c,Nat.zero_le _,rfl,?_,?_,hb⟩
 ·rw[e,List.length_append]
 ·rw[e,List.length_append,Q0j];exact h
theorem QdN{w4:World}{pre add:List UInt8}{n:Nat}{xs:List Value}(hi:i<p.len)(hadd:XO (p.take (i+1)) rc ns=XO (p.take i) rc ns++add)(h:w4.ownsRow W1.heap.size 5 1 (.slice A n c) n xs)(hx:xs=bv (pre++XO (p.take i) rc ns)++bv add)(hn:n=(pre++XO (p.take i) rc ns).length+add.length)(hb:Below W1.heap.size W1 w4):
  Qag w W1 pre p rc ns (.slice A n c) (.int .i64 ((i:Int)+1)) w4:=by
 subst hx hn;have e:pre++XO (p.take (i+1)) rc ns=(pre++XO (p.take i) rc ns)++add:=by rw[hadd,List.append_assoc]
 refine⟨i+1,A,c,hi,by go_num,?_,?_,hb⟩
 ·rw[e];simp only[List.length_append]
 ·rw[e,List.length_append,Q0j];exact h
theorem QqQ(F:VF)(ns:List (List UInt8))(i:Nat)(d:Nd)(p r:VF)(h:F.drop i=.cons d p r):XO (F.take (i+1)) false ns=XO (F.take i) false ns++XW d p:=by
 rw[Q4g F false ns i d p r h];simp
theorem Qld(F:VF)(ns:List (List UInt8))(i:Nat)(d:Nd)(p r:VF)(s:List UInt8)(h:F.drop i=.cons d p r)(hs:ns[i]? =some s):XO (F.take (i+1)) true ns=XO (F.take i) true ns++(ZF s++XW d p):=by
 rw[Q4g F true ns i d p r h];have:(ns.drop i).headD []=s:=by
  have e:(ns.drop i)[0]? =some s:=by rw[List.getElem?_drop];simpa using hs
  cases hd:ns.drop i with
  |nil=>rw[hd] at e;simp at e
  |cons x l=>rw[hd] at e;simp at e;simp [e]
 rw[this];simp
theorem QdR(hall:VF.All Qnb p)(hv:VIn w w.heap.size v d p)(hf:XR d)(hfp:XU p)(hgp:Yw p)(hpl:p.len<=1048576)(hk:d.k=3)(hlen:(XW d p).length<=1099511627776):Calls Tryz.prog 102 #[v] w (JV w (XW d p)):=by
 have he:=Q2g (d:=d) (p:=p) Q3 Q3;have hrc:(d.k==4)=false:=by simp [hk]
 rw[hrc] at he;rw[he] at hlen;have HRC:=Q2 hrc;obtain⟨sb,sn,sp,rfl,Ab,nb,cb,An,nn,cn,Ap,cp,rfl,rfl,rfl,hbc,hnc,hpc,hpm,hrb,hrn,hp⟩:=hv;obtain⟨⟨h1,h2,h3,h4⟩,_⟩:=hf;have hl1:=XK d.k h1 h2;have hl2:=XK (p.len:Int) Q3 Q3;have hk1:(d.k==1)=false:=by simp [hk]
 have hk2:(d.k==2)=false:=by simp [hk]
 have HP:=Q2 hp;have HFP:=Q2 hfp;have HGP:=Q2 hgp;have HALL:=Q2 hall;simp only[List.length_append] at hlen;obtain⟨np,hnp⟩:∃np,p.len=np:=⟨_,rfl⟩;have HNP:=Q2 hnp;rw[hnp] at hpl hpc hl2 hlen he ⊢;have HE:=Q2 he;clear he;clear hrb hrn hp hk hfp hgp hall hnp;go_enter Tryz.func102,Tryz.ntmps102;go_wp2_with fail
 refine(Z5 d.k _ h1 h2).mono ?_;rintro e w1 ⟨A1,c1,rfl,hown1,hb1⟩;have hz1:=hb1.size;have q0:w1.cell? ⟨w.heap.size,0,none⟩=some (.int .i64 d.k):=Q50;have q4:w1.cell? ⟨w.heap.size,4,none⟩=some (.slice Ap np cp):=Q50;have HW1:=Q2 hb1;clear hb1;go_wp2_with fail
 refine(Z5 (np:Int) _ Q3 Q3).mono ?_;rintro e w2 ⟨A2,c2,rfl,hown2,hb2⟩;have hz2:=hb2.size;have HB2:=Q2 (HW1.out.trans (hb2.mono hz1));have hown1':=QaX;obtain⟨W1,hW1⟩:∃W1,w.alloc (.cells #[.int .i64 d.k,.int .i64 d.n,.slice Ab nb cb,.slice An nn cn,.slice Ap np cp] 30)=W1:=⟨_,rfl⟩;have hW1z:W1.heap.size=w.heap.size+1:=by rw[<- hW1];simp
 have HWB:=QnF;rw[hW1] at hown1 hown1' hz1 HB2 HW1;have HBX:=Q2 (show W1.cell? Q0H=some (.int .i64 d.k)/\W1.cell? ⟨w.heap.size,4,none⟩=some (.slice Ap np cp) by rw[<- hW1];exact⟨by simp,by simp⟩);have HZ:=Q2 hW1z;clear hW1 hb2;generalize num d.k=nk at*
 generalize num (np:Int)=nnp at*
 have hzle:w.heap.size<W1.heap.size:=by omega
 clear hW1z;go_wp2_with (at_builtin;refine XT _ slB rfl (.tmp 25) (.tmp 29) rfl W1.heap.size A1 nk.length c1 (bv nk) rfl hown1' _ A2 nnp.length c2 (bv nnp) rfl (Rd.of_own hown2) (Jg _) Q3 Q3 HB2.out Q3 ?_;intro A3 c3 w3 hown3 _ hb3;have q40:=(hb3.cell (p:=⟨w.heap.size,4,none⟩) (by exact hzle)).trans HBX.out.2)
 go_loopw [3,34] (Qag w W1 (nk++nnp) p false d.ns) (fun _ k _=>np - (intOf k).toNat)
 case atStart=>exact Q8f hown3 hb3
 case round=>
  clear hown3 hb3 q40 hown1 hown1' hown2 q0 q4 HB2 HW1 hz1 hz2;obtain⟨i,A,c,hi,rfl,rfl,hown,hbw⟩:=hrel;rw[HNP.out] at hi;have HBW:=Q2 hbw;have HWR:=Qk6;have hzw:=hbw.size;have r0:wr.cell? ⟨w.heap.size,0,none⟩=some (.int .i64 d.k):=(hbw.cell (by exact hzle)).trans HBX.out.1;clear hbw;by_cases hlt:i<np
  ·obtain⟨b,o,hAp,hb,hfin⟩:=HP.out Q7x
   subst hAp;obtain⟨d',p',hdr⟩:=VF.drop_cons (F:=p) (i:=i) Qd0;have hl':(XW d' p').length<=1099511627776:=Nat.le_trans (Q97 (rc:=false) (ns:=d.ns) hdr) Q3;have hlacc:=Q0M (F:=p) (rc:=false) (ns:=d.ns) (i:=i);have hlacc2:=Q0M (F:=p) (rc:=false) (ns:=d.ns) (i:=i+1);obtain⟨sb',sn',sp',⟨k0,k1,k2,k3,k4⟩,hd'⟩:=hfin.at_ hdr;have HV':Hid (VIn w w.heap.size (.agg #[.int .i64 d'.k,.int .i64 d'.n,sb',sn',sp']) d' p'):=QeA;obtain⟨Ab',nb',cb',An',nn',cn',Ap',cp',rfl,rfl,rfl,_⟩:=hd';have q0:=(HWR.out.cell Jt).trans k0;have q1:=(HWR.out.cell Jt).trans k1;have q2:=(HWR.out.cell Jt).trans k2;have q3:=(HWR.out.cell Jt).trans k3;have q4:=(HWR.out.cell Jt).trans k4;clear k0 k1 k2 k3 k4 hfin;have HCT:=QtB;have HADD:=Q2 (QqQ p d.ns i d' p' _ hdr);clear hdr;have hrc':=HRC.out;have hzlt:w.heap.size<wr.heap.size:=by omega
   have r0':∀ob,(wr.alloc ob).cell? ⟨w.heap.size,0,none⟩=some (.int .i64 d.k):=fun ob=>Qf r0;have hli:(i:Int)<(np:Int):=by omega
   have h0:(0:Int)<=(i:Int):=by omega
   obtain⟨acc,hacc⟩:∃acc,nk++nnp++XO (p.take i) false d.ns=acc:=⟨_,rfl⟩;have HACC:=Q2 hacc;have hal:acc.length=nk.length+nnp.length+(XO (p.take i) false d.ns).length:=by rw[<- hacc];simp;omega
   rw[hacc] at hown ⊢;have hal':acc.length<=1099511627776:=by omega
   clear hacc hal;go_wp2_with fail
   refine(HCT.out _ _ ((HV'.out.below HWR.out Xk).keep (fun q hq=>(Jr _ _).cell Q3) Zp)).mono ?_;rintro e w4 ⟨A4,c4,rfl,hown4,hb4⟩;have hz4:=hb4.size;have HB4:=Q2 (show Below W1.heap.size W1 w4 from HBW.out.trans ((X4 (Jr wr _) hb4).mono hzw));have hown':=ZY (ZY hown (Jr wr _) Xk) hb4 Zp;clear hb4;go_wp2_with (at_builtin;refine XT _ slB rfl (.tmp 51) (.tmp 53) rfl W1.heap.size A acc.length c (bv acc) rfl hown' _ A4 (XW d' p').length c4 (bv (XW d' p')) rfl (Rd.of_own hown4) (Jg _) Q3 (by have:=HB4.out.size;omega) HB4.out (Nat.le_refl _) ?_;intro A5 c5 w5 hown5 _ hb5)
   exact⟨QdN Qd0 HADD.out hown5 (by rw[HACC.out]) (by rw[HACC.out]) hb5,by simp [intOf];omega⟩
  ·have HAL:=Q2 (show p.take i=p from VF.take_all Q7x)
   go_wp2_with fail
   go_ret;rw[HE.out];refine JV.as (Jy hown Q3) rfl ?_ HWR.out;rw[HAL.out,List.append_assoc]
end
section
variable {d:Nd}{p:VF}{v:Value}{w:World}
theorem Qim{wr w6 w7:World}{base e s n:Nat}{xs:List Value}(hg:w6.grownBy w7 v.ownBlock)(hown:wr.ownsRow base e s v n xs)(hz:wr.heap.size<w6.heap.size):∀o,w7.cell? ⟨wr.heap.size,o,none⟩=w6.cell? ⟨wr.heap.size,o,none⟩:=by
 intro o;have h:=hg.block wr.heap.size hz (fun e=>by have:=(hown.lt _ e.symm).2;omega);simp only[World.cell?,h]
theorem Qg8(hall:VF.All Qnb p)(hv:VIn w w.heap.size v d p)(hf:XR d)(hfp:XU p)(hgp:Yw p)(hpl:p.len<=1048576)(hk:d.k=4)(hnl:d.ns.length=p.len)(hlen:(XW d p).length<=1099511627776):Calls Tryz.prog 102 #[v] w (JV w (XW d p)):=by
 have he:=Q2g (d:=d) (p:=p) Q3 Q3;have hrc:(d.k==4)=true:=by simp [hk]
 rw[hrc] at he;rw[he] at hlen;have HRC:=Q2 hrc;obtain⟨sb,sn,sp,rfl,Ab,nb,cb,An,nn,cn,Ap,cp,rfl,rfl,rfl,hbc,hnc,hpc,hpm,hrb,hrn,hp⟩:=hv;obtain⟨⟨h1,h2,h3,h4⟩,_,_,hf4⟩:=hf;have hl1:=XK d.k h1 h2;have hl2:=XK (p.len:Int) Q3 Q3;have hk1:(d.k==1)=false:=by simp [hk]
 have hk2:(d.k==2)=false:=by simp [hk]
 have HRN:=Q2 hrn;have hnn:nn=p.len:=by have:=hrn.len;rw[XQ] at this;omega
 have HP:=Q2 hp;have HFP:=Q2 hfp;have HGP:=Q2 hgp;have HALL:=Q2 hall;simp only[List.length_append] at hlen;obtain⟨np,hnp⟩:∃np,p.len=np:=⟨_,rfl⟩;have HNP:=Q2 hnp;rw[hnp] at hpl hpc hl2 hlen he hnl hnn ⊢;have HE:=Q2 he;clear he;have HNS:=Q2 hf4;clear hrb hrn hp hk hfp hgp hall hnp hf4;have hnn1:nn<=np:=by omega
 have hnn2:np<=nn:=by omega
 clear hnn hnl;go_enter Tryz.func102,Tryz.ntmps102;go_wp2_with fail
 refine(Z5 d.k _ h1 h2).mono ?_;rintro e w1 ⟨A1,c1,rfl,hown1,hb1⟩;have hz1:=hb1.size;have q0:w1.cell? ⟨w.heap.size,0,none⟩=some (.int .i64 d.k):=Q50;have q4:w1.cell? ⟨w.heap.size,4,none⟩=some (.slice Ap np cp):=Q50;have HW1:=Q2 hb1;clear hb1;go_wp2_with fail
 refine(Z5 (np:Int) _ Q3 Q3).mono ?_;rintro e w2 ⟨A2,c2,rfl,hown2,hb2⟩;have hz2:=hb2.size;have HB2:=Q2 (HW1.out.trans (hb2.mono hz1));have hown1':=QaX;obtain⟨W1,hW1⟩:∃W1,w.alloc (.cells #[.int .i64 d.k,.int .i64 d.n,.slice Ab nb cb,.slice An nn cn,.slice Ap np cp] 30)=W1:=⟨_,rfl⟩;have hW1z:W1.heap.size=w.heap.size+1:=by rw[<- hW1];simp
 have HWB:=QnF;rw[hW1] at hown1 hown1' hz1 HB2 HW1;have HBX:=Q2 (show W1.cell? Q0H=some (.int .i64 d.k)/\W1.cell? ⟨w.heap.size,4,none⟩=some (.slice Ap np cp)/\W1.cell? ⟨w.heap.size,3,none⟩=some (.slice An nn cn) by rw[<- hW1];exact⟨by simp,by simp,by simp⟩);have HZ:=Q2 hW1z;clear hW1 hb2;generalize num d.k=nk at*
 generalize num (np:Int)=nnp at*
 have hzle:w.heap.size<W1.heap.size:=by omega
 clear hW1z;go_wp2_with (at_builtin;refine XT _ slB rfl (.tmp 25) (.tmp 29) rfl W1.heap.size A1 nk.length c1 (bv nk) rfl hown1' _ A2 nnp.length c2 (bv nnp) rfl (Rd.of_own hown2) (Jg _) Q3 Q3 HB2.out Q3 ?_;intro A3 c3 w3 hown3 _ hb3;have q40:=(hb3.cell (p:=⟨w.heap.size,4,none⟩) (by exact hzle)).trans HBX.out.2.1)
 go_loopw [3,34] (Qag w W1 (nk++nnp) p true d.ns) (fun _ k _=>np - (intOf k).toNat)
 case atStart=>exact Q8f hown3 hb3
 case round=>
  clear hown3 hb3 q40 hown1 hown1' hown2 q0 q4 HB2 HW1 hz1 hz2;obtain⟨i,A,c,hi,rfl,rfl,hown,hbw⟩:=hrel;rw[HNP.out] at hi;have HBW:=Q2 hbw;have HWR:=Qk6;have hzw:=hbw.size;have r0:wr.cell? ⟨w.heap.size,0,none⟩=some (.int .i64 d.k):=(hbw.cell (by exact hzle)).trans HBX.out.1;clear hbw;by_cases hlt:i<np
  ·obtain⟨b,o,hAp,hb,hfin⟩:=HP.out Q7x
   subst hAp;obtain⟨d',p',hdr⟩:=VF.drop_cons (F:=p) (i:=i) Qd0;have hl':(XW d' p').length<=1099511627776:=Nat.le_trans (Q97 (rc:=true) (ns:=d.ns) hdr) Q3;have hlacc:=Q0M (F:=p) (rc:=true) (ns:=d.ns) (i:=i);have hlacc2:=Q0M (F:=p) (rc:=true) (ns:=d.ns) (i:=i+1);obtain⟨sb',sn',sp',⟨k0,k1,k2,k3,k4⟩,hd'⟩:=hfin.at_ hdr;have HV':Hid (VIn w w.heap.size (.agg #[.int .i64 d'.k,.int .i64 d'.n,sb',sn',sp']) d' p'):=QeA;obtain⟨Ab',nb',cb',An',nn',cn',Ap',cp',rfl,rfl,rfl,_⟩:=hd';have q0:=(HWR.out.cell Jt).trans k0;have q1:=(HWR.out.cell Jt).trans k1;have q2:=(HWR.out.cell Jt).trans k2;have q3:=(HWR.out.cell Jt).trans k3;have q4:=(HWR.out.cell Jt).trans k4;clear k0 k1 k2 k3 k4 hfin;have HCT:=QtB;have hni:i<nn:=by omega
   obtain⟨bn,on,s,hAn,hbn,hsn,hcn⟩:=VI HRN.out hni;subst hAn;have HADD:=Q2 (Qld p d.ns i d' p' _ _ hdr hsn);have hsl:s.size<=1048576:=by simpa using HNS.out _ (List.mem_of_getElem? hsn)
   have hchl:(ZF s.data.toList).length<=1048586:=by
    have h1:=YW s.data.toList (by simpa using (show s.size<=140737488355318 by omega));have h2:s.data.toList.length=s.size:=by simp
    omega
   rw[HADD.out] at hlacc2;simp only[List.length_append] at hlacc2;have s3:wr.cell? ⟨w.heap.size,3,none⟩=some (.slice (some ⟨bn,on,none⟩) nn cn):=(HBW.out.cell (by exact hzle)).trans HBX.out.2.2;have sc:wr.cell? ⟨bn,on+i,none⟩=some (.string s):=(HWR.out.cell (by exact hbn)).trans hcn;have hni':(i:Int)<(nn:Int):=by omega
   have hcv:=QiJ s;have s3':∀ob,(wr.alloc ob).cell? ⟨w.heap.size,3,none⟩=some (.slice (some ⟨bn,on,none⟩) nn cn):=fun ob=>Qf s3;have sc':∀ob,(wr.alloc ob).cell? ⟨bn,on+i,none⟩=some (.string s):=fun ob=>Qf sc;clear hsn hcn;clear hdr;have hrc':=HRC.out;have hzlt:w.heap.size<wr.heap.size:=by omega
   have r0':∀ob,(wr.alloc ob).cell? ⟨w.heap.size,0,none⟩=some (.int .i64 d.k):=fun ob=>Qf r0;have hli:(i:Int)<(np:Int):=by omega
   have h0:(0:Int)<=(i:Int):=by omega
   obtain⟨acc,hacc⟩:∃acc,nk++nnp++XO (p.take i) true d.ns=acc:=⟨_,rfl⟩;have HACC:=Q2 hacc;have hal:acc.length=nk.length+nnp.length+(XO (p.take i) true d.ns).length:=by rw[<- hacc];simp;omega
   rw[hacc] at hown ⊢;have hal':acc.length<=1099511627776:=by omega
   clear hacc hal;go_wp2_with fail
   have hb5:=QaE (wr.alloc (.cells #[.int .i64 d'.k,.int .i64 d'.n,.slice Ab' nb' cb',.slice An' nn' cn',.slice Ap' p'.len cp'] 30)) s;have hz5:=hb5.size;refine(Q4O (bs:=s.data.toList) (Qih _ _ _ X6) Q3).mono ?_;rintro e w6 ⟨A6,c6,rfl,hown6,hb6⟩;have hz6:=hb6.size;have HB6:=Q2 (show Below wr.heap.size wr w6 from X4 (X4 (Jr _ _) hb5) hb6);have hz66:=HB6.out.size
   have HX:=(show Yk w6 wr.heap.size 0 d' (.slice Ab' nb' cb') (.slice An' nn' cn') (.slice Ap' p'.len cp') from by
    have hk:∀o,w6.cell? ⟨wr.heap.size,o,none⟩=(wr.alloc (.cells #[.int .i64 d'.k,.int .i64 d'.n,.slice Ab' nb' cb',.slice An' nn' cn',.slice Ap' p'.len cp'] 30)).cell? ⟨wr.heap.size,o,none⟩:=fun o=>(X4 hb5 hb6).cell Ql
    exact⟨(hk 0).trans Ql,(hk 1).trans Ql,(hk 2).trans Ql,(hk 3).trans Ql,(hk 4).trans Ql⟩)
   have hown':=ZY hown HB6.out Xk;have hzx:wr.heap.size<w6.heap.size:=by simp only[Qx] at hz5;omega
   clear hcv hb5 hb6;generalize ZF s.data.toList=ch at*
   obtain⟨x0,x1,x2,x3,x4⟩:=HX;go_wp2_with (at_builtin;refine Q4L _ slB rfl (.tmp 42) (.tmp 49) rfl W1.heap.size A acc.length c (bv acc) rfl hown' _ A6 ch.length c6 (bv ch) rfl (Rd.of_own hown6) (Jg _) Q3 Q3 ?_;intro A7 c7 w7 hown7 hg7 hb7;have hx7:=Qim hg7 hown hzx;have y0:=(hx7 0).trans x0;have y1:=(hx7 1).trans x1;have y2:=(hx7 2).trans x2;have y3:=(hx7 3).trans x3;have y4:=(hx7 4).trans x4;clear hx7)
   have HB7:=Q2 (show Below W1.heap.size W1 w7 from HBW.out.trans ((HB6.out.mono hzw).trans hb7));have HW7:=Q2 (show Below w.heap.size w w7 from X4 HWB.out HB7.out);have hz7:=HB7.out.size;refine(HCT.out _ _ (HV'.out.on HW7.out)).mono ?_;rintro e w4 ⟨A4,c4,rfl,hown4,hb4⟩;have hz4:=hb4.size;have HB4:=Q2 (show Below W1.heap.size W1 w4 from HB7.out.trans (hb4.mono hz7));have hown8:=ZY hown7 hb4 Xk;clear hb4;go_wp2_with (at_builtin;refine XT _ slB rfl (.tmp 51) (.tmp 53) rfl W1.heap.size A7 (acc.length+ch.length) c7 (bv acc++bv ch) rfl hown8 _ A4 (XW d' p').length c4 (bv (XW d' p')) rfl (Rd.of_own hown4) (Jg _) Q3 (by have:=HB4.out.size;omega) HB4.out (Nat.le_refl _) ?_;intro A5 c5 w5 hown5 _ hb5)
   exact⟨QdN Qd0 HADD.out hown5 (by rw[HACC.out,Q0j,List.append_assoc]) (by rw[HACC.out,List.length_append];omega) hb5,by simp [intOf];omega⟩
  ·have HAL:=Q2 (show p.take i=p from VF.take_all Q7x)
   go_wp2_with fail
   go_ret;rw[HE.out];refine JV.as (Jy hown Q3) rfl ?_ HWR.out;rw[HAL.out,List.append_assoc]
theorem QbG(d:Nd)(p:VF)(hall:VF.All Qnb p):Qnb d p:=by
 intro hf hfp hpl hc hg hlen w v hv;obtain⟨⟨k1,k4⟩,_,_,_,_,hnl,_⟩:=Y6 hc;by_cases h1:d.k=1
 ·exact Qex hv hf h1
 ·by_cases h2:d.k=2
  ·exact Q9D hv hf h2
  ·by_cases h3:d.k=3
   ·exact QdR hall hv hf hfp hg hpl h3 hlen
   ·exact Qg8 hall hv hf hfp hg hpl Q3 (hnl Q3) hlen
theorem Qbi(hf:XR d)(hfp:XU p)(hpl:p.len<=1048576)(hc:QL d p.len=0)(hg:Yw p)(hlen:(XW d p).length<=1099511627776)(hv:VIn w w.heap.size v d p):
  Calls Tryz.prog 102 #[v] w (JV w (XW d p)):=VF.all_each QbG d p hf hfp hpl hc hg hlen w v hv
end
section
variable {d:Nd}{m:Nat}{p:VF}{v:Value}{w:World}
def XN(d:Nd)(p:VF):Int×Int:=match Xe (.cons d p .nil) 0 1 with|.inl f=>f|.inr _=>if 4000<(XW d p).length then (14,-1) else (0,0)
theorem Q5L{f:Int×Int}(h:Xe (.cons d p .nil) 0 1=.inl f):XN d p=f:=by unfold XN;rw[h]
theorem Qd1(h:Xe (.cons d p .nil) 0 1=.inr m)(hl:4000<(XW d p).length):XN d p=(14,-1):=by unfold XN;rw[h];simp only;rw[if_pos hl]
theorem QgO(h:Xe (.cons d p .nil) 0 1=.inr m)(hl:¬4000<(XW d p).length):XN d p=(0,0):=by unfold XN;rw[h];simp only;rw[if_neg hl]
structure Mod(d:Nd)(p:VF):Prop where
 nd:XR d
 fp:XU p
 pl:p.len<=1048576
 el:(XW d p).length<=1099511627776
theorem Q5t{base g o:Nat}{e s n:Nat}{x:Value}{xs:List Value}(h:w.ownsRow base e s v n xs)(hg:g<base):(w.setCell ⟨g,o,none⟩ x).ownsRow base e s v n xs:=by
 refine⟨h.1,?_⟩;rcases h.2 with hn|⟨k,cap,cur,hv,hk,hh,r⟩
 ·exact .inl hn
 ·refine .inr ⟨k,cap,cur,hv,hk,?_,r⟩
  rw[Below.heap_setCell _ _ _ _ (by simp only;omega)];exact hh
def Qt5(w:World)(d:Nd)(p:VF)(e:Ending)(w':World):Prop:=
 Below w.heap.size w w'/\((∃c i,c≠0/\XN d p=(c,i)/\e=.returned (.tuple #[.slice none 0 0,.agg #[.int .i64 c,.int .i64 i]]))\/
  (∃A c m,Xe (.cons d p .nil) 0 1=.inr m/\XN d p=(0,0)/\(XW d p).length<=4000/\e=.returned (.tuple #[.slice A (XW d p).length c,.agg #[.int .i64 0,.int .i64 0]])/\w'.ownsRow w.heap.size 5 1 (.slice A (XW d p).length c) (XW d p).length (bv (XW d p))))
theorem Q8e(hm:Mod d p)(hv:VIn w w.heap.size v d p):Calls Tryz.prog 69 #[v] w (Qt5 w d p):=by
 have HV:=Q2 hv;have HM:=Q2 hm;obtain⟨sb,sn,sp,rfl,Ab,nb,cb,An,nn,cn,Ap,cp,rfl,rfl,rfl,hbc,hnc,hpc,hpm,hrb,hrn,hp⟩:=hv;clear hrb hrn hp hm;go_enter Tryz.func69,Tryz.ntmps69;go_wp2_with fail
 refine(Q2E (num:=0) (lev:=1) HM.out.nd HM.out.fp HM.out.pl Q9h Q3 Q3).mono ?_;rintro e w2 ⟨hb2,hres⟩;have F1:=Q9e;simp only[Qx] at F1
 have HBX:=Q2 (show Yk w2 w.heap.size 0 d (.slice Ab nb cb) (.slice An nn cn) (.slice Ap p.len cp) from by
  have hk:∀o,w2.cell? ⟨w.heap.size,o,none⟩=_:=fun o=>hb2.cell Zp
  exact ⟨(hk 0).trans (Qf Ql),(hk 1).trans (Qf Ql),(hk 2).trans (Qf Ql),(hk 3).trans (Qf Ql),(hk 4).trans (Qf Ql)⟩)
 have HB2:=Q9f;have HF1:=Q2 F1;have hz2:w.heap.size+1<w2.heap.size:=F1.1;clear hb2 F1;rcases hres with ⟨c,ix,hr,rfl⟩|⟨m,hr,rfl⟩
 ·have hc:=VV _ _ _ _ _ hr
  have hc0:(c==0)=false:=by simpa using hc
  have hneq:=Q2H c ix 0 0;have HF:=Q2 (Q5L hr);have HC:=Q2 hc;have P2:=Qlz;have P1:=FC.new w2 c ix;have PB:=Qn1;clear hr hc;go_wp2_with fail
  obtain⟨W4,hW4⟩:∃W4,w2.alloc (.cells #[.int .i64 c,.int .i64 ix] 32)=W4:=⟨_,rfl⟩;rw[hW4] at P1 P2 PB ⊢;have HPB:=Q2 PB;clear hW4 PB;obtain⟨z3,a0,a1,g0,g1⟩:=P1;obtain⟨z4,r0,r1,e0,e1⟩:=P2;go_region
  go_wp2_with fail
  refine QmJ ?_;exact Qmz
 ·have hneq:=Q2H 0 0 0 0
  have hg:=Q44 _ _ _ _ hr;have HR:=Q2 hr;obtain⟨x0,x1,x2,x3,x4⟩:=HBX.out;simp only[Nat.zero_add] at x1 x2 x3 x4;have y0:=fun ob=>Qf (o:=ob) x0;have y1:=fun ob=>Qf (o:=ob) x1;have y2:=fun ob=>Qf (o:=ob) x2;have y3:=fun ob=>Qf (o:=ob) x3;have y4:=fun ob=>Qf (o:=ob) x4;clear hr;go_wp2_with fail
  refine(Qbi HM.out.nd HM.out.fp HM.out.pl hg.1 hg.2.1 HM.out.el (HV.out.on (Kf HB2.out _))).mono ?_;rintro e w3 ⟨A3,c3,rfl,hown3,hb3⟩;have HB3:=Q2 (show Below w.heap.size w w3 from X4 (Kf HB2.out _) hb3);have HR3:=Q2 ((HF1.out.alloc (.cells #[.int .i64 0,.int .i64 0] 32)).on hb3);have HOWN:=Q2 hown3;obtain⟨z4,r0,r1,e0,e1⟩:=HR3.out;have hel:=HM.out.el;clear hb3 hown3 x0 x1 x2 x3 x4 y0 y1 y2 y3 y4;by_cases hbig:4000<(XW d p).length
  ·have HF:=Q2 (Qd1 HR.out hbig)
   have hbig':(4000:Int)<((XW d p).length:Int):=by omega
   go_wp2_with (go_at_call 103;refine(Ju _ _ _).mono ?_;rintro e w' ⟨rfl,rfl⟩)
   refine bodyPost_ret (v:=.tuple #[.slice none 0 0,.agg #[.int .i64 14,.int .i64 (-1)]]) QmU rfl ?_;exact⟨Kf (Z3 HB3.out Q3 _ _) _,.inl ⟨14,-1,by decide,HF.out,rfl⟩⟩
  ·have HF:=Q2 (QgO HR.out hbig)
   have hbig':¬(4000:Int)<((XW d p).length:Int):=by omega
   go_wp2_with fail
   refine bodyPost_ret (v:=.tuple #[.slice A3 (XW d p).length c3,.agg #[.int .i64 0,.int .i64 0]]) QmU rfl ?_;refine⟨Z3 HB3.out Q3 _ _,.inr ⟨A3,c3,m,HR.out,HF.out,by omega,rfl,?_⟩⟩;exact Jy (Q5t (Q5t HOWN.out Zp) Zp) Zp
theorem Q5Y(hm:Mod d p)(hv:VIn w w.heap.size v d p):Calls Tryz.prog 34 #[v] w fun e w'=>e=.returned (.agg #[.int .i64 (XN d p).1,.int .i64 (XN d p).2])/\Below w.heap.size w w':=by
 have HV:=Q2 hv;have HM:=Q2 hm;obtain⟨sb,sn,sp,rfl,Ab,nb,cb,An,nn,cn,Ap,cp,rfl,rfl,rfl,hbc,hnc,hpc,hpm,hrb,hrn,hp⟩:=hv;clear hrb hrn hp hm;go_enter Tryz.func34,Tryz.ntmps34;go_wp2_with fail
 refine(Q8e HM.out Q9h).mono ?_;rintro e w2 ⟨hb2,hres⟩;have F1:=Q9e;simp only[Qx] at F1;have HB2:=Q9f;have HF1:=Q2 F1;have hz2:w.heap.size+1<w2.heap.size:=F1.1;clear hb2 F1;obtain⟨A,n,c,cd,ix,he,hf⟩:∃A n c cd ix,e=.returned (.tuple #[.slice A n c,.agg #[.int .i64 cd,.int .i64 ix]])/\XN d p=(cd,ix):=by
  rcases hres with ⟨c,i,_,h,he⟩|⟨A,c,m,_,h,_,he,_⟩
  ·exact Qas
  ·exact Qas
 subst he;have HF:=Q2 hf;clear hf hres;obtain⟨z4,r0,r1,e0,e1⟩:=HF1.out;go_wp2_with fail
 refine Ql1 ?_;exact Ql6
end
theorem Qb4:∀{F:VF},Yw F->Q3t F
 |.nil,_=>trivial
 |.cons d p r,h=>⟨h.1,Qb4 h.2.1,Qb4 h.2.2⟩
def Q0R(F:List Rl)(D:List UInt8):Nat:=(D.length+1)*(F.length+1)
theorem Q9F{F:List Rl}{D:List UInt8}:Q1Y F D 0 0<=Q0R F D:=by
 unfold Q1Y Q0R;have:=Qdk F (0:Int).toNat;rw[Nat.sub_zero,Nat.succ_mul];omega
abbrev ndZ:Nd:=⟨0,0,[],[]⟩
def YF(F:List Rl)(D:List UInt8):(Nd×VF)×(Int×Int):=
 if Qy F≠(0,0) then ((ndZ,.nil),Qy F)
 else if 1000<D.length then ((ndZ,.nil),(3,-2))
 else match QE F D (Q0R F D) 0 0 with
  |none=>((ndZ,.nil),(1,0))
  |some (.error e)=>((ndZ,.nil),(1,(e:Int)))
  |some (.ok y)=>if y.2.2<D.length then ((ndZ,.nil),(1,(y.2.2:Int))) else if XN y.1 y.2.1≠(0,0) then ((ndZ,.nil),(14,-2)) else ((y.1,y.2.1),(0,0))
def JN(F:List Rl)(d:Nd)(l:VF):List UInt8×(Int×Int):=
 if Qy F≠(0,0) then ([],Qy F)
 else if XN d l≠(0,0) then ([],XN d l)
 else match Xw F (.cons d l .nil) [([],some 0)] [] 0 with
  |.error e=>([],(13,(e:Int)))
  |.ok (b,_)=>if 1000<b.length then ([],(14,-2)) else (b,(0,0))
section
variable {F:List Rl}{D:List UInt8}{d:Nd}{l:VF}
theorem Qdc(h:Qy F=(0,0)):Fm F:=by
 refine QtX ?_;unfold Qy at h;split at h
 ·exact h
 ·next hc=>simpa using hc
theorem Qp1(h:(Xf F).1=0):Xf F=(0,0):=by
 unfold Xf at h ⊢;split at h
 ·exact Q8Z
 split at h
 ·exact Q8Z
 next h0 h1=>
 rw[if_neg h0,if_neg h1];cases e1:Xh F.length (fun k=>Zg F k != 0) with
 |some k=>
  rw[e1] at h;have:=(Q0X e1).2.1;simp only at h;rw[h] at this;cases this
 |none=>
  rw[e1] at h;simp only at h ⊢;cases e2:Xh F.length (fun k=>JG F k != 0) with
  |some k=>
   rw[e2] at h;have:=(Q0X e2).2.1;simp only at h;rw[h] at this;cases this
  |none=>
   rw[e2] at h;simp only at h ⊢;cases e3:Xh F.length (Q1l F) with
   |some k=>rw[e3] at h;exact Q9E
   |none=>
    rw[e3] at h;simp only at h ⊢;cases e4:Xh F.length (fun k=>!((Zn F).getD k false)) with
    |some k=>rw[e4] at h;exact Q9E
    |none=>
     rw[e4] at h;simp only at h ⊢;cases e5:Xh F.length (ZE F) with
     |some k=>rw[e5] at h;exact Q9E
     |none=>rfl
theorem QdW(h:(Qy F).1=0):Qy F=(0,0):=by
 unfold Qy at h ⊢;split at h
 ·next hc=>exact absurd (Qp1 h) hc
 ·next hc=>
  rw[if_neg hc];split at h
  ·exact Q8Z
  ·next hl=>rw[if_neg hl]
theorem QlB(h:(XN d l).1=0):XN d l=(0,0):=by
 unfold XN at h ⊢;split at h
 ·next f hf=>
  obtain⟨c,i⟩:=f;exact absurd h (VV _ _ _ _ _ hf)
 ·next m hm=>
  split at h
  ·exact Q8Z
  ·next hl=>rw[if_neg hl]
theorem Qjp(h:XN d l=(0,0)):QL d l.len=0/\Q3t l:=by
 unfold XN at h;split at h
 ·next f hf=>
  subst h;exact absurd rfl (VV _ _ _ _ _ hf)
 ·next m hm=>
  have:=Q44 _ _ _ _ hm;exact⟨this.1,Qb4 this.2.1⟩
theorem Qjn(hv:Fm F)(D:List UInt8):∃y,QE F D (Q0R F D) 0 0=some y:=Q2l hv.toVld _ Qt8 Ze Q9F
theorem Qor(hv:Fm F){y:Nd×VF×Nat}(h:QE F D (Q0R F D) 0 0=some (.ok y)):0<y.2.2/\y.2.2<=D.length:=XJ hv.toUsd _ Qt8 0 y Ze h
theorem QpW(h:(JN F d l).2.1=0):Qy F=(0,0)/\XN d l=(0,0)/\∃b m,JN F d l=(b,(0,0))/\Xw F (.cons d l .nil) [([],some 0)] [] 0=.ok (b,m)/\b.length<=1000:=by
 unfold JN at h ⊢;split at h
 ·next h0=>exact absurd (QdW h) h0
 next h0=>
 have h0:Qy F=(0,0):=by simpa using h0
 rw[if_neg (by simpa using h0)];split at h
 ·next h1=>exact absurd (QlB h) h1
 next h1=>
 have h1:XN d l=(0,0):=by simpa using h1
 rw[if_neg (by simpa using h1)];refine⟨h0,h1,?_⟩;split at h
 ·exact Q9E
 ·next b m hb=>
  split at h
  ·exact Q8Z
  ·next h3=>
   refine⟨b,m,?_,hb,by omega⟩;rw[if_neg h3]
end
section
variable {D:List UInt8}{F:List Rl}{W:World}
structure Py where
 Ab:Option Addr
 nb:Nat
 cb:Nat
 An:Option Addr
 nn:Nat
 cn:Nat
 Ap:Option Addr
 np:Nat
 cp:Nat
 L:List Qb
abbrev Py.cells(y:Py)(d:Nd):List Value:=[.int .i64 d.k,.int .i64 d.n,.slice y.Ab y.nb y.cb,.slice y.An y.nn y.cn,.slice y.Ap y.np y.cp]
def Qbz(F:List Rl)(D:List UInt8)(W:World)(e:Ending)(w':World):Prop:=∃y:Py,e=.returned (.tuple #[.agg (y.cells (YF F D).1.1).toArray,.agg #[.int .i64 (YF F D).2.1,.int .i64 (YF F D).2.2]])/\XA y.L (.agg (y.cells (YF F D).1.1).toArray) (YF F D).1.1 (YF F D).1.2/\New y.L W.heap.size w'/\Below W.heap.size W w'
theorem XA.zero:XA [] (.agg #[.int .i64 0,.int .i64 0,.slice none 0 0,.slice none 0 0,.slice none 0 0]) ndZ .nil:=
 ⟨_,_,_,rfl,fun w _=>⟨none,0,0,none,0,0,none,0,rfl,rfl,rfl,Nat.le_refl _,Nat.le_refl _,Nat.le_refl _,Nat.zero_le _,ZI _ _ _,ZI _ _ _,fun h=>absurd h (Nat.lt_irrefl 0)⟩⟩
theorem Q2N{w:World}{c x:Int}(h:YF F D=((ndZ,.nil),(c,x)))(hb:Below W.heap.size W w):Qbz F D W (.returned (.tuple #[.agg #[.int .i64 0,.int .i64 0,.slice none 0 0,.slice none 0 0,.slice none 0 0],.agg #[.int .i64 c,.int .i64 x]])) w:=
 ⟨⟨none,0,0,none,0,0,none,0,0,[]⟩,by rw[h],by rw[h];exact XA.zero,New.nil _ _,hb⟩
theorem Qhi{P:Program}{fn:Func}{R:Ending->World->Prop}{N:Nat}{M:List Nat}{E:Env}{O:List Qb}{e:Exit}(he:e=.normal\/e=.ret)(h:xE (bodyPost P fn R) N M W E O e):xE (bodyPostD P fn R) N M W E O e:=fun a w ha hw=>by
 have h:=h a w ha hw;rcases he with rfl|rfl
 ·obtain⟨hd,v,h1,h2⟩:=h
  exact QlV
 ·obtain⟨hd,v,h1,h2⟩:=h
  exact QlV
theorem Qck{A A2:Option Addr}{n c m c2:Nat}(hf:QX W W.heap.size A n F)(hs:FSm F)(hc:n<=c)(hg:GV W)(hz:Qy F≠(0,0)):
  Calls Tryz.prog 11 #[.agg #[.slice A n c],.slice A2 m c2] W (Qbz F D W):=by
 have HF:=Q2 hf;have HS:=Q2 hs;have HG:=Q2 hg;have HZ:=Q2 hz;obtain⟨⟨a,b⟩,hab⟩:∃p,Qy F=p:=⟨_,rfl⟩;have HAB:=Q2 hab;clear hf hs hg hz hab;go_enter_defers Tryz.func11,Tryz.ntmps11;refine Qs (M:=[]) (W:=W) (N:=49) (E:=[Vh,QeQ]) (O:=[]) ?_ mc3 QV;refine yq<|yr ?_;refine yB fun b2=>?_;refine yA fun b4=>?_;refine yA fun b5=>?_;refine Qi2 ?_;refine Q4 Qou ?_;refine yA fun b6=>?_;refine KG ?_;have hne:(!(a==0&&b==0))=true:=by
  have h:=HZ.out;rw[HAB.out] at h;refine Q99 ?_;by_cases h0:a=0
  ·exact .inr fun h1=>h (by rw[h0,h1])
  ·exact .inl h0
 refine Qr3 ?_;refine Qn 0 rfl Q5 Q7t QhR ?_;refine Qn 1 rfl Q5 Q7t (zD 0) ?_;refine QI 2 Q5 rfl rfl QbY KP rfl (fun _ _=>?_);rw[QF (by rfl)];refine QI 3 Q5 rfl rfl KH KP rfl (fun _ _=>?_);rw[QF (by rfl)];refine Xu ?_ Q5;refine yn<|yt<|yc ?_;refine Qhi (.inr rfl) (Jd (.inr rfl) rfl Q3i JY (fun w hw=>?_));have e:YF F D=((ndZ,.nil),(a,b)):=by unfold YF;rw[if_pos HZ.out,HAB.out]
 exact Q2N e hw.k.below
end
theorem QeL{F:List Rl}{D:List UInt8}{A A2:Option Addr}{n c m c2:Nat}{W:World}(hf:QX W W.heap.size A n F)(hs:FSm F)(hc:n<=c)(hg:GV W)(hz:Qy F=(0,0))(hd:Rd W W.heap.size 1 A2 m (bv D))(hl:1000<D.length):
  Calls Tryz.prog 11 #[.agg #[.slice A n c],.slice A2 m c2] W (Qbz F D W):=by
 have HF:=Q2 hf;have HS:=Q2 hs;have HG:=Q2 hg;have HZ:=Q2 hz;have hm:1000<(m:Int):=by have:=hd.len;rw[X5] at this;omega
 clear hf hs hg hz hd;go_enter_defers Tryz.func11,Tryz.ntmps11;refine Qs (M:=[]) (W:=W) (N:=49) (E:=[Vh,QeQ]) (O:=[]) ?_ mc3 QV;refine yq<|yr ?_;refine yB fun b2=>?_;refine yA fun b4=>?_;refine yA fun b5=>?_;refine Qi2 ?_;refine Q4 QhP ?_;refine yA fun b6=>?_;refine KG ?_;have hne:(!((0:Int)==0&&(0:Int)==0))=false:=rfl;refine Q5H ?_;refine yl<|yn<|y0<|ys<|yn<|yq<|yq<|yr<|yo zM<|yo zL<|yo zgt<|yl<|yn<|y1<|yq<|yr ?_;refine Q4 QhR ?_;refine Q4 Qhd ?_;refine yW 2 ?_;refine yW 1 ?_;refine yl<|yn<|yt<|yc ?_;refine Qhi (.inr rfl) (Jd (.inr rfl) rfl Q3i JY (fun w hw=>?_));have e:YF F D=((ndZ,.nil),(3,-2)):=by unfold YF;rw[if_neg (by simp [HZ.out]),if_pos hl]
 exact Q2N e hw.k.below
section
variable {A:Option Addr}{W w:World}{bs:List UInt8}{c n:Nat}
theorem Rd.up{s:Nat}{xs:List Value}(h:Rd W W.heap.size s A n xs)(hb:Below W.heap.size W w):Rd w w.heap.size s A n xs:=(h.below hb).more hb.size
theorem Vx{r:Rl}{sb sn sp:Value}{n:Int}:Calls Tryz.prog 108 #[.agg (ruC r sb sn sp).toArray,.int .i64 n] W fun e w'=>e=.returned (.bool (Vc r n))/\Below W.heap.size W w':=by
 obtain⟨name,kind,bs,size,big,mn,mx,stop,count,elem,names,parts⟩:=r;simp only[ruC];go_enter Tryz.func108,Tryz.ntmps108;refine Qs (M:=[]) (W:=W) (N:=15) (E:=[(0,.agg [.string ⟨name.toArray⟩,.int .i64 kind,sb,.int .i64 size,.bool big,.int .i64 mn,.int .i64 mx,.int .i64 stop,.int .i64 count,.int .i64 elem,sn,sp].toArray),(1,.int .i64 n)]) (O:=[]) ?_ mc3 QV;by_cases h1:mn<=n
 ·obtain⟨b,hb⟩:∃b,decide (n<=mx)=b:=⟨_,rfl⟩;refine Qa (Q6 ?_);refine yB fun b2=>?_;refine Q1g ?_;refine Qk (Qa (Q6 ?_));refine Q4 zM ?_;refine Q4 zF ?_;refine Q4 (zB 0) ?_;refine Q4 zht ?_;refine Q4 zM ?_;refine Q4 zM ?_;refine Q4 zF ?_;refine Q4 (zB 0) ?_;refine Q4 (Q6P rfl rfl Q1 rfl rfl rfl QR) ?_;refine Q4 zY ?_;refine Q1g ?_;refine Qk (QB ?_);exact Q7 mc4 rfl (.tmp rfl) (fun w hw=>⟨by unfold Vc;simp only;rw[decide_eq_true h1,hb];rfl,hw.k.below⟩)
 ·refine Qa (Q6 ?_);refine yB fun b2=>?_;refine Q1g ?_;refine Qk (Qa (Q6 ?_));refine Q4 zM ?_;refine Q4 zF ?_;refine Q4 (zB 0) ?_;refine Q4 zhf ?_;refine Q4 zM ?_;refine Q4 zS ?_;refine Q4 zS ?_;refine Q4 zS ?_;refine Q4 zS ?_;refine Q4 zN ?_;refine Q1g ?_;refine Qk (QB ?_);exact Q7 mc4 rfl (.tmp rfl) (fun w hw=>⟨by unfold Vc;simp only;rw[decide_eq_false h1];rfl,hw.k.below⟩)
theorem Qd4(s:ByteArray)(W:World):Calls Tryz.prog 112 #[.string s] W fun e w'=>e=.returned (.bool (s.data.toList==[]))/\Below W.heap.size W w':=by
 go_enter Tryz.func112,Tryz.ntmps112;refine Qs (M:=[]) (W:=W) (N:=5) (E:=[(0,.string s)]) (O:=[]) ?_ Zj QV;refine Qa (Q6 ?_);refine Q1g ?_;refine Qk (Qa (Q6 ?_));refine Q4 zM ?_;refine Q4 Qlw ?_;refine Q1g ?_;refine Qk (QB ?_);exact Q1P
theorem QvF{B i:Nat}(h:Rd w B 1 A n (bv bs))(hi:i<n):∃b o c,A=some ⟨b,o,none⟩/\b<B/\bs[i]? =some c/\w.cell? ⟨b,o+i,none⟩=some (.int .u8 (c.toNat:Int)):=by
 have hl:bs.length=n:=by have:=h.len;rw[X5] at this;exact this
 obtain⟨b,o,e,hb,hc⟩:=h.2 Q3;have hx:bs[i]? =some bs[i]:=List.getElem?_eq_getElem Q3;refine⟨b,o,bs[i],e,hb,hx,hc i _ ?_⟩;unfold bv;rw[List.getElem?_map,hx];rfl
theorem Q5J(hr:Rd W W.heap.size 1 A n (bv bs))(hn:n<=1048576)(x:UInt8):Calls Tryz.prog 145 #[.slice A n c,.int .u8 (x.toNat:Int)] W fun e w'=>∃i:Int,e=.returned (.int .i64 i)/\(decide (0<=i))=bs.contains x/\Below W.heap.size W w':=by
 have HR:=Q2 hr;have hl:bs.length=n:=by have:=hr.len;rw[X5] at this;exact this
 clear hr;go_enter Tryz.func145,Tryz.ntmps145;refine Qs (M:=[]) (W:=W) (N:=19) (E:=[(0,.slice A n c),(1,.int .u8 (x.toNat:Int))]) (O:=[]) ?_ mc3 (Wd.start [] W);refine Qa (Q6 ?_);refine Q1g ?_;refine Qk (Qa (Qa (Q6 ?_)));refine Q9w ?_;refine Q4 zM ?_;refine Qe ?_;refine Qk (Qh ?_);refine X8 (ι:=Nat) (fun k=>k<=n/\∀y∈bs.take k,y≠x) (fun k=>n - k) (fun k=>[(0,.slice A n c),(1,.int .u8 (x.toNat:Int)),(7,.int .i64 (n:Int)),(8,.int .i64 (k:Int))]) (fun _=>[]) 0 ⟨Nat.zero_le _,by simp⟩ mc1 Zk ?_;rintro k ⟨hk,hall⟩;have HA:=Q2 hall;clear hall;by_cases hkn:k<n
 ·obtain⟨b,o,y,rfl,hb,hy,hc⟩:=QvF HR.out hkn
  by_cases hxy:y=x
  ·subst hxy
   have he:((y.toNat:Int)==(y.toNat:Int))=true:=by simp
   refine Qa (Q6 ?_);refine Qaj ?_;refine Qk (Qa (Q9 rfl (Qq (Qk (Qa (Qh (Qa (Q6 ?_))))))));refine Qdn ?_;refine Qk (Qa (Q6 ?_));refine Qop ?_;refine Qk (Q9 rfl (Qa (Q6 ?_)));refine Qdn ?_;refine Qk (QB (Qu (Qm (Qm (Qu (Qm ?_))))));refine Q7 mc4 rfl (.tmp rfl) (fun w hw=>⟨(k:Int),rfl,?_,hw.k.below⟩);rw[decide_eq_true Q3];symm;rw[List.contains_iff_mem];exact List.mem_of_getElem? hy
  ·have he:((x.toNat:Int)==(y.toNat:Int))=false:=by
    rw[beq_eq_false_iff_ne];intro e;exact hxy (UInt8.toNat_inj.1 Q3)
   refine Qa (Q6 ?_);refine Qaj ?_;refine Qk (Qa (Q9 rfl (Qq (Qk (Qa (Qh (Qa (Q6 ?_))))))));refine Qdn ?_;refine Qk (Qa (Q6 ?_));refine Qop ?_;refine Qk (Q8 rfl (Qq (Qk (Q6 ?_))));refine Q4 zP ?_;refine Q4 zM ?_;refine Qe ?_;refine Qr (k+1) ⟨hkn,fun z hz=>?_⟩ Q3 mc2 Zk;rw[List.take_add_one,hy] at hz;simp only[Option.toList_some,List.mem_append,List.mem_singleton] at hz;rcases hz with hz|rfl
   ·exact HA.out z hz
   ·exact hxy
 ·refine Qa (Q6 ?_);refine Q4 zlf ?_;refine Qe ?_;refine Qk (Qa (Q8 rfl (XS (Qk (Qa (Q6 ?_))))));refine Q1g ?_;refine Qk (QB ?_);refine Q7 mc4 rfl (.tmp rfl) (fun w hw=>⟨-1,rfl,?_,hw.k.below⟩);rw[decide_eq_false Q3]
  symm;rw[<- Bool.not_eq_true,List.contains_iff_mem];intro hm;have:bs.take k=bs:=List.take_of_length_le Q3;exact HA.out x (by rw[this];exact hm) rfl
theorem Q1h(hr:Rd W W.heap.size 1 A n (bv bs))(hn:n<=1048576)(x:UInt8):Calls Tryz.prog 109 #[.slice A n c,.int .u8 (x.toNat:Int)] W fun e w'=>e=.returned (.bool (bs.contains x))/\Below W.heap.size W w':=by
 have HR:=Q2 hr;clear hr;go_enter Tryz.func109,Tryz.ntmps109;refine Qs (M:=[]) (W:=W) (N:=9) (E:=[(0,.slice A n c),(1,.int .u8 (x.toNat:Int))]) (O:=[]) ?_ mc3 QV;refine Qa (Q6 ?_);refine Q1g ?_;refine Qk (Qa (Q6 ?_));refine Q4 zM ?_;refine Q4 zM ?_;refine Qc (XB (fun i:Int=>.int .i64 i) (fun i=>decide (0<=i)=bs.contains x) (fun _=>[]) rfl rfl rfl (fun w hw=>(Q5J (HR.out.up hw.k.below) hn x).mono Qp3)) rfl Q1 (fun i hi=>?_);refine Q4 (Qdm rfl rfl Q1 rfl rfl rfl QR) ?_;refine Q1g ?_;refine Qk (QB ?_);exact Q1P
theorem Q5o{A2:Option Addr}{m c2:Nat}{xs ys:List (List UInt8)}(h1:Rd W W.heap.size 1 A n (sv xs))(h2:Rd W W.heap.size 1 A2 m (sv ys))(hn:n<=1048576):Calls Tryz.prog 113 #[.slice A n c,.slice A2 m c2] W fun e w'=>e=.returned (.bool (xs==ys))/\Below W.heap.size W w':=by
 have H1:=Q2 h1;have H2:=Q2 h2;have hl1:xs.length=n:=by have:=h1.len;unfold sv at this;simpa using this
 have hl2:ys.length=m:=by have:=h2.len;unfold sv at this;simpa using this
 clear h1 h2;go_enter Tryz.func113,Tryz.ntmps113;refine Qs (M:=[]) (W:=W) (N:=26) (E:=[(0,.slice A n c),(1,.slice A2 m c2)]) (O:=[]) ?_ mc3 (Wd.start [] W);by_cases hnm:n=m
 case neg=>
  have hne:(xs==ys)=false:=by
   rw[beq_eq_false_iff_ne];intro e;rw[e] at hl1;omega
  refine Qa (Q6 ?_);refine Q1g ?_;refine Qk (Qa (Qa (Q6 ?_)));refine Q9w ?_;refine Q9w ?_;refine Q4 znt ?_;refine Qe ?_;refine Qk (Q9 rfl (Qa (Q6 ?_)));refine Q1g ?_;refine Qk (QB (Qm ?_));exact Q7 mc4 rfl (.tmp rfl) (fun w hw=>⟨by rw[hne],hw.k.below⟩)
 subst hnm;refine Qa (Q6 ?_);refine Q1g ?_;refine Qk (Qa (Qa (Q6 ?_)));refine Q9w ?_;refine Q9w ?_;refine Q4 znf ?_;refine Qe ?_;refine Qk (Q8 rfl (Qq (Qk (Qa (Qa (Q6 ?_))))));refine Q9w ?_;refine Q4 zM ?_;refine Qe ?_;refine Qk (Qh ?_);refine X8 (ι:=Nat) (fun k=>k<=n/\xs.take k=ys.take k) (fun k=>n - k) (fun k=>[(0,.slice A n c),(1,.slice A2 n c2),(12,.int .i64 (n:Int)),(13,.int .i64 (k:Int))]) (fun _=>[]) 0 Qf0 mc1 Zk ?_;rintro k ⟨hk,hall⟩;have HA:=Q2 hall;clear hall;by_cases hkn:k<n
 ·obtain⟨b,o,s,rfl,hb,hs,hc⟩:=VI H1.out hkn;obtain⟨b2,o2,s2,rfl,hb2,hs2,hc2⟩:=VI H2.out hkn
  by_cases hss:s.data.toList=s2.data.toList
  ·have he:(s.data.toList != s2.data.toList)=false:=bne_eq_false_iff_eq.2 hss;refine Qa (Q6 ?_);refine Qaj ?_;refine Qk (Qa (Q9 rfl (Qq (Qk (Qa (Qh (Qa (Q6 ?_))))))));refine Qdn ?_;refine Qk (Qa (Xt Q5 Q5 ?_));refine Q92 ?_;refine Qgx ?_;refine ZJ ?_;refine Qk (Q8 rfl (Qq (Qk (Q6 ?_))));refine Q4 zP ?_;refine Q4 zM ?_;refine Qe ?_;refine Qr (k+1) ⟨hkn,?_⟩ Q3 mc2 Zk;rw[List.take_add_one,List.take_add_one,HA.out,hs,hs2,hss]
  ·have he:(s.data.toList != s2.data.toList)=true:=bne_iff_ne.2 hss
   have hne:(xs==ys)=false:=by
    exact Qpe
   refine Qa (Q6 ?_);refine Qaj ?_;refine Qk (Qa (Q9 rfl (Qq (Qk (Qa (Qh (Qa (Q6 ?_))))))));refine Qdn ?_;refine Qk (Qa (Xt Q5 Q5 ?_));refine Q92 ?_;refine Qgx ?_;refine ZJ ?_;refine Qk (Q9 rfl (Qa (Q6 ?_)));refine Q1g ?_;refine Qk (QB (Qu (Qm (Qm (Qu (Qm ?_))))));exact Q7 mc4 rfl (.tmp rfl) (fun w hw=>⟨by rw[hne],hw.k.below⟩)
 ·refine Qa (Q6 ?_);refine Q4 zlf ?_;refine Qe ?_;refine Qk (Qa (Q8 rfl (XS (Qk (Qa (Q6 ?_))))));refine Q1g ?_;refine Qk (QB ?_);refine Q7 mc4 rfl (.tmp rfl) (fun w hw=>⟨?_,hw.k.below⟩);have h3:xs.take k=xs:=List.take_of_length_le Q3;have h4:ys.take k=ys:=List.take_of_length_le Q3;have:=HA.out;rw[h3,h4] at this;rw[this,beq_self_eq_true]
end
section
variable {A:Option Addr}{b c j n:Nat}{e t:TypeId}{ns:List (List UInt8)}{s:List UInt8}{x:Operand}{xs:List Value}
section
variable {P:Program}{ops:Array Oper}{N:Nat}{E:Env}{o:Oper}{M:List Nat}{W:World}{O:List Qb}
theorem QlJ{u:TypeId}(hT:SlT P t e 1 1)(hu:P.underlying u=some .string)(hz0:(P.info? e).bind (·.zero)=some (.int .u8 0))(ty:TypeId)(w:World)(A:Option Addr)(n c:Nat)(xs:List Value)(hown:w.ownsRow 0 e 1 (.slice A n c) n xs)(s:ByteArray)(hb:n+s.size<=140737488355328):
  ∃A' c' w',(Builtin.append_ #[t,u] ty #[.slice A n c,.string s]).run P w=.ok (.slice A' (n+s.size) c') w'/\w'.ownsRow 0 e 1 (.slice A' (n+s.size) c') (n+s.size) (xs++Lib.strCells s)/\w.grownBy w' (Value.slice A n c).ownBlock/\(∀b,(Value.slice A' (n+s.size) c').ownBlock=some b->(Value.slice A n c).ownBlock=some b\/w.heap.size<=b):=by
 obtain⟨i,z,hi,hz,hs,hby,hzs⟩:=hT.info;rw[hi] at hz0;have hz1:i.zero=some (.int .u8 0):=hz0;have hmx:n+s.size<=maxLen:=Nat.le_trans hb Q1;obtain⟨v',w',hrun,h2,h3,_⟩:=Lib.run_append_own_string (P:=P) (w:=w) 0 t u ty e i hT.und hu hi hz1 hs hby (.slice A n c) n xs hown s hmx hb Ze;have hform:∃A' c',v'=.slice A' (n+s.size) c':=by
  rcases h2.2 with ⟨hv,h0⟩|⟨g,cap,cur,hv,_⟩
  ·exact⟨none,0,by rw[hv,h0]⟩
  ·exact⟨_,_,hv⟩
 obtain⟨A',c',rfl⟩:=hform;refine⟨A',c',w',hrun,h2,h3,fun b hb'=>?_⟩;rcases hown.2 with ⟨hv,rfl⟩|⟨g,cap,cur,hv,_,hg,hnc,hcm,hcs,htk⟩
 ·simp only[Value.slice.injEq] at hv
  obtain⟨rfl,_,rfl⟩:=hv;have hx:xs=[]:=Qoz;subst hx;obtain⟨v2,w2,hrun2,h22,_⟩:=Lib.run_append_own_string (P:=P) (w:=w) w.heap.size t u ty e i hT.und hu hi hz1 hs hby (.slice none 0 0) 0 [] (World.ownsRow_nil w _ _ _) s hmx hb Xk;rw[hrun] at hrun2;injection hrun2 with e1 e2;subst e1;exact .inr (h22.lt b hb').1
 ·simp only[Value.slice.injEq] at hv
  obtain⟨rfl,_,rfl⟩:=hv;by_cases hroom:n+s.size<=c
  ·left
   have hre:=Lib.run_append_room_string (P:=P) (w:=w) t u ty e i hT.und hu hi hs g n c cur hg s hroom (by rw[hcs];omega);rw[hrun] at hre;injection hre with e1 e2;rw[e1] at hb';exact hb'
  ·right
   have hre:=Lib.run_append_grow_string (P:=P) (w:=w) t u ty e i _ hT.und hu hi hz1 ⟨g,0,none⟩ n c xs (by rw[hs];exact hown.1) (hown.cells (g:=g) rfl) s Q3 Q3 (growslice_fits Q3 (by rw[hby];omega));rw[hrun] at hre;injection hre with e1 e2;rw[e1] at hb';cases hb';exact Nat.le_refl _
theorem Q8D(i:Nat){u:TypeId}{s:Operand}{str:ByteArray}[hT:Sl P t e 1 1](hu:P.underlying u=some .string)(hz0:(P.info? e).bind (·.zero)=some (.int .u8 0))(ho:o.op=.call { callee:=.builtin .append,args:=#[s,x],argTypes:=#[t,u] })(hw:Qi ops E o=some true)(hs:ev E s=some (.slice A n c))(hx:ev E x=some (.string str))
  (hO:O[i]? =some (.row A n c e 1 xs)) (hbytes:n+str.size<=140737488355328):
  uE P ops N M W E O o (Option Addr×Nat) (fun q=>.slice q.1 (n+str.size) q.2) (fun q=>O.set i (.row q.1 (n+str.size) q.2 e 1 (xs++Lib.strCells str))) (fun q=>True):=
 Q1U hw fun ρ w ha hW=>by
  obtain⟨A',c',w',hrun,h2,h3,h4⟩:=QlJ (P:=P) hT.h hu hz0 o.type w A n c xs Q64 str hbytes;refine⟨(A',c'),w',?_,trivial,hW.upd hO rfl rfl h3 h2 h4⟩;unfold execOp;simp only[ho,resolve,invoke,builtin,Sem.run_bind,Sem.run_pure,Result.andThen_ok,List.map_toArray,List.map_cons,List.map_nil,ha.eval hs,ha.eval hx,hrun]
theorem Qq4(i:Nat){q m c2 bytes:Nat}{z:Value}[hT:Sl P t e 1 bytes](hz:∀w,(zeroValue e).run P w=.ok z w)(hz1:z.oneCell'=true)(hzc:z.cells=#[z])(ho:o.op=.call { callee:=.builtin .clear,args:=#[x],argTypes:=#[t] })(hw:Qi ops E o=some true)(hx:ev E x=some (.slice (some ⟨b,q,none⟩) m c2))(hO:O[i]? =some (.row (some ⟨b,0,none⟩) n c e 1 xs))(hm:0<m)(hq:q+m<=n):
  uE P ops N M W E O o Unit (fun _=>.tuple #[]) (fun _=>O.set i (.row (some ⟨b,0,none⟩) n c e 1 (Zq xs q (List.replicate m z)))) (fun _=>True):=
 Q1U hw fun ρ w ha hW=>by
  obtain⟨cur,hb,h2,h3,h4,h5⟩:=Q9H Q64;have hcell:∀j,j<m->(w.cell? ⟨b,q+j,none⟩).isSome=true:=fun j hj=>by
   rw[cell_of_row w b (q+j) cur.toArray e (0,0) hb];simp;omega
  have hrun:=Lib.run_clear_slice (P:=P) w t e o.type z hT.h.und hz hzc hz1 b q m c2 hm hcell (fun j hj=>by simp [World.frozen?,hb]);refine⟨(),w.setCells b q (List.replicate m z),?_,trivial,hW.upd hO rfl rfl (Y4 b _ w q) (Kx (Jk _ w q cur hb) h2 h3 (by rw[JI];exact h4) (by rw[<- h5,Qio _ _ _ _ (by rw[List.length_replicate];omega)])) Q4D⟩;unfold execOp;simp only[ho,resolve,invoke,builtin,Sem.run_bind,Sem.run_pure,Result.andThen_ok,List.map_toArray,List.map_cons,List.map_nil,ha.eval hx,hrun]
end
def IsE(ns:List (List UInt8))(i:Int):Prop:=(i=-1/\∀s∈ns,s≠[])\/∃k:Nat,i=(k:Int)/\ns[k]? =some []/\∀s∈ns.take k,s≠[]
theorem Q3f(s:ByteArray)(W:World):Calls Tryz.prog 112 ([Value.string s].toArray++#[]) W fun e w'=>e=.returned (.bool (s.data.toList==[]))/\Below W.heap.size W w':=Qd4 s W
theorem Q6g{W:World}(hr:Rd W W.heap.size 1 A n (sv ns))(hn:n<=1048576):Calls Tryz.prog 146 #[.slice A n c,.func (.func 112) #[] #[]] W fun e w'=>∃i,e=.returned (.int .i64 i)/\IsE ns i/\Below W.heap.size W w':=by
 have HR:=Q2 hr;have hl:ns.length=n:=by have:=hr.len;unfold sv at this;simpa using this
 clear hr;go_enter Tryz.func146,Tryz.ntmps146;refine Qs (M:=[]) (W:=W) (N:=19) (E:=[(0,.slice A n c),(1,.func (.func 112) #[] #[])]) (O:=[]) ?_ mc3 (Wd.start [] W);refine yq<|yr<|yo zA<|yl<|yn<|yq<|yq<|yr<|yo zM<|yo zL<|yo zM<|yl<|yn<|yb ?_;refine X8 (ι:=Nat) (fun k=>k<=n/\∀s∈ns.take k,s≠[]) (fun k=>n - k) (fun k=>[(0,.slice A n c),(1,.func (.func 112) #[] #[]),(7,.int .i64 (n:Int)),(8,.int .i64 (k:Int))]) (fun _=>[]) 0 ⟨Nat.zero_le _,by simp⟩ mc1 Zk ?_;rintro k ⟨hk,hall⟩;have HA:=Q2 hall;clear hall;by_cases hkn:k<n
 ·obtain⟨b,o,s,rfl,hb,hs,hc⟩:=VI HR.out hkn;have HSS:=Q2 hs;clear hs
  by_cases hse:s.data.toList=[]
  ·have he:(s.data.toList==[])=true:=by rw[hse];rfl
   refine QrG ?_;refine yl<|yn<|y1<|yq<|yr<|yo zM<|yo zA<|yl<|yn<|yt<|yk<|yc<|yc<|yk<|yc ?_;exact Q7 mc4 rfl (.tmp rfl) (fun w hw=>⟨(k:Int),rfl,.inr ⟨k,rfl,by rw[HSS.out,hse],HA.out⟩,hw.k.below⟩)
  ·have he:(s.data.toList==[])=false:=beq_eq_false_iff_ne.2 hse;refine QrG ?_;refine yl<|yn<|y0<|ys<|yn<|yr<|yo zP<|yo zM<|yl ?_;refine Qr (k+1) ⟨hkn,fun z hz=>?_⟩ Q3 mc2 Zk;rw[List.take_add_one,HSS.out] at hz
   simp only[Option.toList_some,List.mem_append,List.mem_singleton] at hz;rcases hz with hz|rfl
   ·exact HA.out z hz
   ·exact hse
 ·refine yq<|yr<|yo zlf<|yl<|yn<|yq<|y0<|ye<|yn<|yq<|yr<|yo zA<|yl<|yn<|yt ?_;refine Q7 mc4 rfl (.tmp rfl) (fun w hw=>⟨-1,rfl,.inl ⟨rfl,?_⟩,hw.k.below⟩);have h3:ns.take k=ns:=List.take_of_length_le Q3;have:=HA.out;rwa [h3] at this
def QuC(b c:Nat)(ns:List (List UInt8))(W:World)(e:Ending)(w':World):Prop:=e=.returned (.slice (some ⟨b,0,none⟩) (Xa ns).length c)/\Xz [b] W w'/\Rd w' w'.heap.size 1 (some ⟨b,0,none⟩) (Xa ns).length (sv (Xa ns))
theorem Q8F(h:∀s∈ns,s≠[]):Xa ns=ns:=by
 unfold Xa;rw[List.filter_eq_self];intro s hs;simpa using h s hs
theorem Q6s(h:ns[j]? =some s):Xa (ns.take (j+1))=Xa (ns.take j)++if s=[] then [] else [s]:=by
 unfold Xa;rw[List.take_add_one,h,List.filter_append];congr 1;by_cases hs:s=[]
 ·rw[if_pos hs,hs];rfl
 ·rw[if_neg hs]
  simp [hs]
theorem Quh{l:List (List UInt8)}{u:List UInt8}(h:l[j]? =some u):(sv l)[j]? =some (.string ⟨u.toArray⟩):=by
 unfold sv;rw[List.getElem?_map,h];rfl
theorem QuW(l:List (List UInt8))(j:Nat)(u:List UInt8):(sv l).set j (.string ⟨u.toArray⟩)=sv (l.set j u):=by
 unfold sv;rw[List.map_set]
theorem QpF{A:List (List UInt8)}(h:A.length<=j):(A++ns.drop A.length)[j]? =ns[j]?:=by
 rw[List.getElem?_append_right h,List.getElem?_drop];congr 1;omega
theorem Qpi{A:List (List UInt8)}(h:A.length<ns.length):(A++ns.drop A.length).set A.length s=A++[s]++ns.drop (A++[s]).length:=by
 rw[List.set_append_right _ _ (Nat.le_refl _),Nat.sub_self,List.drop_eq_getElem_cons h,List.set_cons_zero,List.length_append];simp
structure Dl where
 j:Nat
theorem Qil{W:World}(h:(Qb.row (some ⟨b,0,none⟩) n c 9 1 (sv ns)).on W)(hn:n<=1048576):Calls Tryz.prog 110 #[.slice (some ⟨b,0,none⟩) n c,.func (.func 112) #[] #[]] W (QuC b c ns W):=by
 have hl:ns.length=n:=by have:=h.1;rw[XQ] at this;omega
 have hlt:b<W.heap.size:=h.lt (b:=b) rfl;have hwd:Wd [b] W [.row (some ⟨b,0,none⟩) n c 9 1 (sv ns)] W:=(Wd.start [b] W).add (y:=.row (some ⟨b,0,none⟩) n c 9 1 (sv ns)) h (fun q hq _=>by cases hq;exact List.mem_singleton.2 rfl) Ql;have hnc:=JB 0 hwd rfl;clear h;go_enter Tryz.func110,Tryz.ntmps110;refine Qs (M:=[b]) (W:=W) (N:=42) (E:=[(0,.slice (some ⟨b,0,none⟩) n c),(1,.func (.func 112) #[] #[])]) (O:=[.row (some ⟨b,0,none⟩) n c 9 1 (sv ns)]) ?_ mc3 hwd;clear hwd;refine yq<|yr<|yo zA<|yl<|yn<|yq<|yr<|yo zM<|yo zM ?_;refine Qc (XB (fun i:Int=>.int .i64 i) (fun i=>IsE ns i) (fun _=>_) rfl rfl rfl (fun w hw=>(Q6g (Rd.of_own KT) hn).mono Qp3)) rfl Q1 (fun i hi=>?_);refine yo zA<|yl<|yn<|yq<|yq<|yr ?_;rcases hi with ⟨rfl,hall⟩|⟨k,rfl,hk,hall⟩
 ·have HA:=Q2 (Q8F hall);clear hall;refine yo zM<|yo zet<|yl<|yn<|y1<|yq<|yr<|yo zM<|yo zA<|yl<|yn<|yt<|yc ?_;refine Q7 mc4 rfl (.tmp rfl) (fun w hw=>⟨?_,hw.k,?_⟩)
  ·rw[HA.out,hl]
  ·rw[HA.out,hl];exact Rd.of_own KT
 ·have hkn:k<n:=by have:=(List.getElem?_eq_some_iff.1 hk).1;omega
  have hne:((k:Int)==-1)=false:=beq_eq_false_iff_ne.2 Q3;have HK:=Q2 hk;have HA:=Q2 (Q8F hall);have HC:=Q2 (show Xa (ns.take (k+1))=ns.take k by rw[Q6s HK.out,if_pos rfl,List.append_nil,HA.out]);clear hall hk;refine yo zM<|yo zea<|yl<|yn<|y0<|ys<|yn<|yq<|yq<|yr<|yo zM<|yo zP<|yo zA<|yl<|yn<|yb ?_;refine X8 (ι:=Dl) (fun y=>k<y.j/\y.j<=n/\(Xa (ns.take y.j)).length<y.j) (fun y=>n - y.j) (fun y=>[(0,.slice (some ⟨b,0,none⟩) n c),(1,.func (.func 112) #[] #[]),(5,.int .i64 ((Xa (ns.take y.j)).length:Int)),(6,.int .i64 (y.j:Int))]) (fun y=>[.row (some ⟨b,0,none⟩) n c 9 1 (sv (Xa (ns.take y.j)++ns.drop (Xa (ns.take y.j)).length))]) ⟨k+1⟩ ⟨Nat.lt_succ_self k,hkn,by show (Xa (ns.take (k+1))).length<k+1;rw[HC.out,List.length_take];omega⟩ (.cons rfl rfl (.cons rfl rfl (.cons rfl (by rw[HC.out,List.length_take,Nat.min_eq_left Q3]) Q52))) (fun w hw=>?_) ?_
  ·simp only
   rw[HC.out,List.length_take,Nat.min_eq_left Q3,List.take_append_drop];exact hw
  rintro⟨j⟩ ⟨hkj,hjn,hij⟩;replace hkj:k<j:=hkj;replace hjn:j<=n:=hjn;replace hij:(Xa (ns.take j)).length<j:=hij;obtain⟨A,hA⟩:∃A,Xa (ns.take j)=A:=⟨_,rfl⟩;have HAA:=Q2 hA;rw[hA] at hij;simp only[hA];clear hA;by_cases hjlt:j<n
  ·obtain⟨s,hs⟩:∃s,ns[j]? =some s:=⟨_,List.getElem?_eq_getElem Q3⟩;have hcell:(sv (A++ns.drop A.length))[j]? =some (.string ⟨s.toArray⟩):=Quh (by rw[QpF Q3];exact hs);have HN:=Q2 (Q6s hs);clear hs
   by_cases hse:s=[]
   ·have he:((⟨s.toArray⟩:ByteArray).data.toList==[])=true:=by rw[hse];rfl
    have HM:=Q2 (show Xa (ns.take (j+1))=A by rw[HN.out,if_pos hse,List.append_nil,HAA.out]);refine Qrd ?_;refine yo zO<|yl<|yn<|y0<|ys<|yn<|yr<|yo zM<|yo zP<|yo zA<|yl ?_;refine Qr ⟨j+1⟩ ⟨by show k<j+1;omega,hjlt,by show (Xa (ns.take (j+1))).length<j+1;rw[HM.out];omega⟩ (by show n - (j+1)<n - j;omega) (.cons rfl rfl (.cons rfl rfl (.cons rfl (by rw[HM.out]) Q52))) (fun w hw=>?_);simp only;rw[HM.out];exact hw
   ·have he:((⟨s.toArray⟩:ByteArray).data.toList==[])=false:=beq_eq_false_iff_ne.2 hse;have HM:=Q2 (show Xa (ns.take (j+1))=A++[s] by rw[HN.out,if_neg hse,HAA.out]);refine Qrd ?_;refine yo zO<|yl<|yn<|y1<|yq<|yr<|yo zM<|yo zM<|yo zM ?_;refine Q4 (XP rfl rfl Q1 rfl rfl rfl (show A.length<n by omega)) ?_;refine QA (ZT 0 rfl rfl rfl rfl rfl rfl Q3) rfl (fun _ _=>?_);refine yl<|yn<|yr<|yo zM<|yo zP<|yo zA<|yl<|yn<|yr<|yo zM<|yo zP<|yo zA<|yl ?_;refine Qr ⟨j+1⟩ ⟨by show k<j+1;omega,hjlt,by show (Xa (ns.take (j+1))).length<j+1;rw[HM.out,List.length_append];show A.length+1<j+1;omega⟩ (by show n - (j+1)<n - j;omega) (.cons rfl rfl (.cons rfl rfl (.cons rfl (by rw[HM.out,List.length_append];go_num) Q52))) (fun w hw=>?_)
    simp only;rw[HM.out,<- Qpi Q3,<- QuW];have h:=hw;rw[Nat.zero_add] at h;exact h
  ·have hjn':j=n:=by omega
   have HZ:=Q2 (show Xa ns=A by rw[<- HAA.out,List.take_of_length_le Q3]);have hc1:ZX (some ⟨b,0,none⟩) c A.length 1=some ⟨b,A.length,none⟩:=by
    unfold ZX;rw[if_neg Q3];simp [Addr.add_mid]
   have hc0:ZX (some ⟨b,0,none⟩) c 0 1=some ⟨b,0,none⟩:=by
    unfold ZX;rw[if_neg Q3];simp [Addr.add_mid]
   refine yq<|yq<|yr<|yo zM<|yo zM<|yo zL<|yo zlf<|yl<|yn<|y0<|ye<|yn<|yq<|yr<|yo zM<|yo zM ?_;refine Q4 (Q3F (l:=A.length) rfl rfl Q1 rfl rfl rfl Q3) ?_;rw[hc1];refine QA (Qq4 0 (z:=.string ⟨#[]⟩) (fun w=>by kernel_rfl) rfl rfl rfl rfl rfl rfl Q3 Q3) rfl (fun _ _=>?_);refine yl<|yn<|yq<|yr<|yo zM<|yo zM ?_;refine Q4 (Q15 (h:=A.length) rfl rfl Q1 rfl rfl rfl Q3) ?_;rw[hc0];refine yo zA<|yl<|yn<|yt ?_;refine Q7 mc4 rfl (.tmp rfl) (fun w hw=>⟨by rw[HZ.out],hw.k,?_⟩);rw[HZ.out];have h:=(Rd.of_own KT).take (m:=A.length) Q3;have e:(Zq (sv (A++ns.drop A.length)) A.length (List.replicate (n - A.length) (.string ⟨#[]⟩))).take (A.length*1)=sv A:=by
    refine List.ext_getElem? fun q=>?_;rw[List.getElem?_take];split
    ·rw[VZ,if_neg Q3]
     unfold sv;rw[List.getElem?_map,List.getElem?_map,List.getElem?_append_left Q3]
    ·rw[List.getElem?_eq_none (by rw[XQ];omega)]
   rw[e] at h;exact h
end
end Go.Proofs.YtphkhfdmlcnoeaaGreatDoor
