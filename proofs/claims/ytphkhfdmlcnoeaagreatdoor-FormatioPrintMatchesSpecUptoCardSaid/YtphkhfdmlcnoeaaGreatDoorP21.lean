import Derived.Test.YtphkhfdmlcnoeaaGreatDoorP12
namespace Go.Proofs.YtphkhfdmlcnoeaaGreatDoor
set_option linter.unusedVariables false
set_option linter.unusedSimpArgs false
set_option maxRecDepth 1000000
set_option maxHeartbeats 32000000
open Go.RowKit
section
variable {O:List Qf}{i j:Nat}{l:List Int}{w:World}
def Q6m(W:World)(l:List Int)(e:Ending)(w':World):Prop:=∃A c,e=.returned (.slice A l.length c)/\(Qf.row A l.length c 3 1 (iv l)).on w'/\Below W.heap.size W w'/\∀b,(Qf.row A l.length c 3 1 (iv l)).foot=some b->W.heap.size<=b
theorem QnY{W:World}{A:Option Addr}{n c:Nat}(hl:l.length=n)(hw:Wd [] W (.row A n c 3 1 (iv l)::O) w):Q6m W l (.returned (.slice A n c)) w:=by
 subst hl
 exact⟨A,c,rfl,hw.own 0 _ rfl,hw.k.below,fun b hb=>by
  rcases Nat.lt_or_ge b W.heap.size with h|h
  ·have:=hw.new 0 _ b rfl hb h
   exact Q2D
  ·exact h⟩
theorem Q6m.wd{W w':World}{e:Ending}(h:Q6m w l e w')(hw:Wd [] W O w):X7 (fun y:Option Addr×Nat=>.slice y.1 l.length y.2) (fun _=>True) [] W (fun y=>.row y.1 l.length y.2 3 1 (iv l)::O) e w':=by
 obtain⟨A,c,rfl,h1,h2,h3⟩:=h;exact⟨(A,c),rfl,trivial,hw.push h2 h1 h3⟩
def ZH(F:List Rl)(old:List Int)(i:Nat):List Int:=(F.take i).map (YN F old)
theorem Qcu{F:List Rl}{old:List Int}(h:i<=F.length):(ZH F old i).length=i:=by unfold ZH;rw[List.length_map,List.length_take];omega
theorem Qa4{F:List Rl}{old:List Int}{r:Rl}(h:F[i]? =some r):ZH F old i++[YN F old r]=ZH F old (i+1):=by
 unfold ZH;rw[List.take_add_one,h];simp
theorem Q3s(l:List Int)(x:Int):iv l++[.int .i64 x]=iv (l++[x]):=by unfold iv;simp
theorem Q9P(h:j<l.length):(iv l)[j]? =some (.int .i64 (l.getD j 0)):=by
 unfold iv;refine Qgd ?_;rfl
theorem Rd.num{B n:Nat}{A:Option Addr}(h:Rd w B 1 A n (iv l))(hj:j<n):∃b o,A=some ⟨b,o,none⟩/\w.cell? ⟨b,o+j,none⟩=some (.int .i64 (l.getD j 0)):=by
 obtain⟨b,o,e,_,hc⟩:=h.2 Q3;have hl:=h.len;rw[Q0o] at hl;exact⟨b,o,e,hc j _ (Q9P Q3)⟩
theorem Q6b(n:Int)(w:World):Calls Tryz.prog 106 #[.int .i64 n] w fun e w'=>e=.returned (.int .i64 (VU n))/\Below w.heap.size w w':=
 (Q3m n w).mono fun _ _ h=>⟨h.1,h.2▸Below.refl _ _⟩
theorem Q8K(old:List Int)(n x:Int)(l:List Int):Q3l old n (x::l)=Q3l old (if 0<=(if lk old x<0 then -1 else n) then VU ((if lk old x<0 then -1 else n)+lk old x) else (if lk old x<0 then -1 else n)) l:=rfl
theorem Q9g(old:List Int)(n x:Int)(l:List Int):Q5C old n (x::l)=Q5C old (if 0<=lk old x/\(n<0\/lk old x<n) then lk old x else n) l:=rfl
theorem QcY(h:j<l.length):l.getD j 0∈l:=by
 refine QcN ?_;exact List.getElem_mem _
theorem Q92(h:j<l.length):l.drop j=l.getD j 0::l.drop (j+1):=by
 refine QcN ?_;exact List.drop_eq_getElem_cons h
section
variable {A Ao:Option Addr}{n c co:Nat}{W:World}{F:List Rl}{old:List Int}
abbrev rdE(bf bo oo n co:Nat)(i:Nat)(A:Option Addr)(c:Nat):Env:=[(1,.slice (some ⟨bo,oo,none⟩) n co),(2,.pointer (some ⟨bf,0,none⟩)),(5,.slice A i c),(6,.int .i64 (i:Int))]
abbrev rdA(F:List Rl)(old:List Int)(bf b o n c i:Nat)(A:Option Addr)(ca:Nat):List Qf:=[.row A i ca 3 1 (iv (ZH F old i)),.blk bf (.cells ([.slice (some ⟨b,o,none⟩) n c]:List Value).toArray 24 (0,0))]
theorem Qbx(hf:QS W W.heap.size A n F)(hu:Usd F)(hn:n<=40)(ho:Rd W W.heap.size 1 Ao n (iv old))(hb:∀j:Nat,-1<=old.getD j 0/\old.getD j 0<=1001)(hn0:0<n):
  Calls Tryz.prog 75 #[.agg #[.slice A n c],.slice Ao n co] W (Q6m W (Ya F old)):=by
 have hlen:F.length=n:=hf.1;obtain⟨b,o,rfl⟩:=hf.addr Q3;obtain⟨bo,oo,rfl,_⟩:=ho.num hn0;have HFM:=Q2 hf;have HU:=Q2 hu;have HO:=Q2 ho;have HB:=Q2 hb;have HLEN:=Q2 hlen;have hcO:∀j,j<n->W.cell? ⟨bo,oo+j,none⟩=some (.int .i64 (old.getD j 0)):=fun j hj=>by
  obtain⟨b',o',e,h⟩:=HO.out.num hj;cases e;exact h
 have HCO:=Q2 hcO;clear hf hu ho hb hlen hcO;go_enter Tryz.func75,Tryz.ntmps75;refine Qz (M:=[]) (W:=W) (N:=182) (E:=[Q0s,(1,.slice (some ⟨bo,oo,none⟩) n co)]) (O:=[]) ?_ mc3 QR;refine yq<|yr ?_;refine yB fun b2=>?_;refine Qof ?_;refine Q16 3 1 ?_;refine Xu (ι:=Nat×Option Addr×Nat) (fun y=>y.1<=n) (fun y=>n - y.1) (fun y=>rdE b2 bo oo n co y.1 y.2.1 y.2.2) (fun y=>rdA F old b2 b o n c y.1 y.2.1 y.2.2) (0,none,0) Z4 mc1 Zc ?_;rintro⟨i,A1,c1⟩ hi;have hi':i<=n:=hi;clear hi;show sE _ _ _ _ _ (rdE b2 bo oo n co i A1 c1) (rdA F old b2 b o n c i A1 c1) _;by_cases hin:i<n
 ·obtain⟨rk,Ab,cb,An,cn,Ap,cp,hrk,hrg,hlk⟩:=HFM.out.rl hin;have hok:=HU.out.ok i rk hrk;rw[HLEN.out] at hok;have HST:=Q2 (Qa4 (old:=old) hrk);have HLK:=Q2 hlk;have hrl:(ZH F old i).length=i:=Qcu (by rw[HLEN.out];exact hi');have HRL:=Q2 hrl
  have hlst:(rk.kind=6\/rk.kind=10)->∃rc Ac cc Ad cd Ae ce,F[rk.count.toNat]? =some rc/\W.rangeAt b (o+rk.count.toNat*12) (ruC rc (.slice Ac rc.bs.length cc) (.slice Ad rc.names.length cd) (.slice Ae rc.parts.length ce))/\KD F rk.count=Jt rc.kind rc.mn/\0<=Jt rc.kind rc.mn/\Jt rc.kind rc.mn<=1001:=fun hk=>by
   obtain⟨rc,Ac,cc,Ad,cd,Ae,ce,hrc,hrg,_⟩:=HFM.out.rl (i:=rk.count.toNat) (by have:=hok.count hk;omega);have h1:=HU.out.least hrk hk;have h2:KD F rk.count=Jt rc.kind rc.mn:=by unfold KD;rw[hrc]
   exact⟨rc,Ac,cc,Ad,cd,Ae,ce,hrc,hrg,h2,by omega,by omega⟩
  have HLS:=Q2 hlst;have HOK:=Q2 hok;have hpp:=hlk.p;have HPP:=Q2 hpp;clear hrk hlk hrl hlst hpp;obtain⟨name,kind,bs,size,big,mn,mx,stop,count,elem,names,parts⟩:=rk;have hkd:=HOK.out.kind;simp only[ruC] at hkd hrg;rcases (show kind=1\/kind=2\/kind=3\/kind=4\/kind=5\/kind=9\/kind=6\/kind=10\/kind=7\/kind=8 by omega) with rfl|rfl|rfl|rfl|rfl|rfl|rfl|rfl|rfl|rfl
  ·clear hkd hok;refine Q3D ?_;refine yA fun b7=>?_;refine yW 0 ?_;refine yl<|yn<|yq<|yr<|yo zA<|yl<|yn<|yq<|yq<|yr<|yo zF<|yo (zB 0)<|yl<|yn<|yb<|yq<|yr<|yo zet<|yo zA<|yl<|yn<|y1<|yr<|yo zF<|yo (zB 0)<|yo zL<|yo zA<|yl<|yn<|yr<|yo zM<|yo zM ?_;refine Qd Jy rfl Q1 (fun bn _=>?_);refine Qd Yd rfl Q1 (fun z _=>?_);refine Kk ?_;refine Qx (i+1,z.1,z.2) hin Vw mc2 (fun w hw=>?_)
   exact Q95
  ·clear hkd hok;refine Q3D ?_;refine yA fun b7=>?_;refine yW 0 ?_;refine yl<|yn<|yq<|yr<|yo zA<|yl<|yn<|yq<|yq<|yr<|yo zF<|yo (zB 0)<|yl<|yn<|yb<|yq<|yr<|yo zef<|yo zA<|yl<|yn<|y0<|yq<|yq<|yr<|yo zet<|yo zA<|yl<|yn<|y1<|ys<|yn<|y1<|yr<|yo zF<|yo (zB 0)<|yo zA<|yl<|yn<|yr<|yo zM<|yo zM ?_;refine Qd Jy rfl Q1 (fun bn _=>?_);refine Qd Yd rfl Q1 (fun z _=>?_);refine Kk ?_;refine Qx (i+1,z.1,z.2) hin Vw mc2 (fun w hw=>?_)
   exact Q95
  ·clear hkd hok;refine Q3D ?_;refine yA fun b7=>?_;refine yW 0 ?_;refine yl<|yn<|yq<|yr<|yo zA<|yl<|yn<|yq<|yq<|yr<|yo zF<|yo (zB 0)<|yl<|yn<|yb<|yq<|yr<|yo zef<|yo zA<|yl<|yn<|y0<|yq<|yq<|yr<|yo zef<|yo zA<|yl<|yn<|y0<|yr<|yo zef<|yo zA<|yl<|yn<|y0<|yq<|yr<|yo zet<|yo zA<|yl<|yn<|y1<|yr<|yo zA<|yl<|yn<|yr<|yo zM<|yo zM ?_;refine Qd Jy rfl Q1 (fun bn _=>?_);refine Qd Yd rfl Q1 (fun z _=>?_);refine Kk ?_;refine Qx (i+1,z.1,z.2) hin Vw mc2 (fun w hw=>?_)
   exact Q95
  ·clear hkd hok;refine Q3D ?_;refine yA fun b7=>?_;refine yW 0 ?_;refine yl<|yn<|yq<|yr<|yo zA<|yl<|yn<|yq<|yq<|yr<|yo zF<|yo (zB 0)<|yl<|yn<|yb<|yq<|yr<|yo zef<|yo zA<|yl<|yn<|y0<|yq<|yq<|yr<|yo zef<|yo zA<|yl<|yn<|y0<|yr<|yo zet<|yo zA<|yl<|yn<|y1<|yr<|yo zF<|yo (zB 0)<|yo zA<|yl<|yn<|yr<|yo zM<|yo zM ?_;refine Qd Jy rfl Q1 (fun bn _=>?_);refine Qd Yd rfl Q1 (fun z _=>?_);refine Kk ?_;refine Qx (i+1,z.1,z.2) hin Vw mc2 (fun w hw=>?_)
   exact Q95
  ·clear hkd hok;refine Q3D ?_;refine yA fun b7=>?_;refine yW 0 ?_;refine yl<|yn<|yq<|yr<|yo zA<|yl<|yn<|yq<|yq<|yr<|yo zF<|yo (zB 0)<|yl<|yn<|yb<|yq<|yr<|yo zef<|yo zA<|yl<|yn<|y0<|yq<|yq<|yr<|yo zef<|yo zA<|yl<|yn<|y0<|yr<|yo zef<|yo zA<|yl<|yn<|y0<|yq<|yr<|yo zef<|yo zA<|yl<|yn<|y0<|yq<|yq<|yr<|yo zet<|yo zA<|yl<|yn<|y1<|ys<|yn<|y1<|yr<|yo zA<|yl<|yn<|yr<|yo zM<|yo zM ?_;refine Qd Jy rfl Q1 (fun bn _=>?_);refine Qd Yd rfl Q1 (fun z _=>?_);refine Kk ?_;refine Qx (i+1,z.1,z.2) hin Vw mc2 (fun w hw=>?_)
   exact Q95
  ·clear hkd hok;refine Q3D ?_;refine yA fun b7=>?_;refine yW 0 ?_;refine yl<|yn<|yq<|yr<|yo zA<|yl<|yn<|yq<|yq<|yr<|yo zF<|yo (zB 0)<|yl<|yn<|yb<|yq<|yr<|yo zef<|yo zA<|yl<|yn<|y0<|yq<|yq<|yr<|yo zef<|yo zA<|yl<|yn<|y0<|yr<|yo zef<|yo zA<|yl<|yn<|y0<|yq<|yr<|yo zef<|yo zA<|yl<|yn<|y0<|yq<|yq<|yr<|yo zef<|yo zA<|yl<|yn<|y0<|yr<|yo zet<|yo zA<|yl<|yn<|y1<|yr<|yo zA<|yl<|yn<|yr<|yo zM<|yo zM ?_;refine Qd Jy rfl Q1 (fun bn _=>?_);refine Qd Yd rfl Q1 (fun z _=>?_);refine Kk ?_;refine Qx (i+1,z.1,z.2) hin Vw mc2 (fun w hw=>?_)
   exact Q95
  ·obtain⟨rc,Ac,cc,Ad,cd,Ae,ce,hrc,hrgc,hln,hl0,hl1⟩:=HLS.out (.inl rfl);clear hrc;have hcnt:0<=count/\count<n:=hok.count (.inl rfl);have hc1:=HCO.out count.toNat Q3;have hb1:=HB.out count.toNat;clear hkd;obtain⟨cname,ckind,cbs,csize,cbig,cmn,cmx,cstop,ccount,celem,cnames,cparts⟩:=rc
   simp only[ruC] at hrgc hln hl0 hl1;replace hln:KD F count=Jt ckind cmn:=hln;obtain⟨L,hL⟩:∃L,Jt ckind cmn=L:=⟨_,rfl⟩;obtain⟨X,hX⟩:∃X,old.getD count.toNat 0=X:=⟨_,rfl⟩;rw[hL] at hln hl0 hl1;rw[hX] at hc1 hb1;have HL:=Q2 hL;replace hX:lk old count=X:=hX;have helm:0<=elem/\elem<n:=hok.elem (.inl rfl);have hc2:=HCO.out elem.toNat Q3;have hb2:=HB.out elem.toNat;obtain⟨Y,hY⟩:∃X,old.getD elem.toNat 0=X:=⟨_,rfl⟩;rw[hY] at hc2 hb2;replace hY:lk old elem=Y:=hY;have h6:=Qnx (F:=F) old (r:=⟨name,6,bs,size,big,mn,mx,stop,count,elem,names,parts⟩) rfl;simp only at h6;rw[hX,hY,hln] at h6;clear hL hln hX hY hok;by_cases hx0:0<=X
   ·by_cases hz:L=0
    ·rw[if_pos ⟨hx0,hz⟩] at h6;have H6:=Q2 h6;clear h6;refine Q3D ?_;refine yA fun b7=>?_;refine Qq2 ?_;refine yA fun b9=>?_;refine Qjn ?_;(refine Q4 Qcz ?_);refine yo zet<|yo zY<|yl<|yn<|y1<|yr<|yo zM<|yo zF<|yo (zB 1) ?_;refine Q4 KJ ?_;refine yo zC<|yo zA<|yl<|yn<|yr<|yo zM<|yo zM ?_;refine Qd Jy rfl Q1 (fun bn _=>?_);refine Qd Q54 rfl Q1 (fun z _=>?_);refine Kk ?_;refine Qx (i+1,z.1,z.2) hin Vw mc2 (fun w hw=>?_)
     exact QfV
    ·rw[if_neg (fun h=>hz h.2)] at h6
     by_cases hy0:0<=Y
     ·rw[if_pos ⟨hx0,hy0⟩] at h6;have H6:=Q2 h6;clear h6;have hm0:=Int.mul_nonneg hl0 hy0;have hm1:L*Y<=1001*1001:=Int.mul_le_mul hl1 hb2.2 hy0 Q1;refine Q3D ?_;refine yA fun b7=>?_;refine Qq2 ?_;refine yA fun b9=>?_;refine Qjn ?_;(refine Q4 Qcz ?_);refine Qsm ?_;refine yo zC<|yo zht<|yo zY<|yl<|yn<|y1<|Xm Q5 Q5 ?_;refine Q4L ?_;refine Qe (zB 1) ?_;refine Qe KJ ?_;refine Qe zC ?_;refine Qe (zD 0) ?_;refine Qe Qcz ?_;refine Q4L ?_;refine Qe (zB 1) ?_;refine Qe KJ ?_;refine Qe zC ?_;refine Qe Qi7 ?_;refine QlR ?_
      refine yn<|yr<|yo zM<|yo zM ?_;refine Qd Jy rfl Q1 (fun bn _=>?_);refine Qd Q54 rfl Q1 (fun z _=>?_);refine Kk ?_;refine Qx (i+1,z.1,z.2) hin Vw mc2 (fun w hw=>?_);exact QfV
     ·rw[if_neg (fun h=>hy0 h.2)] at h6;have H6:=Q2 h6;clear h6;refine Q3D ?_;refine yA fun b7=>?_;refine Qq2 ?_;refine yA fun b9=>?_;refine Qjn ?_;(refine Q4 Qcz ?_);refine Qsm ?_;refine yo zC<|yo zhf<|yo zY<|yl<|yn<|y0<|ys<|yn<|yr<|yo zM<|yo zM ?_;refine Qd Jy rfl Q1 (fun bn _=>?_);refine Qd Q54 rfl Q1 (fun z _=>?_);refine Kk ?_;refine Qx (i+1,z.1,z.2) hin Vw mc2 (fun w hw=>?_)
      exact QfV
   ·rw[if_neg (fun h=>hx0 h.1),if_neg (fun h=>hx0 h.1)] at h6;have H6:=Q2 h6;clear h6
    have hz0:L=0\/L≠0:=by omega
    refine Q3D ?_;refine yA fun b7=>?_;refine Qq2 ?_;refine yA fun b9=>?_;refine yW 0 ?_;refine yl<|yn<|yq<|yr<|yo zM<|yo zF<|yo (zB 1) ?_;refine Q4 KJ ?_;refine yo zC<|yo zhf<|yo zM<|yo zS<|yo zS<|yo zS<|yo zN<|yl<|yn<|y0<|yq<|yr<|yo zM<|yo zF<|yo (zB 1) ?_;refine Q4 KJ ?_;refine yo zC<|yo zhf<|yo zM<|yo zS<|yo zS<|yo zS<|yo zS<|yo zS<|yo zS<|yo zN<|yl<|yn<|y0<|ys<|yn<|yr<|yo zM<|yo zM ?_;refine Qd Jy rfl Q1 (fun bn _=>?_);refine Qd Q54 rfl Q1 (fun z _=>?_);refine Kk ?_;refine Qx (i+1,z.1,z.2) hin Vw mc2 (fun w hw=>?_);exact QfV
  ·obtain⟨rc,Ac,cc,Ad,cd,Ae,ce,hrc,hrgc,hln,hl0,hl1⟩:=HLS.out (.inr rfl);clear hrc;have hcnt:0<=count/\count<n:=hok.count (.inr rfl);have hc1:=HCO.out count.toNat Q3;have hb1:=HB.out count.toNat;clear hkd;obtain⟨cname,ckind,cbs,csize,cbig,cmn,cmx,cstop,ccount,celem,cnames,cparts⟩:=rc
   simp only[ruC] at hrgc hln hl0 hl1;replace hln:KD F count=Jt ckind cmn:=hln;obtain⟨L,hL⟩:∃L,Jt ckind cmn=L:=⟨_,rfl⟩;obtain⟨X,hX⟩:∃X,old.getD count.toNat 0=X:=⟨_,rfl⟩;rw[hL] at hln hl0 hl1;rw[hX] at hc1 hb1;have HL:=Q2 hL;replace hX:lk old count=X:=hX;have h6:=QgZ (F:=F) old (r:=⟨name,10,bs,size,big,mn,mx,stop,count,elem,names,parts⟩) rfl;simp only at h6;rw[hX,hln] at h6;clear hL hln hX hok;by_cases hx0:0<=X
   ·rw[if_pos hx0] at h6;have H6:=Q2 h6;clear h6;refine Q3D ?_;refine yA fun b7=>?_;refine QqR ?_;refine Q4 KJ ?_;refine yo zC<|yo zht<|yl<|yn<|y1<|Xm Q5 Q5 ?_;refine Q4L ?_;refine Qe (zB 0) ?_;refine Qe KJ ?_;refine Qe zC ?_;refine Qe zF ?_;refine Qe (zB 2) ?_;refine QaV ?_;refine Qe Qo4 ?_;refine Qe zE ?_;refine Qe Qcz ?_;refine QlR ?_;refine yn<|yr<|yo zM<|yo zM ?_;refine Qd Jy rfl Q1 (fun bn _=>?_);refine Qd Yd rfl Q1 (fun z _=>?_);refine Kk ?_;refine Qx (i+1,z.1,z.2) hin Vw mc2 (fun w hw=>?_)
    exact QsQ
   ·rw[if_neg hx0] at h6;have H6:=Q2 h6;clear h6;refine Q3D ?_;refine yA fun b7=>?_;refine QqR ?_;refine Q4 KJ ?_;refine yo zC<|yo zhf<|yl<|yn<|y0<|ys<|yn<|yr<|yo zM<|yo zM ?_;refine Qd Jy rfl Q1 (fun bn _=>?_);refine Qd Yd rfl Q1 (fun z _=>?_);refine Kk ?_;refine Qx (i+1,z.1,z.2) hin Vw mc2 (fun w hw=>?_)
    exact QsQ
  ·have hlen12:parts.length<=12:=hok.p12;have hin2:=hok.parts (.inl rfl);have HIN:=Q2 hin2;have h6:=QjU (F:=F) old (r:=⟨name,7,bs,size,big,mn,mx,stop,count,elem,names,parts⟩) rfl
   simp only at h6;have H6:=Q2 h6;obtain⟨bp,op,rfl,_,hpc⟩:=HPP.out.2 (by show 0<parts.length;have:=hok.seven rfl;simp only at this;omega);have HP:=Q2 hpc;clear hkd hok hin2 h6 hpc;refine Q3D ?_;refine yA fun b7=>?_;refine yW 0 ?_;refine yl<|yn<|yq<|yr<|yo zA<|yl<|yn<|yq<|yq<|yr<|yo zF<|yo (zB 0)<|yl<|yn<|yb<|yq<|yr<|yo zef<|yo zA<|yl<|yn<|y0<|yq<|yq<|yr<|yo zef<|yo zA<|yl<|yn<|y0<|yr<|yo zef<|yo zA<|yl<|yn<|y0<|yq<|yr<|yo zef<|yo zA<|yl<|yn<|y0<|yq<|yq<|yr<|yo zef<|yo zA<|yl<|yn<|y0<|yr<|yo zef<|yo zA<|yl<|yn<|y0<|yq<|yr<|yo zef<|yo zA<|yl<|yn<|y0<|yq<|yr<|yo zef<|yo zA<|yl<|yn<|y0<|yq<|yr<|yo zet<|yo zA<|yl<|yn<|y1<|yq<|yr<|yo zA<|yl<|yn<|yq<|yr<|yo zA<|yl<|yn<|yb ?_;refine QK (ι:=Nat×Int) (fun y=>y.1<=parts.length/\-1<=y.2/\y.2<=1001/\Q3l old y.2 (parts.drop y.1)=Q3l old 0 parts) (fun y=>parts.length - y.1) (fun y=>(10,.int .i64 (y.1:Int))::(8,.int .i64 y.2)::QfX::rdE b2 bo oo n co i A1 c1) (fun y=>.blk b7 (.cells (Qk8:List Value).toArray 65 (0,0))::rdA F old b2 b o n c i A1 c1) (0,0) [0,1,2] Q1 ⟨Nat.zero_le _,by decide,by decide,rfl⟩ KW rfl ?_;rintro⟨j,N1⟩ ⟨hj,hN0,hN1,hsq⟩;replace hj:j<=parts.length:=hj;replace hN0:-1<=N1:=hN0;replace hN1:N1<=1001:=hN1;have HSQ:=Q2 hsq;clear hsq;show sE _ _ _ _ _ ((10,.int .i64 (j:Int))::(8,.int .i64 N1)::QfX::rdE b2 bo oo n co i A1 c1) (.blk b7 (.cells (Qk8:List Value).toArray 65 (0,0))::rdA F old b2 b o n c i A1 c1) _;by_cases hjn:j<parts.length
   ·have hpj:=HP.out j _ (Q9P hjn);have hpr:=HIN.out (parts.getD j 0) (QcY hjn);obtain⟨p,hp⟩:∃p,parts.getD j 0=p:=⟨_,rfl⟩;rw[hp] at hpj hpr;have hc1:=HCO.out p.toNat Q3;have hb1:=HB.out p.toNat;obtain⟨X,hX⟩:∃X,old.getD p.toNat 0=X:=⟨_,rfl⟩;rw[hX] at hc1 hb1
    replace hX:lk old p=X:=hX;have HSQ2:=HSQ.out;have hdr:parts.drop j=p::parts.drop (j+1):=by rw[<- hp];exact Q92 hjn
    simp only at HSQ2;rw[hdr] at HSQ2;rw[Q8K] at HSQ2;rw[hX] at HSQ2;clear hp hX hdr;by_cases hx0:X<0
    ·rw[if_pos hx0,if_neg Q1] at HSQ2;have H2:=Q2 HSQ2;clear HSQ2;refine QmQ ?_;refine yo zC<|yo zlt<|yl<|yn<|y1<|yr<|yo zA<|yl<|yn<|yq<|yr<|yo zM<|yo zhf<|yl<|yn<|y0<|ys<|yn<|yr<|yo zM<|yo zP<|yo zA<|yl ?_;refine Qt (j+1,-1) [0,1,2] Q1 Q6K Q4Y Q7t rfl
    ·rw[if_neg hx0] at HSQ2
     by_cases hn1:0<=N1
     ·rw[if_pos hn1] at HSQ2;have hcp:0<=VU (N1+X)/\VU (N1+X)<=1001:=⟨by rw[Vc];omega,Qpu _⟩;obtain⟨N2,hN2⟩:∃N2,VU (N1+X)=N2:=⟨_,rfl⟩;rw[hN2] at HSQ2 hcp;have HN2:=Q2 hN2;have H2:=Q2 HSQ2;clear HSQ2 hN2;refine QmQ ?_;refine yo zC<|yo zlf<|yl<|yn<|y0<|ys<|yn<|yq<|yr<|yo zM<|yo zht<|yl<|yn<|y1<|yr<|yo zM<|yo zM<|yo zF<|yo (zB 0)<|yo zM<|yo zi1<|yo zC ?_;refine Q4 KJ ?_;refine yo zC<|yo zP ?_;refine Q4 (Ql (f:=106) rfl rfl Q1 rfl rfl (fun w hw=>by rw[<- HN2.out];exact Q6b _ w) (v:=.int .i64 N2)) ?_;refine Kk ?_;refine Qt (j+1,N2) [0,1,2] Q1 Q6K Q4Y Q7t rfl
     ·rw[if_neg hn1] at HSQ2;have H2:=Q2 HSQ2;clear HSQ2;refine QmQ ?_;refine yo zC<|yo zlf<|yl<|yn<|y0<|ys<|yn<|yq<|yr<|yo zM<|yo zhf<|yl<|yn<|y0<|ys<|yn<|yr<|yo zM<|yo zP<|yo zA<|yl ?_;refine Qt (j+1,N1) [0,1,2] Q1 Q6K Q4Y Q7t rfl
   ·obtain rfl:j=parts.length:=by omega
    have hsq:=HSQ.out;simp only at hsq;rw[List.drop_of_length_le (Nat.le_refl _)] at hsq;have hsq2:N1=Q3l old 0 parts:=hsq;have HS2:=Q2 hsq2;clear hsq hsq2;refine Qlu ?_;refine Qd Jy rfl Q1 (fun bn _=>?_);refine Qd Yd rfl Q1 (fun z _=>?_);refine Kk ?_;refine Qx (i+1,z.1,z.2) hin Vw mc2 (fun w hw=>?_);exact QrK
  ·have hlen12:parts.length<=12:=hok.p12;have hin2:=hok.parts (.inr rfl);have HIN:=Q2 hin2;have h6:=QkA (F:=F) old (r:=⟨name,8,bs,size,big,mn,mx,stop,count,elem,names,parts⟩) rfl
   simp only at h6;have H6:=Q2 h6;obtain⟨bp,op,rfl,_,hpc⟩:=HPP.out.2 (by show 0<parts.length;have:=hok.eight rfl;simp only at this;omega);have HP:=Q2 hpc;clear hkd hok hin2 h6 hpc;refine Q3D ?_;refine yA fun b7=>?_;refine yW 0 ?_;refine yl<|yn<|yq<|yr<|yo zA<|yl<|yn<|yq<|yq<|yr<|yo zF<|yo (zB 0)<|yl<|yn<|yb<|yq<|yr<|yo zef<|yo zA<|yl<|yn<|y0<|yq<|yq<|yr<|yo zef<|yo zA<|yl<|yn<|y0<|yr<|yo zef<|yo zA<|yl<|yn<|y0<|yq<|yr<|yo zef<|yo zA<|yl<|yn<|y0<|yq<|yq<|yr<|yo zef<|yo zA<|yl<|yn<|y0<|yr<|yo zef<|yo zA<|yl<|yn<|y0<|yq<|yr<|yo zef<|yo zA<|yl<|yn<|y0<|yq<|yr<|yo zef<|yo zA<|yl<|yn<|y0<|yq<|yr<|yo zef<|yo zA<|yl<|yn<|y0<|yq<|yr<|yo zet<|yo zA<|yl<|yn<|y1<|yq<|yr<|yo zA<|yl<|yn<|yb ?_;refine QK (ι:=Nat×Int) (fun y=>y.1<=parts.length/\-1<=y.2/\y.2<=1001/\Q5C old y.2 (parts.drop y.1)=Q5C old (-1) parts) (fun y=>parts.length - y.1) (fun y=>(11,.int .i64 (y.1:Int))::(8,.int .i64 y.2)::QfX::rdE b2 bo oo n co i A1 c1) (fun y=>.blk b7 Qtt::rdA F old b2 b o n c i A1 c1) (0,-1) [0,1,2] Q1 ⟨Nat.zero_le _,by decide,by decide,rfl⟩ KW rfl ?_;rintro⟨j,N1⟩ ⟨hj,hN0,hN1,hsq⟩;replace hj:j<=parts.length:=hj;replace hN0:-1<=N1:=hN0;replace hN1:N1<=1001:=hN1;have HSQ:=Q2 hsq;clear hsq;show sE _ _ _ _ _ ((11,.int .i64 (j:Int))::(8,.int .i64 N1)::QfX::rdE b2 bo oo n co i A1 c1) (.blk b7 Qtt::rdA F old b2 b o n c i A1 c1) _;by_cases hjn:j<parts.length
   ·have hpj:=HP.out j _ (Q9P hjn);have hpr:=HIN.out (parts.getD j 0) (QcY hjn);obtain⟨p,hp⟩:∃p,parts.getD j 0=p:=⟨_,rfl⟩;rw[hp] at hpj hpr;have hc1:=HCO.out p.toNat Q3;have hb1:=HB.out p.toNat;obtain⟨X,hX⟩:∃X,old.getD p.toNat 0=X:=⟨_,rfl⟩;rw[hX] at hc1 hb1
    replace hX:lk old p=X:=hX;have HSQ2:=HSQ.out;have hdr:parts.drop j=p::parts.drop (j+1):=by rw[<- hp];exact Q92 hjn
    simp only at HSQ2;rw[hdr] at HSQ2;rw[Q9g] at HSQ2;rw[hX] at HSQ2;clear hp hX hdr;by_cases hx0:X<0
    ·rw[if_neg Q3] at HSQ2;have H2:=Q2 HSQ2;clear HSQ2;refine Qgo ?_;refine Q4 KJ ?_;refine yo zC<|yo zA<|yl<|yn<|yq<|yr<|yo zM<|yo zhf<|yo zM<|yo zS<|yo zS<|yo zS<|yo zS<|yo zS<|yo zS<|yo zS<|yo zN<|yl<|yn<|y0<|ys<|yn<|yr<|yo zM<|yo zP<|yo zA<|yl ?_;refine Qt (j+1,N1) [0,1,2] Q1 Q6K Q4Y Q7t rfl
    by_cases hn1:N1<0
    ·rw[if_pos Q3] at HSQ2;have H2:=Q2 HSQ2;clear HSQ2;refine Qgo ?_;refine Q4 KJ ?_;refine yo zC<|yo zA<|yl<|yn<|yq<|yr<|yo zM<|yo zht<|yo zM<|yo zM<|yo zlt<|yo zM<|yo zS<|yo zS<|yo zS<|yo zY<|yo zY<|yl<|yn<|y1<|yr<|yo zM<|yo zA<|yl<|yn<|yr<|yo zM<|yo zP<|yo zA<|yl ?_;refine Qt (j+1,X) [0,1,2] Q1 Q6K Q4Y Q7t rfl
    by_cases hlt:X<N1
    ·rw[if_pos Q3] at HSQ2;have H2:=Q2 HSQ2;clear HSQ2;refine Qgo ?_;refine Q4 KJ ?_;refine yo zC<|yo zA<|yl<|yn<|yq<|yr<|yo zM<|yo zht<|yo zM<|yo zM<|yo zlf<|yo zM<|yo zM<|yo zM<|yo zlt<|yo zN<|yo zY<|yl<|yn<|y1<|yr<|yo zM<|yo zA<|yl<|yn<|yr<|yo zM<|yo zP<|yo zA<|yl ?_;refine Qt (j+1,X) [0,1,2] Q1 Q6K Q4Y Q7t rfl
    rw[if_neg Q3] at HSQ2;have H2:=Q2 HSQ2;clear HSQ2;refine Qgo ?_;refine Q4 KJ ?_;refine yo zC<|yo zA<|yl<|yn<|yq<|yr<|yo zM<|yo zht<|yo zM<|yo zM<|yo zlf<|yo zM<|yo zM<|yo zM<|yo zlf<|yo zN<|yo zY<|yl<|yn<|y0<|ys<|yn<|yr<|yo zM<|yo zP<|yo zA<|yl ?_;refine Qt (j+1,N1) [0,1,2] Q1 Q6K Q4Y Q7t rfl
   ·obtain rfl:j=parts.length:=by omega
    have hsq:=HSQ.out;simp only at hsq;rw[List.drop_of_length_le (Nat.le_refl _)] at hsq;have hsq2:N1=Q5C old (-1) parts:=hsq;have HS2:=Q2 hsq2;clear hsq hsq2;refine Qlu ?_;refine Qd Jy rfl Q1 (fun bn _=>?_);refine Qd Yd rfl Q1 (fun z _=>?_);refine Kk ?_;refine Qx (i+1,z.1,z.2) hin Vw mc2 (fun w hw=>?_);exact QrK
 ·obtain rfl:i=n:=by omega
  refine yq<|yq<|yr<|yo zM<|yo zF<|yo (zB 1)<|yo zL<|yo zlf<|yl<|yn<|y0<|ye<|yn<|yq<|yr<|yo zM<|yo zA<|yl<|yn<|yt ?_;refine Q7 mc4 rfl (.tmp rfl) (fun w hw=>?_);have h:ZH F old i=Ya F old:=by
   unfold ZH Ya;rw[List.take_of_length_le (by rw[HLEN.out];exact Nat.le_refl _)]
  have hw2:Wd [] W [.row A1 i c1 3 1 (iv (ZH F old i)),.blk b2 (.cells ([.slice (some ⟨b,o,none⟩) i c]:List Value).toArray 24 (0,0))] w:=hw;rw[h] at hw2;exact QnY (by rw[Q2h];exact HLEN.out) hw2
end
end
end Go.Proofs.YtphkhfdmlcnoeaaGreatDoor
