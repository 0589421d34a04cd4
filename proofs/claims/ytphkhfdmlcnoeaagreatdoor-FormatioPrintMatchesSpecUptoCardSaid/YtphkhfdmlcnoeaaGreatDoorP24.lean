import Derived.Test.YtphkhfdmlcnoeaaGreatDoorP23
import Derived.Deep.AppendLies
namespace Go.Proofs.YtphkhfdmlcnoeaaGreatDoor
set_option linter.unusedVariables false
set_option linter.unusedSimpArgs false
set_option maxRecDepth 1000000
set_option maxHeartbeats 32000000
open Go.RowKit
section
variable {O:List Qf}{w:World}
section
variable {F:List Rl}
theorem Qo8{l:List Bool}(h:∀j,j<l.length->l.getD j false=true):¬0<=Q41 l:=by
 unfold Q41;rw[Xp (fun j hj=>by simpa using h j hj)];decide
theorem Qbk{k:Nat}(hk:k<F.length)(hp:(Zk F).getD k false=false)(hj:∀j,j<k->(Zk F).getD j false=true):Ks F=(24,(k:Int)):=by
 unfold Ks;rw[Jl hk (by simp only[hp];rfl) (fun j hjk=>by simp only[hj j hjk];rfl)]
theorem V0{p:Int×Int}(h:Xf F=p)(hp:p≠(0,0)):QI F=p:=by
 unfold QI;rw[h,if_pos hp]
theorem Qfh(h:Xf F=(0,0))(hl:2000<(K4 F).length):QI F=(14,-1):=by
 unfold QI;rw[if_neg (fun hn=>hn h),if_pos hl]
theorem Qkv(h:Xf F=(0,0))(hl:¬2000<(K4 F).length):QI F=(0,0):=by
 unfold QI;rw[if_neg (fun hn=>hn h),if_neg hl]
theorem QiK{n:Nat}{r:Rl}(h:ROk n r):r.kind≠1->r.bs=[]:=fun hk=>by
 have hfm:=(Ji.1 h.formed).1;rcases hfm with h1|h1
 ·exact Qhw
 ·exact absurd h1 hk
theorem QiY(hF:FOk F){n:Nat}(hn:F.length=n):Q04 F n=K4 F:=by
 unfold Q04 K4;rw[List.take_of_length_le Q3];congr 1;refine List.map_congr_left fun r hr=>?_;obtain⟨i,hi,e⟩:=List.mem_iff_getElem.1 hr;exact QeP (QiK (hF i r (by rw[List.getElem?_eq_getElem hi,e])))
theorem Q36{a b:Int}(h:a≠0):((a,b):Int×Int)≠(0,0):=fun e=>h (congrArg Prod.fst e)
end
def QtN(F:List Rl)(b k:Nat):Qf:=.row (some ⟨b,0,none⟩) 256 256 4 1 (QP ((Yi F).getD k XH))
def Q5r(F:List Rl):List Nat->List Qf
 |[]=>[]
 |b::t=>QtN F b t.length::Q5r F t
def KT:List Nat->List Value
 |[]=>[]
 |b::t=>KT t++[.slice (some ⟨b,0,none⟩) 256 256]
theorem Q19:∀l:List Nat,(KT l).length=l.length
 |[]=>rfl
 |b::t=>by rw[KT,List.length_append,Q19 t];rfl
theorem QbL(F:List Rl):∀(l:List Nat) (j:Nat),j<l.length->∃b,(KT l)[j]? =some (.slice (some ⟨b,0,none⟩) 256 256)/\QtN F b j∈Q5r F l
 |[],j,h=>absurd h (Nat.not_lt_zero _)
 |b::t,j,h=>by
  rcases (show j<t.length\/j=t.length by simp only[List.length_cons] at h;omega) with h1|rfl
  ·obtain⟨g,hg,hm⟩:=QbL F t j h1;exact⟨g,by rw[KT,List.getElem?_append_left (by rw[Q19];exact h1)];exact hg,List.mem_cons_of_mem _ hm⟩
  ·exact⟨b,by rw[KT,List.getElem?_append_right (by rw[Q19];exact Nat.le_refl _),Q19,Nat.sub_self];rfl,List.mem_cons_self ..⟩
theorem Wd.mem_on{M:List Nat}{W:World}(h:Wd M W O w){a:Qf}(ha:a∈O):a.on w:=by
 obtain⟨i,hi⟩:=List.getElem?_of_mem ha;exact h.own i a hi
theorem Qp8{F:List Rl}{W:World}{A:Option Addr}{c n:Nat}{e:TypeId}{bs:List Nat}(hl:bs.length=n)(hF:F.length=n)(h:Wd [] W (.row A n c e 1 (KT bs)::O) w)(hO:∀a∈Q5r F bs,a∈O):QpO w A n (KT bs) (Yi F):=by
 refine⟨by rw[Q7C];exact hF,Rd.of_own (h.own 0 _ rfl),fun j hj=>?_⟩;obtain⟨b,hb,hm⟩:=QbL F bs j Q3;have hon:(QtN F b j).on w:=h.mem_on (List.mem_cons_of_mem _ (hO _ hm));have hr:Rd w w.heap.size 1 (some ⟨b,0,none⟩) 256 (QP ((Yi F).getD j XH)):=Rd.of_own hon;obtain⟨b',o',e',_,hc⟩:=hr.2 Q1;cases e';exact⟨b,hb,fun q hq=>hc q _ (ZI _ hq)⟩
section
variable {A:Option Addr}{n c:Nat}{W:World}{F:List Rl}
theorem Q9I(hf:QS W W.heap.size A n F)(hs:FSm F):
  Calls Tryz.prog 12 #[.agg #[.slice A n c]] W (Qdh W (QI F)):=by
 have hlen:F.length=n:=hf.1;have HFM:=Q2 hf;have HS:=Q2 hs;have HLEN:=Q2 hlen;clear hf hs hlen;go_enter Tryz.func12,Tryz.ntmps12;refine Qz (M:=[]) (W:=W) (N:=122) (E:=[(0,.agg #[.slice A n c])]) (O:=[]) ?_ Zl (Wd.start [] W);by_cases h0:n=0
 ·subst h0;refine yq<|yr ?_;refine yB fun b1=>?_;refine yA fun b2=>?_;refine yl<|yn<|yq<|yq<|yr<|yo zF<|yo (zB 1)<|yo zL<|yo zet<|yl<|yn<|y1<|yq<|yr ?_;refine Q4 Q9n ?_;refine yW 0 ?_;refine yl<|yn<|yt<|yc ?_;exact Q7 mc4 rfl Kb (fun w hw=>Zg (V0 (Q3t HLEN.out) Q1) hw)
 by_cases h40:40<n
 ·refine yq<|yr ?_;refine yB fun b1=>?_;refine yA fun b2=>?_;refine yl<|yn<|yq<|yq<|yr<|yo zF<|yo (zB 1)<|yo zL<|yo zef<|yl<|yn<|y0<|ys<|yn<|yq<|yq<|yr<|yo zF<|yo (zB 1)<|yo zL<|yo zgt<|yl<|yn<|y1<|yq<|yr ?_;refine Q4 Q9n ?_;refine yW 0 ?_;refine yl<|yn<|yt<|yc ?_;exact Q7 mc4 rfl Kb (fun w hw=>Zg (V0 (Q4J (by rw[HLEN.out];exact h40)) Q1) hw)
 have hn0:0<n:=by omega
 have hn40:n<=40:=by omega
 obtain⟨b,o,rfl⟩:=HFM.out.addr hn0;refine yq<|yr ?_;refine yB fun b1=>?_;refine yA fun b2=>?_;refine yl<|yn<|yq<|yq<|yr<|yo zF<|yo (zB 1)<|yo zL<|yo zef<|yl<|yn<|y0<|ys<|yn<|yq<|yq<|yr<|yo zF<|yo (zB 1)<|yo zL<|yo zgf<|yl<|yn<|y0<|ys<|yn<|yq<|yq<|yr<|yo zA<|yl<|yn<|yb ?_;refine QK (ι:=Nat) (fun k=>k<=n/\∀j,j<k->Zb F j=0) (fun k=>n - k) (fun k=>[(1,.pointer (some ⟨b1,0,none⟩)),(2,.pointer (some ⟨b2,0,none⟩)),(3,.int .i64 (k:Int))]) (fun _=>[.blk b2 (.cells ([.int .i64 0,.int .i64 0]:List Value).toArray 32 (0,0)),.blk b1 (.cells ([.slice (some ⟨b,o,none⟩) n c]:List Value).toArray 24 (0,0))]) 0 [0,1] Q1 Q15 Jf rfl ?_;rintro k ⟨hk,hall⟩;have HA:=Q2 hall;clear hall;by_cases hkn:k<n
 ·obtain⟨rk,Ab,cb,An,cn,Ap,cp,hrk,hrg,hlk⟩:=HFM.out.rl hkn;obtain⟨C,hC⟩:∃C,Xs rk (F.take k) n=C:=⟨_,rfl⟩;have HRK:=Q2 (show Zb F k=C by rw[Q1p hrk,HLEN.out];exact hC);have HC:=Q2 hC;have HK:=Q2 hrk;clear hrk hlk hrg hC
  by_cases hz:C=0
  ·subst hz;refine Qgs ?_;refine Q4 QsL ?_;refine yo zA<|yl<|yn<|yq<|yr<|yo zM<|yo znf<|yl<|yn<|y0<|ys<|yn<|yr<|yo zM<|yo zP<|yo zA<|yl ?_;exact Qt (k+1) [0,1] Q1 Qga Q3 Q5u rfl
  ·refine Qgs ?_;refine Q4 QsL ?_;refine yo zA<|yl<|yn<|yq<|yr<|yo zM<|yo znt<|yl<|yn<|y1<|yq<|yr<|yo zM<|yo zM ?_;refine Q4 Q9n ?_;refine yW 0 ?_;refine yl<|yn<|yt<|yk<|yc<|yc<|yk<|yc ?_;exact Q7 mc4 rfl Kb (fun w hw=>Zg (V0 ((Q57 Q52 Q4M Q1D (by rw[HRK.out];exact hz) HA.out).trans (by rw[HRK.out])) (Q36 hz)) hw)
 have HR:=Q2 (show ∀j,j<F.length->Zb F j=0 from fun j hj=>HA.out j Q4X);have HF:=Q2 (Qe8 HR.out);clear HA;refine QoA ?_;refine QK (ι:=Nat) (fun k=>k<=n/\∀j,j<k->JC F j=0) (fun k=>n - k) (fun k=>[(1,.pointer (some ⟨b1,0,none⟩)),(2,.pointer (some ⟨b2,0,none⟩)),(5,.int .i64 (k:Int))]) (fun _=>[.blk b2 (.cells ([.int .i64 0,.int .i64 0]:List Value).toArray 32 (0,0)),.blk b1 (.cells ([.slice (some ⟨b,o,none⟩) n c]:List Value).toArray 24 (0,0))]) 0 [0,1] Q1 Q15 Jf rfl ?_;rintro k ⟨hk,hall⟩;have HA:=Q2 hall;clear hall;by_cases hkn:k<n
 ·obtain⟨rk,Ab,cb,An,cn,Ap,cp,hrk,hrg,hlk⟩:=HFM.out.rl hkn;obtain⟨C,hC⟩:∃C,J3 F rk=C:=⟨_,rfl⟩;have HRK:=Q2 (show JC F k=C from (Q0z hrk).trans hC);have HC:=Q2 hC;have HLK:=Q2 hlk;have HSM:=Q2 (HS.out.2 rk QbZ);have HOK:=Q2 (show ROk n rk by have:=HF.out k rk hrk;rwa [HLEN.out] at this);clear hrk hlk hC
  by_cases hz:C=0
  ·subst hz;refine Qr0 ?_;refine yn<|yq<|yr<|yo zM<|yo znf<|yl<|yn<|y0<|ys<|yn<|yr<|yo zM<|yo zP<|yo zA<|yl ?_;exact Qt (k+1) [0,1] Q1 Qga Q3 Q5u rfl
  ·refine Qr0 ?_;refine yn<|yq<|yr<|yo zM<|yo znt<|yl<|yn<|y1<|yq<|yr<|yo zM<|yo zM ?_;refine Q4 Q9n ?_;refine yW 0 ?_;refine yl<|yn<|yt<|yk<|yc<|yc<|yk<|yc ?_;exact Q7 mc4 rfl Kb (fun w hw=>Zg (V0 ((Q61 Q52 Q4M HR.out Q1D (by rw[HRK.out];exact hz) HA.out).trans (by rw[HRK.out])) (Q36 hz)) hw)
 have HU:=Q2 (show ∀j,j<F.length->JC F j=0 from fun j hj=>HA.out j Q4X);have HUS:=Q2 (Qm1 ⟨HR.out,HU.out⟩);clear HA;refine QoA ?_;refine QK (ι:=Nat) (fun k=>k<=n/\∀j,j<k->Q1u F j=false) (fun k=>n - k) (fun k=>[(1,.pointer (some ⟨b1,0,none⟩)),(2,.pointer (some ⟨b2,0,none⟩)),(7,.int .i64 (k:Int))]) (fun _=>[.blk b2 (.cells ([.int .i64 0,.int .i64 0]:List Value).toArray 32 (0,0)),.blk b1 (.cells ([.slice (some ⟨b,o,none⟩) n c]:List Value).toArray 24 (0,0))]) 0 [0,1] Q1 Q15 Jf rfl ?_;rintro k ⟨hk,hall⟩;have HA:=Q2 hall;clear hall;by_cases hkn:k<n
 ·obtain⟨cy,hcy⟩:∃cy,Q1u F k=cy:=⟨_,rfl⟩
  have hcell:(XN (ZE F k))[0+k]? =some (.bool cy):=by rw[Nat.zero_add,<- hcy];exact Y7 (by rw[KH,HLEN.out];exact hkn)
  have HCY:=Q2 hcy;clear hcy;cases cy with
  |false=>
   refine Qgs ?_;refine Qd QqD rfl Q1 (fun br _=>?_);refine yo zM<|yo (zi1 (hj:=hkn))<|yo (zK 0 hcell)<|yl<|yn<|y0<|ys<|yn<|yr<|yo zM<|yo zP<|yo zA<|yl ?_;exact Qt (k+1) [1,2] Q1 ⟨hkn,K0 HA.out HCY.out⟩ Q3 Q5u rfl
  |true=>
   refine Qgs ?_;refine Qd QqD rfl Q1 (fun br _=>?_);refine yo zM<|yo (zi1 (hj:=hkn))<|yo (zK 0 hcell)<|yl<|yn<|y1<|yq<|yr<|yo zM ?_;refine Qki ?_;exact Q7 mc4 rfl Kl (fun w hw=>Zg (V0 (Q7L Q52 Q4M HR.out HU.out Q1D HCY.out HA.out) (Q36 Q1)) hw)
 have HT:=Q2 (Q4W Q52 Q4M HR.out HU.out (fun j hj=>HA.out j Q4X));clear HA;have hll:(JY F).length=n:=by unfold JY;rw[Jd];exact HLEN.out
 have HLL:=Q2 hll;clear hll;refine yq<|yq<|yr<|yo zM<|yo zF<|yo (zB 1)<|yo zL<|yo zlf<|yl<|yn<|y0<|ye<|yn<|yq<|yr<|yo (zD 1) ?_;refine Qd (QY (f:=38) (fun y:Option Addr×Nat=>.slice y.1 n y.2) (fun _=>True) (fun y=>[.row y.1 n y.2 3 1 (iv (JY F)),.blk b2 (.cells ([.int .i64 0,.int .i64 0]:List Value).toArray 32 (0,0)),.blk b1 (.cells ([.slice (some ⟨b,o,none⟩) n c]:List Value).toArray 24 (0,0))]) rfl rfl rfl (fun w hw=>(Q82 (W:=w) KO HUS.out hn40 hn0).mono fun _ _ h=>h.wdn HLL.out hw)) rfl Q1 (fun z _=>?_);refine Q7f ?_;obtain⟨Al,cl⟩:=z;refine Q2L 0 rfl hn0 (fun bl el=>?_);obtain rfl:Al=some ⟨bl,0,none⟩:=el;refine QK (ι:=Nat) (fun k=>k<=n/\∀j,j<k->(Zk F).getD j false=true) (fun k=>n - k) (fun k=>[(1,.pointer (some ⟨b1,0,none⟩)),(2,.pointer (some ⟨b2,0,none⟩)),(9,.int .i64 (k:Int)),(8,.slice (some ⟨bl,0,none⟩) n cl)]) (fun _=>[.row (some ⟨bl,0,none⟩) n cl 3 1 (iv (JY F)),.blk b2 (.cells ([.int .i64 0,.int .i64 0]:List Value).toArray 32 (0,0)),.blk b1 (.cells ([.slice (some ⟨b,o,none⟩) n c]:List Value).toArray 24 (0,0))]) 0 [0,1,2] Q1 Q15 mc1 rfl ?_;rintro k ⟨hk,hall⟩;have HA:=Q2 hall;clear hall;by_cases hkn:k<n
 ·have hlf:=QdA HUS.out (i:=k) Q1D
  have hcell:(iv (JY F))[0+k]? =some (.int .i64 ((JY F).getD k 0)):=by rw[Nat.zero_add];exact QgY (by rw[HLL.out];exact hkn)
  obtain⟨x,hx⟩:∃x,(JY F).getD k 0=x:=⟨_,rfl⟩;rw[hx] at hlf hcell;clear hx;by_cases hx0:x<0
  ·have HFI:=Q2 (show (Zk F).getD k false=false by rw[<- hlf];exact decide_eq_false Q3);clear hlf;refine yq<|yq<|yr<|yo zM<|yo zM<|yo zL<|yo zlt<|yl<|yn<|y1<|ys<|yn<|yq<|yb<|yq<|yr<|yo zM<|yo zM<|yo (zi1 (hj:=hkn))<|yo (zK 0 hcell)<|yo zlt<|yl<|yn<|y1<|yq<|yr<|yo zM ?_;refine Qki ?_;exact Q7 mc4 rfl Kl (fun w hw=>Zg (V0 (HT.out.trans (Qbk Q1D HFI.out HA.out)) (Q36 Q1)) hw)
  ·have HFI:=Q2 (show (Zk F).getD k false=true by rw[<- hlf];exact decide_eq_true Q3);clear hlf;refine yq<|yq<|yr<|yo zM<|yo zM<|yo zL<|yo zlt<|yl<|yn<|y1<|ys<|yn<|yq<|yb<|yq<|yr<|yo zM<|yo zM<|yo (zi1 (hj:=hkn))<|yo (zK 0 hcell)<|yo zlf<|yl<|yn<|y0<|ys<|yn<|yr<|yo zM<|yo zP<|yo zA<|yl ?_;exact Qt (k+1) [0,1,2] Q1 ⟨hkn,K0 HA.out HFI.out⟩ Q3 (.cons rfl rfl (.cons rfl rfl (.cons rfl (by go_num) Qe6))) rfl
 have HIX:=Q2 (Qo8 (l:=Zk F) (fun j hj=>HA.out j (by rw[ZQ,HLEN.out] at hj;omega)));clear HA;refine yq<|yq<|yr<|yo zM<|yo zM<|yo zL<|yo zlf<|yl<|yn<|y0<|ye<|yn<|yq<|yr<|yo zA<|yl<|yn<|yq<|yq<|yr<|yo zA<|yl<|yn<|yb ?_;refine Q16 66 1 ?_;refine Xu (ι:=List Nat×Option Addr×Nat) (fun y=>y.1.length<=n) (fun y=>n - y.1.length) (fun y=>[(1,.pointer (some ⟨b1,0,none⟩)),(2,.pointer (some ⟨b2,0,none⟩)),(10,.slice y.2.1 y.1.length y.2.2),(11,.int .i64 (y.1.length:Int))]) (fun y=>.row y.2.1 y.1.length y.2.2 66 1 (KT y.1)::.blk b2 (.cells ([.int .i64 0,.int .i64 0]:List Value).toArray 32 (0,0))::.blk b1 (.cells ([.slice (some ⟨b,o,none⟩) n c]:List Value).toArray 24 (0,0))::Q5r F y.1) ([],none,0) Z4 mc1 (fun w hw=>hw.no2) ?_;rintro⟨bs,A1,c1⟩ hi;replace hi:bs.length<=n:=hi;show sE _ _ _ _ _ [(1,.pointer (some ⟨b1,0,none⟩)),(2,.pointer (some ⟨b2,0,none⟩)),(10,.slice A1 bs.length c1),(11,.int .i64 (bs.length:Int))] (.row A1 bs.length c1 66 1 (KT bs)::.blk b2 (.cells ([.int .i64 0,.int .i64 0]:List Value).toArray 32 (0,0))::.blk b1 (.cells ([.slice (some ⟨b,o,none⟩) n c]:List Value).toArray 24 (0,0))::Q5r F bs) _;by_cases hin:bs.length<n
 ·refine yq<|yq<|yr<|yo zM<|yo zF<|yo (zB 2)<|yo zL<|yo zlt<|yl<|yn<|y1<|ys<|yn<|yq<|yb<|yr<|yo zM<|yo (zD 2)<|yo zM ?_;refine Qd (QY _ _ _ (f:=39) rfl rfl rfl (fun w hw=>QfM HFM.out HF.out hn40 hin hw)) rfl Q1 (fun bn _=>?_);refine Qd Jy rfl Q1 (fun bq _=>?_);refine Qd Yd rfl Q1 (fun z _=>?_);refine Kk ?_;refine Qx (bn::bs,z.1,z.2) hin (by show n - (bs.length+1)<n - bs.length;omega) mc2 (fun w hw=>?_);exact Wd.perm hw.tl (List.perm_append_comm_assoc [_] [_,_,_] (Q5r F bs))
 obtain rfl:n=bs.length:=by omega
 refine yq<|yq<|yr<|yo zM<|yo zF<|yo (zB 2)<|yo zL<|yo zlf<|yl<|yn<|y0<|ye<|yn<|yq<|yq<|yr<|yo zA<|yl<|yn<|yb ?_;refine Xu (ι:=Nat) (fun k=>k<=bs.length/\∀j,j<k->ZF F j=false) (fun k=>bs.length - k) (fun k=>[(1,.pointer (some ⟨b1,0,none⟩)),(2,.pointer (some ⟨b2,0,none⟩)),(10,.slice A1 bs.length c1),(12,.int .i64 (k:Int))]) (fun _=>.row A1 bs.length c1 66 1 (KT bs)::.blk b2 (.cells ([.int .i64 0,.int .i64 0]:List Value).toArray 32 (0,0))::.blk b1 (.cells ([.slice Q50 bs.length c]:List Value).toArray 24 (0,0))::Q5r F bs) 0 Q15 mc1 Zc ?_;rintro k ⟨hk,hall⟩;have HA:=Q2 hall;clear hall;show sE _ _ _ _ _ [(1,.pointer (some ⟨b1,0,none⟩)),(2,.pointer (some ⟨b2,0,none⟩)),(10,.slice A1 bs.length c1),(12,.int .i64 (k:Int))] (.row A1 bs.length c1 66 1 (KT bs)::.blk b2 (.cells ([.int .i64 0,.int .i64 0]:List Value).toArray 32 (0,0))::.blk b1 (.cells ([.slice Q50 bs.length c]:List Value).toArray 24 (0,0))::Q5r F bs) _;by_cases hkn:k<bs.length
 ·obtain⟨rk,Ab,cb,An,cn,Ap,cp,hrk,hrg,hlk⟩:=HFM.out.rl hkn;obtain⟨cf,hcf⟩:∃cf,Ze (Yi F) rk=cf:=⟨_,rfl⟩;have HCF:=Q2 hcf;have HRK:=Q2 (show ZF F k=cf from (Q6s hrk).trans hcf);have HLK:=Q2 hlk;have HOK:=Q2 (show ROk bs.length rk by have:=HF.out k rk hrk;rwa [HLEN.out] at this);clear hrk hlk hcf
  cases cf with
  |false=>
   refine QrD ?_;refine yl<|yn<|y0<|ys<|yn<|yr<|yo zM<|yo zP<|yo zA<|yl ?_;refine Qx (k+1) Qga (by show bs.length - (k+1)<bs.length - k;omega) mc2 Zc
  |true=>
   refine QrD ?_;refine yl<|yn<|y1<|yq<|yr<|yo zM ?_;refine Qki ?_;exact Q7 mc4 rfl Kl (fun w hw=>Zg (V0 (HT.out.trans (Q38 (ZQ F) HIX.out Q1D HRK.out HA.out)) (Q36 Q1)) hw)
 have HCK:=Q2 (HT.out.trans (Q8z (ZQ F) HIX.out (fun j hj=>HA.out j Q4X)));obtain⟨T,hT⟩:∃T,K4 F=T:=⟨_,rfl⟩;have HTX:=Q2 ((QiY HF.out HLEN.out).trans hT);have HTT:=Q2 hT;have hsz:(⟨T.toArray⟩:ByteArray).size=T.length:=V9 T;clear hT;have HNM:=Q2 (show ∀r∈F,r.name.length<=1048576/\∀x∈r.names,x.length<=1048576 from fun r hr=>⟨(HS.out.2 r hr).name,(HS.out.2 r hr).each⟩);clear HA;by_cases hlong:2000<T.length
 ·refine Qsg ?_;refine yo zT<|yo zgt<|yl<|yn<|y1<|yq<|yr ?_;refine Q4 Q9n ?_;refine yW 1 ?_;refine yl<|yn<|yt<|yc ?_;exact Q7 mc4 rfl Kl (fun w hw=>Zg (Qfh HCK.out (by rw[HTT.out];exact hlong)) hw)
 ·refine Qsg ?_;refine yo zT<|yo zgf<|yl<|yn<|y0<|ys<|yn<|yq<|yr ?_;refine Q4 mc6 ?_;refine yW 1 ?_;refine yl<|yn<|yt ?_;exact Q7 mc4 rfl Kl (fun w hw=>Zg (Qkv HCK.out (by rw[HTT.out];exact hlong)) hw)
end
end
theorem QjA{w:World}{v:Value}{d:Nd}{p:VF}(hv:VIn w w.heap.size v d p)(hb:d.bs.length<=1099511627776)(hn:d.ns.length<=1099511627776)(hp:p.len<=1099511627776)(hk:¬(d.k<1\/4<d.k))
  (hf:(d.k≠1/\d.n≠0)\/(d.k≠2/\0<d.bs.length)\/(d.k≠4/\0<d.ns.length)\/(d.k<3/\0<p.len)\/(d.k=4/\d.ns.length≠p.len)):
  Calls Tryz.prog 47 #[v] w fun e w'=>e=.returned (.int .i64 (QJ d p.len))/\Below w.heap.size w w':=by
 rw[Q2e hk hf];obtain⟨sb,sn,sp,rfl,Ab,nb,cb,An,nn,cn,Ap,cp,rfl,rfl,rfl,hbc,hnc,hpc,hpm,hrb,hrn,hpp⟩:=hv;have e1:d.bs.length=nb:=by have:=hrb.len;rw[QM] at this;exact this
 have e2:d.ns.length=nn:=by have:=hrn.len;rw[Xw] at this;exact this
 obtain⟨np,e3⟩:∃np,p.len=np:=⟨_,rfl⟩;obtain⟨k,e4⟩:∃k,d.k=k:=⟨_,rfl⟩;obtain⟨n,e5⟩:∃n,d.n=n:=⟨_,rfl⟩;rw[e1,e2,e3,e4,e5] at hf;rw[e4] at hk;rw[e3,e4,e5];rw[e1] at hb;rw[e2] at hn;rw[e3] at hp;clear e1 e2 e3 e4 e5 hrb hrn hpp hbc hnc hpc hpm;have b1:(decide ((1:Int)<=k)&&decide (k<=4))=true:=by simp;omega
 go_enter Tryz.func47,Tryz.ntmps47;go_wp2_with fail
 refine(Kg b1 _).mono ?_;rintro e w' ⟨rfl,rfl⟩;have hk4:k=1\/k=2\/k=3\/k=4:=by omega
 clear b1 hk;by_cases hn0:n=0
 ·subst hn0
  rcases hk4 with rfl|rfl|rfl|rfl;all_goals simp only[ne_eq,not_true_eq_false,false_and,and_false,true_and,false_or,or_false,Int.reduceEq,not_false_eq_true,Int.reduceLT] at hf
  all_goals go_wp2_with fail
  all_goals first
   |(go_ret;exact QcH)
   |(exfalso;omega)
 ·have hn0':(n != 0)=true:=by simpa using hn0
  rcases hk4 with rfl|rfl|rfl|rfl;all_goals simp only[ne_eq,not_true_eq_false,false_and,and_false,true_and,false_or,or_false,Int.reduceEq,not_false_eq_true,Int.reduceLT] at hf
  all_goals go_wp2_with fail
  all_goals first
   |(go_ret;exact QcH)
   |(exfalso;omega)
section
variable {A:Option Addr}{B bytes g:Nat}{E:Prop}{K:Act->World->Prop}{P:Program}{Q:Exit->Act->World->Prop}{a b c e v x:Value}{d:Nd}{l:List (List Int)}{o:Oper}{ops:Array Oper}{p:VF}{t:TypeId}{w w':World}
def Bx(w:World)(g:Nat)(a b c d e:Value):Prop:=w.heap[g]? =some (.cells #[a,b,c,d,e] 30 (0,0))
theorem Bx.new(w:World)(a b c d e:Value):Bx (w.alloc (.cells #[a,b,c,d,e] 30)) w.heap.size a b c d e:=heap_alloc_new w _
theorem Bx.lt{d:Value}(h:Bx w g a b c d e):g<w.heap.size:=(Array.getElem?_eq_some_iff.1 h).1
theorem Bx.below{d:Value}(h:Bx w g a b c d e)(hb:Below B w w')(hg:g<B):Bx w' g a b c d e:=(hb.block g hg).trans h
theorem Bx.on{d:Value}(h:Bx w g a b c d e)(hb:Below w.heap.size w w'):Bx w' g a b c d e:=h.below hb h.lt
theorem Bx.cells{d:Value}(h:Bx w g a b c d e):w.cell? ⟨g,0,none⟩=some a/\w.cell? ⟨g,1,none⟩=some b/\w.cell? ⟨g,2,none⟩=some c/\w.cell? ⟨g,3,none⟩=some d/\w.cell? ⟨g,4,none⟩=some e:=by
 refine⟨?_,?_,?_,?_,?_⟩<;>(rw[cell_of_row w g _ _ _ _ h];rfl)
theorem Bx.free{d:Value}(h:Bx w g a b c d e)(o:Nat):w.frozen? ⟨g,o,none⟩=false:=by
 unfold World.frozen?;simp [Bx] at h;simp [h]
theorem Bx.far{h o:Nat}{d:Value}(k:Bx w g a b c d e)(hne:g≠h):Bx (w.setCell ⟨h,o,none⟩ x) g a b c d e:=by
 unfold Bx at k ⊢;rw[Below.heap_setCell _ _ _ _ (by exact hne)];exact k
theorem Rd.on{W:World}{s n:Nat}{xs:List Value}(h:Rd w w.heap.size s A n xs)(hb:Below w.heap.size w W):Rd W W.heap.size s A n xs:=(h.below hb).more hb.size
def QoP(w:World)(g:Nat)(T:TypeId):Prop:=∃cs fr,w.heap[g]? =some (.cells cs T fr)
theorem QoP.set{o:Nat}{T:TypeId}(h:QoP w g T):QoP (w.setCell ⟨g,o,none⟩ x) g T:=by
 obtain⟨cs,fr,h⟩:=h;unfold QoP;simp only[World.setCell,Array.getElem?_modify,h];simp
theorem slV:SlT Tryz.prog 28 30 5 88:=SlT.mk' Tryz.underlying28 (z:=.agg Qt0) Q5 rfl Q1 Q1
theorem Q8Q{a:Act}{e:TypeId}{size:Nat}(hT:SlT P t e size bytes)(hgd:o.guard=none)(s x:Operand)
  (ho:o.op=.call { callee:=.builtin .append,args:=#[s,x],argTypes:=#[t,t] })
  (base:Nat) (A:Option Addr) (n c:Nat) (xs:List Value) (hs:a.eval s=.slice A n c) (hown:w.ownsRow base e size (.slice A n c) n xs)
  (gx:Nat) (news:List Value) (hx:a.eval x=.slice (some ⟨gx,0,none⟩) 1 1) (hl:news.length=size) (hnews:∀j u,news[j]? =some u->w.cell? ⟨gx,0+j,none⟩=some u) (h1:∀u∈news,u.oneCell'=true)
  (hbytes:(n+1)*bytes<=140737488355328) (hbase:base<=w.heap.size) (H:Nat) (hH:w.heap.size=H)
  (h:∀g cap w',w'.ownsRow base e size (.slice (some ⟨g,0,none⟩) (n+1) cap) (n+1) (xs++news)->w.grownBy w' (Value.slice A n c).ownBlock->((Value.slice A n c).ownBlock=some g\/g=H)->g<w'.heap.size->K (a.put o.dst (.slice (some ⟨g,0,none⟩) (n+1) cap)) w'):
  if Region.wanted o (yielded ops a.tmps)=true then Oper.wp P o a w K Q else E:=by
 obtain⟨i,z,hi,hz,hsz,hby,hzs⟩:=hT.info;have h63:n+1<=maxLen:=by
  exact QkJ
 refine step_append_lies w hgd s x t ho base e i z size bytes hT.und hi hz hsz hby hzs hT.pos _ n xs hs hown ⟨gx,0,none⟩ 1 1 news hx (by rw[hl,Nat.one_mul]) (fun j u hu=>?_) h1 Q3 h63 hbytes hbase H hH h;have e:(⟨gx,0,none⟩:Addr).add j=⟨gx,0+j,none⟩:=by unfold Addr.add;split<;>simp_all
 rw[e];exact hnews j u hu
theorem XD.at_{F:VF}{i:Nat}{r:VF}(h:XD F)(hd:F.drop i=.cons d p r):XI d/\p.len<=1048576/\XD p:=by
 have:=XD.drop F i h;rw[hd] at this;exact⟨this.1,this.2.1,this.2.2.1⟩
def JT:List Int->VF->Nat->List (List Int×Nd×VF)
 |_,.nil,_=>[]
 |path,.cons d p r,i=>(path++[(i:Int)],d,p)::(JT (path++[(i:Int)]) p 0++JT path r (i+1))
def Q71(path:List Int)(d:Nd)(p:VF):List (List Int×Nd×VF):=(path,d,p)::JT path p 0
def VF.ht:VF->Nat
 |.nil=>0
 |.cons _ p r=>max (p.ht+1) r.ht
theorem QdF(w:World)(u:Value)(t:TypeId):(w.alloc (.cells #[u] t)).cell? ⟨w.heap.size,0,none⟩=some u:=by
 rw[cell_of_row _ w.heap.size _ _ t (0,0) (heap_alloc_new w _)];rfl
theorem QhW{a:Act}{e:TypeId}(hT:SlT P t e 1 bytes)(hgd:o.guard=none)(s x:Operand)
  (ho:o.op=.call { callee:=.builtin .append,args:=#[s,x],argTypes:=#[t,t] })
  (base:Nat) (A:Option Addr) (n c:Nat) (xs:List Value) (hs:a.eval s=.slice A n c) (hown:w.ownsRow base e 1 (.slice A n c) n xs)
  (gx:Nat) (u:Value) (hx:a.eval x=.slice (some ⟨gx,0,none⟩) 1 1) (hu:w.cell? ⟨gx,0,none⟩=some u) (h1:u.oneCell'=true)
  (hbytes:(n+1)*bytes<=140737488355328) (hbase:base<=w.heap.size) {w0:World} (hb:Below B w0 w) (hB:B<=base) (hB0:B<=w0.heap.size)
  (h:∀A' cap w',w'.ownsRow base e 1 (.slice A' (n+1) cap) (n+1) (xs++[u])->Below B w0 w'->K (a.put o.dst (.slice A' (n+1) cap)) w'):
  if Region.wanted o (yielded ops a.tmps)=true then Oper.wp P o a w K Q else E:=by
 refine Q8Q hT hgd s x ho base A n c xs hs hown gx [u] hx rfl (fun j v hv=>?_) Qe1 hbytes hbase _ rfl fun g cap w' h2 h3 h4 h5=>h _ cap w' h2 ?_
 ·cases j with
  |zero=>simp at hv;subst hv;exact hu
  |succ j=>simp at hv
 ·exact hb.grown h3 (Nat.le_trans hB0 hb.size) (fun k hk=>Nat.le_trans hB (hown.lt k hk).1)
theorem QhZ:∀(F:VF) (num lev m:Nat) (q:List Int) (j:Nat),Xg F num lev=.inr m->m=num+(JT q F j).length:=by
 intro F;induction F with
 |nil=>intro num lev m q j h;injection h with h;simp [JT,h]
 |cons d p r ih1 ih2=>
  intro num lev m q j h;by_cases h1:600<=num\/10<lev
  ·rw[Zz h1] at h;cases h
  ·by_cases h2:QJ d p.len≠0
   ·rw[XZ h1 h2] at h;cases h
   ·cases hp:Xg p (num+1) (lev+1) with
    |inl f=>rw[Zv h1 h2 hp] at h;cases h
    |inr k=>
     rw[ZM h1 h2 hp] at h;have a:=ih1 _ _ _ (q++[(j:Int)]) 0 hp;have b:=ih2 _ _ _ q (j+1) h;simp only[JT,List.length_cons,List.length_append];omega
theorem Q7K{np:Nat}(h:QJ d np=0)(hk:d.k=4):d.ns.length=np:=by
 unfold QJ at h;split at h
 ·omega
 ·split at h
  ·omega
  ·rename_i hf
   simp only[QcD,Bool.or_eq_true,decide_eq_true_eq,not_or,not_and,Nat.not_lt] at hf;by_cases e:d.ns.length=np
   ·exact e
   ·have:=hf.2 hk;first|exact this|exact absurd e this
def YG(w:World)(B:Nat)(A:Option Addr)(c:Nat)(l:List (List Int)):Prop:=
 ∃vs,w.ownsRow B 48 1 (.slice A l.length c) l.length vs/\vs.length=l.length/\∀(j:Nat) (b:List Int),l[j]? =some b->∃A' c',vs[j]? =some (.slice A' b.length c')/\w.ownsRow B 3 1 (.slice A' b.length c') b.length (iv b)
theorem YG.nil(w:World)(B:Nat):YG w B none 0 []:=⟨[],World.ownsRow_nil _ _ _ _,rfl,fun j b h=>by simp at h⟩
theorem YG.set{o:Nat}{c:Nat}(h:YG w B A c l)(hg:g<B):YG (w.setCell ⟨g,o,none⟩ x) B A c l:=by
 obtain⟨vs,h1,h2,h3⟩:=h;refine⟨vs,Q5O h1 hg,h2,fun j b hj=>?_⟩;obtain⟨A',c',e,ho⟩:=h3 j b hj;exact⟨A',c',e,Q5O ho hg⟩
theorem YG.mono{B':Nat}{c:Nat}(h:YG w B A c l)(hg:B'<=B):YG w B' A c l:=by
 obtain⟨vs,h1,h2,h3⟩:=h;refine⟨vs,Jx h1 hg,h2,fun j b hj=>?_⟩;obtain⟨A',c',e,ho⟩:=h3 j b hj;exact⟨A',c',e,Jx ho hg⟩
def One(w:World)(g:Nat)(t:TypeId)(v:Value):Prop:=w.heap[g]? =some (.cells #[v] t (0,0))
theorem One.new(w:World)(t:TypeId)(v:Value):One (w.alloc (.cells #[v] t)) w.heap.size t v:=heap_alloc_new w _
theorem One.lt(h:One w g t v):g<w.heap.size:=(Array.getElem?_eq_some_iff.1 h).1
theorem One.on(h:One w g t v)(hb:Below w.heap.size w w'):One w' g t v:=(hb.block g h.lt).trans h
theorem One.cell(h:One w g t v):w.cell? ⟨g,0,none⟩=some v:=by rw[cell_of_row w g _ _ _ _ h];rfl
theorem One.free(h:One w g t v)(o:Nat):w.frozen? ⟨g,o,none⟩=false:=by
 unfold World.frozen?;simp [One] at h;simp [h]
theorem One.set(h:One w g t v)(x:Value):One (w.setCell ⟨g,0,none⟩ x) g t x:=by
 unfold One at h ⊢;simp only[World.setCell,Array.getElem?_modify,h];simp
theorem QvK:SlT Tryz.prog 57 48 1 24:=SlT.mk' Tryz.underlying57 (z:=.slice none 0 0) Q5 rfl Q1 Q1
theorem QuC{sb sn sp:Value}(h:Hd w w.heap.size d p.len (FIn w w.heap.size p) sb sn sp)(hb:Below w.heap.size w w'):Hd w' w'.heap.size d p.len (FIn w' w'.heap.size p) sb sn sp:=
 h.mono Q9A hb.size (FIn.keep Q9A hb.size p)
end
section
variable {i:Nat}{ns:List (List UInt8)}{x:List UInt8}
def QtE(ns:List (List UInt8))(k:Value):Prop:=∃i:Nat,k=.int .i64 (i:Int)/\i<=ns.length/\(ns.take i).all QA=true
theorem Qj0(h:(ns.take i).all QA=true)(hx:ns[i]? =some x)(hn:QA x=true):(ns.take (i+1)).all QA=true:=by
 rw[List.take_add_one,hx,Option.toList_some,List.all_append,h];simp [hn]
theorem Qjw(hx:ns[i]? =some x)(hn:QA x=false):ns.all QA=false:=by
 rw[List.all_eq_false];exact⟨x,List.mem_of_getElem? hx,by simp [hn]⟩
def QvQ(ns:List (List UInt8))(W:World)(k:Value)(wr:World):Prop:=∃i nq:Nat,k=.int .i64 (i:Int)/\i<=ns.length/\(ns.take i).Nodup/\wr=W.drewN nq
def QvB(ns:List (List UInt8))(W:World)(i:Nat)(s:List UInt8)(k:Value)(wr:World):Prop:=∃j nq:Nat,k=.int .i64 (j:Int)/\j<=i/\XR (ns.take j) s=false/\wr=W.drewN nq
theorem QiP{w:World}{v:Value}{d:Nd}{p:VF}(hv:VIn w w.heap.size v d p)(hsz:∀x∈d.ns,x.length<=1099511627776)(hn:d.ns.length<=1099511627776)(hp:p.len<=1099511627776)(hk:¬(d.k<1\/4<d.k))
  (hf:¬((d.k≠1/\d.n≠0)\/(d.k≠2/\0<d.bs.length)\/(d.k≠4/\0<d.ns.length)\/(d.k<3/\0<p.len)\/(d.k=4/\d.ns.length≠p.len))):
  Calls Tryz.prog 47 #[v] w fun e w'=>e=.returned (.int .i64 (QJ d p.len))/\Below w.heap.size w w':=by
 rw[Q6h hk hf];obtain⟨sb,sn,sp,rfl,Ab,nb,cb,An,nn,cn,Ap,cp,rfl,rfl,rfl,hbc,hnc,hpc,hpm,hrb,hrn,hpp⟩:=hv;have HRN:=Q2 hrn;have e1:d.bs.length=nb:=by have:=hrb.len;rw[QM] at this;exact this
 have e2:d.ns.length=nn:=by have:=hrn.len;rw[Xw] at this;exact this
 have HE2:=Q2 e2;have HSZ:=Q2 hsz;obtain⟨np,e3⟩:∃np,p.len=np:=⟨_,rfl⟩;obtain⟨k,e4⟩:∃k,d.k=k:=⟨_,rfl⟩;obtain⟨n,e5⟩:∃n,d.n=n:=⟨_,rfl⟩;rw[e1,e2,e3,e4,e5] at hf;rw[e4] at hk;rw[e3,e4,e5];rw[e2] at hn;rw[e3] at hp;clear e1 e2 e3 e4 e5 hrb hrn hpp hbc hnc hpc hpm hsz;have b1:(decide ((1:Int)<=k)&&decide (k<=4))=true:=by simp;omega
 have hk4:k=1\/k=2\/k=3\/k=4:=by omega
 go_enter Tryz.func47,Tryz.ntmps47;go_wp2_with fail
 refine(Kg b1 _).mono ?_;rintro e w' ⟨rfl,rfl⟩;clear b1 hk;obtain⟨W,hW⟩:∃W,w.alloc (.cells #[.int .i64 k,.int .i64 n,.slice Ab nb cb,.slice An nn cn,.slice Ap np cp] 30)=W:=⟨_,rfl⟩;have HBX:=Q2 (show Bx W w.heap.size (.int .i64 k) (.int .i64 n) (.slice Ab nb cb) (.slice An nn cn) (.slice Ap np cp) by rw[<- hW];exact Bx.new _ _ _ _ _ _);have HBW:=Q2 (show Below w.heap.size w W by rw[<- hW];exact JN _ _);rw[hW];clear hW;obtain⟨q0,q1,q2,q3,q4⟩:=HBX.out.cells;go_upto_region 3 with (fail)
 go_cut [50] (fun t wx=>t=.bool false/\wx=W)
 case first=>
  rcases hk4 with rfl|rfl|rfl|rfl;all_goals simp only[ne_eq,not_true_eq_false,false_and,and_false,true_and,false_or,or_false,Int.reduceEq,not_false_eq_true,Int.reduceLT,not_or,Decidable.not_not,not_and] at hf
  all_goals
   (try have a0:n=0:=by omega);(try have a1:¬(0:Int)<(nb:Int):=by omega);(try have a2:¬(0:Int)<(nn:Int):=by omega);(try have a3:¬(0:Int)<(np:Int):=by omega);(try have a4:¬0<nb:=by omega);(try have a5:¬0<nn:=by omega);(try have a6:¬0<np:=by omega);(try subst a0);clear hf;go_wp2_with fail
   go_meet
   exact⟨rfl,rfl⟩
 case rest=>
  obtain⟨rfl,rfl⟩:=hcut;go_upto_region 5 with (fail)
  go_cut [62] (fun t wx=>t=.bool false/\wx=wc)
  case first=>
   by_cases h4:k=4
   ·subst h4
    have a5:((nn:Int) != (np:Int))=false:=by rw[bne_eq_false_iff_eq];omega
    go_wp2_with fail
    go_meet
    exact⟨rfl,rfl⟩
   ·have a5:(k==4)=false:=by simpa using h4
    go_wp2_with fail
    go_meet
    exact⟨rfl,rfl⟩
  case rest=>
   obtain⟨rfl,rfl⟩:=hcut;clear hk4 hf;by_cases h600:600<np
   ·have HT:=Q2 (Q5P (ns:=d.ns) h600)
    have h600':(600:Int)<(np:Int):=by omega
    go_wp2_with fail
    go_ret;exact⟨by rw[HT.out];rfl,HBW.out⟩
   ·have h600':¬(600:Int)<(np:Int):=by omega
    have HN6:=Q2 h600;go_wp2_with fail
    go_loop [3] (QtE d.ns) (fun k=>nn - (intOf k).toNat)
    case atStart=>exact⟨0,rfl,Nat.zero_le _,rfl⟩
    case round=>
     obtain⟨i,rfl,hi,hall⟩:=hrel;rw[HE2.out] at hi;have HA:=Q2 hall;clear hall;by_cases hlt:i<nn
     ·obtain⟨b,o,s,rfl,hb,hy,hc⟩:=Vb HRN.out hlt
      have HY:=Q2 hy;have hc':=(HBW.out.cell (p:=⟨b,o+i,none⟩) hb).trans hc;have HS:=Q2 (show s.size<=9223372036854775807 by have:=HSZ.out _ (List.mem_of_getElem? hy);simp at this;omega);have hli:(i:Int)<(nn:Int):=by omega
      have h0:(0:Int)<=(i:Int):=by omega
      clear hy hc;go_wp2_with fail
      refine(Q1H s _ HS.out).mono ?_;rintro e w3 ⟨rfl,rfl⟩;cases hnm:QA s.data.toList
      ·have HT:=Q2 (Qfg HN6.out (Qjw HY.out hnm))
       clear hnm;go_wp2_with fail
       go_ret;exact⟨by rw[HT.out];rfl,HBW.out⟩
      ·have HN:=Q2 (Qj0 HA.out HY.out hnm)
       clear hnm;go_wp2_with fail
       go_round
       case rel=>exact⟨i+1,by go_num,by rw[HE2.out];omega,HN.out⟩
       case measure=>simp [intOf];omega
     ·have HALL:=Q2 (show d.ns.all QA=true by have:=HA.out;rwa [List.take_of_length_le (by rw[HE2.out];omega)] at this)
      go_wp2_with fail
      clear hlt hi HA;go_loopw [4] (QvQ d.ns wc) (fun k _=>nn - (intOf k).toNat)
      case atStart=>exact⟨0,0,rfl,Nat.zero_le _,by simp,rfl⟩
      case round=>
       obtain⟨i,nq,rfl,hi,hd,rfl⟩:=hrel;rw[HE2.out] at hi;have HD:=Q2 hd;clear hd;by_cases hlt:i<nn
       ·obtain⟨b,o,s,rfl,hb,hy,hc⟩:=Vb HRN.out hlt
        have HY:=Q2 hy;have hc':=(HBW.out.cell (p:=⟨b,o+i,none⟩) hb).trans hc;have HB:=Q2 hb;have hli:(i:Int)<(nn:Int):=by omega
        have h0:(0:Int)<=(i:Int):=by omega
        clear hy hc;go_wp2_with fail
        go_loopw [5] (QvB d.ns wc i s.data.toList) (fun k _=>i - (intOf k).toNat)
        case atStart=>exact⟨0,nq,rfl,Nat.zero_le _,rfl,rfl⟩
        case round=>
         obtain⟨j,mq,rfl,hj,hh,rfl⟩:=hrel;have HH:=Q2 hh;clear hh;by_cases hjl:j<i
         ·obtain⟨b2,o2,t,hA2,_,hy2,hc2⟩:=Vb HRN.out (show j<nn by omega)
          injection hA2 with hA2;injection hA2 with hA2 hA3;subst hA2 hA3;have HY2:=Q2 hy2;have hc2':=(HBW.out.cell (p:=⟨b,o+j,none⟩) HB.out).trans hc2;have hjl':(j:Int)<(i:Int):=by omega
          have hjn:(j:Int)<(nn:Int):=by omega
          have hj0:(0:Int)<=(j:Int):=by omega
          clear hy2 hc2;go_upto_region 20 with (fail)
          go_quiet (fail)
          by_cases hst:s.data.toList=t.data.toList
          ·have hd2:(s.toList==t.toList)=true:=by rw[Lib.toList_data,Lib.toList_data];simpa using hst
           have HT:=Q2 (QeI HN6.out HALL.out (QhD HY.out (QeW (i:=j) (by rw[List.getElem?_take_of_lt hjl,HY2.out,hst]))));rw[hd2];clear hst;go_wp2_with fail
           go_ret;exact QrY
          ·have hd2:(s.toList==t.toList)=false:=by rw[Lib.toList_data,Lib.toList_data];simpa using hst
           have HM:=Q2 (Qat HY2.out hst HH.out);rw[hd2];clear hst;go_wp2_with fail
           go_roundw
           case rel=>exact⟨j+1,_,by go_num,by omega,HM.out,rfl⟩
           case measure=>simp [intOf];omega
         ·have HM:=Q2 (QcL HY.out HD.out (show XR (d.ns.take i) s.data.toList=false by rw[show i=j by omega];exact HH.out))
          go_wp2_with fail
          go_roundw
          case rel=>exact⟨i+1,mq,by go_num,by rw[HE2.out];omega,HM.out,rfl⟩
          case measure=>simp [intOf];omega
       ·have HT:=Q2 (Qnq HN6.out HALL.out (by have:=HD.out;rwa [List.take_of_length_le (by rw[HE2.out];omega)] at this))
        go_wp2_with fail
        go_ret;exact QrY
end
section
variable {d:Nd}{ns:List (List UInt8)}{p:VF}{v:Value}{w:World}
theorem Q7Q(hv:VIn w w.heap.size v d p)(hd:XI d)(hp:p.len<=1048576):
  Calls Tryz.prog 47 #[v] w fun e w'=>e=.returned (.int .i64 (QJ d p.len))/\Below w.heap.size w w':=by
 by_cases hk:d.k<1\/4<d.k
 ·rw[Q2I hk]
  obtain⟨sb,sn,sp,rfl,Ab,nb,cb,An,nn,cn,Ap,cp,rfl,rfl,rfl,hbc,hnc,hpc,hpm,hrb,hrn,hpp⟩:=hv;have b1:(decide ((1:Int)<=d.k)&&decide (d.k<=4))=false:=by
   exact Q7E
  clear hrb hrn hpp hk hd;go_enter Tryz.func47,Tryz.ntmps47;go_wp2_with fail
  refine(Kg b1 _).mono ?_;rintro e w' ⟨rfl,rfl⟩;go_wp2_with fail
  exact Q2l
 ·by_cases hf:(d.k≠1/\d.n≠0)\/(d.k≠2/\0<d.bs.length)\/(d.k≠4/\0<d.ns.length)\/(d.k<3/\0<p.len)\/(d.k=4/\d.ns.length≠p.len)
  ·exact QjA hv (by have:=hd.2.1;omega) (by have:=hd.2.2.1;omega) Q3 hk hf
  ·exact QiP hv (fun x hx=>by have:=hd.2.2.2 x hx;omega) (by have:=hd.2.2.1;omega) Q3 hk hf
def ZW(ns:List (List UInt8)):Nat:=(ns.map fun x=>x.length+1).sum
def ZD(d:Nd)(np:Nat):Nat:=
 if d.k=1 then 1+(num d.n).length else if d.k=2 then (if 4000<d.bs.length then 4001 else 1+(ZK d.bs).length) else 1+(num (np:Int)).length+ZW d.ns
theorem Qig{i:Nat}{x:List UInt8}(h:ns[i]? =some x):ZW (ns.take (i+1))=ZW (ns.take i)+(x.length+1):=by
 unfold ZW;exact Qmi
theorem QaX(h:∀x∈ns,x.length<=1048576):ZW ns<=ns.length*1048577:=by
 induction ns with
 |nil=>simp [ZW]
 |cons x r ih=>
  have h1:=ih (fun y hy=>h y QmM);have h2:=h x List.mem_cons_self;unfold ZW at*
  exact Qjp
def Qv3(ns:List (List UInt8))(c:Nat)(s k:Value):Prop:=∃i:Nat,k=.int .i64 (i:Int)/\i<=ns.length/\s=.int .i64 ((c+ZW (ns.take i):Nat):Int)
theorem Q8f(hv:VIn w w.heap.size v d p)(hd:XI d)(hp:p.len<=1048576):
  Calls Tryz.prog 48 #[v] w fun e w'=>e=.returned (.int .i64 ((ZD d p.len:Nat):Int))/\Below w.heap.size w w':=by
 obtain⟨sb,sn,sp,rfl,Ab,nb,cb,An,nn,cn,Ap,cp,rfl,rfl,rfl,hbc,hnc,hpc,hpm,hrb,hrn,hpp⟩:=hv;have HRN:=Q2 hrn;have HRB:=Q2 hrb;have HD:=Q2 hd;have hbl:nb<=1048576:=by have:=hrb.len;rw[QM] at this;have:=hd.2.1;omega
 have hbl':d.bs.length=nb:=by have:=hrb.len;rw[QM] at this;exact this
 have hnl:d.ns.length=nn:=by have:=hrn.len;rw[Xw] at this;exact this
 have HNL:=Q2 hnl;have hnn:nn<=1048576:=by have:=hd.2.2.1;omega
 obtain⟨np,hnp⟩:∃np,p.len=np:=⟨_,rfl⟩;have HNP:=Q2 hnp;rw[hnp] at hp hpc ⊢;have hkb:-9223372036854775808<=d.n/\d.n<=9223372036854775807:=⟨hd.1.2.2.1,hd.1.2.2.2⟩;have hnumn:=XG d.n hkb.1 hkb.2;have HBW:=Q2 (JN w (.cells #[.int .i64 d.k,.int .i64 d.n,.slice Ab nb cb,.slice An nn cn,.slice Ap np cp] 30));clear hrb hrn hpp hbc hnc hpc hpm hd hnl hnp;by_cases k1:d.k=1
 ·have HS:=Q2 (show ZD d np=1+(num d.n).length by unfold ZD;rw[if_pos k1])
  obtain⟨q,hq⟩:∃q,(num d.n).length=q:=⟨_,rfl⟩;rw[hq] at hnumn;rw[k1];go_enter Tryz.func48,Tryz.ntmps48;go_wp2_with fail
  refine(Q40 _ _ hkb.1 hkb.2).mono ?_;rintro e w2 ⟨A2,c2,rfl,hown2,hb2⟩;have HB2:=Q2 hb2;rw[hq];have HQ:=Q2 hq;clear hown2 hb2 hq;go_wp2_with fail
  go_ret;exact Qnd
 ·have k1':(d.k==1)=false:=by simpa using k1
  by_cases k2:d.k=2
  ·by_cases hbig:4000<nb
   ·have HS:=Q2 (show ZD d np=4001 by unfold ZD;rw[if_neg k1,if_pos k2,if_pos Q3])
    have hbig':(4000:Int)<(nb:Int):=by omega
    rw[k2] at*
    clear k1 k1';go_enter Tryz.func48,Tryz.ntmps48;go_wp2_with fail
    go_ret;exact⟨by rw[HS.out];rfl,JN _ _⟩
   ·have HS:=Q2 (show ZD d np=1+(ZK d.bs).length by unfold ZD;rw[if_neg k1,if_pos k2,if_neg Q3])
    have hcl:=K2 d.bs Q3;have hbig':¬(4000:Int)<(nb:Int):=by omega
    obtain⟨q,hq⟩:∃q,(ZK d.bs).length=q:=⟨_,rfl⟩;rw[hq] at hcl;have HRB1:=Q2 (HRB.out.on HBW.out);rw[k2] at*
    clear k1 k1';go_enter Tryz.func48,Tryz.ntmps48;go_wp2_with fail
    refine(Q7p (bs:=d.bs) HRB1.out Q3).mono ?_;rintro e w2 ⟨A2,c2,rfl,hown2,hb2⟩;have HB2:=Q2 hb2;rw[hq];clear hown2 hb2;have HQ:=Q2 hq;clear hq;go_wp2_with fail
    go_ret;exact Qnd
  ·have k2':(d.k==2)=false:=by simpa using k2
   have HS:=Q2 (show ZD d np=1+(num (np:Int)).length+ZW d.ns by unfold ZD;rw[if_neg k1,if_neg k2]);have hnump:=XG (np:Int) Q3 Q3;have hns:ZW d.ns<=1048576*1048577:=by
    have h1:=QaX HD.out.2.2.2;have h2:d.ns.length<=1048576:=HD.out.2.2.1;exact Nat.le_trans h1 QeR
   have hnt:∀i,ZW (d.ns.take i)<=1048576*1048577:=fun i=>by
    have h1:=QaX (ns:=d.ns.take i) (fun x hx=>HD.out.2.2.2 x (List.mem_of_mem_take hx));have h2:(d.ns.take i).length<=1048576:=by rw[List.length_take];have:=HD.out.2.2.1;omega
    exact Nat.le_trans h1 QeR
   obtain⟨q,hq⟩:∃q,(num (np:Int)).length=q:=⟨_,rfl⟩;rw[hq] at hnump;have HQ:=Q2 hq;have HNT:=Q2 hnt;clear hnt;go_enter Tryz.func48,Tryz.ntmps48;go_wp2_with fail
   refine(Q40 _ _ Q3 Q3).mono ?_;rintro e w2 ⟨A2,c2,rfl,hown2,hb2⟩;have HB2:=Q2 (X9 HBW.out hb2);obtain⟨x0,x1,x2,x3,x4⟩:=((Bx.new w (.int .i64 d.k) (.int .i64 d.n) (.slice Ab nb cb) (.slice An nn cn) (.slice Ap np cp)).on hb2).cells;rw[hq];clear hown2 hb2 hq;go_wp2_with fail
   go_loop [3,4] (Qv3 d.ns (1+q)) (fun _ k=>nn - (intOf k).toNat)
   case atStart=>exact⟨0,rfl,Nat.zero_le _,by simp [ZW]⟩
   case round=>
    obtain⟨i,rfl,hi,rfl⟩:=hrel;rw[HNL.out] at hi;have ht1:=HNT.out i;obtain⟨a,ha⟩:∃a,ZW (d.ns.take i)=a:=⟨_,rfl⟩;rw[ha] at ht1 ⊢;have HA:=Q2 ha;clear ha;by_cases hlt:i<nn
    ·obtain⟨b,o,s,rfl,hb,hy,hc⟩:=Vb HRN.out hlt
     have HY:=Q2 hy;have hc':=(HB2.out.cell (p:=⟨b,o+i,none⟩) hb).trans hc;have hss:s.size<=1048576:=by have:=HD.out.2.2.2 _ (List.mem_of_getElem? hy);simpa using this
     have hli:(i:Int)<(nn:Int):=by omega
     have h0:(0:Int)<=(i:Int):=by omega
     clear hy hc;go_wp2_with fail
     go_round
     case rel=>exact⟨i+1,by go_num,by rw[HNL.out];omega,by rw[Qig HY.out,HA.out];simp;omega⟩
     case measure=>simp [intOf];omega
    ·have HE:=Q2 (show ZW d.ns=a by have:=HA.out;rwa [List.take_of_length_le (by rw[HNL.out];omega)] at this)
     go_wp2_with fail
     go_ret;exact⟨by rw[HS.out,HQ.out,HE.out];rfl,HB2.out⟩
end
abbrev Itm:=List Int×Nd×VF
def JV(most:Nat):List Int->VF->Nat->List Itm
 |_,.nil,_=>[]
 |path,.cons d p r,i=>if most<=i then [] else ((path++[(i:Int)],d,p)::(if 10<(path++[(i:Int)]).length then [] else JV most (path++[(i:Int)]) p 0))++JV most path r (i+1)
def Jn(most:Nat)(g:Itm):List Itm:=g::(if 10<g.1.length then [] else JV most g.1 g.2.2 0)
def Q4y(most:Nat)(l:List Itm):List Itm:=l.flatMap (Jn most)
theorem Q7e{most:Nat}{path:List Int}{d:Nd}{p r:VF}{i:Nat}(h:i<most):JV most path (.cons d p r) i=Jn most (path++[(i:Int)],d,p)++JV most path r (i+1):=by
 rw[JV,if_neg Q3];rfl
theorem QeX{most:Nat}{path:List Int}{F:VF}{i:Nat}(h:most<=i):JV most path F i=[]:=by
 cases F with
 |nil=>rfl
 |cons d p r=>rw[JV,if_pos h]
theorem Q8q(most:Nat)(g:Itm)(l:List Itm):Q4y most (g::l)=Jn most g++Q4y most l:=by simp [Q4y]
theorem Qih{most:Nat}{g:Itm}(h:10<g.1.length):Jn most g=[g]:=by unfold Jn;rw[if_pos h]
theorem Q42{most:Nat}{g:Itm}(h:¬10<g.1.length):Jn most g=g::JV most g.1 g.2.2 0:=by unfold Jn;rw[if_neg h]
def VK:List Itm->Nat->Option (Int×Int)
 |[],_=>none
 |g::l,num=>if 600<=num\/10<=g.1.length then some (2,(num:Int)) else if QJ g.2.1 g.2.2.len≠0 then some (QJ g.2.1 g.2.2.len,(num:Int)) else VK l (num+1)
theorem YP{g:Itm}{l:List Itm}{num:Nat}(h:600<=num\/10<=g.1.length):VK (g::l) num=some (2,(num:Int)):=by rw[VK,if_pos h]
theorem Ki{g:Itm}{l:List Itm}{num:Nat}(h:¬(600<=num\/10<=g.1.length))(h1:QJ g.2.1 g.2.2.len≠0):VK (g::l) num=some (QJ g.2.1 g.2.2.len,(num:Int)):=by rw[VK,if_neg h,if_pos h1]
theorem V6{g:Itm}{l:List Itm}{num:Nat}(h:¬(600<=num\/10<=g.1.length))(h1:QJ g.2.1 g.2.2.len=0):VK (g::l) num=VK l (num+1):=by rw[VK,if_neg h,if_neg (by simpa using h1)]
theorem Qin:∀(l:List Itm) (k num:Nat),num<=600->601<=num+k->VK (l.take k) num=VK l num:=by
 intro l;induction l with
 |nil=>intro k num _ _;simp
 |cons g l ih=>
  intro k num h1 h2;obtain⟨k,rfl⟩:∃k',k=k'+1:=⟨k - 1,by omega⟩;rw[List.take_succ_cons];by_cases h:600<=num\/10<=g.1.length
  ·rw[YP h,YP h]
  ·by_cases hn:QJ g.2.1 g.2.2.len≠0
   ·rw[Ki h hn,Ki h hn]
   ·rw[V6 h (by simpa using hn),V6 h (by simpa using hn)]
    exact ih k (num+1) Q3 Q3
theorem Qc6{d:Nd}{np:Nat}(h:QJ d np=0):np<=600:=by
 have:=Yk h;omega
theorem Qk6(most:Nat)(hm:600<=most):∀(F:VF) (q:List Int) (j num lev:Nat),lev=q.length+2->j+F.len<=most->
  (∀f,Xg F num lev=.inl f->∀rest,VK (JV most q F j++rest) num=some f)/\
  (∀m,Xg F num lev=.inr m->m=num+(JV most q F j).length/\JV most q F j=JT q F j/\∀rest,VK (JV most q F j++rest) num=VK rest m):=by
 intro F;induction F with
 |nil=>
  intro q j num lev hl hj;refine⟨fun f h=>by (cases h),fun m h=>?_⟩;injection h with h;subst h;exact⟨rfl,rfl,fun rest=>rfl⟩
 |cons d p r ih1 ih2=>
  intro q j num lev hl hj;simp only[VF.len] at hj;rw[Q7e Q3];have hql:(q++[(j:Int)]).length=q.length+1:=by simp
  by_cases h1:600<=num\/10<lev
  ·refine⟨fun f h rest=>?_,fun m h=>by rw[Zz h1] at h;cases h⟩
   rw[Zz h1] at h;injection h with h;subst h;unfold Jn;rw[List.cons_append,List.cons_append,YP (by simp only[hql];omega)]
  ·have h1':¬(600<=num\/10<=(q++[(j:Int)]).length):=by rw[hql];omega
   by_cases h2:QJ d p.len≠0
   ·refine⟨fun f h rest=>?_,fun m h=>by rw[XZ h1 h2] at h;cases h⟩
    rw[XZ h1 h2] at h;injection h with h;subst h;unfold Jn;rw[List.cons_append,List.cons_append,Ki h1' h2]
   ·have h2':QJ d p.len=0:=by simpa using h2
    have hp6:=Qc6 h2';rw[Q42 (by simp only[hql];omega)];obtain⟨a1,a2⟩:=ih1 (q++[(j:Int)]) 0 (num+1) (lev+1) (by rw[hql];omega) Q3;obtain⟨b1,b2⟩:=ih2 q (j+1) (num+1+(JV most (q++[(j:Int)]) p 0).length) lev hl Q3;refine⟨fun f h rest=>?_,fun m h=>?_⟩
    ·rw[List.append_assoc,List.cons_append,V6 h1' h2']
     cases hp:Xg p (num+1) (lev+1) with
     |inl f'=>
      rw[Zv h1 h2 hp] at h;injection h with h;subst h;exact a1 _ hp _
     |inr k=>
      rw[ZM h1 h2 hp] at h;obtain⟨c1,c2,c3⟩:=a2 k hp;rw[c3,c1];rw[c1] at h;exact b1 f h rest
    ·cases hp:Xg p (num+1) (lev+1) with
     |inl f'=>rw[Zv h1 h2 hp] at h;cases h
     |inr k=>
      rw[ZM h1 h2 hp] at h;obtain⟨c1,c2,c3⟩:=a2 k hp;rw[c1] at h;obtain⟨d1,d2,d3⟩:=b2 m h;refine⟨by simp only[List.length_append,List.length_cons];omega,?_,fun rest=>?_⟩
      ·rw[c2,d2];rfl
      ·rw[List.append_assoc,List.cons_append,V6 h1' h2',c3,c1,d3]
theorem Qj1(most:Nat)(hm:600<=most)(d:Nd)(p:VF):
  (∀f,Xg (.cons d p .nil) 0 1=.inl f->VK (Jn most ([],d,p)) 0=some f)/\(∀m,Xg (.cons d p .nil) 0 1=.inr m->VK (Jn most ([],d,p)) 0=none/\Jn most ([],d,p)=Q71 [] d p):=by
 have h1:¬(600<=0\/10<1):=by omega
 have h1':¬(600<=0\/10<=(([],d,p):Itm).1.length):=by simp
 by_cases h2:QJ d p.len≠0
 ·refine⟨fun f h=>?_,fun m h=>by rw[XZ h1 h2] at h;cases h⟩
  rw[XZ h1 h2] at h;injection h with h;subst h;unfold Jn;rw[Ki h1' h2]
 ·have h2':QJ d p.len=0:=by simpa using h2
  have hp6:=Qc6 h2';rw[Q42 Qn];obtain⟨a1,a2⟩:=Qk6 most hm p [] 0 1 2 rfl Q3;refine⟨fun f h=>?_,fun m h=>?_⟩
  ·rw[V6 h1' h2']
   cases hp:Xg p 1 2 with
   |inl f'=>
    rw[Zv h1 h2 hp] at h;injection h with h;subst h;have:=a1 _ hp [];rwa [List.append_nil] at this
   |inr k=>rw[ZM h1 h2 hp] at h;cases h
  ·cases hp:Xg p 1 2 with
   |inl f'=>rw[Zv h1 h2 hp] at h;cases h
   |inr k=>
    obtain⟨c1,c2,c3⟩:=a2 k hp;have:=c3 [];rw[List.append_nil] at this;rw[V6 h1' h2'];exact⟨this,by simp only;rw[c2];rfl⟩
def Q5p(d:Nd)(np:Nat):Nat:=if d.k=1 then 1+(num d.n).length else if d.k=2 then 1+(ZK d.bs).length else 1+(num (np:Int)).length+ZW d.ns
def szS(l:List Itm):Nat:=(l.map fun g=>ZD g.2.1 g.2.2.len).sum
def szX(l:List Itm):Nat:=(l.map fun g=>Q5p g.2.1 g.2.2.len).sum
theorem Qtg(d:Nd)(np:Nat):ZD d np<=Q5p d np/\(ZD d np=Q5p d np\/ZD d np=4001):=by
 unfold ZD Q5p;by_cases h1:d.k=1
 ·simp [h1]
 ·by_cases h2:d.k=2
  ·simp only[if_neg h1,if_pos h2]
   by_cases hb:4000<d.bs.length
   ·rw[if_pos hb]
    refine⟨?_,.inr rfl⟩;unfold ZK;rw[List.length_append];omega
   ·rw[if_neg hb];exact⟨Nat.le_refl _,.inl rfl⟩
  ·simp [h1,h2]
theorem Qvs(l:List Itm):szS l<=szX l/\(szS l=szX l\/4000<szS l):=by
 induction l with
 |nil=>simp [szS,szX]
 |cons g l ih=>
  have h:=Qtg g.2.1 g.2.2.len;simp only[szS,szX,List.map_cons,List.sum_cons] at*
  omega
theorem Qlt{l:List Itm}{i:Nat}{g:Itm}(h:l[i]? =some g):szS (l.take (i+1))=szS (l.take i)+ZD g.2.1 g.2.2.len:=by
 unfold szS;exact Qmi
theorem QlN(l:List Itm)(i:Nat):szS (l.take i)<=szS l:=by
 conv=>rhs;rw[<- List.take_append_drop i l]
 unfold szS;rw[List.map_append,List.sum_append];omega
theorem Qgc{n:Int}(h0:0<=n)(h:n<=63):(num n).length=1:=by
 obtain⟨k,rfl⟩:=Int.eq_ofNat_of_zero_le h0;have hk:k<=63:=by omega
 have:∀k≤63,(num ((k:Nat):Int)).length=1:=by decide
 exact this k hk
theorem Qqf{x:List UInt8}(h:QA x=true):x.length<=32:=by
 rcases Nat.lt_or_ge 32 x.length with h'|h'
 ·rw[Q13 h'] at h;cases h
 ·exact h'
theorem QdD{x:List UInt8}(h:QA x=true):(ZK x).length=x.length+1:=by
 unfold ZK;have:=Qqf h;rw[List.length_append,Qgc Q3 Q3];omega
theorem QgB{d:Nd}{p:VF}(h:QJ d p.len=0){B:Nat}(hb:(XL p (d.k==4) d.ns).length=(if (d.k==4)=true then ZW (d.ns.take p.len) else 0)+B)(h0:p.len=0->B=0):(XQ d p).length=Q5p d p.len+B:=by
 obtain⟨⟨k1,k4⟩,hn,hbs,hns,hpp,hr⟩:=Yk h;have hk:=Qgc (n:=d.k) Q3 Q3;unfold Q5p;by_cases e1:d.k=1
 ·rw[QcJ e1,if_pos e1,List.length_append,hk,h0 Q3,Nat.add_zero]
 ·by_cases e2:d.k=2
  ·rw[Q66 e2,if_neg e1,if_pos e2,List.length_append,hk,h0 Q3,Nat.add_zero]
  ·rw[Q2B e1 e2,if_neg e1,if_neg e2,List.length_append,List.length_append,hk,hb]
   by_cases e4:d.k=4
   ·have:(d.k==4)=true:=by simp [e4]
    rw[if_pos this,List.take_of_length_le (by rw[Q7K h e4];exact Nat.le_refl _)];omega
   ·have:¬(d.k==4)=true:=by simp [e4]
    rw[if_neg this];rcases hns with hns|hns
    ·exact absurd hns e4
    ·rw[hns];simp [ZW];omega
theorem QlP:∀(F:VF) (rc:Bool) (ns:List (List UInt8)) (q:List Int) (j:Nat),YA F->(rc=true->F.len<=ns.length)->ns.all QA=true->
  (XL F rc ns).length=(if rc=true then ZW (ns.take F.len) else 0)+szX (JT q F j):=by
 intro F;induction F with
 |nil=>intro rc ns q j _ _ _;cases rc<;>simp [XL,VF.len,ZW,JT,szX]
 |cons d p r ih1 ih2=>
  intro rc ns q j hG hl hn;obtain⟨⟨k1,k4⟩,hnn,hbs,hns,hpp,hr⟩:=Yk hG.1;have hall:d.ns.all QA=true:=hr.2.2.1;have h1:=ih1 (d.k==4) d.ns (q++[(j:Int)]) 0 hG.2.1 Qkj hall
  have h2:=QgB hG.1 h1 (fun h0=>by
   cases p with
   |nil=>rfl
   |cons _ _ _=>simp [VF.len] at h0)
  have h3:=ih2 rc ns.tail q (j+1) hG.2.2 (fun e=>by have:=hl e;simp only[VF.len] at this;simp;omega) (by
   cases ns with
   |nil=>rfl
   |cons x t=>simp only[List.all_cons,Bool.and_eq_true] at hn;exact hn.2)
  have hE:szX (JT q (.cons d p r) j)=Q5p d p.len+szX (JT (q++[(j:Int)]) p 0)+szX (JT q r (j+1)):=by
   unfold szX;simp only[JT,List.map_cons,List.sum_cons,List.map_append,List.sum_append];omega
  simp only[XL,List.length_append];rw[show (Q0D d p.len (XL p (d.k==4) d.ns))=XQ d p from rfl,h2,h3,hE];cases rc with
  |false=>simp
  |true=>
   have hl':=hl rfl;simp only[VF.len] at hl';cases ns with
   |nil=>simp at hl'
   |cons x t=>
    simp only[List.all_cons,Bool.and_eq_true] at hn;simp only[if_true,List.headD_cons,List.tail_cons,VF.len,List.take_succ_cons,QdD hn.1];rw[show ZW (x::t.take r.len)=(x.length+1)+ZW (t.take r.len) by simp [ZW]];omega
theorem QiO{d:Nd}{p:VF}{m:Nat}(h:Xg (.cons d p .nil) 0 1=.inr m):(4000<(XQ d p).length↔4000<szS (Q71 [] d p)):=by
 have hG:=Q4p _ _ _ _ h;obtain⟨⟨k1,k4⟩,hnn,hbs,hns,hpp,hr⟩:=Yk hG.1;have h1:=QlP p (d.k==4) d.ns [] 0 hG.2.1 Qkj hr.2.2.1
 have h2:=QgB hG.1 h1 (fun h0=>by
  cases p with
  |nil=>rfl
  |cons _ _ _=>simp [VF.len] at h0)
 have h3:szX (Q71 [] d p)=Q5p d p.len+szX (JT [] p 0):=by simp [szX,Q71]
 have h4:=Qvs (Q71 [] d p);omega
theorem Qik:∀(F:VF) (q q':List Int) (j j':Nat),(JT q F j).length=(JT q' F j').length:=by
 intro F;induction F with
 |nil=>intro q q' j j';rfl
 |cons d p r ih1 ih2=>
  intro q q' j j';simp only[JT,List.length_cons,List.length_append];rw[ih1 (q++[(j:Int)]) (q'++[(j':Int)]) 0 0,ih2 q q' (j+1) (j'+1)]
theorem Qif{d:Nd}{p:VF}{m:Nat}(h:Xg (.cons d p .nil) 0 1=.inr m):(Q71 [] d p).length<=600:=by
 have h3:=QhZ _ _ _ _ [] 0 h;have h4:=(Q1k _ _ _ _ h).2 Q3;simp only[JT,List.length_cons,List.length_append,List.length_nil] at h3;rw[Qik p _ [] 0 0] at h3;simp only[Q71,List.length_cons];omega
def Q9T(l:List Itm):Int×Int:=match VK l 0 with|some f=>f|none=>if 4000<szS l then (14,-1) else (0,0)
theorem QnF(d:Nd)(p:VF):XJ d p=Q9T ((Jn 601 ([],d,p)).take 601):=by
 have ht:=Qin (Jn 601 ([],d,p)) 601 0 Q3 Q3;obtain⟨h1,h2⟩:=Qj1 601 Q3 d p;unfold Q9T;rw[ht];cases hc:Xg (.cons d p .nil) 0 1 with
 |inl f=>rw[h1 f hc,Q7j hc]
 |inr m=>
  obtain⟨a,b⟩:=h2 m hc;rw[a];have hl:=Qif hc;rw[b,List.take_of_length_le Q3];simp only;have hs:=QiO hc;by_cases hbig:4000<(XQ d p).length
  ·rw[Qby hc hbig,if_pos (hs.1 hbig)]
  ·rw[QgI hc hbig,if_neg (fun h=>hbig (hs.2 h))]
section
variable {A:Option Addr}{B base c e n s:Nat}{b d f sb sn sp v:Value}{g:Itm}{o:Option Nat}{w w' w0:World}{xs:List Value}
theorem Yb(h:Below w.heap.size w w'):w.grownBy w' none:=⟨h.os,h.tape,h.output,h.size,fun k hk _=>h.block k hk⟩
theorem Q0W{w1 w2:World}(h:w.grownBy w1 none)(k:w1.grownBy w2 o):w.grownBy w2 o:=
 ⟨k.os.trans h.os,k.tape.trans h.tape,k.output.trans h.output,Nat.le_trans h.size k.size,fun i hi hne=>(k.block i (Nat.lt_of_lt_of_le hi h.size) hne).trans (h.block i hi Qn)⟩
theorem Qt7(h:w.ownsRow base e s v n xs)(hg:w.grownBy w' o)(hne:∀k,v.ownBlock=some k->o≠some k):w'.ownsRow base e s v n xs:=by
 refine⟨h.1,?_⟩;rcases h.2 with hn|⟨k,cap,cur,hv,hk,hh,r⟩
 ·exact .inl hn
 ·refine .inr ⟨k,cap,cur,hv,hk,?_,r⟩
  rw[hg.block k (Array.getElem?_eq_some_iff.1 hh).1 (fun e=>hne k (by rw[hv];rfl) e.symm)];exact hh
theorem QhH{k:Nat}(h:w.ownsRow base e s v n xs)(hk:v.ownBlock=some k):∃cur,w.heap[k]? =some (.cells cur e (0,0)):=by
 rcases h.2 with ⟨hv,_⟩|⟨g,cap,cur,hv,_,hh,_⟩
 ·rw[hv] at hk;cases hk
 ·rw[hv] at hk;cases hk;exact⟨cur,hh⟩
def Jg(w:World)(e:TypeId)(o:Option Nat):Prop:=∀k cur,o=some k->w.heap[k]?≠some (.cells cur e (0,0))
theorem Jg.own{e':Nat}(h:w.ownsRow base e' s v n xs)(hne:e≠e'):Jg w e v.ownBlock:=by
 intro k cur hk hh;obtain⟨cur',h'⟩:=QhH h hk;rw[hh] at h';injection h' with h';injection h' with _ h';exact hne h'
theorem Jg.none(w:World)(e:TypeId):Jg w e none:=by intro k cur hk;cases hk
theorem ZZ(h:w.ownsRow base e s v n xs)(hg:w.grownBy w' o)(hn:Jg w e o):w'.ownsRow base e s v n xs:=
 Qt7 h hg fun k hk ho=>by obtain⟨cur,hh⟩:=QhH h hk;exact hn k cur ho hh
theorem YG.gr{l:List (List Int)}(h:YG w B A c l)(hg:w.grownBy w' o)(h1:Jg w 3 o)(h2:Jg w 48 o):YG w' B A c l:=by
 obtain⟨vs,a,b,d⟩:=h;refine⟨vs,ZZ a hg h2,b,fun j x hj=>?_⟩;obtain⟨A',c',e,ho⟩:=d j x hj;exact⟨A',c',e,ZZ ho hg h1⟩
theorem YG.push{W w9:World}{L:List (List Int)}{A' Ax:Option Addr}{c' cx nx:Nat}{vs:List Value}{xp:List Int}
  (hrow:W.ownsRow B 48 1 (.slice A L.length c) L.length vs) (hvl:vs.length=L.length) (hels:∀(j:Nat) (b:List Int),L[j]? =some b->∃A' c',vs[j]? =some (.slice A' b.length c')/\W.ownsRow B 3 1 (.slice A' b.length c') b.length (iv b))
  (hx:W.ownsRow B 3 1 (.slice Ax nx cx) nx (iv xp)) (hnx:xp.length=nx) (hg9:W.grownBy w9 (Value.slice A L.length c).ownBlock) (hown9:w9.ownsRow B 48 1 (.slice A' (L.length+1) c') (L.length+1) (vs++[.slice Ax nx cx])):YG w9 B A' c' (L++[xp]):=by
 subst hnx;have hn:=Jg.own (e:=3) hrow Q1;refine⟨vs++[.slice Ax xp.length cx],by rw[List.length_append];exact hown9,by simp [hvl],fun j b hj=>?_⟩;rcases Nat.lt_or_ge j L.length with hlt|hge
 ·rw[List.getElem?_append_left hlt] at hj
  obtain⟨A2,c2,hv,ho⟩:=hels j b hj;exact⟨A2,c2,by rw[List.getElem?_append_left Q3];exact hv,ZZ ho hg9 hn⟩
 ·rw[List.getElem?_append_right hge] at hj
  obtain rfl:j=L.length:=by
   rcases Nat.eq_zero_or_pos (j - L.length) with h0|h0
   ·omega
   ·rw[List.getElem?_eq_none (by simp;omega)] at hj;cases hj
  simp at hj;subst hj;exact⟨Ax,cx,by rw[List.getElem?_append_right Q3,hvl];simp,ZZ hx hg9 hn⟩
def StC(w0 w:World)(B:Nat):List Itm->List Value->Prop
 |[],cs=>cs=[]
 |g::r,cs=>∃sb sn sp A c cs',cs=.int .i64 g.2.1.k::.int .i64 g.2.1.n::sb::sn::sp::.slice A g.1.length c::cs'/\Hd w0 w0.heap.size g.2.1 g.2.2.len (FIn w0 w0.heap.size g.2.2) sb sn sp/\w.ownsRow B 3 1 (.slice A g.1.length c) g.1.length (iv g.1)/\StC w0 w B r cs'
theorem StC.gr(hg:w.grownBy w' o)(hn:Jg w 3 o):∀(l:List Itm) (cs:List Value),StC w0 w B l cs->StC w0 w' B l cs:=by
 intro l;induction l with
 |nil=>intro cs h;exact h
 |cons g r ih=>
  rintro cs ⟨sb,sn,sp,A,c,cs',e,h1,h2,h3⟩;exact⟨sb,sn,sp,A,c,cs',e,h1,ZZ h2 hg hn,ih cs' h3⟩
theorem StC.snoc(h1:Hd w0 w0.heap.size g.2.1 g.2.2.len (FIn w0 w0.heap.size g.2.2) sb sn sp)(h2:w.ownsRow B 3 1 (.slice A g.1.length c) g.1.length (iv g.1)):
  ∀(l:List Itm) (cs:List Value),StC w0 w B l cs->StC w0 w B (l++[g]) (cs++[.int .i64 g.2.1.k,.int .i64 g.2.1.n,sb,sn,sp,.slice A g.1.length c]):=by
 intro l;induction l with
 |nil=>intro cs e;cases e;exact⟨sb,sn,sp,A,c,[],rfl,h1,h2,rfl⟩
 |cons g' r ih=>
  rintro cs ⟨sb',sn',sp',A',c',cs',rfl,h1',h2',h3⟩;exact⟨sb',sn',sp',A',c',_,rfl,h1',h2',ih cs' h3⟩
theorem StC.last:∀(l:List Itm) (cs:List Value),StC w0 w B (l++[g]) cs->∃cs1 sb sn sp A c,cs=cs1++[.int .i64 g.2.1.k,.int .i64 g.2.1.n,sb,sn,sp,.slice A g.1.length c]/\cs1.length=l.length*6/\StC w0 w B l cs1/\
  Hd w0 w0.heap.size g.2.1 g.2.2.len (FIn w0 w0.heap.size g.2.2) sb sn sp/\w.ownsRow B 3 1 (.slice A g.1.length c) g.1.length (iv g.1):=by
 intro l;induction l with
 |nil=>
  rintro cs ⟨sb,sn,sp,A,c,cs',rfl,h1,h2,h3⟩;have e:cs'=[]:=h3;subst e;exact⟨[],sb,sn,sp,A,c,rfl,rfl,rfl,h1,h2⟩
 |cons g' r ih=>
  rintro cs ⟨sb',sn',sp',A',c',cs',rfl,h1',h2',h3⟩;obtain⟨cs1,sb,sn,sp,A,c,rfl,hl,hs,h1,h2⟩:=ih cs' h3;exact⟨.int .i64 g'.2.1.k::.int .i64 g'.2.1.n::sb'::sn'::sp'::.slice A' g'.1.length c'::cs1,sb,sn,sp,A,c,rfl,by simp only[List.length_cons];omega,⟨sb',sn',sp',A',c',cs1,rfl,h1',h2',hs⟩,h1,h2⟩
def Q4t(w0:World):List Itm->List Value->Prop
 |[],cs=>cs=[]
 |g::r,cs=>∃sb sn sp cs',cs=.int .i64 g.2.1.k::.int .i64 g.2.1.n::sb::sn::sp::cs'/\Hd w0 w0.heap.size g.2.1 g.2.2.len (FIn w0 w0.heap.size g.2.2) sb sn sp/\Q4t w0 r cs'
theorem Q4t.snoc(h1:Hd w0 w0.heap.size g.2.1 g.2.2.len (FIn w0 w0.heap.size g.2.2) sb sn sp):∀(l:List Itm) (cs:List Value),Q4t w0 l cs->Q4t w0 (l++[g]) (cs++[.int .i64 g.2.1.k,.int .i64 g.2.1.n,sb,sn,sp]):=by
 intro l;induction l with
 |nil=>intro cs e;cases e;exact⟨sb,sn,sp,[],rfl,h1,rfl⟩
 |cons g' r ih=>
  rintro cs ⟨sb',sn',sp',cs',rfl,h1',h3⟩;exact⟨sb',sn',sp',_,rfl,h1',ih cs' h3⟩
theorem Q4t.at_:∀(l:List Itm) (cs:List Value) (i:Nat) (g:Itm),Q4t w0 l cs->l[i]? =some g->∃sb sn sp,(∀j u,[Value.int .i64 g.2.1.k,.int .i64 g.2.1.n,sb,sn,sp][j]? =some u->cs[i*5+j]? =some u)/\Hd w0 w0.heap.size g.2.1 g.2.2.len (FIn w0 w0.heap.size g.2.2) sb sn sp:=by
 intro l;induction l with
 |nil=>intro cs i g _ h;simp at h
 |cons g' r ih=>
  rintro cs i g ⟨sb',sn',sp',cs',rfl,h1',h3⟩ h;cases i with
  |zero=>
   simp at h;subst h;refine⟨sb',sn',sp',fun j u hu=>?_,h1'⟩;match j with
   |0=>simpa using hu
   |1=>simpa using hu
   |2=>simpa using hu
   |3=>simpa using hu
   |4=>simpa using hu
   |j+5=>simp at hu
  |succ i=>
   simp at h;obtain⟨sb,sn,sp,hc,hd⟩:=ih cs' i g h3 h;refine⟨sb,sn,sp,fun j u hu=>?_,hd⟩;have:=hc j u hu;rw[show (i+1)*5+j=(i*5+j)+5 by omega];simpa using this
def Nx(w:World)(g:Nat)(a b c d e f:Value):Prop:=w.heap[g]? =some (.cells #[a,b,c,d,e,f] 122 (0,0))
theorem Nx.new(w:World)(a b c d e f:Value):Nx (w.alloc (.cells #[a,b,c,d,e,f] 122)) w.heap.size a b c d e f:=heap_alloc_new w _
theorem Nx.lt{g:Nat}{a c e:Value}(h:Nx w g a b c d e f):g<w.heap.size:=(Array.getElem?_eq_some_iff.1 h).1
theorem Nx.gr{g:Nat}{a c e:Value}(h:Nx w g a b c d e f)(hg:w.grownBy w' o)(hne:o≠some g):Nx w' g a b c d e f:=(hg.block g h.lt (fun e=>hne e.symm)).trans h
theorem Nx.cells{g:Nat}{a c e:Value}(h:Nx w g a b c d e f):w.cell? ⟨g,0,none⟩=some a/\w.cell? ⟨g,1,none⟩=some b/\w.cell? ⟨g,2,none⟩=some c/\w.cell? ⟨g,3,none⟩=some d/\w.cell? ⟨g,4,none⟩=some e/\w.cell? ⟨g,5,none⟩=some f:=by
 refine⟨?_,?_,?_,?_,?_,?_⟩<;>(rw[cell_of_row w g _ _ _ _ h];rfl)
theorem slN:SlT Tryz.prog 123 122 6 112:=SlT.mk' Tryz.underlying123 (z:=.agg #[.int .i64 0,.int .i64 0,.slice none 0 0,.slice none 0 0,.slice none 0 0,.slice none 0 0]) Q5 rfl Q1 Q1
theorem Q4U{P:Program}(w:World){ops:Array Oper}{rest:List Oper}{o:Oper}{a:Act}{Q:Exit->Act->World->Prop}{t e:TypeId}{size bytes:Nat}(hT:SlT P t e size bytes)(hgd:o.guard=none)(s x:Operand)
  (ho:o.op=.call { callee:=.builtin .append,args:=#[s,x],argTypes:=#[t,t] })
  (base:Nat) (A:Option Addr) (n c:Nat) (xs:List Value) (hs:a.eval s=.slice A n c) (hown:w.ownsRow base e size (.slice A n c) n xs)
  (gx:Nat) (news:List Value) (hx:a.eval x=.slice (some ⟨gx,0,none⟩) 1 1) (hl:news.length=size) (hnews:∀j u,news[j]? =some u->w.cell? ⟨gx,0+j,none⟩=some u) (h1:∀u∈news,u.oneCell'=true)
  (hbytes:(n+1)*bytes<=140737488355328) (hbase:base<=w.heap.size)
  (h:∀g cap w',w'.ownsRow base e size (.slice (some ⟨g,0,none⟩) (n+1) cap) (n+1) (xs++news)->w.grownBy w' (Value.slice A n c).ownBlock->((Value.slice A n c).ownBlock=some g\/g=w.heap.size)->wpList P ops Q rest (a.put o.dst (.slice (some ⟨g,0,none⟩) (n+1) cap)) w'):wpList P ops Q (o::rest) a w:=by
 obtain⟨i,z,hi,hz,hsz,hby,hzs⟩:=hT.info;have h63:n+1<=maxLen:=by
  exact QkJ
 refine wpList_append_lies w hgd s x t ho base e i z size bytes hT.und hi hz hsz hby hzs hT.pos _ n xs hs hown ⟨gx,0,none⟩ 1 1 news hx (by rw[hl,Nat.one_mul]) (fun j u hu=>?_) h1 Q3 h63 hbytes hbase _ rfl fun g cap w' h2 h3 h4 _=>h g cap w' h2 h3 h4;have e:(⟨gx,0,none⟩:Addr).add j=⟨gx,0+j,none⟩:=by unfold Addr.add;split<;>simp_all
 rw[e];exact hnews j u hu
theorem Qla(w:World)(cs:List Value)(T:TypeId):∀j u,cs[j]? =some u->(w.alloc (.cells cs.toArray T)).cell? ⟨w.heap.size,0+j,none⟩=some u:=fun j u hu=>by
 rw[cell_of_row _ w.heap.size (0+j) _ T (0,0) (heap_alloc_new w _),Nat.zero_add];simpa using hu
theorem Qi8(b o:Nat)(c s:Nat):ZY (some ⟨b,o,none⟩) c 0 s=some ⟨b,o,none⟩:=by
 unfold ZY;split
 ·rfl
 ·simp [Addr.add]
theorem QpF{m:Nat}{ys:List Value}(h:w.ownsRow base e s (.slice A n c) n (xs++ys))(hm:m<=n)(hl:xs.length=m*s)(hn:0<n):w.ownsRow base e s (.slice A m c) m xs:=by
 refine⟨hl,?_⟩;rcases h.2 with ⟨_,h0⟩|⟨g,cap,cur,hv,hg,hh,h1,h2,h3,h4⟩
 ·omega
 ·injection hv with hv1 hv2 hv3
  subst hv3;refine .inr ⟨g,c,cur,by rw[hv1],hg,hh,by omega,h2,h3,?_⟩;have h5:(cur.toList.take (n*s)).take (m*s)=xs:=by
   rw[h4,List.take_append_of_le_length Q3,List.take_of_length_le Q3]
  rwa [List.take_take,Nat.min_eq_left (Nat.mul_le_mul_right _ hm)] at h5
end
end Go.Proofs.YtphkhfdmlcnoeaaGreatDoor
