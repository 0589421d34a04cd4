import Derived.Test.YtphkhfdmlcnoeaaGreatDoorP23
import Derived.Deep.AppendLies
namespace Go.Proofs.YtphkhfdmlcnoeaaGreatDoor
set_option linter.unusedVariables false
set_option linter.unusedSimpArgs false
set_option maxRecDepth 1000000
set_option maxHeartbeats 32000000
open Go.RowKit
section
variable {O:List Qb}{w:World}
section
variable {F:List Rl}
theorem Qog{l:List Bool}(h:∀j,j<l.length->l.getD j false=true):¬0<=Q47 l:=by
 unfold Q47;rw[Xl (fun j hj=>by simpa using h j hj)];decide
theorem QcU{k:Nat}(hk:k<F.length)(hp:(Zg F).getD k false=false)(hj:∀j,j<k->(Zg F).getD j false=true):Kh F=(24,(k:Int)):=by
 unfold Kh;rw[Jk hk (by simp only[hp];rfl) (fun j hjk=>by simp only[hj j hjk];rfl)]
theorem V7{p:Int×Int}(h:Xa F=p)(hp:p≠(0,0)):QF F=p:=by
 unfold QF;rw[h,if_pos hp]
theorem Qfo(h:Xa F=(0,0))(hl:2000<(YA F).length):QF F=(14,-1):=by
 unfold QF;rw[if_neg (fun hn=>hn h),if_pos hl]
theorem QoK(h:Xa F=(0,0))(hl:¬2000<(YA F).length):QF F=(0,0):=by
 unfold QF;rw[if_neg (fun hn=>hn h),if_neg hl]
theorem QiR{n:Nat}{r:Rl}(h:ROk n r):r.kind≠1->r.bs=[]:=fun hk=>by
 have hfm:=(Jj.1 h.formed).1;rcases hfm with h1|h1
 ·exact QgO
 ·exact absurd h1 hk
theorem Qj8(hF:FOk F){n:Nat}(hn:F.length=n):KH F n=YA F:=by
 unfold KH YA;rw[List.take_of_length_le Q3];congr 1;refine List.map_congr_left fun r hr=>?_;obtain⟨i,hi,e⟩:=List.mem_iff_getElem.1 hr;exact Qei (QiR (hF i r (by rw[List.getElem?_eq_getElem hi,e])))
theorem Q2Q{a b:Int}(h:a≠0):((a,b):Int×Int)≠(0,0):=fun e=>h (congrArg Prod.fst e)
end
def Qum(F:List Rl)(b k:Nat):Qb:=.row (some ⟨b,0,none⟩) 256 256 4 1 (QJ ((V4 F).getD k Xu))
def Q4h(F:List Rl):List Nat->List Qb
 |[]=>[]
 |b::t=>Qum F b t.length::Q4h F t
def KF:List Nat->List Value
 |[]=>[]
 |b::t=>KF t++[.slice (some ⟨b,0,none⟩) 256 256]
theorem Q0U:∀l:List Nat,(KF l).length=l.length
 |[]=>rfl
 |b::t=>by rw[KF,List.length_append,Q0U t];rfl
theorem Qd0(F:List Rl):∀(l:List Nat) (j:Nat),j<l.length->∃b,(KF l)[j]? =some (.slice (some ⟨b,0,none⟩) 256 256)/\Qum F b j∈Q4h F l
 |[],j,h=>absurd h (Nat.not_lt_zero _)
 |b::t,j,h=>by
  rcases (show j<t.length\/j=t.length by simp only[List.length_cons] at h;omega) with h1|rfl
  ·obtain⟨g,hg,hm⟩:=Qd0 F t j h1;exact⟨g,by rw[KF,List.getElem?_append_left (by rw[Q0U];exact h1)];exact hg,List.mem_cons_of_mem _ hm⟩
  ·exact⟨b,by rw[KF,List.getElem?_append_right (by rw[Q0U];exact Nat.le_refl _),Q0U,Nat.sub_self];rfl,List.mem_cons_self ..⟩
theorem Wd.mem_on{M:List Nat}{W:World}(h:Wd M W O w){a:Qb}(ha:a∈O):a.on w:=by
 obtain⟨i,hi⟩:=List.getElem?_of_mem ha;exact h.own i a hi
theorem Qps{F:List Rl}{W:World}{A:Option Addr}{c n:Nat}{e:TypeId}{bs:List Nat}(hl:bs.length=n)(hF:F.length=n)(h:Wd [] W (.row A n c e 1 (KF bs)::O) w)(hO:∀a∈Q4h F bs,a∈O):Qqv w A n (KF bs) (V4 F):=by
 refine⟨by rw[Q68];exact hF,Rd.of_own (h.own 0 _ rfl),fun j hj=>?_⟩;obtain⟨b,hb,hm⟩:=Qd0 F bs j Q3;have hon:(Qum F b j).on w:=h.mem_on (List.mem_cons_of_mem _ (hO _ hm));have hr:Rd w w.heap.size 1 (some ⟨b,0,none⟩) 256 (QJ ((V4 F).getD j Xu)):=Rd.of_own hon;obtain⟨b',o',e',_,hc⟩:=hr.2 Q1;cases e';exact⟨b,hb,fun q hq=>hc q _ (ZF _ hq)⟩
section
variable {A:Option Addr}{n c:Nat}{W:World}{F:List Rl}
theorem QaP(hf:QW W W.heap.size A n F)(hs:FSm F):
  Calls Tryz.prog 12 #[.agg #[.slice A n c]] W (Qcv W (QF F)):=by
 have hlen:F.length=n:=hf.1;have HFM:=Q2 hf;have HS:=Q2 hs;have HLEN:=Q2 hlen;clear hf hs hlen;go_enter Tryz.func12,Tryz.ntmps12;refine Qv (M:=[]) (W:=W) (N:=122) (E:=[(0,.agg #[.slice A n c])]) (O:=[]) ?_ Z6 (Wd.start [] W);by_cases h0:n=0
 ·subst h0;refine yq<|yr ?_;refine yB fun b1=>?_;refine yA fun b2=>?_;refine yl<|yn<|yq<|yq<|yr<|yo zF<|yo (zB 1)<|yo zL<|yo zet<|yl<|yn<|y1<|yq<|yr ?_;refine Q4 Q8K ?_;refine yW 0 ?_;refine yl<|yn<|yt<|yc ?_;exact Q8 mc4 rfl Yy (fun w hw=>Z7 (V7 (Q3p HLEN.out) Q1) hw)
 by_cases h40:40<n
 ·refine yq<|yr ?_;refine yB fun b1=>?_;refine yA fun b2=>?_;refine yl<|yn<|yq<|yq<|yr<|yo zF<|yo (zB 1)<|yo zL<|yo zef<|yl<|yn<|y0<|ys<|yn<|yq<|yq<|yr<|yo zF<|yo (zB 1)<|yo zL<|yo zgt<|yl<|yn<|y1<|yq<|yr ?_;refine Q4 Q8K ?_;refine yW 0 ?_;refine yl<|yn<|yt<|yc ?_;exact Q8 mc4 rfl Yy (fun w hw=>Z7 (V7 (Q4w (by rw[HLEN.out];exact h40)) Q1) hw)
 have hn0:0<n:=by omega
 have hn40:n<=40:=by omega
 obtain⟨b,o,rfl⟩:=HFM.out.addr hn0;refine yq<|yr ?_;refine yB fun b1=>?_;refine yA fun b2=>?_;refine yl<|yn<|yq<|yq<|yr<|yo zF<|yo (zB 1)<|yo zL<|yo zef<|yl<|yn<|y0<|ys<|yn<|yq<|yq<|yr<|yo zF<|yo (zB 1)<|yo zL<|yo zgf<|yl<|yn<|y0<|ys<|yn<|yq<|yq<|yr<|yo zA<|yl<|yn<|yb ?_;refine QH (ι:=Nat) (fun k=>k<=n/\∀j,j<k->Zc F j=0) (fun k=>n - k) (fun k=>[(1,.pointer (some ⟨b1,0,none⟩)),(2,.pointer (some ⟨b2,0,none⟩)),(3,.int .i64 (k:Int))]) (fun _=>[.blk b2 (.cells ([.int .i64 0,.int .i64 0]:List Value).toArray 32 (0,0)),.blk b1 (.cells ([.slice (some ⟨b,o,none⟩) n c]:List Value).toArray 24 (0,0))]) 0 [0,1] Q1 Q0q J0 rfl ?_;rintro k ⟨hk,hall⟩;have HA:=Q2 hall;clear hall;by_cases hkn:k<n
 ·obtain⟨rk,Ab,cb,An,cn,Ap,cp,hrk,hrg,hlk⟩:=HFM.out.rl hkn;obtain⟨C,hC⟩:∃C,Xm rk (F.take k) n=C:=⟨_,rfl⟩;have HRK:=Q2 (show Zc F k=C by rw[Q0W hrk,HLEN.out];exact hC);have HC:=Q2 hC;have HK:=Q2 hrk;clear hrk hlk hrg hC
  by_cases hz:C=0
  ·subst hz;refine QgQ ?_;refine Q4 Qrt ?_;refine yo zA<|yl<|yn<|yq<|yr<|yo zM<|yo znf<|yl<|yn<|y0<|ys<|yn<|yr<|yo zM<|yo zP<|yo zA<|yl ?_;exact Qr (k+1) [0,1] Q1 Qgg Q3 Q59 rfl
  ·refine QgQ ?_;refine Q4 Qrt ?_;refine yo zA<|yl<|yn<|yq<|yr<|yo zM<|yo znt<|yl<|yn<|y1<|yq<|yr<|yo zM<|yo zM ?_;refine Q4 Q8K ?_;refine yW 0 ?_;refine yl<|yn<|yt<|yk<|yc<|yc<|yk<|yc ?_;exact Q8 mc4 rfl Yy (fun w hw=>Z7 (V7 ((Q4L Q4J Q4Y Q1L (by rw[HRK.out];exact hz) HA.out).trans (by rw[HRK.out])) (Q2Q hz)) hw)
 have HR:=Q2 (show ∀j,j<F.length->Zc F j=0 from fun j hj=>HA.out j Q4Q);have HF:=Q2 (QfI HR.out);clear HA;refine QnP ?_;refine QH (ι:=Nat) (fun k=>k<=n/\∀j,j<k->Jy F j=0) (fun k=>n - k) (fun k=>[(1,.pointer (some ⟨b1,0,none⟩)),(2,.pointer (some ⟨b2,0,none⟩)),(5,.int .i64 (k:Int))]) (fun _=>[.blk b2 (.cells ([.int .i64 0,.int .i64 0]:List Value).toArray 32 (0,0)),.blk b1 (.cells ([.slice (some ⟨b,o,none⟩) n c]:List Value).toArray 24 (0,0))]) 0 [0,1] Q1 Q0q J0 rfl ?_;rintro k ⟨hk,hall⟩;have HA:=Q2 hall;clear hall;by_cases hkn:k<n
 ·obtain⟨rk,Ab,cb,An,cn,Ap,cp,hrk,hrg,hlk⟩:=HFM.out.rl hkn;obtain⟨C,hC⟩:∃C,J2 F rk=C:=⟨_,rfl⟩;have HRK:=Q2 (show Jy F k=C from (Q0d hrk).trans hC);have HC:=Q2 hC;have HLK:=Q2 hlk;have HSM:=Q2 (HS.out.2 rk QcS);have HOK:=Q2 (show ROk n rk by have:=HF.out k rk hrk;rwa [HLEN.out] at this);clear hrk hlk hC
  by_cases hz:C=0
  ·subst hz;refine Qs3 ?_;refine yn<|yq<|yr<|yo zM<|yo znf<|yl<|yn<|y0<|ys<|yn<|yr<|yo zM<|yo zP<|yo zA<|yl ?_;exact Qr (k+1) [0,1] Q1 Qgg Q3 Q59 rfl
  ·refine Qs3 ?_;refine yn<|yq<|yr<|yo zM<|yo znt<|yl<|yn<|y1<|yq<|yr<|yo zM<|yo zM ?_;refine Q4 Q8K ?_;refine yW 0 ?_;refine yl<|yn<|yt<|yk<|yc<|yc<|yk<|yc ?_;exact Q8 mc4 rfl Yy (fun w hw=>Z7 (V7 ((Q7q Q4J Q4Y HR.out Q1L (by rw[HRK.out];exact hz) HA.out).trans (by rw[HRK.out])) (Q2Q hz)) hw)
 have HU:=Q2 (show ∀j,j<F.length->Jy F j=0 from fun j hj=>HA.out j Q4Q);have HUS:=Q2 (QmB ⟨HR.out,HU.out⟩);clear HA;refine QnP ?_;refine QH (ι:=Nat) (fun k=>k<=n/\∀j,j<k->Q1c F j=false) (fun k=>n - k) (fun k=>[(1,.pointer (some ⟨b1,0,none⟩)),(2,.pointer (some ⟨b2,0,none⟩)),(7,.int .i64 (k:Int))]) (fun _=>[.blk b2 (.cells ([.int .i64 0,.int .i64 0]:List Value).toArray 32 (0,0)),.blk b1 (.cells ([.slice (some ⟨b,o,none⟩) n c]:List Value).toArray 24 (0,0))]) 0 [0,1] Q1 Q0q J0 rfl ?_;rintro k ⟨hk,hall⟩;have HA:=Q2 hall;clear hall;by_cases hkn:k<n
 ·obtain⟨cy,hcy⟩:∃cy,Q1c F k=cy:=⟨_,rfl⟩
  have hcell:(XC (XD F k))[0+k]? =some (.bool cy):=by rw[Nat.zero_add,<- hcy];exact Ve (by rw[VT,HLEN.out];exact hkn)
  have HCY:=Q2 hcy;clear hcy;cases cy with
  |false=>
   refine QgQ ?_;refine Qc Qtz rfl Q1 (fun br _=>?_);refine yo zM<|yo (zi1 (hj:=hkn))<|yo (zK 0 hcell)<|yl<|yn<|y0<|ys<|yn<|yr<|yo zM<|yo zP<|yo zA<|yl ?_;exact Qr (k+1) [1,2] Q1 ⟨hkn,Ke HA.out HCY.out⟩ Q3 Q59 rfl
  |true=>
   refine QgQ ?_;refine Qc Qtz rfl Q1 (fun br _=>?_);refine yo zM<|yo (zi1 (hj:=hkn))<|yo (zK 0 hcell)<|yl<|yn<|y1<|yq<|yr<|yo zM ?_;refine Qow ?_;exact Q8 mc4 rfl Zi (fun w hw=>Z7 (V7 (Q6y Q4J Q4Y HR.out HU.out Q1L HCY.out HA.out) (Q2Q Q1)) hw)
 have HT:=Q2 (Q50 Q4J Q4Y HR.out HU.out (fun j hj=>HA.out j Q4Q));clear HA;have hll:(JZ F).length=n:=by unfold JZ;rw[Jc];exact HLEN.out
 have HLL:=Q2 hll;clear hll;refine yq<|yq<|yr<|yo zM<|yo zF<|yo (zB 1)<|yo zL<|yo zlf<|yl<|yn<|y0<|ye<|yn<|yq<|yr<|yo (zD 1) ?_;refine Qc (Xg (f:=38) (fun y:Option Addr×Nat=>.slice y.1 n y.2) (fun _=>True) (fun y=>[.row y.1 n y.2 3 1 (iv (JZ F)),.blk b2 (.cells ([.int .i64 0,.int .i64 0]:List Value).toArray 32 (0,0)),.blk b1 (.cells ([.slice (some ⟨b,o,none⟩) n c]:List Value).toArray 24 (0,0))]) rfl rfl rfl (fun w hw=>(Q7G (W:=w) KG HUS.out hn40 hn0).mono fun _ _ h=>h.wdn HLL.out hw)) rfl Q1 (fun z _=>?_);refine Q6C ?_;obtain⟨Al,cl⟩:=z;refine Q5V 0 rfl hn0 (fun bl el=>?_);obtain rfl:Al=some ⟨bl,0,none⟩:=el;refine QH (ι:=Nat) (fun k=>k<=n/\∀j,j<k->(Zg F).getD j false=true) (fun k=>n - k) (fun k=>[(1,.pointer (some ⟨b1,0,none⟩)),(2,.pointer (some ⟨b2,0,none⟩)),(9,.int .i64 (k:Int)),(8,.slice (some ⟨bl,0,none⟩) n cl)]) (fun _=>[.row (some ⟨bl,0,none⟩) n cl 3 1 (iv (JZ F)),.blk b2 (.cells ([.int .i64 0,.int .i64 0]:List Value).toArray 32 (0,0)),.blk b1 (.cells ([.slice (some ⟨b,o,none⟩) n c]:List Value).toArray 24 (0,0))]) 0 [0,1,2] Q1 Q0q mc1 rfl ?_;rintro k ⟨hk,hall⟩;have HA:=Q2 hall;clear hall;by_cases hkn:k<n
 ·have hlf:=QeX HUS.out (i:=k) Q1L
  have hcell:(iv (JZ F))[0+k]? =some (.int .i64 ((JZ F).getD k 0)):=by rw[Nat.zero_add];exact QhQ (by rw[HLL.out];exact hkn)
  obtain⟨x,hx⟩:∃x,(JZ F).getD k 0=x:=⟨_,rfl⟩;rw[hx] at hlf hcell;clear hx;by_cases hx0:x<0
  ·have HFI:=Q2 (show (Zg F).getD k false=false by rw[<- hlf];exact decide_eq_false Q3);clear hlf;refine yq<|yq<|yr<|yo zM<|yo zM<|yo zL<|yo zlt<|yl<|yn<|y1<|ys<|yn<|yq<|yb<|yq<|yr<|yo zM<|yo zM<|yo (zi1 (hj:=hkn))<|yo (zK 0 hcell)<|yo zlt<|yl<|yn<|y1<|yq<|yr<|yo zM ?_;refine Qow ?_;exact Q8 mc4 rfl Zi (fun w hw=>Z7 (V7 (HT.out.trans (QcU Q1L HFI.out HA.out)) (Q2Q Q1)) hw)
  ·have HFI:=Q2 (show (Zg F).getD k false=true by rw[<- hlf];exact decide_eq_true Q3);clear hlf;refine yq<|yq<|yr<|yo zM<|yo zM<|yo zL<|yo zlt<|yl<|yn<|y1<|ys<|yn<|yq<|yb<|yq<|yr<|yo zM<|yo zM<|yo (zi1 (hj:=hkn))<|yo (zK 0 hcell)<|yo zlf<|yl<|yn<|y0<|ys<|yn<|yr<|yo zM<|yo zP<|yo zA<|yl ?_;exact Qr (k+1) [0,1,2] Q1 ⟨hkn,Ke HA.out HFI.out⟩ Q3 (.cons rfl rfl (.cons rfl rfl (.cons rfl (by go_num) Qfv))) rfl
 have HIX:=Q2 (Qog (l:=Zg F) (fun j hj=>HA.out j (by rw[ZK,HLEN.out] at hj;omega)));clear HA;refine yq<|yq<|yr<|yo zM<|yo zM<|yo zL<|yo zlf<|yl<|yn<|y0<|ye<|yn<|yq<|yr<|yo zA<|yl<|yn<|yq<|yq<|yr<|yo zA<|yl<|yn<|yb ?_;refine QbN 66 1 ?_;refine Xe (ι:=List Nat×Option Addr×Nat) (fun y=>y.1.length<=n) (fun y=>n - y.1.length) (fun y=>[(1,.pointer (some ⟨b1,0,none⟩)),(2,.pointer (some ⟨b2,0,none⟩)),(10,.slice y.2.1 y.1.length y.2.2),(11,.int .i64 (y.1.length:Int))]) (fun y=>.row y.2.1 y.1.length y.2.2 66 1 (KF y.1)::.blk b2 (.cells ([.int .i64 0,.int .i64 0]:List Value).toArray 32 (0,0))::.blk b1 (.cells ([.slice (some ⟨b,o,none⟩) n c]:List Value).toArray 24 (0,0))::Q4h F y.1) ([],none,0) XY mc1 (fun w hw=>hw.no2) ?_;rintro⟨bs,A1,c1⟩ hi;replace hi:bs.length<=n:=hi;show sE _ _ _ _ _ [(1,.pointer (some ⟨b1,0,none⟩)),(2,.pointer (some ⟨b2,0,none⟩)),(10,.slice A1 bs.length c1),(11,.int .i64 (bs.length:Int))] (.row A1 bs.length c1 66 1 (KF bs)::.blk b2 (.cells ([.int .i64 0,.int .i64 0]:List Value).toArray 32 (0,0))::.blk b1 (.cells ([.slice (some ⟨b,o,none⟩) n c]:List Value).toArray 24 (0,0))::Q4h F bs) _;by_cases hin:bs.length<n
 ·refine yq<|yq<|yr<|yo zM<|yo zF<|yo (zB 2)<|yo zL<|yo zlt<|yl<|yn<|y1<|ys<|yn<|yq<|yb<|yr<|yo zM<|yo (zD 2)<|yo zM ?_;refine Qc (Xg _ _ _ (f:=39) rfl rfl rfl (fun w hw=>Qfs HFM.out HF.out hn40 hin hw)) rfl Q1 (fun bn _=>?_);refine Qc Y1 rfl Q1 (fun bq _=>?_);refine Qc Y5 rfl Q1 (fun z _=>?_);refine Kn ?_;refine Qu (bn::bs,z.1,z.2) hin (by show n - (bs.length+1)<n - bs.length;omega) mc2 (fun w hw=>?_);exact Wd.perm hw.tl (List.perm_append_comm_assoc [_] [_,_,_] (Q4h F bs))
 obtain rfl:n=bs.length:=by omega
 refine yq<|yq<|yr<|yo zM<|yo zF<|yo (zB 2)<|yo zL<|yo zlf<|yl<|yn<|y0<|ye<|yn<|yq<|yq<|yr<|yo zA<|yl<|yn<|yb ?_;refine Xe (ι:=Nat) (fun k=>k<=bs.length/\∀j,j<k->ZB F j=false) (fun k=>bs.length - k) (fun k=>[(1,.pointer (some ⟨b1,0,none⟩)),(2,.pointer (some ⟨b2,0,none⟩)),(10,.slice A1 bs.length c1),(12,.int .i64 (k:Int))]) (fun _=>.row A1 bs.length c1 66 1 (KF bs)::.blk b2 (.cells ([.int .i64 0,.int .i64 0]:List Value).toArray 32 (0,0))::.blk b1 (.cells ([.slice QhL bs.length c]:List Value).toArray 24 (0,0))::Q4h F bs) 0 Q0q mc1 Ju ?_;rintro k ⟨hk,hall⟩;have HA:=Q2 hall;clear hall;show sE _ _ _ _ _ [(1,.pointer (some ⟨b1,0,none⟩)),(2,.pointer (some ⟨b2,0,none⟩)),(10,.slice A1 bs.length c1),(12,.int .i64 (k:Int))] (.row A1 bs.length c1 66 1 (KF bs)::.blk b2 (.cells ([.int .i64 0,.int .i64 0]:List Value).toArray 32 (0,0))::.blk b1 (.cells ([.slice QhL bs.length c]:List Value).toArray 24 (0,0))::Q4h F bs) _;by_cases hkn:k<bs.length
 ·obtain⟨rk,Ab,cb,An,cn,Ap,cp,hrk,hrg,hlk⟩:=HFM.out.rl hkn;obtain⟨cf,hcf⟩:∃cf,Zd (V4 F) rk=cf:=⟨_,rfl⟩;have HCF:=Q2 hcf;have HRK:=Q2 (show ZB F k=cf from (Q6Z hrk).trans hcf);have HLK:=Q2 hlk;have HOK:=Q2 (show ROk bs.length rk by have:=HF.out k rk hrk;rwa [HLEN.out] at this);clear hrk hlk hcf
  cases cf with
  |false=>
   refine QtS ?_;refine yl<|yn<|y0<|ys<|yn<|yr<|yo zM<|yo zP<|yo zA<|yl ?_;refine Qu (k+1) Qgg (by show bs.length - (k+1)<bs.length - k;omega) mc2 Ju
  |true=>
   refine QtS ?_;refine yl<|yn<|y1<|yq<|yr<|yo zM ?_;refine Qow ?_;exact Q8 mc4 rfl Zi (fun w hw=>Z7 (V7 (HT.out.trans (Q3r (ZK F) HIX.out Q1L HRK.out HA.out)) (Q2Q Q1)) hw)
 have HCK:=Q2 (HT.out.trans (Q8p (ZK F) HIX.out (fun j hj=>HA.out j Q4Q)));obtain⟨T,hT⟩:∃T,YA F=T:=⟨_,rfl⟩;have HTX:=Q2 ((Qj8 HF.out HLEN.out).trans hT);have HTT:=Q2 hT;have hsz:(⟨T.toArray⟩:ByteArray).size=T.length:=VE T;clear hT;have HNM:=Q2 (show ∀r∈F,r.name.length<=1048576/\∀x∈r.names,x.length<=1048576 from fun r hr=>⟨(HS.out.2 r hr).name,(HS.out.2 r hr).each⟩);clear HA;by_cases hlong:2000<T.length
 ·refine QsZ ?_;refine yo zT<|yo zgt<|yl<|yn<|y1<|yq<|yr ?_;refine Q4 Q8K ?_;refine yW 1 ?_;refine yl<|yn<|yt<|yc ?_;exact Q8 mc4 rfl Zi (fun w hw=>Z7 (Qfo HCK.out (by rw[HTT.out];exact hlong)) hw)
 ·refine QsZ ?_;refine yo zT<|yo zgf<|yl<|yn<|y0<|ys<|yn<|yq<|yr ?_;refine Q4 mc6 ?_;refine yW 1 ?_;refine yl<|yn<|yt ?_;exact Q8 mc4 rfl Zi (fun w hw=>Z7 (QoK HCK.out (by rw[HTT.out];exact hlong)) hw)
end
end
theorem QmS{w:World}{v:Value}{d:Nd}{p:VF}(hv:VIn w w.heap.size v d p)(hb:d.bs.length<=1099511627776)(hn:d.ns.length<=1099511627776)(hp:p.len<=1099511627776)(hk:¬(d.k<1\/4<d.k))
  (hf:(d.k≠1/\d.n≠0)\/(d.k≠2/\0<d.bs.length)\/(d.k≠4/\0<d.ns.length)\/(d.k<3/\0<p.len)\/(d.k=4/\d.ns.length≠p.len)):
  Calls Tryz.prog 47 #[v] w fun e w'=>e=.returned (.int .i64 (QP d p.len))/\Below w.heap.size w w':=by
 rw[Q24 hk hf];obtain⟨sb,sn,sp,rfl,Ab,nb,cb,An,nn,cn,Ap,cp,rfl,rfl,rfl,hbc,hnc,hpc,hpm,hrb,hrn,hpp⟩:=hv;have e1:d.bs.length=nb:=by have:=hrb.len;rw[Xr] at this;exact this
 have e2:d.ns.length=nn:=by have:=hrn.len;rw[JE] at this;exact this
 obtain⟨np,e3⟩:∃np,p.len=np:=⟨_,rfl⟩;obtain⟨k,e4⟩:∃k,d.k=k:=⟨_,rfl⟩;obtain⟨n,e5⟩:∃n,d.n=n:=⟨_,rfl⟩;rw[e1,e2,e3,e4,e5] at hf;rw[e4] at hk;rw[e3,e4,e5];rw[e1] at hb;rw[e2] at hn;rw[e3] at hp;clear e1 e2 e3 e4 e5 hrb hrn hpp hbc hnc hpc hpm;have b1:(decide ((1:Int)<=k)&&decide (k<=4))=true:=by simp;omega
 go_enter Tryz.func47,Tryz.ntmps47;go_wp2_with fail
 refine(Kc b1 _).mono ?_;rintro e w' ⟨rfl,rfl⟩;have hk4:k=1\/k=2\/k=3\/k=4:=by omega
 clear b1 hk;by_cases hn0:n=0
 ·subst hn0
  rcases hk4 with rfl|rfl|rfl|rfl;all_goals simp only[ne_eq,not_true_eq_false,false_and,and_false,true_and,false_or,or_false,Int.reduceEq,not_false_eq_true,Int.reduceLT] at hf
  all_goals go_wp2_with fail
  all_goals first
   |(go_ret;exact Qdg)
   |(exfalso;omega)
 ·have hn0':(n != 0)=true:=by simpa using hn0
  rcases hk4 with rfl|rfl|rfl|rfl;all_goals simp only[ne_eq,not_true_eq_false,false_and,and_false,true_and,false_or,or_false,Int.reduceEq,not_false_eq_true,Int.reduceLT] at hf
  all_goals go_wp2_with fail
  all_goals first
   |(go_ret;exact Qdg)
   |(exfalso;omega)
section
variable {A:Option Addr}{B bytes g:Nat}{E:Prop}{K:Act->World->Prop}{P:Program}{Q:Exit->Act->World->Prop}{a b c e v x:Value}{d:Nd}{l:List (List Int)}{o:Oper}{ops:Array Oper}{p:VF}{t:TypeId}{w w':World}
def Bx(w:World)(g:Nat)(a b c d e:Value):Prop:=w.heap[g]? =some (.cells #[a,b,c,d,e] 30 (0,0))
theorem Bx.new(w:World)(a b c d e:Value):Bx (w.alloc (.cells #[a,b,c,d,e] 30)) w.heap.size a b c d e:=heap_alloc_new w _
theorem Bx.lt{d:Value}(h:Bx w g a b c d e):g<w.heap.size:=(Array.getElem?_eq_some_iff.1 h).1
theorem Bx.below{d:Value}(h:Bx w g a b c d e)(hb:Below B w w')(hg:g<B):Bx w' g a b c d e:=(hb.block g hg).trans h
theorem Bx.on{d:Value}(h:Bx w g a b c d e)(hb:Below w.heap.size w w'):Bx w' g a b c d e:=h.below hb h.lt
theorem Bx.cells{d:Value}(h:Bx w g a b c d e):w.cell? ⟨g,0,none⟩=some a/\w.cell? ⟨g,1,none⟩=some b/\w.cell? ⟨g,2,none⟩=some c/\w.cell? ⟨g,3,none⟩=some d/\w.cell? ⟨g,4,none⟩=some e:=by
 refine⟨?_,?_,?_,?_,?_⟩<;>(rw[cell_of_row w g _ _ _ _ h];rfl)
theorem Bx.free{d:Value}(h:Bx w g a b c d e)(o:Nat):w.frozen? ⟨g,o,none⟩=false:=by
 unfold World.frozen?;simp [Bx] at h;simp [h]
theorem Bx.far{h o:Nat}{d:Value}(k:Bx w g a b c d e)(hne:g≠h):Bx (w.setCell ⟨h,o,none⟩ x) g a b c d e:=by
 unfold Bx at k ⊢;rw[Below.heap_setCell _ _ _ _ (by exact hne)];exact k
theorem Rd.on{W:World}{s n:Nat}{xs:List Value}(h:Rd w w.heap.size s A n xs)(hb:Below w.heap.size w W):Rd W W.heap.size s A n xs:=(h.below hb).more hb.size
def QpW(w:World)(g:Nat)(T:TypeId):Prop:=∃cs fr,w.heap[g]? =some (.cells cs T fr)
theorem QpW.set{o:Nat}{T:TypeId}(h:QpW w g T):QpW (w.setCell ⟨g,o,none⟩ x) g T:=by
 obtain⟨cs,fr,h⟩:=h;unfold QpW;simp only[World.setCell,Array.getElem?_modify,h];simp
theorem slV:SlT Tryz.prog 28 30 5 88:=SlT.mk' Tryz.underlying28 (z:=.agg QrS) Q5 rfl Q1 Q1
theorem Q8P{a:Act}{e:TypeId}{size:Nat}(hT:SlT P t e size bytes)(hgd:o.guard=none)(s x:Operand)
  (ho:o.op=.call { callee:=.builtin .append,args:=#[s,x],argTypes:=#[t,t] })
  (base:Nat) (A:Option Addr) (n c:Nat) (xs:List Value) (hs:a.eval s=.slice A n c) (hown:w.ownsRow base e size (.slice A n c) n xs)
  (gx:Nat) (news:List Value) (hx:a.eval x=.slice (some ⟨gx,0,none⟩) 1 1) (hl:news.length=size) (hnews:∀j u,news[j]? =some u->w.cell? ⟨gx,0+j,none⟩=some u) (h1:∀u∈news,u.oneCell'=true)
  (hbytes:(n+1)*bytes<=140737488355328) (hbase:base<=w.heap.size) (H:Nat) (hH:w.heap.size=H)
  (h:∀g cap w',w'.ownsRow base e size (.slice (some ⟨g,0,none⟩) (n+1) cap) (n+1) (xs++news)->w.grownBy w' (Value.slice A n c).ownBlock->((Value.slice A n c).ownBlock=some g\/g=H)->g<w'.heap.size->K (a.put o.dst (.slice (some ⟨g,0,none⟩) (n+1) cap)) w'):
  if Region.wanted o (yielded ops a.tmps)=true then Oper.wp P o a w K Q else E:=by
 obtain⟨i,z,hi,hz,hsz,hby,hzs⟩:=hT.info;have h63:n+1<=maxLen:=by
  exact Qls
 refine step_append_lies w hgd s x t ho base e i z size bytes hT.und hi hz hsz hby hzs hT.pos _ n xs hs hown ⟨gx,0,none⟩ 1 1 news hx (by rw[hl,Nat.one_mul]) (fun j u hu=>?_) h1 Q3 h63 hbytes hbase H hH h;have e:(⟨gx,0,none⟩:Addr).add j=⟨gx,0+j,none⟩:=by unfold Addr.add;split<;>simp_all
 rw[e];exact hnews j u hu
theorem Z4.at_{F:VF}{i:Nat}{r:VF}(h:Z4 F)(hd:F.drop i=.cons d p r):XN d/\p.len<=1048576/\Z4 p:=by
 have:=Z4.drop F i h;rw[hd] at this;exact⟨this.1,this.2.1,this.2.2.1⟩
def JY:List Int->VF->Nat->List (List Int×Nd×VF)
 |_,.nil,_=>[]
 |path,.cons d p r,i=>(path++[(i:Int)],d,p)::(JY (path++[(i:Int)]) p 0++JY path r (i+1))
def Q7a(path:List Int)(d:Nd)(p:VF):List (List Int×Nd×VF):=(path,d,p)::JY path p 0
def VF.ht:VF->Nat
 |.nil=>0
 |.cons _ p r=>max (p.ht+1) r.ht
theorem Qed(w:World)(u:Value)(t:TypeId):(w.alloc (.cells #[u] t)).cell? ⟨w.heap.size,0,none⟩=some u:=by
 rw[cell_of_row _ w.heap.size _ _ t (0,0) (heap_alloc_new w _)];rfl
theorem QiQ{a:Act}{e:TypeId}(hT:SlT P t e 1 bytes)(hgd:o.guard=none)(s x:Operand)
  (ho:o.op=.call { callee:=.builtin .append,args:=#[s,x],argTypes:=#[t,t] })
  (base:Nat) (A:Option Addr) (n c:Nat) (xs:List Value) (hs:a.eval s=.slice A n c) (hown:w.ownsRow base e 1 (.slice A n c) n xs)
  (gx:Nat) (u:Value) (hx:a.eval x=.slice (some ⟨gx,0,none⟩) 1 1) (hu:w.cell? ⟨gx,0,none⟩=some u) (h1:u.oneCell'=true)
  (hbytes:(n+1)*bytes<=140737488355328) (hbase:base<=w.heap.size) {w0:World} (hb:Below B w0 w) (hB:B<=base) (hB0:B<=w0.heap.size)
  (h:∀A' cap w',w'.ownsRow base e 1 (.slice A' (n+1) cap) (n+1) (xs++[u])->Below B w0 w'->K (a.put o.dst (.slice A' (n+1) cap)) w'):
  if Region.wanted o (yielded ops a.tmps)=true then Oper.wp P o a w K Q else E:=by
 refine Q8P hT hgd s x ho base A n c xs hs hown gx [u] hx rfl (fun j v hv=>?_) Qec hbytes hbase _ rfl fun g cap w' h2 h3 h4 h5=>h _ cap w' h2 ?_
 ·cases j with
  |zero=>simp at hv;subst hv;exact hu
  |succ j=>simp at hv
 ·exact hb.grown h3 (Nat.le_trans hB0 hb.size) (fun k hk=>Nat.le_trans hB (hown.lt k hk).1)
theorem QiJ:∀(F:VF) (num lev m:Nat) (q:List Int) (j:Nat),Xd F num lev=.inr m->m=num+(JY q F j).length:=by
 intro F;induction F with
 |nil=>intro num lev m q j h;injection h with h;simp [JY,h]
 |cons d p r ih1 ih2=>
  intro num lev m q j h;by_cases h1:600<=num\/10<lev
  ·rw[Zw h1] at h;cases h
  ·by_cases h2:QP d p.len≠0
   ·rw[XS h1 h2] at h;cases h
   ·cases hp:Xd p (num+1) (lev+1) with
    |inl f=>rw[Zl h1 h2 hp] at h;cases h
    |inr k=>
     rw[ZH h1 h2 hp] at h;have a:=ih1 _ _ _ (q++[(j:Int)]) 0 hp;have b:=ih2 _ _ _ q (j+1) h;simp only[JY,List.length_cons,List.length_append];omega
theorem Q6A{np:Nat}(h:QP d np=0)(hk:d.k=4):d.ns.length=np:=by
 unfold QP at h;split at h
 ·omega
 ·split at h
  ·omega
  ·rename_i hf
   simp only[Qgt,Bool.or_eq_true,decide_eq_true_eq,not_or,not_and,Nat.not_lt] at hf;by_cases e:d.ns.length=np
   ·exact e
   ·have:=hf.2 hk;first|exact this|exact absurd e this
def Yr(w:World)(B:Nat)(A:Option Addr)(c:Nat)(l:List (List Int)):Prop:=
 ∃vs,w.ownsRow B 48 1 (.slice A l.length c) l.length vs/\vs.length=l.length/\∀(j:Nat) (b:List Int),l[j]? =some b->∃A' c',vs[j]? =some (.slice A' b.length c')/\w.ownsRow B 3 1 (.slice A' b.length c') b.length (iv b)
theorem Yr.nil(w:World)(B:Nat):Yr w B none 0 []:=⟨[],World.ownsRow_nil _ _ _ _,rfl,fun j b h=>by simp at h⟩
theorem Yr.set{o:Nat}{c:Nat}(h:Yr w B A c l)(hg:g<B):Yr (w.setCell ⟨g,o,none⟩ x) B A c l:=by
 obtain⟨vs,h1,h2,h3⟩:=h;refine⟨vs,Q5B h1 hg,h2,fun j b hj=>?_⟩;obtain⟨A',c',e,ho⟩:=h3 j b hj;exact⟨A',c',e,Q5B ho hg⟩
theorem Yr.mono{B':Nat}{c:Nat}(h:Yr w B A c l)(hg:B'<=B):Yr w B' A c l:=by
 obtain⟨vs,h1,h2,h3⟩:=h;refine⟨vs,JL h1 hg,h2,fun j b hj=>?_⟩;obtain⟨A',c',e,ho⟩:=h3 j b hj;exact⟨A',c',e,JL ho hg⟩
def One(w:World)(g:Nat)(t:TypeId)(v:Value):Prop:=w.heap[g]? =some (.cells #[v] t (0,0))
theorem One.new(w:World)(t:TypeId)(v:Value):One (w.alloc (.cells #[v] t)) w.heap.size t v:=heap_alloc_new w _
theorem One.lt(h:One w g t v):g<w.heap.size:=(Array.getElem?_eq_some_iff.1 h).1
theorem One.on(h:One w g t v)(hb:Below w.heap.size w w'):One w' g t v:=(hb.block g h.lt).trans h
theorem One.cell(h:One w g t v):w.cell? ⟨g,0,none⟩=some v:=by rw[cell_of_row w g _ _ _ _ h];rfl
theorem One.free(h:One w g t v)(o:Nat):w.frozen? ⟨g,o,none⟩=false:=by
 unfold World.frozen?;simp [One] at h;simp [h]
theorem One.set(h:One w g t v)(x:Value):One (w.setCell ⟨g,0,none⟩ x) g t x:=by
 unfold One at h ⊢;simp only[World.setCell,Array.getElem?_modify,h];simp
theorem QwO:SlT Tryz.prog 57 48 1 24:=SlT.mk' Tryz.underlying57 (z:=.slice none 0 0) Q5 rfl Q1 Q1
theorem Qvo{sb sn sp:Value}(h:Hd w w.heap.size d p.len (FIn w w.heap.size p) sb sn sp)(hb:Below w.heap.size w w'):Hd w' w'.heap.size d p.len (FIn w' w'.heap.size p) sb sn sp:=
 h.mono Q9S hb.size (FIn.keep Q9S hb.size p)
end
section
variable {i:Nat}{ns:List (List UInt8)}{x:List UInt8}
def QuW(ns:List (List UInt8))(k:Value):Prop:=∃i:Nat,k=.int .i64 (i:Int)/\i<=ns.length/\(ns.take i).all Qw=true
theorem Qit(h:(ns.take i).all Qw=true)(hx:ns[i]? =some x)(hn:Qw x=true):(ns.take (i+1)).all Qw=true:=by
 rw[List.take_add_one,hx,Option.toList_some,List.all_append,h];simp [hn]
theorem Qks(hx:ns[i]? =some x)(hn:Qw x=false):ns.all Qw=false:=by
 rw[List.all_eq_false];exact⟨x,List.mem_of_getElem? hx,by simp [hn]⟩
def QwC(ns:List (List UInt8))(W:World)(k:Value)(wr:World):Prop:=∃i nq:Nat,k=.int .i64 (i:Int)/\i<=ns.length/\(ns.take i).Nodup/\wr=W.drewN nq
def QwH(ns:List (List UInt8))(W:World)(i:Nat)(s:List UInt8)(k:Value)(wr:World):Prop:=∃j nq:Nat,k=.int .i64 (j:Int)/\j<=i/\XF (ns.take j) s=false/\wr=W.drewN nq
theorem QiV{w:World}{v:Value}{d:Nd}{p:VF}(hv:VIn w w.heap.size v d p)(hsz:∀x∈d.ns,x.length<=1099511627776)(hn:d.ns.length<=1099511627776)(hp:p.len<=1099511627776)(hk:¬(d.k<1\/4<d.k))
  (hf:¬((d.k≠1/\d.n≠0)\/(d.k≠2/\0<d.bs.length)\/(d.k≠4/\0<d.ns.length)\/(d.k<3/\0<p.len)\/(d.k=4/\d.ns.length≠p.len))):
  Calls Tryz.prog 47 #[v] w fun e w'=>e=.returned (.int .i64 (QP d p.len))/\Below w.heap.size w w':=by
 rw[Q7s hk hf];obtain⟨sb,sn,sp,rfl,Ab,nb,cb,An,nn,cn,Ap,cp,rfl,rfl,rfl,hbc,hnc,hpc,hpm,hrb,hrn,hpp⟩:=hv;have HRN:=Q2 hrn;have e1:d.bs.length=nb:=by have:=hrb.len;rw[Xr] at this;exact this
 have e2:d.ns.length=nn:=by have:=hrn.len;rw[JE] at this;exact this
 have HE2:=Q2 e2;have HSZ:=Q2 hsz;obtain⟨np,e3⟩:∃np,p.len=np:=⟨_,rfl⟩;obtain⟨k,e4⟩:∃k,d.k=k:=⟨_,rfl⟩;obtain⟨n,e5⟩:∃n,d.n=n:=⟨_,rfl⟩;rw[e1,e2,e3,e4,e5] at hf;rw[e4] at hk;rw[e3,e4,e5];rw[e2] at hn;rw[e3] at hp;clear e1 e2 e3 e4 e5 hrb hrn hpp hbc hnc hpc hpm hsz;have b1:(decide ((1:Int)<=k)&&decide (k<=4))=true:=by simp;omega
 have hk4:k=1\/k=2\/k=3\/k=4:=by omega
 go_enter Tryz.func47,Tryz.ntmps47;go_wp2_with fail
 refine(Kc b1 _).mono ?_;rintro e w' ⟨rfl,rfl⟩;clear b1 hk;obtain⟨W,hW⟩:∃W,w.alloc (.cells #[.int .i64 k,.int .i64 n,.slice Ab nb cb,.slice An nn cn,.slice Ap np cp] 30)=W:=⟨_,rfl⟩;have HBX:=Q2 (show Bx W w.heap.size (.int .i64 k) (.int .i64 n) (.slice Ab nb cb) (.slice An nn cn) (.slice Ap np cp) by rw[<- hW];exact Bx.new _ _ _ _ _ _);have HBW:=Q2 (show Below w.heap.size w W by rw[<- hW];exact JS _ _);rw[hW];clear hW;obtain⟨q0,q1,q2,q3,q4⟩:=HBX.out.cells;go_upto_region 3 with (fail)
 go_cut [50] (fun t wx=>t=.bool false/\wx=W)
 case first=>
  rcases hk4 with rfl|rfl|rfl|rfl;all_goals simp only[ne_eq,not_true_eq_false,false_and,and_false,true_and,false_or,or_false,Int.reduceEq,not_false_eq_true,Int.reduceLT,not_or,Decidable.not_not,not_and] at hf
  all_goals
   (try have a0:n=0:=by omega);(try have a1:¬(0:Int)<(nb:Int):=by omega);(try have a2:¬(0:Int)<(nn:Int):=by omega);(try have a3:¬(0:Int)<(np:Int):=by omega);(try have a4:¬0<nb:=by omega);(try have a5:¬0<nn:=by omega);(try have a6:¬0<np:=by omega);(try subst a0);clear hf;go_wp2_with fail
   go_meet
   exact⟨rfl,rfl⟩
 case rest=>
  obtain⟨rfl,rfl⟩:=hcut;go_upto_region 5 with (fail)
  go_cut [62] (fun t wx=>t=.bool false/\wx=wc)
  case first=>
   by_cases h4:k=4
   ·subst h4
    have a5:((nn:Int) != (np:Int))=false:=by rw[bne_eq_false_iff_eq];omega
    go_wp2_with fail
    go_meet
    exact⟨rfl,rfl⟩
   ·have a5:(k==4)=false:=by simpa using h4
    go_wp2_with fail
    go_meet
    exact⟨rfl,rfl⟩
  case rest=>
   obtain⟨rfl,rfl⟩:=hcut;clear hk4 hf;by_cases h600:600<np
   ·have HT:=Q2 (Q5x (ns:=d.ns) h600)
    have h600':(600:Int)<(np:Int):=by omega
    go_wp2_with fail
    go_ret;exact⟨by rw[HT.out];rfl,HBW.out⟩
   ·have h600':¬(600:Int)<(np:Int):=by omega
    have HN6:=Q2 h600;go_wp2_with fail
    go_loop [3] (QuW d.ns) (fun k=>nn - (intOf k).toNat)
    case atStart=>exact⟨0,rfl,Nat.zero_le _,rfl⟩
    case round=>
     obtain⟨i,rfl,hi,hall⟩:=hrel;rw[HE2.out] at hi;have HA:=Q2 hall;clear hall;by_cases hlt:i<nn
     ·obtain⟨b,o,s,rfl,hb,hy,hc⟩:=K0 HRN.out hlt
      have HY:=Q2 hy;have hc':=(HBW.out.cell (p:=⟨b,o+i,none⟩) hb).trans hc;have HS:=Q2 (show s.size<=9223372036854775807 by have:=HSZ.out _ (List.mem_of_getElem? hy);simp at this;omega);have hli:(i:Int)<(nn:Int):=by omega
      have h0:(0:Int)<=(i:Int):=by omega
      clear hy hc;go_wp2_with fail
      refine(Q1r s _ HS.out).mono ?_;rintro e w3 ⟨rfl,rfl⟩;cases hnm:Qw s.data.toList
      ·have HT:=Q2 (Qeq HN6.out (Qks HY.out hnm))
       clear hnm;go_wp2_with fail
       go_ret;exact⟨by rw[HT.out];rfl,HBW.out⟩
      ·have HN:=Q2 (Qit HA.out HY.out hnm)
       clear hnm;go_wp2_with fail
       go_round
       case rel=>exact⟨i+1,by go_num,by rw[HE2.out];omega,HN.out⟩
       case measure=>simp [intOf];omega
     ·have HALL:=Q2 (show d.ns.all Qw=true by have:=HA.out;rwa [List.take_of_length_le (by rw[HE2.out];omega)] at this)
      go_wp2_with fail
      clear hlt hi HA;go_loopw [4] (QwC d.ns wc) (fun k _=>nn - (intOf k).toNat)
      case atStart=>exact⟨0,0,rfl,Nat.zero_le _,by simp,rfl⟩
      case round=>
       obtain⟨i,nq,rfl,hi,hd,rfl⟩:=hrel;rw[HE2.out] at hi;have HD:=Q2 hd;clear hd;by_cases hlt:i<nn
       ·obtain⟨b,o,s,rfl,hb,hy,hc⟩:=K0 HRN.out hlt
        have HY:=Q2 hy;have hc':=(HBW.out.cell (p:=⟨b,o+i,none⟩) hb).trans hc;have HB:=Q2 hb;have hli:(i:Int)<(nn:Int):=by omega
        have h0:(0:Int)<=(i:Int):=by omega
        clear hy hc;go_wp2_with fail
        go_loopw [5] (QwH d.ns wc i s.data.toList) (fun k _=>i - (intOf k).toNat)
        case atStart=>exact⟨0,nq,rfl,Nat.zero_le _,rfl,rfl⟩
        case round=>
         obtain⟨j,mq,rfl,hj,hh,rfl⟩:=hrel;have HH:=Q2 hh;clear hh;by_cases hjl:j<i
         ·obtain⟨b2,o2,t,hA2,_,hy2,hc2⟩:=K0 HRN.out (show j<nn by omega)
          injection hA2 with hA2;injection hA2 with hA2 hA3;subst hA2 hA3;have HY2:=Q2 hy2;have hc2':=(HBW.out.cell (p:=⟨b,o+j,none⟩) HB.out).trans hc2;have hjl':(j:Int)<(i:Int):=by omega
          have hjn:(j:Int)<(nn:Int):=by omega
          have hj0:(0:Int)<=(j:Int):=by omega
          clear hy2 hc2;go_upto_region 20 with (fail)
          go_quiet (fail)
          by_cases hst:s.data.toList=t.data.toList
          ·have hd2:(s.toList==t.toList)=true:=by rw[Lib.toList_data,Lib.toList_data];simpa using hst
           have HT:=Q2 (Qf6 HN6.out HALL.out (Qi2 HY.out (QfS (i:=j) (by rw[List.getElem?_take_of_lt hjl,HY2.out,hst]))));rw[hd2];clear hst;go_wp2_with fail
           go_ret;exact Qu5
          ·have hd2:(s.toList==t.toList)=false:=by rw[Lib.toList_data,Lib.toList_data];simpa using hst
           have HM:=Q2 (Q9x HY2.out hst HH.out);rw[hd2];clear hst;go_wp2_with fail
           go_roundw
           case rel=>exact⟨j+1,_,by go_num,by omega,HM.out,rfl⟩
           case measure=>simp [intOf];omega
         ·have HM:=Q2 (QcP HY.out HD.out (show XF (d.ns.take i) s.data.toList=false by rw[show i=j by omega];exact HH.out))
          go_wp2_with fail
          go_roundw
          case rel=>exact⟨i+1,mq,by go_num,by rw[HE2.out];omega,HM.out,rfl⟩
          case measure=>simp [intOf];omega
       ·have HT:=Q2 (Qnl HN6.out HALL.out (by have:=HD.out;rwa [List.take_of_length_le (by rw[HE2.out];omega)] at this))
        go_wp2_with fail
        go_ret;exact Qu5
end
section
variable {d:Nd}{ns:List (List UInt8)}{p:VF}{v:Value}{w:World}
theorem Q7T(hv:VIn w w.heap.size v d p)(hd:XN d)(hp:p.len<=1048576):
  Calls Tryz.prog 47 #[v] w fun e w'=>e=.returned (.int .i64 (QP d p.len))/\Below w.heap.size w w':=by
 by_cases hk:d.k<1\/4<d.k
 ·rw[Q26 hk]
  obtain⟨sb,sn,sp,rfl,Ab,nb,cb,An,nn,cn,Ap,cp,rfl,rfl,rfl,hbc,hnc,hpc,hpm,hrb,hrn,hpp⟩:=hv;have b1:(decide ((1:Int)<=d.k)&&decide (d.k<=4))=false:=by
   exact Q74
  clear hrb hrn hpp hk hd;go_enter Tryz.func47,Tryz.ntmps47;go_wp2_with fail
  refine(Kc b1 _).mono ?_;rintro e w' ⟨rfl,rfl⟩;go_wp2_with fail
  exact Q1Z
 ·by_cases hf:(d.k≠1/\d.n≠0)\/(d.k≠2/\0<d.bs.length)\/(d.k≠4/\0<d.ns.length)\/(d.k<3/\0<p.len)\/(d.k=4/\d.ns.length≠p.len)
  ·exact QmS hv (by have:=hd.2.1;omega) (by have:=hd.2.2.1;omega) Q3 hk hf
  ·exact QiV hv (fun x hx=>by have:=hd.2.2.2 x hx;omega) (by have:=hd.2.2.1;omega) Q3 hk hf
def ZT(ns:List (List UInt8)):Nat:=(ns.map fun x=>x.length+1).sum
def Zz(d:Nd)(np:Nat):Nat:=
 if d.k=1 then 1+(num d.n).length else if d.k=2 then (if 4000<d.bs.length then 4001 else 1+(ZE d.bs).length) else 1+(num (np:Int)).length+ZT d.ns
theorem Qji{i:Nat}{x:List UInt8}(h:ns[i]? =some x):ZT (ns.take (i+1))=ZT (ns.take i)+(x.length+1):=by
 unfold ZT;exact QkH
theorem Q9T(h:∀x∈ns,x.length<=1048576):ZT ns<=ns.length*1048577:=by
 induction ns with
 |nil=>simp [ZT]
 |cons x r ih=>
  have h1:=ih (fun y hy=>h y Qne);have h2:=h x List.mem_cons_self;unfold ZT at*
  exact QtP
def Qwg(ns:List (List UInt8))(c:Nat)(s k:Value):Prop:=∃i:Nat,k=.int .i64 (i:Int)/\i<=ns.length/\s=.int .i64 ((c+ZT (ns.take i):Nat):Int)
theorem Q7z(hv:VIn w w.heap.size v d p)(hd:XN d)(hp:p.len<=1048576):
  Calls Tryz.prog 48 #[v] w fun e w'=>e=.returned (.int .i64 ((Zz d p.len:Nat):Int))/\Below w.heap.size w w':=by
 obtain⟨sb,sn,sp,rfl,Ab,nb,cb,An,nn,cn,Ap,cp,rfl,rfl,rfl,hbc,hnc,hpc,hpm,hrb,hrn,hpp⟩:=hv;have HRN:=Q2 hrn;have HRB:=Q2 hrb;have HD:=Q2 hd;have hbl:nb<=1048576:=by have:=hrb.len;rw[Xr] at this;have:=hd.2.1;omega
 have hbl':d.bs.length=nb:=by have:=hrb.len;rw[Xr] at this;exact this
 have hnl:d.ns.length=nn:=by have:=hrn.len;rw[JE] at this;exact this
 have HNL:=Q2 hnl;have hnn:nn<=1048576:=by have:=hd.2.2.1;omega
 obtain⟨np,hnp⟩:∃np,p.len=np:=⟨_,rfl⟩;have HNP:=Q2 hnp;rw[hnp] at hp hpc ⊢;have hkb:-9223372036854775808<=d.n/\d.n<=9223372036854775807:=⟨hd.1.2.2.1,hd.1.2.2.2⟩;have hnumn:=XG d.n hkb.1 hkb.2;have HBW:=Q2 (JS w (.cells #[.int .i64 d.k,.int .i64 d.n,.slice Ab nb cb,.slice An nn cn,.slice Ap np cp] 30));clear hrb hrn hpp hbc hnc hpc hpm hd hnl hnp;by_cases k1:d.k=1
 ·have HS:=Q2 (show Zz d np=1+(num d.n).length by unfold Zz;rw[if_pos k1])
  obtain⟨q,hq⟩:∃q,(num d.n).length=q:=⟨_,rfl⟩;rw[hq] at hnumn;rw[k1];go_enter Tryz.func48,Tryz.ntmps48;go_wp2_with fail
  refine(Q45 _ _ hkb.1 hkb.2).mono ?_;rintro e w2 ⟨A2,c2,rfl,hown2,hb2⟩;have HB2:=Q2 hb2;rw[hq];have HQ:=Q2 hq;clear hown2 hb2 hq;go_wp2_with fail
  go_ret;exact Qlb
 ·have k1':(d.k==1)=false:=by simpa using k1
  by_cases k2:d.k=2
  ·by_cases hbig:4000<nb
   ·have HS:=Q2 (show Zz d np=4001 by unfold Zz;rw[if_neg k1,if_pos k2,if_pos Q3])
    have hbig':(4000:Int)<(nb:Int):=by omega
    rw[k2] at*
    clear k1 k1';go_enter Tryz.func48,Tryz.ntmps48;go_wp2_with fail
    go_ret;exact⟨by rw[HS.out];rfl,JS _ _⟩
   ·have HS:=Q2 (show Zz d np=1+(ZE d.bs).length by unfold Zz;rw[if_neg k1,if_pos k2,if_neg Q3])
    have hcl:=YU d.bs Q3;have hbig':¬(4000:Int)<(nb:Int):=by omega
    obtain⟨q,hq⟩:∃q,(ZE d.bs).length=q:=⟨_,rfl⟩;rw[hq] at hcl;have HRB1:=Q2 (HRB.out.on HBW.out);rw[k2] at*
    clear k1 k1';go_enter Tryz.func48,Tryz.ntmps48;go_wp2_with fail
    refine(Q6g (bs:=d.bs) HRB1.out Q3).mono ?_;rintro e w2 ⟨A2,c2,rfl,hown2,hb2⟩;have HB2:=Q2 hb2;rw[hq];clear hown2 hb2;have HQ:=Q2 hq;clear hq;go_wp2_with fail
    go_ret;exact Qlb
  ·have k2':(d.k==2)=false:=by simpa using k2
   have HS:=Q2 (show Zz d np=1+(num (np:Int)).length+ZT d.ns by unfold Zz;rw[if_neg k1,if_neg k2]);have hnump:=XG (np:Int) Q3 Q3;have hns:ZT d.ns<=1048576*1048577:=by
    have h1:=Q9T HD.out.2.2.2;have h2:d.ns.length<=1048576:=HD.out.2.2.1;exact Nat.le_trans h1 Qfh
   have hnt:∀i,ZT (d.ns.take i)<=1048576*1048577:=fun i=>by
    have h1:=Q9T (ns:=d.ns.take i) (fun x hx=>HD.out.2.2.2 x (List.mem_of_mem_take hx));have h2:(d.ns.take i).length<=1048576:=by rw[List.length_take];have:=HD.out.2.2.1;omega
    exact Nat.le_trans h1 Qfh
   obtain⟨q,hq⟩:∃q,(num (np:Int)).length=q:=⟨_,rfl⟩;rw[hq] at hnump;have HQ:=Q2 hq;have HNT:=Q2 hnt;clear hnt;go_enter Tryz.func48,Tryz.ntmps48;go_wp2_with fail
   refine(Q45 _ _ Q3 Q3).mono ?_;rintro e w2 ⟨A2,c2,rfl,hown2,hb2⟩;have HB2:=Q2 (X2 HBW.out hb2);obtain⟨x0,x1,x2,x3,x4⟩:=((Bx.new w (.int .i64 d.k) (.int .i64 d.n) (.slice Ab nb cb) (.slice An nn cn) (.slice Ap np cp)).on hb2).cells;rw[hq];clear hown2 hb2 hq;go_wp2_with fail
   go_loop [3,4] (Qwg d.ns (1+q)) (fun _ k=>nn - (intOf k).toNat)
   case atStart=>exact⟨0,rfl,Nat.zero_le _,by simp [ZT]⟩
   case round=>
    obtain⟨i,rfl,hi,rfl⟩:=hrel;rw[HNL.out] at hi;have ht1:=HNT.out i;obtain⟨a,ha⟩:∃a,ZT (d.ns.take i)=a:=⟨_,rfl⟩;rw[ha] at ht1 ⊢;have HA:=Q2 ha;clear ha;by_cases hlt:i<nn
    ·obtain⟨b,o,s,rfl,hb,hy,hc⟩:=K0 HRN.out hlt
     have HY:=Q2 hy;have hc':=(HB2.out.cell (p:=⟨b,o+i,none⟩) hb).trans hc;have hss:s.size<=1048576:=by have:=HD.out.2.2.2 _ (List.mem_of_getElem? hy);simpa using this
     have hli:(i:Int)<(nn:Int):=by omega
     have h0:(0:Int)<=(i:Int):=by omega
     clear hy hc;go_wp2_with fail
     go_round
     case rel=>exact⟨i+1,by go_num,by rw[HNL.out];omega,by rw[Qji HY.out,HA.out];simp;omega⟩
     case measure=>simp [intOf];omega
    ·have HE:=Q2 (show ZT d.ns=a by have:=HA.out;rwa [List.take_of_length_le (by rw[HNL.out];omega)] at this)
     go_wp2_with fail
     go_ret;exact⟨by rw[HS.out,HQ.out,HE.out];rfl,HB2.out⟩
end
abbrev Itm:=List Int×Nd×VF
def JT(most:Nat):List Int->VF->Nat->List Itm
 |_,.nil,_=>[]
 |path,.cons d p r,i=>if most<=i then [] else ((path++[(i:Int)],d,p)::(if 10<(path++[(i:Int)]).length then [] else JT most (path++[(i:Int)]) p 0))++JT most path r (i+1)
def Jq(most:Nat)(g:Itm):List Itm:=g::(if 10<g.1.length then [] else JT most g.1 g.2.2 0)
def Q3G(most:Nat)(l:List Itm):List Itm:=l.flatMap (Jq most)
theorem Q7i{most:Nat}{path:List Int}{d:Nd}{p r:VF}{i:Nat}(h:i<most):JT most path (.cons d p r) i=Jq most (path++[(i:Int)],d,p)++JT most path r (i+1):=by
 rw[JT,if_neg Q3];rfl
theorem Qff{most:Nat}{path:List Int}{F:VF}{i:Nat}(h:most<=i):JT most path F i=[]:=by
 cases F with
 |nil=>rfl
 |cons d p r=>rw[JT,if_pos h]
theorem Q8Q(most:Nat)(g:Itm)(l:List Itm):Q3G most (g::l)=Jq most g++Q3G most l:=by simp [Q3G]
theorem QiC{most:Nat}{g:Itm}(h:10<g.1.length):Jq most g=[g]:=by unfold Jq;rw[if_pos h]
theorem Q44{most:Nat}{g:Itm}(h:¬10<g.1.length):Jq most g=g::JT most g.1 g.2.2 0:=by unfold Jq;rw[if_neg h]
def VG:List Itm->Nat->Option (Int×Int)
 |[],_=>none
 |g::l,num=>if 600<=num\/10<=g.1.length then some (2,(num:Int)) else if QP g.2.1 g.2.2.len≠0 then some (QP g.2.1 g.2.2.len,(num:Int)) else VG l (num+1)
theorem Ka{g:Itm}{l:List Itm}{num:Nat}(h:600<=num\/10<=g.1.length):VG (g::l) num=some (2,(num:Int)):=by rw[VG,if_pos h]
theorem YH{g:Itm}{l:List Itm}{num:Nat}(h:¬(600<=num\/10<=g.1.length))(h1:QP g.2.1 g.2.2.len≠0):VG (g::l) num=some (QP g.2.1 g.2.2.len,(num:Int)):=by rw[VG,if_neg h,if_pos h1]
theorem V2{g:Itm}{l:List Itm}{num:Nat}(h:¬(600<=num\/10<=g.1.length))(h1:QP g.2.1 g.2.2.len=0):VG (g::l) num=VG l (num+1):=by rw[VG,if_neg h,if_neg (by simpa using h1)]
theorem QiE:∀(l:List Itm) (k num:Nat),num<=600->601<=num+k->VG (l.take k) num=VG l num:=by
 intro l;induction l with
 |nil=>intro k num _ _;simp
 |cons g l ih=>
  intro k num h1 h2;obtain⟨k,rfl⟩:∃k',k=k'+1:=⟨k - 1,by omega⟩;rw[List.take_succ_cons];by_cases h:600<=num\/10<=g.1.length
  ·rw[Ka h,Ka h]
  ·by_cases hn:QP g.2.1 g.2.2.len≠0
   ·rw[YH h hn,YH h hn]
   ·rw[V2 h (by simpa using hn),V2 h (by simpa using hn)]
    exact ih k (num+1) Q3 Q3
theorem Qct{d:Nd}{np:Nat}(h:QP d np=0):np<=600:=by
 have:=Y0 h;omega
theorem Qno(most:Nat)(hm:600<=most):∀(F:VF) (q:List Int) (j num lev:Nat),lev=q.length+2->j+F.len<=most->
  (∀f,Xd F num lev=.inl f->∀rest,VG (JT most q F j++rest) num=some f)/\
  (∀m,Xd F num lev=.inr m->m=num+(JT most q F j).length/\JT most q F j=JY q F j/\∀rest,VG (JT most q F j++rest) num=VG rest m):=by
 intro F;induction F with
 |nil=>
  intro q j num lev hl hj;refine⟨fun f h=>by (cases h),fun m h=>?_⟩;injection h with h;subst h;exact⟨rfl,rfl,fun rest=>rfl⟩
 |cons d p r ih1 ih2=>
  intro q j num lev hl hj;simp only[VF.len] at hj;rw[Q7i Q3];have hql:(q++[(j:Int)]).length=q.length+1:=by simp
  by_cases h1:600<=num\/10<lev
  ·refine⟨fun f h rest=>?_,fun m h=>by rw[Zw h1] at h;cases h⟩
   rw[Zw h1] at h;injection h with h;subst h;unfold Jq;rw[List.cons_append,List.cons_append,Ka (by simp only[hql];omega)]
  ·have h1':¬(600<=num\/10<=(q++[(j:Int)]).length):=by rw[hql];omega
   by_cases h2:QP d p.len≠0
   ·refine⟨fun f h rest=>?_,fun m h=>by rw[XS h1 h2] at h;cases h⟩
    rw[XS h1 h2] at h;injection h with h;subst h;unfold Jq;rw[List.cons_append,List.cons_append,YH h1' h2]
   ·have h2':QP d p.len=0:=by simpa using h2
    have hp6:=Qct h2';rw[Q44 (by simp only[hql];omega)];obtain⟨a1,a2⟩:=ih1 (q++[(j:Int)]) 0 (num+1) (lev+1) (by rw[hql];omega) Q3;obtain⟨b1,b2⟩:=ih2 q (j+1) (num+1+(JT most (q++[(j:Int)]) p 0).length) lev hl Q3;refine⟨fun f h rest=>?_,fun m h=>?_⟩
    ·rw[List.append_assoc,List.cons_append,V2 h1' h2']
     cases hp:Xd p (num+1) (lev+1) with
     |inl f'=>
      rw[Zl h1 h2 hp] at h;injection h with h;subst h;exact a1 _ hp _
     |inr k=>
      rw[ZH h1 h2 hp] at h;obtain⟨c1,c2,c3⟩:=a2 k hp;rw[c3,c1];rw[c1] at h;exact b1 f h rest
    ·cases hp:Xd p (num+1) (lev+1) with
     |inl f'=>rw[Zl h1 h2 hp] at h;cases h
     |inr k=>
      rw[ZH h1 h2 hp] at h;obtain⟨c1,c2,c3⟩:=a2 k hp;rw[c1] at h;obtain⟨d1,d2,d3⟩:=b2 m h;refine⟨by simp only[List.length_append,List.length_cons];omega,?_,fun rest=>?_⟩
      ·rw[c2,d2];rfl
      ·rw[List.append_assoc,List.cons_append,V2 h1' h2',c3,c1,d3]
theorem Qjq(most:Nat)(hm:600<=most)(d:Nd)(p:VF):
  (∀f,Xd (.cons d p .nil) 0 1=.inl f->VG (Jq most ([],d,p)) 0=some f)/\(∀m,Xd (.cons d p .nil) 0 1=.inr m->VG (Jq most ([],d,p)) 0=none/\Jq most ([],d,p)=Q7a [] d p):=by
 have h1:¬(600<=0\/10<1):=by omega
 have h1':¬(600<=0\/10<=(([],d,p):Itm).1.length):=by simp
 by_cases h2:QP d p.len≠0
 ·refine⟨fun f h=>?_,fun m h=>by rw[XS h1 h2] at h;cases h⟩
  rw[XS h1 h2] at h;injection h with h;subst h;unfold Jq;rw[YH h1' h2]
 ·have h2':QP d p.len=0:=by simpa using h2
  have hp6:=Qct h2';rw[Q44 Qm];obtain⟨a1,a2⟩:=Qno most hm p [] 0 1 2 rfl Q3;refine⟨fun f h=>?_,fun m h=>?_⟩
  ·rw[V2 h1' h2']
   cases hp:Xd p 1 2 with
   |inl f'=>
    rw[Zl h1 h2 hp] at h;injection h with h;subst h;have:=a1 _ hp [];rwa [List.append_nil] at this
   |inr k=>rw[ZH h1 h2 hp] at h;cases h
  ·cases hp:Xd p 1 2 with
   |inl f'=>rw[Zl h1 h2 hp] at h;cases h
   |inr k=>
    obtain⟨c1,c2,c3⟩:=a2 k hp;have:=c3 [];rw[List.append_nil] at this;rw[V2 h1' h2'];exact⟨this,by simp only;rw[c2];rfl⟩
def Q4U(d:Nd)(np:Nat):Nat:=if d.k=1 then 1+(num d.n).length else if d.k=2 then 1+(ZE d.bs).length else 1+(num (np:Int)).length+ZT d.ns
def szS(l:List Itm):Nat:=(l.map fun g=>Zz g.2.1 g.2.2.len).sum
def szX(l:List Itm):Nat:=(l.map fun g=>Q4U g.2.1 g.2.2.len).sum
theorem QuK(d:Nd)(np:Nat):Zz d np<=Q4U d np/\(Zz d np=Q4U d np\/Zz d np=4001):=by
 unfold Zz Q4U;by_cases h1:d.k=1
 ·simp [h1]
 ·by_cases h2:d.k=2
  ·simp only[if_neg h1,if_pos h2]
   by_cases hb:4000<d.bs.length
   ·rw[if_pos hb]
    refine⟨?_,.inr rfl⟩;unfold ZE;rw[List.length_append];omega
   ·rw[if_neg hb];exact⟨Nat.le_refl _,.inl rfl⟩
  ·simp [h1,h2]
theorem QvO(l:List Itm):szS l<=szX l/\(szS l=szX l\/4000<szS l):=by
 induction l with
 |nil=>simp [szS,szX]
 |cons g l ih=>
  have h:=QuK g.2.1 g.2.2.len;simp only[szS,szX,List.map_cons,List.sum_cons] at*
  omega
theorem QnV{l:List Itm}{i:Nat}{g:Itm}(h:l[i]? =some g):szS (l.take (i+1))=szS (l.take i)+Zz g.2.1 g.2.2.len:=by
 unfold szS;exact QkH
theorem Qkw(l:List Itm)(i:Nat):szS (l.take i)<=szS l:=by
 conv=>rhs;rw[<- List.take_append_drop i l]
 unfold szS;rw[List.map_append,List.sum_append];omega
theorem QhR{n:Int}(h0:0<=n)(h:n<=63):(num n).length=1:=by
 obtain⟨k,rfl⟩:=Int.eq_ofNat_of_zero_le h0;have hk:k<=63:=by omega
 have:∀k≤63,(num ((k:Nat):Int)).length=1:=by decide
 exact this k hk
theorem Qqx{x:List UInt8}(h:Qw x=true):x.length<=32:=by
 rcases Nat.lt_or_ge 32 x.length with h'|h'
 ·rw[Q0k h'] at h;cases h
 ·exact h'
theorem Qeb{x:List UInt8}(h:Qw x=true):(ZE x).length=x.length+1:=by
 unfold ZE;have:=Qqx h;rw[List.length_append,QhR Q3 Q3];omega
theorem Qgr{d:Nd}{p:VF}(h:QP d p.len=0){B:Nat}(hb:(XI p (d.k==4) d.ns).length=(if (d.k==4)=true then ZT (d.ns.take p.len) else 0)+B)(h0:p.len=0->B=0):(XM d p).length=Q4U d p.len+B:=by
 obtain⟨⟨k1,k4⟩,hn,hbs,hns,hpp,hr⟩:=Y0 h;have hk:=QhR (n:=d.k) Q3 Q3;unfold Q4U;by_cases e1:d.k=1
 ·rw[QcB e1,if_pos e1,List.length_append,hk,h0 Q3,Nat.add_zero]
 ·by_cases e2:d.k=2
  ·rw[Q5O e2,if_neg e1,if_pos e2,List.length_append,hk,h0 Q3,Nat.add_zero]
  ·rw[Q23 e1 e2,if_neg e1,if_neg e2,List.length_append,List.length_append,hk,hb]
   by_cases e4:d.k=4
   ·have:(d.k==4)=true:=by simp [e4]
    rw[if_pos this,List.take_of_length_le (by rw[Q6A h e4];exact Nat.le_refl _)];omega
   ·have:¬(d.k==4)=true:=by simp [e4]
    rw[if_neg this];rcases hns with hns|hns
    ·exact absurd hns e4
    ·rw[hns];simp [ZT];omega
theorem QlM:∀(F:VF) (rc:Bool) (ns:List (List UInt8)) (q:List Int) (j:Nat),Yh F->(rc=true->F.len<=ns.length)->ns.all Qw=true->
  (XI F rc ns).length=(if rc=true then ZT (ns.take F.len) else 0)+szX (JY q F j):=by
 intro F;induction F with
 |nil=>intro rc ns q j _ _ _;cases rc<;>simp [XI,VF.len,ZT,JY,szX]
 |cons d p r ih1 ih2=>
  intro rc ns q j hG hl hn;obtain⟨⟨k1,k4⟩,hnn,hbs,hns,hpp,hr⟩:=Y0 hG.1;have hall:d.ns.all Qw=true:=hr.2.2.1;have h1:=ih1 (d.k==4) d.ns (q++[(j:Int)]) 0 hG.2.1 Qkk hall
  have h2:=Qgr hG.1 h1 (fun h0=>by
   cases p with
   |nil=>rfl
   |cons _ _ _=>simp [VF.len] at h0)
  have h3:=ih2 rc ns.tail q (j+1) hG.2.2 (fun e=>by have:=hl e;simp only[VF.len] at this;simp;omega) (by
   cases ns with
   |nil=>rfl
   |cons x t=>simp only[List.all_cons,Bool.and_eq_true] at hn;exact hn.2)
  have hE:szX (JY q (.cons d p r) j)=Q4U d p.len+szX (JY (q++[(j:Int)]) p 0)+szX (JY q r (j+1)):=by
   unfold szX;simp only[JY,List.map_cons,List.sum_cons,List.map_append,List.sum_append];omega
  simp only[XI,List.length_append];rw[show (Q0l d p.len (XI p (d.k==4) d.ns))=XM d p from rfl,h2,h3,hE];cases rc with
  |false=>simp
  |true=>
   have hl':=hl rfl;simp only[VF.len] at hl';cases ns with
   |nil=>simp at hl'
   |cons x t=>
    simp only[List.all_cons,Bool.and_eq_true] at hn;simp only[if_true,List.headD_cons,List.tail_cons,VF.len,List.take_succ_cons,Qeb hn.1];rw[show ZT (x::t.take r.len)=(x.length+1)+ZT (t.take r.len) by simp [ZT]];omega
theorem Qio{d:Nd}{p:VF}{m:Nat}(h:Xd (.cons d p .nil) 0 1=.inr m):(4000<(XM d p).length↔4000<szS (Q7a [] d p)):=by
 have hG:=Q3E _ _ _ _ h;obtain⟨⟨k1,k4⟩,hnn,hbs,hns,hpp,hr⟩:=Y0 hG.1;have h1:=QlM p (d.k==4) d.ns [] 0 hG.2.1 Qkk hr.2.2.1
 have h2:=Qgr hG.1 h1 (fun h0=>by
  cases p with
  |nil=>rfl
  |cons _ _ _=>simp [VF.len] at h0)
 have h3:szX (Q7a [] d p)=Q4U d p.len+szX (JY [] p 0):=by simp [szX,Q7a]
 have h4:=QvO (Q7a [] d p);omega
theorem Qjd:∀(F:VF) (q q':List Int) (j j':Nat),(JY q F j).length=(JY q' F j').length:=by
 intro F;induction F with
 |nil=>intro q q' j j';rfl
 |cons d p r ih1 ih2=>
  intro q q' j j';simp only[JY,List.length_cons,List.length_append];rw[ih1 (q++[(j:Int)]) (q'++[(j':Int)]) 0 0,ih2 q q' (j+1) (j'+1)]
theorem Qim{d:Nd}{p:VF}{m:Nat}(h:Xd (.cons d p .nil) 0 1=.inr m):(Q7a [] d p).length<=600:=by
 have h3:=QiJ _ _ _ _ [] 0 h;have h4:=(Q10 _ _ _ _ h).2 Q3;simp only[JY,List.length_cons,List.length_append,List.length_nil] at h3;rw[Qjd p _ [] 0 0] at h3;simp only[Q7a,List.length_cons];omega
def Qa3(l:List Itm):Int×Int:=match VG l 0 with|some f=>f|none=>if 4000<szS l then (14,-1) else (0,0)
theorem Qok(d:Nd)(p:VF):Z8 d p=Qa3 ((Jq 601 ([],d,p)).take 601):=by
 have ht:=QiE (Jq 601 ([],d,p)) 601 0 Q3 Q3;obtain⟨h1,h2⟩:=Qjq 601 Q3 d p;unfold Qa3;rw[ht];cases hc:Xd (.cons d p .nil) 0 1 with
 |inl f=>rw[h1 f hc,Q5W hc]
 |inr m=>
  obtain⟨a,b⟩:=h2 m hc;rw[a];have hl:=Qim hc;rw[b,List.take_of_length_le Q3];simp only;have hs:=Qio hc;by_cases hbig:4000<(XM d p).length
  ·rw[QcY hc hbig,if_pos (hs.1 hbig)]
  ·rw[Qh2 hc hbig,if_neg (fun h=>hbig (hs.2 h))]
section
variable {A:Option Addr}{B base c e n s:Nat}{b d f sb sn sp v:Value}{g:Itm}{o:Option Nat}{w w' w0:World}{xs:List Value}
theorem Y2(h:Below w.heap.size w w'):w.grownBy w' none:=⟨h.os,h.tape,h.output,h.size,fun k hk _=>h.block k hk⟩
theorem Q0M{w1 w2:World}(h:w.grownBy w1 none)(k:w1.grownBy w2 o):w.grownBy w2 o:=
 ⟨k.os.trans h.os,k.tape.trans h.tape,k.output.trans h.output,Nat.le_trans h.size k.size,fun i hi hne=>(k.block i (Nat.lt_of_lt_of_le hi h.size) hne).trans (h.block i hi Qm)⟩
theorem Qvh(h:w.ownsRow base e s v n xs)(hg:w.grownBy w' o)(hne:∀k,v.ownBlock=some k->o≠some k):w'.ownsRow base e s v n xs:=by
 refine⟨h.1,?_⟩;rcases h.2 with hn|⟨k,cap,cur,hv,hk,hh,r⟩
 ·exact .inl hn
 ·refine .inr ⟨k,cap,cur,hv,hk,?_,r⟩
  rw[hg.block k (Array.getElem?_eq_some_iff.1 hh).1 (fun e=>hne k (by rw[hv];rfl) e.symm)];exact hh
theorem Qgw{k:Nat}(h:w.ownsRow base e s v n xs)(hk:v.ownBlock=some k):∃cur,w.heap[k]? =some (.cells cur e (0,0)):=by
 rcases h.2 with ⟨hv,_⟩|⟨g,cap,cur,hv,_,hh,_⟩
 ·rw[hv] at hk;cases hk
 ·rw[hv] at hk;cases hk;exact⟨cur,hh⟩
def Ji(w:World)(e:TypeId)(o:Option Nat):Prop:=∀k cur,o=some k->w.heap[k]?≠some (.cells cur e (0,0))
theorem Ji.own{e':Nat}(h:w.ownsRow base e' s v n xs)(hne:e≠e'):Ji w e v.ownBlock:=by
 intro k cur hk hh;obtain⟨cur',h'⟩:=Qgw h hk;rw[hh] at h';injection h' with h';injection h' with _ h';exact hne h'
theorem Ji.none(w:World)(e:TypeId):Ji w e none:=by intro k cur hk;cases hk
theorem ZW(h:w.ownsRow base e s v n xs)(hg:w.grownBy w' o)(hn:Ji w e o):w'.ownsRow base e s v n xs:=
 Qvh h hg fun k hk ho=>by obtain⟨cur,hh⟩:=Qgw h hk;exact hn k cur ho hh
theorem Yr.gr{l:List (List Int)}(h:Yr w B A c l)(hg:w.grownBy w' o)(h1:Ji w 3 o)(h2:Ji w 48 o):Yr w' B A c l:=by
 obtain⟨vs,a,b,d⟩:=h;refine⟨vs,ZW a hg h2,b,fun j x hj=>?_⟩;obtain⟨A',c',e,ho⟩:=d j x hj;exact⟨A',c',e,ZW ho hg h1⟩
theorem Yr.push{W w9:World}{L:List (List Int)}{A' Ax:Option Addr}{c' cx nx:Nat}{vs:List Value}{xp:List Int}
  (hrow:W.ownsRow B 48 1 (.slice A L.length c) L.length vs) (hvl:vs.length=L.length) (hels:∀(j:Nat) (b:List Int),L[j]? =some b->∃A' c',vs[j]? =some (.slice A' b.length c')/\W.ownsRow B 3 1 (.slice A' b.length c') b.length (iv b))
  (hx:W.ownsRow B 3 1 (.slice Ax nx cx) nx (iv xp)) (hnx:xp.length=nx) (hg9:W.grownBy w9 (Value.slice A L.length c).ownBlock) (hown9:w9.ownsRow B 48 1 (.slice A' (L.length+1) c') (L.length+1) (vs++[.slice Ax nx cx])):Yr w9 B A' c' (L++[xp]):=by
 subst hnx;have hn:=Ji.own (e:=3) hrow Q1;refine⟨vs++[.slice Ax xp.length cx],by rw[List.length_append];exact hown9,by simp [hvl],fun j b hj=>?_⟩;rcases Nat.lt_or_ge j L.length with hlt|hge
 ·rw[List.getElem?_append_left hlt] at hj
  obtain⟨A2,c2,hv,ho⟩:=hels j b hj;exact⟨A2,c2,by rw[List.getElem?_append_left Q3];exact hv,ZW ho hg9 hn⟩
 ·rw[List.getElem?_append_right hge] at hj
  obtain rfl:j=L.length:=by
   rcases Nat.eq_zero_or_pos (j - L.length) with h0|h0
   ·omega
   ·rw[List.getElem?_eq_none (by simp;omega)] at hj;cases hj
  simp at hj;subst hj;exact⟨Ax,cx,by rw[List.getElem?_append_right Q3,hvl];simp,ZW hx hg9 hn⟩
def StC(w0 w:World)(B:Nat):List Itm->List Value->Prop
 |[],cs=>cs=[]
 |g::r,cs=>∃sb sn sp A c cs',cs=.int .i64 g.2.1.k::.int .i64 g.2.1.n::sb::sn::sp::.slice A g.1.length c::cs'/\Hd w0 w0.heap.size g.2.1 g.2.2.len (FIn w0 w0.heap.size g.2.2) sb sn sp/\w.ownsRow B 3 1 (.slice A g.1.length c) g.1.length (iv g.1)/\StC w0 w B r cs'
theorem StC.gr(hg:w.grownBy w' o)(hn:Ji w 3 o):∀(l:List Itm) (cs:List Value),StC w0 w B l cs->StC w0 w' B l cs:=by
 intro l;induction l with
 |nil=>intro cs h;exact h
 |cons g r ih=>
  rintro cs ⟨sb,sn,sp,A,c,cs',e,h1,h2,h3⟩;exact⟨sb,sn,sp,A,c,cs',e,h1,ZW h2 hg hn,ih cs' h3⟩
theorem StC.snoc(h1:Hd w0 w0.heap.size g.2.1 g.2.2.len (FIn w0 w0.heap.size g.2.2) sb sn sp)(h2:w.ownsRow B 3 1 (.slice A g.1.length c) g.1.length (iv g.1)):
  ∀(l:List Itm) (cs:List Value),StC w0 w B l cs->StC w0 w B (l++[g]) (cs++[.int .i64 g.2.1.k,.int .i64 g.2.1.n,sb,sn,sp,.slice A g.1.length c]):=by
 intro l;induction l with
 |nil=>intro cs e;cases e;exact⟨sb,sn,sp,A,c,[],rfl,h1,h2,rfl⟩
 |cons g' r ih=>
  rintro cs ⟨sb',sn',sp',A',c',cs',rfl,h1',h2',h3⟩;exact⟨sb',sn',sp',A',c',_,rfl,h1',h2',ih cs' h3⟩
theorem StC.last:∀(l:List Itm) (cs:List Value),StC w0 w B (l++[g]) cs->∃cs1 sb sn sp A c,cs=cs1++[.int .i64 g.2.1.k,.int .i64 g.2.1.n,sb,sn,sp,.slice A g.1.length c]/\cs1.length=l.length*6/\StC w0 w B l cs1/\
  Hd w0 w0.heap.size g.2.1 g.2.2.len (FIn w0 w0.heap.size g.2.2) sb sn sp/\w.ownsRow B 3 1 (.slice A g.1.length c) g.1.length (iv g.1):=by
 intro l;induction l with
 |nil=>
  rintro cs ⟨sb,sn,sp,A,c,cs',rfl,h1,h2,h3⟩;have e:cs'=[]:=h3;subst e;exact⟨[],sb,sn,sp,A,c,rfl,rfl,rfl,h1,h2⟩
 |cons g' r ih=>
  rintro cs ⟨sb',sn',sp',A',c',cs',rfl,h1',h2',h3⟩;obtain⟨cs1,sb,sn,sp,A,c,rfl,hl,hs,h1,h2⟩:=ih cs' h3;exact⟨.int .i64 g'.2.1.k::.int .i64 g'.2.1.n::sb'::sn'::sp'::.slice A' g'.1.length c'::cs1,sb,sn,sp,A,c,rfl,by simp only[List.length_cons];omega,⟨sb',sn',sp',A',c',cs1,rfl,h1',h2',hs⟩,h1,h2⟩
def Q3M(w0:World):List Itm->List Value->Prop
 |[],cs=>cs=[]
 |g::r,cs=>∃sb sn sp cs',cs=.int .i64 g.2.1.k::.int .i64 g.2.1.n::sb::sn::sp::cs'/\Hd w0 w0.heap.size g.2.1 g.2.2.len (FIn w0 w0.heap.size g.2.2) sb sn sp/\Q3M w0 r cs'
theorem Q3M.snoc(h1:Hd w0 w0.heap.size g.2.1 g.2.2.len (FIn w0 w0.heap.size g.2.2) sb sn sp):∀(l:List Itm) (cs:List Value),Q3M w0 l cs->Q3M w0 (l++[g]) (cs++[.int .i64 g.2.1.k,.int .i64 g.2.1.n,sb,sn,sp]):=by
 intro l;induction l with
 |nil=>intro cs e;cases e;exact⟨sb,sn,sp,[],rfl,h1,rfl⟩
 |cons g' r ih=>
  rintro cs ⟨sb',sn',sp',cs',rfl,h1',h3⟩;exact⟨sb',sn',sp',_,rfl,h1',ih cs' h3⟩
theorem Q3M.at_:∀(l:List Itm) (cs:List Value) (i:Nat) (g:Itm),Q3M w0 l cs->l[i]? =some g->∃sb sn sp,(∀j u,[Value.int .i64 g.2.1.k,.int .i64 g.2.1.n,sb,sn,sp][j]? =some u->cs[i*5+j]? =some u)/\Hd w0 w0.heap.size g.2.1 g.2.2.len (FIn w0 w0.heap.size g.2.2) sb sn sp:=by
 intro l;induction l with
 |nil=>intro cs i g _ h;simp at h
 |cons g' r ih=>
  rintro cs i g ⟨sb',sn',sp',cs',rfl,h1',h3⟩ h;cases i with
  |zero=>
   simp at h;subst h;refine⟨sb',sn',sp',fun j u hu=>?_,h1'⟩;match j with
   |0=>simpa using hu
   |1=>simpa using hu
   |2=>simpa using hu
   |3=>simpa using hu
   |4=>simpa using hu
   |j+5=>simp at hu
  |succ i=>
   simp at h;obtain⟨sb,sn,sp,hc,hd⟩:=ih cs' i g h3 h;refine⟨sb,sn,sp,fun j u hu=>?_,hd⟩;have:=hc j u hu;rw[show (i+1)*5+j=(i*5+j)+5 by omega];simpa using this
def Nx(w:World)(g:Nat)(a b c d e f:Value):Prop:=w.heap[g]? =some (.cells #[a,b,c,d,e,f] 122 (0,0))
theorem Nx.new(w:World)(a b c d e f:Value):Nx (w.alloc (.cells #[a,b,c,d,e,f] 122)) w.heap.size a b c d e f:=heap_alloc_new w _
theorem Nx.lt{g:Nat}{a c e:Value}(h:Nx w g a b c d e f):g<w.heap.size:=(Array.getElem?_eq_some_iff.1 h).1
theorem Nx.gr{g:Nat}{a c e:Value}(h:Nx w g a b c d e f)(hg:w.grownBy w' o)(hne:o≠some g):Nx w' g a b c d e f:=(hg.block g h.lt (fun e=>hne e.symm)).trans h
theorem Nx.cells{g:Nat}{a c e:Value}(h:Nx w g a b c d e f):w.cell? ⟨g,0,none⟩=some a/\w.cell? ⟨g,1,none⟩=some b/\w.cell? ⟨g,2,none⟩=some c/\w.cell? ⟨g,3,none⟩=some d/\w.cell? ⟨g,4,none⟩=some e/\w.cell? ⟨g,5,none⟩=some f:=by
 refine⟨?_,?_,?_,?_,?_,?_⟩<;>(rw[cell_of_row w g _ _ _ _ h];rfl)
theorem slN:SlT Tryz.prog 123 122 6 112:=SlT.mk' Tryz.underlying123 (z:=.agg #[.int .i64 0,.int .i64 0,.slice none 0 0,.slice none 0 0,.slice none 0 0,.slice none 0 0]) Q5 rfl Q1 Q1
theorem Q4v{P:Program}(w:World){ops:Array Oper}{rest:List Oper}{o:Oper}{a:Act}{Q:Exit->Act->World->Prop}{t e:TypeId}{size bytes:Nat}(hT:SlT P t e size bytes)(hgd:o.guard=none)(s x:Operand)
  (ho:o.op=.call { callee:=.builtin .append,args:=#[s,x],argTypes:=#[t,t] })
  (base:Nat) (A:Option Addr) (n c:Nat) (xs:List Value) (hs:a.eval s=.slice A n c) (hown:w.ownsRow base e size (.slice A n c) n xs)
  (gx:Nat) (news:List Value) (hx:a.eval x=.slice (some ⟨gx,0,none⟩) 1 1) (hl:news.length=size) (hnews:∀j u,news[j]? =some u->w.cell? ⟨gx,0+j,none⟩=some u) (h1:∀u∈news,u.oneCell'=true)
  (hbytes:(n+1)*bytes<=140737488355328) (hbase:base<=w.heap.size)
  (h:∀g cap w',w'.ownsRow base e size (.slice (some ⟨g,0,none⟩) (n+1) cap) (n+1) (xs++news)->w.grownBy w' (Value.slice A n c).ownBlock->((Value.slice A n c).ownBlock=some g\/g=w.heap.size)->wpList P ops Q rest (a.put o.dst (.slice (some ⟨g,0,none⟩) (n+1) cap)) w'):wpList P ops Q (o::rest) a w:=by
 obtain⟨i,z,hi,hz,hsz,hby,hzs⟩:=hT.info;have h63:n+1<=maxLen:=by
  exact Qls
 refine wpList_append_lies w hgd s x t ho base e i z size bytes hT.und hi hz hsz hby hzs hT.pos _ n xs hs hown ⟨gx,0,none⟩ 1 1 news hx (by rw[hl,Nat.one_mul]) (fun j u hu=>?_) h1 Q3 h63 hbytes hbase _ rfl fun g cap w' h2 h3 h4 _=>h g cap w' h2 h3 h4;have e:(⟨gx,0,none⟩:Addr).add j=⟨gx,0+j,none⟩:=by unfold Addr.add;split<;>simp_all
 rw[e];exact hnews j u hu
theorem Qo4(w:World)(cs:List Value)(T:TypeId):∀j u,cs[j]? =some u->(w.alloc (.cells cs.toArray T)).cell? ⟨w.heap.size,0+j,none⟩=some u:=fun j u hu=>by
 rw[cell_of_row _ w.heap.size (0+j) _ T (0,0) (heap_alloc_new w _),Nat.zero_add];simpa using hu
theorem Qjh(b o:Nat)(c s:Nat):JQ (some ⟨b,o,none⟩) c 0 s=some ⟨b,o,none⟩:=by
 unfold JQ;split
 ·rfl
 ·simp [Addr.add]
theorem QpN{m:Nat}{ys:List Value}(h:w.ownsRow base e s (.slice A n c) n (xs++ys))(hm:m<=n)(hl:xs.length=m*s)(hn:0<n):w.ownsRow base e s (.slice A m c) m xs:=by
 refine⟨hl,?_⟩;rcases h.2 with ⟨_,h0⟩|⟨g,cap,cur,hv,hg,hh,h1,h2,h3,h4⟩
 ·omega
 ·injection hv with hv1 hv2 hv3
  subst hv3;refine .inr ⟨g,c,cur,by rw[hv1],hg,hh,by omega,h2,h3,?_⟩;have h5:(cur.toList.take (n*s)).take (m*s)=xs:=by
   rw[h4,List.take_append_of_le_length Q3,List.take_of_length_le Q3]
  rwa [List.take_take,Nat.min_eq_left (Nat.mul_le_mul_right _ hm)] at h5
end
end Go.Proofs.YtphkhfdmlcnoeaaGreatDoor
