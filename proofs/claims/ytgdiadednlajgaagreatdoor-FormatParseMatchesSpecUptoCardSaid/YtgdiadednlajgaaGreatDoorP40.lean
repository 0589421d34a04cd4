import Derived.Test.YtgdiadednlajgaaGreatDoorP23
import Derived.Test.YtgdiadednlajgaaGreatDoorP39
namespace Go.Proofs.YtgdiadednlajgaaGreatDoor
set_option linter.unusedVariables false
set_option linter.unusedSimpArgs false
open Go.RowKit
section
variable {F:List Rl}
theorem QaF{l:List Bool}(h:∀j,j<l.length→l.getD j false=true):¬0≤Q1G l:=by
 unfold Q1G
 rw[Xy (fun j hj=>by simpa using h j hj)]
 decide
theorem Q7b{k:Nat}(hk:k<F.length)(hp:(ZC F).getD k false=false)(hj:∀j,j<k→(ZC F).getD j false=true):YY F=(24,(k:Int)):=by
 unfold YY
 rw[JL hk (by simp only[hp];rfl) (fun j hjk=>by simp only[hj j hjk];rfl)]
theorem Ve{p:Int×Int}(h:Xb F=p)(hp:p≠(0,0)):QO F=p:=by
 unfold QO
 rw[h,if_pos hp]
theorem Q8K(h:Xb F=(0,0))(hl:2000<(J1 F).length):QO F=(14,-1):=by
 unfold QO
 rw[if_neg (fun hn=>hn h),if_pos hl]
theorem QcA(h:Xb F=(0,0))(hl:¬2000<(J1 F).length):QO F=(0,0):=by
 unfold QO
 rw[if_neg (fun hn=>hn h),if_neg hl]
theorem Qak{n:Nat}{r:Rl}(h:ROk n r):r.kind≠1→r.bs=[]:=fun hk=>by
 have hfm:=(JK.1 h.formed).1
 rcases hfm with h1|h1
 ·exact List.eq_nil_of_length_eq_zero (by omega)
 ·exact absurd h1 hk
theorem Q53(hF:FOk F){n:Nat}(hn:F.length=n):Kq F n=J1 F:=by
 unfold Kq J1
 rw[List.take_of_length_le (by omega)]
 congr 1
 refine List.map_congr_left fun r hr=>?_
 obtain⟨i,hi,e⟩:=List.mem_iff_getElem.1 hr;exact Q8h (Qak (hF i r (by rw[List.getElem?_eq_getElem hi,e])))
theorem Yg{a b:Int}(h:a≠0):((a,b):Int×Int)≠(0,0):=fun e=>h (congrArg Prod.fst e)
end
def QdT(F:List Rl)(b k:Nat):Qg:=.row (some ⟨b,0,none⟩) 256 256 4 1 (X2 ((JS F).getD k Z2))
def Q2i(F:List Rl):List Nat→List Qg
 |[]=>[]
 |b::t=>QdT F b t.length::Q2i F t
def Kt:List Nat→List Value
 |[]=>[]
 |b::t=>Kt t++[.slice (some ⟨b,0,none⟩) 256 256]
theorem KX:∀l:List Nat,(Kt l).length=l.length
 |[]=>rfl
 |b::t=>by rw[Kt,List.length_append,KX t];rfl
theorem Q6b(F:List Rl):∀(l:List Nat) (j:Nat),j<l.length→∃b,(Kt l)[j]? =some (.slice (some ⟨b,0,none⟩) 256 256)∧QdT F b j∈Q2i F l
 |[],j,h=>absurd h (Nat.not_lt_zero _)
 |b::t,j,h=>by
  rcases (show j<t.length∨j=t.length by simp only[List.length_cons] at h;omega) with h1|rfl
  ·obtain⟨g,hg,hm⟩:=Q6b F t j h1;exact⟨g,by rw[Kt,List.getElem?_append_left (by rw[KX];exact h1)];exact hg,List.mem_cons_of_mem _ hm⟩
  ·exact⟨b,by rw[Kt,List.getElem?_append_right (by rw[KX];exact Nat.le_refl _),KX,Nat.sub_self];rfl,List.mem_cons_self ..⟩
theorem Wd.mem_on{M:List Nat}{W w:World}{O:List Qg}(h:Wd M W O w){a:Qg}(ha:a∈O):a.on w:=by
 obtain⟨i,hi⟩:=List.getElem?_of_mem ha;exact h.own i a hi
theorem Q9j{F:List Rl}{W w:World}{O:List Qg}{A:Option Addr}{c n:Nat}{e:TypeId}{bs:List Nat}(hl:bs.length=n)(hF:F.length=n)(h:Wd [] W (.row A n c e 1 (Kt bs)::O) w)(hO:∀a∈Q2i F bs,a∈O):QcT w A n (Kt bs) (JS F):=by
 refine⟨by rw[Q19];exact hF,Rd.of_own (h.own 0 _ rfl),fun j hj=>?_⟩;obtain⟨b,hb,hm⟩:=Q6b F bs j (by omega);have hon:(QdT F b j).on w:=h.mem_on (List.mem_cons_of_mem _ (hO _ hm));have hr:Rd w w.heap.size 1 (some ⟨b,0,none⟩) 256 (X2 ((JS F).getD j Z2)):=Rd.of_own hon;obtain⟨b',o',e',_,hc⟩:=hr.2 (by decide)
 cases e'
 exact⟨b,hb,fun q hq=>hc q _ (ZN _ hq)⟩
section
variable {A:Option Addr}{n c:Nat}{W:World}{F:List Rl}
set_option maxRecDepth 100000 in
set_option maxHeartbeats 64000000 in
theorem ZB(hf:Xq W W.heap.size A n F)(hs:FSm F):
  Calls Tryz.prog 11 #[.agg #[.slice A n c]] W (Q7v W (QO F)):=by
 have hlen:F.length=n:=hf.1;have HFM:=Lib.hid hf;have HS:=Lib.hid hs;have HLEN:=Lib.hid hlen;clear hf hs hlen
 go_enter Tryz.func11,Tryz.ntmps11
 refine QE (M:=[]) (W:=W) (N:=122) (E:=[(0,.agg #[.slice A n c])]) (O:=[]) ?_ (Ag.cons (Ag.nil rfl rfl) rfl) (Wd.start [] W)
 by_cases h0:n=0
 ·subst h0;refine yq<|yr ?_;refine yB fun b1=>?_;refine yA fun b2=>?_;refine yl<|yn<|yq<|yq<|yr<|yo zF<|yo (zB 1)<|yo zL<|yo zet<|yl<|yn<|y1<|yq<|yr ?_;refine Q1 (Q4 (f:=15) rfl rfl (by decide) rfl rfl (fun w hw=>Js _ _ w)) ?_;refine yW 0 ?_;refine yl<|yn<|yt<|yc ?_;exact Q9 (by exact .inr rfl) rfl (RsV.blk 0 rfl rfl rfl) (fun w hw=>ZY (Ve (Q12 HLEN.out) (by decide)) hw)
 by_cases h40:40<n
 ·refine yq<|yr ?_;refine yB fun b1=>?_;refine yA fun b2=>?_;refine yl<|yn<|yq<|yq<|yr<|yo zF<|yo (zB 1)<|yo zL<|yo zef<|yl<|yn<|y0<|ys<|yn<|yq<|yq<|yr<|yo zF<|yo (zB 1)<|yo zL<|yo zgt<|yl<|yn<|y1<|yq<|yr ?_;refine Q1 (Q4 (f:=15) rfl rfl (by decide) rfl rfl (fun w hw=>Js _ _ w)) ?_;refine yW 0 ?_;refine yl<|yn<|yt<|yc ?_;exact Q9 (by exact .inr rfl) rfl (RsV.blk 0 rfl rfl rfl) (fun w hw=>ZY (Ve (Q2f (by rw[HLEN.out];exact h40)) (by decide)) hw)
 have hn0:0<n:=by omega
 have hn40:n≤40:=by omega
 obtain⟨b,o,rfl⟩:=HFM.out.addr hn0;refine yq<|yr ?_;refine yB fun b1=>?_;refine yA fun b2=>?_;refine yl<|yn<|yq<|yq<|yr<|yo zF<|yo (zB 1)<|yo zL<|yo zef<|yl<|yn<|y0<|ys<|yn<|yq<|yq<|yr<|yo zF<|yo (zB 1)<|yo zL<|yo zgf<|yl<|yn<|y0<|ys<|yn<|yq<|yq<|yr<|yo zA<|yl<|yn<|yb ?_;refine X0 (ι:=Nat) (fun k=>k≤n∧∀j,j<k→Zt F j=0) (fun k=>n - k) (fun k=>[(1,.pointer (some ⟨b1,0,none⟩)),(2,.pointer (some ⟨b2,0,none⟩)),(3,.int .i64 (k:Int))]) (fun _=>[.blk b2 (.cells ([.int .i64 0,.int .i64 0]:List Value).toArray 27 (0,0)),.blk b1 (.cells ([.slice (some ⟨b,o,none⟩) n c]:List Value).toArray 24 (0,0))]) 0 [0,1] (by decide) ⟨Nat.zero_le _,fun j hj=>absurd hj (Nat.not_lt_zero _)⟩ (.cons rfl rfl (.cons rfl rfl (.cons rfl rfl .nil))) rfl ?_
 rintro k ⟨hk,hall⟩
 have HA:=Lib.hid hall;clear hall
 by_cases hkn:k<n
 ·obtain⟨rk,Ab,cb,An,cn,Ap,cp,hrk,hrg,hlk⟩:=HFM.out.rl hkn;obtain⟨C,hC⟩:∃C,X5 rk (F.take k) n=C:=⟨_,rfl⟩;have HRK:=Lib.hid (show Zt F k=C by rw[VT hrk,HLEN.out];exact hC);have HC:=Lib.hid hC;have HK:=Lib.hid hrk;clear hrk hlk hrg hC
  by_cases hz:C=0
  ·subst hz;refine yq<|yq<|yr<|yo zM<|yo zF<|yo (zB 1)<|yo zL<|yo zlt<|yl<|yn<|y1<|ys<|yn<|yq<|yb<|yq<|yr<|yo (zD 1)<|yo zM ?_;refine Q1 (Q4 (f:=26) rfl rfl (by decide) rfl rfl (fun w hw=>(Q2c (HFM.out.on hw.k.below) HS.out hkn HK.out).mono (fun _ _ h=>by rw[HC.out] at h;exact h))) ?_;refine yo zA<|yl<|yn<|yq<|yr<|yo zM<|yo znf<|yl<|yn<|y0<|ys<|yn<|yr<|yo zM<|yo zP<|yo zA<|yl ?_;exact QA (k+1) [0,1] (by decide) ⟨hkn,V0 HA.out HRK.out⟩ (by omega) (.cons rfl rfl (.cons rfl rfl (.cons rfl (by go_num) .nil))) rfl
  ·refine yq<|yq<|yr<|yo zM<|yo zF<|yo (zB 1)<|yo zL<|yo zlt<|yl<|yn<|y1<|ys<|yn<|yq<|yb<|yq<|yr<|yo (zD 1)<|yo zM ?_;refine Q1 (Q4 (f:=26) rfl rfl (by decide) rfl rfl (fun w hw=>(Q2c (HFM.out.on hw.k.below) HS.out hkn HK.out).mono (fun _ _ h=>by rw[HC.out] at h;exact h))) ?_;refine yo zA<|yl<|yn<|yq<|yr<|yo zM<|yo znt<|yl<|yn<|y1<|yq<|yr<|yo zM<|yo zM ?_;refine Q1 (Q4 (f:=15) rfl rfl (by decide) rfl rfl (fun w hw=>Js _ _ w)) ?_;refine yW 0 ?_;refine yl<|yn<|yt<|yk<|yc<|yc<|yk<|yc ?_;exact Q9 (by exact .inr rfl) rfl (RsV.blk 0 rfl rfl rfl) (fun w hw=>ZY (Ve ((Q2t (by rw[HLEN.out];exact hn0) (by rw[HLEN.out];exact hn40) (by rw[HLEN.out];exact hkn) (by rw[HRK.out];exact hz) HA.out).trans (by rw[HRK.out])) (Yg hz)) hw)
 have HR:=Lib.hid (show ∀j,j<F.length→Zt F j=0 from fun j hj=>HA.out j (by rw[HLEN.out] at hj;omega));have HF:=Lib.hid (Q82 HR.out);clear HA;refine yq<|yq<|yr<|yo zM<|yo zF<|yo (zB 1)<|yo zL<|yo zlf<|yl<|yn<|y0<|ye<|yn<|yq<|yq<|yr<|yo zA<|yl<|yn<|yb ?_;refine X0 (ι:=Nat) (fun k=>k≤n∧∀j,j<k→JM F j=0) (fun k=>n - k) (fun k=>[(1,.pointer (some ⟨b1,0,none⟩)),(2,.pointer (some ⟨b2,0,none⟩)),(5,.int .i64 (k:Int))]) (fun _=>[.blk b2 (.cells ([.int .i64 0,.int .i64 0]:List Value).toArray 27 (0,0)),.blk b1 (.cells ([.slice (some ⟨b,o,none⟩) n c]:List Value).toArray 24 (0,0))]) 0 [0,1] (by decide) ⟨Nat.zero_le _,fun j hj=>absurd hj (Nat.not_lt_zero _)⟩ (.cons rfl rfl (.cons rfl rfl (.cons rfl rfl .nil))) rfl ?_
 rintro k ⟨hk,hall⟩
 have HA:=Lib.hid hall;clear hall
 by_cases hkn:k<n
 ·obtain⟨rk,Ab,cb,An,cn,Ap,cp,hrk,hrg,hlk⟩:=HFM.out.rl hkn;obtain⟨C,hC⟩:∃C,Jv F rk=C:=⟨_,rfl⟩;have HRK:=Lib.hid (show JM F k=C from (YP hrk).trans hC);have HC:=Lib.hid hC;have HLK:=Lib.hid hlk;have HSM:=Lib.hid (HS.out.2 rk (List.mem_of_getElem? hrk));have HOK:=Lib.hid (show ROk n rk by have:=HF.out k rk hrk;rwa [HLEN.out] at this);clear hrk hlk hC
  by_cases hz:C=0
  ·subst hz;refine yq<|yq<|yr<|yo zM<|yo zF<|yo (zB 1)<|yo zL<|yo zlt<|yl<|yn<|y1<|ys<|yn<|yq<|yb<|yq<|Xm (by kernel_rfl) (by kernel_rfl) ?_;refine Qd (zD 1) ?_;refine Qd zF ?_;refine Qd (zB 1) ?_;refine Qd zM ?_;refine Qd (zi (hj:=hkn)) ?_;refine Qd zE ?_;refine Qd (Q4 (f:=27) rfl rfl (by decide) rfl rfl (fun w hw=>(Q0T (HFM.out.on hw.k.below) (HLK.out.on hw.k.below) HOK.out HSM.out).mono (fun _ _ h=>by rw[HC.out] at h;exact h))) ?_;refine Qd zA ?_;refine XS ?_;refine yn<|yq<|yr<|yo zM<|yo znf<|yl<|yn<|y0<|ys<|yn<|yr<|yo zM<|yo zP<|yo zA<|yl ?_;exact QA (k+1) [0,1] (by decide) ⟨hkn,V0 HA.out HRK.out⟩ (by omega) (.cons rfl rfl (.cons rfl rfl (.cons rfl (by go_num) .nil))) rfl
  ·refine yq<|yq<|yr<|yo zM<|yo zF<|yo (zB 1)<|yo zL<|yo zlt<|yl<|yn<|y1<|ys<|yn<|yq<|yb<|yq<|Xm (by kernel_rfl) (by kernel_rfl) ?_;refine Qd (zD 1) ?_;refine Qd zF ?_;refine Qd (zB 1) ?_;refine Qd zM ?_;refine Qd (zi (hj:=hkn)) ?_;refine Qd zE ?_;refine Qd (Q4 (f:=27) rfl rfl (by decide) rfl rfl (fun w hw=>(Q0T (HFM.out.on hw.k.below) (HLK.out.on hw.k.below) HOK.out HSM.out).mono (fun _ _ h=>by rw[HC.out] at h;exact h))) ?_;refine Qd zA ?_;refine XS ?_;refine yn<|yq<|yr<|yo zM<|yo znt<|yl<|yn<|y1<|yq<|yr<|yo zM<|yo zM ?_;refine Q1 (Q4 (f:=15) rfl rfl (by decide) rfl rfl (fun w hw=>Js _ _ w)) ?_;refine yW 0 ?_;refine yl<|yn<|yt<|yk<|yc<|yc<|yk<|yc ?_;exact Q9 (by exact .inr rfl) rfl (RsV.blk 0 rfl rfl rfl) (fun w hw=>ZY (Ve ((Q3b (by rw[HLEN.out];exact hn0) (by rw[HLEN.out];exact hn40) HR.out (by rw[HLEN.out];exact hkn) (by rw[HRK.out];exact hz) HA.out).trans (by rw[HRK.out])) (Yg hz)) hw)
 have HU:=Lib.hid (show ∀j,j<F.length→JM F j=0 from fun j hj=>HA.out j (by rw[HLEN.out] at hj;omega));have HUS:=Lib.hid (Q8P ⟨HR.out,HU.out⟩);clear HA;refine yq<|yq<|yr<|yo zM<|yo zF<|yo (zB 1)<|yo zL<|yo zlf<|yl<|yn<|y0<|ye<|yn<|yq<|yq<|yr<|yo zA<|yl<|yn<|yb ?_;refine X0 (ι:=Nat) (fun k=>k≤n∧∀j,j<k→Km F j=false) (fun k=>n - k) (fun k=>[(1,.pointer (some ⟨b1,0,none⟩)),(2,.pointer (some ⟨b2,0,none⟩)),(7,.int .i64 (k:Int))]) (fun _=>[.blk b2 (.cells ([.int .i64 0,.int .i64 0]:List Value).toArray 27 (0,0)),.blk b1 (.cells ([.slice (some ⟨b,o,none⟩) n c]:List Value).toArray 24 (0,0))]) 0 [0,1] (by decide) ⟨Nat.zero_le _,fun j hj=>absurd hj (Nat.not_lt_zero _)⟩ (.cons rfl rfl (.cons rfl rfl (.cons rfl rfl .nil))) rfl ?_
 rintro k ⟨hk,hall⟩
 have HA:=Lib.hid hall;clear hall
 by_cases hkn:k<n
 ·obtain⟨cy,hcy⟩:∃cy,Km F k=cy:=⟨_,rfl⟩
  have hcell:(XR (Zb F k))[0+k]? =some (.bool cy):=by rw[Nat.zero_add,← hcy];exact Vu (by rw[VW,HLEN.out];exact hkn)
  have HCY:=Lib.hid hcy;clear hcy
  cases cy with
  |false=>
   refine yq<|yq<|yr<|yo zM<|yo zF<|yo (zB 1)<|yo zL<|yo zlt<|yl<|yn<|y1<|ys<|yn<|yq<|yb<|yq<|yr<|yo (zD 1)<|yo zM ?_;refine Qa (Qx _ _ _ (f:=28) rfl rfl rfl (fun w hw=>Kd HFM.out HF.out hn40 hkn hw)) rfl (by decide) (fun br _=>?_);refine yo zM<|yo (zi1 (hj:=hkn))<|yo (zK 0 hcell)<|yl<|yn<|y0<|ys<|yn<|yr<|yo zM<|yo zP<|yo zA<|yl ?_;exact QA (k+1) [1,2] (by decide) ⟨hkn,V0 HA.out HCY.out⟩ (by omega) (.cons rfl rfl (.cons rfl rfl (.cons rfl (by go_num) .nil))) rfl
  |true=>
   refine yq<|yq<|yr<|yo zM<|yo zF<|yo (zB 1)<|yo zL<|yo zlt<|yl<|yn<|y1<|ys<|yn<|yq<|yb<|yq<|yr<|yo (zD 1)<|yo zM ?_;refine Qa (Qx _ _ _ (f:=28) rfl rfl rfl (fun w hw=>Kd HFM.out HF.out hn40 hkn hw)) rfl (by decide) (fun br _=>?_);refine yo zM<|yo (zi1 (hj:=hkn))<|yo (zK 0 hcell)<|yl<|yn<|y1<|yq<|yr<|yo zM ?_;refine Q1 (Q4 (f:=15) rfl rfl (by decide) rfl rfl (fun w hw=>Js _ _ w)) ?_;refine yW 1 ?_;refine yl<|yn<|yt<|yk<|yc<|yc<|yk<|yc ?_;exact Q9 (by exact .inr rfl) rfl (RsV.blk 1 rfl rfl rfl) (fun w hw=>ZY (Ve (Q45 (by rw[HLEN.out];exact hn0) (by rw[HLEN.out];exact hn40) HR.out HU.out (by rw[HLEN.out];exact hkn) HCY.out HA.out) (Yg (by decide))) hw)
 have HT:=Lib.hid (Q2d (by rw[HLEN.out];exact hn0) (by rw[HLEN.out];exact hn40) HR.out HU.out (fun j hj=>HA.out j (by rw[HLEN.out] at hj;omega)));clear HA
 have hll:(XG F).length=n:=by unfold XG;rw[XO];exact HLEN.out
 have HLL:=Lib.hid hll;clear hll;refine yq<|yq<|yr<|yo zM<|yo zF<|yo (zB 1)<|yo zL<|yo zlf<|yl<|yn<|y0<|ye<|yn<|yq<|yr<|yo (zD 1) ?_;refine Qa (Qx (f:=18) (fun y:Option Addr×Nat=>.slice y.1 n y.2) (fun _=>True) (fun y=>[.row y.1 n y.2 3 1 (iv (XG F)),.blk b2 (.cells ([.int .i64 0,.int .i64 0]:List Value).toArray 27 (0,0)),.blk b1 (.cells ([.slice (some ⟨b,o,none⟩) n c]:List Value).toArray 24 (0,0))]) rfl rfl rfl (fun w hw=>(Q0r (W:=w) (HFM.out.on hw.k.below) HUS.out hn40 hn0).mono fun _ _ h=>h.wdn HLL.out hw)) rfl (by decide) (fun z _=>?_);refine yo zA<|yl<|yn<|yq<|yq<|yr<|yo zA<|yl<|yn<|yb ?_;obtain⟨Al,cl⟩:=z;refine V9 0 rfl hn0 (fun bl el=>?_);obtain rfl:Al=some ⟨bl,0,none⟩:=el;refine X0 (ι:=Nat) (fun k=>k≤n∧∀j,j<k→(ZC F).getD j false=true) (fun k=>n - k) (fun k=>[(1,.pointer (some ⟨b1,0,none⟩)),(2,.pointer (some ⟨b2,0,none⟩)),(9,.int .i64 (k:Int)),(8,.slice (some ⟨bl,0,none⟩) n cl)]) (fun _=>[.row (some ⟨bl,0,none⟩) n cl 3 1 (iv (XG F)),.blk b2 (.cells ([.int .i64 0,.int .i64 0]:List Value).toArray 27 (0,0)),.blk b1 (.cells ([.slice (some ⟨b,o,none⟩) n c]:List Value).toArray 24 (0,0))]) 0 [0,1,2] (by decide) ⟨Nat.zero_le _,fun j hj=>absurd hj (Nat.not_lt_zero _)⟩ (.cons rfl rfl (.cons rfl rfl (.cons rfl rfl (.cons rfl rfl .nil)))) rfl ?_
 rintro k ⟨hk,hall⟩
 have HA:=Lib.hid hall;clear hall
 by_cases hkn:k<n
 ·have hlf:=Q8T HUS.out (i:=k) (by rw[HLEN.out];exact hkn)
  have hcell:(iv (XG F))[0+k]? =some (.int .i64 ((XG F).getD k 0)):=by rw[Nat.zero_add];exact Q5u (by rw[HLL.out];exact hkn)
  obtain⟨x,hx⟩:∃x,(XG F).getD k 0=x:=⟨_,rfl⟩;rw[hx] at hlf hcell;clear hx
  by_cases hx0:x<0
  ·have HFI:=Lib.hid (show (ZC F).getD k false=false by rw[← hlf];exact decide_eq_false (by omega));clear hlf;refine yq<|yq<|yr<|yo zM<|yo zM<|yo zL<|yo zlt<|yl<|yn<|y1<|ys<|yn<|yq<|yb<|yq<|yr<|yo zM<|yo zM<|yo (zi1 (hj:=hkn))<|yo (zK 0 hcell)<|yo zlt<|yl<|yn<|y1<|yq<|yr<|yo zM ?_;refine Q1 (Q4 (f:=15) rfl rfl (by decide) rfl rfl (fun w hw=>Js _ _ w)) ?_;refine yW 1 ?_;refine yl<|yn<|yt<|yk<|yc<|yc<|yk<|yc ?_;exact Q9 (by exact .inr rfl) rfl (RsV.blk 1 rfl rfl rfl) (fun w hw=>ZY (Ve (HT.out.trans (Q7b (by rw[HLEN.out];exact hkn) HFI.out HA.out)) (Yg (by decide))) hw)
  ·have HFI:=Lib.hid (show (ZC F).getD k false=true by rw[← hlf];exact decide_eq_true (by omega));clear hlf;refine yq<|yq<|yr<|yo zM<|yo zM<|yo zL<|yo zlt<|yl<|yn<|y1<|ys<|yn<|yq<|yb<|yq<|yr<|yo zM<|yo zM<|yo (zi1 (hj:=hkn))<|yo (zK 0 hcell)<|yo zlf<|yl<|yn<|y0<|ys<|yn<|yr<|yo zM<|yo zP<|yo zA<|yl ?_;exact QA (k+1) [0,1,2] (by decide) ⟨hkn,V0 HA.out HFI.out⟩ (by omega) (.cons rfl rfl (.cons rfl rfl (.cons rfl (by go_num) (.cons rfl rfl .nil)))) rfl
 have HIX:=Lib.hid (QaF (l:=ZC F) (fun j hj=>HA.out j (by rw[Jc,HLEN.out] at hj;omega)));clear HA;refine yq<|yq<|yr<|yo zM<|yo zM<|yo zL<|yo zlf<|yl<|yn<|y0<|ye<|yn<|yq<|yr<|yo zA<|yl<|yn<|yq<|yq<|yr<|yo zA<|yl<|yn<|yb ?_;refine JI 57 1 ?_;refine ZF (ι:=List Nat×Option Addr×Nat) (fun y=>y.1.length≤n) (fun y=>n - y.1.length) (fun y=>[(1,.pointer (some ⟨b1,0,none⟩)),(2,.pointer (some ⟨b2,0,none⟩)),(10,.slice y.2.1 y.1.length y.2.2),(11,.int .i64 (y.1.length:Int))]) (fun y=>.row y.2.1 y.1.length y.2.2 57 1 (Kt y.1)::.blk b2 (.cells ([.int .i64 0,.int .i64 0]:List Value).toArray 27 (0,0))::.blk b1 (.cells ([.slice (some ⟨b,o,none⟩) n c]:List Value).toArray 24 (0,0))::Q2i F y.1) ([],none,0) (Nat.zero_le _) (.cons rfl rfl (.cons rfl rfl (.cons rfl rfl (.cons rfl rfl .nil)))) (fun w hw=>hw.no2) ?_
 rintro⟨bs,A1,c1⟩ hi
 replace hi:bs.length≤n:=hi
 show sE _ _ _ _ _ [(1,.pointer (some ⟨b1,0,none⟩)),(2,.pointer (some ⟨b2,0,none⟩)),(10,.slice A1 bs.length c1),(11,.int .i64 (bs.length:Int))] (.row A1 bs.length c1 57 1 (Kt bs)::.blk b2 (.cells ([.int .i64 0,.int .i64 0]:List Value).toArray 27 (0,0))::.blk b1 (.cells ([.slice (some ⟨b,o,none⟩) n c]:List Value).toArray 24 (0,0))::Q2i F bs) _
 by_cases hin:bs.length<n
 ·refine yq<|yq<|yr<|yo zM<|yo zF<|yo (zB 2)<|yo zL<|yo zlt<|yl<|yn<|y1<|ys<|yn<|yq<|yb<|yr<|yo zM<|yo (zD 2)<|yo zM ?_;refine Qa (Qx _ _ _ (f:=29) rfl rfl rfl (fun w hw=>Q7V HFM.out HF.out hn40 hin hw)) rfl (by decide) (fun bn _=>?_);refine Qa (Qz (size:=1) rfl rfl rfl rfl rfl (by decide)) rfl (by decide) (fun bq _=>?_);refine Qa (QC 2 rfl rfl rfl rfl rfl (fun w hw=>hw.rd_blk 0 rfl rfl) (by simp [Value.oneCell']) (by omega)) rfl (by decide) (fun z _=>?_);refine yo zA<|yl<|yn<|yr<|yo zM<|yo zP<|yo zA<|yl ?_;refine QH (bn::bs,z.1,z.2) hin (by show n - (bs.length+1)<n - bs.length;omega) (.cons rfl rfl (.cons rfl rfl (.cons rfl rfl (.cons rfl (by go_num) .nil)))) (fun w hw=>?_);exact Wd.swapL (L:=[_]) (P:=[_,_,_]) (O:=Q2i F bs) hw.tl
 obtain rfl:n=bs.length:=by omega
 refine yq<|yq<|yr<|yo zM<|yo zF<|yo (zB 2)<|yo zL<|yo zlf<|yl<|yn<|y0<|ye<|yn<|yq<|yq<|yr<|yo zA<|yl<|yn<|yb ?_;refine ZF (ι:=Nat) (fun k=>k≤bs.length∧∀j,j<k→ZM F j=false) (fun k=>bs.length - k) (fun k=>[(1,.pointer (some ⟨b1,0,none⟩)),(2,.pointer (some ⟨b2,0,none⟩)),(10,.slice A1 bs.length c1),(12,.int .i64 (k:Int))]) (fun _=>.row A1 bs.length c1 57 1 (Kt bs)::.blk b2 (.cells ([.int .i64 0,.int .i64 0]:List Value).toArray 27 (0,0))::.blk b1 (.cells ([.slice (some ⟨b,o,none⟩) bs.length c]:List Value).toArray 24 (0,0))::Q2i F bs) 0 ⟨Nat.zero_le _,fun j hj=>absurd hj (Nat.not_lt_zero _)⟩ (.cons rfl rfl (.cons rfl rfl (.cons rfl rfl (.cons rfl rfl .nil)))) (fun w hw=>hw) ?_
 rintro k ⟨hk,hall⟩
 have HA:=Lib.hid hall;clear hall
 show sE _ _ _ _ _ [(1,.pointer (some ⟨b1,0,none⟩)),(2,.pointer (some ⟨b2,0,none⟩)),(10,.slice A1 bs.length c1),(12,.int .i64 (k:Int))] (.row A1 bs.length c1 57 1 (Kt bs)::.blk b2 (.cells ([.int .i64 0,.int .i64 0]:List Value).toArray 27 (0,0))::.blk b1 (.cells ([.slice (some ⟨b,o,none⟩) bs.length c]:List Value).toArray 24 (0,0))::Q2i F bs) _
 by_cases hkn:k<bs.length
 ·obtain⟨rk,Ab,cb,An,cn,Ap,cp,hrk,hrg,hlk⟩:=HFM.out.rl hkn;obtain⟨cf,hcf⟩:∃cf,ZU (JS F) rk=cf:=⟨_,rfl⟩;have HCF:=Lib.hid hcf;have HRK:=Lib.hid (show ZM F k=cf from (Q3L hrk).trans hcf);have HLK:=Lib.hid hlk;have HOK:=Lib.hid (show ROk bs.length rk by have:=HF.out k rk hrk;rwa [HLEN.out] at this);clear hrk hlk hcf
  cases cf with
  |false=>
   refine yq<|yq<|yr<|yo zM<|yo zF<|yo (zB 2)<|yo zL<|yo zlt<|yl<|yn<|y1<|ys<|yn<|yq<|yb<|yq<|yr<|yo zF<|yo (zB 2)<|yo zM<|yo (zi (hj:=hkn))<|yo zE<|yo zM ?_;refine Q1 (Q4 (f:=30) rfl rfl (by decide) rfl rfl (fun w hw=>(Q2p (HLK.out.on hw.k.below) HOK.out (Q9j rfl HLEN.out hw (fun a ha=>List.mem_cons_of_mem _ (List.mem_cons_of_mem _ ha)))).mono (fun _ _ h=>by rw[HCF.out] at h;exact h))) ?_;refine yl<|yn<|y0<|ys<|yn<|yr<|yo zM<|yo zP<|yo zA<|yl ?_;refine QH (k+1) ⟨hkn,V0 HA.out HRK.out⟩ (by show bs.length - (k+1)<bs.length - k;omega) (.cons rfl rfl (.cons rfl rfl (.cons rfl rfl (.cons rfl (by go_num) .nil)))) (fun w hw=>hw)
  |true=>
   refine yq<|yq<|yr<|yo zM<|yo zF<|yo (zB 2)<|yo zL<|yo zlt<|yl<|yn<|y1<|ys<|yn<|yq<|yb<|yq<|yr<|yo zF<|yo (zB 2)<|yo zM<|yo (zi (hj:=hkn))<|yo zE<|yo zM ?_;refine Q1 (Q4 (f:=30) rfl rfl (by decide) rfl rfl (fun w hw=>(Q2p (HLK.out.on hw.k.below) HOK.out (Q9j rfl HLEN.out hw (fun a ha=>List.mem_cons_of_mem _ (List.mem_cons_of_mem _ ha)))).mono (fun _ _ h=>by rw[HCF.out] at h;exact h))) ?_;refine yl<|yn<|y1<|yq<|yr<|yo zM ?_;refine Q1 (Q4 (f:=15) rfl rfl (by decide) rfl rfl (fun w hw=>Js _ _ w)) ?_;refine yW 1 ?_;refine yl<|yn<|yt<|yk<|yc<|yc<|yk<|yc ?_;exact Q9 (by exact .inr rfl) rfl (RsV.blk 1 rfl rfl rfl) (fun w hw=>ZY (Ve (HT.out.trans (Q0Z (Jc F) HIX.out (by rw[HLEN.out];exact hkn) HRK.out HA.out)) (Yg (by decide))) hw)
 have HCK:=Lib.hid (HT.out.trans (Q4J (Jc F) HIX.out (fun j hj=>HA.out j (by rw[HLEN.out] at hj;omega))));obtain⟨T,hT⟩:∃T,J1 F=T:=⟨_,rfl⟩;have HTX:=Lib.hid ((Q53 HF.out HLEN.out).trans hT);have HTT:=Lib.hid hT;have hsz:(⟨T.toArray⟩:ByteArray).size=T.length:=Xh T;clear hT;have HNM:=Lib.hid (show ∀r∈F,r.name.length≤1048576∧∀x∈r.names,x.length≤1048576 from fun r hr=>⟨(HS.out.2 r hr).name,(HS.out.2 r hr).each⟩);clear HA
 by_cases hlong:2000<T.length
 ·refine yq<|yq<|yr<|yo zM<|yo zF<|yo (zB 2)<|yo zL<|yo zlf<|yl<|yn<|y0<|ye<|yn<|yq<|yq<|yr<|yo (zD 2) ?_;refine Q1 (Q4 (f:=20) rfl rfl (by decide) rfl rfl (fun w hw=>(Y5 (HFM.out.on hw.k.below) HF.out hn40 hn0 HNM.out).mono (fun _ _ h=>by rw[HTX.out] at h;exact h))) ?_;refine yo zT<|yo zgt<|yl<|yn<|y1<|yq<|yr ?_;refine Q1 (Q4 (f:=15) rfl rfl (by decide) rfl rfl (fun w hw=>Js _ _ w)) ?_;refine yW 1 ?_;refine yl<|yn<|yt<|yc ?_;exact Q9 (by exact .inr rfl) rfl (RsV.blk 1 rfl rfl rfl) (fun w hw=>ZY (Q8K HCK.out (by rw[HTT.out];exact hlong)) hw)
 ·refine yq<|yq<|yr<|yo zM<|yo zF<|yo (zB 2)<|yo zL<|yo zlf<|yl<|yn<|y0<|ye<|yn<|yq<|yq<|yr<|yo (zD 2) ?_;refine Q1 (Q4 (f:=20) rfl rfl (by decide) rfl rfl (fun w hw=>(Y5 (HFM.out.on hw.k.below) HF.out hn40 hn0 HNM.out).mono (fun _ _ h=>by rw[HTX.out] at h;exact h))) ?_;refine yo zT<|yo zgf<|yl<|yn<|y0<|ys<|yn<|yq<|yr ?_;refine Q1 (QZ (xs:=[]) (vs:=[]) (v:=.agg #[.int .i64 0,.int .i64 0]) rfl rfl (by decide) rfl rfl (fun w=>run_build w _ _ _ (by kernel_rfl))) ?_;refine yW 1 ?_;refine yl<|yn<|yt ?_;exact Q9 (by exact .inr rfl) rfl (RsV.blk 1 rfl rfl rfl) (fun w hw=>ZY (QcA HCK.out (by rw[HTT.out];exact hlong)) hw)
end
end Go.Proofs.YtgdiadednlajgaaGreatDoor
