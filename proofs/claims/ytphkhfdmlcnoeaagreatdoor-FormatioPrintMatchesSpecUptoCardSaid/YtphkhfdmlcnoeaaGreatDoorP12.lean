import Derived.Test.YtphkhfdmlcnoeaaGreatDoorP11
import Derived.Lib.ItoaLen
namespace Go.Proofs.YtphkhfdmlcnoeaaGreatDoor
set_option linter.unusedVariables false
set_option linter.unusedSimpArgs false
set_option maxRecDepth 1000000
set_option maxHeartbeats 32000000
open Go.RowKit
section
variable {A:Option Addr}{F:List Rl}{O:List Qf}{W w:World}{c n:Nat}
theorem QbT(c i:Int)(w:World):Calls Tryz.prog 91 #[.int .i64 c,.int .i64 i] w fun e w'=>e=.returned (.agg #[.int .i64 c,.int .i64 i])/\Below w.heap.size w w':=by
 go_enter Tryz.func91,Tryz.ntmps91;refine Qz (M:=[]) (W:=w) (N:=8) (E:=[(0,.int .i64 c),(1,.int .i64 i)]) (O:=[]) ?_ mc3 (Wd.start [] w);repeat(first|refine Q4 zM ?_|refine yA (t:=32) fun b2=>?_|refine Q4 (Jv (xs:=[(0,.tmp 5),(1,.tmp 6)]) (vs:=[(0,.int .i64 c),(1,.int .i64 i)]) (v:=.agg #[.int .i64 c,.int .i64 i]) rfl rfl Q1 rfl rfl Q8b) ?_|refine yW 0 ?_|refine Qg ?_|refine Qa ?_|refine Q6 ?_|refine QC ?_)
 exact Q7 mc4 rfl Kb QbC
section
variable {P:Program}{ops:Array Oper}{C:World->Prop}{N:Nat}{E:Env}{o:Oper}{d:Nat}
theorem Qtf{x y:Operand}{t t':TypeId}{a b c:Bool}(ht:P.underlying t=some .bool)(ho:o.op=.binOp .eql t x y t')(hd:o.dst=some d)(hN:d<N)(hw:Qo ops E o=some true)(hx:ev E x=some (.bool a))(hy:ev E y=some (.bool b))(hb:(a==b)=c):oE P ops C N E ((d,.bool c)::E) o:=
 Xi hd hN hw fun ρ w ha _=>by
  subst hb;simp [execOp,ho,ha.eval hx,ha.eval hy,run_eql_bool _ _ _ _ ht,go_sem]
end
def Quu(W:World)(c:Int)(e:Ending)(w':World):Prop:=e=.returned (.int .i64 c)/\Below W.heap.size W w'
theorem QeH{l:List Bool}{b:Nat}(hr:Rd W W.heap.size 1 (some ⟨b,0,none⟩) n (XN l))(hl:l.length=n)(hn:n<=1048576):
  Calls Tryz.prog 118 #[.slice (some ⟨b,0,none⟩) n c,.bool false] W (Quu W (Q41 l)):=by
 have HR:=Q2 hr;clear hr;go_enter Tryz.func118,Tryz.ntmps118;refine Qz (M:=[]) (W:=W) (N:=19) (E:=[(0,.slice Q0v n c),(1,.bool false)]) (O:=[]) ?_ mc3 QR;repeat(first|refine Q4 zM ?_|refine Q4 zA ?_|refine Qg ?_|refine Qa ?_|refine Q6 ?_|refine Qi ?_|refine Q4 zL ?_)
 refine QK (ι:=Nat) (fun k=>k<=n/\∀j,j<k->l.getD j false=true) (fun k=>n - k) (fun k=>[(0,.slice Q0v n c),(1,.bool false),(7,.int .i64 (n:Int)),(8,.int .i64 (k:Int))]) (fun _=>[]) 0 [] Q1 Q15 mc1 rfl ?_;rintro k ⟨hk,hall⟩;have HA:=Q2 hall;clear hall;by_cases hkn:k<n
 ·obtain⟨v,hv⟩:∃v,l.getD k false=v:=⟨_,rfl⟩
  have hcell:W.cell? ⟨b,0+k,none⟩=some (.bool v):=by
   rw[<- hv];exact HR.out.cellAt Q3 (Y7 Q3)
  have HV:=Q2 hv;clear hv;cases v with
  |true=>
   repeat(first|refine Q4 zM ?_|refine Q4 zA ?_|refine Q4 zC ?_|refine Q4 (zi1 (hj:=hkn)) ?_|refine Q4 QjJ ?_|refine Qg ?_|refine Qa ?_|refine Q6 ?_|refine Qp ?_|refine Q9 rfl ?_|refine Q8 rfl ?_|refine Qi ?_|refine Q4 Q4m ?_|refine Q4 zP ?_)
   refine Qt (k+1) [] Q1 ⟨hkn,fun j hj=>?_⟩ Q3 mc2 rfl;rcases Nat.lt_or_ge j k with h|h
   ·exact HA.out j h
   ·obtain rfl:j=k:=by omega
    exact HV.out
  |false=>
   repeat(first|refine Q4 zM ?_|refine Q4 zA ?_|refine Q4 zC ?_|refine Q4 (zi1 (hj:=hkn)) ?_|refine Q4 QjJ ?_|refine Qg ?_|refine Qa ?_|refine Q6 ?_|refine Qp ?_|refine Q9 rfl ?_|refine QC ?_|refine Qi ?_|refine Qk ?_|refine Qu ?_|refine Q4 zlt ?_)
   refine Q7 mc4 rfl (.tmp rfl) (fun w hw=>⟨?_,hw.k.below⟩);unfold Q41;rw[Jl (k:=k) Q3 (by rw[HV.out];rfl) (fun j hj=>by rw[HA.out j hj];rfl)]
 ·skip
  refine QrG ?_
  refine Q7 mc4 rfl (.tmp rfl) (fun w hw=>⟨?_,hw.k.below⟩);unfold Q41;rw[Xp (fun j hj=>by rw[HA.out j Q3];rfl)]
theorem QS.take{B:Nat}{i:Nat}(h:QS W B A n F)(hi:i<=n)(hc:n<=c):QS W B (ZY A c 0 12) i (F.take i):=by
 refine⟨by rw[List.length_take,h.1];omega,fun h0=>?_⟩;obtain⟨b,o,rfl,hB,hr⟩:=h.2 Q3;refine⟨b,o,?_,hB,fun j r hj=>?_⟩
 ·rw[ZY,if_neg Q3,Option.map_some,Addr.add_mid,Nat.zero_mul,Nat.add_zero]
 ·rw[List.getElem?_take] at hj
  split at hj
  ·exact hr j r hj
  ·cases hj
theorem Qic(hf:QS W W.heap.size A n F)(hF:FOk F)(hn:n<=40)(hn0:0<n)(hw:Wd [] W O w):
  Calls Tryz.prog 119 #[.agg #[.slice A n c]] w (X7 (fun b:Nat=>.slice (some ⟨b,0,none⟩) n n) (fun _=>True) [] W (fun b=>.rd (some ⟨b,0,none⟩) n 1 (XN (Zk F))::O)):=by
 refine(QaY (hf.on hw.k.below) hF hn hn0).mono ?_;rintro e w' ⟨b,rfl,h1,h2,h3⟩;rw[ZQ,hf.1] at h2 ⊢;exact⟨b,rfl,trivial,hw.push h3 h2 Qqm⟩
theorem QhY(hf:QS W W.heap.size A n F)(hF:FOk F)(hn:n<=40)(hn0:0<n)(hw:Wd [] W O w):
  Calls Tryz.prog 55 #[.agg #[.slice A n c]] w (X7 (fun y:Nat×Nat=>.slice (some ⟨y.1,0,none⟩) n y.2) (fun _=>True) [] W (fun y=>.rd (some ⟨y.1,0,none⟩) n 256 (QW (Yi F))::O)):=by
 refine(QaM (hf.on hw.k.below) hF hn hn0).mono ?_;rintro e w' ⟨b,c',rfl,h1,h2,h3⟩;exact⟨(b,c'),rfl,trivial,hw.push h3 h2 Qqm⟩
def Qdh(W:World)(p:Int×Int)(e:Ending)(w':World):Prop:=e=.returned (.agg #[.int .i64 p.1,.int .i64 p.2])/\Below W.heap.size W w'
theorem Zg{p:Int×Int}{a b:Int}(h:p=(a,b))(hw:Wd [] W O w):Qdh W p (.returned (.agg [.int .i64 a,.int .i64 b].toArray)) w:=⟨by rw[h],hw.k.below⟩
theorem K0{p:Nat->Prop}{k:Nat}(h:∀j,j<k->p j)(hk:p k):∀j,j<k+1->p j:=fun j hj=>by
 rcases Nat.lt_or_ge j k with h1|h1
 ·exact h j h1
 ·obtain rfl:j=k:=by omega
  exact hk
theorem Q7C(F:List Rl):(Yi F).length=F.length:=by
 unfold Yi;rw[Yw,List.length_map]
theorem Qdm(hf:QS W W.heap.size A n F)(hs:FSm F)(hc:n<=c):
  Calls Tryz.prog 89 #[.agg #[.slice A n c]] W (Qdh W (Xf F)):=by
 have hlen:F.length=n:=hf.1;have hsz:n<=1048576:=by rw[<- hlen];exact hs.1
 have HFM:=Q2 hf;have HS:=Q2 hs;have HLEN:=Q2 hlen;clear hf hs hlen;go_enter Tryz.func89,Tryz.ntmps89;refine Qz (M:=[]) (W:=W) (N:=100) (E:=[VD]) (O:=[]) ?_ Zl QR;by_cases h0:n=0
 ·skip
  repeat(first|refine Q4 zM ?_|refine Q4 zA ?_|refine Q4 zF ?_|refine Q4 (zB 1) ?_|refine yB fun bf=>?_|refine yA (t:=32) fun b2=>?_|refine Q4 Q3G ?_|refine yW 0 ?_|refine Qg ?_|refine Qa ?_|refine Q6 ?_|refine Q9 rfl ?_|refine QC ?_|refine Qi ?_|refine Qk ?_|refine Qu ?_|refine Q4 zL ?_|refine Q4 zet ?_)
  exact Q7 mc4 rfl Kb (fun w hw=>Zg (Q3t (by rw[HLEN.out];exact h0)) hw)
 by_cases h40:40<n
 ·skip
  repeat(first|refine Q4 zM ?_|refine Q4 zA ?_|refine Q4 zF ?_|refine Q4 (zB 1) ?_|refine yB fun bf=>?_|refine yA (t:=32) fun b2=>?_|refine Q4 Q3G ?_|refine yW 0 ?_|refine Qg ?_|refine Qa ?_|refine Q6 ?_|refine Q9 rfl ?_|refine Q8 rfl ?_|refine QC ?_|refine Qi ?_|refine Qk ?_|refine Qu ?_|refine Q4 zL ?_|refine Q4 Q63 ?_|refine Q4 zgt ?_)
  exact Q7 mc4 rfl Kb (fun w hw=>Zg (Q4J (by rw[HLEN.out];exact h40)) hw)
 have hn0:0<n:=by omega
 have hn40:n<=40:=by omega
 obtain⟨b,o,rfl⟩:=HFM.out.addr hn0;repeat(first|refine Q4 zM ?_|refine Q4 zA ?_|refine Q4 zF ?_|refine Q4 (zB 1) ?_|refine yB fun bf=>?_|refine yA (t:=32) fun b2=>?_|refine Qg ?_|refine Qa ?_|refine Q6 ?_|refine Qp ?_|refine Q8 rfl ?_|refine Qi ?_|refine Q4 zL ?_|refine Q4 Q63 ?_|refine Q4 zgf ?_)
 refine QK (ι:=Nat) (fun k=>k<=n/\∀j,j<k->Zb F j=0) (fun k=>n - k) (fun k=>[(1,.pointer Q2P),(2,.pointer (some ⟨b2,0,none⟩)),(3,.int .i64 (n:Int)),(27,.slice (some ⟨b,o,none⟩) n c),(28,.int .i64 (n:Int)),(29,.int .i64 (k:Int))]) (fun _=>[.blk b2 (.cells [.int .i64 0,.int .i64 0].toArray 32 (0,0)),.blk bf (.cells [.slice (some ⟨b,o,none⟩) n c].toArray 24 (0,0))]) 0 [0,1] Q1 Q15 Qa7 rfl ?_;rintro k ⟨hk,hall⟩;have HA:=Q2 hall;clear hall;by_cases hkn:k<n
 ·obtain⟨rk,Ab,cb,An,cn,Ap,cp,hrk,hrg,hlk⟩:=HFM.out.rl hkn;have HRK:=Q2 (show Zb F k=Xs rk (F.take k) n by rw[Q1p hrk,HLEN.out]);have HLK:=Q2 hlk;have HSM:=Q2 (HS.out.2 rk QbZ);clear hrk hlk
  have hkc:k<=c:=by omega
  by_cases hz:Xs rk (F.take k) n=0
  ·have hzb:(Xs rk (F.take k) n != 0)=false:=bne_eq_false_iff_eq.2 hz
   repeat(first|refine Q4 zM ?_|refine Q4 zA ?_|refine Q4 (zD 0) ?_|refine Q4 zE ?_|refine Q4 Q4O ?_|refine yA (t:=65) fun b7=>?_|refine yW 0 ?_|refine Qg ?_|refine Qa ?_|refine Q6 ?_|refine Qp ?_|refine Q9 rfl ?_|refine Qi ?_|refine Q4 zlt ?_)
   refine QqT ?_
   repeat(first|refine Q4 zM ?_|refine Qg ?_|refine Qa ?_|refine Q6 ?_|refine Qp ?_|refine Q8 rfl ?_|refine Q4 zna ?_|refine Q4 zP ?_)
   exact Qt (k+1) [1,2] Q1 ⟨hkn,K0 HA.out (HRK.out.trans hz)⟩ Q3 Q8S rfl
  ·have hzb:(Xs rk (F.take k) n != 0)=true:=bne_iff_ne.2 hz
   repeat(first|refine Q4 zM ?_|refine Q4 zA ?_|refine Q4 (zD 0) ?_|refine Q4 zE ?_|refine Q4 Q4O ?_|refine yA (t:=65) fun b7=>?_|refine yW 0 ?_|refine Qg ?_|refine Qa ?_|refine Q6 ?_|refine Qp ?_|refine Q9 rfl ?_|refine Qi ?_|refine Q4 zlt ?_)
   refine QqT ?_
   repeat(first|refine Q4 zM ?_|refine Q4 Q3G ?_|refine yW 1 ?_|refine Qg ?_|refine Qa ?_|refine Q6 ?_|refine Q9 rfl ?_|refine QC ?_|refine Qk ?_|refine Qu ?_|refine Q4 zna ?_)
   exact Q7 mc4 rfl Kl (fun w hw=>Zg ((Q57 Q52 Q4M Q1D (by rw[HRK.out];exact hz) HA.out).trans (by rw[HRK.out])) hw)
 have HR:=Q2 (show ∀j,j<F.length->Zb F j=0 from fun j hj=>HA.out j Q4X);have HF:=Q2 (Qe8 HR.out);clear HA;refine QlU ?_
 refine QK (ι:=Nat) (fun k=>k<=n/\∀j,j<k->JC F j=0) (fun k=>n - k) (fun k=>[(1,.pointer Q2P),(2,.pointer (some ⟨b2,0,none⟩)),(48,.slice (some ⟨b,o,none⟩) n c),(49,.int .i64 (n:Int)),(50,.int .i64 (k:Int))]) (fun _=>[.blk b2 (.cells [.int .i64 0,.int .i64 0].toArray 32 (0,0)),.blk bf (.cells [.slice (some ⟨b,o,none⟩) n c].toArray 24 (0,0))]) 0 [0,1] Q1 Q15 Vg rfl ?_;rintro k ⟨hk,hall⟩;have HA:=Q2 hall;clear hall;by_cases hkn:k<n
 ·obtain⟨rk,Ab,cb,An,cn,Ap,cp,hrk,hrg,hlk⟩:=HFM.out.rl hkn;have HRK:=Q2 (show JC F k=J3 F rk from Q0z hrk);have HLK:=Q2 hlk;have HSM:=Q2 (HS.out.2 rk QbZ);have HOK:=QqP;clear hrk hlk
  by_cases hz:J3 F rk=0
  ·have hzb:(J3 F rk != 0)=false:=bne_eq_false_iff_eq.2 hz
   repeat(first|refine Q4 zM ?_|refine Q4 zA ?_|refine Q4 (zD 0) ?_|refine Q4 (zD 2) ?_|refine Q4 zE ?_|refine Q4 Q4O ?_|refine yA (t:=65) fun b7=>?_|refine yW 0 ?_|refine Q4 QqK ?_|refine Qg ?_|refine Qa ?_|refine Q6 ?_|refine Qp ?_|refine Q9 rfl ?_|refine Q8 rfl ?_|refine Qi ?_|refine Q4 zna ?_|refine Q4 Q4m ?_|refine Q4 zP ?_)
   exact Qt (k+1) [1,2] Q1 ⟨hkn,K0 HA.out (HRK.out.trans hz)⟩ Q3 Yj rfl
  ·have hzb:(J3 F rk != 0)=true:=bne_iff_ne.2 hz
   repeat(first|refine Q4 zM ?_|refine Q4 zA ?_|refine Q4 (zD 0) ?_|refine Q4 (zD 2) ?_|refine Q4 zE ?_|refine Q4 Q4O ?_|refine yA (t:=65) fun b7=>?_|refine yW 0 ?_|refine Q4 QqK ?_|refine Q4 Q3G ?_|refine yW 1 ?_|refine Qg ?_|refine Qa ?_|refine Q6 ?_|refine Qp ?_|refine Q9 rfl ?_|refine QC ?_|refine Qi ?_|refine Qk ?_|refine Qu ?_|refine Q4 zna ?_|refine Q4 zlt ?_)
   exact Q7 mc4 rfl Kl (fun w hw=>Zg ((Q61 Q52 Q4M HR.out Q1D (by rw[HRK.out];exact hz) HA.out).trans (by rw[HRK.out])) hw)
 have HU:=Q2 (show ∀j,j<F.length->JC F j=0 from fun j hj=>HA.out j Q4X);clear HA;refine QlU ?_
 refine QK (ι:=Nat) (fun k=>k<=n/\∀j,j<k->Q1u F j=false) (fun k=>n - k) (fun k=>[(1,.pointer Q2P),(2,.pointer (some ⟨b2,0,none⟩)),(66,.int .i64 (n:Int)),(67,.int .i64 (k:Int))]) (fun _=>[.blk b2 (.cells [.int .i64 0,.int .i64 0].toArray 32 (0,0)),.blk bf (.cells [.slice (some ⟨b,o,none⟩) n c].toArray 24 (0,0))]) 0 [0,1] Q1 Q15 mc1 rfl ?_;rintro k ⟨hk,hall⟩;have HA:=Q2 hall;clear hall;by_cases hkn:k<n
 ·obtain⟨cy,hcy⟩:∃cy,Q1u F k=cy:=⟨_,rfl⟩;have HCY:=Q2 hcy;clear hcy
  cases cy with
  |false=>
   repeat(first|refine Q4 zM ?_|refine Q4 zA ?_|refine Q4 (zD 0) ?_|refine Q4 (zD 1) ?_|(refine Q4 Qsu ?_;rw[HCY.out])|refine Qg ?_|refine Qa ?_|refine Q6 ?_|refine Qp ?_|refine Q9 rfl ?_|refine Q8 rfl ?_|refine Qi ?_|refine Q4 Q4m ?_|refine Q4 zP ?_)
   exact Qt (k+1) [0,1] Q1 ⟨hkn,K0 HA.out HCY.out⟩ Q3 mc2 rfl
  |true=>
   repeat(first|refine Q4 zM ?_|refine Q4 zA ?_|refine Q4 (zD 0) ?_|refine Q4 (zD 1) ?_|(refine Q4 Qsu ?_;rw[HCY.out])|refine Q4 Q3G ?_|refine yW 0 ?_|refine Qg ?_|refine Qa ?_|refine Q6 ?_|refine Qp ?_|refine Q9 rfl ?_|refine QC ?_|refine Qi ?_|refine Qk ?_|refine Qu ?_|refine Q4 zlt ?_)
   exact Q7 mc4 rfl Kb (fun w hw=>Zg (Q7L Q52 Q4M HR.out HU.out Q1D HCY.out HA.out) hw)
 have HT:=Q2 (Q4W Q52 Q4M HR.out HU.out (fun j hj=>HA.out j Q4X));clear HA;by_cases hfi:0<=Q41 (Zk F)
 ·skip
  repeat(first|refine Q4 zM ?_|refine Q4 zA ?_|refine Q4 (zD 0) ?_|refine Q4 (zD 1) ?_|refine Qd QsR rfl Q1 (fun bz _=>?_)|refine Q4 Qrq ?_|refine Q4 Q3G ?_|refine yW 1 ?_|refine Qg ?_|refine Qa ?_|refine Q6 ?_|refine Q9 rfl ?_|refine Q8 rfl ?_|refine Xx ?_|refine QC ?_|refine Qk ?_|refine Q4 QbP ?_|refine Q4 zht ?_)
  exact Q7 mc4 rfl Kl (fun w hw=>Zg (HT.out.trans (Qfq (ZQ F) hfi)) hw)
 repeat(first|refine Q4 zM ?_|refine Q4 zA ?_|refine Q4 zF ?_|refine Q4 (zB 3) ?_|refine Q4 (zD 0) ?_|refine Q4 (zD 1) ?_|refine Q4 (zD 2) ?_|refine Qd QsR rfl Q1 (fun bz _=>?_)|refine Q4 Qrq ?_|refine Qd Qs1 rfl Q1 (fun y _=>?_)|refine Qg ?_|refine Qa ?_|refine Q6 ?_|refine Qp ?_|refine Q8 rfl ?_|refine Xx ?_|refine Qi ?_|refine Q4 zL ?_|refine Q4 QbP ?_|refine Q4 zhf ?_)
 obtain⟨bs,cs⟩:=y;refine QK (ι:=Nat) (fun k=>k<=n/\∀j,j<k->ZF F j=false) (fun k=>n - k) (fun k=>[(1,.pointer Q2P),(2,.pointer (some ⟨b2,0,none⟩)),(12,.slice (some ⟨bs,0,none⟩) n cs),(86,.slice (some ⟨b,o,none⟩) n c),(87,.int .i64 (n:Int)),(88,.int .i64 (k:Int))]) (fun _=>[.rd (some ⟨bs,0,none⟩) n 256 (QW (Yi F)),.blk b2 (.cells [.int .i64 0,.int .i64 0].toArray 32 (0,0)),.blk bf (.cells [.slice (some ⟨b,o,none⟩) n c].toArray 24 (0,0))]) 0 [0,2,3] Q1 Q15 Qa7 rfl ?_;rintro k ⟨hk,hall⟩;have HA:=Q2 hall;clear hall;by_cases hkn:k<n
 ·obtain⟨rk,Ab,cb,An,cn,Ap,cp,hrk,hrg,hlk⟩:=HFM.out.rl hkn;have HLK:=Q2 hlk;have HOK:=QqP;obtain⟨cf,hcf⟩:∃cf,Ze (Yi F) rk=cf:=⟨_,rfl⟩;have HCF:=Q2 hcf;have HRK:=Q2 (show ZF F k=cf from (Q6s hrk).trans hcf);clear hrk hlk hcf
  cases cf with
  |false=>
   repeat(first|refine Q4 zM ?_|refine Q4 zA ?_|refine Q4 (zD 0) ?_|refine Q4 (zD 1) ?_|refine Q4 zE ?_|refine Q4 Q4O ?_|refine yA (t:=65) fun b7=>?_|refine yW 0 ?_|(refine Q4 QqM ?_;rw[HCF.out])|refine Qg ?_|refine Qa ?_|refine Q6 ?_|refine Qp ?_|refine Q9 rfl ?_|refine Q8 rfl ?_|refine Qi ?_|refine Q4 Q4m ?_|refine Q4 zP ?_)
   exact Qt (k+1) [1,2,3] Q1 Qga Q3 Q8S rfl
  |true=>
   repeat(first|refine Q4 zM ?_|refine Q4 zA ?_|refine Q4 (zD 0) ?_|refine Q4 (zD 1) ?_|refine Q4 zE ?_|refine Q4 Q4O ?_|refine yA (t:=65) fun b7=>?_|refine yW 0 ?_|(refine Q4 QqM ?_;rw[HCF.out])|refine Q4 Q3G ?_|refine yW 2 ?_|refine Qg ?_|refine Qa ?_|refine Q6 ?_|refine Qp ?_|refine Q9 rfl ?_|refine QC ?_|refine Qi ?_|refine Qk ?_|refine Qu ?_|refine Q4 zlt ?_)
   exact Q7 mc4 rfl Qg2 (fun w hw=>Zg (HT.out.trans (Q38 (ZQ F) hfi Q1D HRK.out HA.out)) hw)
 ·skip
  repeat(first|refine Q4 mc6 ?_|refine yW 1 ?_|refine Qg ?_|refine Qa ?_|refine Q6 ?_|refine Q8 rfl ?_|refine Xx ?_|refine QC ?_|refine Q4 zlf ?_)
  exact Q7 mc4 rfl Kl (fun w hw=>Zg (HT.out.trans (Q8z (ZQ F) hfi (fun j hj=>HA.out j Q4X))) hw)
end
section
variable {A:Option Addr}{F:List Rl}{W:World}{c k n:Nat}{r:Rl}
section
variable {ops:Array Oper}{C:World->Prop}{N:Nat}{E:Env}{o:Oper}{d:Nat}
theorem Q6D{x y:Operand}{t':TypeId}{a b a' b':Int}{v:Bool}(ho:o.op=.binOp .neq 32 x y t')(hd:o.dst=some d)(hN:d<N)(hw:Qo ops E o=some true)(hx:ev E x=some (.agg #[.int .i64 a,.int .i64 b]))(hy:ev E y=some (.agg #[.int .i64 a',.int .i64 b']))(hb:(!(a==a'&&b==b'))=v):oE Tryz.prog ops C N E ((d,.bool v)::E) o:=
 Xi hd hN hw fun ρ w ha _=>by
  subst hb;by_cases h1:a=a'<;>by_cases h2:b=b'<;>simp [execOp,ho,ha.eval hx,ha.eval hy,h1,h2,go_sem]
end
theorem Qhz(m:Nat):∀ws:List (List UInt8),(∀w∈ws,w.length<=m)->(Lib.join ws [32]).length<=ws.length*(m+1)
 |[],_=>by simp [Lib.join]
 |[x],h=>by
  rw[Lib.join_one];have:=h x List.mem_cons_self
  exact Qe5
 |x::y::l,h=>by
  have ih:=Qhz m (y::l) fun w hw=>h w (List.mem_cons_of_mem _ hw);rw[Lib.join_cons,J2,<- Lib.join_cons];have:=h x List.mem_cons_self;simp only[List.length_append,List.length_cons,List.length_nil] at ih ⊢;rw[Nat.add_mul] at ih ⊢;rw[Nat.add_mul];omega
theorem Q2Y{v:Int}(h:0<=v/\v<=4294967295):(Lib.itoa v).length<=100:=by
 have:=Lib.itoa_length_le v Q3 Q3;omega
theorem Yv{u:Bool}{s w:List UInt8}(h:w∈ifW u s):w=s:=by
 unfold ifW at h;split at h
 ·exact List.mem_singleton.1 h
 ·cases h
theorem YB(u:Bool)(s:List UInt8):(ifW u s).length<=1:=by
 unfold ifW;split<;>simp
theorem QfB(h:LOk F r)(h0:0<F.length):(Lib.join (Y2 F r) [32]).length<=1000000:=by
 have hN:=Qlc h.ok h0;have hnm:∀x:Int,0<=x/\x<F.length->(K3 F x).length<=100:=fun x hx=>by have:=Kh (h.all x hx);omega
 have hlen:(Y2 F r).length<=24:=by
  unfold Y2 Q4x;simp only[List.length_append,List.length_map,List.length_range,List.length_cons,List.length_nil];have:=h.ok.p12;have:=YB (r.kind==1) (Vu r.bs);have:=YB (XS r.kind) (Lib.itoa r.stop);have:=YB (XT r.kind) (Lib.itoa r.size);have:=YB (r.kind==2) (if r.big then Qcx else Ys);have:=YB (r.kind==2) (Lib.itoa r.mn);have:=YB (Z8 r.kind) (Lib.itoa r.mx);have:=YB (QE r.kind) (K3 F r.count);have:=YB (JS r.kind) (K3 F r.elem);omega
 have hw:∀w∈Y2 F r,w.length<=100:=by
  intro w hw;unfold Y2 Q4x at hw;simp only[List.mem_append] at hw;rcases hw with (((((((((hw|hw)|hw)|hw)|hw)|hw)|hw)|hw)|hw))|hw
  ·rcases List.mem_cons.1 hw with rfl|hw
   ·have:=Kh h.name;omega
   ·rw[List.mem_singleton.1 hw];have hk:=h.ok.kind
    rcases (show r.kind=1\/r.kind=2\/r.kind=3\/r.kind=4\/r.kind=5\/r.kind=6\/r.kind=7\/r.kind=8\/r.kind=9\/r.kind=10 by omega) with e|e|e|e|e|e|e|e|e|e<;>rw[e]<;>decide
  ·rw[Yv hw,Q7n];have:=h.ok.bs16;omega
  ·rw[Yv hw];exact Q2Y hN.stop
  ·rw[Yv hw];exact Q2Y hN.size
  ·rw[Yv hw];split<;>decide
  ·rw[Yv hw];exact Q2Y hN.mn
  ·rw[Yv hw];exact Q2Y hN.mx
  ·rw[Yv hw];exact hnm _ hN.count
  ·rw[Yv hw];exact hnm _ hN.elem
  ·rw[List.mem_map] at hw;obtain⟨i,hi,rfl⟩:=hw;rw[List.mem_range] at hi
   have hp:(K3 F (r.parts.getD i 0)).length<=32:=by
    by_cases h78:r.kind=7\/r.kind=8
    ·exact Kh (h.all _ (h.ok.parts h78 _ (by rw[List.getD_eq_getElem?_getD,List.getElem?_eq_getElem hi];exact List.getElem_mem hi)))
    ·rw[(QnQ h.ok).parts Q3 Q3] at hi;exact absurd hi Qn
   unfold XF;rw[List.length_append];split
   ·next h7=>
    have h7':r.kind=7:=by simpa using h7
    have hs:=(h.ok.seven h7').1;rw[List.length_append];split
    ·exact Qe5
    ·next hne=>
     have hg:r.names.getD i []=r.names[i]:=by rw[List.getD_eq_getElem?_getD,List.getElem?_eq_getElem Q3];rfl
     have hi2:i<r.names.length:=by omega
     have:(r.names.getD i []).length<=32:=by
      rw[hg];rcases h.part h7' r.names[i] (List.getElem_mem hi2) with e|e
      ·rw[e];decide
      ·exact Kh e
     exact Qe5
   ·simp only[List.length_nil];omega
 have:=Qhz 100 (Y2 F r) hw;have h2:(Y2 F r).length*(100+1)<=24*(100+1):=Nat.mul_le_mul_right _ hlen;omega
def Q3C(F:List Rl)(k:Nat):List UInt8:=((F.take k).map (Q2N F)).flatten
theorem QdT(h:F[k]? =some r):Q3C F k++Q2N F r=Q3C F (k+1):=by
 unfold Q3C;rw[List.take_add_one,h];simp
theorem QhX(h:F.length<=k):Q3C F k=K4 F:=by
 unfold Q3C K4;rw[List.take_of_length_le h]
def QaG(F:List Rl):List UInt8:=if QI F=(0,0) then K4 F else []
def QuR(W:World)(l:List UInt8)(p:Int×Int)(e:Ending)(w':World):Prop:=e=.returned (.tuple #[.string ⟨l.toArray⟩,.agg #[.int .i64 p.1,.int .i64 p.2]])/\Below W.heap.size W w'
theorem QbD(hf:QS W W.heap.size A n F)(hs:FSm F)(hc:n<=c)(hg:GV W):
  Calls Tryz.prog 51 #[.agg #[.slice A n c]] W (QuR W (QaG F) (QI F)):=by
 have hlen:F.length=n:=hf.1;have HFM:=Q2 hf;have HS:=Q2 hs;have HG:=Q2 hg;have HLEN:=Q2 hlen;clear hf hs hg hlen;obtain⟨⟨a,b⟩,hab⟩:∃p,Xf F=p:=⟨_,rfl⟩;have HC:=Q2 hab;clear hab;go_enter Tryz.func51,Tryz.ntmps51;refine Qz (M:=[]) (W:=W) (N:=33) (E:=[(0,.agg #[.slice A n c])]) (O:=[]) ?_ Zl (Wd.start [] W);by_cases hz:a=0/\b=0
 case neg=>
  have hne:(!(a==0&&b==0))=true:=by
   refine Qhn ?_;omega
  repeat(first|refine Q4 zA ?_|refine Q4 (zD 0) ?_|refine Q4 (zD 1) ?_|refine Qd YT rfl Q1 (fun bf _=>?_)|refine Qd Q5d rfl Q1 (fun b2 _=>?_)|(refine Q4 Qrj ?_)|(refine QD Q3V rfl (fun _ _=>?_);rw[QO (by rfl)])|refine Q4 mc6 ?_|refine Q4 QhE ?_|refine Qg ?_|refine Qa ?_|refine Q6 ?_|refine Q9 rfl ?_)
  refine Qs6 ?_;refine X6 2 Q5 rfl rfl Q3v (fun _=>.inl Q1) rfl (fun _ _=>?_);rw[QO (by rfl)];refine X8 ?_ Q5;refine QC (Qk ?_);refine ZS mc4 rfl (.tmp rfl) Kl (fun w hw=>⟨?_,hw.k.below⟩);have hff:QI F=(a,b):=by
   unfold QI;rw[HC.out,if_pos];intro h;exact hz (by simpa using h)
  unfold QaG;rw[hff,if_neg (fun h=>hz (by simpa using h))]
 case pos=>
  obtain⟨rfl,rfl⟩:=hz;have hlo:=QdX HC.out;have hlon:=hlo.1;have hlox:=hlo.2;rw[HLEN.out] at hlon hlox;clear hlo;obtain⟨b,o,rfl⟩:=HFM.out.addr hlon;have hpok:=Q6Q HC.out;have HP:=Q2 hpok;clear hpok;repeat(first|refine Q4 zM ?_|refine Q4 zA ?_|refine Q4 zF ?_|refine Q4 (zB 2) ?_|refine Q4 (zD 0) ?_|refine Q4 (zD 1) ?_|refine Qd YT rfl Q1 (fun bf _=>?_)|refine Qd Q5d rfl Q1 (fun b2 _=>?_)|(refine Q4 Qrj ?_)|(refine QD Q3V rfl (fun _ _=>?_);rw[QO (by rfl)])|refine Q4 mc6 ?_|refine Q4 Qgp ?_|refine Qg ?_|refine Qa ?_|refine Q6 ?_|refine Qp ?_|refine Q8 rfl ?_|refine Qi ?_|refine Q4 zL ?_)
  rename_i b3 _ _ _ _;refine QK (ι:=Nat) (fun k=>k<=n/\(Q3C F k).length<=k*1000001) (fun k=>n - k) (fun k=>[(1,.pointer Q2P),(3,.pointer (some ⟨b3,0,none⟩)),(5,.string ⟨(Q3C F k).toArray⟩),(15,.slice (some ⟨b,o,none⟩) n c),(16,.int .i64 (n:Int)),(17,.int .i64 (k:Int))]) (fun _=>[.blk b3 (.cells [.int .i64 0,.int .i64 0].toArray 32 (0,0)),.blk bf (.cells [.slice (some ⟨b,o,none⟩) n c].toArray 24 (0,0))]) 0 [1,2] Q1 ⟨Nat.zero_le _,by unfold Q3C;simp⟩ Qa7 rfl ?_;rintro k ⟨hk,htx⟩;by_cases hkn:k<n
  ·obtain⟨rk,Ab,cb,An,cn,Ap,cp,hrk,hrg,hlk⟩:=HFM.out.rl hkn;have HLK:=Q2 hlk;have HLO:=Q2 (HP.out.line hrk);have HST:=Q2 (QdT hrk);have hsm:=QfB HLO.out (by rw[HLEN.out];exact hlon)
   have hll:(Q2N F rk).length<=1000001:=by unfold Q2N;rw[List.length_append];simp only[List.length_cons,List.length_nil];omega
   clear hrk hlk;repeat(first|refine Q4 zM ?_|refine Q4 zA ?_|refine Q4 (zD 0) ?_|refine Q4 (zD 2) ?_|refine Q4 zE ?_|refine Q4 Qol ?_|refine Qd QnI rfl Q1 (fun b7 _=>?_)|(refine QD Q3V rfl (fun _ _=>?_);rw[QO (by rfl)])|refine Q4 (Ql (f:=90) rfl rfl Q1 rfl rfl (fun w hw=>(QdS KO Qaa HLO.out hlon Q10 hsm).mono (fun _ _ h=>h))) ?_|(refine Q4 (QdL rfl rfl Q1 rfl rfl rfl (by rw[V9,V9];omega)) ?_;rw[Q2n,HST.out])|refine Qg ?_|refine Qa ?_|refine Q6 ?_|refine Qp ?_|refine Q9 rfl ?_|refine Qi ?_|refine Q4 Q4m ?_|refine Q4 zP ?_)
   refine Qt (k+1) [1,2] Q1 ⟨hkn,?_⟩ Q3 Q8S rfl;rw[<- HST.out,List.length_append,Nat.add_mul];omega
  ·have hall:Q3C F k=K4 F:=QhX (by rw[HLEN.out];omega);rw[hall] at htx ⊢;have hsz:=V9 (K4 F)
   by_cases hbig:2000<(K4 F).length
   ·skip
    repeat(first|refine Q4 zM ?_|refine Q4 zA ?_|refine Q4 Q3G ?_|(refine QD Q3V rfl (fun _ _=>?_);rw[QO (by rfl)])|refine Qg ?_|refine Qa ?_|refine Q6 ?_|refine Q9 rfl ?_|refine Q8 rfl ?_|refine Xx ?_|refine QC ?_|refine Qk ?_|refine Q4 QqU ?_|refine Q4 QbP ?_|refine Q4 zgt ?_)
    refine ZS mc4 rfl (.tmp rfl) Kb (fun w hw=>⟨?_,hw.k.below⟩);have hff:QI F=(14,-1):=by
     unfold QI;rw[HC.out,if_neg (fun h=>h rfl),if_pos hbig]
    unfold QaG;rw[hff,if_neg Q1]
   ·skip
    repeat(first|refine Q4 zM ?_|refine Q4 zA ?_|refine Q4 mc6 ?_|(refine QD Q3V rfl (fun _ _=>?_);rw[QO (by rfl)])|refine Qg ?_|refine Qa ?_|refine Q6 ?_|refine Qp ?_|refine Q8 rfl ?_|refine Xx ?_|refine QC ?_|refine Q4 QqU ?_|refine Q4 QbP ?_|refine Q4 zgf ?_)
    refine ZS mc4 rfl (.tmp rfl) Kb (fun w hw=>⟨?_,hw.k.below⟩);have hff:QI F=(0,0):=by
     unfold QI;rw[HC.out,if_neg (fun h=>h rfl),if_neg hbig]
    unfold QaG;rw[hff,if_pos rfl]
theorem Vs(hf:QS W W.heap.size A n F)(hs:FSm F)(hc:n<=c)(hg:GV W):
  Calls Tryz.prog 28 #[.agg #[.slice A n c]] W (Qdh W (QI F)):=by
 have HFM:=Q2 hf;have HS:=Q2 hs;have HG:=Q2 hg;clear hf hs hg;go_enter Tryz.func28,Tryz.ntmps28;refine Qz (M:=[]) (W:=W) (N:=11) (E:=[VD]) (O:=[]) ?_ Zl QR;repeat(first|refine Q4 zM ?_|refine Q4 zA ?_|refine Q4 (zD 0) ?_|refine Q4 (zD 1) ?_|refine Qd YT rfl Q1 (fun bf _=>?_)|refine Qd Q5d rfl Q1 (fun b2 _=>?_)|refine Q4 (Ql (f:=51) rfl rfl Q1 rfl rfl (fun w hw=>(QbD KO HS.out hc Q10).mono (fun _ _ h=>h))) ?_|(refine QD Q3V rfl (fun _ _=>?_);rw[QO (by rfl)])|(refine QD Q3v rfl (fun _ _=>?_);rw[QO (by rfl)])|refine Qg ?_|refine Qa ?_|refine Q6 ?_|refine QC ?_|refine Q4 zX ?_)
 exact Q7 mc4 rfl Kl QbC
def Q5B(F:List Rl)(k:Int):Int×Int:=if QI F≠(0,0) then QI F else if inB k 0 ((F.length:Int) - 1) then (0,0) else (4,-2)
theorem Q2O{k:Int}(hf:QS W W.heap.size A n F)(hs:FSm F)(hc:n<=c)(hg:GV W):
  Calls Tryz.prog 54 #[.agg #[.slice A n c],.int .i64 k] W (Qdh W (Q5B F k)):=by
 have hlen:F.length=n:=hf.1;have hsz:n<=1048576:=by rw[<- hlen];exact hs.1
 have HFM:=Q2 hf;have HS:=Q2 hs;have HG:=Q2 hg;have HLEN:=Q2 hlen;clear hf hs hg hlen;obtain⟨⟨a,b⟩,hab⟩:∃p,QI F=p:=⟨_,rfl⟩;have HC:=Q2 hab;clear hab;go_enter Tryz.func54,Tryz.ntmps54;refine Qz (M:=[]) (W:=W) (N:=21) (E:=[VD,Q29]) (O:=[]) ?_ mc3 QR;by_cases hz:a=0/\b=0
 case neg=>
  have hne:(!(a==0&&b==0))=true:=by
   refine Qhn ?_;omega
  repeat(first|refine Q4 (zD 0) ?_|refine Q4 (zD 1) ?_|refine Qd YT rfl Q1 (fun bf _=>?_)|refine Qd Q5d rfl Q1 (fun b2 _=>?_)|(refine Q4 Qkt ?_)|refine Q4 mc6 ?_|refine Q4 QhE ?_|(refine QD Q3V rfl (fun _ _=>?_);rw[QO (by rfl)])|(refine QD Q3v rfl (fun _ _=>?_);rw[QO (by rfl)])|refine Qg ?_|refine Qa ?_|refine Q6 ?_|refine Q9 rfl ?_|refine QC ?_|refine Qk ?_)
  refine Q7 mc4 rfl Kl (fun w hw=>Zg ?_ hw);unfold Q5B;rw[HC.out,if_pos (fun h=>hz (by simpa using h))]
 case pos=>
  obtain⟨rfl,rfl⟩:=hz;obtain⟨u,hu⟩:∃u,inB k 0 ((n:Int) - 1)=u:=⟨_,rfl⟩;have HU:=Q2 hu;clear hu;cases u with
  |true=>
   repeat(first|refine Q4 zM ?_|refine Q4 zF ?_|refine Q4 (zB 2) ?_|refine Q4 (zD 0) ?_|refine Q4 (zD 1) ?_|refine Qd YT rfl Q1 (fun bf _=>?_)|refine Qd Q5d rfl Q1 (fun b2 _=>?_)|(refine Q4 Qkt ?_)|(refine Q4 Qm0 ?_;rw[HU.out])|refine Q4 mc6 ?_|refine Q4 Qgp ?_|(refine QD Q3V rfl (fun _ _=>?_);rw[QO (by rfl)])|(refine QD Q3v rfl (fun _ _=>?_);rw[QO (by rfl)])|refine Qg ?_|refine Qa ?_|refine Q6 ?_|refine Qp ?_|refine Q8 rfl ?_|refine QC ?_|refine Q4 zL ?_|refine Q4 zO ?_|refine Q4 zQ ?_)
   refine Q7 mc4 rfl Kl (fun w hw=>Zg ?_ hw);unfold Q5B;rw[HC.out,if_neg (fun h=>h rfl),HLEN.out,HU.out,if_pos rfl]
  |false=>
   repeat(first|refine Q4 zM ?_|refine Q4 zF ?_|refine Q4 (zB 2) ?_|refine Q4 (zD 0) ?_|refine Q4 (zD 1) ?_|refine Qd YT rfl Q1 (fun bf _=>?_)|refine Qd Q5d rfl Q1 (fun b2 _=>?_)|(refine Q4 Qkt ?_)|(refine Q4 Qm0 ?_;rw[HU.out])|refine Q4 Q3G ?_|refine Q4 mc6 ?_|refine Q4 Qgp ?_|(refine QD Q3V rfl (fun _ _=>?_);rw[QO (by rfl)])|(refine QD Q3v rfl (fun _ _=>?_);rw[QO (by rfl)])|refine Qg ?_|refine Qa ?_|refine Q6 ?_|refine Qp ?_|refine Q9 rfl ?_|refine Q8 rfl ?_|refine QC ?_|refine Qk ?_|refine Q4 zL ?_|refine Q4 zO ?_|refine Q4 zQ ?_)
   refine Q7 mc4 rfl Kl (fun w hw=>Zg ?_ hw);unfold Q5B;rw[HC.out,if_neg (fun h=>h rfl),HLEN.out,HU.out,if_neg Bool.false_ne_true]
end
section
variable {F:List Rl}{c n:Nat}{k:Int}{st:Nat->Bool}
def Yl(st:Nat->Bool)(c:Nat):List Int:=((List.range c).filter st).map fun(j:Nat)=>(j:Int)
theorem Qce(h:st c=true):Yl st c++[(c:Int)]=Yl st (c+1):=by
 unfold Yl;rw[List.range_succ,List.filter_append,List.map_append,List.filter_cons_of_pos h];rfl
theorem QoV(h:st c=false):Yl st c=Yl st (c+1):=by
 unfold Yl;rw[List.range_succ,List.filter_append,List.map_append,List.filter_cons_of_neg (by rw[h];exact Bool.false_ne_true),List.filter_nil,List.map_nil,List.append_nil]
theorem Qn4(st:Nat->Bool)(c:Nat):(Yl st c).length<=c:=by
 unfold Yl;rw[List.length_map];exact Nat.le_trans (List.length_filter_le _ _) Qn
def Ko(F:List Rl)(k:Int):List Int:=Yl ((Yi F).getD k.toNat XH) 256
theorem QtS{w:World}{B b k:Nat}{S:List (Nat->Bool)}(h:Rd w B 256 (some ⟨b,0,none⟩) n (QW S))(hS:S.length=n)(hk:k<n):w.rangeAt b (0+k*256) (QP (S.getD k XH)):=fun q u hu=>by
 rw[Nat.add_assoc];exact h.cellAt Q3 (Q2J S k Q3 q u hu)
def Q2K(F:List Rl)(k:Int):List Int:=if Q5B F k=(0,0) then Ko F k else []
theorem Qt5(h:Q5B F k=(0,0)):QI F=(0,0)/\0<=k/\k<F.length:=by
 unfold Q5B at h;split at h
 ·next hn=>exact absurd h hn
 ·next hn=>
  split at h
  ·next hi=>
   have:=QX.1 hi;exact⟨Classical.byContradiction hn,by omega,by omega⟩
  ·cases h
theorem Qj7(h:QI F=(0,0)):Xf F=(0,0):=by
 unfold QI at h;split at h
 ·next hn=>exact absurd h hn
 ·next hn=>exact Classical.byContradiction hn
end
section
variable {B n:Nat}{F:List Rl}{k:Int}{w:World}
theorem QS.below{w w':World}{B:Nat}{A:Option Addr}{n:Nat}{F:List Rl}(h:QS w B A n F)(hb:Below B w w'):QS w' B A n F:=
 ⟨h.1,fun h0=>by
  obtain⟨b,o,e,hB,hc⟩:=h.2 h0;refine⟨b,o,e,hB,fun i r hr=>?_⟩;obtain⟨sb,sn,sp,h1,h2⟩:=hc i r hr
  exact⟨sb,sn,sp,h1.below hb hB,h2.below hb⟩⟩
theorem QS.more{w:World}{B B':Nat}{A:Option Addr}{n:Nat}{F:List Rl}(h:QS w B A n F)(hB:B<=B'):QS w B' A n F:=
 ⟨h.1,fun h0=>by
  obtain⟨b,o,e,hb,hc⟩:=h.2 h0;refine⟨b,o,e,by omega,fun i r hr=>?_⟩;obtain⟨sb,sn,sp,h1,h2⟩:=hc i r hr
  exact⟨sb,sn,sp,h1,h2.more hB⟩⟩
structure RuB(W:World)(B:Nat)(r:Rl)(Ab:Option Addr)(cb:Nat)(An:Option Addr)(cn:Nat)(Ap:Option Addr)(cp:Nat):Prop where
 cb:r.bs.length<=cb
 cn:r.names.length<=cn
 cp:r.parts.length<=cp
 b:Rd W B 1 Ab r.bs.length (bv r.bs)
 n:Rd W B 1 An r.names.length (sv r.names)
 p:Rd W B 1 Ap r.parts.length (iv r.parts)
theorem RuB.below{w w':World}{B:Nat}{r:Rl}{Ab An Ap:Option Addr}{cb cn cp:Nat}(h:RuB w B r Ab cb An cn Ap cp)(hb:Below B w w'):RuB w' B r Ab cb An cn Ap cp:=⟨h.cb,h.cn,h.cp,h.b.below hb,h.n.below hb,h.p.below hb⟩
theorem KI.listsB{r:Rl}{sb sn sp:Value}(h:KI w B r sb sn sp):∃Ab cb An cn Ap cp,sb=.slice Ab r.bs.length cb/\sn=.slice An r.names.length cn/\sp=.slice Ap r.parts.length cp/\RuB w B r Ab cb An cn Ap cp:=by
 obtain⟨Ab,nb,cb,An,nn,cn,Ap,np,cp,rfl,rfl,rfl,h1,h2,h3,h4,h5,h6⟩:=h;have e1:r.bs.length=nb:=by have:=h4.len;rw[QM] at this;exact this
 have e2:r.names.length=nn:=by have:=h5.len;unfold sv at this;rw[List.length_map] at this;exact this
 have e3:r.parts.length=np:=by have:=h6.len;rw[Q0o] at this;exact this
 subst e1 e2 e3;exact QnG
theorem QS.ruleB{W:World}{b o:Nat}(h:QS W B (some ⟨b,o,none⟩) n F)(hk:0<=k/\k<n):b<B/\∃Ab cb An cn Ap cp,W.rangeAt b (o+k.toNat*12) (ruC (Qh F k) (.slice Ab (Qh F k).bs.length cb) (.slice An (Qh F k).names.length cn) (.slice Ap (Qh F k).parts.length cp))/\RuB W B (Qh F k) Ab cb An cn Ap cp:=by
 obtain⟨b',o',r,sb,sn,sp,e,hb,hr,hc,hs⟩:=h.at_ (i:=k.toNat) Q3;cases e;rw[QaB hr];obtain⟨Ab,cb,An,cn,Ap,cp,rfl,rfl,rfl,hl⟩:=hs.listsB;exact⟨hb,Ab,cb,An,cn,Ap,cp,hc.range,hl⟩
def QcP(w:World)(B:Nat)(F:List Rl)(A:Option Addr)(n:Nat):Prop:=∃b o,A=some ⟨b,o,none⟩/\b<B/\∀k,k<n->∃Ak ck,w.cell? ⟨b,o+k,none⟩=some (.slice Ak (Ko F k).length ck)/\Rd w B 1 Ak (Ko F k).length (iv (Ko F k))/\(Ko F k).length<=ck
theorem QcP.below{w w':World}{B n:Nat}{F:List Rl}{A:Option Addr}(h:QcP w B F A n)(hb:Below B w w'):QcP w' B F A n:=by
 obtain⟨b,o,e,hB,hc⟩:=h;refine⟨b,o,e,hB,fun k hk=>?_⟩;obtain⟨Ak,ck,h1,h2,h3⟩:=hc k hk;exact⟨Ak,ck,(hb.cell Ka).trans h1,h2.below hb,h3⟩
theorem QcP.more{w:World}{B B' n:Nat}{F:List Rl}{A:Option Addr}(h:QcP w B F A n)(hB:B<=B'):QcP w B' F A n:=by
 obtain⟨b,o,e,hb,hc⟩:=h;refine⟨b,o,e,by omega,fun k hk=>?_⟩;obtain⟨Ak,ck,h1,h2,h3⟩:=hc k hk;exact⟨Ak,ck,h1,h2.more hB,h3⟩
structure Q3B(w:World)(B:Nat)(F:List Rl)(D:List UInt8)(Af As Ad:Option Addr)(n nd:Nat):Prop where
 fm:QS w B Af n F
 fr:QcP w B F As n
 dt:Rd w B 1 Ad nd (bv D)
theorem Q3B.below{w w':World}{B n nd:Nat}{F:List Rl}{D:List UInt8}{Af As Ad:Option Addr}(h:Q3B w B F D Af As Ad n nd)(hb:Below B w w'):Q3B w' B F D Af As Ad n nd:=⟨h.fm.below hb,h.fr.below hb,h.dt.below hb⟩
theorem Q3B.keep{w':World}{g nd:Nat}{D:List UInt8}{Af As Ad:Option Addr}(h:Q3B w B F D Af As Ad n nd)(hB:B<=g)(hg:g<w.heap.size)(hk:XM [g] w w'):Q3B w' B F D Af As Ad n nd:=
 h.below ⟨hk.os,hk.tape,hk.output,hk.size,fun k hk'=>hk.block k Q3 Q9d⟩
theorem Q3B.len{w:World}{B n nd:Nat}{F:List Rl}{D:List UInt8}{Af As Ad:Option Addr}(h:Q3B w B F D Af As Ad n nd):D.length=nd/\F.length=n:=⟨by have:=h.dt.len;rw[QM] at this;exact this,h.fm.1⟩
end
section
variable {a b m r:Int}{t t':TypeId}{x y:Operand}
theorem QcZ(a b:Nat)(ha:a<4611686018427387904)(hb:b<4611686018427387904):bits .or .i64 (a:Int) (b:Int)=((a|||b:Nat):Int):=by
 have hx:a|||b<2 ^ 62:=Nat.or_lt_two_pow Q3 Q3;have h1:(BitVec.ofInt 64 (a:Int)).toNat=a:=by
  rw[BitVec.ofInt_natCast,BitVec.toNat_ofNat];exact QaL
 have h2:(BitVec.ofInt 64 (b:Int)).toNat=b:=by
  rw[BitVec.ofInt_natCast,BitVec.toNat_ofNat];exact QaL
 show IntKind.i64.wrap ((BitVec.ofInt 64 (a:Int)|||BitVec.ofInt 64 (b:Int)).toNat:Int)=_;rw[BitVec.toNat_or,h1,h2];exact Q1E
theorem QmO(i:Nat)(hi:i<=60)(ha:a=2 ^ i*m)(hm:0<=m)(hb:0<=b/\b<2 ^ i)(h:a<4611686018427387904):bits .or .i64 a b=a+b:=by
 obtain⟨k,rfl⟩:∃k:Nat,m=(k:Int):=⟨m.toNat,by omega⟩;obtain⟨c,rfl⟩:∃c:Nat,b=(c:Int):=⟨b.toNat,by omega⟩;have hc:c<2 ^ i:=by have:=hb.2;exact_mod_cast this
 have e:a=((2 ^ i*k:Nat):Int):=by rw[ha];push_cast;rfl
 have hp:(2:Nat) ^ i<=2 ^ 60:=Nat.pow_le_pow_right Q3 hi;rw[e] at h ⊢;rw[QcZ _ _ Q3 Q3,<- Nat.two_pow_add_eq_or_of_lt hc];push_cast;rfl
theorem QpR(i:Nat)(hi:i<=60)(hb:b=2 ^ i*m)(hm:0<=m)(ha:0<=a/\a<2 ^ i)(h:b<4611686018427387904):bits .or .i64 a b=a+b:=by
 have:=QmO i hi hb hm ha h;have e:bits .or .i64 a b=bits .or .i64 b a:=by
  unfold bits;simp only;rw[BitVec.or_comm]
 rw[e,this,Int.add_comm]
section
variable {P:Program}{ops:Array Oper}{C:World->Prop}{N:Nat}{E:Env}{o:Oper}{d:Nat}
theorem Qrh{k:IntKind}{n:Int}(ho:o.op=.binOp .shl t x y t')(hd:o.dst=some d)(hN:d<N)(hw:Qo ops E o=some true)(hx:ev E x=some (.int .i64 m))(hy:ev E y=some (.int k n))(h0:0<=n/\n<=64)(hr:m*2 ^ n.toNat=r)(hb:-9223372036854775808<=r/\r<=9223372036854775807):oE P ops C N E ((d,.int .i64 r)::E) o:=
 Q0n ho hd hN hw hx hy fun w=>by
  rw[binOp_shl,shift_shl_i64 (h₀:=h0.1) (h₁:=h0.2),hr,IntWalk.i64_in _ hb];rfl
theorem QuF(ho:o.op=.binOp .or t x y t')(hd:o.dst=some d)(hN:d<N)(hw:Qo ops E o=some true)(hx:ev E x=some (.int .i64 a))(hy:ev E y=some (.int .i64 b))(hr:bits .or .i64 a b=r):oE P ops C N E ((d,.int .i64 r)::E) o:=
 Q0n ho hd hN hw hx hy fun w=>by
  rw[binOp_or,intBits_or,hr];rfl
end
end
section
variable {c:UInt8}{l:List UInt8}
theorem QcB(c:UInt8):∀l:List UInt8,leN (l++[c])=leN l+(c.toNat:Int)*256 ^ l.length
 |[]=>by simp [leN]
 |x::l=>by
  show (x.toNat:Int)+256*leN (l++[c])=(x.toNat:Int)+256*leN l+(c.toNat:Int)*256 ^ (l.length+1)
  rw[QcB c l,Int.pow_succ,Int.mul_add,<- Int.mul_assoc,<- Int.mul_assoc,Int.mul_comm 256 (c.toNat:Int),Int.mul_assoc,Int.mul_comm 256 (256 ^ l.length),Int.mul_assoc]
  omega
theorem Qfa(l:List UInt8)(c:UInt8):X3 true (l++[c])=X3 true l*256+(c.toNat:Int):=by
 unfold X3;rw[if_pos rfl,if_pos rfl,List.reverse_append];show (c.toNat:Int)+256*leN l.reverse=_;omega
theorem Q88(l:List UInt8)(c:UInt8):X3 false (l++[c])=X3 false l+(c.toNat:Int)*256 ^ l.length:=by
 unfold X3;exact QcB c l
theorem Q90(b:Bool)(l:List UInt8):X3 b l<256 ^ l.length:=by
 unfold X3;split
 ·have:=Qfi l.reverse;rwa [List.length_reverse] at this
 ·exact Qfi l
theorem Qec(i:Nat):(256:Int) ^ i=2 ^ (8*i):=by rw[Int.pow_mul];rfl
theorem Qo3(h:l.length<4):X3 true l*2 ^ (8:Int).toNat=X3 true l*256/\bits .or .i64 (X3 true l*256) (c.toNat:Int)=X3 true (l++[c])/\0<=X3 true l*256/\X3 true l*256<4294967296:=by
 have h0:=Q4k true l;have h1:=Q90 true l;have hc:=c.toNat_lt;have h2:X3 true l<16777216:=by
  rcases (show l.length=0\/l.length=1\/l.length=2\/l.length=3 by omega) with e|e|e|e<;>rw[e] at h1<;>simp at h1<;>omega
 refine⟨rfl,?_,by omega,by omega⟩;rw[Qfa];exact QmO 8 Q3 (m:=X3 true l) Q3 h0 ⟨by omega,by simp;omega⟩ Q3
theorem Qdq(h:l.length<4):(c.toNat:Int)*2 ^ (8*(l.length:Int)).toNat=(c.toNat:Int)*256 ^ l.length/\bits .or .i64 (X3 false l) ((c.toNat:Int)*256 ^ l.length)=X3 false (l++[c])/\0<=(c.toNat:Int)*256 ^ l.length/\(c.toNat:Int)*256 ^ l.length<4294967296:=by
 have h0:=Q4k false l;have h1:=Q90 false l;have hc:=c.toNat_lt;have e8:(8*(l.length:Int)).toNat=8*l.length:=by omega
 have hb:0<=(c.toNat:Int)*256 ^ l.length/\(c.toNat:Int)*256 ^ l.length<4294967296:=by
  rcases (show l.length=0\/l.length=1\/l.length=2\/l.length=3 by omega) with e|e|e|e<;>rw[e]<;>simp<;>omega
 refine⟨by rw[e8,Qec],?_,hb⟩;rw[Q88];refine QpR (8*l.length) Q3 (m:=(c.toNat:Int)) (by rw[Qec,Int.mul_comm]) Q3 ⟨h0,by rw[<- Qec];exact h1⟩ Q3
end
section
variable {c:UInt8}{e:Nat}{y:Nd×VF×Nat}
section
variable {F:List Rl}{D:List UInt8}{f p:Nat}{k:Int}
theorem Qlx(h:(Qh F k).kind=2\/(Qh F k).kind=3):XK F D (f+1) k p=rb (Q4i (Qh F k) D p) fun y=>okR (ndN y.1,.nil,y.2):=by
 rw[XK];rw[if_neg Q3,if_pos h]
theorem QoX(h:(Qh F k).kind=6):XK F D (f+1) k p=rb (Q4i (Qh F (Qh F k).count) D p) fun x=>rb (Y9 (XK F D f (Qh F k).elem) x.1.toNat x.2) fun z=>okR (ndL,z.1,z.2):=by
 rw[XK];exact QmF
def VF.cat:VF->VF->VF
 |.nil,G=>G
 |.cons d p r,G=>.cons d p (VF.cat r G)
theorem VF.cat_nil:∀A:VF,A.cat .nil=A
 |.nil=>rfl
 |.cons d p r=>by show VF.cons d p (r.cat .nil)=_;rw[VF.cat_nil r]
theorem VF.snoc_cat(d:Nd)(p:VF):∀A B:VF,(A.snoc d p).cat B=A.cat (.cons d p B)
 |.nil,B=>rfl
 |.cons d' p' r,B=>by show VF.cons d' p' ((r.snoc d p).cat B)=VF.cons d' p' (r.cat (.cons d p B));rw[VF.snoc_cat d p r B]
end
section
variable {α β γ:Type}
theorem Qk2(x:Rdg α)(g:α->Rdg β)(h:β->Rdg γ):rb (rb x g) h=rb x fun a=>rb (g a) h:=by
 cases x with
 |none=>rfl
 |some x=>cases x<;>rfl
theorem QlO(a:α)(g:α->Rdg β):rb (okR a) g=g a:=rfl
end
section
variable {one:Nat->Rdg (Nd×VF×Nat)}{D:List UInt8}{A:VF}{n f p:Nat}{stop:Int}
def V2(one:Nat->Rdg (Nd×VF×Nat))(A:VF)(n p:Nat):Rdg (VF×Nat):=rb (Y9 one n p) fun z=>okR (A.cat z.1,z.2)
theorem Q9N:V2 one .nil n p=Y9 one n p:=by
 unfold V2;cases Y9 one n p with
 |none=>rfl
 |some y=>cases y<;>rfl
theorem QdR:V2 one A 0 p=okR (A,p):=by
 unfold V2 Y9;rw[QlO,VF.cat_nil]
theorem QhN(h:one p=some (.error e)):V2 one A (n+1) p=some (.error e):=by
 unfold V2 Y9;rw[h];rfl
theorem QiA(h:one p=some (.ok y)):V2 one A (n+1) p=V2 one (A.snoc y.1 y.2.1) n y.2.2:=by
 unfold V2;rw[Y9,Qr4 h,Qk2];congr 1;funext z;rw[QlO,VF.snoc_cat]
section
variable {one:Int->Nat->Rdg (Nd×VF×Nat)}{N ns:List (List UInt8)}{ks:List Int}{nm:List UInt8}{k:Int}
end
end
end
section
variable {B g p:Nat}{D:List UInt8}{F:List Rl}{W:World}
def YO(c x:Int):List PanicEntry:=[{ v:=.iface 32 (.agg #[.int .i64 c,.int .i64 x]),recovered:=false }]
structure Rv where
 Af:Option Addr
 As:Option Addr
 Ad:Option Addr
 n:Nat
 nd:Nat
 cf:Nat
 cs:Nat
 cd:Nat
def Rv.cells(z:Rv)(p:Nat):List Value:=[.slice z.Af z.n z.cf,.slice z.As z.n z.cs,.slice z.Ad z.nd z.cd,.int .i64 (p:Int)]
abbrev Rv.obj(z:Rv)(p:Nat):Obj:=.cells (z.cells p).toArray 60 (0,0)
structure Q08(W:World)(z:Rv)(B g:Nat)(F:List Rl)(D:List UInt8)(p:Nat):Prop where
 env:Q3B W B F D z.Af z.As z.Ad z.n z.nd
 hB:B<=g
 cur:W.heap[g]? =some (z.obj p)
 hn:z.n<=z.cf
 hnd:z.nd<=z.cd
 hcd:z.cd<=maxLen
 hp:p<=D.length
 hD:D.length<=1048576
theorem Q08.lt{z:Rv}(h:Q08 W z B g F D p):g<W.heap.size:=(Array.getElem?_eq_some_iff.1 h.cur).1
theorem Q08.next{w:World}{z:Rv}{q:Nat}(h:Q08 W z B g F D p)(hk:XM [g] W w)(hq:q<=D.length)(hc:w.heap[g]? =some (z.obj q)):Q08 w z B g F D q:=
 ⟨h.env.keep h.hB h.lt hk,h.hB,hc,h.hn,h.hnd,h.hcd,hq,h.hD⟩
theorem Q08.len{W:World}{z:Rv}{B g p:Nat}{F:List Rl}{D:List UInt8}(h:Q08 W z B g F D p):D.length=z.nd/\F.length=z.n:=h.env.len
theorem Q08.wd{z:Rv}(h:Q08 W z B g F D p):Wd [g] W [.blk g (z.obj p)] W:=Wd.startB h.cur
def NmE(z:Rv)(g:Nat)(W:World)(res:Rdg (Int×Nat))(e:Ending)(w':World):Prop:=XM [g] W w'/\((∃x:Nat,res=some (.error x)/\e=.panicked (YO 1 x))\/∃n q,res=some (.ok (n,q))/\e=.returned (.int .i64 n)/\w'.heap[g]? =some (z.obj q))
def ByE(z:Rv)(B g:Nat)(W:World)(res:Rdg (List UInt8×Nat))(e:Ending)(w':World):Prop:=XM [g] W w'/\((∃x:Nat,res=some (.error x)/\e=.panicked (YO 1 x))\/∃l q A c,res=some (.ok (l,q))/\e=.returned (.slice A l.length c)/\w'.heap[g]? =some (z.obj q)/\Rd w' B 1 A l.length (bv l)/\l.length<=c)
def VlE(z:Rv)(g:Nat)(W:World)(res:Rdg (Nd×VF×Nat))(e:Ending)(w':World):Prop:=XM [g] W w'/\((∃x:Nat,res=some (.error x)/\e=.panicked (YO 1 x))\/∃d l q v L,res=some (.ok (d,l,q))/\e=.returned v/\w'.heap[g]? =some (z.obj q)/\Zn L v d l/\New L W.heap.size w')
end
abbrev Wtg:Type:=Except Nat (List UInt8×Nat)
def apW(b:List UInt8):Wtg->Wtg
 |.error e=>.error e
 |.ok (b',m)=>.ok (b++b',m)
def bnW(x:Wtg)(f:Nat->Wtg):Wtg:=match x with|.error e=>.error e|.ok (b,m)=>apW b (f m)
theorem ZG(x:Wtg):apW [] x=x:=by rcases x with e|⟨b,m⟩<;>rfl
theorem Yu(a b:List UInt8)(x:Wtg):apW a (apW b x)=apW (a++b) x:=by
 rcases x with e|⟨c,m⟩
 ·rfl
 ·show Except.ok (a++(b++c),m)=Except.ok (a++b++c,m)
  rw[List.append_assoc]
theorem QgC(a:List UInt8)(x:Wtg)(f:Nat->Wtg):apW a (bnW x f)=bnW (apW a x) f:=by
 rcases x with e|⟨c,m⟩
 ·rfl
 ·exact Yu _ _ _
theorem QoZ(x:Wtg)(f g:Nat->Wtg):bnW (bnW x f) g=bnW x fun m=>bnW (f m) g:=by
 rcases x with e|⟨c,m⟩
 ·rfl
 ·show bnW (apW c (f m)) g=apW c (bnW (f m) g)
  rw[QgC]
theorem Q9U(b:List UInt8)(m:Nat)(f:Nat->Wtg):bnW (.ok (b,m)) f=apW b (f m):=rfl
def Qs(F:List Rl)(k:Int)(d:Nd)(p:VF)(n:Nat):Wtg:=
 if X0 F (Qh F k) d p=true then apW (Zo F (Qh F k) d p) (XA F p (JE F (Qh F k) p) (Q1R F (Qh F k)) (n+1)) else .error n
def Vq(F:List Rl)(k:Int):VF->Nat->Wtg
 |.nil,n=>.ok ([],n)
 |.cons d p r,n=>bnW (Qs F k d p n) fun m=>Vq F k r m
def Vh(F:List Rl):List (List UInt8)->List Int->VF->Nat->Wtg
 |nm::nms,k::ks,l,n=>if nm=[] then apW (Qh F k).bs (Vh F nms ks l n) else match l with
  |.cons d p r=>bnW (Qs F k d p n) fun m=>Vh F nms ks r m
  |.nil=>.ok ([],n)
 |_,_,_,n=>.ok ([],n)
theorem Ke(F:List Rl)(nm:List UInt8)(nms:List (List UInt8))(k:Int)(ks:List Int)(l:VF)(n:Nat):Vh F (nm::nms) (k::ks) l n=if nm=[] then apW (Qh F k).bs (Vh F nms ks l n) else match l with
  |.cons d p r=>bnW (Qs F k d p n) fun m=>Vh F nms ks r m
  |.nil=>.ok ([],n):=by
 cases l<;>rfl
section
variable {F:List Rl}{suf b b' pre:List UInt8}{ps:List (List UInt8×Option Int)}{d:Nd}{p r:VF}{k:Int}{n:Nat}
theorem Q0A:XA F (.cons d p r) ((pre,some k)::ps) suf n=apW pre (bnW (Qs F k d p n) fun m=>XA F r ps suf m):=by
 rw[XA];unfold Qs;split
 ·generalize XA F p (JE F (Qh F k) p) (Q1R F (Qh F k)) (n+1)=x
  rcases x with e|⟨b,m⟩
  ·rfl
  ·show (match XA F r ps suf m with|.error e=>.error e|.ok (b',m')=>.ok (pre++(Zo F (Qh F k) d p++b)++b',m'))=apW pre (apW (Zo F (Qh F k) d p++b) (XA F r ps suf m))
   generalize XA F r ps suf m=y;rcases y with e|⟨b',m'⟩
   ·rfl
   ·simp [apW]
 ·rfl
theorem Kz:XA F (.cons d p .nil) [([],some k)] [] n=Qs F k d p n:=by
 rw[Q0A,ZG];generalize Qs F k d p n=x;rcases x with e|⟨b,m⟩
 ·rfl
 ·show apW b (XA F .nil [] [] m)=_
  simp [XA,apW]
theorem Q2C(suf:List UInt8):∀(l:VF) (n:Nat),XA F l (List.replicate l.len ([],some k)) suf n=bnW (Vq F k l n) fun m=>.ok (suf,m)
 |.nil,n=>by
  show XA F .nil _ suf n=apW [] (.ok (suf,n))
  rw[ZG]
  simp [XA]
 |.cons d p r,n=>by
  show XA F (.cons d p r) (([],some k)::List.replicate r.len ([],some k)) suf n=bnW (bnW (Qs F k d p n) fun m=>Vq F k r m) _
  rw[Q0A,ZG,QoZ]
  congr 1
  funext m
  exact Q2C suf r m
theorem Q5Q(x:Wtg):(bnW x fun m=>.ok ([],m))=x:=by
 rcases x with e|⟨b,m⟩
 ·rfl
 ·show Except.ok (b++[],m)=_
  rw[List.append_nil]
theorem Q2r:∀(ns:List (List UInt8)) (ks:List Int) (l:VF) (n:Nat) (acc:List UInt8),ns.length=ks.length->l.len=(QF ns).length->XA F l (Q7z F ns ks acc).1 (Q7z F ns ks acc).2 n=apW acc (Vh F ns ks l n)
 |[],[],l,n,acc,_,hl=>by
  have:l=.nil:=by cases l with|nil=>rfl|cons d p r=>simp [VF.len,QF] at hl
  subst this;simp [Q7z,Vh,XA,apW]
 |nm::ns,k::ks,l,n,acc,h1,h2=>by
  have h1':ns.length=ks.length:=by simpa using h1
  rw[Q7z,Ke];by_cases hn:nm=[]
  ·rw[if_pos hn,if_pos hn,Yu];refine Q2r ns ks l n _ h1' ?_;rw[h2,hn]
   rfl
  ·rw[if_neg hn,if_neg hn]
   have e:QF (nm::ns)=nm::QF ns:=by unfold QF;rw[List.filter_cons_of_pos (by simpa using hn)]
   rw[e] at h2;cases l with
   |nil=>simp [VF.len] at h2
   |cons d p r=>
    simp only;rw[Q0A];congr 1;congr 1;funext m;have:=Q2r ns ks r m [] h1' (by simpa [VF.len] using h2);rw[ZG] at this;exact this
def Qv:VF->Nat
 |.nil=>0
 |.cons d p r=>300+d.bs.length+Qv p+Qv r
abbrev Qy(d:Nd)(p:VF):Nat:=300+d.bs.length+Qv p
theorem Y4(h:X0 F (Qh F k) d p=false):Qs F k d p n=.error n:=by unfold Qs;rw[h];rfl
theorem Q4P(h:X0 F (Qh F k) d p=true)(hi:JE F (Qh F k) p=[])(ht:Q1R F (Qh F k)=[]):Qs F k d p n=.ok (Zo F (Qh F k) d p,n+1):=by
 unfold Qs;rw[if_pos h,hi,ht];cases p<;>simp [XA,apW]
theorem Qcj(h:X0 F (Qh F k) d p=true)(hk:(Qh F k).kind=6):Qs F k d p n=apW (Z2 (Qh F (Qh F k).count) (p.len:Int)) (Vq F (Qh F k).elem p (n+1)):=by
 unfold Qs;rw[if_pos h,Q7m (.inl hk),Q1l Q3 Q3,Q2C,Q5Q];unfold Zo;rw[if_neg Q3,if_neg Q3,if_neg Q3,if_neg Q3,if_neg Q3,if_pos hk]
theorem Qck(h:X0 F (Qh F k) d p=true)(hk:(Qh F k).kind=9):Qs F k d p n=bnW (Vq F (Qh F k).elem p (n+1)) fun m=>.ok ([ZJ (Qh F k)],m):=by
 unfold Qs;rw[if_pos h,Q7m (.inr hk),Q2C];unfold Zo Q1R;rw[if_neg Q3,if_neg Q3,if_neg Q3,if_neg Q3,if_neg Q3,if_neg Q3,if_pos hk,ZG]
theorem QcT{d1 d2:Nd}{p1 p2:VF}(h:X0 F (Qh F k) d (.cons d1 p1 (.cons d2 p2 .nil))=true)(hk:(Qh F k).kind=8):Qs F k d (.cons d1 p1 (.cons d2 p2 .nil)) n=Qs F ((Qh F k).parts.getD d1.n.toNat 0) d2 p2 (n+2):=by
 have e1:JE F (Qh F k) (.cons d1 p1 (.cons d2 p2 .nil))=[([],none),([],some ((Qh F k).parts.getD d1.n.toNat 0))]:=by
  unfold JE;rw[if_neg Q3,if_pos hk];rfl
 have e2:Zo F (Qh F k) d (.cons d1 p1 (.cons d2 p2 .nil))=[]:=by
  exact QrS
 unfold Qs;rw[if_pos h,e1,e2,Q1l Q3 Q3,ZG];rw[XA];have:=Kz (F:=F) (d:=d2) (p:=p2) (k:=(Qh F k).parts.getD d1.n.toNat 0) (n:=n+1+1);rw[this];show _=Qs F _ d2 p2 (n+1+1);generalize Qs F _ d2 p2 (n+1+1)=x;rcases x with e|⟨b,m⟩<;>rfl
theorem Qd8(h:X0 F (Qh F k) d p=true)(hk:(Qh F k).kind=7)(h1:(Qh F k).names.length=(Qh F k).parts.length)(h2:p.len=(QF (Qh F k).names).length):Qs F k d p n=Vh F (Qh F k).names (Qh F k).parts p (n+1):=by
 have e1:JE F (Qh F k) p=(Q7z F (Qh F k).names (Qh F k).parts []).1:=by
  unfold JE;rw[if_neg Q3,if_neg Q3,if_pos hk]
 have e2:Q1R F (Qh F k)=(Q7z F (Qh F k).names (Qh F k).parts []).2:=by
  unfold Q1R;rw[if_neg Q3,if_pos hk]
 have e3:Zo F (Qh F k) d p=[]:=by
  exact QrS
 unfold Qs;rw[if_pos h,e1,e2,e3,ZG,Q2r _ _ _ _ _ h1 h2,ZG]
end
section
variable {M:List Nat}{W w w':World}{O:List Qf}
theorem Wd.upd2{i j:Nat}{x x' y y':Qf}{ks:List Nat}(hij:i≠j)(h:Wd M W O w)(hx:O[i]? =some x)(hy:O[j]? =some y)(hxw:x.w=true)(hyw:y.w=true)(hxw':x'.w=true)(hyw':y'.w=true)(hk:XM ks w w')(hks:∀b∈ks,x.foot=some b\/y.foot=some b)(hx':x'.on w')(hy':y'.on w')(hfx:∀b,x'.foot=some b->x.foot=some b)(hfy:∀b,y'.foot=some b->y.foot=some b\/w.heap.size<=b):Wd M W ((O.set i x').set j y') w':=by
 have hi:i<O.length:=(List.getElem?_eq_some_iff.1 hx).1;have hj:j<O.length:=(List.getElem?_eq_some_iff.1 hy).1;have hset:∀(l:Nat) (z:Qf),((O.set i x').set j y')[l]? =some z->(l=j/\z=y')\/(l=i/\z=x')\/(l≠i/\l≠j/\O[l]? =some z):=by
  intro l z hz;rw[List.getElem?_set] at hz;by_cases hjl:j=l
  ·subst hjl;rw[if_pos rfl,if_pos (by rw[List.length_set];exact hj)] at hz
   cases hz
   exact .inl ⟨rfl,rfl⟩
  ·rw[if_neg hjl,List.getElem?_set] at hz
   by_cases hil:i=l
   ·subst hil;rw[if_pos rfl,if_pos hi] at hz
    cases hz
    exact .inr (.inl ⟨rfl,rfl⟩)
   ·rw[if_neg hil] at hz;exact .inr (.inr ⟨fun e=>hil e.symm,fun e=>hjl e.symm,hz⟩)
 have hap:∀(l:Nat) (z:Qf) (b:Nat),l≠i->l≠j->O[l]? =some z->z.foot=some b->x.foot≠some b/\y.foot≠some b:=fun l z b h1 h2 hz hf=>
  ⟨fun hfx=>h1 (h.nd l i z x b hz hx hf hfx (by rw[hxw,Bool.or_true])),fun hfy=>h2 (h.nd l j z y b hz hy hf hfy (by rw[hyw,Bool.or_true]))⟩
 have hsz:=h.k.size;refine⟨⟨hk.os.trans h.k.os,hk.tape.trans h.k.tape,hk.output.trans h.k.output,Nat.le_trans h.k.size hk.size,fun k hk1 hn=>?_⟩,?_,?_,?_⟩
 ·rw[hk.block k Q3 (fun hm=>hn (by
   rcases hks k hm with hf|hf
   ·have:=h.new i x k hx hf hk1;rwa [hxw] at this
   ·have:=h.new j y k hy hf hk1
    rwa [hyw] at this))]
  exact h.k.block k hk1 hn
 ·intro l z hz
  rcases hset l z hz with ⟨_,rfl⟩|⟨_,rfl⟩|⟨h1,h2,hz'⟩
  ·exact hy'
  ·exact hx'
  ·refine(h.own l z hz').keep hk.size fun b hf=>hk.block b ((h.own l z hz').lt hf) fun hm=>?_
   rcases hks b hm with h3|h3
   ·exact(hap l z b h1 h2 hz' hf).1 h3
   ·exact(hap l z b h1 h2 hz' hf).2 h3
 ·intro l z b hz hf hlt
  rcases hset l z hz with ⟨_,rfl⟩|⟨_,rfl⟩|⟨h1,h2,hz'⟩
  ·rcases hfy b hf with h3|h3
   ·have:=h.new j y b hy h3 hlt;rw[hyw] at this;rwa [hyw']
   ·omega
  ·have:=h.new i x b hx (hfx b hf) hlt;rw[hxw] at this;rwa [hxw']
  ·exact h.new l z b hz' hf hlt
 ·intro l l' z z' b hz hz' hf hf' hww;have hlx:=(h.own i x hx)
  rcases hset l z hz with ⟨rfl,rfl⟩|⟨rfl,rfl⟩|⟨h1,h2,hz1⟩
  ·rcases hset l' z' hz' with ⟨rfl,rfl⟩|⟨rfl,rfl⟩|⟨h1',h2',hz1'⟩
   ·rfl
   ·have h5:=hfx b hf'
    rcases hfy b hf with h3|h3
    ·exact absurd (h.nd l' l x y b hx hy h5 h3 (by rw[hxw];rfl)) hij
    ·have:=hlx.lt h5;omega
   ·rcases hfy b hf with h3|h3
    ·exact absurd h3 (hap l' z' b h1' h2' hz1' hf').2
    ·have:=(h.own l' z' hz1').lt hf';omega
  ·rcases hset l' z' hz' with ⟨rfl,rfl⟩|⟨rfl,rfl⟩|⟨h1',h2',hz1'⟩
   ·have h5:=hfx b hf
    rcases hfy b hf' with h3|h3
    ·exact absurd (h.nd l l' x y b hx hy h5 h3 (by rw[hxw];rfl)) hij
    ·have:=hlx.lt h5;omega
   ·rfl
   ·exact absurd (hfx b hf) (hap l' z' b h1' h2' hz1' hf').1
  ·rcases hset l' z' hz' with ⟨rfl,rfl⟩|⟨rfl,rfl⟩|⟨h1',h2',hz1'⟩
   ·rcases hfy b hf' with h3|h3
    ·exact absurd h3 (hap l z b h1 h2 hz1 hf).2
    ·have:=(h.own l z hz1).lt hf;omega
   ·exact absurd (hfx b hf') (hap l z b h1 h2 hz1 hf).1
   ·exact h.nd l l' z z' b hz1 hz1' hf hf' hww
end
structure Wz where
 Af:Option Addr
 n:Nat
 cf:Nat
abbrev Wz.obj(z:Wz)(A:Option Addr)(m c n:Nat):Obj:=.cells ([.slice z.Af z.n z.cf,.slice A m c,.int .i64 (n:Int)]:List Value).toArray 77 (0,0)
abbrev Kw(A:Option Addr)(c:Nat)(xs:List UInt8):Qf:=.row A xs.length c 5 1 (bv xs)
abbrev wM(g:Nat)(A:Option Addr)(m c:Nat):List Nat:=g::(Value.slice A m c).ownBlock.toList
theorem XX{g:Nat}{A:Option Addr}{c b:Nat}{xs:List UInt8}:b∈wM g A xs.length c↔b=g\/(Kw A c xs).foot=some b:=by
 unfold wM;rw[List.mem_cons];show b=g\/b∈(Kw A c xs).foot.toList↔_;rw[Option.mem_toList]
structure XV(W:World)(z:Wz)(B g:Nat)(F:List Rl)(A:Option Addr)(c:Nat)(xs:List UInt8)(n:Nat):Prop where
 fm:QS W B z.Af z.n F
 hB:B<=g
 cur:W.heap[g]? =some (z.obj A xs.length c n)
 row:(Kw A c xs).on W
 far:∀b,(Kw A c xs).foot=some b->B<=b/\b≠g
 hn:z.n<=z.cf
 gv:∀w,Below B W w->GV w
section
variable {M:List Nat}{W w w':World}{O:List Qf}{z:Wz}{B g c c' n m i j cost:Nat}{F:List Rl}{A A':Option Addr}{xs ys_v:List UInt8}{res RES:Wtg}{e:Ending}
theorem XV.lt(h:XV W z B g F A c xs n):g<W.heap.size:=(Array.getElem?_eq_some_iff.1 h.cur).1
theorem XV.len(h:XV W z B g F A c xs n):F.length=z.n:=h.fm.1
theorem XV.wd(h:XV W z B g F A c xs n):Wd (wM g A xs.length c) W [.blk g (z.obj A xs.length c n),Kw A c xs] W:=by
 refine .of_pairs (XM.refl _ _) ?_ ?_ ?_
 ·intro x hx
  simp only[List.mem_cons,List.not_mem_nil,or_false] at hx;rcases hx with rfl|rfl
  ·exact h.cur
  ·exact h.row
 ·intro x hx b hb _
  simp only[List.mem_cons,List.not_mem_nil,or_false] at hx;rcases hx with rfl|rfl
  ·cases hb;exact XX.2 (.inl rfl)
  ·exact XX.2 (.inr hb)
 ·refine List.Pairwise.cons ?_ (List.Pairwise.cons Qn List.Pairwise.nil);intro y hy b hb hb';rw[List.mem_singleton] at hy;subst hy
  cases hb
  exact absurd rfl (h.far _ hb').2
theorem XV.below(h:XV W z B g F A c xs n)(hk:XM (wM g A xs.length c) W w):Below B W w:=
 ⟨hk.os,hk.tape,hk.output,hk.size,fun k hk1=>hk.block k (by have:=h.lt;have:=h.hB;omega) fun hm=>by
  rcases XX.1 hm with rfl|hm
  ·exact Vp
  ·have:=(h.far k hm).1;omega⟩
theorem XV.next(h:XV W z B g F A c xs n)(hk:XM (wM g A xs.length c) W w)(hc:w.heap[g]? =some (z.obj A' ys_v.length c' m))(hr:(Kw A' c' ys_v).on w)(hf:∀b,(Kw A' c' ys_v).foot=some b->(Kw A c xs).foot=some b\/W.heap.size<=b):XV w z B g F A' c' ys_v m:=
 ⟨h.fm.below (h.below hk),h.hB,hc,hr,fun b hb=>by
  rcases hf b hb with h1|h1
  ·exact h.far b h1
  ·have:=h.lt;have:=h.hB;omega,h.hn,fun w' hb=>h.gv w' ((h.below hk).trans hb)⟩
theorem XV.nextW(h:XV W z B g F A c xs n)(hw:Wd (wM g A xs.length c) W O w)(i j:Nat)(hO:O[i]? =some (.blk g (z.obj A' ys_v.length c' m)))(hP:O[j]? =some (Kw A' c' ys_v)):XV w z B g F A' c' ys_v m:=
 h.next hw.k Q5a (hw.own j _ hP) fun b hb=>by
  rcases Nat.lt_or_ge b W.heap.size with hl|hl
  ·have h1:=hw.new j _ b hP hb hl;have h1:b∈wM g A xs.length c:=h1
   rcases XX.1 h1 with rfl|h2
   ·have:=hw.nd i j _ _ _ hO hP rfl hb rfl;subst this;rw[hO] at hP
    cases hP
   ·exact .inl h2
  ·exact .inr hl
def WrE(z:Wz)(g:Nat)(W:World)(A:Option Addr)(c:Nat)(xs:List UInt8)(res:Wtg)(n cost:Nat)(e:Ending)(w':World):Prop:=
 XM (wM g A xs.length c) W w'/\((∃x,res=.error x/\e=.panicked (YO 13 (x:Int)))\/∃b m A' c',res=.ok (b,m)/\e=.returned (.tuple #[])/\b.length<=cost/\m<=n+cost/\w'.heap[g]? =some (z.obj A' (xs++b).length c' m)/\(Kw A' c' (xs++b)).on w'/\∀q,(Kw A' c' (xs++b)).foot=some q->(Kw A c xs).foot=some q\/W.heap.size<=q)
def Vx(RES:Wtg)(M:List Nat)(W:World)(ch:List PanicEntry)(w':World):Prop:=∃x,RES=.error x/\ch=YO 13 (x:Int)/\XM M W w'
structure Wy where
 b:List UInt8
 m:Nat
 A:Option Addr
 c:Nat
theorem Quc(i j:Nat)(hw:Wd M W O w)(hO:O[i]? =some (.blk g (z.obj A xs.length c n)))(hP:O[j]? =some (Kw A c xs))(hk:XM (wM g A xs.length c) w w'):XM M W w':=
 hw.k.trans hk fun b hb hlt=>by
  rcases XX.1 hb with rfl|hb
  ·exact hw.new i _ _ hO rfl hlt
  ·exact hw.new j _ b hP hb hlt
theorem Q9f(i j:Nat)(hij:i≠j)(hw:Wd M W O w)(hO:O[i]? =some (.blk g (z.obj A xs.length c n)))(hP:O[j]? =some (Kw A c xs))(hx:∀x:Nat,res=.error x->RES=.error x)(h:WrE z g w A c xs res m cost e w'):JB (fun y:Wy=>.tuple #[]) (fun y=>res=.ok (y.b,y.m)/\y.b.length<=cost/\y.m<=m+cost) M W (fun y=>(O.set i (.blk g (z.obj y.A (xs++y.b).length y.c y.m))).set j (Kw y.A y.c (xs++y.b))) (Vx RES M W) e w':=by
 obtain⟨hk,⟨x,h1,h2⟩|⟨b,m',A',c',h1,h2,h3,h4,h5,h6,h7⟩⟩:=h
 ·exact .inr ⟨_,h2,x,hx x h1,rfl,Quc i j hw hO hP hk⟩
 ·exact .inl ⟨⟨b,m',A',c'⟩,h2,⟨h1,h3,h4⟩,hw.upd2 hij hO hP rfl rfl rfl rfl hk (fun q hq=>by
   rcases XX.1 hq with rfl|hq
   ·exact .inl rfl
   ·exact .inr hq) h5 h6 (fun _ h=>h) h7⟩
theorem Ye(h:XV W z B g F A c xs n)(i j:Nat){b:List UInt8}(hw:Wd (wM g A xs.length c) W O w)(hO:O[i]? =some (.blk g (z.obj A' (xs++b).length c' m)))(hP:O[j]? =some (Kw A' c' (xs++b)))(hr:res=.ok (b,m))(hb:b.length<=cost)(hm:m<=n+cost):WrE z g W A c xs res n cost (.returned (.tuple #[])) w:=
 ⟨hw.k,.inr ⟨b,m,A',c',hr,rfl,hb,hm,hw.own i _ hO,hw.own j _ hP,fun q hq=>by
  rcases Nat.lt_or_ge q W.heap.size with hl|hl
  ·have h1:=hw.new j _ q hP hq hl;have h1:q∈wM g A xs.length c:=h1
   rcases XX.1 h1 with rfl|h2
   ·have:=hw.nd i j _ _ _ hO hP rfl hq rfl;subst this;rw[hO] at hP
    cases hP
   ·exact .inl h2
  ·exact .inr hl⟩⟩
end
section
variable {b:Bool}{p:Prop}
section
variable {P:Program}{ops:Array Oper}{Q0:Act->Prop}{Q:Exit->Act->World->Prop}{N:Nat}{E:Env}{o:Oper}{rest:List Oper}{M:List Nat}{W:World}{O:List Qf}{d:Nat}
theorem Va[dq:DQ](hp:b=true↔p)(h1:oE P ops (Wd M W O) N E ((d,.bool b)::E) o)(ht:p->lE P ops Q N M W ((d,.bool true)::E) O rest)(hf:¬p->lE P ops Q N M W ((d,.bool false)::E) O rest):lE P ops Q N M W E O (o::rest):=by
 cases b with
 |true=>exact Q4 h1 (ht (hp.1 rfl))
 |false=>exact Q4 h1 (hf fun h=>by have:=hp.2 h;cases this)
theorem Q5R[dq:DQ](hp:b=true↔p)(h1:oE P ops (Wd M W O) N E ((d,.bool b)::E) o)(ht:p->qE P ops (Wd M W O) Q0 N ((d,.bool true)::E) rest)(hf:¬p->qE P ops (Wd M W O) Q0 N ((d,.bool false)::E) rest):qE P ops (Wd M W O) Q0 N E (o::rest):=by
 cases b with
 |true=>exact Qe h1 (ht (hp.1 rfl))
 |false=>exact Qe h1 (hf fun h=>by have:=hp.2 h;cases this)
theorem Q1m[Decidable p]:decide p=true↔p:=decide_eq_true_iff
theorem Qax:b=true↔b=true:=Iff.rfl
theorem Qb[dq:DQ]{y:Code}(h:sE P Q N M W E O y):xE (Exit.then (fun a w=>y.wp P Q a w) Q) N M W E O .normal:=fun a w ha hw=>h a w ha hw
end
end
section
variable {w:World}{x:Qf}{ι:Type}
section
variable {P:Program}{Q:Exit->Act->World->Prop}{N:Nat}{M:List Nat}{W:World}{E:Env}{O:List Qf}
theorem Xu{c:Code}(p:ι->Prop)(m:ι->Nat)(F:ι->Env)(G:ι->List Qf)(i0:ι)(h0:p i0)(hE:Q7h E (F i0))(hG:∀w,Wd M W O w->Wd M W (G i0) w)
  (hr:∀i,p i->sE P (Exit.then (QfU p m (m i) N M W F G) Q) N M W (F i) (G i) c):sE P Q N M W E O (.loop c):=fun a w ha hw=>by
 refine wp_loop_ghost (fun n a w=>∃i,p i/\m i=n/\Ag N (F i) a/\Wd M W (G i) w) (m i0) ⟨i0,h0,rfl,hE.ag ha,hG w hw⟩ ?_;rintro n a w ⟨i,hp,rfl,ha,hw⟩;refine wp_mono (hr i hp a w ha hw) ?_;intro e a' w' hq;cases e with
 |normal=>
  exact Qqt
 |exit id=>exact hq
 |goto l=>exact hq
 |ret=>exact hq
 |panic ch=>exact hq
 |outgrown=>exact hq
theorem Qx{p:ι->Prop}{m:ι->Nat}{n:Nat}{F:ι->Env}{G:ι->List Qf}(j:ι)(hp:p j)(hm:m j<n)(hE:Q7h E (F j))(hG:∀w,Wd M W O w->Wd M W (G j) w):xE (Exit.then (QfU p m n N M W F G) Q) N M W E O .normal:=fun a w ha hw=>
 ⟨j,hp,hm,hE.ag ha,hG w hw⟩
end
theorem Wd.tl{M:List Nat}{W:World}{O:List Qf}(h:Wd M W (x::O) w):Wd M W O w:=
 ⟨h.k,fun i y hy=>h.own (i+1) y hy,fun i y b hy hb hl=>h.new (i+1) y b hy hb hl,fun i j y z b hy hz hb hb' hw=>by have:=h.nd (i+1) (j+1) y z b hy hz hb hb' hw;omega⟩
theorem Wd.no2{M:List Nat}{W:World}{y:Qf}{O:List Qf}(h:Wd M W (x::y::O) w):Wd M W (x::O) w:=
 ⟨h.k,fun i z hz=>by
  cases i with
  |zero=>exact h.own 0 z hz
  |succ i=>exact h.own (i+2) z hz,fun i z b hz hb hl=>by
  cases i with
  |zero=>exact h.new 0 z b hz hb hl
  |succ i=>exact h.new (i+2) z b hz hb hl,fun i j z u b hz hu hb hb' hw=>by
  cases i with
  |zero=>
   cases j with
   |zero=>rfl
   |succ j=>have:=h.nd 0 (j+2) z u b hz hu hb hb' hw;omega
  |succ i=>
   cases j with
   |zero=>have:=h.nd (i+2) 0 z u b hz hu hb hb' hw;omega
   |succ j=>have:=h.nd (i+2) (j+2) z u b hz hu hb hb' hw;omega⟩
end
section
variable {t t':TypeId}{x:Operand}
instance iXFzH_1:TN Tryz.prog 155 3:=⟨_,Tryz.underlying155,rfl,by kernel_rfl⟩
instance iXFzH_2:Fld Tryz.prog 155 0 0:=⟨_,_,1,Tryz.underlying155,rfl,rfl,by kernel_rfl,by decide⟩
instance iXFzH_3:Fld Tryz.prog 155 1 1:=⟨_,_,1,Tryz.underlying155,rfl,rfl,by kernel_rfl,by decide⟩
instance iXFzH_4:Fld Tryz.prog 155 2 2:=⟨_,_,1,Tryz.underlying155,rfl,rfl,by kernel_rfl,by decide⟩
section
variable {P:Program}{ops:Array Oper}{C:World->Prop}{N:Nat}{E:Env}{o:Oper}{d:Nat}
theorem Qvc{p:Addr}(ho:o.op=.nilCheck x)(hd:o.dst=some d)(hN:d<N)(hw:Qo ops E o=some true)(hx:ev E x=some (.pointer (some p))):oE P ops C N E ((d,.pointer (some p))::E) o:=
 Xi hd hN hw fun ρ w ha _=>by simp [execOp,ho,ha.eval hx,go_sem]
end
section
variable {M:List Nat}{W w:World}{O:List Qf}{br bw q N k c:Nat}{bad:Bool}{ws ns:List (List UInt8)}{A:Option Addr}
end
end
theorem Q1N(c i:Int)(w:World):Calls Tryz.prog 29 #[.int .i64 c,.int .i64 i] w fun e w'=>e=.returned (.agg #[.int .i64 c,.int .i64 i])/\w.alloc (.cells #[.int .i64 c,.int .i64 i] 32)=w':=by
 go_enter Tryz.func29,Tryz.ntmps29;go_wp2
 exact bodyPost_ret (v:=.agg #[.int .i64 c,.int .i64 i]) (by simp [results,Tryz.results29,go_sem]) rfl ⟨rfl,rfl⟩
theorem Qci(x:Int)(w:World):Calls Tryz.prog 33 #[.int .i64 x] w fun e w'=>e=.panicked (YO 1 x)/\Below w.heap.size w w':=by
 go_enter Tryz.func33,Tryz.ntmps33;go_wp2_with fail
 refine(Q1N _ _ _).mono ?_;rintro e w' ⟨rfl,rfl⟩;go_wp2_with fail
 exact⟨rfl,rfl,JN _ _⟩
theorem Q7v{M:List Nat}{W w:World}{O:List Qf}{B:List PanicEntry->World->Prop}{x:Int}(hw:Wd M W O w)(hB:∀w',Wd M W O w'->B (YO 1 x) w'):Calls Tryz.prog 33 #[.int .i64 x] w (JB (ι:=Empty) (fun i=>i.elim) (fun _=>True) M W (fun i=>i.elim) B):=
 (Qci x w).mono fun e w' h=>.inr ⟨_,h.1,hB w' (hw.on h.2)⟩
theorem Q08.cell{W:World}{z:Rv}{B g p:Nat}{F:List Rl}{D:List UInt8}(h:Q08 W z B g F D p):W.cell? ⟨g,0,none⟩=some (.slice z.Af z.n z.cf)/\W.cell? ⟨g,1,none⟩=some (.slice z.As z.n z.cs)/\W.cell? ⟨g,2,none⟩=some (.slice z.Ad z.nd z.cd)/\W.cell? ⟨g,3,none⟩=some (.int .i64 (p:Int)):=by
 have hc:=h.cur;refine⟨?_,?_,?_,?_⟩<;>(rw[cell_of_row W g _ _ _ _ hc];rfl)
section
variable {W:World}{z:Rv}{B g p:Nat}{F:List Rl}{D:List UInt8}
end
theorem Qfc{w:World}{B n c p m:Nat}{A:Option Addr}{D:List UInt8}(h:Rd w B 1 A n (bv D))(hk:p+m<=n)(hc:n<=c):((D.drop p).take m).length=m/\Rd w B 1 (ZY A c p 1) ((D.drop p).take m).length (bv ((D.drop p).take m)):=by
 have hl:D.length=n:=by have:=h.len;rw[QM] at this;exact this
 have e:((D.drop p).take m).length=m:=by rw[List.length_take,List.length_drop];omega
 refine⟨e,?_⟩;have:=h.cut (k:=p) (m:=m) (c:=c) hk hc;rw[Nat.mul_one,Nat.mul_one] at this;rw[e];have e2:bv ((D.drop p).take m)=((bv D).drop p).take m:=by unfold bv;rw[List.map_take,List.map_drop]
 rw[e2];exact this
section
variable {W:World}{z:Rv}{B g p:Nat}{F:List Rl}{D:List UInt8}
theorem Qef(h:Q08 W z B g F D p){n:Int}(h0:0<=n)(hn:n<=9223372036854775807):Calls Tryz.prog 63 #[.pointer (some ⟨g,0,none⟩),.int .i64 n] W (ByE z B g W (KL D p n)):=by
 have H:=Q2 h;obtain⟨_,_,hc2,hc3⟩:=h.cell;have hwd:=h.wd;have hl:=h.len.1;have hp:=h.hp;have hD:=h.hD;have hcd:=h.hnd;clear h;by_cases hlong:(D.length:Int) - p<n
 ·have HT:=Q2 (show KL D p n=some (.error D.length) by unfold KL;rw[if_pos hlong];rfl);rw[hl] at hlong;clear hwd;obtain⟨Af,As,Ad,nn,nd,cf,cs,cd⟩:=z
  simp only at hc2 hc3 hl hlong;go_enter Tryz.func63,Tryz.ntmps63;haveI:Pan (bodyPost Tryz.prog Tryz.f63 (ByE ⟨Af,As,Ad,nn,nd,cf,cs,cd⟩ B g W (KL D p n))) (fun ch w'=>ch=YO 1 (nd:Int)/\Below W.heap.size W w'):=Pan.body fun ch w' hb=>⟨(XM.of_below hb.2),.inl ⟨D.length,HT.out,by rw[hb.1,hl]⟩⟩;refine Qz (M:=[]) (W:=W) (N:=48) (E:=[Yq,(1,.int .i64 n)]) (O:=[]) ?_ mc3 QR;refine yq<|yr<|yo zA<|yl<|yn<|yq<|yq<|Xm Q5 Q5 ?_;refine Q60 ?_;refine Qe mc5 ?_;refine Qe zF ?_;refine Qe zC ?_;refine Qe zL ?_;refine Qcf ?_;refine Qe zC ?_;refine Qe zQ ?_;refine Qe zgt ?_;refine JW ?_;refine yn<|y1<|yr<|yo zM ?_;refine Q4 mc5 ?_;refine yo zF<|yo zC<|yo zL ?_;exact Q0V (J9 _ _ _ rfl rfl rfl (fun w hw=>Q7v hw (fun w' hw'=>⟨rfl,hw'.k.below⟩))) rfl Q1 (fun i=>i.elim)
 ·obtain⟨m,rfl⟩:∃m:Nat,n=(m:Int):=QdH;have HT:=Q2 (show KL D p (m:Int)=some (.ok ((D.drop p).take m,p+m)) by unfold KL;rw[if_neg hlong];rfl);rw[hl] at hlong
  have hm:p+m<=z.nd:=by omega
  obtain⟨Af,As,Ad,nn,nd,cf,cs,cd⟩:=z;simp only at hl hlong hm hcd;go_enter Tryz.func63,Tryz.ntmps63;refine Qz (M:=[g]) (W:=W) (N:=48) (E:=[Yq,(1,.int .i64 (m:Int))]) (O:=Qrk) ?_ mc3 hwd;clear hwd hc2 hc3;refine yq<|yr<|yo zA<|yl<|yn<|yq<|yq<|Xm Q5 Q5 ?_;refine Q60 ?_;refine Qe mc5 ?_;refine QaV ?_;refine Qe zL ?_;refine Qcf ?_;refine Qe (zB 0) ?_;refine Qe zQ ?_;refine Qe zgf ?_;refine JW ?_;refine yn<|y0<|ys<|yn<|yq<|Xm Q5 Q5 ?_;refine Qcf ?_;refine Qe (zB 0) ?_;refine Qcf ?_;refine Qe (zB 0) ?_;refine Qcf ?_;refine Qe (zB 0) ?_;refine Qe zM ?_;refine Qe zP ?_;refine Qe (Qp3 (l:=p) (h:=p+m) rfl rfl Q1 rfl rfl rfl rfl Q3 Q3) ?_;refine Q05 ?_;refine yn<|yq<|yr<|yo zM ?_;refine Q4 mc5 ?_;refine yo zF<|yo (zB 0)<|yo zM<|yo zP ?_;refine Q4 mc5 ?_;refine yo zF ?_;refine yS 0 ?_;refine yl<|yn<|yq<|yr<|yo zM<|yo zA<|yl<|yn<|yt ?_;refine Q7 mc4 rfl (.tmp rfl) (fun w hw=>⟨hw.k,.inr ⟨(D.drop p).take m,p+m,ZY Ad cd p 1,cd - p,HT.out,?_,hw.blkH,?_,?_⟩⟩)
  ·have hd:=H.out.env.dt;rw[(Qfc (c:=cd) hd hm hcd).1]
   show Ending.returned (.slice (ZY Ad cd p 1) (p+m - p) (cd - p))=_;rw[show p+m - p=m by omega]
  ·have hd:=(H.out.env.keep H.out.hB H.out.lt hw.k).dt;exact(Qfc hd hm hcd).2
  ·rw[(Qfc (c:=cd) H.out.env.dt hm hcd).1]
   omega
end
section
variable {b c:UInt8}{bs l:List UInt8}{i:Nat}{w:World}
section
variable {W:World}{z:Rv}{B g p:Nat}{F:List Rl}{D:List UInt8}
theorem QgL{B n:Nat}{A:Option Addr}(h:Rd w B 1 A n (bv bs))(hb:bs[i]? =some b):∃q o,A=some ⟨q,o,none⟩/\q<B/\w.cell? ⟨q,o+i,none⟩=some (.int .u8 (b.toNat:Int)):=by
 have hi:i<bs.length:=(List.getElem?_eq_some_iff.1 hb).1;have hl:bs.length=n:=by have:=h.len;rw[QM] at this;exact this
 obtain⟨q,o,e,hq,hc⟩:=h.2 Q3;refine⟨q,o,e,hq,hc i _ ?_⟩;unfold bv;rw[List.getElem?_map,hb];rfl
end
end
section
variable {c:UInt8}{k:Nat}{size stop:Int}
section
variable {W:World}{z:Rv}{B g p:Nat}{F:List Rl}{D:List UInt8}
theorem Q9t(c:UInt8):IntKind.i64.wrap (c.toNat:Int)=(c.toNat:Int):=IntWalk.i64_in _ (by have:=c.toNat_lt;omega)
end
end
theorem Wd.wroteAt{M:List Nat}{W w w':World}{O:List Qf}{g:Nat}{o o':Obj}(i:Nat)(h:Wd M W O w)(hO:O[i]? =some (.blk g o))(hk:XM [g] w w')(ho:w'.heap[g]? =some o'):Wd M W (O.set i (.blk g o')) w':=
 h.upd hO rfl rfl ⟨hk.os,hk.tape,hk.output,hk.size,fun k hk1 hn=>hk.block k hk1 (by
  simp only[List.mem_singleton]
  intro e;subst e
  exact hn rfl)⟩ ho (fun b hb=>.inl hb)
theorem XM.cell{W w:World}{g B:Nat}{q:Addr}(h:XM [g] W w)(hB:B<=g)(hg:g<W.heap.size)(hq:q.block<B):w.cell? q=W.cell? q:=
 World.cell?_of_block (h.block q.block Q3 Q9d)
theorem Rd.back{W w:World}{g B s n:Nat}{A:Option Addr}{xs:List Value}(h:Rd w B s A n xs)(hk:XM [g] W w)(hB:B<=g)(hg:g<W.heap.size):Rd W B s A n xs:=
 h.keep fun q hq=>(hk.cell hB hg hq).symm
theorem XM.thenK{W w w':World}{g:Nat}(h:XM [g] W w)(k:XM [g] w w'):XM [g] W w':=h.trans k fun b hb _=>hb
abbrev Q5Z{α:Type}(RES:Rdg α)(g:Nat)(W:World)(ch:List PanicEntry)(w':World):Prop:=∃x:Nat,RES=some (.error x)/\ch=YO 1 x/\XM [g] W w'
section
variable {W w w':World}{z:Rv}{B g p i:Nat}{F:List Rl}{D:List UInt8}{O:List Qf}{o:Obj}{e:Ending}{α:Type}{RES:Rdg α}
theorem Qjo{res:Rdg (Int×Nat)}(i:Nat)(hO:O[i]? =some (.blk g o))(hw:Wd [g] W O w)(hx:∀x:Nat,res=some (.error x)->RES=some (.error x))(h:NmE z g w res e w'):JB (fun y:Int×Nat=>.int .i64 y.1) (fun y=>res=some (.ok y)) [g] W (fun y=>O.set i (.blk g (z.obj y.2))) (Q5Z RES g W) e w':=by
 obtain⟨hk,⟨x,h1,h2⟩|⟨n,q,h1,h2,h3⟩⟩:=h
 ·exact Qn5
 ·exact .inl ⟨(n,q),h2,h1,hw.wroteAt i hO hk h3⟩
theorem QtP{res:Rdg (List UInt8×Nat)}(i:Nat)(hO:O[i]? =some (.blk g o))(hw:Wd [g] W O w)(hx:∀x:Nat,res=some (.error x)->RES=some (.error x))(hB:B<=g)(hg:g<W.heap.size)(h:ByE z B g w res e w'):JB (fun y:(List UInt8×Nat)×Option Addr×Nat=>.slice y.2.1 y.1.1.length y.2.2) (fun y=>res=some (.ok y.1)/\Rd W B 1 y.2.1 y.1.1.length (bv y.1.1)/\y.1.1.length<=y.2.2) [g] W (fun y=>O.set i (.blk g (z.obj y.1.2))) (Q5Z RES g W) e w':=by
 obtain⟨hk,⟨x,h1,h2⟩|⟨l,q,A,c,h1,h2,h3,h4,h5⟩⟩:=h
 ·exact Qn5
 ·exact .inl ⟨((l,q),A,c),h2,⟨h1,h4.back (hw.k.thenK hk) hB hg,h5⟩,hw.wroteAt i hO hk h3⟩
theorem Q6X(h:Q08 W z B g F D p){r:Rl}{sb sn sp:Value}(hr:JO r)(h2:r.kind=2):Calls Tryz.prog 61 #[.pointer (some ⟨g,0,none⟩),.agg (ruC r sb sn sp).toArray] W (NmE z g W (Q4i r D p)):=by
 have H:=Q2 h;have hwd:=h.wd;have hp:=h.hp;have hD:=h.hD;have HNO:=Q2 hr;have hnum:=hr.num;obtain⟨RES,hres⟩:∃x,Q4i r D p=x:=⟨_,rfl⟩;have HR0:=Q2 hres;rw[hres];clear h hr hres;obtain⟨name,kind,bs,size,big,mn,mx,stop,count,elem,names,parts⟩:=r;obtain⟨Af,As,Ad,nn,nd,cf,cs,cd⟩:=z;simp only at h2 hnum
 simp only[ruC];go_enter Tryz.func61,Tryz.ntmps61;haveI:Pan (bodyPost Tryz.prog Tryz.f61 (NmE ⟨Af,As,Ad,nn,nd,cf,cs,cd⟩ g W RES)) (Q5Z RES g W):=Pan.body fun ch w' ⟨x,h1,h2,h3⟩=>VY
 refine Qz (M:=[g]) (W:=W) (N:=57) (E:=[Yq,QrN]) (O:=Qrk) ?_ mc3 hwd;clear hwd;subst h2
 obtain⟨hs1,hs4,hm0,hmm,hmx⟩:=hnum rfl;obtain⟨sz,rfl⟩:∃sz:Nat,size=(sz:Int):=Qeb;have HRE:=Q2 (show RES=rb (KL D p (sz:Int)) fun y=>if X3 big y.1<mn\/mx<X3 big y.1 then erR p else okR (X3 big y.1,y.2) by rw[<- HR0.out];unfold Q4i;rw[if_neg (show ¬(2:Int)=3 by decide)]);clear hnum;refine yq<|yr ?_;refine yB fun b3=>?_;refine yo zA<|yl<|yn<|yq<|yq<|yr<|yo zF<|yo (zB 0)<|yo zef<|yl<|yn<|y0<|ys<|yn<|yq<|yr<|yo zM ?_;refine Q4 mc5 ?_;refine yo zF<|yo (zB 1)<|yo zA<|yl<|yn<|yq<|yr<|yo zA<|yl<|yn<|yq<|yq<|yr<|yo zM<|yo zF<|yo (zB 0) ?_;refine Q0V (J9 _ _ _ rfl rfl rfl (fun w hw=>(Qef (H.out.next hw.k hp Q5n) (n:=(sz:Int)) Q3 Q3).mono (fun e w' h=>QtP 1 rfl hw (fun x hx=>by rw[HRE.out,hx];rfl) H.out.hB H.out.lt h))) rfl Q1 (fun y hy=>?_);refine yo zL<|yo zM<|yl<|yn<|yb ?_;obtain⟨⟨l,q⟩,A,c⟩:=y;obtain⟨hy1,hyr,hyc⟩:=hy;obtain⟨hlq,_⟩:=Q0T hy1
 have hll:l.length<=4:=by
  have:l=(D.drop p).take ((sz:Int)).toNat:=congrArg Prod.fst hlq;rw[this,List.length_take];omega
 have HRF:=Q2 (show RES=if X3 big l<mn\/mx<X3 big l then erR p else okR (X3 big l,q) by rw[HRE.out,hy1];rfl);have HYR:=Q2 hyr;clear hy1 hyr hlq;refine Xu (ι:=Nat) (fun i=>i<=l.length) (fun i=>l.length - i) (fun i=>[(0,.pointer (some ⟨g,0,none⟩)),(3,.pointer (some ⟨b3,0,none⟩)),(5,.int .i64 (p:Int)),(6,.int .i64 (X3 big (l.take i))),(22,.slice A l.length c),(23,.int .i64 (l.length:Int)),(24,.int .i64 (i:Int))]) (fun i=>[.blk b3 (.cells ([.string ⟨name.toArray⟩,.int .i64 2,sb,.int .i64 (sz:Int),.bool big,.int .i64 mn,.int .i64 mx,.int .i64 stop,.int .i64 count,.int .i64 elem,sn,sp]:List Value).toArray 65 (0,0)),.blk g (.cells ([.slice Af nn cf,.slice As nn cs,.slice Ad nd cd,.int .i64 (q:Int)]:List Value).toArray 60 (0,0))]) 0 (Nat.zero_le _) (.cons rfl rfl (.cons rfl rfl (.cons rfl rfl (.cons rfl (by rw[List.take_zero];cases big<;>rfl) (.cons rfl rfl (.cons rfl rfl (.cons rfl rfl .nil))))))) (fun w hw=>hw) ?_;intro i hi;show sE _ _ _ _ _ [(0,.pointer (some ⟨g,0,none⟩)),(3,.pointer (some ⟨b3,0,none⟩)),(5,.int .i64 (p:Int)),(6,.int .i64 (X3 big (l.take i))),(22,.slice A l.length c),(23,.int .i64 (l.length:Int)),(24,.int .i64 (i:Int))] [.blk b3 (.cells ([.string ⟨name.toArray⟩,.int .i64 2,sb,.int .i64 (sz:Int),.bool big,.int .i64 mn,.int .i64 mx,.int .i64 stop,.int .i64 count,.int .i64 elem,sn,sp]:List Value).toArray 65 (0,0)),.blk g (.cells ([.slice Af nn cf,.slice As nn cs,.slice Ad nd cd,.int .i64 (q:Int)]:List Value).toArray 60 (0,0))] _;by_cases hin:i<l.length
 ·obtain⟨b,hb⟩:∃b,l[i]? =some b:=⟨_,List.getElem?_eq_getElem hin⟩;obtain⟨qb,ob,rfl,hqB,hcell⟩:=QgL HYR.out hb
  have hqg:¬qb=g:=by have:=H.out.hB;omega
  have hcv:=Q9t b;have htl:(l.take i).length=i:=by rw[List.length_take];omega
  have htk:l.take i++[b]=l.take (i+1):=by rw[List.take_add_one,hb];rfl
  cases big with
  |true=>
   obtain⟨s1,s2,s3,s4⟩:=Qo3 (l:=l.take i) (c:=b) Q3;rw[htk] at s2;refine Qrx ?_;refine yo zA<|yo zA<|yl<|yn<|yq<|yr<|yo zF<|yo (zB 0)<|yl<|yn<|y1<|yr<|yo zM ?_;refine Q4 (Qrh rfl rfl Q1 rfl rfl rfl Q1 s1 Q3) ?_;refine yo zM ?_;refine Q4 Qv6 ?_;refine Q4 (QuF rfl rfl Q1 rfl rfl rfl s2) ?_;refine Qa9 ?_;refine Qx (i+1) hin Qri Q1T Zc
  |false=>
   obtain⟨s1,s2,s3,s4⟩:=Qdq (l:=l.take i) (c:=b) Q3;rw[htk] at s2;rw[htl] at s1 s2 s3 s4;refine Qrx ?_;refine yo zA<|yo zA<|yl<|yn<|yq<|yr<|yo zF<|yo (zB 0)<|yl<|yn<|y0<|yr<|yo zM<|yo zM ?_;refine Q4 Qv6 ?_;refine yo zM ?_;refine Q4 Qi7 ?_;refine Q4 (Qrh rfl rfl Q1 rfl rfl rfl Q3 s1 Q3) ?_;refine Q4 (QuF rfl rfl Q1 rfl rfl rfl s2) ?_;refine Qa9 ?_;refine Qx (i+1) hin Qri Q1T Zc
 ·have hil:i=l.length:=by omega
  subst hil;rw[List.take_length];by_cases hlo:X3 big l<mn
  ·have HE:=Q2 (show RES=some (.error p) by rw[HRF.out,if_pos (.inl hlo)];rfl);refine yq<|yr<|yo zlf<|yl<|yn<|yq<|y0<|ye<|yn<|yq<|yq<|yr<|yo zM<|yo zF<|yo (zB 0)<|yo zlt<|yo zM<|yo zS<|yo zS<|yo zS<|yo zS<|yo zY<|yl<|yn<|y1<|yr<|yo zM ?_;exact QsM
  ·by_cases hhi:mx<X3 big l
   ·have HE:=Q2 (show RES=some (.error p) by rw[HRF.out,if_pos (.inr hhi)];rfl);refine yq<|yr<|yo zlf<|yl<|yn<|yq<|y0<|ye<|yn<|yq<|yq<|yr<|yo zM<|yo zF<|yo (zB 0)<|yo zlf<|yo zM<|yo zM<|yo zF<|yo (zB 0)<|yo zgt<|yo zN<|yl<|yn<|y1<|yr<|yo zM ?_;exact QsM
   ·have HE:=Q2 (show RES=some (.ok (X3 big l,q)) by rw[HRF.out,if_neg Q3];rfl);refine yq<|yr<|yo zlf<|yl<|yn<|yq<|y0<|ye<|yn<|yq<|yq<|yr<|yo zM<|yo zF<|yo (zB 0)<|yo zlf<|yo zM<|yo zM<|yo zF<|yo (zB 0)<|yo zgf<|yo zN<|yl<|yn<|y0<|ys<|yn<|yq<|yr<|yo zM<|yo zA<|yl<|yn<|yt ?_;exact Q7 mc4 rfl (.tmp rfl) (fun w hw=>⟨hw.k,.inr ⟨X3 big l,q,HE.out,rfl,hw.own 1 _ rfl⟩⟩)
end
section
variable {A:Option Addr}{c n:Nat}{w:World}
theorem Qp5{t e:TypeId}(h:Tryz.prog.underlying t=some (.slice e))(w:World)(a:Option Addr)(n c:Nat):(binOp .eql t (.slice a n c) (.slice none 0 0)).run Tryz.prog w=.ok (.bool a.isNone) w:=by
 simp only[binOp];simp [Op.equal,Op.maxDepth,Lib.run_equalIn_slice_nil w 9999 t e a n c 0 0 h]
theorem Qiq(w:World)(e:TypeId):(w.alloc (.cells #[] e)).ownsRow w.heap.size e 1 (.slice (some ⟨w.heap.size,0,none⟩) 0 0) 0 []:=
 ⟨rfl,.inr ⟨w.heap.size,0,#[],rfl,Nat.le_refl _,heap_alloc_new w _,Nat.le_refl _,Nat.zero_le _,rfl,rfl⟩⟩
def Q8H(w:World)(n:Nat)(xs:List (List UInt8))(e:Ending)(w':World):Prop:=∃A c,e=.returned (.slice A n c)/\w'.ownsRow w.heap.size 9 1 (.slice A n c) n (sv xs)/\Below w.heap.size w w'
theorem Qag{xs:List (List UInt8)}(h:Rd w w.heap.size 1 A n (sv xs))(hn:n<=1048576):Calls Tryz.prog 111 #[.slice A n c] w (Q8H w n xs):=by
 have heq:=Qp5 Tryz.underlying27;rcases A with _|ad
 ·have h0:n=0:=by
   rcases Nat.eq_zero_or_pos n with h0|h0
   ·exact h0
   ·obtain⟨b,o,e,_⟩:=h.2 h0;cases e
  subst h0;have hx:=h.empty;have HX:=Q2 hx;clear h hx;go_enter Tryz.func111,Tryz.ntmps111;go_wp2_with fail
  go_ret;exact ⟨none,0,rfl,by rw[HX.out];exact World.ownsRow_nil _ _ _ _,Below.refl _ _⟩
 ·have HR:=Q2 h;clear h
  go_enter Tryz.func111,Tryz.ntmps111;go_wp2_with (at_builtin;refine Z6 _ slS rfl (.tmp 5) (.tmp 6) rfl w.heap.size _ 0 0 [] rfl (Qiq w _) w.heap.size (some ad) n c (sv xs) rfl (HR.out.below (JN _ _)) (Qtc _) Q3 (by simp only[QB];omega) (JN _ _) (Nat.le_refl _) ?_;intro A2 c2 w2 hown2 _ hb2;simp only[Nat.zero_add,List.nil_append] at hown2)
  go_ret;exact⟨A2,c2,by simp,hown2,hb2⟩
end
section
variable {A:Option Addr}{c n:Nat}
theorem Qav(A:Option Addr)(n c:Nat)(w:World):Calls Tryz.prog 59 #[.slice A n c] w fun e w'=>e=.returned (.agg #[.int .i64 3,.int .i64 0,.slice none 0 0,.slice none 0 0,.slice A n c])/\Below w.heap.size w w':=by
 go_enter Tryz.func59,Tryz.ntmps59;go_wp2
 exact bodyPost_ret (v:=.agg #[.int .i64 3,.int .i64 0,.slice none 0 0,.slice none 0 0,.slice A n c]) (by simp [results,Tryz.results59,go_sem]) rfl QcH
theorem Qbi(n:Int)(w:World):Calls Tryz.prog 60 #[.int .i64 n] w fun e w'=>e=.returned (.agg #[.int .i64 1,.int .i64 n,.slice none 0 0,.slice none 0 0,.slice none 0 0])/\Below w.heap.size w w':=by
 go_enter Tryz.func60,Tryz.ntmps60;go_wp2
 exact bodyPost_ret (v:=.agg #[.int .i64 1,.int .i64 n,.slice none 0 0,.slice none 0 0,.slice none 0 0]) (by simp [results,Tryz.results60,go_sem]) rfl QcH
end
section
variable {res:Rdg Nat}
section
variable {P:Program}{ops:Array Oper}{Q:Exit->Act->World->Prop}{N:Nat}{E E':Env}{o:Oper}{rest:List Oper}{M:List Nat}{W:World}{O O0:List Qf}{d:Nat}{B:List PanicEntry->World->Prop}{T:List Nat}{f:Nat}{listed:Array Bool}
theorem QhA(k:Nat)(hB:Region.ready .any ops listed=[k])(ho:ops[k]? =some o)(hT:Qm M W O0 O)(h1:oE P ops (Wd M W O) N E E' o)(h2:dP P ops Q N M W O0 T B f (listed.setIfInBounds k true) E' O):dP P ops Q N M W O0 T B (f+1) listed E O:=fun hcl a ha=>by
 refine⟨fun h0=>absurd Q8O Qn,fun i hi=>?_⟩;rw[hB] at hi;rw[List.mem_singleton] at hi;subst hi;have hr':i∈Region.ready .any ops listed:=by rw[hB];exact Qdu
 have h:=h1 a ha;have key:∀{v:Value},Zj P ops (Wd M W O) o a v->Ag N E' (a.put o.dst v)->stepPn P ops (Wd M W O0) T B i a (Wd M W O) (QaD P ops (Wd M W O0) T B Q f (listed.setIfInBounds i true)):=fun hq hE=>by
  have h0:=Zj.stepPn (P:=P) (ops:=ops) (T:=T) (B:=B) (C0:=Wd M W O) (D:=Wd M W O) (K:=QaD P ops (Wd M W O0) T B Q f (listed.setIfInBounds i true)) ho hq Wd.stb Zc (h2 Q3a _ hE);unfold stepPn at h0 ⊢;simp only[ho] at h0 ⊢;rcases h0 with h0|⟨hw,ι,V,G,h1,h2,h3⟩
  ·exact .inl h0
  ·refine .inr ⟨hw,ι,V,G,h1,fun x=>⟨(h2 x).1,?_⟩,h3⟩
   rcases (h2 x).2 with hx|hx
   ·exact .inl hx
   ·exact .inr fun w hw=>hT w (hx w hw)
 split at h
 ·rename_i hw
  obtain⟨v,hv,hE⟩:=h;exact key (.inl ⟨hw,hv⟩) hE
 ·rename_i hw
  exact key Qh2 h
end
section
variable {W w w':World}{z:Rv}{B g p i:Nat}{F:List Rl}{D:List UInt8}{O:List Qf}{o:Obj}{e:Ending}{α:Type}{RES:Rdg α}
theorem Yr{A:Option Addr}{n s:Nat}{xs:List Value}{m:Nat}(h:(Qf.rd A n s xs).on w)(hf:∀b,(Qf.rd A n s xs).foot=some b->m<=b):New [.rd A n s xs] m w:=
 ⟨by simp [Qf.w],fun x hx=>by rw[List.mem_singleton] at hx;subst hx;exact h,fun x hx b hb=>by rw[List.mem_singleton] at hx;subst hx;exact hf b hb⟩
theorem Q08.af(h:Q08 W z B g F D p)(hn:0<z.n):∃b o,z.Af=some ⟨b,o,none⟩:=by
 obtain⟨b,o,e,_⟩:=h.env.fm.2 hn;exact⟨b,o,e⟩
theorem Qfb(hv:Fm F)(f:Nat){k:Int}(hk:0<=k/\k<F.length)(h:Q08 W z B g F D p)(hkind:(Qh F k).kind=2):
  Calls Tryz.prog 32 #[.pointer (some ⟨g,0,none⟩),.int .i64 k] W (VlE z g W (XK F D (f+1) k p)):=by
 have H:=Q2 h;have hwd:=h.wd;have hp:=h.hp;have hD:=h.hD;have hFn:=h.len.2;have hr:=hv.toUsd.rok hk;obtain⟨RES,hres⟩:∃x,XK F D (f+1) k p=x:=⟨_,rfl⟩;have e23:=fun h=>(Qlx (F:=F) (D:=D) (f:=f) (p:=p) (k:=k) h).symm.trans hres;rw[hres];obtain⟨Af,As,Ad,nn,nd,cf,cs,cd⟩:=z;simp only at hFn;obtain⟨bf,of,haf⟩:=h.af VX;simp only at haf;subst haf;obtain⟨hbB,Ab,cb,An,cn,Ap,cp,hrg,hru⟩:=h.env.fm.ruleB (k:=k) Yx;have hbg:¬bf=g:=by have:=h.hB;omega
 have hkn:0<=k/\k<(nn:Int):=by omega
 clear h hres;obtain⟨r,er⟩:∃r,Qh F k=r:=⟨_,rfl⟩;rw[er] at hkind hr hrg hru e23;clear er;have HRK:=Q2 hr;have HRU:=Q2 hru;clear hru;obtain⟨name,kind,bs,size,big,mn,mx,stop,count,elem,names,parts⟩:=r;simp only[ruC] at hkind hr hrg e23;have HRB:=Q3Z;go_enter Tryz.func32,Tryz.ntmps32;haveI:Pan (bodyPost Tryz.prog Tryz.f32 (VlE ⟨some ⟨bf,of,none⟩,As,Ad,nn,nd,cf,cs,cd⟩ g W RES)) (Q5Z RES g W):=Pan.body fun ch w' ⟨x,h1,h2,h3⟩=>VY
 refine Qz (M:=[g]) (W:=W) (N:=181) (E:=[Yq,Q29]) (O:=QsU) ?_ mc3 hwd;clear hwd;refine yq<|yr ?_;refine yB fun b2=>?_;refine yA fun b4=>?_;refine Qv2 ?_;refine yA fun b5=>?_;refine yW 0 ?_;refine yl<|yn<|yq<|yq<|yr<|yo zF<|yo (zB 0)<|yl ?_;subst hkind
 have HE:=Q2 (e23 (.inl rfl));clear e23;refine yn<|yb<|yq<|yr<|yo zef<|yo zA<|yl<|yn<|y0<|yq<|yq<|yr<|yo zet<|yo zA<|yl<|yn<|y1<|ys<|yn<|y1<|yq<|yr<|yo (zB 2)<|yo (zD 0) ?_;refine Q0V (J9 _ _ _ rfl rfl rfl (fun w hw=>(Q6X Qs8 (JO.of HRK.out (.inl rfl)) rfl).mono (fun e w' h=>Qjo 3 rfl hw Qsn h))) rfl Q1 (fun y hy=>?_);refine Q4 (Ql rfl rfl Q1 rfl rfl (fun w hw=>Qbi _ w)) ?_;refine yW 1 ?_;refine yl<|yn<|yt<|yk<|yc ?_;exact Q7 mc4 rfl Kl (fun w hw=>⟨hw.k,.inr ⟨ndN y.1,.nil,y.2,_,[],by rw[<- HE.out,hy];rfl,rfl,hw.own 3 _ rfl,Zn.num _,New.nil _ _⟩⟩)
end
end
section
variable {A:Option Addr}{W w:World}{b c n s:Nat}{e:TypeId}{xs:List Value}
def QjN(W:World)(l:List Int)(p:Int×Int)(e:Ending)(w':World):Prop:=∃A c,e=.returned (.tuple #[.slice A l.length c,.agg #[.int .i64 p.1,.int .i64 p.2]])/\(Qf.rd A l.length 1 (iv l)).on w'/\(∀b,(Qf.rd A l.length 1 (iv l)).foot=some b->W.heap.size<=b)/\l.length<=c/\Below W.heap.size W w'
theorem Q3p(h:(Qf.row A n c e s xs).on w)(hb:(Qf.rd A n s xs).foot=some b):(Qf.row A n c e s xs).foot=some b:=by
 have h':w.ownsRow 0 e s (.slice A n c) n xs:=h;simp only[Qf.foot] at hb ⊢;split at hb
 ·cases hb
 ·rename_i hn
  rcases h'.2 with ⟨hv,_⟩|⟨g,cap,cur,hv,_⟩
  ·simp only[Value.slice.injEq] at hv
   exact absurd hv.2.1 hn
  ·rw[hv]
   simp only[Value.slice.injEq] at hv;rw[hv.1] at hb;exact hb
theorem Wd.newRow{O:List Qf}{i:Nat}(h:Wd [] W O w)(hO:O[i]? =some (.row A n c e s xs))(hb:(Qf.rd A n s xs).foot=some b):W.heap.size<=b:=by
 rcases Nat.lt_or_ge b W.heap.size with hl|hl
 ·have:=h.new i _ b hO (Q3p (h.own i _ hO) hb) hl
  exact Q2D
 ·exact hl
theorem Qa5{F:List Rl}{k:Int}(hf:QS W W.heap.size A n F)(hs:FSm F)(hc:n<=c)(hg:GV W):
  Calls Tryz.prog 23 #[.agg #[.slice A n c],.int .i64 k] W (QjN W (Q2K F k) (Q5B F k)):=by
 have hlen:F.length=n:=hf.1;have HFM:=Q2 hf;have HS:=Q2 hs;have HG:=Q2 hg;have HLEN:=Q2 hlen;clear hf hs hg hlen;obtain⟨⟨a,b⟩,hab⟩:∃p,Q5B F k=p:=⟨_,rfl⟩;have HC:=Q2 hab;rw[hab];clear hab;go_enter Tryz.func23,Tryz.ntmps23;refine Qz (M:=[]) (W:=W) (N:=34) (E:=[VD,Q29]) (O:=[]) ?_ mc3 QR;by_cases hz:a=0/\b=0
 case neg=>
  have hne:(!(a==0&&b==0))=true:=by
   refine Qhn ?_;omega
  repeat(first|refine Q4 zM ?_|refine Q4 zA ?_|refine Q4 (zD 0) ?_|refine Q4 (zD 1) ?_|refine Qd YT rfl Q1 (fun bf _=>?_)|refine Qd Q5d rfl Q1 (fun b2 _=>?_)|(refine Q4 Qqr ?_)|(refine QD Q3V rfl (fun _ _=>?_);rw[QO (by rfl)])|refine Q4 mc6 ?_|refine Q4 QhE ?_|refine Qg ?_|refine Qa ?_|refine Q6 ?_|refine Q9 rfl ?_)
  refine Qs6 ?_;refine X6 2 Q5 rfl rfl Q3v JR rfl (fun _ _=>?_);rw[QO (by rfl)];refine X8 ?_ Q5;refine QC (Qk ?_);have hff:Q2K F k=[]:=by
   unfold Q2K;rw[HC.out,if_neg (fun h=>hz (by simpa using h))]
  rw[hff];exact ZS mc4 rfl (.tmp rfl) Kl (fun w hw=>⟨none,0,rfl,⟨rfl,fun h=>absurd h Q1⟩,fun b hb=>(by simp [Qf.foot] at hb),Nat.le_refl _,hw.k.below⟩)
 case pos=>
  obtain⟨rfl,rfl⟩:=hz;have hff:Q2K F k=Ko F k:=by
   unfold Q2K;rw[HC.out,if_pos rfl]
  rw[hff];clear hff;obtain⟨hfa,hk0,hkn⟩:=Qt5 HC.out;have hch:=Qj7 hfa;have hlo:=QdX hch;have hn0:=hlo.1;have hn40:=hlo.2;rw[HLEN.out] at hn0 hn40 hkn;have HF:=Q2 (Q6Q hch).fok;clear hlo hch hfa;obtain⟨st,hst⟩:∃st,(Yi F).getD k.toNat XH=st:=⟨_,rfl⟩;unfold Ko;rw[hst];have HST:=Q2 hst;clear hst;have hk2:0<=k/\k<(n:Int):=⟨hk0,hkn⟩;repeat(first|refine Q4 zM ?_|refine Q4 zA ?_|refine Q4 (zD 0) ?_|refine Q4 (zD 1) ?_|refine Q4 (zD 2) ?_|refine Qd YT rfl Q1 (fun bf _=>?_)|refine Qd Q5d rfl Q1 (fun b2 _=>?_)|(refine Q4 Qqr ?_)|(refine QD Q3V rfl (fun _ _=>?_);rw[QO (by rfl)])|refine Q4 mc6 ?_|refine Q4 Qgp ?_|refine Qd Qs1 rfl Q1 (fun y _=>?_)|refine Q4 (QG rfl rfl Q1 rfl rfl rfl hk2) ?_|(refine Q4 (X4 (cs:=QP st) rfl rfl Q1 rfl rfl (fun w hw=>by rw[<- HST.out];exact QtS Kj ((Q7C F).trans HLEN.out) Q3) (Xj _)) ?_)|refine Qg ?_|refine Qa ?_|refine Q6 ?_|refine Qp ?_|refine Q8 rfl ?_|refine Qi ?_)
  rename_i b3 _ _ _ _ _;refine Q16 3 1 ?_;refine QK (ι:=Nat×Option Addr×Nat) (fun y=>y.1<=256) (fun y=>256 - y.1) (fun y=>[(5,.pointer (some ⟨b3,0,none⟩)),(7,.slice y.2.1 (Yl st y.1).length y.2.2),(21,.agg (QP st).toArray),(22,.int .i64 (y.1:Int))]) (fun y=>[.row y.2.1 (Yl st y.1).length y.2.2 3 1 (iv (Yl st y.1)),.blk b3 Qs5]) (0,none,0) [0,3] Q1 Z4 mc1 rfl ?_;rintro⟨i,A',c'⟩ hi;have hi':i<=256:=hi;clear hi;have hsl:=Qn4 st i;show sE _ _ _ _ _ [(5,.pointer (some ⟨b3,0,none⟩)),(7,.slice A' (Yl st i).length c'),(21,.agg (QP st).toArray),(22,.int .i64 (i:Int))] [.row A' (Yl st i).length c' 3 1 (iv (Yl st i)),.blk b3 Qs5] _;by_cases hin:i<256
  ·obtain⟨s,hs⟩:∃s,st i=s:=⟨_,rfl⟩
   have hcell:(QP st)[i]? =some (.bool s):=by rw[ZI st hin,hs]
   have HSI:=Q2 hs;clear hs;cases s with
   |true=>
    repeat(first|refine Q4 zM ?_|refine Q4 zA ?_|refine Q4 (Q3j (v:=.bool true) rfl rfl Q1 rfl rfl rfl hin hcell) ?_|refine Qd (J4 (size:=1) (cs:=[.int .i64 (i:Int)]) rfl rfl rfl rfl rfl Q1) rfl Q1 (fun bn _=>?_)|refine Qd (Zt (news:=[.int .i64 (i:Int)]) 1 rfl rfl rfl rfl rfl Q84 Qen Q3) rfl Q1 (fun yz _=>?_)|refine Qg ?_|refine Qa ?_|refine Q6 ?_|refine Qp ?_|refine Q9 rfl ?_|refine Qi ?_|refine Q4 zlt ?_|refine Q4 zP ?_)
    refine Qt (i+1,yz.1,yz.2) [1,2] Q1 hin Qqv (.cons rfl rfl (.cons rfl ?_ Qeu)) ?_
    ·rw[<- Qce HSI.out,List.length_append]
     rfl
    ·show [Qf.row yz.1 ((Yl st i).length+1) yz.2 _ _ (iv (Yl st i)++iv [(i:Int)]),_]=[Qf.row yz.1 (Yl st (i+1)).length yz.2 _ _ (iv (Yl st (i+1))),_]
     rw[<- Qce HSI.out,List.length_append,QlV];rfl
   |false=>
    have hno:=QoV HSI.out;repeat(first|refine Q4 zM ?_|refine Q4 zA ?_|refine Q4 (Q3j (v:=.bool false) rfl rfl Q1 rfl rfl rfl hin hcell) ?_|refine Qg ?_|refine Qa ?_|refine Q6 ?_|refine Qp ?_|refine Q9 rfl ?_|refine Q8 rfl ?_|refine Qi ?_|refine Q4 zlt ?_|refine Q4 zP ?_)
    refine Qt (i+1,A',c') [0,1] Q1 hin Qqv (.cons rfl rfl (.cons rfl ?_ Qeu)) ?_
    ·rw[<- hno]
    ·show [Qf.row A' (Yl st i).length c' _ _ (iv (Yl st i)),_]=[Qf.row A' (Yl st (i+1)).length c' _ _ (iv (Yl st (i+1))),_]
     rw[<- hno];rfl
  ·obtain rfl:i=256:=by omega
   repeat(first|refine Q4 zM ?_|refine Q4 zA ?_|refine Q4 mc6 ?_|(refine QD Q3v rfl (fun _ _=>?_);rw[QO (by rfl)])|refine Qg ?_|refine Qa ?_|refine Q6 ?_|refine Q8 rfl ?_|refine Xx ?_|refine QC ?_|refine Q4 zlf ?_)
   exact ZS mc4 rfl (.tmp rfl) Kl (fun w hw=>⟨A',c',rfl,(row_rd Kj Q1).1,fun b hb=>Wd.newRow (i:=0) hw rfl hb,(row_rd Kj Q1).2,hw.k.below⟩)
end
section
variable {A:Option Addr}{c m n s:Nat}{t:TypeId}{xs:List Value}
def Q3T(L:List Qf)(m:Nat):Prop:=∀x∈L,x.w=false/\∀b,x.foot=some b->m<=b
theorem Q3T.nil(m:Nat):Q3T [] m:=fun x hx=>by cases hx
theorem Q3T.app{L L':List Qf}(h:Q3T L m)(h':Q3T L' m):Q3T (L++L') m:=fun x hx=>(List.mem_append.1 hx).elim (h x) (h' x)
theorem Q3T.new{L:List Qf}{w:World}(h:Q3T L m)(hw:∀x∈L,x.on w):New L m w:=⟨fun x hx=>(h x hx).1,hw,fun x hx=>(h x hx).2⟩
section
variable {M:List Nat}{W w w':World}{z:Rv}{B g p i:Nat}{F:List Rl}{D:List UInt8}{O L:List Qf}{o o':Obj}{e:Ending}{α:Type}{RES:Rdg α}
theorem Wd.wroteAtL(i:Nat)(h:Wd M W O w)(hO:O[i]? =some (.blk g o))(hk:XM [g] w w')(ho:w'.heap[g]? =some o')(hL:New L w.heap.size w'):Wd M W (O.set i (.blk g o')++L) w':=by
 refine(h.wroteAt i hO hk ho).addL (m:=w.heap.size) h.k.size (fun x hx b hb=>?_) hL;rcases List.mem_or_eq_of_mem_set hx with hx|rfl
 ·exact(h.onAll x hx).lt hb
 ·cases hb
  exact(Array.getElem?_eq_some_iff.1 (h.own i _ hO)).1
structure Vy where
 r:Nd×VF×Nat
 Ab:Option Addr
 nb:Nat
 cb:Nat
 An:Option Addr
 nn:Nat
 cn:Nat
 Ap:Option Addr
 np:Nat
 cp:Nat
 L:List Qf
abbrev Vy.cells(y:Vy):List Value:=[.int .i64 y.r.1.k,.int .i64 y.r.1.n,.slice y.Ab y.nb y.cb,.slice y.An y.nn y.cn,.slice y.Ap y.np y.cp]
theorem Qu9{res:Rdg (Nd×VF×Nat)}(i:Nat)(hO:O[i]? =some (.blk g o))(hw:Wd [g] W O w)(hx:∀x:Nat,res=some (.error x)->RES=some (.error x))(h:VlE z g w res e w'):JB (fun y:Vy=>.agg (y.cells).toArray) (fun y=>res=some (.ok y.r)/\Zn y.L (.agg (y.cells).toArray) y.r.1 y.r.2.1/\Q3T y.L W.heap.size) [g] W (fun y=>O.set i (.blk g (z.obj y.r.2.2))++y.L) (Q5Z RES g W) e w':=by
 obtain⟨hk,⟨x,h1,h2⟩|⟨d,l,q,v,L,h1,h2,h3,h4,h5⟩⟩:=h
 ·exact Qn5
 ·obtain⟨sb,sn,sp,rfl,hd⟩:=h4.vin h5.on;obtain⟨Ab,nb,cb,An,nn,cn,Ap,cp,rfl,rfl,rfl,_⟩:=hd;exact .inl ⟨⟨(d,l,q),Ab,nb,cb,An,nn,cn,Ap,l.len,cp,L⟩,h2,Qrv,hw.wroteAtL i hO hk h3 h5⟩
theorem QpG(i j:Nat)(hw:Wd [g] W O w)(hO:O[i]? =some (.row A n c t s xs))(hg:O[j]? =some (.blk g o))(hij:i≠j):New [.rd A n s xs] W.heap.size w:=by
 refine Yr (Rd.of_own Q5a) fun b hb=>?_;rcases Nat.lt_or_ge b W.heap.size with hl|hl
 ·have hf:=Q3p Q5a hb;have h1:b∈[g]:=hw.new i _ b hO hf hl;rw[List.mem_singleton] at h1;subst h1;exact absurd (hw.nd i j _ _ b hO hg hf rfl rfl) hij
 ·exact hl
theorem Q1f(i:Nat)(hw:Wd M W O w)(hO:O[i]? =some (.row A n c t s xs)):n<=c/\c<=maxLen:=by
 have h:w.ownsRow 0 t s (.slice A n c) n xs:=hw.own i _ hO;rcases h.2 with ⟨hv,h0⟩|⟨g,cap,cur,hv,_,hg,h1,h2,_,ht⟩
 ·simp only[Value.slice.injEq] at hv
  omega
 ·simp only[Value.slice.injEq] at hv
  omega
theorem Qe9{one:Nat->Rdg (Nd×VF×Nat)}{A:VF}{p:Nat}{γ:Type}{gg:VF×Nat->Rdg γ}(h:∃r,rb (V2 one A (n+1) p) gg=some r):∃y,one p=some y:=by
 obtain⟨r,h⟩:=h;cases h1:one p with
 |none=>unfold V2 at h;rw[Y9,h1] at h;cases h
 |some y=>exact⟨y,rfl⟩
theorem QpQ(y:Vy)(w:World):(Instr.buildSlice 28 1 #[(0,.agg (y.cells).toArray)]).run Tryz.prog w=.ok (.slice (some ⟨w.heap.size,0,none⟩) 1 1) (w.alloc (.cells (y.cells).toArray 30)):=by
 have hT:SlT Tryz.prog 28 30 5 88:=QqO;obtain⟨i,z,hi,hz,hsz,hby,hzs⟩:=hT.info;refine run_buildSlice w _ _ 1 _ (y.cells).toArray i z hT.und hi hz KP KP ?_;rw[hsz];have hZ:∀Z:Array Value,Z.size=5->Instr.fill (fun i=>some (i*5,5)) Z [(0,.agg (y.cells).toArray)]=some (y.cells).toArray:=by
  rintro⟨l⟩ h;match l,h with
  |[z0,z1,z2,z3,z4],_=>rfl
 exact hZ _ Qn
end
end
section
variable {W w w':World}{z:Rv}{B g p i:Nat}{F:List Rl}{D:List UInt8}{O:List Qf}{o:Obj}{e:Ending}{α:Type}{RES:Rdg α}{k:Int}
def IHv(z:Rv)(B g:Nat)(F:List Rl)(D:List UInt8)(f:Nat):Prop:=∀(W:World) (k:Int) (p:Nat),0<=k/\k<F.length->Q08 W z B g F D p->(∃y,XK F D f k p=some y)->Calls Tryz.prog 32 #[.pointer (some ⟨g,0,none⟩),.int .i64 k] W (VlE z g W (XK F D f k p))
structure El where
 A:VF
 cs:List Value
 Ar:Option Addr
 c:Nat
 L:List Qf
 q:Nat
 n:Nat
theorem QpA(hF:∀k:Int,0<=k/\k<F.length->(Qh F k).kind=2\/(Qh F k).kind=6)(hv:Fm F)(f:Nat)(IH:IHv z B g F D f)(hsome:∃y,XK F D (f+1) k p=some y)(hk:0<=k/\k<F.length)(h:Q08 W z B g F D p)(hkind:(Qh F k).kind=6):
  Calls Tryz.prog 32 #[.pointer (some ⟨g,0,none⟩),.int .i64 k] W (VlE z g W (XK F D (f+1) k p)):=by
 have H:=Q2 h;have hwd:=h.wd;have hp:=h.hp;have hD:=h.hD;have hFn:=h.len.2;have hr:=hv.toUsd.rok hk;obtain⟨RES,hres⟩:∃x,XK F D (f+1) k p=x:=⟨_,rfl⟩;have e6:=(QoX (F:=F) (D:=D) (f:=f) (p:=p) (k:=k) hkind).symm.trans hres;have hno:=hv.numOk hk Q0Z;have hcnt:=hr.count Q0Z;have HK2:=Q2 (show (Qh F (Qh F k).count).kind=2 by have:=hF _ hcnt;have:=hno.kind;omega)
 have hel:=hr.elem Q0Z;rw[hres] at hsome ⊢;have HS:=Q2 hsome;have HIH:=Q2 IH;obtain⟨Af,As,Ad,nn,nd,cf,cs,cd⟩:=z;simp only at hFn;obtain⟨bf,of,haf⟩:=h.af VX;simp only at haf;subst haf;obtain⟨hbB,Ab,cb,An,cn,Ap,cp,hrg,hru⟩:=h.env.fm.ruleB (k:=k) Yx;have hbg:¬bf=g:=by have:=h.hB;omega
 have hkn:0<=k/\k<(nn:Int):=by omega
 clear h hres hsome IH;have hfar:Far (XK F D f (Qh F k).elem) D.length:=VR hv.toUsd f hel;obtain⟨r,er⟩:∃r,Qh F k=r:=⟨_,rfl⟩;rw[er] at HK2 hkind hr hrg hru e6 hcnt hel hno hfar;clear er;have HRK:=Q2 hr;have HRU:=Q2 hru;obtain⟨hbB2,Ab2,cb2,An2,cn2,Ap2,cp2,hrg2,hru2⟩:=H.out.env.fm.ruleB (k:=r.count) Yx;have HRU2:=Q2 hru2;have HNO:=Q2 hno;clear hru hru2 hno;obtain⟨name,kind,bs,size,big,mn,mx,stop,count,elem,names,parts⟩:=r;simp only[ruC] at hkind hr hrg e6 hcnt hel hrg2 hfar;have HRB:=Q3Z;go_enter Tryz.func32,Tryz.ntmps32;haveI:Pan (bodyPost Tryz.prog Tryz.f32 (VlE ⟨some ⟨bf,of,none⟩,As,Ad,nn,nd,cf,cs,cd⟩ g W RES)) (Q5Z RES g W):=Pan.body fun ch w' ⟨x,h1,h2,h3⟩=>VY
 refine Qz (M:=[g]) (W:=W) (N:=181) (E:=[Yq,Q29]) (O:=QsU) ?_ mc3 hwd;clear hwd;refine yq<|yr ?_;refine yB fun b2=>?_;refine yA fun b4=>?_;refine Qv2 ?_;refine yA fun b5=>?_;refine yW 0 ?_;refine yl<|yn<|yq<|yq<|yr<|yo zF<|yo (zB 0)<|yl ?_;subst hkind;have HE:=Q2 e6;clear e6;refine yn<|yb<|yq<|yr<|yo zef<|yo zA<|yl<|yn<|y0<|yq<|yq<|yr<|yo zef<|yo zA<|yl<|yn<|y0<|yr<|yo zef<|yo zA<|yl<|yn<|y0<|yq<|yr<|yo zef<|yo zA<|yl<|yn<|y0<|yq<|yr<|yo zef<|yo zA<|yl<|yn<|y0<|yq<|yr<|yo zef<|yo zA<|yl<|yn<|y0<|yq<|yr<|yo zet<|yo zA<|yl<|yn<|y1<|yq<|yr<|yo zA<|yl<|yn<|yq<|yq ?_;refine Q3f (B:=Q5Z RES g W) [.blk b2 (.cells #[.pointer Q6S] 56 (0,0)),.blk b5 QfT] [] Q5 ?_ ?_
 ·infer_instance
 refine ZT 0 rfl Q5 Q02 (zB 0) ?_;refine ZT 1 rfl Q5 Q02 (zB 0) ?_;refine ZT 2 rfl Q5 Q02 mc5 ?_;refine ZT 3 rfl Q5 Q02 zF ?_;refine ZT 4 rfl Q5 Q02 zF ?_;refine ZT 6 rfl Q5 Q02 zF ?_;refine ZT 7 rfl Q5 Q02 (zB 1) ?_;refine QhA 5 Q5 rfl Q02 (zB 3) ?_;refine QhA 8 Q5 rfl Q02 (QG rfl rfl Q1 rfl rfl rfl (show 0<=count/\count<(nn:Int) by omega)) ?_;refine QhA 9 Q5 rfl Q02 (X4 rfl rfl Q1 rfl rfl (fun w hw=>hw.range_old hrg2 (by simpa using hbg)) rfl) ?_;refine QhC 10 Q5 rfl rfl (J9 _ _ _ rfl rfl rfl (fun w hw=>(Q6X Qs8 HNO.out HK2.out).mono (fun e w' h=>Qjo 3 rfl hw Qsn h))) (fun i=>.inr Q02) rfl Q1 (fun x hx=>?_);refine QhA 11 Q5 rfl Q02 zA ?_;refine QgW ?_ Q5;have hx1:=Q11 HNO.out.numK hp hx;have hx2:=QpW HNO.out hp hx;have HX:=Q2 (show RES=rb (V2 (XK F D f elem) .nil x.1.toNat x.2) fun z=>okR (ndL,z.1,z.2) by rw[<- HE.out,Qr4 hx,Q9N]);refine yn<|yb ?_;refine Xu (ι:=El) (fun y=>Q1U y.L y.cs y.A/\Q3T y.L W.heap.size/\y.q<=D.length/\y.A.len+y.n<=4294967296/\RES=rb (V2 (XK F D f elem) y.A y.n y.q) fun z=>okR (ndL,z.1,z.2)) (fun y=>y.n) (fun y=>[Q1v,Q0C,Q0k,(6,.slice y.Ar y.A.len y.c),(7,.int .i64 (y.n:Int))]) (fun y=>.row y.Ar y.A.len y.c 30 5 y.cs::.blk b5 QfT::.blk b4 QsJ::.blk b2 Qsw::.blk g (.cells ([.slice Vz nn cf,.slice As nn cs,.slice Ad nd cd,.int .i64 (y.q:Int)]:List Value).toArray 60 (0,0))::y.L) ⟨.nil,[],none,0,[],x.2,x.1.toNat⟩ ⟨.nil,.nil _,hx1.2,by show 0+x.1.toNat<=_;omega,HX.out⟩ Yj (by exact fun w hw=>hw.row _ _) ?_;rintro⟨A,cs',Ar,c,L,q,n⟩ ⟨hF,hL,hq,hn,hres⟩;replace hn:A.len+n<=4294967296:=hn;replace hq:q<=D.length:=hq;have HF:=Q2 hF;have HL:=Q2 hL;have HR:=Q2 hres;clear hF hL hres;show sE _ _ _ _ _ [Q1v,Q0C,Q0k,(6,.slice Ar A.len c),(7,.int .i64 (n:Int))] (.row Ar A.len c 30 5 cs'::.blk b5 QfT::.blk b4 QsJ::.blk b2 Qsw::.blk g (.cells ([.slice Vz nn cf,.slice As nn cs,.slice Ad nd cd,.int .i64 (q:Int)]:List Value).toArray 60 (0,0))::L) _;cases n with
 |zero=>
  have HZ:=Q2 (show RES=some (.ok (ndL,A,q)) by rw[HR.out,QdR];rfl);refine yq<|yq<|yr<|yo zM<|yo zgf<|yl<|yn<|y0<|ye<|yn<|yq<|yr<|yo zM ?_;refine Q4 (Ql rfl rfl Q1 rfl rfl (fun w hw=>Qav _ _ _ w)) ?_;refine yW 2 ?_;refine yl<|yn<|yt<|yk<|yc ?_;refine Q7 mc4 rfl Qg2 (fun w hw=>⟨hw.k,.inr ⟨ndL,A,q,_,.rd Ar A.len 5 cs'::L,HZ.out,rfl,hw.own 4 _ rfl,Zn.list HF.out (Q1f 0 hw rfl).1 (Q1f 0 hw rfl).2,?_⟩⟩);exact(QpG 0 4 hw rfl rfl Q1).app (HL.out.new fun x hx=>hw.onAll x (by simp [hx]))
 |succ n=>
  obtain⟨q1,hy1⟩:=Qe9 (one:=XK F D f elem) (A:=A) (n:=n) (p:=q) (gg:=fun z:VF×Nat=>okR (ndL,z.1,z.2)) (by rw[<- HR.out];exact HS.out);have HY:=Q2 hy1;clear hy1;refine yq<|yq<|yr<|yo zM<|yo zgt<|yl<|yn<|y1<|ys<|yn<|yq<|yb<|yr<|yo zM<|yo (zB 3)<|yo zF<|yo (zB 1) ?_;refine Q0V (J9 _ _ _ rfl rfl rfl (fun w hw=>(HIH.out w elem q hel (H.out.next hw.k hq (hw.own 4 _ rfl)) ⟨q1,HY.out⟩).mono (fun e w' h=>Qu9 4 rfl hw (fun x hx=>by rw[HR.out,QhN hx];rfl) h))) rfl Q1 (fun y hy=>?_);refine Qd (VJ (xs:=[(0,.tmp 89)]) (vs:=[(0,.agg (y.cells).toArray)]) (cells:=y.cells) rfl rfl rfl (QpQ y)) rfl Q1 (fun bn _=>?_);refine Qd Qr2 rfl Q1 (fun z _=>?_);refine yo zA<|yl<|yn<|yr<|yo zM<|yo zQ<|yo zA<|yl ?_;refine Qx ⟨A.snoc y.r.1 y.r.2.1,cs'++y.cells,z.1,z.2,L++y.L,y.r.2.2,n⟩ ⟨HF.out.snoc hy.2.1,HL.out.app hy.2.2,(hfar q y.r hq hy.1).2,by show (A.snoc _ _).len+n<=_;rw[VF.len_snoc];omega,by rw[HR.out,QiA hy.1]⟩ (Nat.lt_succ_self n) (.cons rfl rfl (.cons rfl rfl (.cons rfl rfl (.cons rfl (by rw[VF.len_snoc]) (.cons rfl (congrArg (Value.int .i64) (show ((n+1:Nat):Int) - 1=(n:Int) by omega)) .nil))))) (fun w hw=>?_);have h:=hw.tl;simp only[VF.len_snoc];exact h
end
section
variable {f:Nat->Option (Nat×Nat)}
theorem Qi1(o:Nat):∀(l:List Value) (k:Nat) (a:List Value),(l.zipIdx k).foldl (fun cs (x:Value×Nat)=>cs.setIfInBounds (o+x.2) x.1) a.toArray=(ZL a (o+k) l).toArray:=by
 intro l;induction l with
 |nil=>intro k a;rfl
 |cons x l ih=>
  intro k a;rw[List.zipIdx_cons,List.foldl_cons,ZL];have e:a.toArray.setIfInBounds (o+k) x=(a.set (o+k) x).toArray:=by simp
  show (l.zipIdx (k+1)).foldl _ (a.toArray.setIfInBounds (o+k) x)=_;rw[e];exact ih (k+1) (a.set (o+k) x)
theorem Q0Y{Z cs:List Value}{i o n:Nat}{v:Value}{rest:List (Nat×Value)}(hf:f i=some (o,n))(hv:v.cells=cs.toArray)(hl:cs.length=n)(hz:o+n<=Z.length):Instr.fill f Z.toArray ((i,v)::rest)=Instr.fill f (ZL Z o cs).toArray rest:=by
 have e:v.cells.zipIdx.foldl (fun cs (x:Value×Nat)=>cs.setIfInBounds (o+x.2) x.1) Z.toArray=(ZL Z o cs).toArray:=by
  rw[hv,<- Array.foldl_toList];have h1:=Qi1 o cs 0 Z;simpa using h1
 have hs1:v.cells.size=n:=by rw[hv,List.size_toArray,hl]
 have hc:¬(v.cells.size≠n\/o+v.cells.size>Z.toArray.size):=by rw[hs1,List.size_toArray];omega
 rw[Instr.fill,hf];dsimp only;rw[if_neg (by simpa using hc)];exact congrArg (fun z=>Instr.fill f z rest) e
theorem Qcw{Z:Array Value}:Instr.fill f Z []=some Z:=by rw[Instr.fill]
end
section
variable {P:Program}{ops:Array Oper}{Q:Exit->Act->World->Prop}{N:Nat}{E E':Env}{o:Oper}{M:List Nat}{W:World}{O O0:List Qf}{T:List Nat}{f:Nat}{listed:Array Bool}
theorem Qr5(k:Nat)(hB:Region.ready .any ops listed=[k])(ho:ops[k]? =some o)(hT:k∈T\/Qm M W O0 O)(h1:oE P ops (Wd M W O) N E E' o)(h2:dE P ops Q N M W O0 T f (listed.setIfInBounds k true) E' O):dE P ops Q N M W O0 T (f+1) listed E O:=fun hcl a ha=>by
 refine⟨fun h0=>absurd Q8O Qn,fun i hi=>?_⟩;rw[hB] at hi;rw[List.mem_singleton] at hi;subst hi;have hr':i∈Region.ready .any ops listed:=by rw[hB];exact Qdu
 have h:=h1 a ha;have key:∀{v:Value},Zj P ops (Wd M W O) o a v->Ag N E' (a.put o.dst v)->Yg P ops (Wd M W O0) T i a (Wd M W O) (Q5y P ops (Wd M W O0) T Q f (listed.setIfInBounds i true)):=fun hq hE=>by
  have h0:=Zj.step (P:=P) (ops:=ops) (T:=T) (C0:=Wd M W O) (D:=Wd M W O) (K:=Q5y P ops (Wd M W O0) T Q f (listed.setIfInBounds i true)) ho hq Wd.stb Zc (h2 Q3a _ hE);unfold Yg at h0 ⊢;simp only[ho] at h0 ⊢;rcases h0 with h0|⟨hw,ι,V,G,h1,h2,h3⟩
  ·exact .inl h0
  ·refine .inr ⟨hw,ι,V,G,h1,fun x=>⟨(h2 x).1,?_⟩,h3⟩
   rcases (h2 x).2 with hx|hx
   ·exact .inl hx
   ·exact hT.imp id fun hT w hw=>hT w (hx w hw)
 split at h
 ·rename_i hw
  obtain⟨v,hv,hE⟩:=h;exact key (.inl ⟨hw,hv⟩) hE
 ·rename_i hw
  exact key Qh2 h
end
section
variable {W w w':World}{z:Rv}{B g p i:Nat}{F:List Rl}{D:List UInt8}{O L:List Qf}{o o':Obj}{e:Ending}{α:Type}{RES:Rdg α}{k:Int}
structure Sq where
 N:List (List UInt8)
 A:VF
 cs:List Value
 Ar:Option Addr
 c:Nat
 Nr:Option Addr
 cN:Nat
 L:List Qf
 q:Nat
 i:Nat
theorem VS{α:Type}{l:List α}{i:Nat}{x:α}(h:l[i]? =some x):l.drop i=x::l.drop (i+1):=by
 obtain⟨h1,rfl⟩:=List.getElem?_eq_some_iff.1 h;exact List.drop_eq_getElem_cons h1
end
theorem Q4V{z:Rv}{B g:Nat}{F:List Rl}{D:List UInt8}(hF:∀k:Int,0<=k/\k<F.length->(Qh F k).kind=2\/(Qh F k).kind=6)(hv:Fm F):∀f,IHv z B g F D f
 |0=>fun W k p hk h hs=>by
  obtain⟨y,hy⟩:=hs
  cases hy
 |f+1=>fun W k p hk h hs=>by
  have ih:=Q4V (z:=z) (B:=B) (g:=g) (D:=D) hF hv f;rcases hF k hk with h2|h6
  ·exact Qfb hv f hk h h2
  ·exact QpA hF hv f ih hs hk h h6
section
variable {A:Option Addr}{B n:Nat}{F:List Rl}{W w:World}{xs:List Value}
structure Fs where
 xs:List Value
 Ar:Option Addr
 c:Nat
 L:List Qf
 i:Nat
def Qve(F:List Rl)(y:Fs):Prop:=∀k,k<y.i->∃Ak ck,y.xs[k]? =some (.slice Ak (Ko F k).length ck)/\Qf.rd Ak (Ko F k).length 1 (iv (Ko F k))∈y.L/\(Ko F k).length<=ck
theorem QtV{M:List Nat}{w':World}{O:List Qf}{e:Ending}{l:List Int}(hw:Wd M W O w)(h:QjN w l (0,0) e w'):X7 (fun y:Option Addr×Nat=>.tuple #[.slice y.1 l.length y.2,.agg #[.int .i64 0,.int .i64 0]]) (fun y=>l.length<=y.2/\Q3T [.rd y.1 l.length 1 (iv l)] W.heap.size) M W (fun y=>O++[.rd y.1 l.length 1 (iv l)]) e w':=by
 obtain⟨A,c,he,hon,hf,hc,hb⟩:=h;have hn:=Yr hon hf;exact⟨(A,c),he,⟨hc,fun x hx=>⟨hn.rd x hx,fun b hb'=>Nat.le_trans hw.k.size (hn.far x hx b hb')⟩⟩,hw.made hb hn⟩
theorem QlJ{k:Int}(h:QI F=(0,0))(hk:0<=k/\k<F.length):Q5B F k=(0,0)/\Q2K F k=Ko F k:=by
 have e:Q5B F k=(0,0):=by
  unfold Q5B;rw[if_neg (by simp [h]),if_pos (QX.2 Q3)]
 exact⟨e,by unfold Q2K;rw[if_pos e]⟩
structure FsL(F:List Rl)(n:Nat)(As:Option Addr)(xs:List Value)(L:List Qf):Prop where
 tab:Qf.rd As n 1 xs∈L
 row:∀k,k<n->∃Ak ck,xs[k]? =some (.slice Ak (Ko F k).length ck)/\Qf.rd Ak (Ko F k).length 1 (iv (Ko F k))∈L/\(Ko F k).length<=ck
theorem Rd.less{B' s:Nat}(h:Rd w B s A n xs)(hf:∀q,(Qf.rd A n s xs).foot=some q->q<B'):Rd w B' s A n xs:=by
 refine⟨h.1,fun h0=>?_⟩;obtain⟨b,o,e,hb,hc⟩:=h.2 h0;subst e;exact⟨b,o,rfl,hf b (by simp only[Qf.foot];rw[if_neg Q3];rfl),hc⟩
theorem FsL.fr{As:Option Addr}{L:List Qf}(h:FsL F n As xs L)(hw:∀x∈L,x.on w)(hB:∀x∈L,∀q,x.foot=some q->q<B)(h0:0<n):QcP w B F As n:=by
 obtain⟨b,o,e,hb,hcc⟩:=(Rd.less (B':=B) (hw _ h.tab) (hB _ h.tab)).2 h0;refine⟨b,o,e,hb,fun k hk=>?_⟩;obtain⟨Ak,ck,h1,h2,h3⟩:=h.row k hk;exact⟨Ak,ck,hcc k _ h1,Rd.less (hw _ h2) (hB _ h2),h3⟩
def FsR(F:List Rl)(n:Nat)(W:World)(e:Ending)(w':World):Prop:=∃As cs xs L,e=.returned (.slice As n cs)/\n<=cs/\FsL F n As xs L/\New L W.heap.size w'/\Below W.heap.size W w'
theorem Q8l{c:Nat}(hf:QS W W.heap.size A n F)(hs:FSm F)(hc:n<=c)(hg:GV W)(hz:QI F=(0,0))(h0:0<n):
  Calls Tryz.prog 31 #[.agg #[.slice A n c]] W (FsR F n W):=by
 have hlen:F.length=n:=hf.1;have hsz:n<=1048576:=by rw[<- hlen];exact hs.1
 have HF:=Q2 hf;have HS:=Q2 hs;have HG:=Q2 hg;have HZ:=Q2 hz;clear hf hs hg hz;go_enter Tryz.func31,Tryz.ntmps31;refine Qz (M:=[]) (W:=W) (N:=25) (E:=[VD]) (O:=[]) ?_ Zl QR;refine yq<|yr ?_;refine yB fun b1=>?_;refine yo zA<|yl<|yn<|yq<|yr<|yo zA<|yl<|yn<|yq<|yq<|yr<|yo zF<|yo (zB 0)<|yo zL<|yo zM<|yl<|yn<|yb ?_;refine Xu (ι:=Fs) (fun y=>y.xs.length=y.i/\y.i<=n/\Qve F y/\Q3T y.L W.heap.size) (fun y=>n - y.i) (fun y=>[Yp,(3,.slice y.Ar y.i y.c),(9,.int .i64 (n:Int)),(10,.int .i64 (y.i:Int))]) (fun y=>.row y.Ar y.i y.c 48 1 y.xs::.blk b1 QlT::y.L) ⟨[],none,0,[],0⟩ ⟨rfl,Nat.zero_le _,fun k hk=>absurd hk (Nat.not_lt_zero k),.nil _⟩ mc1 (fun w hw=>hw.row _ _) ?_;rintro⟨xs,Ar,cr,L,i⟩ ⟨hxi,hi,hall,hfar⟩;replace hxi:xs.length=i:=hxi;replace hi:i<=n:=hi;have HA:=Q2 hall;have HFA:=Q2 hfar;clear hall hfar;show sE _ _ _ _ _ [Yp,(3,.slice Ar i cr),(9,.int .i64 (n:Int)),(10,.int .i64 (i:Int))] (.row Ar i cr 48 1 xs::.blk b1 QlT::L) _;by_cases hlt:i<n
 case neg=>
  have hin:i=n:=by omega
  subst hin;refine yq<|yr<|yo zlf<|yl<|yn<|yq<|y0<|ye<|yn<|yq<|yr<|yo zM<|yo zA<|yl<|yn<|yt ?_;refine Q7 mc4 rfl (.tmp rfl) (fun w hw=>⟨Ar,cr,xs,.rd Ar i 1 xs::L,rfl,(Q1f 0 hw rfl).1,⟨List.mem_cons_self,fun k hk=>?_⟩,?_,hw.k.below⟩)
  ·obtain⟨Ak,ck,h1,h2,h3⟩:=HA.out k hk;exact⟨Ak,ck,h1,List.mem_cons_of_mem _ h2,h3⟩
  ·have hr:Rd w w.heap.size 1 Ar i xs:=Rd.of_own Kj
   exact(Yr hr fun b hb=>by
    rcases Nat.lt_or_ge b W.heap.size with hl|hl
    ·have h1:b∈[]:=hw.new 0 _ b rfl (Q3p Kj hb) hl
     cases h1
    ·exact hl).app (HFA.out.new fun x hx=>hw.onAll x Q7c)
 case pos=>
  have hck:=QlJ HZ.out (k:=(i:Int)) Q3;refine yq<|yr<|yo zlt<|yl<|yn<|yq<|y1<|ys<|yn<|yq<|yb<|yq<|yr<|yo zM<|yo zA<|yl<|yn<|yq<|yr<|yo (zD 1)<|yo zM ?_;refine Qd (QY _ _ _ rfl rfl rfl (fun w hw=>(Qa5 Q5m HS.out hc Q10).mono (fun e w' h=>by rw[hck.1,hck.2] at h;exact QtV hw h))) rfl Q1 (fun y hy=>?_);refine Q8D ?_;refine yA fun b6=>?_;refine Qc2 ?_;refine yl<|yn<|yr<|yo zM<|yo zM ?_;refine Qd VE rfl Q1 (fun bn _=>?_);refine Qd Yd rfl Q1 (fun z _=>?_);refine Qa9 ?_;refine Qx ⟨xs++[.slice y.1 (Ko F i).length y.2],z.1,z.2,L++[.rd y.1 (Ko F i).length 1 (iv (Ko F i))],i+1⟩ ⟨by show (xs++[_]).length=i+1;rw[List.length_append,hxi];rfl,by show i+1<=n;omega,fun k hk=>?_,HFA.out.app hy.2⟩ Vw mc1 (fun w hw=>?_);rotate_left
  ·exact hw.tl.tl
  by_cases hki:k=i
  ·subst hki;exact⟨y.1,y.2,by show (xs++[_])[k]? =_;rw[List.getElem?_append_right Q3,hxi,Nat.sub_self];rfl,List.mem_append_right _ List.mem_cons_self,hy.1⟩
  ·obtain⟨Ak,ck,h1,h2,h3⟩:=HA.out k (by show k<i;have:k<i+1:=hk;omega);exact⟨Ak,ck,by show (xs++[_])[k]? =_;rw[List.getElem?_append_left (List.getElem?_eq_some_iff.1 h1).1];exact h1,List.mem_append_left _ h2,h3⟩
end
theorem QaF(g h:Nat)(w:World):
  CallsD Tryz.prog 30 #[.pointer (some ⟨g,0,none⟩),.pointer (some ⟨h,0,none⟩)] .returning w fun e u' w'=>e=.returned (.tuple #[])/\u'=.returning/\w'=w:=by
 refine callsD_of_wpS Tryz.func30 rfl fun c₀ cs hu=>?_;apply wpS_seq;apply wpS_region;simp [wpOpsS,go_sem,recoverD,hu,Tryz.ntmps30,Exit.thenS];refine Qgq ?_;go_wp2_with fail
 cases c₀
 simp_all [bodyPostS,results,Tryz.results30]
theorem Q8p{g k:Nat}{c x:Int}{M:List Nat}{W w:World}{O:List Qf}{a0 a1 a2 a3 a4 r0 r1:Value}(hw:Wd M W (.blk g (.cells ([a0,a1,a2,a3,a4]:List Value).toArray 30 (0,0))::.blk k (.cells ([r0,r1]:List Value).toArray 32 (0,0))::O) w):
  CallsD Tryz.prog 30 #[.pointer (some ⟨g,0,none⟩),.pointer (some ⟨k,0,none⟩)] (.panicking (YO c x)) w fun e u' w'=>
   e=.returned (.tuple #[])/\u'=.panicking [{ v:=.iface 32 (.agg #[.int .i64 c,.int .i64 x]),recovered:=true }]/\Wd M W (.blk g (.cells ([.int .i64 0,.int .i64 0,.slice none 0 0,.slice none 0 0,.slice none 0 0]:List Value).toArray 30 (0,0))::.blk k (.cells ([.int .i64 c,.int .i64 x]:List Value).toArray 32 (0,0))::O) w':=by
 refine callsD_of_wpS Tryz.func30 rfl fun c₀ cs hu=>?_;apply wpS_seq;apply wpS_region;unfold YO at hu;simp [wpOpsS,go_sem,recoverD,hu,Tryz.ntmps30,Exit.thenS];refine Qgq ?_;have hta:∀W:World,(Instr.typeAssert (.iface 32 (.agg #[.int .i64 c,.int .i64 x])) 20 32 true).run Tryz.prog W=.ok (.tuple #[.agg #[.int .i64 c,.int .i64 x],.bool true]) W:=Qba
 have heq:∀W:World,(binOp .eql 20 (.iface 32 (.agg #[.int .i64 c,.int .i64 x])) .nilIface).run Tryz.prog W=.ok (.bool false) W:=Qba
 have hui:Tryz.prog.underlying 20=some (.interface (Tryz.prog.methodsAt 20)):=by kernel_rfl
 refine Qz (M:=M) (W:=W) (N:=13) (E:=Qs9) (O:=.blk g (.cells ([a0,a1,a2,a3,a4]:List Value).toArray 30 (0,0))::.blk k (.cells ([r0,r1]:List Value).toArray 32 (0,0))::O) ?_ XW hw;refine QqB ?_;refine yA fun b3=>?_;refine QqL ?_;refine Qc 0 rfl Q5 Q76 (Jv (xs:=[]) (vs:=[]) (v:=.agg Qt0) rfl rfl Q1 rfl rfl Q8b) ?_;refine Qc 1 rfl Q5 Q76 (zD 0) ?_;refine X6 2 Q5 rfl rfl Q3v Q4R rfl (fun _ _=>?_);rw[QO (by rfl)];refine X6 3 Q5 rfl rfl Qn1 Q4R rfl (fun _ _=>?_);rw[QO (by rfl)];refine X8 ?_ Q5;refine yd ?_;intro a w' ha hw';exact⟨ha.df,_,rfl,.tuple #[],by simp [results,Tryz.results30],rfl,rfl,hw'.tl⟩
section
variable {P:Program}{ops:Array Oper}{Q:Exit->Act->World->Prop}{N:Nat}{M:List Nat}{W:World}{E:Env}{O:List Qf}{o:Oper}{rest:List Oper}
theorem QhL[dq:DQ]{fn:Fn}{x:Tmp}{caps:Array Value}(ho:o.op=.defer { callee:=.value (.tmp x),args:=#[],argTypes:=#[] })(hd:o.dst=none)(hw:Qo ops E o=some true)(hx:ev E (.tmp x)=some (.func fn #[] caps))
  (h:∀dq':DQ,dq'.D={ target:=.fn fn caps,args:=#[] }::dq.D->@lE dq' P ops Q N M W E O rest):lE P ops Q N M W E O (o::rest):=fun a w ha hW=>by
 refine wpList_step fun K hK=>?_;rw[if_pos (ha.want hw)];have hr:(execOp a.eval o).run P w=.ok (.defer { target:=.fn fn caps,args:=#[] }) w:=by
  have e:a.tmps[x]?.getD undef=.func fn #[] caps:=by
   have e:=ha.eval hx;simpa [go_sem] using e
  simp [execOp,ho,resolve,e,go_sem]
 unfold Oper.wp;rw[hr];simp only[Oper.upon];refine hK _ _ ((h ⟨{ target:=.fn fn caps,args:=#[] }::dq.D⟩ rfl) _ w ?_ hW);rw[hd];exact @Ag.mk ⟨{ target:=.fn fn caps,args:=#[] }::dq.D⟩ _ _ _ ha.sz (congrArg (List.cons _) ha.df) ha.has
theorem Qes[dq:DQ]{d:Nat}{B:List PanicEntry->World->Prop}{ι:Type}{V:ι->Value}{G:ι->List Qf}{p:ι->Prop}(h1:pE P ops N M W E O o ι V G p B)(hd:o.dst=some d)(hN:d<N)(hp:∀a ch w,Ag N E a->B ch w->Q (.panic ch) a w)(h:∀i,p i->lE P ops Q N M W ((d,V i)::E) (G i) rest):lE P ops Q N M W E O (o::rest):=fun a w ha hW=>by
 obtain⟨hw,hl⟩:=h1 a w ha hW;refine wpList_step fun K hK=>?_;rw[if_pos hw];refine Oper.wp_of_loudP hl ?_ (fun ch w' hb=>hp a ch w' ha hb);exact QjX
end
section
variable {a out:List Int}{i k:Nat}{r:Rl}
theorem Ku(l:List Int)(k i:Nat)(b:Int)(hk:k<l.length):(l.set k b).getD i 0=if i=k then b else l.getD i 0:=by
 rw[List.getD_eq_getElem?_getD,List.getElem?_set,List.getD_eq_getElem?_getD];by_cases h:k=i
 ·subst h;simp [hk]
 ·rw[if_neg h,if_neg (fun e=>h e.symm)]
structure Lst(F:List Rl)(out:List Int):Prop where
 len:out.length=F.length
 nn:∀j:Nat,0<=out.getD j 0
 top:∀j:Nat,out.getD j 0<=1001
 post:∀(i:Nat) (r:Rl),F[i]? =some r->out.getD i 0<=min (Q70 F out r) 1001
section
variable {F:List Rl}
theorem Qc9(a b:List Int)(h:∀j:Nat,a.getD j 0<=b.getD j 0):∀(l:List Int) (m n:Int),m<=n->l.foldl (fun s x=>min s (lk a x)) m<=l.foldl (fun s x=>min s (lk b x)) n
 |[],m,n,h0=>h0
 |x::l,m,n,h0=>by
  rw[List.foldl_cons,List.foldl_cons];refine Qc9 a b h l _ _ ?_;have:lk a x<=lk b x:=h _
  omega
theorem Qiu(hv:Usd F){b:List Int}(hab:∀j:Nat,a.getD j 0<=b.getD j 0)(hr:F[i]? =some r):Q70 F a r<=Q70 F b r:=by
 have hl:∀x,lk a x<=lk b x:=fun x=>hab _;unfold Q70;split
 ·exact Q6n
 split
 ·exact Q6n
 split
 ·exact Q6n
 split
 ·next h=>have:=hl r.count;omega
 split
 ·next h=>
  have h1:=hl r.count;have h2:=Int.mul_le_mul_of_nonneg_left (hl r.elem) (hv.least hr (.inl h)).1;omega
 split
 ·exact Q3n b a r.parts 0 0 (Int.le_refl _) fun x _=>hl x
 split
 ·exact Qc9 a b hab r.parts 1001 1001 (Int.le_refl _)
 ·exact Q6n
theorem Lst.start(F:List Rl)(h:∀(i:Nat) (r:Rl),F[i]? =some r->0<=Q70 F (List.replicate F.length 0) r):Lst F (List.replicate F.length 0):=by
 have h0:∀j:Nat,(List.replicate F.length (0:Int)).getD j 0=0:=fun j=>by
  rw[List.getD_eq_getElem?_getD,List.getElem?_replicate];split<;>rfl
 refine⟨List.length_replicate,fun j=>by rw[h0];omega,fun j=>by rw[h0];omega,fun i r hr=>?_⟩;rw[h0];have:=h i r hr;omega
theorem Lst.put(hv:Usd F)(h:Lst F out)(hr:F[k]? =some r):Lst F (out.set k (min (Q70 F out r) 1001)):=by
 have hk:k<out.length:=by rw[h.len];exact(List.getElem?_eq_some_iff.1 hr).1
 have hp:=h.post k r hr;have h0:=h.nn k;have hge:∀j:Nat,out.getD j 0<=(out.set k (min (Q70 F out r) 1001)).getD j 0:=fun j=>by
  rw[Ku _ _ _ _ hk];split
  ·next e=>subst e;exact hp
  ·exact Q6n
 refine⟨by rw[List.length_set];exact h.len,fun j=>Int.le_trans (h.nn j) (hge j),fun j=>?_,fun i q hq=>?_⟩
 ·rw[Ku _ _ _ _ hk]
  split
  ·omega
  ·exact h.top j
 ·have hm:=Qiu hv hge hq;rw[Ku _ _ _ _ hk]
  split
  ·next e=>subst e;rw[hr] at hq;cases hq;omega
  ·have:=h.post i q hq;omega
end
end
section
variable {F p:VF}{d:Nd}{i:Nat}{ns:List (List UInt8)}{rc:Bool}
def Q0D(d:Nd)(np:Nat)(body:List UInt8):List UInt8:=num d.k++(if d.k=1 then num d.n else if d.k=2 then ZK d.bs else num (np:Int)++body)
def XL:VF->Bool->List (List UInt8)->List UInt8
 |.nil,_,_=>[]
 |.cons d p r,rc,ns=>(if rc then ZK (ns.headD []) else [])++(Q0D d p.len (XL p (d.k==4) d.ns)++XL r rc ns.tail)
def XQ(d:Nd)(p:VF):List UInt8:=Q0D d p.len (XL p (d.k==4) d.ns)
theorem Qfm(F:VF):∀(rc:Bool) (ns:List (List UInt8)) (i:Nat),XL F rc ns=XL (F.take i) rc ns++XL (F.drop i) rc (ns.drop i):=by
 induction F with
 |nil=>intro rc ns i;cases i<;>rfl
 |cons d p r _ ih=>
  intro rc ns i;cases i with
  |zero=>rw[VF.take_zero,VF.drop_zero,List.drop_zero];rfl
  |succ i=>
   show _=XL (.cons d p (r.take i)) rc ns++XL (r.drop i) rc (ns.drop (i+1));simp only[XL];rw[ih rc ns.tail i,List.drop_tail];simp only[List.append_assoc]
theorem Q4g(F:VF):∀(rc:Bool) (ns:List (List UInt8)) (i:Nat) (d:Nd) (p r:VF),F.drop i=.cons d p r->
  XL (F.take (i+1)) rc ns=XL (F.take i) rc ns++((if rc then ZK ((ns.drop i).headD []) else [])++XQ d p):=by
 induction F with
 |nil=>intro rc ns i d p r h;cases i<;>simp [VF.drop] at h
 |cons d' p' r' _ ih=>
  intro rc ns i d p r h;cases i with
  |zero=>
   rw[VF.drop_zero] at h;injection h with h1 h2 h3;subst h1 h2 h3;show XL (.cons d' p' (r'.take 0)) rc ns=_;rw[VF.take_zero,VF.take_zero];simp [XL,XQ]
  |succ i=>
   show XL (.cons d' p' (r'.take (i+1))) rc ns=XL (.cons d' p' (r'.take i)) rc ns++_;simp only[XL];rw[ih rc ns.tail i d p r h,List.drop_tail];simp only[List.append_assoc]
theorem Q0t:(XL (F.take i) rc ns).length<=(XL F rc ns).length:=by
 rw[Qfm F rc ns i,List.length_append];omega
theorem Q2B(h1:¬d.k=1)(h2:¬d.k=2):XQ d p=num d.k++(num (p.len:Int)++XL p (d.k==4) d.ns):=by
 unfold XQ Q0D;rw[if_neg h1,if_neg h2]
theorem QcJ(h1:d.k=1):XQ d p=num d.k++num d.n:=by unfold XQ Q0D;rw[if_pos h1]
theorem Q66(h2:d.k=2):XQ d p=num d.k++ZK d.bs:=by unfold XQ Q0D;rw[if_neg Q3,if_pos h2]
theorem Q8P{r:VF}(h:F.drop i=.cons d p r):(XQ d p).length<=(XL F rc ns).length:=by
 have h1:=Q4g F rc ns i d p r h;have h2:=Q0t (F:=F) (rc:=rc) (ns:=ns) (i:=i+1);rw[h1] at h2;simp only[List.length_append] at h2;omega
def YA:VF->Prop
 |.nil=>True
 |.cons d p r=>QJ d p.len=0/\YA p/\YA r
theorem YA.drop:∀(F:VF) (i:Nat),YA F->YA (F.drop i):=by
 intro F;induction F with
 |nil=>intro i _;cases i<;>trivial
 |cons d p r _ ih=>
  intro i h;cases i with
  |zero=>exact h
  |succ i=>exact ih i h.2.2
theorem Q4p(F:VF):∀(num lev m:Nat),Xg F num lev=.inr m->YA F:=by
 induction F with
 |nil=>intro _ _ _ _;trivial
 |cons d p r ih1 ih2=>
  intro num lev m h;by_cases h1:600<=num\/10<lev
  ·rw[Zz h1] at h;cases h
  ·by_cases h2:QJ d p.len≠0
   ·rw[XZ h1 h2] at h;cases h
   ·cases hp:Xg p (num+1) (lev+1) with
    |inl f=>rw[Zv h1 h2 hp] at h;cases h
    |inr k=>
     rw[ZM h1 h2 hp] at h;exact⟨by simpa using h2,ih1 _ _ _ hp,ih2 _ _ _ h⟩
theorem Yk{np:Nat}(h:QJ d np=0):(1<=d.k/\d.k<=4)/\(d.k=1\/d.n=0)/\(d.k=2\/d.bs=[])/\(d.k=4\/d.ns=[])/\(3<=d.k\/np=0)/\(d.k=4->d.ns.length=np)/\np<=600/\d.ns.all QA=true/\d.ns.Nodup:=by
 by_cases hk:d.k<1\/4<d.k
 ·rw[Q2I hk] at h;cases h
 ·by_cases hf:(d.k≠1/\d.n≠0)\/(d.k≠2/\0<d.bs.length)\/(d.k≠4/\0<d.ns.length)\/(d.k<3/\0<np)\/(d.k=4/\d.ns.length≠np)
  ·rw[Q2e hk hf] at h;cases h
  ·rw[Q6h hk hf] at h
   have h6:¬600<np:=fun h'=>by rw[Q5P h'] at h;cases h
   have h7:d.ns.all QA=true:=by
    cases e:d.ns.all QA with
    |true=>rfl
    |false=>rw[Qfg h6 e] at h;cases h
   have h8:d.ns.Nodup:=by
    by_cases e:d.ns.Nodup
    ·exact e
    ·rw[QeI h6 h7 e] at h;cases h
   have z:∀{α:Type} (l:List α),¬0<l.length->l=[]:=fun l hl=>List.eq_nil_of_length_eq_zero Q3;refine⟨by omega,by omega,?_,?_,by omega,by omega,by omega,h7,h8⟩
   ·by_cases e:d.k=2
    ·exact .inl e
    ·exact .inr (z _ Q3)
   ·by_cases e:d.k=4
    ·exact .inl e
    ·exact .inr (z _ Q3)
def YD(w:World)(s:ByteArray):Nat:=grownCap w s.size 0 5
def Vm(w:World)(s:ByteArray):World:=w.drew.alloc (.cells (bytesRow s (YD w s)) 5 ((bytesRow s (YD w s)).size,(bytesRow s (YD w s)).size+1))
theorem Q9e(s:ByteArray)(w:World):(convert 9 25 (.string s)).run Tryz.prog w=.ok (.slice (some ⟨w.heap.size,0,none⟩) s.size (YD w s)) (Vm w s):=
 run_bytes_of_string w 9 25 5 s Tryz.underlying9 Tryz.underlying25 Tryz.underlying5
theorem Q2U(w:World)(s:ByteArray):Below w.heap.size w (Vm w s):=((Below.refl _ _).drew).alloc Xr _
theorem QbO(w:World)(s:ByteArray):(Vm w s).heap.size=w.heap.size+1:=by simp [Vm]
theorem QnR(w:World)(s:ByteArray):Rd (Vm w s) (Vm w s).heap.size 1 (some ⟨w.heap.size,0,none⟩) s.size (bv s.data.toList):=by
 refine⟨by simp [bv],fun _=>⟨_,_,rfl,by rw[QbO];omega,fun j u hu=>?_⟩⟩;have hj:j<s.size:=by
  have:=(List.getElem?_eq_some_iff.1 hu).1;simpa [bv] using this
 unfold Vm;rw[Nat.zero_add];have e:=cell_of_row (w.drew.alloc (.cells (bytesRow s (YD w s)) 5 ((bytesRow s (YD w s)).size,(bytesRow s (YD w s)).size+1))) w.heap.size j (bytesRow s (YD w s)) 5 _ (heap_alloc_new w.drew _);rw[e];have:(bytesRow s (YD w s))[j]? =some (.int .u8 (s[j].toNat:Int)):=by
  unfold bytesRow;rw[Array.getElem?_append_left (by simpa using hj)];rw[Array.getElem?_map,Array.getElem?_eq_getElem (by simpa using hj)];rfl
 rw[this,<- hu];simp only[bv,List.getElem?_map,Q1c hj,Option.map_some]
theorem QiV(w:World)(s:ByteArray)(g:Nat)(hg:g=w.heap.size):Rd (Vm w s) (Vm w s).heap.size 1 (some ⟨g,0,none⟩) s.size (bv s.data.toList):=by subst hg;exact QnR w s
end
section
variable {A:Option Addr}{W1 w:World}{c i:Nat}{d:Nd}{ns:List (List UInt8)}{p:VF}{rc:Bool}{v:Value}
def QnJ(d:Nd)(p:VF):Prop:=XI d->XD p->p.len<=1048576->QJ d p.len=0->YA p->(XQ d p).length<=1099511627776->∀(w:World) (v:Value),VIn w w.heap.size v d p->
 Calls Tryz.prog 102 #[v] w (JK w (XQ d p))
theorem QeG(hv:VIn w w.heap.size v d p)(hf:XI d)(hk:d.k=1):Calls Tryz.prog 102 #[v] w (JK w (XQ d p)):=by
 have HE:=Q2 (QcJ (d:=d) (p:=p) hk);obtain⟨sb,sn,sp,rfl,Ab,nb,cb,An,nn,cn,Ap,cp,rfl,rfl,rfl,hbc,hnc,hpc,hpm,hrb,hrn,hp⟩:=hv;obtain⟨⟨h1,h2,h3,h4⟩,_⟩:=hf;have hl1:=XG d.k h1 h2;have hl2:=XG d.n h3 h4;have hk1:(d.k==1)=true:=by simp [hk]
 clear hrb hrn hp hk;go_enter Tryz.func102,Tryz.ntmps102;go_wp2_with fail
 refine(Z7 d.k _ h1 h2).mono ?_;rintro e w1 ⟨A1,c1,rfl,hown1,hb1⟩;have hz1:=hb1.size;have q0:w1.cell? ⟨w.heap.size,0,none⟩=some (.int .i64 d.k):=Q5l;have q1:w1.cell? ⟨w.heap.size,1,none⟩=some (.int .i64 d.n):=Q5l;simp only[QB] at hz1 hown1;have HB1:=Qmr;clear hb1;go_wp2_with fail
 refine(Z7 d.n _ h3 h4).mono ?_;rintro e w2 ⟨A2,c2,rfl,hown2,hb2⟩;have hz2:=hb2.size;have HB2:=Q2 (X9 HB1.out hb2);have hown1':=Q9Y;go_wp2_with (at_builtin;refine Z6 _ slB rfl (.tmp 13) (.tmp 16) rfl (w.heap.size+1) A1 (num d.k).length c1 (bv (num d.k)) rfl hown1' _ A2 (num d.n).length c2 (bv (num d.n)) rfl (Rd.of_own hown2) (ZX _) Q3 Q3 HB2.out Q3 ?_;intro A3 c3 w3 hown3 _ hb3)
 exact Qot
theorem Qbb(hv:VIn w w.heap.size v d p)(hf:XI d)(hk:d.k=2):Calls Tryz.prog 102 #[v] w (JK w (XQ d p)):=by
 have HE:=Q2 (Q66 (d:=d) (p:=p) hk);obtain⟨sb,sn,sp,rfl,Ab,nb,cb,An,nn,cn,Ap,cp,rfl,rfl,rfl,hbc,hnc,hpc,hpm,hrb,hrn,hp⟩:=hv;obtain⟨⟨h1,h2,h3,h4⟩,hbl,_⟩:=hf;have hl1:=XG d.k h1 h2;have hnb:d.bs.length=nb:=by have:=hrb.len;rw[QM] at this;exact this
 have hl2:=K2 d.bs Q3;have hnb':nb<=1048576:=by omega
 have hk1:(d.k==1)=false:=by simp [hk]
 have hk2:(d.k==2)=true:=by simp [hk]
 have HRB:=Q2 hrb;clear hrb hrn hp hk hnb;go_enter Tryz.func102,Tryz.ntmps102;go_wp2_with fail
 refine(Z7 d.k _ h1 h2).mono ?_;rintro e w1 ⟨A1,c1,rfl,hown1,hb1⟩;have hz1:=hb1.size;have q0:w1.cell? ⟨w.heap.size,0,none⟩=some (.int .i64 d.k):=Q5l;have q2:w1.cell? ⟨w.heap.size,2,none⟩=some (.slice Ab nb cb):=Q5l;simp only[QB] at hz1 hown1;have HB1:=Qmr;clear hb1;go_wp2_with fail
 refine(Q4N (bs:=d.bs) ((HRB.out.below HB1.out).more HB1.out.size) Q3).mono ?_;rintro e w2 ⟨A2,c2,rfl,hown2,hb2⟩;have hz2:=hb2.size;have HB2:=Q2 (X9 HB1.out hb2);have hown1':=Q9Y;go_wp2_with (at_builtin;refine Z6 _ slB rfl (.tmp 20) (.tmp 23) rfl (w.heap.size+1) A1 (num d.k).length c1 (bv (num d.k)) rfl hown1' _ A2 (ZK d.bs).length c2 (bv (ZK d.bs)) rfl (Rd.of_own hown2) (ZX _) Q3 Q3 HB2.out Q3 ?_;intro A3 c3 w3 hown3 _ hb3)
 exact Qot
def Qar(w W1:World)(pre:List UInt8)(p:VF)(rc:Bool)(ns:List (List UInt8))(out k:Value)(wr:World):Prop:=
 ∃(i:Nat) (A:Option Addr) (c:Nat),i<=p.len/\k=.int .i64 (i:Int)/\out=.slice A (pre++XL (p.take i) rc ns).length c/\
  wr.ownsRow W1.heap.size 5 1 (.slice A (pre++XL (p.take i) rc ns).length c) (pre++XL (p.take i) rc ns).length (bv (pre++XL (p.take i) rc ns))/\Below W1.heap.size W1 wr
theorem QmI{r F:VF}(h:VF.All QnJ (F.drop i))(hd:F.drop i=.cons d p r)(hf:XD (F.drop i))(hg:YA (F.drop i))(hl:(XQ d p).length<=1099511627776):∀(w:World) (v:Value),VIn w w.heap.size v d p->
  Calls Tryz.prog 102 #[v] w (JK w (XQ d p)):=by
 rw[hd] at h hf hg;exact h.1 hf.1 hf.2.2.1 hf.2.1 hg.1 hg.2.1 hl
theorem Q9r{w3:World}{nk nnp:List UInt8}(h:w3.ownsRow W1.heap.size 5 1 (.slice A (nk.length+nnp.length) c) (nk.length+nnp.length) (bv nk++bv nnp))(hb:Below W1.heap.size W1 w3):
  Qar w W1 (nk++nnp) p rc ns (.slice A (nk.length+nnp.length) c) (.int .i64 0) w3:=by
 have e:nk++nnp++XL (p.take 0) rc ns=nk++nnp:=by rw[VF.take_zero];simp [XL]
 refine⟨0,A,c,Nat.zero_le _,rfl,?_,?_,hb⟩
 ·rw[e,List.length_append]
 ·rw[e,List.length_append,Y1];exact h
theorem QcR{w4:World}{pre add:List UInt8}{n:Nat}{xs:List Value}(hi:i<p.len)(hadd:XL (p.take (i+1)) rc ns=XL (p.take i) rc ns++add)(h:w4.ownsRow W1.heap.size 5 1 (.slice A n c) n xs)(hx:xs=bv (pre++XL (p.take i) rc ns)++bv add)(hn:n=(pre++XL (p.take i) rc ns).length+add.length)(hb:Below W1.heap.size W1 w4):
  Qar w W1 pre p rc ns (.slice A n c) (.int .i64 ((i:Int)+1)) w4:=by
 subst hx hn;have e:pre++XL (p.take (i+1)) rc ns=(pre++XL (p.take i) rc ns)++add:=by rw[hadd,List.append_assoc]
 refine⟨i+1,A,c,hi,by go_num,?_,?_,hb⟩
 ·rw[e];simp only[List.length_append]
 ·rw[e,List.length_append,Y1];exact h
theorem QoN(F:VF)(ns:List (List UInt8))(i:Nat)(d:Nd)(p r:VF)(h:F.drop i=.cons d p r):XL (F.take (i+1)) false ns=XL (F.take i) false ns++XQ d p:=by
 rw[Q4g F false ns i d p r h];simp
theorem Qmh(F:VF)(ns:List (List UInt8))(i:Nat)(d:Nd)(p r:VF)(s:List UInt8)(h:F.drop i=.cons d p r)(hs:ns[i]? =some s):XL (F.take (i+1)) true ns=XL (F.take i) true ns++(ZK s++XQ d p):=by
 rw[Q4g F true ns i d p r h];have:(ns.drop i).headD []=s:=by
  have e:(ns.drop i)[0]? =some s:=by rw[List.getElem?_drop];simpa using hs
  cases hd:ns.drop i with
  |nil=>rw[hd] at e;simp at e
  |cons x l=>rw[hd] at e;simp at e;simp [e]
 rw[this];simp
theorem QbV(hall:VF.All QnJ p)(hv:VIn w w.heap.size v d p)(hf:XI d)(hfp:XD p)(hgp:YA p)(hpl:p.len<=1048576)(hk:d.k=3)(hlen:(XQ d p).length<=1099511627776):Calls Tryz.prog 102 #[v] w (JK w (XQ d p)):=by
 have he:=Q2B (d:=d) (p:=p) Q3 Q3;have hrc:(d.k==4)=false:=by simp [hk]
 rw[hrc] at he;rw[he] at hlen;have HRC:=Q2 hrc;obtain⟨sb,sn,sp,rfl,Ab,nb,cb,An,nn,cn,Ap,cp,rfl,rfl,rfl,hbc,hnc,hpc,hpm,hrb,hrn,hp⟩:=hv;obtain⟨⟨h1,h2,h3,h4⟩,_⟩:=hf;have hl1:=XG d.k h1 h2;have hl2:=XG (p.len:Int) Q3 Q3;have hk1:(d.k==1)=false:=by simp [hk]
 have hk2:(d.k==2)=false:=by simp [hk]
 have HP:=Q2 hp;have HFP:=Q2 hfp;have HGP:=Q2 hgp;have HALL:=Q2 hall;simp only[List.length_append] at hlen;obtain⟨np,hnp⟩:∃np,p.len=np:=⟨_,rfl⟩;have HNP:=Q2 hnp;rw[hnp] at hpl hpc hl2 hlen he ⊢;have HE:=Q2 he;clear he;clear hrb hrn hp hk hfp hgp hall hnp;go_enter Tryz.func102,Tryz.ntmps102;go_wp2_with fail
 refine(Z7 d.k _ h1 h2).mono ?_;rintro e w1 ⟨A1,c1,rfl,hown1,hb1⟩;have hz1:=hb1.size;have q0:w1.cell? ⟨w.heap.size,0,none⟩=some (.int .i64 d.k):=Q5l;have q4:w1.cell? ⟨w.heap.size,4,none⟩=some (.slice Ap np cp):=Q5l;have HW1:=Q2 hb1;clear hb1;go_wp2_with fail
 refine(Z7 (np:Int) _ Q3 Q3).mono ?_;rintro e w2 ⟨A2,c2,rfl,hown2,hb2⟩;have hz2:=hb2.size;have HB2:=Q2 (HW1.out.trans (hb2.mono hz1));have hown1':=Q9Y;obtain⟨W1,hW1⟩:∃W1,w.alloc (.cells #[.int .i64 d.k,.int .i64 d.n,.slice Ab nb cb,.slice An nn cn,.slice Ap np cp] 30)=W1:=⟨_,rfl⟩;have hW1z:W1.heap.size=w.heap.size+1:=by rw[<- hW1];simp
 have HWB:=QjZ;rw[hW1] at hown1 hown1' hz1 HB2 HW1;have HBX:=Q2 (show W1.cell? KV=some (.int .i64 d.k)/\W1.cell? ⟨w.heap.size,4,none⟩=some (.slice Ap np cp) by rw[<- hW1];exact⟨by simp,by simp⟩);have HZ:=Q2 hW1z;clear hW1 hb2;generalize num d.k=nk at*
 generalize num (np:Int)=nnp at*
 have hzle:w.heap.size<W1.heap.size:=by omega
 clear hW1z;go_wp2_with (at_builtin;refine Z6 _ slB rfl (.tmp 25) (.tmp 29) rfl W1.heap.size A1 nk.length c1 (bv nk) rfl hown1' _ A2 nnp.length c2 (bv nnp) rfl (Rd.of_own hown2) (ZX _) Q3 Q3 HB2.out Q3 ?_;intro A3 c3 w3 hown3 _ hb3;have q40:=(hb3.cell (p:=⟨w.heap.size,4,none⟩) (by exact hzle)).trans HBX.out.2)
 go_loopw [3,34] (Qar w W1 (nk++nnp) p false d.ns) (fun _ k _=>np - (intOf k).toNat)
 case atStart=>exact Q9r hown3 hb3
 case round=>
  clear hown3 hb3 q40 hown1 hown1' hown2 q0 q4 HB2 HW1 hz1 hz2;obtain⟨i,A,c,hi,rfl,rfl,hown,hbw⟩:=hrel;rw[HNP.out] at hi;have HBW:=Q2 hbw;have HWR:=QnZ;have hzw:=hbw.size;have r0:wr.cell? ⟨w.heap.size,0,none⟩=some (.int .i64 d.k):=(hbw.cell (by exact hzle)).trans HBX.out.1;clear hbw;by_cases hlt:i<np
  ·obtain⟨b,o,hAp,hb,hfin⟩:=HP.out Q7I
   subst hAp;obtain⟨d',p',hdr⟩:=VF.drop_cons (F:=p) (i:=i) Qd2;have hl':(XQ d' p').length<=1099511627776:=Nat.le_trans (Q8P (rc:=false) (ns:=d.ns) hdr) Q3;have hlacc:=Q0t (F:=p) (rc:=false) (ns:=d.ns) (i:=i);have hlacc2:=Q0t (F:=p) (rc:=false) (ns:=d.ns) (i:=i+1);obtain⟨sb',sn',sp',⟨k0,k1,k2,k3,k4⟩,hd'⟩:=hfin.at_ hdr;have HV':Hid (VIn w w.heap.size (.agg #[.int .i64 d'.k,.int .i64 d'.n,sb',sn',sp']) d' p'):=Qfs;obtain⟨Ab',nb',cb',An',nn',cn',Ap',cp',rfl,rfl,rfl,_⟩:=hd';have q0:=(HWR.out.cell JU).trans k0;have q1:=(HWR.out.cell JU).trans k1;have q2:=(HWR.out.cell JU).trans k2;have q3:=(HWR.out.cell JU).trans k3;have q4:=(HWR.out.cell JU).trans k4;clear k0 k1 k2 k3 k4 hfin;have HCT:=Qr1;have HADD:=Q2 (QoN p d.ns i d' p' _ hdr);clear hdr;have hrc':=HRC.out;have hzlt:w.heap.size<wr.heap.size:=by omega
   have r0':∀ob,(wr.alloc ob).cell? ⟨w.heap.size,0,none⟩=some (.int .i64 d.k):=fun ob=>Qj r0;have hli:(i:Int)<(np:Int):=by omega
   have h0:(0:Int)<=(i:Int):=by omega
   obtain⟨acc,hacc⟩:∃acc,nk++nnp++XL (p.take i) false d.ns=acc:=⟨_,rfl⟩;have HACC:=Q2 hacc;have hal:acc.length=nk.length+nnp.length+(XL (p.take i) false d.ns).length:=by rw[<- hacc];simp;omega
   rw[hacc] at hown ⊢;have hal':acc.length<=1099511627776:=by omega
   clear hacc hal;go_wp2_with fail
   refine(HCT.out _ _ ((HV'.out.below HWR.out Xr).keep (fun q hq=>(JN _ _).cell Q3) Zp)).mono ?_;rintro e w4 ⟨A4,c4,rfl,hown4,hb4⟩;have hz4:=hb4.size;have HB4:=Q2 (show Below W1.heap.size W1 w4 from HBW.out.trans ((X9 (JN wr _) hb4).mono hzw));have hown':=ZV (ZV hown (JN wr _) Xr) hb4 Zp;clear hb4;go_wp2_with (at_builtin;refine Z6 _ slB rfl (.tmp 51) (.tmp 53) rfl W1.heap.size A acc.length c (bv acc) rfl hown' _ A4 (XQ d' p').length c4 (bv (XQ d' p')) rfl (Rd.of_own hown4) (ZX _) Q3 (by have:=HB4.out.size;omega) HB4.out (Nat.le_refl _) ?_;intro A5 c5 w5 hown5 _ hb5)
   exact⟨QcR Qd2 HADD.out hown5 (by rw[HACC.out]) (by rw[HACC.out]) hb5,by simp [intOf];omega⟩
  ·have HAL:=Q2 (show p.take i=p from VF.take_all Q7I)
   go_wp2_with fail
   go_ret;rw[HE.out];refine JK.as (Jx hown Q3) rfl ?_ HWR.out;rw[HAL.out,List.append_assoc]
end
section
variable {d:Nd}{p:VF}{v:Value}{w:World}
theorem QiI{wr w6 w7:World}{base e s n:Nat}{xs:List Value}(hg:w6.grownBy w7 v.ownBlock)(hown:wr.ownsRow base e s v n xs)(hz:wr.heap.size<w6.heap.size):∀o,w7.cell? ⟨wr.heap.size,o,none⟩=w6.cell? ⟨wr.heap.size,o,none⟩:=by
 intro o;have h:=hg.block wr.heap.size hz (fun e=>by have:=(hown.lt _ e.symm).2;omega);simp only[World.cell?,h]
theorem Qfr(hall:VF.All QnJ p)(hv:VIn w w.heap.size v d p)(hf:XI d)(hfp:XD p)(hgp:YA p)(hpl:p.len<=1048576)(hk:d.k=4)(hnl:d.ns.length=p.len)(hlen:(XQ d p).length<=1099511627776):Calls Tryz.prog 102 #[v] w (JK w (XQ d p)):=by
 have he:=Q2B (d:=d) (p:=p) Q3 Q3;have hrc:(d.k==4)=true:=by simp [hk]
 rw[hrc] at he;rw[he] at hlen;have HRC:=Q2 hrc;obtain⟨sb,sn,sp,rfl,Ab,nb,cb,An,nn,cn,Ap,cp,rfl,rfl,rfl,hbc,hnc,hpc,hpm,hrb,hrn,hp⟩:=hv;obtain⟨⟨h1,h2,h3,h4⟩,_,_,hf4⟩:=hf;have hl1:=XG d.k h1 h2;have hl2:=XG (p.len:Int) Q3 Q3;have hk1:(d.k==1)=false:=by simp [hk]
 have hk2:(d.k==2)=false:=by simp [hk]
 have HRN:=Q2 hrn;have hnn:nn=p.len:=by have:=hrn.len;rw[Xw] at this;omega
 have HP:=Q2 hp;have HFP:=Q2 hfp;have HGP:=Q2 hgp;have HALL:=Q2 hall;simp only[List.length_append] at hlen;obtain⟨np,hnp⟩:∃np,p.len=np:=⟨_,rfl⟩;have HNP:=Q2 hnp;rw[hnp] at hpl hpc hl2 hlen he hnl hnn ⊢;have HE:=Q2 he;clear he;have HNS:=Q2 hf4;clear hrb hrn hp hk hfp hgp hall hnp hf4;have hnn1:nn<=np:=by omega
 have hnn2:np<=nn:=by omega
 clear hnn hnl;go_enter Tryz.func102,Tryz.ntmps102;go_wp2_with fail
 refine(Z7 d.k _ h1 h2).mono ?_;rintro e w1 ⟨A1,c1,rfl,hown1,hb1⟩;have hz1:=hb1.size;have q0:w1.cell? ⟨w.heap.size,0,none⟩=some (.int .i64 d.k):=Q5l;have q4:w1.cell? ⟨w.heap.size,4,none⟩=some (.slice Ap np cp):=Q5l;have HW1:=Q2 hb1;clear hb1;go_wp2_with fail
 refine(Z7 (np:Int) _ Q3 Q3).mono ?_;rintro e w2 ⟨A2,c2,rfl,hown2,hb2⟩;have hz2:=hb2.size;have HB2:=Q2 (HW1.out.trans (hb2.mono hz1));have hown1':=Q9Y;obtain⟨W1,hW1⟩:∃W1,w.alloc (.cells #[.int .i64 d.k,.int .i64 d.n,.slice Ab nb cb,.slice An nn cn,.slice Ap np cp] 30)=W1:=⟨_,rfl⟩;have hW1z:W1.heap.size=w.heap.size+1:=by rw[<- hW1];simp
 have HWB:=QjZ;rw[hW1] at hown1 hown1' hz1 HB2 HW1;have HBX:=Q2 (show W1.cell? KV=some (.int .i64 d.k)/\W1.cell? ⟨w.heap.size,4,none⟩=some (.slice Ap np cp)/\W1.cell? ⟨w.heap.size,3,none⟩=some (.slice An nn cn) by rw[<- hW1];exact⟨by simp,by simp,by simp⟩);have HZ:=Q2 hW1z;clear hW1 hb2;generalize num d.k=nk at*
 generalize num (np:Int)=nnp at*
 have hzle:w.heap.size<W1.heap.size:=by omega
 clear hW1z;go_wp2_with (at_builtin;refine Z6 _ slB rfl (.tmp 25) (.tmp 29) rfl W1.heap.size A1 nk.length c1 (bv nk) rfl hown1' _ A2 nnp.length c2 (bv nnp) rfl (Rd.of_own hown2) (ZX _) Q3 Q3 HB2.out Q3 ?_;intro A3 c3 w3 hown3 _ hb3;have q40:=(hb3.cell (p:=⟨w.heap.size,4,none⟩) (by exact hzle)).trans HBX.out.2.1)
 go_loopw [3,34] (Qar w W1 (nk++nnp) p true d.ns) (fun _ k _=>np - (intOf k).toNat)
 case atStart=>exact Q9r hown3 hb3
 case round=>
  clear hown3 hb3 q40 hown1 hown1' hown2 q0 q4 HB2 HW1 hz1 hz2;obtain⟨i,A,c,hi,rfl,rfl,hown,hbw⟩:=hrel;rw[HNP.out] at hi;have HBW:=Q2 hbw;have HWR:=QnZ;have hzw:=hbw.size;have r0:wr.cell? ⟨w.heap.size,0,none⟩=some (.int .i64 d.k):=(hbw.cell (by exact hzle)).trans HBX.out.1;clear hbw;by_cases hlt:i<np
  ·obtain⟨b,o,hAp,hb,hfin⟩:=HP.out Q7I
   subst hAp;obtain⟨d',p',hdr⟩:=VF.drop_cons (F:=p) (i:=i) Qd2;have hl':(XQ d' p').length<=1099511627776:=Nat.le_trans (Q8P (rc:=true) (ns:=d.ns) hdr) Q3;have hlacc:=Q0t (F:=p) (rc:=true) (ns:=d.ns) (i:=i);have hlacc2:=Q0t (F:=p) (rc:=true) (ns:=d.ns) (i:=i+1);obtain⟨sb',sn',sp',⟨k0,k1,k2,k3,k4⟩,hd'⟩:=hfin.at_ hdr;have HV':Hid (VIn w w.heap.size (.agg #[.int .i64 d'.k,.int .i64 d'.n,sb',sn',sp']) d' p'):=Qfs;obtain⟨Ab',nb',cb',An',nn',cn',Ap',cp',rfl,rfl,rfl,_⟩:=hd';have q0:=(HWR.out.cell JU).trans k0;have q1:=(HWR.out.cell JU).trans k1;have q2:=(HWR.out.cell JU).trans k2;have q3:=(HWR.out.cell JU).trans k3;have q4:=(HWR.out.cell JU).trans k4;clear k0 k1 k2 k3 k4 hfin;have HCT:=Qr1;have hni:i<nn:=by omega
   obtain⟨bn,on,s,hAn,hbn,hsn,hcn⟩:=Vb HRN.out hni;subst hAn;have HADD:=Q2 (Qmh p d.ns i d' p' _ _ hdr hsn);have hsl:s.size<=1048576:=by simpa using HNS.out _ (List.mem_of_getElem? hsn)
   have hchl:(ZK s.data.toList).length<=1048586:=by
    have h1:=K2 s.data.toList (by simpa using (show s.size<=140737488355318 by omega));have h2:s.data.toList.length=s.size:=by simp
    omega
   rw[HADD.out] at hlacc2;simp only[List.length_append] at hlacc2;have s3:wr.cell? ⟨w.heap.size,3,none⟩=some (.slice (some ⟨bn,on,none⟩) nn cn):=(HBW.out.cell (by exact hzle)).trans HBX.out.2.2;have sc:wr.cell? ⟨bn,on+i,none⟩=some (.string s):=(HWR.out.cell (by exact hbn)).trans hcn;have hni':(i:Int)<(nn:Int):=by omega
   have hcv:=Q9e s;have s3':∀ob,(wr.alloc ob).cell? ⟨w.heap.size,3,none⟩=some (.slice (some ⟨bn,on,none⟩) nn cn):=fun ob=>Qj s3;have sc':∀ob,(wr.alloc ob).cell? ⟨bn,on+i,none⟩=some (.string s):=fun ob=>Qj sc;clear hsn hcn;clear hdr;have hrc':=HRC.out;have hzlt:w.heap.size<wr.heap.size:=by omega
   have r0':∀ob,(wr.alloc ob).cell? ⟨w.heap.size,0,none⟩=some (.int .i64 d.k):=fun ob=>Qj r0;have hli:(i:Int)<(np:Int):=by omega
   have h0:(0:Int)<=(i:Int):=by omega
   obtain⟨acc,hacc⟩:∃acc,nk++nnp++XL (p.take i) true d.ns=acc:=⟨_,rfl⟩;have HACC:=Q2 hacc;have hal:acc.length=nk.length+nnp.length+(XL (p.take i) true d.ns).length:=by rw[<- hacc];simp;omega
   rw[hacc] at hown ⊢;have hal':acc.length<=1099511627776:=by omega
   clear hacc hal;go_wp2_with fail
   have hb5:=Q2U (wr.alloc (.cells #[.int .i64 d'.k,.int .i64 d'.n,.slice Ab' nb' cb',.slice An' nn' cn',.slice Ap' p'.len cp'] 30)) s;have hz5:=hb5.size;refine(Q4N (bs:=s.data.toList) (QiV _ _ _ Xa) Q3).mono ?_;rintro e w6 ⟨A6,c6,rfl,hown6,hb6⟩;have hz6:=hb6.size;have HB6:=Q2 (show Below wr.heap.size wr w6 from X9 (X9 (JN _ _) hb5) hb6);have hz66:=HB6.out.size
   have HX:=(show VW w6 wr.heap.size 0 d' (.slice Ab' nb' cb') (.slice An' nn' cn') (.slice Ap' p'.len cp') from by
    have hk:∀o,w6.cell? ⟨wr.heap.size,o,none⟩=(wr.alloc (.cells #[.int .i64 d'.k,.int .i64 d'.n,.slice Ab' nb' cb',.slice An' nn' cn',.slice Ap' p'.len cp'] 30)).cell? ⟨wr.heap.size,o,none⟩:=fun o=>(X9 hb5 hb6).cell Qn
    exact⟨(hk 0).trans Qn,(hk 1).trans Qn,(hk 2).trans Qn,(hk 3).trans Qn,(hk 4).trans Qn⟩)
   have hown':=ZV hown HB6.out Xr;have hzx:wr.heap.size<w6.heap.size:=by simp only[QB] at hz5;omega
   clear hcv hb5 hb6;generalize ZK s.data.toList=ch at*
   obtain⟨x0,x1,x2,x3,x4⟩:=HX;go_wp2_with (at_builtin;refine Q5e _ slB rfl (.tmp 42) (.tmp 49) rfl W1.heap.size A acc.length c (bv acc) rfl hown' _ A6 ch.length c6 (bv ch) rfl (Rd.of_own hown6) (ZX _) Q3 Q3 ?_;intro A7 c7 w7 hown7 hg7 hb7;have hx7:=QiI hg7 hown hzx;have y0:=(hx7 0).trans x0;have y1:=(hx7 1).trans x1;have y2:=(hx7 2).trans x2;have y3:=(hx7 3).trans x3;have y4:=(hx7 4).trans x4;clear hx7)
   have HB7:=Q2 (show Below W1.heap.size W1 w7 from HBW.out.trans ((HB6.out.mono hzw).trans hb7));have HW7:=Q2 (show Below w.heap.size w w7 from X9 HWB.out HB7.out);have hz7:=HB7.out.size;refine(HCT.out _ _ (HV'.out.on HW7.out)).mono ?_;rintro e w4 ⟨A4,c4,rfl,hown4,hb4⟩;have hz4:=hb4.size;have HB4:=Q2 (show Below W1.heap.size W1 w4 from HB7.out.trans (hb4.mono hz7));have hown8:=ZV hown7 hb4 Xr;clear hb4;go_wp2_with (at_builtin;refine Z6 _ slB rfl (.tmp 51) (.tmp 53) rfl W1.heap.size A7 (acc.length+ch.length) c7 (bv acc++bv ch) rfl hown8 _ A4 (XQ d' p').length c4 (bv (XQ d' p')) rfl (Rd.of_own hown4) (ZX _) Q3 (by have:=HB4.out.size;omega) HB4.out (Nat.le_refl _) ?_;intro A5 c5 w5 hown5 _ hb5)
   exact⟨QcR Qd2 HADD.out hown5 (by rw[HACC.out,Y1,List.append_assoc]) (by rw[HACC.out,List.length_append];omega) hb5,by simp [intOf];omega⟩
  ·have HAL:=Q2 (show p.take i=p from VF.take_all Q7I)
   go_wp2_with fail
   go_ret;rw[HE.out];refine JK.as (Jx hown Q3) rfl ?_ HWR.out;rw[HAL.out,List.append_assoc]
theorem Qds(d:Nd)(p:VF)(hall:VF.All QnJ p):QnJ d p:=by
 intro hf hfp hpl hc hg hlen w v hv;obtain⟨⟨k1,k4⟩,_,_,_,_,hnl,_⟩:=Yk hc;by_cases h1:d.k=1
 ·exact QeG hv hf h1
 ·by_cases h2:d.k=2
  ·exact Qbb hv hf h2
  ·by_cases h3:d.k=3
   ·exact QbV hall hv hf hfp hg hpl h3 hlen
   ·exact Qfr hall hv hf hfp hg hpl Q3 (hnl Q3) hlen
theorem Qb4(hf:XI d)(hfp:XD p)(hpl:p.len<=1048576)(hc:QJ d p.len=0)(hg:YA p)(hlen:(XQ d p).length<=1099511627776)(hv:VIn w w.heap.size v d p):
  Calls Tryz.prog 102 #[v] w (JK w (XQ d p)):=VF.all_each Qds d p hf hfp hpl hc hg hlen w v hv
end
section
variable {d:Nd}{m:Nat}{p:VF}{v:Value}{w:World}
def XJ(d:Nd)(p:VF):Int×Int:=match Xg (.cons d p .nil) 0 1 with|.inl f=>f|.inr _=>if 4000<(XQ d p).length then (14,-1) else (0,0)
theorem Q7j{f:Int×Int}(h:Xg (.cons d p .nil) 0 1=.inl f):XJ d p=f:=by unfold XJ;rw[h]
theorem Qby(h:Xg (.cons d p .nil) 0 1=.inr m)(hl:4000<(XQ d p).length):XJ d p=(14,-1):=by unfold XJ;rw[h];simp only;rw[if_pos hl]
theorem QgI(h:Xg (.cons d p .nil) 0 1=.inr m)(hl:¬4000<(XQ d p).length):XJ d p=(0,0):=by unfold XJ;rw[h];simp only;rw[if_neg hl]
structure Mod(d:Nd)(p:VF):Prop where
 nd:XI d
 fp:XD p
 pl:p.len<=1048576
 el:(XQ d p).length<=1099511627776
theorem Q5O{base g o:Nat}{e s n:Nat}{x:Value}{xs:List Value}(h:w.ownsRow base e s v n xs)(hg:g<base):(w.setCell ⟨g,o,none⟩ x).ownsRow base e s v n xs:=by
 refine⟨h.1,?_⟩;rcases h.2 with hn|⟨k,cap,cur,hv,hk,hh,r⟩
 ·exact .inl hn
 ·refine .inr ⟨k,cap,cur,hv,hk,?_,r⟩
  rw[Below.heap_setCell _ _ _ _ (by simp only;omega)];exact hh
def QsH(w:World)(d:Nd)(p:VF)(e:Ending)(w':World):Prop:=
 Below w.heap.size w w'/\((∃c i,c≠0/\XJ d p=(c,i)/\e=.returned (.tuple #[.slice none 0 0,.agg #[.int .i64 c,.int .i64 i]]))\/
  (∃A c m,Xg (.cons d p .nil) 0 1=.inr m/\XJ d p=(0,0)/\(XQ d p).length<=4000/\e=.returned (.tuple #[.slice A (XQ d p).length c,.agg #[.int .i64 0,.int .i64 0]])/\w'.ownsRow w.heap.size 5 1 (.slice A (XQ d p).length c) (XQ d p).length (bv (XQ d p))))
theorem Q7Y(hm:Mod d p)(hv:VIn w w.heap.size v d p):Calls Tryz.prog 69 #[v] w (QsH w d p):=by
 have HV:=Q2 hv;have HM:=Q2 hm;obtain⟨sb,sn,sp,rfl,Ab,nb,cb,An,nn,cn,Ap,cp,rfl,rfl,rfl,hbc,hnc,hpc,hpm,hrb,hrn,hp⟩:=hv;clear hrb hrn hp hm;go_enter Tryz.func69,Tryz.ntmps69;go_wp2_with fail
 refine(Q3u (num:=0) (lev:=1) HM.out.nd HM.out.fp HM.out.pl Q8N Q3 Q3).mono ?_;rintro e w2 ⟨hb2,hres⟩;have F1:=Q9u;simp only[QB] at F1
 have HBX:=Q2 (show VW w2 w.heap.size 0 d (.slice Ab nb cb) (.slice An nn cn) (.slice Ap p.len cp) from by
  have hk:∀o,w2.cell? ⟨w.heap.size,o,none⟩=_:=fun o=>hb2.cell Zp
  exact ⟨(hk 0).trans (Qj Qn),(hk 1).trans (Qj Qn),(hk 2).trans (Qj Qn),(hk 3).trans (Qj Qn),(hk 4).trans (Qj Qn)⟩)
 have HB2:=Q94;have HF1:=Q2 F1;have hz2:w.heap.size+1<w2.heap.size:=F1.1;clear hb2 F1;rcases hres with ⟨c,ix,hr,rfl⟩|⟨m,hr,rfl⟩
 ·have hc:=VP _ _ _ _ _ hr
  have hc0:(c==0)=false:=by simpa using hc
  have hneq:=Q35 c ix 0 0;have HF:=Q2 (Q7j hr);have HC:=Q2 hc;have P2:=Qms;have P1:=FC.new w2 c ix;have PB:=Qk4;clear hr hc;go_wp2_with fail
  obtain⟨W4,hW4⟩:∃W4,w2.alloc (.cells #[.int .i64 c,.int .i64 ix] 32)=W4:=⟨_,rfl⟩;rw[hW4] at P1 P2 PB ⊢;have HPB:=Q2 PB;clear hW4 PB;obtain⟨z3,a0,a1,g0,g1⟩:=P1;obtain⟨z4,r0,r1,e0,e1⟩:=P2;go_region
  go_wp2_with fail
  refine QmN ?_;exact Qjk
 ·have hneq:=Q35 0 0 0 0
  have hg:=Q4p _ _ _ _ hr;have HR:=Q2 hr;obtain⟨x0,x1,x2,x3,x4⟩:=HBX.out;simp only[Nat.zero_add] at x1 x2 x3 x4;have y0:=fun ob=>Qj (o:=ob) x0;have y1:=fun ob=>Qj (o:=ob) x1;have y2:=fun ob=>Qj (o:=ob) x2;have y3:=fun ob=>Qj (o:=ob) x3;have y4:=fun ob=>Qj (o:=ob) x4;clear hr;go_wp2_with fail
  refine(Qb4 HM.out.nd HM.out.fp HM.out.pl hg.1 hg.2.1 HM.out.el (HV.out.on (Kv HB2.out _))).mono ?_;rintro e w3 ⟨A3,c3,rfl,hown3,hb3⟩;have HB3:=Q2 (show Below w.heap.size w w3 from X9 (Kv HB2.out _) hb3);have HR3:=Q2 ((HF1.out.alloc (.cells #[.int .i64 0,.int .i64 0] 32)).on hb3);have HOWN:=Q2 hown3;obtain⟨z4,r0,r1,e0,e1⟩:=HR3.out;have hel:=HM.out.el;clear hb3 hown3 x0 x1 x2 x3 x4 y0 y1 y2 y3 y4;by_cases hbig:4000<(XQ d p).length
  ·have HF:=Q2 (Qby HR.out hbig)
   have hbig':(4000:Int)<((XQ d p).length:Int):=by omega
   go_wp2_with (go_at_call 103;refine(JD _ _ _).mono ?_;rintro e w' ⟨rfl,rfl⟩)
   refine bodyPost_ret (v:=.tuple #[.slice none 0 0,.agg #[.int .i64 14,.int .i64 (-1)]]) Qnu rfl ?_;exact⟨Kv (Z0 HB3.out Q3 _ _) _,.inl ⟨14,-1,by decide,HF.out,rfl⟩⟩
  ·have HF:=Q2 (QgI HR.out hbig)
   have hbig':¬(4000:Int)<((XQ d p).length:Int):=by omega
   go_wp2_with fail
   refine bodyPost_ret (v:=.tuple #[.slice A3 (XQ d p).length c3,.agg #[.int .i64 0,.int .i64 0]]) Qnu rfl ?_;refine⟨Z0 HB3.out Q3 _ _,.inr ⟨A3,c3,m,HR.out,HF.out,by omega,rfl,?_⟩⟩;exact Jx (Q5O (Q5O HOWN.out Zp) Zp) Zp
theorem Q7q(hm:Mod d p)(hv:VIn w w.heap.size v d p):Calls Tryz.prog 34 #[v] w fun e w'=>e=.returned (.agg #[.int .i64 (XJ d p).1,.int .i64 (XJ d p).2])/\Below w.heap.size w w':=by
 have HV:=Q2 hv;have HM:=Q2 hm;obtain⟨sb,sn,sp,rfl,Ab,nb,cb,An,nn,cn,Ap,cp,rfl,rfl,rfl,hbc,hnc,hpc,hpm,hrb,hrn,hp⟩:=hv;clear hrb hrn hp hm;go_enter Tryz.func34,Tryz.ntmps34;go_wp2_with fail
 refine(Q7Y HM.out Q8N).mono ?_;rintro e w2 ⟨hb2,hres⟩;have F1:=Q9u;simp only[QB] at F1;have HB2:=Q94;have HF1:=Q2 F1;have hz2:w.heap.size+1<w2.heap.size:=F1.1;clear hb2 F1;obtain⟨A,n,c,cd,ix,he,hf⟩:∃A n c cd ix,e=.returned (.tuple #[.slice A n c,.agg #[.int .i64 cd,.int .i64 ix]])/\XJ d p=(cd,ix):=by
  rcases hres with ⟨c,i,_,h,he⟩|⟨A,c,m,_,h,_,he,_⟩
  ·exact Q9J
  ·exact Q9J
 subst he;have HF:=Q2 hf;clear hf hres;obtain⟨z4,r0,r1,e0,e1⟩:=HF1.out;go_wp2_with fail
 refine QjI ?_;exact Qji
end
theorem Qae:∀{F:VF},YA F->Vk F
 |.nil,_=>trivial
 |.cons d p r,h=>⟨h.1,Qae h.2.1,Qae h.2.2⟩
def KM(F:List Rl)(D:List UInt8):Nat:=(D.length+1)*(F.length+1)
abbrev ndZ:Nd:=⟨0,0,[],[]⟩
def Q0j(F:List Rl)(D:List UInt8):(Nd×VF)×(Int×Int):=
 if QI F≠(0,0) then ((ndZ,.nil),QI F)
 else if 1000<D.length then ((ndZ,.nil),(3,-2))
 else match XK F D (KM F D) 0 0 with
  |none=>((ndZ,.nil),(1,0))
  |some (.error e)=>((ndZ,.nil),(1,(e:Int)))
  |some (.ok y)=>if y.2.2<D.length then ((ndZ,.nil),(1,(y.2.2:Int))) else if XJ y.1 y.2.1≠(0,0) then ((ndZ,.nil),(14,-2)) else ((y.1,y.2.1),(0,0))
def Js(F:List Rl)(d:Nd)(l:VF):List UInt8×(Int×Int):=
 if QI F≠(0,0) then ([],QI F)
 else if XJ d l≠(0,0) then ([],XJ d l)
 else match XA F (.cons d l .nil) [([],some 0)] [] 0 with
  |.error e=>([],(13,(e:Int)))
  |.ok (b,_)=>if 1000<b.length then ([],(14,-2)) else (b,(0,0))
section
variable {F:List Rl}{D:List UInt8}{d:Nd}{l:VF}
theorem Q75(h:QI F=(0,0)):Fm F:=by
 refine Qub ?_;unfold QI at h;split at h
 ·exact h
 ·next hc=>simpa using hc
theorem QkK(h:(Xf F).1=0):Xf F=(0,0):=by
 unfold Xf at h ⊢;split at h
 ·exact Qcv
 split at h
 ·exact Qcv
 next h0 h1=>
 rw[if_neg h0,if_neg h1];cases e1:Xl F.length (fun k=>Zb F k != 0) with
 |some k=>
  rw[e1] at h;have:=(Q1j e1).2.1;simp only at h;rw[h] at this;cases this
 |none=>
  rw[e1] at h;simp only at h ⊢;cases e2:Xl F.length (fun k=>JC F k != 0) with
  |some k=>
   rw[e2] at h;have:=(Q1j e2).2.1;simp only at h;rw[h] at this;cases this
  |none=>
   rw[e2] at h;simp only at h ⊢;cases e3:Xl F.length (Q1u F) with
   |some k=>rw[e3] at h;exact absurd h Qn
   |none=>
    rw[e3] at h;simp only at h ⊢;cases e4:Xl F.length (fun k=>!((Zk F).getD k false)) with
    |some k=>rw[e4] at h;exact absurd h Qn
    |none=>
     rw[e4] at h;simp only at h ⊢;cases e5:Xl F.length (ZF F) with
     |some k=>rw[e5] at h;exact absurd h Qn
     |none=>rfl
theorem Qo9(h:(QI F).1=0):QI F=(0,0):=by
 unfold QI at h ⊢;split at h
 ·next hc=>exact absurd (QkK h) hc
 ·next hc=>
  rw[if_neg hc];split at h
  ·exact Qcv
  ·next hl=>rw[if_neg hl]
theorem Qto(h:(XJ d l).1=0):XJ d l=(0,0):=by
 unfold XJ at h ⊢;split at h
 ·next f hf=>
  obtain⟨c,i⟩:=f;exact absurd h (VP _ _ _ _ _ hf)
 ·next m hm=>
  split at h
  ·exact Qcv
  ·next hl=>rw[if_neg hl]
theorem Q8W(h:XJ d l=(0,0)):QJ d l.len=0/\Vk l:=by
 unfold XJ at h;split at h
 ·next f hf=>
  subst h;exact absurd rfl (VP _ _ _ _ _ hf)
 ·next m hm=>
  have:=Q4p _ _ _ _ hm;exact⟨this.1,Qae this.2.1⟩
theorem QlB(hv:Fm F){y:Nd×VF×Nat}(h:XK F D (KM F D) 0 0=some (.ok y)):0<y.2.2/\y.2.2<=D.length:=VR hv.toUsd _ ⟨by omega,by have:=hv.len;omega⟩ 0 y Z4 h
end
section
variable {D:List UInt8}{F:List Rl}{W:World}
structure Py where
 Ab:Option Addr
 nb:Nat
 cb:Nat
 An:Option Addr
 nn:Nat
 cn:Nat
 Ap:Option Addr
 np:Nat
 cp:Nat
 L:List Qf
abbrev Py.cells(y:Py)(d:Nd):List Value:=[.int .i64 d.k,.int .i64 d.n,.slice y.Ab y.nb y.cb,.slice y.An y.nn y.cn,.slice y.Ap y.np y.cp]
def QrR(F:List Rl)(D:List UInt8)(W:World)(e:Ending)(w':World):Prop:=∃y:Py,e=.returned (.tuple #[.agg (y.cells (Q0j F D).1.1).toArray,.agg #[.int .i64 (Q0j F D).2.1,.int .i64 (Q0j F D).2.2]])/\Zn y.L (.agg (y.cells (Q0j F D).1.1).toArray) (Q0j F D).1.1 (Q0j F D).1.2/\New y.L W.heap.size w'/\Below W.heap.size W w'
theorem Zn.zero:Zn [] (.agg #[.int .i64 0,.int .i64 0,.slice none 0 0,.slice none 0 0,.slice none 0 0]) ndZ .nil:=
 ⟨_,_,_,rfl,fun w _=>⟨none,0,0,none,0,0,none,0,rfl,rfl,rfl,Nat.le_refl _,Nat.le_refl _,Nat.le_refl _,Nat.zero_le _,J7 _ _ _,J7 _ _ _,fun h=>absurd h (Nat.lt_irrefl 0)⟩⟩
theorem Qhk{w:World}{c x:Int}(h:Q0j F D=((ndZ,.nil),(c,x)))(hb:Below W.heap.size W w):QrR F D W (.returned (.tuple #[.agg #[.int .i64 0,.int .i64 0,.slice none 0 0,.slice none 0 0,.slice none 0 0],.agg #[.int .i64 c,.int .i64 x]])) w:=
 ⟨⟨none,0,0,none,0,0,none,0,0,[]⟩,by rw[h],by rw[h];exact Zn.zero,New.nil _ _,hb⟩
theorem Qrr{P:Program}{fn:Func}{R:Ending->World->Prop}{N:Nat}{M:List Nat}{E:Env}{O:List Qf}{e:Exit}(he:e=.normal\/e=.ret)(h:xE (bodyPost P fn R) N M W E O e):xE (bodyPostD P fn R) N M W E O e:=fun a w ha hw=>by
 have h:=h a w ha hw;rcases he with rfl|rfl
 ·obtain⟨hd,v,h1,h2⟩:=h
  exact QlX
 ·obtain⟨hd,v,h1,h2⟩:=h
  exact QlX
end
end Go.Proofs.YtphkhfdmlcnoeaaGreatDoor
