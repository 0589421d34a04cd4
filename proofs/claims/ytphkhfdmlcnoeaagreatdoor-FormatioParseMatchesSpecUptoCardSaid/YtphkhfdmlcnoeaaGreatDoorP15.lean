import Derived.Test.YtphkhfdmlcnoeaaGreatDoorP14
import Derived.Lib.ItoaLen
namespace Go.Proofs.YtphkhfdmlcnoeaaGreatDoor
set_option linter.unusedVariables false
set_option linter.unusedSimpArgs false
set_option maxRecDepth 1000000
set_option maxHeartbeats 32000000
open Go.RowKit
section
variable {A:Option Addr}{F:List Rl}{O:List Qb}{W w:World}{c n:Nat}
theorem QbT(c i:Int)(w:World):Calls Tryz.prog 91 #[.int .i64 c,.int .i64 i] w fun e w'=>e=.returned (.agg #[.int .i64 c,.int .i64 i])/\Below w.heap.size w w':=by
 go_enter Tryz.func91,Tryz.ntmps91;refine Qv (M:=[]) (W:=w) (N:=8) (E:=[(0,.int .i64 c),(1,.int .i64 i)]) (O:=[]) ?_ mc3 (Wd.start [] w);repeat(first|refine Q4 zM ?_|refine yA (t:=32) fun b2=>?_|refine Q4 (Xt (xs:=[(0,.tmp 5),(1,.tmp 6)]) (vs:=[(0,.int .i64 c),(1,.int .i64 i)]) (v:=.agg #[.int .i64 c,.int .i64 i]) rfl rfl Q1 rfl rfl KW) ?_|refine yW 0 ?_|refine Qd ?_|refine Qa ?_|refine Q6 ?_|refine QB ?_)
 exact Q8 mc4 rfl Yy QgE
section
variable {P:Program}{ops:Array Oper}{C:World->Prop}{N:Nat}{E:Env}{o:Oper}{d:Nat}
theorem QuD{x y:Operand}{t t':TypeId}{a b c:Bool}(ht:P.underlying t=some .bool)(ho:o.op=.binOp .eql t x y t')(hd:o.dst=some d)(hN:d<N)(hw:Qi ops E o=some true)(hx:ev E x=some (.bool a))(hy:ev E y=some (.bool b))(hb:(a==b)=c):oE P ops C N E ((d,.bool c)::E) o:=
 X8 hd hN hw fun ρ w ha _=>by
  subst hb;simp [execOp,ho,ha.eval hx,ha.eval hy,run_eql_bool _ _ _ _ ht,go_sem]
end
def Qw9(W:World)(c:Int)(e:Ending)(w':World):Prop:=e=.returned (.int .i64 c)/\Below W.heap.size W w'
theorem QfC{l:List Bool}{b:Nat}(hr:Rd W W.heap.size 1 (some ⟨b,0,none⟩) n (XC l))(hl:l.length=n)(hn:n<=1048576):
  Calls Tryz.prog 118 #[.slice (some ⟨b,0,none⟩) n c,.bool false] W (Qw9 W (Q47 l)):=by
 have HR:=Q2 hr;clear hr;go_enter Tryz.func118,Tryz.ntmps118;refine Qv (M:=[]) (W:=W) (N:=19) (E:=[(0,.slice Q0H n c),(1,.bool false)]) (O:=[]) ?_ mc3 (Wd.start [] W);repeat(first|refine Q4 zM ?_|refine Q4 zA ?_|refine Qd ?_|refine Qa ?_|refine Q6 ?_|refine Qh ?_|refine Q4 zL ?_)
 refine QH (ι:=Nat) (fun k=>k<=n/\∀j,j<k->l.getD j false=true) (fun k=>n - k) (fun k=>[(0,.slice Q0H n c),(1,.bool false),(7,.int .i64 (n:Int)),(8,.int .i64 (k:Int))]) (fun _=>[]) 0 [] Q1 Q0q mc1 rfl ?_;rintro k ⟨hk,hall⟩;have HA:=Q2 hall;clear hall;by_cases hkn:k<n
 ·obtain⟨v,hv⟩:∃v,l.getD k false=v:=⟨_,rfl⟩
  have hcell:W.cell? ⟨b,0+k,none⟩=some (.bool v):=by
   rw[<- hv];exact HR.out.cellAt Q3 (Ve Q3)
  have HV:=Q2 hv;clear hv;cases v with
  |true=>
   repeat(first|refine Q4 zM ?_|refine Q4 zA ?_|refine Q4 zC ?_|refine Q4 (zi1 (hj:=hkn)) ?_|refine Q4 QjQ ?_|refine Qd ?_|refine Qa ?_|refine Q6 ?_|refine Qt ?_|refine Q9 rfl ?_|refine Q7 rfl ?_|refine Qh ?_|refine Q4 Q4e ?_|refine Q4 zP ?_)
   refine Qr (k+1) [] Q1 ⟨hkn,fun j hj=>?_⟩ Q3 mc2 rfl;rcases Nat.lt_or_ge j k with h|h
   ·exact HA.out j h
   ·obtain rfl:j=k:=by omega
    exact HV.out
  |false=>
   repeat(first|refine Q4 zM ?_|refine Q4 zA ?_|refine Q4 zC ?_|refine Q4 (zi1 (hj:=hkn)) ?_|refine Q4 QjQ ?_|refine Qd ?_|refine Qa ?_|refine Q6 ?_|refine Qt ?_|refine Q9 rfl ?_|refine QB ?_|refine Qh ?_|refine Qk ?_|refine Qs ?_|refine Q4 zlt ?_)
   refine Q8 mc4 rfl (.tmp rfl) (fun w hw=>⟨?_,hw.k.below⟩);unfold Q47;rw[Jk (k:=k) Q3 (by rw[HV.out];rfl) (fun j hj=>by rw[HA.out j hj];rfl)]
 ·skip
  refine Qrj ?_
  refine Q8 mc4 rfl (.tmp rfl) (fun w hw=>⟨?_,hw.k.below⟩);unfold Q47;rw[Xl (fun j hj=>by rw[HA.out j Q3];rfl)]
theorem QW.take{B:Nat}{i:Nat}(h:QW W B A n F)(hi:i<=n)(hc:n<=c):QW W B (JQ A c 0 12) i (F.take i):=by
 refine⟨by rw[List.length_take,h.1];omega,fun h0=>?_⟩;obtain⟨b,o,rfl,hB,hr⟩:=h.2 Q3;refine⟨b,o,?_,hB,fun j r hj=>?_⟩
 ·rw[JQ,if_neg Q3,Option.map_some,Addr.add_mid,Nat.zero_mul,Nat.add_zero]
 ·rw[List.getElem?_take] at hj
  split at hj
  ·exact hr j r hj
  ·cases hj
theorem Qiv(hf:QW W W.heap.size A n F)(hF:FOk F)(hn:n<=40)(hn0:0<n)(hw:Wd [] W O w):
  Calls Tryz.prog 119 #[.agg #[.slice A n c]] w (Xf (fun b:Nat=>.slice (some ⟨b,0,none⟩) n n) (fun _=>True) [] W (fun b=>.rd (some ⟨b,0,none⟩) n 1 (XC (Zg F))::O)):=by
 refine(Q9v (hf.on hw.k.below) hF hn hn0).mono ?_;rintro e w' ⟨b,rfl,h1,h2,h3⟩;rw[ZK,hf.1] at h2 ⊢;exact⟨b,rfl,trivial,hw.push h3 h2 QqL⟩
theorem QiZ(hf:QW W W.heap.size A n F)(hF:FOk F)(hn:n<=40)(hn0:0<n)(hw:Wd [] W O w):
  Calls Tryz.prog 55 #[.agg #[.slice A n c]] w (Xf (fun y:Nat×Nat=>.slice (some ⟨y.1,0,none⟩) n y.2) (fun _=>True) [] W (fun y=>.rd (some ⟨y.1,0,none⟩) n 256 (QV (V4 F))::O)):=by
 refine(Qb0 (hf.on hw.k.below) hF hn hn0).mono ?_;rintro e w' ⟨b,c',rfl,h1,h2,h3⟩;exact⟨(b,c'),rfl,trivial,hw.push h3 h2 QqL⟩
def Qcv(W:World)(p:Int×Int)(e:Ending)(w':World):Prop:=e=.returned (.agg #[.int .i64 p.1,.int .i64 p.2])/\Below W.heap.size W w'
theorem Z7{p:Int×Int}{a b:Int}(h:p=(a,b))(hw:Wd [] W O w):Qcv W p (.returned (.agg [.int .i64 a,.int .i64 b].toArray)) w:=⟨by rw[h],hw.k.below⟩
theorem Ke{p:Nat->Prop}{k:Nat}(h:∀j,j<k->p j)(hk:p k):∀j,j<k+1->p j:=fun j hj=>by
 rcases Nat.lt_or_ge j k with h1|h1
 ·exact h j h1
 ·obtain rfl:j=k:=by omega
  exact hk
theorem Q68(F:List Rl):(V4 F).length=F.length:=by
 unfold V4;rw[Yi,List.length_map]
theorem Qbn(hf:QW W W.heap.size A n F)(hs:FSm F)(hc:n<=c):
  Calls Tryz.prog 89 #[.agg #[.slice A n c]] W (Qcv W (Xa F)):=by
 have hlen:F.length=n:=hf.1;have hsz:n<=1048576:=by rw[<- hlen];exact hs.1
 have HFM:=Q2 hf;have HS:=Q2 hs;have HLEN:=Q2 hlen;clear hf hs hlen;go_enter Tryz.func89,Tryz.ntmps89;refine Qv (M:=[]) (W:=W) (N:=100) (E:=[(0,.agg #[.slice A n c])]) (O:=[]) ?_ Z6 (Wd.start [] W);by_cases h0:n=0
 ·skip
  repeat(first|refine Q4 zM ?_|refine Q4 zA ?_|refine Q4 zF ?_|refine Q4 (zB 1) ?_|refine yB fun bf=>?_|refine yA (t:=32) fun b2=>?_|refine Q4 Q2x ?_|refine yW 0 ?_|refine Qd ?_|refine Qa ?_|refine Q6 ?_|refine Q9 rfl ?_|refine QB ?_|refine Qh ?_|refine Qk ?_|refine Qs ?_|refine Q4 zL ?_|refine Q4 zet ?_)
  exact Q8 mc4 rfl Yy (fun w hw=>Z7 (Q3p (by rw[HLEN.out];exact h0)) hw)
 by_cases h40:40<n
 ·skip
  repeat(first|refine Q4 zM ?_|refine Q4 zA ?_|refine Q4 zF ?_|refine Q4 (zB 1) ?_|refine yB fun bf=>?_|refine yA (t:=32) fun b2=>?_|refine Q4 Q2x ?_|refine yW 0 ?_|refine Qd ?_|refine Qa ?_|refine Q6 ?_|refine Q9 rfl ?_|refine Q7 rfl ?_|refine QB ?_|refine Qh ?_|refine Qk ?_|refine Qs ?_|refine Q4 zL ?_|refine Q4 Q7f ?_|refine Q4 zgt ?_)
  exact Q8 mc4 rfl Yy (fun w hw=>Z7 (Q4w (by rw[HLEN.out];exact h40)) hw)
 have hn0:0<n:=by omega
 have hn40:n<=40:=by omega
 obtain⟨b,o,rfl⟩:=HFM.out.addr hn0;repeat(first|refine Q4 zM ?_|refine Q4 zA ?_|refine Q4 zF ?_|refine Q4 (zB 1) ?_|refine yB fun bf=>?_|refine yA (t:=32) fun b2=>?_|refine Qd ?_|refine Qa ?_|refine Q6 ?_|refine Qt ?_|refine Q7 rfl ?_|refine Qh ?_|refine Q4 zL ?_|refine Q4 Q7f ?_|refine Q4 zgf ?_)
 refine QH (ι:=Nat) (fun k=>k<=n/\∀j,j<k->Zc F j=0) (fun k=>n - k) (fun k=>[(1,.pointer KJ),(2,.pointer (some ⟨b2,0,none⟩)),(3,.int .i64 (n:Int)),(27,.slice (some ⟨b,o,none⟩) n c),(28,.int .i64 (n:Int)),(29,.int .i64 (k:Int))]) (fun _=>[.blk b2 (.cells [.int .i64 0,.int .i64 0].toArray 32 (0,0)),.blk bf (.cells [.slice (some ⟨b,o,none⟩) n c].toArray 24 (0,0))]) 0 [0,1] Q1 Q0q Q5l rfl ?_;rintro k ⟨hk,hall⟩;have HA:=Q2 hall;clear hall;by_cases hkn:k<n
 ·obtain⟨rk,Ab,cb,An,cn,Ap,cp,hrk,hrg,hlk⟩:=HFM.out.rl hkn;have HRK:=Q2 (show Zc F k=Xm rk (F.take k) n by rw[Q0W hrk,HLEN.out]);have HLK:=Q2 hlk;have HSM:=Q2 (HS.out.2 rk QcS);clear hrk hlk
  have hkc:k<=c:=by omega
  by_cases hz:Xm rk (F.take k) n=0
  ·have hzb:(Xm rk (F.take k) n != 0)=false:=bne_eq_false_iff_eq.2 hz
   repeat(first|refine Q4 zM ?_|refine Q4 zA ?_|refine Q4 (zD 0) ?_|refine Q4 zE ?_|refine Q4 (zi (hj:=hkn)) ?_|refine yA (t:=65) fun b7=>?_|refine yW 0 ?_|refine Qd ?_|refine Qa ?_|refine Q6 ?_|refine Qt ?_|refine Q9 rfl ?_|refine Qh ?_|refine Q4 zlt ?_)
   refine Qsj ?_
   repeat(first|refine Q4 zM ?_|refine Qd ?_|refine Qa ?_|refine Q6 ?_|refine Qt ?_|refine Q7 rfl ?_|refine Q4 zna ?_|refine Q4 zP ?_)
   exact Qr (k+1) [1,2] Q1 ⟨hkn,Ke HA.out (HRK.out.trans hz)⟩ Q3 Qhi rfl
  ·have hzb:(Xm rk (F.take k) n != 0)=true:=bne_iff_ne.2 hz
   repeat(first|refine Q4 zM ?_|refine Q4 zA ?_|refine Q4 (zD 0) ?_|refine Q4 zE ?_|refine Q4 (zi (hj:=hkn)) ?_|refine yA (t:=65) fun b7=>?_|refine yW 0 ?_|refine Qd ?_|refine Qa ?_|refine Q6 ?_|refine Qt ?_|refine Q9 rfl ?_|refine Qh ?_|refine Q4 zlt ?_)
   refine Qsj ?_
   repeat(first|refine Q4 zM ?_|refine Q4 Q2x ?_|refine yW 1 ?_|refine Qd ?_|refine Qa ?_|refine Q6 ?_|refine Q9 rfl ?_|refine QB ?_|refine Qk ?_|refine Qs ?_|refine Q4 zna ?_)
   exact Q8 mc4 rfl Zi (fun w hw=>Z7 ((Q4L Q4J Q4Y Q1L (by rw[HRK.out];exact hz) HA.out).trans (by rw[HRK.out])) hw)
 have HR:=Q2 (show ∀j,j<F.length->Zc F j=0 from fun j hj=>HA.out j Q4Q);have HF:=Q2 (QfI HR.out);clear HA;refine QmY ?_
 refine QH (ι:=Nat) (fun k=>k<=n/\∀j,j<k->Jy F j=0) (fun k=>n - k) (fun k=>[(1,.pointer KJ),(2,.pointer (some ⟨b2,0,none⟩)),(48,.slice (some ⟨b,o,none⟩) n c),(49,.int .i64 (n:Int)),(50,.int .i64 (k:Int))]) (fun _=>[.blk b2 (.cells [.int .i64 0,.int .i64 0].toArray 32 (0,0)),.blk bf (.cells [.slice (some ⟨b,o,none⟩) n c].toArray 24 (0,0))]) 0 [0,1] Q1 Q0q Yj rfl ?_;rintro k ⟨hk,hall⟩;have HA:=Q2 hall;clear hall;by_cases hkn:k<n
 ·obtain⟨rk,Ab,cb,An,cn,Ap,cp,hrk,hrg,hlk⟩:=HFM.out.rl hkn;have HRK:=Q2 (show Jy F k=J2 F rk from Q0d hrk);have HLK:=Q2 hlk;have HSM:=Q2 (HS.out.2 rk QcS);have HOK:=Q2 (show ROk n rk by have:=HF.out k rk hrk;rwa [HLEN.out] at this);clear hrk hlk
  by_cases hz:J2 F rk=0
  ·have hzb:(J2 F rk != 0)=false:=bne_eq_false_iff_eq.2 hz
   repeat(first|refine Q4 zM ?_|refine Q4 zA ?_|refine Q4 (zD 0) ?_|refine Q4 (zD 2) ?_|refine Q4 zE ?_|refine Q4 (zi (hj:=hkn)) ?_|refine yA (t:=65) fun b7=>?_|refine yW 0 ?_|refine Q4 Qt0 ?_|refine Qd ?_|refine Qa ?_|refine Q6 ?_|refine Qt ?_|refine Q9 rfl ?_|refine Q7 rfl ?_|refine Qh ?_|refine Q4 zna ?_|refine Q4 Q4e ?_|refine Q4 zP ?_)
   exact Qr (k+1) [1,2] Q1 ⟨hkn,Ke HA.out (HRK.out.trans hz)⟩ Q3 J9 rfl
  ·have hzb:(J2 F rk != 0)=true:=bne_iff_ne.2 hz
   repeat(first|refine Q4 zM ?_|refine Q4 zA ?_|refine Q4 (zD 0) ?_|refine Q4 (zD 2) ?_|refine Q4 zE ?_|refine Q4 (zi (hj:=hkn)) ?_|refine yA (t:=65) fun b7=>?_|refine yW 0 ?_|refine Q4 Qt0 ?_|refine Q4 Q2x ?_|refine yW 1 ?_|refine Qd ?_|refine Qa ?_|refine Q6 ?_|refine Qt ?_|refine Q9 rfl ?_|refine QB ?_|refine Qh ?_|refine Qk ?_|refine Qs ?_|refine Q4 zna ?_|refine Q4 zlt ?_)
   exact Q8 mc4 rfl Zi (fun w hw=>Z7 ((Q7q Q4J Q4Y HR.out Q1L (by rw[HRK.out];exact hz) HA.out).trans (by rw[HRK.out])) hw)
 have HU:=Q2 (show ∀j,j<F.length->Jy F j=0 from fun j hj=>HA.out j Q4Q);clear HA;refine QmY ?_
 refine QH (ι:=Nat) (fun k=>k<=n/\∀j,j<k->Q1c F j=false) (fun k=>n - k) (fun k=>[(1,.pointer KJ),(2,.pointer (some ⟨b2,0,none⟩)),(66,.int .i64 (n:Int)),(67,.int .i64 (k:Int))]) (fun _=>[.blk b2 (.cells [.int .i64 0,.int .i64 0].toArray 32 (0,0)),.blk bf (.cells [.slice (some ⟨b,o,none⟩) n c].toArray 24 (0,0))]) 0 [0,1] Q1 Q0q mc1 rfl ?_;rintro k ⟨hk,hall⟩;have HA:=Q2 hall;clear hall;by_cases hkn:k<n
 ·obtain⟨cy,hcy⟩:∃cy,Q1c F k=cy:=⟨_,rfl⟩;have HCY:=Q2 hcy;clear hcy
  cases cy with
  |false=>
   repeat(first|refine Q4 zM ?_|refine Q4 zA ?_|refine Q4 (zD 0) ?_|refine Q4 (zD 1) ?_|(refine Q4 QqT ?_;rw[HCY.out])|refine Qd ?_|refine Qa ?_|refine Q6 ?_|refine Qt ?_|refine Q9 rfl ?_|refine Q7 rfl ?_|refine Qh ?_|refine Q4 Q4e ?_|refine Q4 zP ?_)
   exact Qr (k+1) [0,1] Q1 ⟨hkn,Ke HA.out HCY.out⟩ Q3 mc2 rfl
  |true=>
   repeat(first|refine Q4 zM ?_|refine Q4 zA ?_|refine Q4 (zD 0) ?_|refine Q4 (zD 1) ?_|(refine Q4 QqT ?_;rw[HCY.out])|refine Q4 Q2x ?_|refine yW 0 ?_|refine Qd ?_|refine Qa ?_|refine Q6 ?_|refine Qt ?_|refine Q9 rfl ?_|refine QB ?_|refine Qh ?_|refine Qk ?_|refine Qs ?_|refine Q4 zlt ?_)
   exact Q8 mc4 rfl Yy (fun w hw=>Z7 (Q6y Q4J Q4Y HR.out HU.out Q1L HCY.out HA.out) hw)
 have HT:=Q2 (Q50 Q4J Q4Y HR.out HU.out (fun j hj=>HA.out j Q4Q));clear HA;by_cases hfi:0<=Q47 (Zg F)
 ·skip
  repeat(first|refine Q4 zM ?_|refine Q4 zA ?_|refine Q4 (zD 0) ?_|refine Q4 (zD 1) ?_|refine Qc QsE rfl Q1 (fun bz _=>?_)|refine Q4 Qtq ?_|refine Q4 Q2x ?_|refine yW 1 ?_|refine Qd ?_|refine Qa ?_|refine Q6 ?_|refine Q9 rfl ?_|refine Q7 rfl ?_|refine XK ?_|refine QB ?_|refine Qk ?_|refine Q4 Qdp ?_|refine Q4 zht ?_)
  exact Q8 mc4 rfl Zi (fun w hw=>Z7 (HT.out.trans (Qga (ZK F) hfi)) hw)
 repeat(first|refine Q4 zM ?_|refine Q4 zA ?_|refine Q4 zF ?_|refine Q4 (zB 3) ?_|refine Q4 (zD 0) ?_|refine Q4 (zD 1) ?_|refine Q4 (zD 2) ?_|refine Qc QsE rfl Q1 (fun bz _=>?_)|refine Q4 Qtq ?_|refine Qc Qtp rfl Q1 (fun y _=>?_)|refine Qd ?_|refine Qa ?_|refine Q6 ?_|refine Qt ?_|refine Q7 rfl ?_|refine XK ?_|refine Qh ?_|refine Q4 zL ?_|refine Q4 Qdp ?_|refine Q4 zhf ?_)
 obtain⟨bs,cs⟩:=y;refine QH (ι:=Nat) (fun k=>k<=n/\∀j,j<k->ZB F j=false) (fun k=>n - k) (fun k=>[(1,.pointer KJ),(2,.pointer (some ⟨b2,0,none⟩)),(12,.slice (some ⟨bs,0,none⟩) n cs),(86,.slice (some ⟨b,o,none⟩) n c),(87,.int .i64 (n:Int)),(88,.int .i64 (k:Int))]) (fun _=>[.rd (some ⟨bs,0,none⟩) n 256 (QV (V4 F)),.blk b2 (.cells [.int .i64 0,.int .i64 0].toArray 32 (0,0)),.blk bf (.cells [.slice (some ⟨b,o,none⟩) n c].toArray 24 (0,0))]) 0 [0,2,3] Q1 Q0q Q5l rfl ?_;rintro k ⟨hk,hall⟩;have HA:=Q2 hall;clear hall;by_cases hkn:k<n
 ·obtain⟨rk,Ab,cb,An,cn,Ap,cp,hrk,hrg,hlk⟩:=HFM.out.rl hkn;have HLK:=Q2 hlk;have HOK:=Q2 (show ROk n rk by have:=HF.out k rk hrk;rwa [HLEN.out] at this);obtain⟨cf,hcf⟩:∃cf,Zd (V4 F) rk=cf:=⟨_,rfl⟩;have HCF:=Q2 hcf;have HRK:=Q2 (show ZB F k=cf from (Q6Z hrk).trans hcf);clear hrk hlk hcf
  cases cf with
  |false=>
   repeat(first|refine Q4 zM ?_|refine Q4 zA ?_|refine Q4 (zD 0) ?_|refine Q4 (zD 1) ?_|refine Q4 zE ?_|refine Q4 (zi (hj:=hkn)) ?_|refine yA (t:=65) fun b7=>?_|refine yW 0 ?_|(refine Q4 QtT ?_;rw[HCF.out])|refine Qd ?_|refine Qa ?_|refine Q6 ?_|refine Qt ?_|refine Q9 rfl ?_|refine Q7 rfl ?_|refine Qh ?_|refine Q4 Q4e ?_|refine Q4 zP ?_)
   exact Qr (k+1) [1,2,3] Q1 Qgg Q3 Qhi rfl
  |true=>
   repeat(first|refine Q4 zM ?_|refine Q4 zA ?_|refine Q4 (zD 0) ?_|refine Q4 (zD 1) ?_|refine Q4 zE ?_|refine Q4 (zi (hj:=hkn)) ?_|refine yA (t:=65) fun b7=>?_|refine yW 0 ?_|(refine Q4 QtT ?_;rw[HCF.out])|refine Q4 Q2x ?_|refine yW 2 ?_|refine Qd ?_|refine Qa ?_|refine Q6 ?_|refine Qt ?_|refine Q9 rfl ?_|refine QB ?_|refine Qh ?_|refine Qk ?_|refine Qs ?_|refine Q4 zlt ?_)
   exact Q8 mc4 rfl Q0t (fun w hw=>Z7 (HT.out.trans (Q3r (ZK F) hfi Q1L HRK.out HA.out)) hw)
 ·skip
  repeat(first|refine Q4 mc6 ?_|refine yW 1 ?_|refine Qd ?_|refine Qa ?_|refine Q6 ?_|refine Q7 rfl ?_|refine XK ?_|refine QB ?_|refine Q4 zlf ?_)
  exact Q8 mc4 rfl Zi (fun w hw=>Z7 (HT.out.trans (Q8p (ZK F) hfi (fun j hj=>HA.out j Q4Q))) hw)
end
section
variable {A:Option Addr}{F:List Rl}{W:World}{c k n:Nat}{r:Rl}
section
variable {ops:Array Oper}{C:World->Prop}{N:Nat}{E:Env}{o:Oper}{d:Nat}
theorem Qe6{x y:Operand}{t':TypeId}{a b a' b':Int}{v:Bool}(ho:o.op=.binOp .neq 32 x y t')(hd:o.dst=some d)(hN:d<N)(hw:Qi ops E o=some true)(hx:ev E x=some (.agg #[.int .i64 a,.int .i64 b]))(hy:ev E y=some (.agg #[.int .i64 a',.int .i64 b']))(hb:(!(a==a'&&b==b'))=v):oE Tryz.prog ops C N E ((d,.bool v)::E) o:=
 X8 hd hN hw fun ρ w ha _=>by
  subst hb;by_cases h1:a=a'<;>by_cases h2:b=b'<;>simp [execOp,ho,ha.eval hx,ha.eval hy,h1,h2,go_sem]
end
theorem QhW(m:Nat):∀ws:List (List UInt8),(∀w∈ws,w.length<=m)->(Lib.join ws [32]).length<=ws.length*(m+1)
 |[],_=>by simp [Lib.join]
 |[x],h=>by
  rw[Lib.join_one];have:=h x List.mem_cons_self
  exact Qe2
 |x::y::l,h=>by
  have ih:=QhW m (y::l) fun w hw=>h w (List.mem_cons_of_mem _ hw);rw[Lib.join_cons,J6,<- Lib.join_cons];have:=h x List.mem_cons_self;simp only[List.length_append,List.length_cons,List.length_nil] at ih ⊢;rw[Nat.add_mul] at ih ⊢;rw[Nat.add_mul];omega
theorem Q3w{v:Int}(h:0<=v/\v<=4294967295):(Lib.itoa v).length<=100:=by
 have:=Lib.itoa_length_le v Q3 Q3;omega
theorem Ya{u:Bool}{s w:List UInt8}(h:w∈ifW u s):w=s:=by
 unfold ifW at h;split at h
 ·exact List.mem_singleton.1 h
 ·cases h
theorem Y6(u:Bool)(s:List UInt8):(ifW u s).length<=1:=by
 unfold ifW;split<;>simp
theorem QeU(h:LOk F r)(h0:0<F.length):(Lib.join (VZ F r) [32]).length<=1000000:=by
 have hN:=QmC h.ok h0;have hnm:∀x:Int,0<=x/\x<F.length->(YQ F x).length<=100:=fun x hx=>by have:=YO (h.all x hx);omega
 have hlen:(VZ F r).length<=24:=by
  unfold VZ Q3O;simp only[List.length_append,List.length_map,List.length_range,List.length_cons,List.length_nil];have:=h.ok.p12;have:=Y6 (r.kind==1) (Vm r.bs);have:=Y6 (XO r.kind) (Lib.itoa r.stop);have:=Y6 (XP r.kind) (Lib.itoa r.size);have:=Y6 (r.kind==2) (if r.big then Qdt else Yb);have:=Y6 (r.kind==2) (Lib.itoa r.mn);have:=Y6 (Z0 r.kind) (Lib.itoa r.mx);have:=Y6 (Qy r.kind) (YQ F r.count);have:=Y6 (JV r.kind) (YQ F r.elem);omega
 have hw:∀w∈VZ F r,w.length<=100:=by
  intro w hw;unfold VZ Q3O at hw;simp only[List.mem_append] at hw;rcases hw with (((((((((hw|hw)|hw)|hw)|hw)|hw)|hw)|hw)|hw))|hw
  ·rcases List.mem_cons.1 hw with rfl|hw
   ·have:=YO h.name;omega
   ·rw[List.mem_singleton.1 hw];have hk:=h.ok.kind
    rcases (show r.kind=1\/r.kind=2\/r.kind=3\/r.kind=4\/r.kind=5\/r.kind=6\/r.kind=7\/r.kind=8\/r.kind=9\/r.kind=10 by omega) with e|e|e|e|e|e|e|e|e|e<;>rw[e]<;>decide
  ·rw[Ya hw,Q6F];have:=h.ok.bs16;omega
  ·rw[Ya hw];exact Q3w hN.stop
  ·rw[Ya hw];exact Q3w hN.size
  ·rw[Ya hw];split<;>decide
  ·rw[Ya hw];exact Q3w hN.mn
  ·rw[Ya hw];exact Q3w hN.mx
  ·rw[Ya hw];exact hnm _ hN.count
  ·rw[Ya hw];exact hnm _ hN.elem
  ·rw[List.mem_map] at hw;obtain⟨i,hi,rfl⟩:=hw;rw[List.mem_range] at hi
   have hp:(YQ F (r.parts.getD i 0)).length<=32:=by
    by_cases h78:r.kind=7\/r.kind=8
    ·exact YO (h.all _ (h.ok.parts h78 _ (by rw[List.getD_eq_getElem?_getD,List.getElem?_eq_getElem hi];exact List.getElem_mem hi)))
    ·rw[(QoU h.ok).parts Q3 Q3] at hi;exact absurd hi Qm
   unfold XH;rw[List.length_append];split
   ·next h7=>
    have h7':r.kind=7:=by simpa using h7
    have hs:=(h.ok.seven h7').1;rw[List.length_append];split
    ·exact Qe2
    ·next hne=>
     have hg:r.names.getD i []=r.names[i]:=by rw[List.getD_eq_getElem?_getD,List.getElem?_eq_getElem Q3];rfl
     have hi2:i<r.names.length:=by omega
     have:(r.names.getD i []).length<=32:=by
      rw[hg];rcases h.part h7' r.names[i] (List.getElem_mem hi2) with e|e
      ·rw[e];decide
      ·exact YO e
     exact Qe2
   ·simp only[List.length_nil];omega
 have:=QhW 100 (VZ F r) hw;have h2:(VZ F r).length*(100+1)<=24*(100+1):=Nat.mul_le_mul_right _ hlen;omega
def Q2R(F:List Rl)(k:Nat):List UInt8:=((F.take k).map (Q3i F)).flatten
theorem QeZ(h:F[k]? =some r):Q2R F k++Q3i F r=Q2R F (k+1):=by
 unfold Q2R;rw[List.take_add_one,h];simp
theorem Qi9(h:F.length<=k):Q2R F k=YA F:=by
 unfold Q2R YA;rw[List.take_of_length_le h]
def QaK(F:List Rl):List UInt8:=if QF F=(0,0) then YA F else []
def Qvm(W:World)(l:List UInt8)(p:Int×Int)(e:Ending)(w':World):Prop:=e=.returned (.tuple #[.string ⟨l.toArray⟩,.agg #[.int .i64 p.1,.int .i64 p.2]])/\Below W.heap.size W w'
theorem QcL(hf:QW W W.heap.size A n F)(hs:FSm F)(hc:n<=c)(hg:GV W):
  Calls Tryz.prog 51 #[.agg #[.slice A n c]] W (Qvm W (QaK F) (QF F)):=by
 have hlen:F.length=n:=hf.1;have HFM:=Q2 hf;have HS:=Q2 hs;have HG:=Q2 hg;have HLEN:=Q2 hlen;clear hf hs hg hlen;obtain⟨⟨a,b⟩,hab⟩:∃p,Xa F=p:=⟨_,rfl⟩;have HC:=Q2 hab;clear hab;go_enter Tryz.func51,Tryz.ntmps51;refine Qv (M:=[]) (W:=W) (N:=33) (E:=[(0,.agg #[.slice A n c])]) (O:=[]) ?_ Z6 (Wd.start [] W);by_cases hz:a=0/\b=0
 case neg=>
  have hne:(!(a==0&&b==0))=true:=by
   refine Qbw ?_;omega
  repeat(first|refine Q4 zA ?_|refine Q4 (zD 0) ?_|refine Q4 (zD 1) ?_|refine Qc YR rfl Q1 (fun bf _=>?_)|refine Qc Q4r rfl Q1 (fun b2 _=>?_)|(refine Q4 Qsv ?_)|(refine QD Yp rfl (fun _ _=>?_);rw[QE (by rfl)])|refine Q4 mc6 ?_|refine Q4 Qho ?_|refine Qd ?_|refine Qa ?_|refine Q6 ?_|refine Q9 rfl ?_)
  refine QtO ?_;refine QK 2 Q5 rfl rfl KI (fun _=>.inl Q1) rfl (fun _ _=>?_);rw[QE (by rfl)];refine Xn ?_ Q5;refine QB (Qk ?_);refine V9 mc4 rfl (.tmp rfl) Zi (fun w hw=>⟨?_,hw.k.below⟩);have hff:QF F=(a,b):=by
   unfold QF;rw[HC.out,if_pos];intro h;exact hz (by simpa using h)
  unfold QaK;rw[hff,if_neg (fun h=>hz (by simpa using h))]
 case pos=>
  obtain⟨rfl,rfl⟩:=hz;have hlo:=Qep HC.out;have hlon:=hlo.1;have hlox:=hlo.2;rw[HLEN.out] at hlon hlox;clear hlo;obtain⟨b,o,rfl⟩:=HFM.out.addr hlon;have hpok:=Q6Q HC.out;have HP:=Q2 hpok;clear hpok;repeat(first|refine Q4 zM ?_|refine Q4 zA ?_|refine Q4 zF ?_|refine Q4 (zB 2) ?_|refine Q4 (zD 0) ?_|refine Q4 (zD 1) ?_|refine Qc YR rfl Q1 (fun bf _=>?_)|refine Qc Q4r rfl Q1 (fun b2 _=>?_)|(refine Q4 Qsv ?_)|(refine QD Yp rfl (fun _ _=>?_);rw[QE (by rfl)])|refine Q4 mc6 ?_|refine Q4 Qha ?_|refine Qd ?_|refine Qa ?_|refine Q6 ?_|refine Qt ?_|refine Q7 rfl ?_|refine Qh ?_|refine Q4 zL ?_)
  rename_i b3 _ _ _ _;refine QH (ι:=Nat) (fun k=>k<=n/\(Q2R F k).length<=k*1000001) (fun k=>n - k) (fun k=>[(1,.pointer KJ),(3,.pointer (some ⟨b3,0,none⟩)),(5,.string ⟨(Q2R F k).toArray⟩),(15,.slice (some ⟨b,o,none⟩) n c),(16,.int .i64 (n:Int)),(17,.int .i64 (k:Int))]) (fun _=>[.blk b3 (.cells [.int .i64 0,.int .i64 0].toArray 32 (0,0)),.blk bf (.cells [.slice (some ⟨b,o,none⟩) n c].toArray 24 (0,0))]) 0 [1,2] Q1 ⟨Nat.zero_le _,by unfold Q2R;simp⟩ Q5l rfl ?_;rintro k ⟨hk,htx⟩;by_cases hkn:k<n
  ·obtain⟨rk,Ab,cb,An,cn,Ap,cp,hrk,hrg,hlk⟩:=HFM.out.rl hkn;have HLK:=Q2 hlk;have HLO:=Q2 (HP.out.line hrk);have HST:=Q2 (QeZ hrk);have hsm:=QeU HLO.out (by rw[HLEN.out];exact hlon)
   have hll:(Q3i F rk).length<=1000001:=by unfold Q3i;rw[List.length_append];simp only[List.length_cons,List.length_nil];omega
   clear hrk hlk;repeat(first|refine Q4 zM ?_|refine Q4 zA ?_|refine Q4 (zD 0) ?_|refine Q4 (zD 2) ?_|refine Q4 zE ?_|refine Q4 Qlq ?_|refine Qc Qov rfl Q1 (fun b7 _=>?_)|(refine QD Yp rfl (fun _ _=>?_);rw[QE (by rfl)])|refine Q4 (Qg (f:=90) rfl rfl Q1 rfl rfl (fun w hw=>(Qek KG Q9y HLO.out hlon Q05 hsm).mono (fun _ _ h=>h))) ?_|(refine Q4 (QeS rfl rfl Q1 rfl rfl rfl (by rw[VE,VE];omega)) ?_;rw[Q1T,HST.out])|refine Qd ?_|refine Qa ?_|refine Q6 ?_|refine Qt ?_|refine Q9 rfl ?_|refine Qh ?_|refine Q4 Q4e ?_|refine Q4 zP ?_)
   refine Qr (k+1) [1,2] Q1 ⟨hkn,?_⟩ Q3 Qhi rfl;rw[<- HST.out,List.length_append,Nat.add_mul];omega
  ·have hall:Q2R F k=YA F:=Qi9 (by rw[HLEN.out];omega);rw[hall] at htx ⊢;have hsz:=VE (YA F)
   by_cases hbig:2000<(YA F).length
   ·skip
    repeat(first|refine Q4 zM ?_|refine Q4 zA ?_|refine Q4 Q2x ?_|(refine QD Yp rfl (fun _ _=>?_);rw[QE (by rfl)])|refine Qd ?_|refine Qa ?_|refine Q6 ?_|refine Q9 rfl ?_|refine Q7 rfl ?_|refine XK ?_|refine QB ?_|refine Qk ?_|refine Q4 Qr7 ?_|refine Q4 Qdp ?_|refine Q4 zgt ?_)
    refine V9 mc4 rfl (.tmp rfl) Yy (fun w hw=>⟨?_,hw.k.below⟩);have hff:QF F=(14,-1):=by
     unfold QF;rw[HC.out,if_neg (fun h=>h rfl),if_pos hbig]
    unfold QaK;rw[hff,if_neg Q1]
   ·skip
    repeat(first|refine Q4 zM ?_|refine Q4 zA ?_|refine Q4 mc6 ?_|(refine QD Yp rfl (fun _ _=>?_);rw[QE (by rfl)])|refine Qd ?_|refine Qa ?_|refine Q6 ?_|refine Qt ?_|refine Q7 rfl ?_|refine XK ?_|refine QB ?_|refine Q4 Qr7 ?_|refine Q4 Qdp ?_|refine Q4 zgf ?_)
    refine V9 mc4 rfl (.tmp rfl) Yy (fun w hw=>⟨?_,hw.k.below⟩);have hff:QF F=(0,0):=by
     unfold QF;rw[HC.out,if_neg (fun h=>h rfl),if_neg hbig]
    unfold QaK;rw[hff,if_pos rfl]
theorem Vp(hf:QW W W.heap.size A n F)(hs:FSm F)(hc:n<=c)(hg:GV W):
  Calls Tryz.prog 28 #[.agg #[.slice A n c]] W (Qcv W (QF F)):=by
 have HFM:=Q2 hf;have HS:=Q2 hs;have HG:=Q2 hg;clear hf hs hg;go_enter Tryz.func28,Tryz.ntmps28;refine Qv (M:=[]) (W:=W) (N:=11) (E:=[Yf]) (O:=[]) ?_ Z6 QT;repeat(first|refine Q4 zM ?_|refine Q4 zA ?_|refine Q4 (zD 0) ?_|refine Q4 (zD 1) ?_|refine Qc YR rfl Q1 (fun bf _=>?_)|refine Qc Q4r rfl Q1 (fun b2 _=>?_)|refine Q4 (Qg (f:=51) rfl rfl Q1 rfl rfl (fun w hw=>(QcL KG HS.out hc Q05).mono (fun _ _ h=>h))) ?_|(refine QD Yp rfl (fun _ _=>?_);rw[QE (by rfl)])|(refine QD KI rfl (fun _ _=>?_);rw[QE (by rfl)])|refine Qd ?_|refine Qa ?_|refine Q6 ?_|refine QB ?_|refine Q4 zX ?_)
 exact Q8 mc4 rfl Zi QgE
def Q5e(F:List Rl)(k:Int):Int×Int:=if QF F≠(0,0) then QF F else if inB k 0 ((F.length:Int) - 1) then (0,0) else (4,-2)
theorem Q3t{k:Int}(hf:QW W W.heap.size A n F)(hs:FSm F)(hc:n<=c)(hg:GV W):
  Calls Tryz.prog 54 #[.agg #[.slice A n c],.int .i64 k] W (Qcv W (Q5e F k)):=by
 have hlen:F.length=n:=hf.1;have hsz:n<=1048576:=by rw[<- hlen];exact hs.1
 have HFM:=Q2 hf;have HS:=Q2 hs;have HG:=Q2 hg;have HLEN:=Q2 hlen;clear hf hs hg hlen;obtain⟨⟨a,b⟩,hab⟩:∃p,QF F=p:=⟨_,rfl⟩;have HC:=Q2 hab;clear hab;go_enter Tryz.func54,Tryz.ntmps54;refine Qv (M:=[]) (W:=W) (N:=21) (E:=[Yf,Q8k]) (O:=[]) ?_ mc3 QT;by_cases hz:a=0/\b=0
 case neg=>
  have hne:(!(a==0&&b==0))=true:=by
   refine Qbw ?_;omega
  repeat(first|refine Q4 (zD 0) ?_|refine Q4 (zD 1) ?_|refine Qc YR rfl Q1 (fun bf _=>?_)|refine Qc Q4r rfl Q1 (fun b2 _=>?_)|(refine Q4 Qkv ?_)|refine Q4 mc6 ?_|refine Q4 Qho ?_|(refine QD Yp rfl (fun _ _=>?_);rw[QE (by rfl)])|(refine QD KI rfl (fun _ _=>?_);rw[QE (by rfl)])|refine Qd ?_|refine Qa ?_|refine Q6 ?_|refine Q9 rfl ?_|refine QB ?_|refine Qk ?_)
  refine Q8 mc4 rfl Zi (fun w hw=>Z7 ?_ hw);unfold Q5e;rw[HC.out,if_pos (fun h=>hz (by simpa using h))]
 case pos=>
  obtain⟨rfl,rfl⟩:=hz;obtain⟨u,hu⟩:∃u,inB k 0 ((n:Int) - 1)=u:=⟨_,rfl⟩;have HU:=Q2 hu;clear hu;cases u with
  |true=>
   repeat(first|refine Q4 zM ?_|refine Q4 zF ?_|refine Q4 (zB 2) ?_|refine Q4 (zD 0) ?_|refine Q4 (zD 1) ?_|refine Qc YR rfl Q1 (fun bf _=>?_)|refine Qc Q4r rfl Q1 (fun b2 _=>?_)|(refine Q4 Qkv ?_)|(refine Q4 Qp0 ?_;rw[HU.out])|refine Q4 mc6 ?_|refine Q4 Qha ?_|(refine QD Yp rfl (fun _ _=>?_);rw[QE (by rfl)])|(refine QD KI rfl (fun _ _=>?_);rw[QE (by rfl)])|refine Qd ?_|refine Qa ?_|refine Q6 ?_|refine Qt ?_|refine Q7 rfl ?_|refine QB ?_|refine Q4 zL ?_|refine Q4 zO ?_|refine Q4 zQ ?_)
   refine Q8 mc4 rfl Zi (fun w hw=>Z7 ?_ hw);unfold Q5e;rw[HC.out,if_neg (fun h=>h rfl),HLEN.out,HU.out,if_pos rfl]
  |false=>
   repeat(first|refine Q4 zM ?_|refine Q4 zF ?_|refine Q4 (zB 2) ?_|refine Q4 (zD 0) ?_|refine Q4 (zD 1) ?_|refine Qc YR rfl Q1 (fun bf _=>?_)|refine Qc Q4r rfl Q1 (fun b2 _=>?_)|(refine Q4 Qkv ?_)|(refine Q4 Qp0 ?_;rw[HU.out])|refine Q4 Q2x ?_|refine Q4 mc6 ?_|refine Q4 Qha ?_|(refine QD Yp rfl (fun _ _=>?_);rw[QE (by rfl)])|(refine QD KI rfl (fun _ _=>?_);rw[QE (by rfl)])|refine Qd ?_|refine Qa ?_|refine Q6 ?_|refine Qt ?_|refine Q9 rfl ?_|refine Q7 rfl ?_|refine QB ?_|refine Qk ?_|refine Q4 zL ?_|refine Q4 zO ?_|refine Q4 zQ ?_)
   refine Q8 mc4 rfl Zi (fun w hw=>Z7 ?_ hw);unfold Q5e;rw[HC.out,if_neg (fun h=>h rfl),HLEN.out,HU.out,if_neg Bool.false_ne_true]
end
section
variable {F:List Rl}{c n:Nat}{k:Int}{st:Nat->Bool}
def Vn(st:Nat->Bool)(c:Nat):List Int:=((List.range c).filter st).map fun(j:Nat)=>(j:Int)
theorem Qdi(h:st c=true):Vn st c++[(c:Int)]=Vn st (c+1):=by
 unfold Vn;rw[List.range_succ,List.filter_append,List.map_append,List.filter_cons_of_pos h];rfl
theorem QpJ(h:st c=false):Vn st c=Vn st (c+1):=by
 unfold Vn;rw[List.range_succ,List.filter_append,List.map_append,List.filter_cons_of_neg (by rw[h];exact Bool.false_ne_true),List.filter_nil,List.map_nil,List.append_nil]
theorem Qkb(st:Nat->Bool)(c:Nat):(Vn st c).length<=c:=by
 unfold Vn;rw[List.length_map];exact Nat.le_trans (List.length_filter_le _ _) Qm
def V0(F:List Rl)(k:Int):List Int:=Vn ((V4 F).getD k.toNat Xu) 256
theorem Qvi{w:World}{B b k:Nat}{S:List (Nat->Bool)}(h:Rd w B 256 (some ⟨b,0,none⟩) n (QV S))(hS:S.length=n)(hk:k<n):w.rangeAt b (0+k*256) (QJ (S.getD k Xu)):=fun q u hu=>by
 rw[Nat.add_assoc];exact h.cellAt Q3 (Q22 S k Q3 q u hu)
def Q1V(F:List Rl)(k:Int):List Int:=if Q5e F k=(0,0) then V0 F k else []
theorem Qv8(h:Q5e F k=(0,0)):QF F=(0,0)/\0<=k/\k<F.length:=by
 unfold Q5e at h;split at h
 ·next hn=>exact absurd h hn
 ·next hn=>
  split at h
  ·next hi=>
   have:=QM.1 hi;exact⟨Classical.byContradiction hn,by omega,by omega⟩
  ·cases h
theorem Qja(h:QF F=(0,0)):Xa F=(0,0):=by
 unfold QF at h;split at h
 ·next hn=>exact absurd h hn
 ·next hn=>exact Classical.byContradiction hn
end
section
variable {B n:Nat}{F:List Rl}{k:Int}{w:World}
theorem QW.below{w w':World}{B:Nat}{A:Option Addr}{n:Nat}{F:List Rl}(h:QW w B A n F)(hb:Below B w w'):QW w' B A n F:=
 ⟨h.1,fun h0=>by
  obtain⟨b,o,e,hB,hc⟩:=h.2 h0;refine⟨b,o,e,hB,fun i r hr=>?_⟩;obtain⟨sb,sn,sp,h1,h2⟩:=hc i r hr
  exact⟨sb,sn,sp,h1.below hb hB,h2.below hb⟩⟩
theorem QW.more{w:World}{B B':Nat}{A:Option Addr}{n:Nat}{F:List Rl}(h:QW w B A n F)(hB:B<=B'):QW w B' A n F:=
 ⟨h.1,fun h0=>by
  obtain⟨b,o,e,hb,hc⟩:=h.2 h0;refine⟨b,o,e,by omega,fun i r hr=>?_⟩;obtain⟨sb,sn,sp,h1,h2⟩:=hc i r hr
  exact⟨sb,sn,sp,h1,h2.more hB⟩⟩
structure RuB(W:World)(B:Nat)(r:Rl)(Ab:Option Addr)(cb:Nat)(An:Option Addr)(cn:Nat)(Ap:Option Addr)(cp:Nat):Prop where
 cb:r.bs.length<=cb
 cn:r.names.length<=cn
 cp:r.parts.length<=cp
 b:Rd W B 1 Ab r.bs.length (bv r.bs)
 n:Rd W B 1 An r.names.length (sv r.names)
 p:Rd W B 1 Ap r.parts.length (iv r.parts)
theorem RuB.below{w w':World}{B:Nat}{r:Rl}{Ab An Ap:Option Addr}{cb cn cp:Nat}(h:RuB w B r Ab cb An cn Ap cp)(hb:Below B w w'):RuB w' B r Ab cb An cn Ap cp:=⟨h.cb,h.cn,h.cp,h.b.below hb,h.n.below hb,h.p.below hb⟩
theorem Km.listsB{r:Rl}{sb sn sp:Value}(h:Km w B r sb sn sp):∃Ab cb An cn Ap cp,sb=.slice Ab r.bs.length cb/\sn=.slice An r.names.length cn/\sp=.slice Ap r.parts.length cp/\RuB w B r Ab cb An cn Ap cp:=by
 obtain⟨Ab,nb,cb,An,nn,cn,Ap,np,cp,rfl,rfl,rfl,h1,h2,h3,h4,h5,h6⟩:=h;have e1:r.bs.length=nb:=by have:=h4.len;rw[Xr] at this;exact this
 have e2:r.names.length=nn:=by have:=h5.len;unfold sv at this;rw[List.length_map] at this;exact this
 have e3:r.parts.length=np:=by have:=h6.len;rw[Q07] at this;exact this
 subst e1 e2 e3;exact Qm2
theorem QW.ruleB{W:World}{b o:Nat}(h:QW W B (some ⟨b,o,none⟩) n F)(hk:0<=k/\k<n):b<B/\∃Ab cb An cn Ap cp,W.rangeAt b (o+k.toNat*12) (ruC (Ql F k) (.slice Ab (Ql F k).bs.length cb) (.slice An (Ql F k).names.length cn) (.slice Ap (Ql F k).parts.length cp))/\RuB W B (Ql F k) Ab cb An cn Ap cp:=by
 obtain⟨b',o',r,sb,sn,sp,e,hb,hr,hc,hs⟩:=h.at_ (i:=k.toNat) Q3;cases e;rw[Qak hr];obtain⟨Ab,cb,An,cn,Ap,cp,rfl,rfl,rfl,hl⟩:=hs.listsB;exact⟨hb,Ab,cb,An,cn,Ap,cp,hc.range,hl⟩
def QcH(w:World)(B:Nat)(F:List Rl)(A:Option Addr)(n:Nat):Prop:=∃b o,A=some ⟨b,o,none⟩/\b<B/\∀k,k<n->∃Ak ck,w.cell? ⟨b,o+k,none⟩=some (.slice Ak (V0 F k).length ck)/\Rd w B 1 Ak (V0 F k).length (iv (V0 F k))/\(V0 F k).length<=ck
theorem QcH.below{w w':World}{B n:Nat}{F:List Rl}{A:Option Addr}(h:QcH w B F A n)(hb:Below B w w'):QcH w' B F A n:=by
 obtain⟨b,o,e,hB,hc⟩:=h;refine⟨b,o,e,hB,fun k hk=>?_⟩;obtain⟨Ak,ck,h1,h2,h3⟩:=hc k hk;exact⟨Ak,ck,(hb.cell Yz).trans h1,h2.below hb,h3⟩
theorem QcH.more{w:World}{B B' n:Nat}{F:List Rl}{A:Option Addr}(h:QcH w B F A n)(hB:B<=B'):QcH w B' F A n:=by
 obtain⟨b,o,e,hb,hc⟩:=h;refine⟨b,o,e,by omega,fun k hk=>?_⟩;obtain⟨Ak,ck,h1,h2,h3⟩:=hc k hk;exact⟨Ak,ck,h1,h2.more hB,h3⟩
theorem Qo0{c:UInt8}:XF (V0 F k) (c.toNat:Int)=fir F k c:=by
 unfold XF fir V0 Vn;rw[Bool.eq_iff_iff,List.contains_iff_mem,List.mem_map];constructor
 ·rintro⟨j,hj,e⟩
  rw[List.mem_filter] at hj;have:j=c.toNat:=by omega
  rw[<- this];exact hj.2
 ·intro h;exact⟨c.toNat,List.mem_filter.2 ⟨List.mem_range.2 c.toNat_lt,h⟩,rfl⟩
structure Q2B(w:World)(B:Nat)(F:List Rl)(D:List UInt8)(Af As Ad:Option Addr)(n nd:Nat):Prop where
 fm:QW w B Af n F
 fr:QcH w B F As n
 dt:Rd w B 1 Ad nd (bv D)
theorem Q2B.below{w w':World}{B n nd:Nat}{F:List Rl}{D:List UInt8}{Af As Ad:Option Addr}(h:Q2B w B F D Af As Ad n nd)(hb:Below B w w'):Q2B w' B F D Af As Ad n nd:=⟨h.fm.below hb,h.fr.below hb,h.dt.below hb⟩
theorem Q2B.keep{w':World}{g nd:Nat}{D:List UInt8}{Af As Ad:Option Addr}(h:Q2B w B F D Af As Ad n nd)(hB:B<=g)(hg:g<w.heap.size)(hk:Xx [g] w w'):Q2B w' B F D Af As Ad n nd:=
 h.below ⟨hk.os,hk.tape,hk.output,hk.size,fun k hk'=>hk.block k Q3 Q4j⟩
theorem Q2B.len{w:World}{B n nd:Nat}{F:List Rl}{D:List UInt8}{Af As Ad:Option Addr}(h:Q2B w B F D Af As Ad n nd):D.length=nd/\F.length=n:=⟨by have:=h.dt.len;rw[Xr] at this;exact this,h.fm.1⟩
end
section
variable {a b m r:Int}{t t':TypeId}{x y:Operand}
theorem Qch(a b:Nat)(ha:a<4611686018427387904)(hb:b<4611686018427387904):bits .or .i64 (a:Int) (b:Int)=((a|||b:Nat):Int):=by
 have hx:a|||b<2 ^ 62:=Nat.or_lt_two_pow Q3 Q3;have h1:(BitVec.ofInt 64 (a:Int)).toNat=a:=by
  rw[BitVec.ofInt_natCast,BitVec.toNat_ofNat];exact QaM
 have h2:(BitVec.ofInt 64 (b:Int)).toNat=b:=by
  rw[BitVec.ofInt_natCast,BitVec.toNat_ofNat];exact QaM
 show IntKind.i64.wrap ((BitVec.ofInt 64 (a:Int)|||BitVec.ofInt 64 (b:Int)).toNat:Int)=_;rw[BitVec.toNat_or,h1,h2];exact YP
theorem Qo2(i:Nat)(hi:i<=60)(ha:a=2 ^ i*m)(hm:0<=m)(hb:0<=b/\b<2 ^ i)(h:a<4611686018427387904):bits .or .i64 a b=a+b:=by
 obtain⟨k,rfl⟩:∃k:Nat,m=(k:Int):=⟨m.toNat,by omega⟩;obtain⟨c,rfl⟩:∃c:Nat,b=(c:Int):=⟨b.toNat,by omega⟩;have hc:c<2 ^ i:=by have:=hb.2;exact_mod_cast this
 have e:a=((2 ^ i*k:Nat):Int):=by rw[ha];push_cast;rfl
 have hp:(2:Nat) ^ i<=2 ^ 60:=Nat.pow_le_pow_right Q3 hi;rw[e] at h ⊢;rw[Qch _ _ Q3 Q3,<- Nat.two_pow_add_eq_or_of_lt hc];push_cast;rfl
theorem QpL(i:Nat)(hi:i<=60)(hb:b=2 ^ i*m)(hm:0<=m)(ha:0<=a/\a<2 ^ i)(h:b<4611686018427387904):bits .or .i64 a b=a+b:=by
 have:=Qo2 i hi hb hm ha h;have e:bits .or .i64 a b=bits .or .i64 b a:=by
  unfold bits;simp only;rw[BitVec.or_comm]
 rw[e,this,Int.add_comm]
section
variable {P:Program}{ops:Array Oper}{C:World->Prop}{N:Nat}{E:Env}{o:Oper}{d:Nat}
theorem QtW{k:IntKind}{n:Int}(ho:o.op=.binOp .shl t x y t')(hd:o.dst=some d)(hN:d<N)(hw:Qi ops E o=some true)(hx:ev E x=some (.int .i64 m))(hy:ev E y=some (.int k n))(h0:0<=n/\n<=64)(hr:m*2 ^ n.toNat=r)(hb:-9223372036854775808<=r/\r<=9223372036854775807):oE P ops C N E ((d,.int .i64 r)::E) o:=
 Q0y ho hd hN hw hx hy fun w=>by
  rw[binOp_shl,shift_shl_i64 (h₀:=h0.1) (h₁:=h0.2),hr,IntWalk.i64_in _ hb];rfl
theorem Qwh(ho:o.op=.binOp .or t x y t')(hd:o.dst=some d)(hN:d<N)(hw:Qi ops E o=some true)(hx:ev E x=some (.int .i64 a))(hy:ev E y=some (.int .i64 b))(hr:bits .or .i64 a b=r):oE P ops C N E ((d,.int .i64 r)::E) o:=
 Q0y ho hd hN hw hx hy fun w=>by
  rw[binOp_or,intBits_or,hr];rfl
end
end
section
variable {c:UInt8}{l:List UInt8}
theorem Qc2(c:UInt8):∀l:List UInt8,leN (l++[c])=leN l+(c.toNat:Int)*256 ^ l.length
 |[]=>by simp [leN]
 |x::l=>by
  show (x.toNat:Int)+256*leN (l++[c])=(x.toNat:Int)+256*leN l+(c.toNat:Int)*256 ^ (l.length+1)
  rw[Qc2 c l,Int.pow_succ,Int.mul_add,<- Int.mul_assoc,<- Int.mul_assoc,Int.mul_comm 256 (c.toNat:Int),Int.mul_assoc,Int.mul_comm 256 (256 ^ l.length),Int.mul_assoc]
  omega
theorem Q6E(l:List UInt8)(c:UInt8):QI true (l++[c])=QI true l*256+(c.toNat:Int):=by
 unfold QI;rw[if_pos rfl,if_pos rfl,List.reverse_append];show (c.toNat:Int)+256*leN l.reverse=_;omega
theorem Q7X(l:List UInt8)(c:UInt8):QI false (l++[c])=QI false l+(c.toNat:Int)*256 ^ l.length:=by
 unfold QI;exact Qc2 c l
theorem Q0R(b:Bool)(l:List UInt8):QI b l<256 ^ l.length:=by
 unfold QI;split
 ·have:=Qew l.reverse;rwa [List.length_reverse] at this
 ·exact Qew l
theorem Qg9(i:Nat):(256:Int) ^ i=2 ^ (8*i):=by rw[Int.pow_mul];rfl
theorem QlW(h:l.length<4):QI true l*2 ^ (8:Int).toNat=QI true l*256/\bits .or .i64 (QI true l*256) (c.toNat:Int)=QI true (l++[c])/\0<=QI true l*256/\QI true l*256<4294967296:=by
 have h0:=Kb true l;have h1:=Q0R true l;have hc:=c.toNat_lt;have h2:QI true l<16777216:=by
  rcases (show l.length=0\/l.length=1\/l.length=2\/l.length=3 by omega) with e|e|e|e<;>rw[e] at h1<;>simp at h1<;>omega
 refine⟨rfl,?_,by omega,by omega⟩;rw[Q6E];exact Qo2 8 Q3 (m:=QI true l) Q3 h0 ⟨by omega,by simp;omega⟩ Q3
theorem QbQ(h:l.length<4):(c.toNat:Int)*2 ^ (8*(l.length:Int)).toNat=(c.toNat:Int)*256 ^ l.length/\bits .or .i64 (QI false l) ((c.toNat:Int)*256 ^ l.length)=QI false (l++[c])/\0<=(c.toNat:Int)*256 ^ l.length/\(c.toNat:Int)*256 ^ l.length<4294967296:=by
 have h0:=Kb false l;have h1:=Q0R false l;have hc:=c.toNat_lt;have e8:(8*(l.length:Int)).toNat=8*l.length:=by omega
 have hb:0<=(c.toNat:Int)*256 ^ l.length/\(c.toNat:Int)*256 ^ l.length<4294967296:=by
  rcases (show l.length=0\/l.length=1\/l.length=2\/l.length=3 by omega) with e|e|e|e<;>rw[e]<;>simp<;>omega
 refine⟨by rw[e8,Qg9],?_,hb⟩;rw[Q7X];refine QpL (8*l.length) Q3 (m:=(c.toNat:Int)) (by rw[Qg9,Int.mul_comm]) Q3 ⟨h0,by rw[<- Qg9];exact h1⟩ Q3
end
section
variable {c:UInt8}{e:Nat}{y:Nd×VF×Nat}
section
variable {F:List Rl}{D:List UInt8}{f p:Nat}{k:Int}
theorem Qpk(h:(Ql F k).kind=1):Qq F D (f+1) k p=rb (Ks (Ql F k).bs (D.drop p) p) fun q=>okR (ndL,.nil,q):=by
 rw[Qq];rw[if_pos h]
theorem QmO(h:(Ql F k).kind=2\/(Ql F k).kind=3):Qq F D (f+1) k p=rb (YD (Ql F k) D p) fun y=>okR (ndN y.1,.nil,y.2):=by
 rw[Qq];rw[if_neg Q3,if_pos h]
theorem Qql(h:(Ql F k).kind=4):Qq F D (f+1) k p=rb (ZG D p (Ql F k).size) fun y=>okR (ndB y.1,.nil,y.2):=by
 rw[Qq];rw[if_neg Q3,if_neg Q3,if_pos h]
theorem QdX(h:(Ql F k).kind=10):Qq F D (f+1) k p=rb (YD (Ql F (Ql F k).count) D p) fun x=>rb (ZG D x.2 x.1) fun y=>okR (ndB y.1,.nil,y.2):=by
 rw[Qq];rw[if_neg Q3,if_neg Q3,if_neg Q3,if_pos h]
theorem Qq6(h:(Ql F k).kind=5):Qq F D (f+1) k p=rb (Ys (Ql F k).stop (Ql F k).size (D.drop p) 0 p) fun q=>okR (ndB ((D.drop p).take (q - p)),.nil,q+1):=by
 rw[Qq];exact Qro
theorem Qgj(h:(Ql F k).kind=6):Qq F D (f+1) k p=rb (YD (Ql F (Ql F k).count) D p) fun x=>rb (Jv (Qq F D f (Ql F k).elem) x.1.toNat x.2) fun z=>okR (ndL,z.1,z.2):=by
 rw[Qq];exact QmZ
theorem QpA(h:(Ql F k).kind=9):Qq F D (f+1) k p=rb (Vh (Qq F D f (Ql F k).elem) D (Ql F k).stop (D.length+1) p) fun z=>okR (ndL,z.1,z.2):=by
 rw[Qq];exact QsX
theorem QkI(h:(Ql F k).kind=8)(hc:D[p]? =none):Qq F D (f+1) k p=erR p:=by
 rw[Qq];rw[if_neg Q3,if_neg Q3,if_neg Q3,if_neg Q3,if_neg Q3,if_neg Q3,if_neg Q3,if_pos h,hc]
theorem Qlc(h:(Ql F k).kind=8)(hc:D[p]? =some c)(hi:ZS F (Ql F k).parts c=none):Qq F D (f+1) k p=erR p:=by
 exact QtH
theorem Qq2{i:Nat}(h:(Ql F k).kind=8)(hc:D[p]? =some c)(hi:ZS F (Ql F k).parts c=some i):Qq F D (f+1) k p=rb (Qq F D f ((Ql F k).parts.getD i 0) p) fun y=>okR (ndL,.cons (ndN (i:Int)) .nil (.cons y.1 y.2.1 .nil),y.2.2):=by
 exact QtH
theorem Qh9(h:(Ql F k).kind=7):Qq F D (f+1) k p=rb (Vc (Qq F D f) (Ql F k).names (Ql F k).parts p) fun z=>okR (ndR z.1,z.2.1,z.2.2):=by
 rw[Qq];rw[if_neg Q3,if_neg Q3,if_neg Q3,if_neg Q3,if_neg Q3,if_neg Q3,if_neg Q3,if_neg Q3]
def VF.cat:VF->VF->VF
 |.nil,G=>G
 |.cons d p r,G=>.cons d p (VF.cat r G)
theorem VF.cat_nil:∀A:VF,A.cat .nil=A
 |.nil=>rfl
 |.cons d p r=>by show VF.cons d p (r.cat .nil)=_;rw[VF.cat_nil r]
theorem VF.snoc_cat(d:Nd)(p:VF):∀A B:VF,(A.snoc d p).cat B=A.cat (.cons d p B)
 |.nil,B=>rfl
 |.cons d' p' r,B=>by show VF.cons d' p' ((r.snoc d p).cat B)=VF.cons d' p' (r.cat (.cons d p B));rw[VF.snoc_cat d p r B]
end
section
variable {α β γ:Type}
theorem Q2E(x:Rdg α)(g:α->Rdg β)(h:β->Rdg γ):rb (rb x g) h=rb x fun a=>rb (g a) h:=by
 cases x with
 |none=>rfl
 |some x=>cases x<;>rfl
theorem Q1W(a:α)(g:α->Rdg β):rb (okR a) g=g a:=rfl
end
section
variable {one:Nat->Rdg (Nd×VF×Nat)}{D:List UInt8}{A:VF}{n f p:Nat}{stop:Int}
def Jh(one:Nat->Rdg (Nd×VF×Nat))(A:VF)(n p:Nat):Rdg (VF×Nat):=rb (Jv one n p) fun z=>okR (A.cat z.1,z.2)
theorem Q2G:Jh one .nil n p=Jv one n p:=by
 unfold Jh;cases Jv one n p with
 |none=>rfl
 |some y=>cases y<;>rfl
theorem Q60:Jh one A 0 p=okR (A,p):=by
 unfold Jh Jv;rw[Q1W,VF.cat_nil]
theorem Q8Z(h:one p=some (.error e)):Jh one A (n+1) p=some (.error e):=by
 unfold Jh Jv;rw[h];rfl
theorem Q8I(h:one p=some (.ok y)):Jh one A (n+1) p=Jh one (A.snoc y.1 y.2.1) n y.2.2:=by
 unfold Jh;rw[Jv,Q55 h,Q2E];congr 1;funext z;rw[Q1W,VF.snoc_cat]
def Vv(one:Nat->Rdg (Nd×VF×Nat))(D:List UInt8)(stop:Int)(A:VF)(f p:Nat):Rdg (VF×Nat):=rb (Vh one D stop f p) fun z=>okR (A.cat z.1,z.2)
theorem Q4n:Vv one D stop .nil f p=Vh one D stop f p:=by
 unfold Vv;cases Vh one D stop f p with
 |none=>rfl
 |some y=>cases y<;>rfl
theorem Qjb(h:D[p]? =none):Vv one D stop A (f+1) p=some (.error p):=by
 unfold Vv;rw[Vh,h];rfl
theorem Qij(h:D[p]? =some c)(hs:(c.toNat:Int)=stop):Vv one D stop A (f+1) p=okR (A,p+1):=by
 unfold Vv;rw[Vh,h];simp only;rw[if_pos hs,Q1W,VF.cat_nil]
theorem Qcp(h:D[p]? =some c)(hs:¬(c.toNat:Int)=stop)(h1:one p=some (.error e)):Vv one D stop A (f+1) p=some (.error e):=by
 unfold Vv;rw[Vh,h];simp only;rw[if_neg hs,h1];rfl
theorem QdP(h:D[p]? =some c)(hs:¬(c.toNat:Int)=stop)(h1:one p=some (.ok y)):Vv one D stop A (f+1) p=Vv one D stop (A.snoc y.1 y.2.1) f y.2.2:=by
 unfold Vv;rw[Vh,h];simp only;rw[if_neg hs,Q55 h1,Q2E];congr 1;funext z;rw[Q1W,VF.snoc_cat]
def Jm(one:Int->Nat->Rdg (Nd×VF×Nat))(N:List (List UInt8))(A:VF)(ns:List (List UInt8))(ks:List Int)(p:Nat):Rdg (List (List UInt8)×VF×Nat):=rb (Vc one ns ks p) fun z=>okR (N++z.1,A.cat z.2.1,z.2.2)
section
variable {one:Int->Nat->Rdg (Nd×VF×Nat)}{N ns:List (List UInt8)}{ks:List Int}{nm:List UInt8}{k:Int}
theorem Q51:Jm one [] .nil ns ks p=Vc one ns ks p:=by
 unfold Jm;cases Vc one ns ks p with
 |none=>rfl
 |some y=>cases y<;>rfl
theorem Q87:Jm one N A ns [] p=okR (N,A,p):=by
 unfold Jm;have e:Vc one ns [] p=okR ([],.nil,p):=by cases ns<;>rfl
 rw[e,Q1W,VF.cat_nil,List.append_nil]
theorem QcZ(h:one k p=some (.error e)):Jm one N A (nm::ns) (k::ks) p=some (.error e):=by
 unfold Jm;rw[Vc,h];rfl
theorem Q6t(hn:nm=[])(h:one k p=some (.ok y)):Jm one N A (nm::ns) (k::ks) p=Jm one N A ns ks y.2.2:=by
 unfold Jm;rw[Vc,Q55 h,Q2E];congr 1;funext z;rw[if_pos hn,Q1W]
theorem Q8N(hn:nm≠[])(h:one k p=some (.ok y)):Jm one N A (nm::ns) (k::ks) p=Jm one (N++[nm]) (A.snoc y.1 y.2.1) ns ks y.2.2:=by
 unfold Jm;rw[Vc,Q55 h,Q2E];congr 1;funext z;rw[if_neg hn,Q1W,VF.snoc_cat,List.append_assoc];rfl
end
end
end
section
variable {B g p:Nat}{D:List UInt8}{F:List Rl}{W:World}
def JN(c x:Int):List PanicEntry:=[{ v:=.iface 32 (.agg #[.int .i64 c,.int .i64 x]),recovered:=false }]
structure Rv where
 Af:Option Addr
 As:Option Addr
 Ad:Option Addr
 n:Nat
 nd:Nat
 cf:Nat
 cs:Nat
 cd:Nat
def Rv.cells(z:Rv)(p:Nat):List Value:=[.slice z.Af z.n z.cf,.slice z.As z.n z.cs,.slice z.Ad z.nd z.cd,.int .i64 (p:Int)]
abbrev Rv.obj(z:Rv)(p:Nat):Obj:=.cells (z.cells p).toArray 60 (0,0)
structure ZV(W:World)(z:Rv)(B g:Nat)(F:List Rl)(D:List UInt8)(p:Nat):Prop where
 env:Q2B W B F D z.Af z.As z.Ad z.n z.nd
 hB:B<=g
 cur:W.heap[g]? =some (z.obj p)
 hn:z.n<=z.cf
 hnd:z.nd<=z.cd
 hcd:z.cd<=maxLen
 hp:p<=D.length
 hD:D.length<=1048576
theorem ZV.lt{z:Rv}(h:ZV W z B g F D p):g<W.heap.size:=(Array.getElem?_eq_some_iff.1 h.cur).1
theorem ZV.next{w:World}{z:Rv}{q:Nat}(h:ZV W z B g F D p)(hk:Xx [g] W w)(hq:q<=D.length)(hc:w.heap[g]? =some (z.obj q)):ZV w z B g F D q:=
 ⟨h.env.keep h.hB h.lt hk,h.hB,hc,h.hn,h.hnd,h.hcd,hq,h.hD⟩
theorem ZV.len{W:World}{z:Rv}{B g p:Nat}{F:List Rl}{D:List UInt8}(h:ZV W z B g F D p):D.length=z.nd/\F.length=z.n:=h.env.len
theorem ZV.wd{z:Rv}(h:ZV W z B g F D p):Wd [g] W [.blk g (z.obj p)] W:=Wd.startB h.cur
theorem ZV.byte{z:Rv}{i:Nat}{c:UInt8}(h:ZV W z B g F D p)(hc:D[i]? =some c):∃b o,z.Ad=some ⟨b,o,none⟩/\b<B/\W.cell? ⟨b,o+i,none⟩=some (.int .u8 (c.toNat:Int)):=by
 have hi:i<D.length:=(List.getElem?_eq_some_iff.1 hc).1;have hl:=h.len.1;obtain⟨b,o,e,hb,hcc⟩:=h.env.dt.2 Q3;refine⟨b,o,e,hb,hcc i _ ?_⟩;unfold bv;rw[List.getElem?_map,hc];rfl
def NmE(z:Rv)(g:Nat)(W:World)(res:Rdg (Int×Nat))(e:Ending)(w':World):Prop:=Xx [g] W w'/\((∃x:Nat,res=some (.error x)/\e=.panicked (JN 1 x))\/∃n q,res=some (.ok (n,q))/\e=.returned (.int .i64 n)/\w'.heap[g]? =some (z.obj q))
def ByE(z:Rv)(B g:Nat)(W:World)(res:Rdg (List UInt8×Nat))(e:Ending)(w':World):Prop:=Xx [g] W w'/\((∃x:Nat,res=some (.error x)/\e=.panicked (JN 1 x))\/∃l q A c,res=some (.ok (l,q))/\e=.returned (.slice A l.length c)/\w'.heap[g]? =some (z.obj q)/\Rd w' B 1 A l.length (bv l)/\l.length<=c)
def VlE(z:Rv)(g:Nat)(W:World)(res:Rdg (Nd×VF×Nat))(e:Ending)(w':World):Prop:=Xx [g] W w'/\((∃x:Nat,res=some (.error x)/\e=.panicked (JN 1 x))\/∃d l q v L,res=some (.ok (d,l,q))/\e=.returned v/\w'.heap[g]? =some (z.obj q)/\QU L v d l/\New L W.heap.size w')
end
abbrev Wtg:Type:=Except Nat (List UInt8×Nat)
def apW(b:List UInt8):Wtg->Wtg
 |.error e=>.error e
 |.ok (b',m)=>.ok (b++b',m)
def bnW(x:Wtg)(f:Nat->Wtg):Wtg:=match x with|.error e=>.error e|.ok (b,m)=>apW b (f m)
theorem Q5y(x:Wtg):apW [] x=x:=by rcases x with e|⟨b,m⟩<;>rfl
theorem Qhw(a b:List UInt8)(x:Wtg):apW a (apW b x)=apW (a++b) x:=by
 rcases x with e|⟨c,m⟩
 ·rfl
 ·show Except.ok (a++(b++c),m)=Except.ok (a++b++c,m)
  rw[List.append_assoc]
theorem QpI(a:List UInt8)(x:Wtg)(f:Nat->Wtg):apW a (bnW x f)=bnW (apW a x) f:=by
 rcases x with e|⟨c,m⟩
 ·rfl
 ·exact Qhw _ _ _
theorem QpE(x:Wtg)(f g:Nat->Wtg):bnW (bnW x f) g=bnW x fun m=>bnW (f m) g:=by
 rcases x with e|⟨c,m⟩
 ·rfl
 ·show bnW (apW c (f m)) g=apW c (bnW (f m) g)
  rw[QpI]
theorem QuY(b:List UInt8)(m:Nat)(f:Nat->Wtg):bnW (.ok (b,m)) f=apW b (f m):=rfl
def XE(F:List Rl)(k:Int)(d:Nd)(p:VF)(n:Nat):Wtg:=
 if Vu F (Ql F k) d p=true then apW (Q1w F (Ql F k) d p) (XL F p (KZ F (Ql F k) p) (Q7o F (Ql F k)) (n+1)) else .error n
def Q3m(F:List Rl)(k:Int):VF->Nat->Wtg
 |.nil,n=>.ok ([],n)
 |.cons d p r,n=>bnW (XE F k d p n) fun m=>Q3m F k r m
section
variable {F:List Rl}{suf b b' pre:List UInt8}{ps:List (List UInt8×Option Int)}{d:Nd}{p r:VF}{k:Int}{n:Nat}
theorem Q52:XL F (.cons d p r) ((pre,some k)::ps) suf n=apW pre (bnW (XE F k d p n) fun m=>XL F r ps suf m):=by
 rw[XL];unfold XE;split
 ·generalize XL F p (KZ F (Ql F k) p) (Q7o F (Ql F k)) (n+1)=x
  rcases x with e|⟨b,m⟩
  ·rfl
  ·show (match XL F r ps suf m with|.error e=>.error e|.ok (b',m')=>.ok (pre++(Q1w F (Ql F k) d p++b)++b',m'))=apW pre (apW (Q1w F (Ql F k) d p++b) (XL F r ps suf m))
   generalize XL F r ps suf m=y;rcases y with e|⟨b',m'⟩
   ·rfl
   ·simp [apW]
 ·rfl
theorem Q2o:XL F (.cons d p .nil) [([],some k)] [] n=XE F k d p n:=by
 rw[Q52,Q5y];generalize XE F k d p n=x;rcases x with e|⟨b,m⟩
 ·rfl
 ·show apW b (XL F .nil [] [] m)=_
  simp [XL,apW]
theorem Q5Z(suf:List UInt8):∀(l:VF) (n:Nat),XL F l (List.replicate l.len ([],some k)) suf n=bnW (Q3m F k l n) fun m=>.ok (suf,m)
 |.nil,n=>by
  show XL F .nil _ suf n=apW [] (.ok (suf,n))
  rw[Q5y]
  simp [XL]
 |.cons d p r,n=>by
  show XL F (.cons d p r) (([],some k)::List.replicate r.len ([],some k)) suf n=bnW (bnW (XE F k d p n) fun m=>Q3m F k r m) _
  rw[Q52,Q5y,QpE]
  congr 1
  funext m
  exact Q5Z suf r m
theorem Qpj(x:Wtg):(bnW x fun m=>.ok ([],m))=x:=by
 rcases x with e|⟨b,m⟩
 ·rfl
 ·show Except.ok (b++[],m)=_
  rw[List.append_nil]
def Z1:VF->Nat
 |.nil=>0
 |.cons d p r=>300+d.bs.length+Z1 p+Z1 r
abbrev Zm(d:Nd)(p:VF):Nat:=300+d.bs.length+Z1 p
theorem Qfe(h:Vu F (Ql F k) d p=false):XE F k d p n=.error n:=by unfold XE;rw[h];rfl
theorem QdE(h:Vu F (Ql F k) d p=true)(hi:KZ F (Ql F k) p=[])(ht:Q7o F (Ql F k)=[]):XE F k d p n=.ok (Q1w F (Ql F k) d p,n+1):=by
 unfold XE;rw[if_pos h,hi,ht];cases p<;>simp [XL,apW]
theorem QjS(h:Vu F (Ql F k) d p=true)(hk:(Ql F k).kind=6):XE F k d p n=apW (Q2l (Ql F (Ql F k).count) (p.len:Int)) (Q3m F (Ql F k).elem p (n+1)):=by
 unfold XE;rw[if_pos h,Qg4 (.inl hk),Q95 Q3 Q3,Q5Z,Qpj];unfold Q1w;rw[if_neg Q3,if_neg Q3,if_neg Q3,if_neg Q3,if_neg Q3,if_pos hk]
end
section
variable {M:List Nat}{W w w':World}{O:List Qb}
theorem Wd.upd2{i j:Nat}{x x' y y':Qb}{ks:List Nat}(hij:i≠j)(h:Wd M W O w)(hx:O[i]? =some x)(hy:O[j]? =some y)(hxw:x.w=true)(hyw:y.w=true)(hxw':x'.w=true)(hyw':y'.w=true)(hk:Xx ks w w')(hks:∀b∈ks,x.foot=some b\/y.foot=some b)(hx':x'.on w')(hy':y'.on w')(hfx:∀b,x'.foot=some b->x.foot=some b)(hfy:∀b,y'.foot=some b->y.foot=some b\/w.heap.size<=b):Wd M W ((O.set i x').set j y') w':=by
 have hi:i<O.length:=(List.getElem?_eq_some_iff.1 hx).1;have hj:j<O.length:=(List.getElem?_eq_some_iff.1 hy).1;have hset:∀(l:Nat) (z:Qb),((O.set i x').set j y')[l]? =some z->(l=j/\z=y')\/(l=i/\z=x')\/(l≠i/\l≠j/\O[l]? =some z):=by
  intro l z hz;rw[List.getElem?_set] at hz;by_cases hjl:j=l
  ·subst hjl;rw[if_pos rfl,if_pos (by rw[List.length_set];exact hj)] at hz
   cases hz
   exact .inl ⟨rfl,rfl⟩
  ·rw[if_neg hjl,List.getElem?_set] at hz
   by_cases hil:i=l
   ·subst hil;rw[if_pos rfl,if_pos hi] at hz
    cases hz
    exact .inr (.inl ⟨rfl,rfl⟩)
   ·rw[if_neg hil] at hz;exact .inr (.inr ⟨fun e=>hil e.symm,fun e=>hjl e.symm,hz⟩)
 have hap:∀(l:Nat) (z:Qb) (b:Nat),l≠i->l≠j->O[l]? =some z->z.foot=some b->x.foot≠some b/\y.foot≠some b:=fun l z b h1 h2 hz hf=>
  ⟨fun hfx=>h1 (h.nd l i z x b hz hx hf hfx (by rw[hxw,Bool.or_true])),fun hfy=>h2 (h.nd l j z y b hz hy hf hfy (by rw[hyw,Bool.or_true]))⟩
 have hsz:=h.k.size;refine⟨⟨hk.os.trans h.k.os,hk.tape.trans h.k.tape,hk.output.trans h.k.output,Nat.le_trans h.k.size hk.size,fun k hk1 hn=>?_⟩,?_,?_,?_⟩
 ·rw[hk.block k Q3 (fun hm=>hn (by
   rcases hks k hm with hf|hf
   ·have:=h.new i x k hx hf hk1;rwa [hxw] at this
   ·have:=h.new j y k hy hf hk1
    rwa [hyw] at this))]
  exact h.k.block k hk1 hn
 ·intro l z hz
  rcases hset l z hz with ⟨_,rfl⟩|⟨_,rfl⟩|⟨h1,h2,hz'⟩
  ·exact hy'
  ·exact hx'
  ·refine(h.own l z hz').keep hk.size fun b hf=>hk.block b ((h.own l z hz').lt hf) fun hm=>?_
   rcases hks b hm with h3|h3
   ·exact(hap l z b h1 h2 hz' hf).1 h3
   ·exact(hap l z b h1 h2 hz' hf).2 h3
 ·intro l z b hz hf hlt
  rcases hset l z hz with ⟨_,rfl⟩|⟨_,rfl⟩|⟨h1,h2,hz'⟩
  ·rcases hfy b hf with h3|h3
   ·have:=h.new j y b hy h3 hlt;rw[hyw] at this;rwa [hyw']
   ·omega
  ·have:=h.new i x b hx (hfx b hf) hlt;rw[hxw] at this;rwa [hxw']
  ·exact h.new l z b hz' hf hlt
 ·intro l l' z z' b hz hz' hf hf' hww;have hlx:=(h.own i x hx)
  rcases hset l z hz with ⟨rfl,rfl⟩|⟨rfl,rfl⟩|⟨h1,h2,hz1⟩
  ·rcases hset l' z' hz' with ⟨rfl,rfl⟩|⟨rfl,rfl⟩|⟨h1',h2',hz1'⟩
   ·rfl
   ·have h5:=hfx b hf'
    rcases hfy b hf with h3|h3
    ·exact absurd (h.nd l' l x y b hx hy h5 h3 (by rw[hxw];rfl)) hij
    ·have:=hlx.lt h5;omega
   ·rcases hfy b hf with h3|h3
    ·exact absurd h3 (hap l' z' b h1' h2' hz1' hf').2
    ·have:=(h.own l' z' hz1').lt hf';omega
  ·rcases hset l' z' hz' with ⟨rfl,rfl⟩|⟨rfl,rfl⟩|⟨h1',h2',hz1'⟩
   ·have h5:=hfx b hf
    rcases hfy b hf' with h3|h3
    ·exact absurd (h.nd l l' x y b hx hy h5 h3 (by rw[hxw];rfl)) hij
    ·have:=hlx.lt h5;omega
   ·rfl
   ·exact absurd (hfx b hf) (hap l' z' b h1' h2' hz1' hf').1
  ·rcases hset l' z' hz' with ⟨rfl,rfl⟩|⟨rfl,rfl⟩|⟨h1',h2',hz1'⟩
   ·rcases hfy b hf' with h3|h3
    ·exact absurd h3 (hap l z b h1 h2 hz1 hf).2
    ·have:=(h.own l z hz1).lt hf;omega
   ·exact absurd (hfx b hf') (hap l z b h1 h2 hz1 hf).1
   ·exact h.nd l l' z z' b hz1 hz1' hf hf' hww
end
structure Wz where
 Af:Option Addr
 n:Nat
 cf:Nat
abbrev Wz.obj(z:Wz)(A:Option Addr)(m c n:Nat):Obj:=.cells ([.slice z.Af z.n z.cf,.slice A m c,.int .i64 (n:Int)]:List Value).toArray 77 (0,0)
abbrev Kj(A:Option Addr)(c:Nat)(xs:List UInt8):Qb:=.row A xs.length c 5 1 (bv xs)
abbrev wM(g:Nat)(A:Option Addr)(m c:Nat):List Nat:=g::(Value.slice A m c).ownBlock.toList
theorem VQ{g:Nat}{A:Option Addr}{c b:Nat}{xs:List UInt8}:b∈wM g A xs.length c↔b=g\/(Kj A c xs).foot=some b:=by
 unfold wM;rw[List.mem_cons];show b=g\/b∈(Kj A c xs).foot.toList↔_;rw[Option.mem_toList]
structure Je(W:World)(z:Wz)(B g:Nat)(F:List Rl)(A:Option Addr)(c:Nat)(xs:List UInt8)(n:Nat):Prop where
 fm:QW W B z.Af z.n F
 hB:B<=g
 cur:W.heap[g]? =some (z.obj A xs.length c n)
 row:(Kj A c xs).on W
 far:∀b,(Kj A c xs).foot=some b->B<=b/\b≠g
 hn:z.n<=z.cf
 gv:∀w,Below B W w->GV w
section
variable {M:List Nat}{W w w':World}{O:List Qb}{z:Wz}{B g c c' n m i j cost:Nat}{F:List Rl}{A A':Option Addr}{xs ys_v:List UInt8}{res RES:Wtg}{e:Ending}
theorem Je.lt(h:Je W z B g F A c xs n):g<W.heap.size:=(Array.getElem?_eq_some_iff.1 h.cur).1
theorem Je.len(h:Je W z B g F A c xs n):F.length=z.n:=h.fm.1
theorem Je.wd(h:Je W z B g F A c xs n):Wd (wM g A xs.length c) W [.blk g (z.obj A xs.length c n),Kj A c xs] W:=by
 refine .of_pairs (Xx.refl _ _) ?_ ?_ ?_
 ·intro x hx
  simp only[List.mem_cons,List.not_mem_nil,or_false] at hx;rcases hx with rfl|rfl
  ·exact h.cur
  ·exact h.row
 ·intro x hx b hb _
  simp only[List.mem_cons,List.not_mem_nil,or_false] at hx;rcases hx with rfl|rfl
  ·cases hb;exact VQ.2 (.inl rfl)
  ·exact VQ.2 (.inr hb)
 ·refine List.Pairwise.cons ?_ (List.Pairwise.cons Qm List.Pairwise.nil);intro y hy b hb hb';rw[List.mem_singleton] at hy;subst hy
  cases hb
  exact absurd rfl (h.far _ hb').2
theorem Je.below(h:Je W z B g F A c xs n)(hk:Xx (wM g A xs.length c) W w):Below B W w:=
 ⟨hk.os,hk.tape,hk.output,hk.size,fun k hk1=>hk.block k (by have:=h.lt;have:=h.hB;omega) fun hm=>by
  rcases VQ.1 hm with rfl|hm
  ·have:=h.hB;omega
  ·have:=(h.far k hm).1;omega⟩
theorem Je.next(h:Je W z B g F A c xs n)(hk:Xx (wM g A xs.length c) W w)(hc:w.heap[g]? =some (z.obj A' ys_v.length c' m))(hr:(Kj A' c' ys_v).on w)(hf:∀b,(Kj A' c' ys_v).foot=some b->(Kj A c xs).foot=some b\/W.heap.size<=b):Je w z B g F A' c' ys_v m:=
 ⟨h.fm.below (h.below hk),h.hB,hc,hr,fun b hb=>by
  rcases hf b hb with h1|h1
  ·exact h.far b h1
  ·have:=h.lt;have:=h.hB;omega,h.hn,fun w' hb=>h.gv w' ((h.below hk).trans hb)⟩
theorem Je.nextW(h:Je W z B g F A c xs n)(hw:Wd (wM g A xs.length c) W O w)(i j:Nat)(hO:O[i]? =some (.blk g (z.obj A' ys_v.length c' m)))(hP:O[j]? =some (Kj A' c' ys_v)):Je w z B g F A' c' ys_v m:=
 h.next hw.k Q4X (hw.own j _ hP) fun b hb=>by
  rcases Nat.lt_or_ge b W.heap.size with hl|hl
  ·have h1:=hw.new j _ b hP hb hl;have h1:b∈wM g A xs.length c:=h1
   rcases VQ.1 h1 with rfl|h2
   ·have:=hw.nd i j _ _ _ hO hP rfl hb rfl;subst this;rw[hO] at hP
    cases hP
   ·exact .inl h2
  ·exact .inr hl
def WrE(z:Wz)(g:Nat)(W:World)(A:Option Addr)(c:Nat)(xs:List UInt8)(res:Wtg)(n cost:Nat)(e:Ending)(w':World):Prop:=
 Xx (wM g A xs.length c) W w'/\((∃x,res=.error x/\e=.panicked (JN 13 (x:Int)))\/∃b m A' c',res=.ok (b,m)/\e=.returned (.tuple #[])/\b.length<=cost/\m<=n+cost/\w'.heap[g]? =some (z.obj A' (xs++b).length c' m)/\(Kj A' c' (xs++b)).on w'/\∀q,(Kj A' c' (xs++b)).foot=some q->(Kj A c xs).foot=some q\/W.heap.size<=q)
def Q9e(RES:Wtg)(M:List Nat)(W:World)(ch:List PanicEntry)(w':World):Prop:=∃x,RES=.error x/\ch=JN 13 (x:Int)/\Xx M W w'
structure Wy where
 b:List UInt8
 m:Nat
 A:Option Addr
 c:Nat
theorem Qu8(i j:Nat)(hw:Wd M W O w)(hO:O[i]? =some (.blk g (z.obj A xs.length c n)))(hP:O[j]? =some (Kj A c xs))(hk:Xx (wM g A xs.length c) w w'):Xx M W w':=
 hw.k.trans hk fun b hb hlt=>by
  rcases VQ.1 hb with rfl|hb
  ·exact hw.new i _ _ hO rfl hlt
  ·exact hw.new j _ b hP hb hlt
theorem QlQ(i j:Nat)(hij:i≠j)(hw:Wd M W O w)(hO:O[i]? =some (.blk g (z.obj A xs.length c n)))(hP:O[j]? =some (Kj A c xs))(hx:∀x:Nat,res=.error x->RES=.error x)(h:WrE z g w A c xs res m cost e w'):Zp (fun y:Wy=>.tuple #[]) (fun y=>res=.ok (y.b,y.m)/\y.b.length<=cost/\y.m<=m+cost) M W (fun y=>(O.set i (.blk g (z.obj y.A (xs++y.b).length y.c y.m))).set j (Kj y.A y.c (xs++y.b))) (Q9e RES M W) e w':=by
 obtain⟨hk,⟨x,h1,h2⟩|⟨b,m',A',c',h1,h2,h3,h4,h5,h6,h7⟩⟩:=h
 ·exact .inr ⟨_,h2,x,hx x h1,rfl,Qu8 i j hw hO hP hk⟩
 ·exact .inl ⟨⟨b,m',A',c'⟩,h2,⟨h1,h3,h4⟩,hw.upd2 hij hO hP rfl rfl rfl rfl hk (fun q hq=>by
   rcases VQ.1 hq with rfl|hq
   ·exact .inl rfl
   ·exact .inr hq) h5 h6 (fun _ h=>h) h7⟩
theorem Q9X(h:Je W z B g F A c xs n)(i j:Nat){b:List UInt8}(hw:Wd (wM g A xs.length c) W O w)(hO:O[i]? =some (.blk g (z.obj A' (xs++b).length c' m)))(hP:O[j]? =some (Kj A' c' (xs++b)))(hr:res=.ok (b,m))(hb:b.length<=cost)(hm:m<=n+cost):WrE z g W A c xs res n cost (.returned (.tuple #[])) w:=
 ⟨hw.k,.inr ⟨b,m,A',c',hr,rfl,hb,hm,hw.own i _ hO,hw.own j _ hP,fun q hq=>by
  rcases Nat.lt_or_ge q W.heap.size with hl|hl
  ·have h1:=hw.new j _ q hP hq hl;have h1:q∈wM g A xs.length c:=h1
   rcases VQ.1 h1 with rfl|h2
   ·have:=hw.nd i j _ _ _ hO hP rfl hq rfl;subst this;rw[hO] at hP
    cases hP
   ·exact .inl h2
  ·exact .inr hl⟩⟩
end
section
variable {b:Bool}{p:Prop}
section
variable {P:Program}{ops:Array Oper}{Q0:Act->Prop}{Q:Exit->Act->World->Prop}{N:Nat}{E:Env}{o:Oper}{rest:List Oper}{M:List Nat}{W:World}{O:List Qb}{d:Nat}
theorem Vb[dq:DQ](hp:b=true↔p)(h1:oE P ops (Wd M W O) N E ((d,.bool b)::E) o)(ht:p->lE P ops Q N M W ((d,.bool true)::E) O rest)(hf:¬p->lE P ops Q N M W ((d,.bool false)::E) O rest):lE P ops Q N M W E O (o::rest):=by
 cases b with
 |true=>exact Q4 h1 (ht (hp.1 rfl))
 |false=>exact Q4 h1 (hf fun h=>by have:=hp.2 h;cases this)
theorem Q5D[dq:DQ](hp:b=true↔p)(h1:oE P ops (Wd M W O) N E ((d,.bool b)::E) o)(ht:p->qE P ops (Wd M W O) Q0 N ((d,.bool true)::E) rest)(hf:¬p->qE P ops (Wd M W O) Q0 N ((d,.bool false)::E) rest):qE P ops (Wd M W O) Q0 N E (o::rest):=by
 cases b with
 |true=>exact Qe h1 (ht (hp.1 rfl))
 |false=>exact Qe h1 (hf fun h=>by have:=hp.2 h;cases this)
theorem Q16[Decidable p]:decide p=true↔p:=decide_eq_true_iff
theorem Qa4:b=true↔b=true:=Iff.rfl
theorem Qj[dq:DQ]{y:Code}(h:sE P Q N M W E O y):xE (Exit.then (fun a w=>y.wp P Q a w) Q) N M W E O .normal:=fun a w ha hw=>h a w ha hw
end
end
section
variable {w:World}{x:Qb}{ι:Type}
section
variable {P:Program}{Q:Exit->Act->World->Prop}{N:Nat}{M:List Nat}{W:World}{E:Env}{O:List Qb}
theorem Xe{c:Code}(p:ι->Prop)(m:ι->Nat)(F:ι->Env)(G:ι->List Qb)(i0:ι)(h0:p i0)(hE:Q7S E (F i0))(hG:∀w,Wd M W O w->Wd M W (G i0) w)
  (hr:∀i,p i->sE P (Exit.then (Qgp p m (m i) N M W F G) Q) N M W (F i) (G i) c):sE P Q N M W E O (.loop c):=fun a w ha hw=>by
 refine wp_loop_ghost (fun n a w=>∃i,p i/\m i=n/\Ag N (F i) a/\Wd M W (G i) w) (m i0) ⟨i0,h0,rfl,hE.ag ha,hG w hw⟩ ?_;rintro n a w ⟨i,hp,rfl,ha,hw⟩;refine wp_mono (hr i hp a w ha hw) ?_;intro e a' w' hq;cases e with
 |normal=>
  exact QsY
 |exit id=>exact hq
 |goto l=>exact hq
 |ret=>exact hq
 |panic ch=>exact hq
 |outgrown=>exact hq
theorem Qu{p:ι->Prop}{m:ι->Nat}{n:Nat}{F:ι->Env}{G:ι->List Qb}(j:ι)(hp:p j)(hm:m j<n)(hE:Q7S E (F j))(hG:∀w,Wd M W O w->Wd M W (G j) w):xE (Exit.then (Qgp p m n N M W F G) Q) N M W E O .normal:=fun a w ha hw=>
 ⟨j,hp,hm,hE.ag ha,hG w hw⟩
end
theorem Wd.tl{M:List Nat}{W:World}{O:List Qb}(h:Wd M W (x::O) w):Wd M W O w:=
 ⟨h.k,fun i y hy=>h.own (i+1) y hy,fun i y b hy hb hl=>h.new (i+1) y b hy hb hl,fun i j y z b hy hz hb hb' hw=>by have:=h.nd (i+1) (j+1) y z b hy hz hb hb' hw;omega⟩
theorem Wd.no2{M:List Nat}{W:World}{y:Qb}{O:List Qb}(h:Wd M W (x::y::O) w):Wd M W (x::O) w:=
 ⟨h.k,fun i z hz=>by
  cases i with
  |zero=>exact h.own 0 z hz
  |succ i=>exact h.own (i+2) z hz,fun i z b hz hb hl=>by
  cases i with
  |zero=>exact h.new 0 z b hz hb hl
  |succ i=>exact h.new (i+2) z b hz hb hl,fun i j z u b hz hu hb hb' hw=>by
  cases i with
  |zero=>
   cases j with
   |zero=>rfl
   |succ j=>have:=h.nd 0 (j+2) z u b hz hu hb hb' hw;omega
  |succ i=>
   cases j with
   |zero=>have:=h.nd (i+2) 0 z u b hz hu hb hb' hw;omega
   |succ j=>have:=h.nd (i+2) (j+2) z u b hz hu hb hb' hw;omega⟩
end
section
variable {t t':TypeId}{x:Operand}
instance iXFzH_1:TN Tryz.prog 155 3:=⟨_,Tryz.underlying155,rfl,by kernel_rfl⟩
instance iXFzH_2:Fld Tryz.prog 155 0 0:=⟨_,_,1,Tryz.underlying155,rfl,rfl,by kernel_rfl,by decide⟩
instance iXFzH_3:Fld Tryz.prog 155 1 1:=⟨_,_,1,Tryz.underlying155,rfl,rfl,by kernel_rfl,by decide⟩
instance iXFzH_4:Fld Tryz.prog 155 2 2:=⟨_,_,1,Tryz.underlying155,rfl,rfl,by kernel_rfl,by decide⟩
section
variable {P:Program}{ops:Array Oper}{C:World->Prop}{N:Nat}{E:Env}{o:Oper}{d:Nat}
theorem QsG{p:Addr}(ho:o.op=.nilCheck x)(hd:o.dst=some d)(hN:d<N)(hw:Qi ops E o=some true)(hx:ev E x=some (.pointer (some p))):oE P ops C N E ((d,.pointer (some p))::E) o:=
 X8 hd hN hw fun ρ w ha _=>by simp [execOp,ho,ha.eval hx,go_sem]
end
section
variable {M:List Nat}{W w:World}{O:List Qb}{br bw q N k c:Nat}{bad:Bool}{ws ns:List (List UInt8)}{A:Option Addr}
end
end
theorem Q1E(c i:Int)(w:World):Calls Tryz.prog 29 #[.int .i64 c,.int .i64 i] w fun e w'=>e=.returned (.agg #[.int .i64 c,.int .i64 i])/\w.alloc (.cells #[.int .i64 c,.int .i64 i] 32)=w':=by
 go_enter Tryz.func29,Tryz.ntmps29;go_wp2
 exact bodyPost_ret (v:=.agg #[.int .i64 c,.int .i64 i]) (by simp [results,Tryz.results29,go_sem]) rfl ⟨rfl,rfl⟩
theorem Qc8(x:Int)(w:World):Calls Tryz.prog 33 #[.int .i64 x] w fun e w'=>e=.panicked (JN 1 x)/\Below w.heap.size w w':=by
 go_enter Tryz.func33,Tryz.ntmps33;go_wp2_with fail
 refine(Q1E _ _ _).mono ?_;rintro e w' ⟨rfl,rfl⟩;go_wp2_with fail
 exact⟨rfl,rfl,JS _ _⟩
theorem Q0a{M:List Nat}{W w:World}{O:List Qb}{B:List PanicEntry->World->Prop}{x:Int}(hw:Wd M W O w)(hB:∀w',Wd M W O w'->B (JN 1 x) w'):Calls Tryz.prog 33 #[.int .i64 x] w (Zp (ι:=Empty) (fun i=>i.elim) (fun _=>True) M W (fun i=>i.elim) B):=
 (Qc8 x w).mono fun e w' h=>.inr ⟨_,h.1,hB w' (hw.on h.2)⟩
theorem ZV.cell{W:World}{z:Rv}{B g p:Nat}{F:List Rl}{D:List UInt8}(h:ZV W z B g F D p):W.cell? ⟨g,0,none⟩=some (.slice z.Af z.n z.cf)/\W.cell? ⟨g,1,none⟩=some (.slice z.As z.n z.cs)/\W.cell? ⟨g,2,none⟩=some (.slice z.Ad z.nd z.cd)/\W.cell? ⟨g,3,none⟩=some (.int .i64 (p:Int)):=by
 have hc:=h.cur;refine⟨?_,?_,?_,?_⟩<;>(rw[cell_of_row W g _ _ _ _ hc];rfl)
section
variable {W:World}{z:Rv}{B g p:Nat}{F:List Rl}{D:List UInt8}
def PkE(D:List UInt8)(p:Nat)(W:World)(e:Ending)(w':World):Prop:=Below W.heap.size W w'/\((D[p]? =none/\e=.panicked (JN 1 (p:Int)))\/∃c,D[p]? =some c/\e=.returned (.int .u8 (c.toNat:Int)))
theorem Q7j(h:ZV W z B g F D p):Calls Tryz.prog 65 #[.pointer (some ⟨g,0,none⟩)] W (PkE D p W):=by
 obtain⟨_,_,hc2,hc3⟩:=h.cell;have hl:=h.len.1;have hp:=h.hp;have hD:=h.hD;have hby:=fun c hc=>h.byte (i:=p) (c:=c) hc;clear h;obtain⟨Af,As,Ad,n,nd,cf,cs,cd⟩:=z;simp only at hc2 hc3 hl hby;subst hl;cases hcp:D[p]? with
 |none=>
  have hpe:p=D.length:=by
   rcases Nat.lt_or_ge p D.length with hlt|hge
   ·rw[List.getElem?_eq_getElem hlt] at hcp;cases hcp
   ·omega
  subst hpe;clear hby;have HN:=Q2 hcp;clear hcp;go_enter Tryz.func65,Tryz.ntmps65;haveI:Pan (bodyPost Tryz.prog Tryz.f65 (PkE D D.length W)) (fun ch w'=>ch=JN 1 (D.length:Int)/\Below W.heap.size W w'):=Pan.body fun ch w' hb=>⟨hb.2,.inl ⟨HN.out,by rw[hb.1]⟩⟩;refine Qv (M:=[]) (W:=W) (N:=28) (E:=[ZU]) (O:=[]) ?_ Z6 QT;refine Qhj ?_;refine Q67 ?_;refine Q67 ?_;refine Qe zL ?_;refine Qe zet ?_;refine Z3 ?_;refine yn<|y1<|yr<|yo zM ?_;refine Q4 mc5 ?_;refine yo zF<|yo zC ?_;exact QtE
 |some c=>
  have hlt:p<D.length:=(List.getElem?_eq_some_iff.1 hcp).1;obtain⟨b,o,rfl,_,hcell⟩:=hby c hcp;clear hby;have HN:=Q2 hcp;clear hcp;have hne:((p:Int)==(D.length:Int))=false:=Qdw;go_enter Tryz.func65,Tryz.ntmps65;refine Qv (M:=[]) (W:=W) (N:=28) (E:=[ZU]) (O:=[]) ?_ Z6 QT;refine Qhj ?_;refine Q67 ?_;refine Q67 ?_;refine Qe zL ?_;refine Qe zea ?_;refine Z3 ?_;refine yn<|y0<|ys<|yn<|yq<|Xb Q5 Q5 ?_;refine Q67 ?_;refine Q67 ?_;refine Qe zi1 ?_;refine Qe zC ?_;refine Q7w ?_;exact Q8 mc4 rfl (.tmp rfl) (fun w hw=>⟨hw.k.below,.inr ⟨c,HN.out,rfl⟩⟩)
end
theorem Q1Y{w:World}{B n c p m:Nat}{A:Option Addr}{D:List UInt8}(h:Rd w B 1 A n (bv D))(hk:p+m<=n)(hc:n<=c):((D.drop p).take m).length=m/\Rd w B 1 (JQ A c p 1) ((D.drop p).take m).length (bv ((D.drop p).take m)):=by
 have hl:D.length=n:=by have:=h.len;rw[Xr] at this;exact this
 have e:((D.drop p).take m).length=m:=by rw[List.length_take,List.length_drop];omega
 refine⟨e,?_⟩;have:=h.cut (k:=p) (m:=m) (c:=c) hk hc;rw[Nat.mul_one,Nat.mul_one] at this;rw[e];have e2:bv ((D.drop p).take m)=((bv D).drop p).take m:=by unfold bv;rw[List.map_take,List.map_drop]
 rw[e2];exact this
section
variable {W:World}{z:Rv}{B g p:Nat}{F:List Rl}{D:List UInt8}
theorem Q2n(h:ZV W z B g F D p){n:Int}(h0:0<=n)(hn:n<=9223372036854775807):Calls Tryz.prog 63 #[.pointer (some ⟨g,0,none⟩),.int .i64 n] W (ByE z B g W (ZG D p n)):=by
 have H:=Q2 h;obtain⟨_,_,hc2,hc3⟩:=h.cell;have hwd:=h.wd;have hl:=h.len.1;have hp:=h.hp;have hD:=h.hD;have hcd:=h.hnd;clear h;by_cases hlong:(D.length:Int) - p<n
 ·have HT:=Q2 (show ZG D p n=some (.error D.length) by unfold ZG;rw[if_pos hlong];rfl);rw[hl] at hlong;clear hwd;obtain⟨Af,As,Ad,nn,nd,cf,cs,cd⟩:=z
  simp only at hc2 hc3 hl hlong;go_enter Tryz.func63,Tryz.ntmps63;haveI:Pan (bodyPost Tryz.prog Tryz.f63 (ByE ⟨Af,As,Ad,nn,nd,cf,cs,cd⟩ B g W (ZG D p n))) (fun ch w'=>ch=JN 1 (nd:Int)/\Below W.heap.size W w'):=Pan.body fun ch w' hb=>⟨(Xx.of_below hb.2),.inl ⟨D.length,HT.out,by rw[hb.1,hl]⟩⟩;refine Qv (M:=[]) (W:=W) (N:=48) (E:=[ZU,(1,.int .i64 n)]) (O:=[]) ?_ mc3 QT;refine Qhj ?_;refine Y7 ?_;refine Qe mc5 ?_;refine Qe zF ?_;refine Qe zC ?_;refine Qe zL ?_;refine Q67 ?_;refine Qe zQ ?_;refine Qe zgt ?_;refine Z3 ?_;refine yn<|y1<|yr<|yo zM ?_;refine Q4 mc5 ?_;refine yo zF<|yo zC<|yo zL ?_;exact QtE
 ·obtain⟨m,rfl⟩:∃m:Nat,n=(m:Int):=Qac;have HT:=Q2 (show ZG D p (m:Int)=some (.ok ((D.drop p).take m,p+m)) by unfold ZG;rw[if_neg hlong];rfl);rw[hl] at hlong
  have hm:p+m<=z.nd:=by omega
  obtain⟨Af,As,Ad,nn,nd,cf,cs,cd⟩:=z;simp only at hl hlong hm hcd;go_enter Tryz.func63,Tryz.ntmps63;refine Qv (M:=[g]) (W:=W) (N:=48) (E:=[ZU,(1,.int .i64 (m:Int))]) (O:=QcN) ?_ mc3 hwd;clear hwd hc2 hc3;refine Qhj ?_;refine Y7 ?_;refine Qe mc5 ?_;refine Q2v ?_;refine Qe zL ?_;refine Q56 ?_;refine Qe (zB 0) ?_;refine Qe zQ ?_;refine Qe zgf ?_;refine Z3 ?_;refine yn<|y0<|ys<|yn<|yq<|Xb Q5 Q5 ?_;refine Q56 ?_;refine Qe (zB 0) ?_;refine Q56 ?_;refine Qe (zB 0) ?_;refine Q56 ?_;refine Qe (zB 0) ?_;refine Qe zM ?_;refine Qe zP ?_;refine Qe (Q31 (l:=p) (h:=p+m) rfl rfl Q1 rfl rfl rfl rfl Q3 Q3) ?_;refine Q4o ?_;refine yn<|yq<|yr<|yo zM ?_;refine Q4 mc5 ?_;refine yo zF<|yo (zB 0)<|yo zM<|yo zP ?_;refine Q4 mc5 ?_;refine yo zF ?_;refine yS 0 ?_;refine yl<|yn<|yq<|yr<|yo zM<|yo zA<|yl<|yn<|yt ?_;refine Q8 mc4 rfl (.tmp rfl) (fun w hw=>⟨hw.k,.inr ⟨(D.drop p).take m,p+m,JQ Ad cd p 1,cd - p,HT.out,?_,hw.blkH,?_,?_⟩⟩)
  ·have hd:=H.out.env.dt;rw[(Q1Y (c:=cd) hd hm hcd).1]
   show Ending.returned (.slice (JQ Ad cd p 1) (p+m - p) (cd - p))=_;rw[show p+m - p=m by omega]
  ·have hd:=(H.out.env.keep H.out.hB H.out.lt hw.k).dt;exact(Q1Y hd hm hcd).2
  ·rw[(Q1Y (c:=cd) H.out.env.dt hm hcd).1]
   omega
end
section
variable {b c:UInt8}{bs l:List UInt8}{i:Nat}{w:World}
def LtE(z:Rv)(g:Nat)(W:World)(res:Rdg Nat)(e:Ending)(w':World):Prop:=Xx [g] W w'/\((∃x:Nat,res=some (.error x)/\e=.panicked (JN 1 x))\/∃q,res=some (.ok q)/\e=.returned (.tuple #[])/\w'.heap[g]? =some (z.obj q))
section
variable {W:World}{z:Rv}{B g p:Nat}{F:List Rl}{D:List UInt8}
theorem Q34(h:ZV w z B g F D p)(hc:D[p]? =some c):Calls Tryz.prog 65 #[.pointer (some ⟨g,0,none⟩)] w fun e w'=>e=.returned (.int .u8 (c.toNat:Int))/\Below w.heap.size w w':=
 (Q7j h).mono fun e w' ⟨hb,h⟩=>by
  rcases h with ⟨hn,_⟩|⟨c',hc',he⟩
  ·rw[hc] at hn;cases hn
  ·rw[hc] at hc';cases hc';exact⟨he,hb⟩
theorem Q5C{M:List Nat}{O:List Qb}{Bp:List PanicEntry->World->Prop}(h:ZV w z B g F D p)(hc:D[p]? =none)(hw:Wd M W O w)(hB:∀w',Wd M W O w'->Bp (JN 1 (p:Int)) w'):Calls Tryz.prog 65 #[.pointer (some ⟨g,0,none⟩)] w (Zp (ι:=Empty) (fun i=>i.elim) (fun _=>True) M W (fun i=>i.elim) Bp):=
 (Q7j h).mono fun e w' ⟨hb,h⟩=>by
  rcases h with ⟨_,he⟩|⟨c',hc',_⟩
  ·exact .inr ⟨_,he,hB w' (hw.on hb)⟩
  ·rw[hc] at hc';cases hc'
theorem Q8z{p:Nat}(h:l[0]? =none)(hb:bs≠[]):Ks bs l p=some (.error p):=by
 cases bs with
 |nil=>exact absurd rfl hb
 |cons b bs=>
  cases l with
  |nil=>rfl
  |cons c l=>cases h
theorem QhP{p:Nat}(h:¬c=b):Ks (b::bs) (c::l) p=some (.error p):=by
 unfold Ks;rw[if_neg h];rfl
theorem Qgf{p:Nat}:Ks (b::bs) (b::l) p=Ks bs l (p+1):=by
 rw[Ks,if_pos rfl]
theorem Qgo(h:bs[i]? =some b):bs.drop i=b::bs.drop (i+1):=Zh h
theorem Js{B n:Nat}{A:Option Addr}(h:Rd w B 1 A n (bv bs))(hb:bs[i]? =some b):∃q o,A=some ⟨q,o,none⟩/\q<B/\w.cell? ⟨q,o+i,none⟩=some (.int .u8 (b.toNat:Int)):=by
 have hi:i<bs.length:=(List.getElem?_eq_some_iff.1 hb).1;have hl:bs.length=n:=by have:=h.len;rw[Xr] at this;exact this
 obtain⟨q,o,e,hq,hc⟩:=h.2 Q3;refine⟨q,o,e,hq,hc i _ ?_⟩;unfold bv;rw[List.getElem?_map,hb];rfl
theorem Q7W(h:ZV W z B g F D p){Ab:Option Addr}{nb cb:Nat}(hb:Rd W B 1 Ab nb (bv bs))(hnb:nb<=1048576):Calls Tryz.prog 58 #[.pointer (some ⟨g,0,none⟩),.slice Ab nb cb] W (LtE z g W (Ks bs (D.drop p) p)):=by
 have H:=Q2 h;have HB:=Q2 hb;have hwd:=h.wd;have hlb:bs.length=nb:=by have:=hb.len;rw[Xr] at this;exact this
 have hp:=h.hp;have hD:=h.hD;obtain⟨RES,hres⟩:∃r,Ks bs (D.drop p) p=r:=⟨_,rfl⟩;have HR0:=Q2 hres;rw[hres];clear h hb hres;subst hlb;obtain⟨Af,As,Ad,nn,nd,cf,cs,cd⟩:=z;go_enter Tryz.func58,Tryz.ntmps58;haveI:Pan (bodyPost Tryz.prog Tryz.f58 (LtE ⟨Af,As,Ad,nn,nd,cf,cs,cd⟩ g W RES)) (fun ch w'=>∃x:Nat,RES=some (.error x)/\ch=JN 1 x/\Xx [g] W w'):=Pan.body fun ch w' ⟨x,h1,h2,h3⟩=>K4
 refine Qv (M:=[g]) (W:=W) (N:=29) (E:=[ZU,(1,.slice Ab bs.length cb)]) (O:=QcN) ?_ mc3 hwd;clear hwd;refine yq<|yr<|yo zM<|yo zL<|yo zM<|yl<|yn<|yb ?_;refine Xe (ι:=Nat) (fun i=>i<=bs.length/\p+i<=D.length/\RES=Ks (bs.drop i) (D.drop (p+i)) (p+i)) (fun i=>bs.length - i) (fun i=>QrX) (fun i=>Qrv) 0 ⟨Nat.zero_le _,hp,HR0.out.symm⟩ mc1 Ju ?_;rintro i ⟨hi,hpi,hres⟩;have HRES:=Q2 hres;clear hres;show sE _ _ _ _ _ QrX Qrv _;by_cases hin:i<bs.length
 ·obtain⟨b,hbi⟩:∃b,bs[i]? =some b:=⟨_,List.getElem?_eq_getElem hin⟩;obtain⟨q,o,rfl,hqB,hcell⟩:=Js HB.out hbi
  have hqg:¬q=g:=by have:=H.out.hB;omega
  have hdr:=Qgo hbi;cases hc:D[p+i]? with
  |none=>
   have HE:=Q2 (show RES=some Q0E by rw[HRES.out];exact Q8z (by rw[List.getElem?_drop];exact hc) (by rw[hdr];exact List.cons_ne_nil _ _));have HC:=Q2 hc;clear hc;refine QkC ?_;exact Jn (Xw _ _ _ rfl rfl rfl (fun w hw=>Q5C (H.out.next hw.k hpi hw.blkH) HC.out hw (fun w' hw'=>⟨p+i,HE.out,rfl,hw'.k⟩))) rfl Q1 Q0J
  |some c=>
   have hlt:p+i<D.length:=(List.getElem?_eq_some_iff.1 hc).1;have hdD:=Zh hc;have HC:=Q2 hc;clear hc;by_cases hcb:c=b
   ·subst hcb;have HN:=Q2 (show RES=Ks (bs.drop (i+1)) (D.drop (p+(i+1))) (p+(i+1)) by rw[HRES.out,hdr,hdD,Qgf];rfl);have hne:((c.toNat:Int) != (c.toNat:Int))=false:=bne_eq_false_iff_eq.2 rfl;clear hdD;refine QkC ?_;refine Q4 Qsf ?_;refine yo zM<|yo zna<|yl<|yn<|y0<|ys<|yn<|yr<|yo zM ?_;refine Q4 mc5 ?_;refine yo zF<|yo (zB 0)<|yo zP ?_;refine Q4 mc5 ?_;refine yo zF ?_;refine yS 0 ?_;refine yl<|yn<|yr<|yo zP<|yo zM<|yl ?_;refine Qu (i+1) ⟨hin,hlt,HN.out⟩ (by show bs.length - (i+1)<bs.length - i;omega) mc2 Ju
   ·have HE:=Q2 (show RES=some Q0E by rw[HRES.out,hdr,hdD];exact QhP hcb);have hne:((c.toNat:Int) != (b.toNat:Int))=true:=bne_iff_ne.2 (fun h=>hcb (UInt8.toNat_inj.1 Q3));clear hdD;refine QkC ?_;refine Q4 Qsf ?_;refine yo zM<|yo zna<|yl<|yn<|y1<|yr<|yo zM ?_;refine Q4 mc5 ?_;refine yo zF<|yo (zB 0) ?_;exact Q79
 ·obtain rfl:i=bs.length:=by omega
  have HE:=Q2 (show RES=some (.ok (p+bs.length)) by rw[HRES.out,List.drop_length];cases D.drop (p+bs.length)<;>rfl);refine Qef ?_;exact Y8 Q5Q rfl (fun w hw=>⟨hw.k,.inr ⟨p+bs.length,HE.out,rfl,hw.blkH⟩⟩)
end
end
section
variable {c:UInt8}{k:Nat}{size stop:Int}
abbrev Qfw{α:Type}(RES:Rdg α)(g:Nat)(W:World)(ch:List PanicEntry)(w':World):Prop:=∃x:Nat,RES=some (.error x)/\ch=JN 1 x/\Xx [g] W w'
def UtE(z:Rv)(B g:Nat)(D:List UInt8)(p:Nat)(W:World)(res:Rdg Nat)(e:Ending)(w':World):Prop:=Xx [g] W w'/\((∃x:Nat,res=some (.error x)/\e=.panicked (JN 1 x))\/∃q A c,res=some (.ok q)/\e=.returned (.slice A ((D.drop p).take (q - p)).length c)/\w'.heap[g]? =some (z.obj (q+1))/\Rd w' B 1 A ((D.drop p).take (q - p)).length (bv ((D.drop p).take (q - p)))/\((D.drop p).take (q - p)).length<=c)
section
variable {W:World}{z:Rv}{B g p:Nat}{F:List Rl}{D:List UInt8}
theorem Qdu{p:Nat}(h:D[p]? =none):Ys stop size (D.drop p) k p=some (.error p):=by
 have:D.drop p=[]:=List.drop_eq_nil_of_le (by
  rcases Nat.lt_or_ge p D.length with hl|hl
  ·rw[List.getElem?_eq_getElem hl] at h;cases h
  ·exact hl)
 rw[this];rfl
theorem Q88{p:Nat}(h:D[p]? =some c)(hs:(c.toNat:Int)=stop):Ys stop size (D.drop p) k p=some (.ok p):=by
 rw[Zh h,Ys,if_pos hs];rfl
theorem Q9j{p:Nat}(h:D[p]? =some c)(hs:¬(c.toNat:Int)=stop)(hz:(k:Int)=size):Ys stop size (D.drop p) k p=some (.error p):=by
 rw[Zh h,Ys,if_neg hs,if_pos hz];rfl
theorem Q93{p:Nat}(h:D[p]? =some c)(hs:¬(c.toNat:Int)=stop)(hz:¬(k:Int)=size):Ys stop size (D.drop p) k p=Ys stop size (D.drop (p+1)) (k+1) (p+1):=by
 rw[Zh h,Ys,if_neg hs,if_neg hz]
theorem Za(c:UInt8):IntKind.i64.wrap (c.toNat:Int)=(c.toNat:Int):=IntWalk.i64_in _ (by have:=c.toNat_lt;omega)
theorem Qdd(h:ZV W z B g F D p){r:Rl}{sb sn sp:Value}:Calls Tryz.prog 64 #[.pointer (some ⟨g,0,none⟩),.agg (ruC r sb sn sp).toArray] W (UtE z B g D p W (Ys r.stop r.size (D.drop p) 0 p)):=by
 have H:=Q2 h;have hwd:=h.wd;have hp:=h.hp;have hD:=h.hD;have hnd:=h.len.1;have hcd:=h.hnd;obtain⟨name,kind,bs,size,big,mn,mx,stop,count,elem,names,parts⟩:=r;simp only[ruC];obtain⟨RES,hres⟩:∃r,Ys stop size (D.drop p) 0 p=r:=⟨_,rfl⟩;have HR0:=Q2 hres;rw[hres];clear h hres;obtain⟨Af,As,Ad,nn,nd,cf,cs,cd⟩:=z;simp only at hnd hcd;go_enter Tryz.func64,Tryz.ntmps64;haveI:Pan (bodyPost Tryz.prog Tryz.f64 (UtE ⟨Af,As,Ad,nn,nd,cf,cs,cd⟩ B g D p W RES)) (Qfw RES g W):=Pan.body fun ch w' ⟨x,h1,h2,h3⟩=>K4
 refine Qv (M:=[g]) (W:=W) (N:=55) (E:=[ZU,Qhd]) (O:=QcN) ?_ mc3 hwd;clear hwd;refine yq<|yr ?_;refine yB fun b3=>?_;refine yo zA<|yl<|yn<|yq<|yr<|yo zM ?_;refine Q4 mc5 ?_;refine yo zF<|yo (zB 1)<|yo zA<|yl<|yn<|yq<|yb ?_;refine Xe (ι:=Nat) (fun i=>p+i<=D.length/\RES=Ys stop size (D.drop (p+i)) i (p+i)) (fun i=>D.length - i) (fun i=>[ZU,QcF,(5,.int .i64 (p:Int))]) (fun i=>Qp4) 0 ⟨hp,HR0.out.symm⟩ J0 Ju ?_;rintro i ⟨hpi,hres⟩;have HRES:=Q2 hres;clear hres;show sE _ _ _ _ _ [ZU,QcF,(5,.int .i64 (p:Int))] Qp4 _;cases hc:D[p+i]? with
 |none=>
  have HE:=Q2 (show RES=some Q0E by rw[HRES.out];exact Qdu hc);have HC:=Q2 hc;clear hc;refine yq<|yq ?_;refine YB (B:=Qfw RES g W) Qp4 [] Q5 ?_ ?_
  ·infer_instance
  refine Z9 0 rfl Q5 Xi zM ?_;refine Z9 3 rfl Q5 Xi zF ?_;refine Z9 4 rfl Q5 Xi (zB 0) ?_;exact Q2A 1 Q5 rfl rfl QqQ Q0J rfl Q1 Q0J
 |some c=>
  have hlt:p+i<D.length:=(List.getElem?_eq_some_iff.1 hc).1;have HC:=Q2 hc;have hcv:=Za c;clear hc;by_cases hs:(c.toNat:Int)=stop
  ·have HE:=Q2 (show RES=some (.ok (p+i)) by rw[HRES.out];exact Q88 HC.out hs);have hne:((c.toNat:Int) != stop)=false:=bne_eq_false_iff_eq.2 hs;refine QsP ?_;refine Qe (zB 0) ?_;refine Qe zna ?_;refine Z3 ?_;refine yn<|y0<|ye<|yn<|yq<|yr<|yo zM ?_;refine QkR ?_;refine yl<|yn<|yq<|Xb Q5 Q5 ?_;refine Q56 ?_;refine Qe (zB 1) ?_;refine Y7 ?_;refine Qe mc5 ?_;refine Q8B ?_;refine Qe zQ ?_;refine Qe (Q31 (l:=p) (h:=p+i) rfl rfl Q1 rfl rfl rfl (congrArg (fun x:Int=>some (Value.int .i64 x)) (show ((p+i:Nat):Int)+1 - 1=((p+i:Nat):Int) by omega)) Q3 Q3) ?_;refine Q7w ?_;refine Q8 mc4 rfl (.tmp rfl) (fun w hw=>⟨hw.k,.inr ⟨p+i,JQ Ad cd p 1,cd - p,HE.out,?_,hw.own 1 _ rfl,?_,?_⟩⟩)
   ·have hd:Rd W B 1 Ad nd (bv D):=H.out.env.dt;rw[show p+i - p=i by omega,(Q1Y (p:=p) (m:=i) (c:=cd) hd Q3 hcd).1]
   ·have hd:Rd w B 1 Ad nd (bv D):=(H.out.env.keep H.out.hB H.out.lt hw.k).dt;rw[show p+i - p=i by omega];exact(Q1Y (p:=p) (m:=i) hd Q3 hcd).2
   ·rw[show p+i - p=i by omega,(Q1Y (p:=p) (m:=i) (n:=nd) (c:=cd) H.out.env.dt Q3 hcd).1]
    omega
  ·have hne:((c.toNat:Int) != stop)=true:=bne_iff_ne.2 hs
   by_cases hz:(i:Int)=size
   ·have HE:=Q2 (show RES=some Q0E by rw[HRES.out];exact Q9j HC.out hs hz);refine QqN ?_;refine Qe zQ ?_;refine Q2v ?_;refine Qe zet ?_;refine Z3 ?_;refine yn<|y1<|yr<|yo zM ?_;refine QcM ?_;exact Q79
   ·have HN:=Q2 (show RES=Ys stop size (D.drop (p+(i+1))) (i+1) (p+(i+1)) by rw[HRES.out];exact Q93 HC.out hs hz);refine QqN ?_;refine Qe zQ ?_;refine Q2v ?_;refine Qe zef ?_;refine Z3 ?_;refine yn<|y0<|ys<|yn<|yr<|yo zM ?_;refine QkR ?_;refine yl<|yd ?_;refine Qu (i+1) ⟨hlt,HN.out⟩ (by show D.length - (i+1)<D.length - i;omega) J0 Ju
end
end
section
variable {b:Bool}{c:UInt8}{mx n stop:Int}
section
variable {W:World}{z:Rv}{B g p:Nat}{F:List Rl}{D:List UInt8}
theorem Qc0{p:Nat}(h:D[p]? =none):JM stop mx (D.drop p) b n p=some (.error p):=by
 have:D.drop p=[]:=List.drop_eq_nil_of_le (by
  rcases Nat.lt_or_ge p D.length with hl|hl
  ·rw[List.getElem?_eq_getElem hl] at h;cases h
  ·exact hl)
 rw[this];rfl
theorem Q8j{p:Nat}(h:D[p]? =some c)(hb:b=true)(hs:(c.toNat:Int)=stop):JM stop mx (D.drop p) b n p=some (.ok (n,p+1)):=by
 rw[Zh h,JM,if_pos (by simp [hb,hs])];rfl
theorem Vg{p:Nat}(h:D[p]? =some c)(h1:¬(b=true/\(c.toNat:Int)=stop))(h2:¬(48<=c.toNat/\c.toNat<=57)\/(b=true/\n=0)\/mx<10*n+((c.toNat:Int) - 48)):JM stop mx (D.drop p) b n p=some (.error p):=by
 rw[Zh h,JM,if_neg (by simpa using h1),if_pos]
 ·rfl
 ·simp only[Bool.or_eq_true,Bool.not_eq_true',decide_eq_false_iff_not,Bool.and_eq_true,decide_eq_true_eq]
  rcases h2 with h2|h2|h2
  ·exact .inl (.inl h2)
  ·exact .inl (.inr h2)
  ·exact .inr h2
theorem Q15{p:Nat}(h:D[p]? =some c)(h1:¬(b=true/\(c.toNat:Int)=stop))(hd:48<=c.toNat/\c.toNat<=57)(hz:¬(b=true/\n=0))(hm:¬mx<10*n+((c.toNat:Int) - 48)):JM stop mx (D.drop p) b n p=JM stop mx (D.drop (p+1)) true (10*n+((c.toNat:Int) - 48)) (p+1):=by
 rw[Zh h,JM,if_neg (by simpa using h1),if_neg];simp only[Bool.or_eq_true,Bool.not_eq_true',decide_eq_false_iff_not,Bool.and_eq_true,decide_eq_true_eq,not_or,Decidable.not_not];exact⟨⟨hd,hz⟩,hm⟩
theorem Qfa(h:ZV W z B g F D p){r:Rl}{sb sn sp:Value}(hmx:0<=r.mx/\r.mx<=999999999)(hst:¬(48<=r.stop/\r.stop<=57)):Calls Tryz.prog 98 #[.pointer (some ⟨g,0,none⟩),.agg (ruC r sb sn sp).toArray] W (NmE z g W (JM r.stop r.mx (D.drop p) false 0 p)):=by
 have H:=Q2 h;have hwd:=h.wd;have hp:=h.hp;have hD:=h.hD;obtain⟨name,kind,bs,size,big,mn,mx,stop,count,elem,names,parts⟩:=r;simp only[ruC] at hmx hst ⊢;obtain⟨RES,hres⟩:∃r,JM stop mx (D.drop p) false 0 p=r:=⟨_,rfl⟩;have HR0:=Q2 hres;rw[hres];clear h hres;obtain⟨Af,As,Ad,nn,nd,cf,cs,cd⟩:=z;go_enter Tryz.func98,Tryz.ntmps98;haveI:Pan (bodyPost Tryz.prog Tryz.f98 (NmE ⟨Af,As,Ad,nn,nd,cf,cs,cd⟩ g W RES)) (Qfw RES g W):=Pan.body fun ch w' ⟨x,h1,h2,h3⟩=>K4
 refine Qv (M:=[g]) (W:=W) (N:=83) (E:=[ZU,Qhd]) (O:=QcN) ?_ mc3 hwd;clear hwd;refine yq<|yr ?_;refine yB fun b3=>?_;refine yo zA<|yl<|yn<|yq<|Xb Q5 Q5 ?_;refine Q56 ?_;refine Qe (zB 1) ?_;refine Qe zA ?_;refine Q4o ?_;refine yn<|yb ?_;refine Xe (ι:=Nat×Int) (fun y=>p+y.1<=D.length/\RES=JM stop mx (D.drop (p+y.1)) (decide (0<y.1)) y.2 (p+y.1)/\0<=y.2/\y.2<=999999999) (fun y=>D.length - y.1) (fun y=>[ZU,QcF,(5,.int .i64 y.2),(6,.int .i64 (p:Int))]) (fun y=>[.blk b3 (.cells ([.string Qc7,.int .i64 kind,sb,.int .i64 size,.bool big,.int .i64 mn,.int .i64 mx,.int .i64 stop,.int .i64 count,.int .i64 elem,sn,sp]:List Value).toArray 65 (0,0)),.blk g (.cells ([.slice Af nn cf,.slice As nn cs,.slice Ad nd cd,.int .i64 ((p+y.1:Nat):Int)]:List Value).toArray 60 (0,0))]) (0,0) ⟨hp,HR0.out.symm,by decide,by decide⟩ mc1 Ju ?_;rintro⟨i,n⟩ ⟨hpi,hres,hn0,hn1⟩;have HRES:=Q2 hres;clear hres;simp only at hpi hn0 hn1;show sE _ _ _ _ _ [ZU,QcF,(5,.int .i64 n),(6,.int .i64 (p:Int))] Qp4 _;cases hc:D[p+i]? with
 |none=>
  have HE:=Q2 (show RES=some Q0E by rw[HRES.out];exact Qc0 hc);have HC:=Q2 hc;clear hc;refine yb<|yq<|yr<|yo zM ?_;exact Jn QqQ rfl Q1 Q0J
 |some c=>
  have hlt:p+i<D.length:=(List.getElem?_eq_some_iff.1 hc).1;have HC:=Q2 hc;have hcv:=Za c;have hct:=c.toNat_lt;clear hc;refine yb<|yq<|yr<|yo zM ?_;refine Q4 (Qg rfl rfl Q1 rfl rfl (fun w hw=>Q34 (H.out.next hw.k hpi Q0v) HC.out)) ?_;refine yo zA<|yl<|yn ?_;obtain⟨dg,hdg⟩:∃dg,decide (48<=c.toNat/\c.toNat<=57)=dg:=⟨_,rfl⟩;refine XU (ι:=Unit) QgG (fun _=>[ZU,QcF,(5,.int .i64 n),(6,.int .i64 (p:Int)),(7,.int .u8 (c.toNat:Int)),(8,.bool dg)]) (fun _=>Qp4) ?_ (fun _ _=>?_)
  ·by_cases h48:c.toNat<48
   ·obtain rfl:dg=false:=by rw[<- hdg];exact Qnd
    refine yr<|yo zM<|yo zhf<|yo zM<|yo zS<|yo zS<|yo zN<|yo zA<|yl ?_;exact QeT
   ·by_cases h57:c.toNat<=57
    ·obtain rfl:dg=true:=by rw[<- hdg];exact decide_eq_true Q3
     refine yr<|yo zM<|yo zht<|yo zM<|yo zM<|yo zqt<|yo zY<|yo zA<|yl ?_;exact QeT
    ·obtain rfl:dg=false:=by rw[<- hdg];exact Qnd
     refine yr<|yo zM<|yo zht<|yo zM<|yo zM<|yo zqf<|yo zY<|yo zA<|yl ?_;exact QeT
  ·by_cases hs:(c.toNat:Int)=stop
   ·have hq:((c.toNat:Int)==stop)=true:=beq_iff_eq.2 hs
    obtain rfl:dg=false:=by rw[<- hdg];exact Qnd
    by_cases hi:0<i
    ·have HE:=Q2 (show RES=some (.ok (n,p+i+1)) by rw[HRES.out];exact Q8j HC.out (decide_eq_true hi) hs);refine QrF ?_;refine yo zF<|yo (zB 1)<|yo zM<|yo zgt<|yo zY<|yo zA<|yl<|yn<|y1<|yq<|yr<|yo zM ?_;refine QkR ?_;refine yl<|yn<|yq<|yr<|yo zM<|yo zA<|yl<|yn<|yt<|yk<|yc<|yk<|yc<|yk ?_;exact Q8 mc4 rfl (.tmp rfl) (fun w hw=>⟨hw.k,.inr ⟨n,p+i+1,HE.out,rfl,hw.own 1 _ rfl⟩⟩)
    ·have HE:=Q2 (show RES=some Q0E by rw[HRES.out];exact Vg HC.out (fun h=>hi (of_decide_eq_true h.1)) (.inl Q3));refine QrF ?_;refine yo zF<|yo (zB 1)<|yo zM<|yo zgf<|yo zY<|yo zA<|yl<|yn<|y0<|yq<|yq<|yr<|yo zM<|yo zO<|yo zA<|yl<|yn<|y1<|ys<|yn<|y1<|yr<|yo zM ?_;refine QcM ?_;exact Q79
   ·have hq:((c.toNat:Int)==stop)=false:=beq_eq_false_iff_ne.2 hs
    cases dg with
    |false=>
     have hnd:¬(48<=c.toNat/\c.toNat<=57):=of_decide_eq_false hdg;have HE:=Q2 (show RES=some Q0E by rw[HRES.out];exact Vg HC.out (fun h=>hs h.2) (.inl hnd));refine yq<|yb<|yq<|yr<|yo zM ?_;refine Q4 Q2p ?_;refine yo zF<|yo (zB 0)<|yo zea<|yo zM<|yo zS<|yo zS<|yo zS<|yo zS<|yo zS<|yo zS<|yo zN<|yo zA<|yl<|yn<|y0<|yq<|yq<|yr<|yo zM<|yo zO<|yo zA<|yl<|yn<|y1<|ys<|yn<|y1<|yr<|yo zM ?_;refine QcM ?_;exact Q79
    |true=>
     have hdd:48<=c.toNat/\c.toNat<=57:=of_decide_eq_true hdg;have hsub:IntKind.u8.wrap ((c.toNat:Int) - 48)=(c.toNat:Int) - 48:=IntWalk.u8_in _ Q3;have hcv2:IntKind.i64.wrap ((c.toNat:Int) - 48)=(c.toNat:Int) - 48:=YP;by_cases hz:0<i/\n=0
     ·have HE:=Q2 (show RES=some Q0E by rw[HRES.out];exact Vg HC.out (fun h=>hs h.2) (.inr (.inl ⟨decide_eq_true hz.1,hz.2⟩)));obtain⟨hi,rfl⟩:=hz;refine Qud ?_;refine yo zF<|yo (zB 1)<|yo zM<|yo zgt<|yo zM<|yo zM<|yo zet<|yo zY<|yo zA<|yl<|yn<|y1<|ys<|yn<|y1<|yr<|yo zM ?_;refine QcM ?_;exact Q79
     ·by_cases hi:0<i
      ·have hne:(n==0)=false:=beq_eq_false_iff_ne.2 (fun h=>hz ⟨hi,h⟩)
       by_cases hm:mx<10*n+((c.toNat:Int) - 48)
       ·have HE:=Qti;refine Qud ?_;refine yo zF<|yo (zB 1)<|yo zM<|yo zgt<|yo zM<|yo zM<|yo zea<|yo zY<|yo zA<|yl<|yn<|y0<|yr<|yo zM ?_;refine Qn0 ?_;exact Q79
       ·have HN:=Q2 (show RES=JM stop mx (D.drop (p+(i+1))) (decide (0<i+1)) (10*n+((c.toNat:Int) - 48)) (p+(i+1)) by rw[HRES.out,Q15 HC.out (fun h=>hs h.2) hdd (fun h=>hz ⟨of_decide_eq_true h.1,h.2⟩) hm,show decide (0<i+1)=true from decide_eq_true Q3];rfl);refine yq<|yb<|yq<|yr<|yo zM ?_;refine Q4 Q2p ?_;refine yo zF<|yo (zB 0)<|yo zea<|yo zM<|yo zS<|yo zS<|yo zS<|yo zS<|yo zS<|yo zS<|yo zN<|yo zA<|yl<|yn<|y0<|yq<|yq<|yr<|yo zM<|yo zO<|yo zA<|yl<|yn<|y0<|yq<|yr<|yo zM ?_;refine Q4 mc5 ?_;refine yo zF<|yo (zB 1)<|yo zM<|yo zgt<|yo zM<|yo zM<|yo zea<|yo zY<|yo zA<|yl<|yn<|y0<|yr<|yo zM ?_;refine Q4 Q3q ?_;refine yo zM ?_;refine Q4 (Q4R (k:=.u8) rfl rfl Q1 rfl rfl rfl hsub) ?_;refine Q4 (Yu rfl rfl Q1 rfl rfl rfl Tryz.underlying3 hcv2) ?_;refine yo zP<|yo zF<|yo (zB 0)<|yo zgf<|yo zA<|yl<|yn<|y0<|ys<|yn<|yq<|yr<|yo zM ?_;refine Q4 Q3q ?_;refine yo zM ?_;refine Q4 (Q4R (k:=.u8) rfl rfl Q1 rfl rfl rfl hsub) ?_;refine Q4 (Yu rfl rfl Q1 rfl rfl rfl Tryz.underlying3 hcv2) ?_;refine yo zP<|yo zA<|yl<|yn<|yr<|yo zM ?_;refine Q4 mc5 ?_;refine yo zF<|yo (zB 1)<|yo zP ?_;refine Q4 mc5 ?_;refine yo zF ?_;refine yS 1 ?_;refine yl<|yd ?_;refine Qu (i+1,10*n+((c.toNat:Int) - 48)) ⟨hlt,HN.out,by show 0<=10*n+((c.toNat:Int) - 48);omega,by show 10*n+((c.toNat:Int) - 48)<=999999999;omega⟩ (by show D.length - (i+1)<D.length - i;omega) (.cons rfl rfl (.cons rfl rfl (.cons rfl rfl (.cons rfl rfl .nil)))) (fun w hw=>hw)
      ·skip
       by_cases hm:mx<10*n+((c.toNat:Int) - 48)
       ·have HE:=Qti;refine Qud ?_;refine yo zF<|yo (zB 1)<|yo zM<|yo zgf<|yo zM<|yo zS<|yo zS<|yo zN<|yo zA<|yl<|yn<|y0<|yr<|yo zM ?_;refine Qn0 ?_;exact Q79
       ·have HN:=Q2 (show RES=JM stop mx (D.drop (p+(i+1))) (decide (0<i+1)) (10*n+((c.toNat:Int) - 48)) (p+(i+1)) by rw[HRES.out,Q15 HC.out (fun h=>hs h.2) hdd (fun h=>hz ⟨of_decide_eq_true h.1,h.2⟩) hm,show decide (0<i+1)=true from decide_eq_true Q3];rfl);refine yq<|yb<|yq<|yr<|yo zM ?_;refine Q4 Q2p ?_;refine yo zF<|yo (zB 0)<|yo zea<|yo zM<|yo zS<|yo zS<|yo zS<|yo zS<|yo zS<|yo zS<|yo zN<|yo zA<|yl<|yn<|y0<|yq<|yq<|yr<|yo zM<|yo zO<|yo zA<|yl<|yn<|y0<|yq<|yr<|yo zM ?_;refine Q4 mc5 ?_;refine yo zF<|yo (zB 1)<|yo zM<|yo zgf<|yo zM<|yo zS<|yo zS<|yo zN<|yo zA<|yl<|yn<|y0<|yr<|yo zM ?_;refine Q4 Q3q ?_;refine yo zM ?_;refine Q4 (Q4R (k:=.u8) rfl rfl Q1 rfl rfl rfl hsub) ?_;refine Q4 (Yu rfl rfl Q1 rfl rfl rfl Tryz.underlying3 hcv2) ?_;refine yo zP<|yo zF<|yo (zB 0)<|yo zgf<|yo zA<|yl<|yn<|y0<|ys<|yn<|yq<|yr<|yo zM ?_;refine Q4 Q3q ?_;refine yo zM ?_;refine Q4 (Q4R (k:=.u8) rfl rfl Q1 rfl rfl rfl hsub) ?_;refine Q4 (Yu rfl rfl Q1 rfl rfl rfl Tryz.underlying3 hcv2) ?_;refine yo zP<|yo zA<|yl<|yn<|yr<|yo zM ?_;refine Q4 mc5 ?_;refine yo zF<|yo (zB 1)<|yo zP ?_;refine Q4 mc5 ?_;refine yo zF ?_;refine yS 1 ?_;refine yl<|yd ?_;refine Qu (i+1,10*n+((c.toNat:Int) - 48)) ⟨hlt,HN.out,by show 0<=10*n+((c.toNat:Int) - 48);omega,by show 10*n+((c.toNat:Int) - 48)<=999999999;omega⟩ (by show D.length - (i+1)<D.length - i;omega) (.cons rfl rfl (.cons rfl rfl (.cons rfl rfl (.cons rfl rfl .nil)))) (fun w hw=>hw)
end
end
end Go.Proofs.YtphkhfdmlcnoeaaGreatDoor
