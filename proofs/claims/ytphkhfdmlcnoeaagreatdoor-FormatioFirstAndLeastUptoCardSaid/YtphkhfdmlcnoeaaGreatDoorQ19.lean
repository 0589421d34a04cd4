import Derived.Test.YtphkhfdmlcnoeaaGreatDoorQ18
namespace Go.Proofs.YtphkhfdmlcnoeaaGreatDoor
set_option linter.unusedVariables false
set_option linter.unusedSimpArgs false
set_option maxRecDepth 1000000
set_option maxHeartbeats 32000000
open Go.RowKit
section
variable {A:Option Addr}{F:List Rl}{O:List Qf}{W w:World}{c n:Nat}
theorem XJ(c i:Int)(w:World):Calls Tryz.prog 91 #[.int .i64 c,.int .i64 i] w fun e w'=>e=.returned (.agg #[.int .i64 c,.int .i64 i])/\Below w.heap.size w w':=by
 go_enter Tryz.func91,Tryz.ntmps91;refine Qy (M:=[]) (W:=w) (N:=8) (E:=[(0,.int .i64 c),(1,.int .i64 i)]) (O:=[]) ?_ mc3 Q9X;repeat(first|refine Q4 zM ?_|refine yA (t:=32) fun b2=>?_|refine Q4 (X9 (xs:=[(0,.tmp 5),(1,.tmp 6)]) (vs:=[(0,.int .i64 c),(1,.int .i64 i)]) (v:=.agg #[.int .i64 c,.int .i64 i]) rfl rfl Q1 rfl rfl Q4a) ?_|refine yW 0 ?_|refine Qc ?_|refine Qa ?_|refine Q6 ?_|refine Qu ?_)
 exact Qb mc4 rfl Qgs QbQ
section
variable {P:Program}{ops:Array Oper}{C:World->Prop}{N:Nat}{E:Env}{o:Oper}{d:Nat}
theorem QnV{x y:Operand}{t t':TypeId}{a b c:Bool}(ht:P.underlying t=some .bool)(ho:o.op=.binOp .eql t x y t')(hd:o.dst=some d)(hN:d<N)(hw:Qm ops E o=some true)(hx:ev E x=some (.bool a))(hy:ev E y=some (.bool b))(hb:(a==b)=c):oE P ops C N E ((d,.bool c)::E) o:=
 Xl hd hN hw fun ρ w ha _=>by
  subst hb;simp [execOp,ho,ha.eval hx,ha.eval hy,run_eql_bool _ _ _ _ ht,go_sem]
end
def Qv2(W:World)(c:Int)(e:Ending)(w':World):Prop:=e=.returned (.int .i64 c)/\Below W.heap.size W w'
theorem Q5A{l:List Bool}{b:Nat}(hr:Rd W W.heap.size 1 (some ⟨b,0,none⟩) n (JL l))(hl:l.length=n)(hn:n<=1048576):
  Calls Tryz.prog 118 #[.slice (some ⟨b,0,none⟩) n c,.bool false] W (Qv2 W (Q6z l)):=by
 have HR:=Q3 hr;clear hr;go_enter Tryz.func118,Tryz.ntmps118;refine Qy (M:=[]) (W:=W) (N:=19) (E:=[(0,.slice (some ⟨b,0,none⟩) n c),(1,.bool false)]) (O:=[]) ?_ (Ag.cons (Ag.cons (Ag.nil rfl rfl) rfl) rfl) (Wd.start [] W);repeat(first|refine Q4 zM ?_|refine Q4 zA ?_|refine Qc ?_|refine Qa ?_|refine Q6 ?_|refine Qh ?_|refine Q4 zL ?_)
 refine Z0 (ι:=Nat) (fun k=>k<=n/\∀j,j<k->l.getD j false=true) (fun k=>n - k) (fun k=>[(0,.slice (some ⟨b,0,none⟩) n c),(1,.bool false),(7,.int .i64 (n:Int)),(8,.int .i64 (k:Int))]) (fun _=>[]) 0 [] Q1 ⟨Nat.zero_le _,fun j hj=>absurd hj (Nat.not_lt_zero _)⟩ (.cons rfl rfl (.cons rfl rfl (.cons rfl rfl (.cons rfl rfl .nil)))) rfl ?_;rintro k ⟨hk,hall⟩;have HA:=Q3 hall;clear hall;by_cases hkn:k<n
 ·obtain⟨v,hv⟩:∃v,l.getD k false=v:=⟨_,rfl⟩
  have hcell:W.cell? ⟨b,0+k,none⟩=some (.bool v):=by
   rw[<- hv];exact HR.out.cellAt Q2 (Q2D Q2)
  have HV:=Q3 hv;clear hv;cases v with
  |true=>
   repeat(first|refine Q4 zM ?_|refine Q4 zA ?_|refine Q4 zC ?_|refine Q4 (zi1 (hj:=hkn)) ?_|refine Q4 (QnV Tryz.underlying4 rfl rfl Q1 rfl rfl rfl rfl) ?_|refine Qc ?_|refine Qa ?_|refine Q6 ?_|refine Qp ?_|refine Q8 rfl ?_|refine Q7 rfl ?_|refine Qh ?_|refine Q4 (XZ rfl rfl Q1 rfl rfl rfl (by first|exact decide_eq_true Q2|rfl)) ?_|refine Q4 zP ?_)
   refine QT (k+1) [] Q1 ⟨hkn,fun j hj=>?_⟩ Q2 (.cons rfl rfl (.cons rfl rfl (.cons rfl rfl (.cons rfl (by go_num) .nil)))) rfl;rcases Nat.lt_or_ge j k with h|h
   ·exact HA.out j h
   ·obtain rfl:j=k:=by omega
    exact HV.out
  |false=>
   repeat(first|refine Q4 zM ?_|refine Q4 zA ?_|refine Q4 zC ?_|refine Q4 (zi1 (hj:=hkn)) ?_|refine Q4 (QnV Tryz.underlying4 rfl rfl Q1 rfl rfl rfl rfl) ?_|refine Qc ?_|refine Qa ?_|refine Q6 ?_|refine Qp ?_|refine Q8 rfl ?_|refine Qu ?_|refine Qh ?_|refine Qo ?_|refine Qt ?_|refine Q4 zlt ?_)
   refine Qb (by exact .inr rfl) rfl (.tmp rfl) (fun w hw=>⟨?_,hw.k.below⟩);unfold Q6z;rw[VA (k:=k) Q2 (by rw[HV.out];rfl) (fun j hj=>by rw[HA.out j hj];rfl)]
 ·skip
  repeat(first|refine Q4 zA ?_|refine Qc ?_|refine Qa ?_|refine Q6 ?_|refine Q7 rfl ?_|refine Xe ?_|refine Qu ?_|refine Q4 zlf ?_)
  refine Qb (by exact .inr rfl) rfl (.tmp rfl) (fun w hw=>⟨?_,hw.k.below⟩);unfold Q6z;rw[XK (fun j hj=>by rw[HA.out j Q2];rfl)]
theorem X3.take{B:Nat}{i:Nat}(h:X3 W B A n F)(hi:i<=n)(hc:n<=c):X3 W B (ZC A c 0 12) i (F.take i):=by
 refine⟨by rw[List.length_take,h.1];omega,fun h0=>?_⟩;obtain⟨b,o,rfl,hB,hr⟩:=h.2 Q2;refine⟨b,o,?_,hB,fun j r hj=>?_⟩
 ·rw[ZC,if_neg Q2,Option.map_some,Addr.add_mid,Nat.zero_mul,Nat.add_zero]
 ·rw[List.getElem?_take] at hj
  split at hj
  ·exact hr j r hj
  ·cases hj
theorem Q8B(hf:X3 W W.heap.size A n F)(hF:FOk F)(hn:n<=40)(hn0:0<n)(hw:Wd [] W O w):
  Calls Tryz.prog 119 #[.agg #[.slice A n c]] w (QN (fun b:Nat=>.slice (some ⟨b,0,none⟩) n n) (fun _=>True) [] W (fun b=>.rd (some ⟨b,0,none⟩) n 1 (JL (Jg F))::O)):=by
 refine(Qaf (hf.on hw.k.below) hF hn hn0).mono ?_;rintro e w' ⟨b,rfl,h1,h2,h3⟩;rw[V3,hf.1] at h2 ⊢;exact⟨b,rfl,trivial,hw.push h3 h2 Qqv⟩
theorem Q8F(hf:X3 W W.heap.size A n F)(hF:FOk F)(hn:n<=40)(hn0:0<n)(hw:Wd [] W O w):
  Calls Tryz.prog 55 #[.agg #[.slice A n c]] w (QN (fun y:Nat×Nat=>.slice (some ⟨y.1,0,none⟩) n y.2) (fun _=>True) [] W (fun y=>.rd (some ⟨y.1,0,none⟩) n 256 (X5 (Q07 F))::O)):=by
 refine(Qaw (hf.on hw.k.below) hF hn hn0).mono ?_;rintro e w' ⟨b,c',rfl,h1,h2,h3⟩;exact⟨(b,c'),rfl,trivial,hw.push h3 h2 Qqv⟩
def Qgo(W:World)(p:Int×Int)(e:Ending)(w':World):Prop:=e=.returned (.agg #[.int .i64 p.1,.int .i64 p.2])/\Below W.heap.size W w'
theorem YA{p:Int×Int}{a b:Int}(h:p=(a,b))(hw:Wd [] W O w):Qgo W p (.returned (.agg [.int .i64 a,.int .i64 b].toArray)) w:=⟨by rw[h],hw.k.below⟩
theorem Q3s{p:Nat->Prop}{k:Nat}(h:∀j,j<k->p j)(hk:p k):∀j,j<k+1->p j:=fun j hj=>by
 rcases Nat.lt_or_ge j k with h1|h1
 ·exact h j h1
 ·obtain rfl:j=k:=by omega
  exact hk
theorem Q72(F:List Rl):(Q07 F).length=F.length:=by
 unfold Q07;rw[YE,List.length_map]
theorem Q4M(hf:X3 W W.heap.size A n F)(hs:FSm F)(hc:n<=c):
  Calls Tryz.prog 89 #[.agg #[.slice A n c]] W (Qgo W (Xr F)):=by
 have hlen:F.length=n:=hf.1;have hsz:n<=1048576:=by rw[<- hlen];exact hs.1
 have HFM:=Q3 hf;have HS:=Q3 hs;have HLEN:=Q3 hlen;clear hf hs hlen;go_enter Tryz.func89,Tryz.ntmps89;refine Qy (M:=[]) (W:=W) (N:=100) (E:=[(0,.agg #[.slice A n c])]) (O:=[]) ?_ (Ag.cons (Ag.nil rfl rfl) rfl) (Wd.start [] W);by_cases h0:n=0
 ·skip
  repeat(first|refine Q4 zM ?_|refine Q4 zA ?_|refine Q4 zF ?_|refine Q4 (zB 1) ?_|refine yB fun bf=>?_|refine yA (t:=32) fun b2=>?_|refine Q4 (Qg (f:=91) rfl rfl Q1 rfl rfl (fun w hw=>XJ _ _ w)) ?_|refine yW 0 ?_|refine Qc ?_|refine Qa ?_|refine Q6 ?_|refine Q8 rfl ?_|refine Qu ?_|refine Qh ?_|refine Qo ?_|refine Qt ?_|refine Q4 zL ?_|refine Q4 zet ?_)
  exact Qb (by exact .inr rfl) rfl (RsV.blk 0 rfl rfl rfl) (fun w hw=>YA (Q9o (by rw[HLEN.out];exact h0)) hw)
 by_cases h40:40<n
 ·skip
  repeat(first|refine Q4 zM ?_|refine Q4 zA ?_|refine Q4 zF ?_|refine Q4 (zB 1) ?_|refine yB fun bf=>?_|refine yA (t:=32) fun b2=>?_|refine Q4 (Qg (f:=91) rfl rfl Q1 rfl rfl (fun w hw=>XJ _ _ w)) ?_|refine yW 0 ?_|refine Qc ?_|refine Qa ?_|refine Q6 ?_|refine Q8 rfl ?_|refine Q7 rfl ?_|refine Qu ?_|refine Qh ?_|refine Qo ?_|refine Qt ?_|refine Q4 zL ?_|refine Q4 (Kc rfl rfl Q1 rfl rfl rfl (by first|exact beq_eq_false_iff_ne.2 Q2|rfl)) ?_|refine Q4 zgt ?_)
  exact Qb (by exact .inr rfl) rfl (RsV.blk 0 rfl rfl rfl) (fun w hw=>YA (QbJ (by rw[HLEN.out];exact h40)) hw)
 have hn0:0<n:=by omega
 have hn40:n<=40:=by omega
 obtain⟨b,o,rfl⟩:=HFM.out.addr hn0;repeat(first|refine Q4 zM ?_|refine Q4 zA ?_|refine Q4 zF ?_|refine Q4 (zB 1) ?_|refine yB fun bf=>?_|refine yA (t:=32) fun b2=>?_|refine Qc ?_|refine Qa ?_|refine Q6 ?_|refine Qp ?_|refine Q7 rfl ?_|refine Qh ?_|refine Q4 zL ?_|refine Q4 (Kc rfl rfl Q1 rfl rfl rfl (by first|exact beq_eq_false_iff_ne.2 Q2|rfl)) ?_|refine Q4 zgf ?_)
 refine Z0 (ι:=Nat) (fun k=>k<=n/\∀j,j<k->J8 F j=0) (fun k=>n - k) (fun k=>[(1,.pointer (some ⟨bf,0,none⟩)),(2,.pointer (some ⟨b2,0,none⟩)),(3,.int .i64 (n:Int)),(27,.slice (some ⟨b,o,none⟩) n c),(28,.int .i64 (n:Int)),(29,.int .i64 (k:Int))]) (fun _=>[.blk b2 (.cells [.int .i64 0,.int .i64 0].toArray 32 (0,0)),.blk bf (.cells [.slice (some ⟨b,o,none⟩) n c].toArray 24 (0,0))]) 0 [0,1] Q1 ⟨Nat.zero_le _,fun j hj=>absurd hj (Nat.not_lt_zero _)⟩ (.cons rfl rfl (.cons rfl rfl (.cons rfl rfl (.cons rfl rfl (.cons rfl rfl (.cons rfl rfl .nil)))))) rfl ?_;rintro k ⟨hk,hall⟩;have HA:=Q3 hall;clear hall;by_cases hkn:k<n
 ·obtain⟨rk,Ab,cb,An,cn,Ap,cp,hrk,hrg,hlk⟩:=HFM.out.rl hkn;have HRK:=Q3 (show J8 F k=XM rk (F.take k) n by rw[Q4k hrk,HLEN.out]);have HLK:=Q3 hlk;have HSM:=Q3 (HS.out.2 rk (List.mem_of_getElem? hrk));clear hrk hlk
  have hkc:k<=c:=by omega
  by_cases hz:XM rk (F.take k) n=0
  ·have hzb:(XM rk (F.take k) n != 0)=false:=bne_eq_false_iff_eq.2 hz
   repeat(first|refine Q4 zM ?_|refine Q4 zA ?_|refine Q4 (zD 0) ?_|refine Q4 zE ?_|refine Q4 (zi (hj:=hkn)) ?_|refine yA (t:=65) fun b7=>?_|refine yW 0 ?_|refine Qc ?_|refine Qa ?_|refine Q6 ?_|refine Qp ?_|refine Q8 rfl ?_|refine Qh ?_|refine Q4 zlt ?_)
   repeat(first|refine Q9 zM ?_|refine Q9 zA ?_|refine Q9 zF ?_|refine Q9 (zB 2) ?_|refine Q9 (zD 0) ?_|refine Q9 (Kg rfl rfl Q1 rfl rfl rfl hkc) ?_|refine Q9 (Qg (f:=115) rfl rfl Q1 rfl rfl (fun w hw=>(Q01 ((HFM.out.on hw.k.below).take hk hc) (HLK.out.on hw.k.below) HSM.out Q2 hsz).mono (fun _ _ h=>h))) ?_|refine XV ?_|refine Xh Q5 Q5 ?_)
   repeat(first|refine Q4 zM ?_|refine Qc ?_|refine Qa ?_|refine Q6 ?_|refine Qp ?_|refine Q7 rfl ?_|refine Q4 zna ?_|refine Q4 zP ?_)
   exact QT (k+1) [1,2] Q1 ⟨hkn,Q3s HA.out (HRK.out.trans hz)⟩ Q2 (.cons rfl rfl (.cons rfl rfl (.cons rfl rfl (.cons rfl rfl (.cons rfl rfl (.cons rfl (by go_num) .nil)))))) rfl
  ·have hzb:(XM rk (F.take k) n != 0)=true:=bne_iff_ne.2 hz
   repeat(first|refine Q4 zM ?_|refine Q4 zA ?_|refine Q4 (zD 0) ?_|refine Q4 zE ?_|refine Q4 (zi (hj:=hkn)) ?_|refine yA (t:=65) fun b7=>?_|refine yW 0 ?_|refine Qc ?_|refine Qa ?_|refine Q6 ?_|refine Qp ?_|refine Q8 rfl ?_|refine Qh ?_|refine Q4 zlt ?_)
   repeat(first|refine Q9 zM ?_|refine Q9 zA ?_|refine Q9 zF ?_|refine Q9 (zB 2) ?_|refine Q9 (zD 0) ?_|refine Q9 (Kg rfl rfl Q1 rfl rfl rfl hkc) ?_|refine Q9 (Qg (f:=115) rfl rfl Q1 rfl rfl (fun w hw=>(Q01 ((HFM.out.on hw.k.below).take hk hc) (HLK.out.on hw.k.below) HSM.out Q2 hsz).mono (fun _ _ h=>h))) ?_|refine XV ?_|refine Xh Q5 Q5 ?_)
   repeat(first|refine Q4 zM ?_|refine Q4 (Qg (f:=91) rfl rfl Q1 rfl rfl (fun w hw=>XJ _ _ w)) ?_|refine yW 1 ?_|refine Qc ?_|refine Qa ?_|refine Q6 ?_|refine Q8 rfl ?_|refine Qu ?_|refine Qo ?_|refine Qt ?_|refine Q4 zna ?_)
   exact Qb (by exact .inr rfl) rfl (RsV.blk 1 rfl rfl rfl) (fun w hw=>YA ((QbL (by rw[HLEN.out];exact hn0) (by rw[HLEN.out];exact hn40) (by rw[HLEN.out];exact hkn) (by rw[HRK.out];exact hz) HA.out).trans (by rw[HRK.out])) hw)
 have HR:=Q3 (show ∀j,j<F.length->J8 F j=0 from fun j hj=>HA.out j (by rw[HLEN.out] at hj;omega));have HF:=Q3 (Ql7 HR.out);clear HA;repeat(first|refine Q4 zM ?_|refine Q4 zF ?_|refine Q4 (zB 1) ?_|refine Qc ?_|refine Qa ?_|refine Q6 ?_|refine Q7 rfl ?_|refine Xe ?_|refine Qh ?_|refine Q4 zL ?_|refine Q4 zlf ?_)
 refine Z0 (ι:=Nat) (fun k=>k<=n/\∀j,j<k->VW F j=0) (fun k=>n - k) (fun k=>[(1,.pointer (some ⟨bf,0,none⟩)),(2,.pointer (some ⟨b2,0,none⟩)),(48,.slice (some ⟨b,o,none⟩) n c),(49,.int .i64 (n:Int)),(50,.int .i64 (k:Int))]) (fun _=>[.blk b2 (.cells [.int .i64 0,.int .i64 0].toArray 32 (0,0)),.blk bf (.cells [.slice (some ⟨b,o,none⟩) n c].toArray 24 (0,0))]) 0 [0,1] Q1 ⟨Nat.zero_le _,fun j hj=>absurd hj (Nat.not_lt_zero _)⟩ (.cons rfl rfl (.cons rfl rfl (.cons rfl rfl (.cons rfl rfl (.cons rfl rfl .nil))))) rfl ?_;rintro k ⟨hk,hall⟩;have HA:=Q3 hall;clear hall;by_cases hkn:k<n
 ·obtain⟨rk,Ab,cb,An,cn,Ap,cp,hrk,hrg,hlk⟩:=HFM.out.rl hkn;have HRK:=Q3 (show VW F k=K9 F rk from Q2x hrk);have HLK:=Q3 hlk;have HSM:=Q3 (HS.out.2 rk (List.mem_of_getElem? hrk));have HOK:=Q3 (show ROk n rk by have:=HF.out k rk hrk;rwa [HLEN.out] at this);clear hrk hlk
  by_cases hz:K9 F rk=0
  ·have hzb:(K9 F rk != 0)=false:=bne_eq_false_iff_eq.2 hz
   repeat(first|refine Q4 zM ?_|refine Q4 zA ?_|refine Q4 (zD 0) ?_|refine Q4 (zD 2) ?_|refine Q4 zE ?_|refine Q4 (zi (hj:=hkn)) ?_|refine yA (t:=65) fun b7=>?_|refine yW 0 ?_|refine Q4 (Qg (f:=116) rfl rfl Q1 rfl rfl (fun w hw=>(Q0w (HFM.out.on hw.k.below) (HLK.out.on hw.k.below) HSM.out (QoC HOK.out)).mono (fun _ _ h=>h))) ?_|refine Qc ?_|refine Qa ?_|refine Q6 ?_|refine Qp ?_|refine Q8 rfl ?_|refine Q7 rfl ?_|refine Qh ?_|refine Q4 zna ?_|refine Q4 (XZ rfl rfl Q1 rfl rfl rfl (by first|exact decide_eq_true Q2|rfl)) ?_|refine Q4 zP ?_)
   exact QT (k+1) [1,2] Q1 ⟨hkn,Q3s HA.out (HRK.out.trans hz)⟩ Q2 (.cons rfl rfl (.cons rfl rfl (.cons rfl rfl (.cons rfl rfl (.cons rfl (by go_num) .nil))))) rfl
  ·have hzb:(K9 F rk != 0)=true:=bne_iff_ne.2 hz
   repeat(first|refine Q4 zM ?_|refine Q4 zA ?_|refine Q4 (zD 0) ?_|refine Q4 (zD 2) ?_|refine Q4 zE ?_|refine Q4 (zi (hj:=hkn)) ?_|refine yA (t:=65) fun b7=>?_|refine yW 0 ?_|refine Q4 (Qg (f:=116) rfl rfl Q1 rfl rfl (fun w hw=>(Q0w (HFM.out.on hw.k.below) (HLK.out.on hw.k.below) HSM.out (QoC HOK.out)).mono (fun _ _ h=>h))) ?_|refine Q4 (Qg (f:=91) rfl rfl Q1 rfl rfl (fun w hw=>XJ _ _ w)) ?_|refine yW 1 ?_|refine Qc ?_|refine Qa ?_|refine Q6 ?_|refine Qp ?_|refine Q8 rfl ?_|refine Qu ?_|refine Qh ?_|refine Qo ?_|refine Qt ?_|refine Q4 zna ?_|refine Q4 zlt ?_)
   exact Qb (by exact .inr rfl) rfl (RsV.blk 1 rfl rfl rfl) (fun w hw=>YA ((Qe4 (by rw[HLEN.out];exact hn0) (by rw[HLEN.out];exact hn40) HR.out (by rw[HLEN.out];exact hkn) (by rw[HRK.out];exact hz) HA.out).trans (by rw[HRK.out])) hw)
 have HU:=Q3 (show ∀j,j<F.length->VW F j=0 from fun j hj=>HA.out j (by rw[HLEN.out] at hj;omega));clear HA;repeat(first|refine Q4 zM ?_|refine Q4 zF ?_|refine Q4 (zB 1) ?_|refine Qc ?_|refine Qa ?_|refine Q6 ?_|refine Q7 rfl ?_|refine Xe ?_|refine Qh ?_|refine Q4 zL ?_|refine Q4 zlf ?_)
 refine Z0 (ι:=Nat) (fun k=>k<=n/\∀j,j<k->Q31 F j=false) (fun k=>n - k) (fun k=>[(1,.pointer (some ⟨bf,0,none⟩)),(2,.pointer (some ⟨b2,0,none⟩)),(66,.int .i64 (n:Int)),(67,.int .i64 (k:Int))]) (fun _=>[.blk b2 (.cells [.int .i64 0,.int .i64 0].toArray 32 (0,0)),.blk bf (.cells [.slice (some ⟨b,o,none⟩) n c].toArray 24 (0,0))]) 0 [0,1] Q1 ⟨Nat.zero_le _,fun j hj=>absurd hj (Nat.not_lt_zero _)⟩ (.cons rfl rfl (.cons rfl rfl (.cons rfl rfl (.cons rfl rfl .nil)))) rfl ?_;rintro k ⟨hk,hall⟩;have HA:=Q3 hall;clear hall;by_cases hkn:k<n
 ·obtain⟨cy,hcy⟩:∃cy,Q31 F k=cy:=⟨_,rfl⟩;have HCY:=Q3 hcy;clear hcy
  cases cy with
  |false=>
   repeat(first|refine Q4 zM ?_|refine Q4 zA ?_|refine Q4 (zD 0) ?_|refine Q4 (zD 1) ?_|(refine Q4 (Qg (f:=117) rfl rfl Q1 rfl rfl (fun w hw=>(Q2U (HFM.out.on hw.k.below) HF.out hn40 hkn).mono (fun _ _ h=>h))) ?_;rw[HCY.out])|refine Qc ?_|refine Qa ?_|refine Q6 ?_|refine Qp ?_|refine Q8 rfl ?_|refine Q7 rfl ?_|refine Qh ?_|refine Q4 (XZ rfl rfl Q1 rfl rfl rfl (by first|exact decide_eq_true Q2|rfl)) ?_|refine Q4 zP ?_)
   exact QT (k+1) [0,1] Q1 ⟨hkn,Q3s HA.out HCY.out⟩ Q2 (.cons rfl rfl (.cons rfl rfl (.cons rfl rfl (.cons rfl (by go_num) .nil)))) rfl
  |true=>
   repeat(first|refine Q4 zM ?_|refine Q4 zA ?_|refine Q4 (zD 0) ?_|refine Q4 (zD 1) ?_|(refine Q4 (Qg (f:=117) rfl rfl Q1 rfl rfl (fun w hw=>(Q2U (HFM.out.on hw.k.below) HF.out hn40 hkn).mono (fun _ _ h=>h))) ?_;rw[HCY.out])|refine Q4 (Qg (f:=91) rfl rfl Q1 rfl rfl (fun w hw=>XJ _ _ w)) ?_|refine yW 0 ?_|refine Qc ?_|refine Qa ?_|refine Q6 ?_|refine Qp ?_|refine Q8 rfl ?_|refine Qu ?_|refine Qh ?_|refine Qo ?_|refine Qt ?_|refine Q4 zlt ?_)
   exact Qb (by exact .inr rfl) rfl (RsV.blk 0 rfl rfl rfl) (fun w hw=>YA (QdY (by rw[HLEN.out];exact hn0) (by rw[HLEN.out];exact hn40) HR.out HU.out (by rw[HLEN.out];exact hkn) HCY.out HA.out) hw)
 have HT:=Q3 (Qd5 (by rw[HLEN.out];exact hn0) (by rw[HLEN.out];exact hn40) HR.out HU.out (fun j hj=>HA.out j (by rw[HLEN.out] at hj;omega)));clear HA;by_cases hfi:0<=Q6z (Jg F)
 ·skip
  repeat(first|refine Q4 zM ?_|refine Q4 zA ?_|refine Q4 (zD 0) ?_|refine Q4 (zD 1) ?_|refine Qd (QC _ _ _ (f:=119) rfl rfl rfl (fun w hw=>Q8B HFM.out HF.out hn40 hn0 hw)) rfl Q1 (fun bz _=>?_)|refine Q4 (Qg (f:=118) rfl rfl Q1 rfl rfl (fun w hw=>(Q5A (hw.own 0 _ rfl) ((V3 F).trans HLEN.out) hsz).mono (fun _ _ h=>h))) ?_|refine Q4 (Qg (f:=91) rfl rfl Q1 rfl rfl (fun w hw=>XJ _ _ w)) ?_|refine yW 1 ?_|refine Qc ?_|refine Qa ?_|refine Q6 ?_|refine Q8 rfl ?_|refine Q7 rfl ?_|refine Xe ?_|refine Qu ?_|refine Qo ?_|refine Q4 (XZ rfl rfl Q1 rfl rfl rfl (by first|exact decide_eq_false Q2|rfl)) ?_|refine Q4 zht ?_)
  exact Qb (by exact .inr rfl) rfl (RsV.blk 1 rfl rfl rfl) (fun w hw=>YA (HT.out.trans (Qe6 (V3 F) hfi)) hw)
 repeat(first|refine Q4 zM ?_|refine Q4 zA ?_|refine Q4 zF ?_|refine Q4 (zB 3) ?_|refine Q4 (zD 0) ?_|refine Q4 (zD 1) ?_|refine Q4 (zD 2) ?_|refine Qd (QC _ _ _ (f:=119) rfl rfl rfl (fun w hw=>Q8B HFM.out HF.out hn40 hn0 hw)) rfl Q1 (fun bz _=>?_)|refine Q4 (Qg (f:=118) rfl rfl Q1 rfl rfl (fun w hw=>(Q5A (hw.own 0 _ rfl) ((V3 F).trans HLEN.out) hsz).mono (fun _ _ h=>h))) ?_|refine Qd (QC _ _ _ (f:=55) rfl rfl rfl (fun w hw=>Q8F HFM.out HF.out hn40 hn0 hw)) rfl Q1 (fun y _=>?_)|refine Qc ?_|refine Qa ?_|refine Q6 ?_|refine Qp ?_|refine Q7 rfl ?_|refine Xe ?_|refine Qh ?_|refine Q4 zL ?_|refine Q4 (XZ rfl rfl Q1 rfl rfl rfl (by first|exact decide_eq_false Q2|rfl)) ?_|refine Q4 zhf ?_)
 obtain⟨bs,cs⟩:=y;refine Z0 (ι:=Nat) (fun k=>k<=n/\∀j,j<k->Jy F j=false) (fun k=>n - k) (fun k=>[(1,.pointer (some ⟨bf,0,none⟩)),(2,.pointer (some ⟨b2,0,none⟩)),(12,.slice (some ⟨bs,0,none⟩) n cs),(86,.slice (some ⟨b,o,none⟩) n c),(87,.int .i64 (n:Int)),(88,.int .i64 (k:Int))]) (fun _=>[.rd (some ⟨bs,0,none⟩) n 256 (X5 (Q07 F)),.blk b2 (.cells [.int .i64 0,.int .i64 0].toArray 32 (0,0)),.blk bf (.cells [.slice (some ⟨b,o,none⟩) n c].toArray 24 (0,0))]) 0 [0,2,3] Q1 ⟨Nat.zero_le _,fun j hj=>absurd hj (Nat.not_lt_zero _)⟩ (.cons rfl rfl (.cons rfl rfl (.cons rfl rfl (.cons rfl rfl (.cons rfl rfl (.cons rfl rfl .nil)))))) rfl ?_;rintro k ⟨hk,hall⟩;have HA:=Q3 hall;clear hall;by_cases hkn:k<n
 ·obtain⟨rk,Ab,cb,An,cn,Ap,cp,hrk,hrg,hlk⟩:=HFM.out.rl hkn;have HLK:=Q3 hlk;have HOK:=Q3 (show ROk n rk by have:=HF.out k rk hrk;rwa [HLEN.out] at this);obtain⟨cf,hcf⟩:∃cf,KD (Q07 F) rk=cf:=⟨_,rfl⟩;have HCF:=Q3 hcf;have HRK:=Q3 (show Jy F k=cf from (QdP hrk).trans hcf);clear hrk hlk hcf
  cases cf with
  |false=>
   repeat(first|refine Q4 zM ?_|refine Q4 zA ?_|refine Q4 (zD 0) ?_|refine Q4 (zD 1) ?_|refine Q4 zE ?_|refine Q4 (zi (hj:=hkn)) ?_|refine yA (t:=65) fun b7=>?_|refine yW 0 ?_|(refine Q4 (Qg (f:=120) rfl rfl Q1 rfl rfl (fun w hw=>(Q0x (HLK.out.on hw.k.below) HOK.out ((Q72 F).trans HLEN.out) (hw.own 1 _ rfl)).mono (fun _ _ h=>h))) ?_;rw[HCF.out])|refine Qc ?_|refine Qa ?_|refine Q6 ?_|refine Qp ?_|refine Q8 rfl ?_|refine Q7 rfl ?_|refine Qh ?_|refine Q4 (XZ rfl rfl Q1 rfl rfl rfl (by first|exact decide_eq_true Q2|rfl)) ?_|refine Q4 zP ?_)
   exact QT (k+1) [1,2,3] Q1 ⟨hkn,Q3s HA.out HRK.out⟩ Q2 (.cons rfl rfl (.cons rfl rfl (.cons rfl rfl (.cons rfl rfl (.cons rfl rfl (.cons rfl (by go_num) .nil)))))) rfl
  |true=>
   repeat(first|refine Q4 zM ?_|refine Q4 zA ?_|refine Q4 (zD 0) ?_|refine Q4 (zD 1) ?_|refine Q4 zE ?_|refine Q4 (zi (hj:=hkn)) ?_|refine yA (t:=65) fun b7=>?_|refine yW 0 ?_|(refine Q4 (Qg (f:=120) rfl rfl Q1 rfl rfl (fun w hw=>(Q0x (HLK.out.on hw.k.below) HOK.out ((Q72 F).trans HLEN.out) (hw.own 1 _ rfl)).mono (fun _ _ h=>h))) ?_;rw[HCF.out])|refine Q4 (Qg (f:=91) rfl rfl Q1 rfl rfl (fun w hw=>XJ _ _ w)) ?_|refine yW 2 ?_|refine Qc ?_|refine Qa ?_|refine Q6 ?_|refine Qp ?_|refine Q8 rfl ?_|refine Qu ?_|refine Qh ?_|refine Qo ?_|refine Qt ?_|refine Q4 zlt ?_)
   exact Qb (by exact .inr rfl) rfl (RsV.blk 2 rfl rfl rfl) (fun w hw=>YA (HT.out.trans (QaI (V3 F) hfi (by rw[HLEN.out];exact hkn) HRK.out HA.out)) hw)
 ·skip
  repeat(first|refine Q4 (X9 (xs:=[]) (vs:=[]) (v:=.agg #[.int .i64 0,.int .i64 0]) rfl rfl Q1 rfl rfl (fun w=>run_build w _ _ _ Q5)) ?_|refine yW 1 ?_|refine Qc ?_|refine Qa ?_|refine Q6 ?_|refine Q7 rfl ?_|refine Xe ?_|refine Qu ?_|refine Q4 zlf ?_)
  exact Qb (by exact .inr rfl) rfl (RsV.blk 1 rfl rfl rfl) (fun w hw=>YA (HT.out.trans (QiN (V3 F) hfi (fun j hj=>HA.out j (by rw[HLEN.out] at hj;omega)))) hw)
end
end Go.Proofs.YtphkhfdmlcnoeaaGreatDoor
