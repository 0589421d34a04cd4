import Derived.Test.YtgdiadednlajgaaGreatDoorP21
import Derived.Test.YtgdiadednlajgaaGreatDoorP28
namespace Go.Proofs.YtgdiadednlajgaaGreatDoor
set_option linter.unusedVariables false
set_option linter.unusedSimpArgs false
open Go.RowKit
theorem XK(c i:Int)(w:World):Calls Tryz.prog 39 #[.int .i64 c,.int .i64 i] w fun e w'=>e=.returned (.agg #[.int .i64 c,.int .i64 i])∧Below w.heap.size w w':=by
 go_enter Tryz.func39,Tryz.ntmps39
 refine QE (M:=[]) (W:=w) (N:=8) (E:=[(0,.int .i64 c),(1,.int .i64 i)]) (O:=[]) ?_ (Ag.cons (Ag.cons (Ag.nil rfl rfl) rfl) rfl) (Wd.start [] w)
 repeat(first|refine Q1 zM ?_|refine yA (t:=27) fun b2=>?_|refine Q1 (QZ (xs:=[(0,.tmp 5),(1,.tmp 6)]) (vs:=[(0,.int .i64 c),(1,.int .i64 i)]) (v:=.agg #[.int .i64 c,.int .i64 i]) rfl rfl (by decide) rfl rfl (fun w=>run_build w _ _ _ (by kernel_rfl))) ?_|refine yW 0 ?_|refine Q8 ?_|refine Q6 ?_|refine Q2 ?_|refine Ql ?_)
 exact Q9 (by exact .inr rfl) rfl (RsV.blk 0 rfl rfl rfl) (fun w hw=>⟨rfl,hw.k.below⟩)
section
variable {P:Program}{ops:Array Oper}{C:World→Prop}{N:Nat}{E:Env}{o:Oper}{d:Nat}
theorem Qbx{x y:Operand}{t t':TypeId}{a b c:Bool}(ht:P.underlying t=some .bool)(ho:o.op=.binOp .eql t x y t')(hd:o.dst=some d)(hN:d<N)(hw:Qm ops E o=some true)(hx:ev E x=some (.bool a))(hy:ev E y=some (.bool b))(hb:(a==b)=c):oE P ops C N E ((d,.bool c)::E) o:=
 XL hd hN hw fun ρ w ha _=>by
  subst hb
  simp [execOp,ho,ha.eval hx,ha.eval hy,run_eql_bool _ _ _ _ ht,go_sem]
end
def Qf3(W:World)(c:Int)(e:Ending)(w':World):Prop:=e=.returned (.int .i64 c)∧Below W.heap.size W w'
set_option maxRecDepth 100000 in
set_option maxHeartbeats 4000000 in
theorem Q2X{l:List Bool}{b n c:Nat}{W:World}(hr:Rd W W.heap.size 1 (some ⟨b,0,none⟩) n (XR l))(hl:l.length=n)(hn:n≤1048576):
  Calls Tryz.prog 61 #[.slice (some ⟨b,0,none⟩) n c,.bool false] W (Qf3 W (Q1G l)):=by
 have HR:=Lib.hid hr;clear hr
 go_enter Tryz.func61,Tryz.ntmps61
 refine QE (M:=[]) (W:=W) (N:=19) (E:=[(0,.slice (some ⟨b,0,none⟩) n c),(1,.bool false)]) (O:=[]) ?_ (Ag.cons (Ag.cons (Ag.nil rfl rfl) rfl) rfl) (Wd.start [] W)
 repeat(first|refine Q1 zM ?_|refine Q1 zA ?_|refine Q8 ?_|refine Q6 ?_|refine Q2 ?_|refine Qe ?_|refine Q1 zL ?_)
 refine X0 (ι:=Nat) (fun k=>k≤n∧∀j,j<k→l.getD j false=true) (fun k=>n - k) (fun k=>[(0,.slice (some ⟨b,0,none⟩) n c),(1,.bool false),(7,.int .i64 (n:Int)),(8,.int .i64 (k:Int))]) (fun _=>[]) 0 [] (by decide) ⟨Nat.zero_le _,fun j hj=>absurd hj (Nat.not_lt_zero _)⟩ (.cons rfl rfl (.cons rfl rfl (.cons rfl rfl (.cons rfl rfl .nil)))) rfl ?_
 rintro k ⟨hk,hall⟩
 have HA:=Lib.hid hall;clear hall
 by_cases hkn:k<n
 ·obtain⟨v,hv⟩:∃v,l.getD k false=v:=⟨_,rfl⟩
  have hcell:W.cell? ⟨b,0+k,none⟩=some (.bool v):=by
   rw[← hv];exact HR.out.cellAt (by omega) (Vu (by omega))
  have HV:=Lib.hid hv;clear hv
  cases v with
  |true=>
   repeat(first|refine Q1 zM ?_|refine Q1 zA ?_|refine Q1 zC ?_|refine Q1 (zi1 (hj:=hkn)) ?_|refine Q1 (Qbx Tryz.underlying4 rfl rfl (by decide) rfl rfl rfl rfl) ?_|refine Q8 ?_|refine Q6 ?_|refine Q2 ?_|refine Qh ?_|refine Q5 rfl ?_|refine Q3 rfl ?_|refine Qe ?_|refine Q1 (Xu rfl rfl (by decide) rfl rfl rfl (by first|exact decide_eq_true (by omega)|rfl)) ?_|refine Q1 zP ?_)
   refine QA (k+1) [] (by decide) ⟨hkn,fun j hj=>?_⟩ (by omega) (.cons rfl rfl (.cons rfl rfl (.cons rfl rfl (.cons rfl (by go_num) .nil)))) rfl
   rcases Nat.lt_or_ge j k with h|h
   ·exact HA.out j h
   ·obtain rfl:j=k:=by omega
    exact HV.out
  |false=>
   repeat(first|refine Q1 zM ?_|refine Q1 zA ?_|refine Q1 zC ?_|refine Q1 (zi1 (hj:=hkn)) ?_|refine Q1 (Qbx Tryz.underlying4 rfl rfl (by decide) rfl rfl rfl rfl) ?_|refine Q8 ?_|refine Q6 ?_|refine Q2 ?_|refine Qh ?_|refine Q5 rfl ?_|refine Ql ?_|refine Qe ?_|refine Qc ?_|refine Qf ?_|refine Q1 zlt ?_)
   refine Q9 (by exact .inr rfl) rfl (.tmp rfl) (fun w hw=>⟨?_,hw.k.below⟩)
   unfold Q1G
   rw[JL (k:=k) (by omega) (by rw[HV.out];rfl) (fun j hj=>by rw[HA.out j hj];rfl)]
 ·skip
  repeat(first|refine Q1 zA ?_|refine Q8 ?_|refine Q6 ?_|refine Q2 ?_|refine Q3 rfl ?_|refine QX ?_|refine Ql ?_|refine Q1 zlf ?_)
  refine Q9 (by exact .inr rfl) rfl (.tmp rfl) (fun w hw=>⟨?_,hw.k.below⟩)
  unfold Q1G
  rw[Xy (fun j hj=>by rw[HA.out j (by omega)];rfl)]
theorem Xq.take{W:World}{B:Nat}{A:Option Addr}{n c i:Nat}{F:List Rl}(h:Xq W B A n F)(hi:i≤n)(hc:n≤c):Xq W B (Zj A c 0 12) i (F.take i):=by
 refine⟨by rw[List.length_take,h.1];omega,fun h0=>?_⟩;obtain⟨b,o,rfl,hB,hr⟩:=h.2 (by omega);refine⟨b,o,?_,hB,fun j r hj=>?_⟩
 ·rw[Zj,if_neg (by omega),Option.map_some,Addr.add_mid,Nat.zero_mul,Nat.add_zero]
 ·rw[List.getElem?_take] at hj
  split at hj
  ·exact hr j r hj
  ·cases hj
theorem Q4V{F:List Rl}{A:Option Addr}{n c:Nat}{W w:World}{O:List Qg}(hf:Xq W W.heap.size A n F)(hF:FOk F)(hn:n≤40)(hn0:0<n)(hw:Wd [] W O w):
  Calls Tryz.prog 62 #[.agg #[.slice A n c]] w (QW (fun b:Nat=>.slice (some ⟨b,0,none⟩) n n) (fun _=>True) [] W (fun b=>.rd (some ⟨b,0,none⟩) n 1 (XR (ZC F))::O)):=by
 refine(Q5E (hf.on hw.k.below) hF hn hn0).mono ?_
 rintro e w' ⟨b,rfl,h1,h2,h3⟩
 rw[Jc,hf.1] at h2 ⊢;exact⟨b,rfl,trivial,hw.push h3 h2 (fun b' hb'=>by simp only[Qg.foot] at hb';rw[if_neg (by omega)] at hb';cases hb';exact h1)⟩
theorem Q4y{F:List Rl}{A:Option Addr}{n c:Nat}{W w:World}{O:List Qg}(hf:Xq W W.heap.size A n F)(hF:FOk F)(hn:n≤40)(hn0:0<n)(hw:Wd [] W O w):
  Calls Tryz.prog 32 #[.agg #[.slice A n c]] w (QW (fun y:Nat×Nat=>.slice (some ⟨y.1,0,none⟩) n y.2) (fun _=>True) [] W (fun y=>.rd (some ⟨y.1,0,none⟩) n 256 (Xk (JS F))::O)):=by
 refine(Q5D (hf.on hw.k.below) hF hn hn0).mono ?_
 rintro e w' ⟨b,c',rfl,h1,h2,h3⟩
 exact⟨(b,c'),rfl,trivial,hw.push h3 h2 (fun b' hb'=>by simp only[Qg.foot] at hb';rw[if_neg (by omega)] at hb';cases hb';exact h1)⟩
def Q7v(W:World)(p:Int×Int)(e:Ending)(w':World):Prop:=e=.returned (.agg #[.int .i64 p.1,.int .i64 p.2])∧Below W.heap.size W w'
theorem ZY{W w:World}{p:Int×Int}{a b:Int}{O:List Qg}(h:p=(a,b))(hw:Wd [] W O w):Q7v W p (.returned (.agg [.int .i64 a,.int .i64 b].toArray)) w:=⟨by rw[h],hw.k.below⟩
theorem V0{p:Nat→Prop}{k:Nat}(h:∀j,j<k→p j)(hk:p k):∀j,j<k+1→p j:=fun j hj=>by
 rcases Nat.lt_or_ge j k with h1|h1
 ·exact h j h1
 ·obtain rfl:j=k:=by omega
  exact hk
theorem Q19(F:List Rl):(JS F).length=F.length:=by
 unfold JS
 rw[Yk,List.length_map]
set_option maxRecDepth 100000 in
set_option maxHeartbeats 16000000 in
theorem Q2l{F:List Rl}{A:Option Addr}{n c:Nat}{W:World}(hf:Xq W W.heap.size A n F)(hs:FSm F)(hc:n≤c):
  Calls Tryz.prog 37 #[.agg #[.slice A n c]] W (Q7v W (Xb F)):=by
 have hlen:F.length=n:=hf.1
 have hsz:n≤1048576:=by rw[← hlen];exact hs.1
 have HFM:=Lib.hid hf;have HS:=Lib.hid hs;have HLEN:=Lib.hid hlen;clear hf hs hlen
 go_enter Tryz.func37,Tryz.ntmps37
 refine QE (M:=[]) (W:=W) (N:=100) (E:=[(0,.agg #[.slice A n c])]) (O:=[]) ?_ (Ag.cons (Ag.nil rfl rfl) rfl) (Wd.start [] W)
 by_cases h0:n=0
 ·skip
  repeat(first|refine Q1 zM ?_|refine Q1 zA ?_|refine Q1 zF ?_|refine Q1 (zB 1) ?_|refine yB fun bf=>?_|refine yA (t:=27) fun b2=>?_|refine Q1 (Q4 (f:=39) rfl rfl (by decide) rfl rfl (fun w hw=>XK _ _ w)) ?_|refine yW 0 ?_|refine Q8 ?_|refine Q6 ?_|refine Q2 ?_|refine Q5 rfl ?_|refine Ql ?_|refine Qe ?_|refine Qc ?_|refine Qf ?_|refine Q1 zL ?_|refine Q1 zet ?_)
  exact Q9 (by exact .inr rfl) rfl (RsV.blk 0 rfl rfl rfl) (fun w hw=>ZY (Q12 (by rw[HLEN.out];exact h0)) hw)
 by_cases h40:40<n
 ·skip
  repeat(first|refine Q1 zM ?_|refine Q1 zA ?_|refine Q1 zF ?_|refine Q1 (zB 1) ?_|refine yB fun bf=>?_|refine yA (t:=27) fun b2=>?_|refine Q1 (Q4 (f:=39) rfl rfl (by decide) rfl rfl (fun w hw=>XK _ _ w)) ?_|refine yW 0 ?_|refine Q8 ?_|refine Q6 ?_|refine Q2 ?_|refine Q5 rfl ?_|refine Q3 rfl ?_|refine Ql ?_|refine Qe ?_|refine Qc ?_|refine Qf ?_|refine Q1 zL ?_|refine Q1 (XB rfl rfl (by decide) rfl rfl rfl (by first|exact beq_eq_false_iff_ne.2 (by omega)|rfl)) ?_|refine Q1 zgt ?_)
  exact Q9 (by exact .inr rfl) rfl (RsV.blk 0 rfl rfl rfl) (fun w hw=>ZY (Q2f (by rw[HLEN.out];exact h40)) hw)
 have hn0:0<n:=by omega
 have hn40:n≤40:=by omega
 obtain⟨b,o,rfl⟩:=HFM.out.addr hn0
 repeat(first|refine Q1 zM ?_|refine Q1 zA ?_|refine Q1 zF ?_|refine Q1 (zB 1) ?_|refine yB fun bf=>?_|refine yA (t:=27) fun b2=>?_|refine Q8 ?_|refine Q6 ?_|refine Q2 ?_|refine Qh ?_|refine Q3 rfl ?_|refine Qe ?_|refine Q1 zL ?_|refine Q1 (XB rfl rfl (by decide) rfl rfl rfl (by first|exact beq_eq_false_iff_ne.2 (by omega)|rfl)) ?_|refine Q1 zgf ?_)
 refine X0 (ι:=Nat) (fun k=>k≤n∧∀j,j<k→Zt F j=0) (fun k=>n - k) (fun k=>[(1,.pointer (some ⟨bf,0,none⟩)),(2,.pointer (some ⟨b2,0,none⟩)),(3,.int .i64 (n:Int)),(27,.slice (some ⟨b,o,none⟩) n c),(28,.int .i64 (n:Int)),(29,.int .i64 (k:Int))]) (fun _=>[.blk b2 (.cells [.int .i64 0,.int .i64 0].toArray 27 (0,0)),.blk bf (.cells [.slice (some ⟨b,o,none⟩) n c].toArray 24 (0,0))]) 0 [0,1] (by decide) ⟨Nat.zero_le _,fun j hj=>absurd hj (Nat.not_lt_zero _)⟩ (.cons rfl rfl (.cons rfl rfl (.cons rfl rfl (.cons rfl rfl (.cons rfl rfl (.cons rfl rfl .nil)))))) rfl ?_
 rintro k ⟨hk,hall⟩
 have HA:=Lib.hid hall;clear hall
 by_cases hkn:k<n
 ·obtain⟨rk,Ab,cb,An,cn,Ap,cp,hrk,hrg,hlk⟩:=HFM.out.rl hkn;have HRK:=Lib.hid (show Zt F k=X5 rk (F.take k) n by rw[VT hrk,HLEN.out]);have HLK:=Lib.hid hlk;have HSM:=Lib.hid (HS.out.2 rk (List.mem_of_getElem? hrk));clear hrk hlk
  have hkc:k≤c:=by omega
  by_cases hz:X5 rk (F.take k) n=0
  ·have hzb:(X5 rk (F.take k) n != 0)=false:=bne_eq_false_iff_eq.2 hz
   repeat(first|refine Q1 zM ?_|refine Q1 zA ?_|refine Q1 (zD 0) ?_|refine Q1 zE ?_|refine Q1 (zi (hj:=hkn)) ?_|refine yA (t:=52) fun b7=>?_|refine yW 0 ?_|refine Q8 ?_|refine Q6 ?_|refine Q2 ?_|refine Qh ?_|refine Q5 rfl ?_|refine Qe ?_|refine Q1 zlt ?_)
   repeat(first|refine Qd zM ?_|refine Qd zA ?_|refine Qd zF ?_|refine Qd (zB 2) ?_|refine Qd (zD 0) ?_|refine Qd (Q07 rfl rfl (by decide) rfl rfl rfl hkc) ?_|refine Qd (Q4 (f:=58) rfl rfl (by decide) rfl rfl (fun w hw=>(Kn ((HFM.out.on hw.k.below).take hk hc) (HLK.out.on hw.k.below) HSM.out (by omega) hsz).mono (fun _ _ h=>h))) ?_|refine XS ?_|refine Xm (by kernel_rfl) (by kernel_rfl) ?_)
   repeat(first|refine Q1 zM ?_|refine Q8 ?_|refine Q6 ?_|refine Q2 ?_|refine Qh ?_|refine Q3 rfl ?_|refine Q1 zna ?_|refine Q1 zP ?_)
   exact QA (k+1) [1,2] (by decide) ⟨hkn,V0 HA.out (HRK.out.trans hz)⟩ (by omega) (.cons rfl rfl (.cons rfl rfl (.cons rfl rfl (.cons rfl rfl (.cons rfl rfl (.cons rfl (by go_num) .nil)))))) rfl
  ·have hzb:(X5 rk (F.take k) n != 0)=true:=bne_iff_ne.2 hz
   repeat(first|refine Q1 zM ?_|refine Q1 zA ?_|refine Q1 (zD 0) ?_|refine Q1 zE ?_|refine Q1 (zi (hj:=hkn)) ?_|refine yA (t:=52) fun b7=>?_|refine yW 0 ?_|refine Q8 ?_|refine Q6 ?_|refine Q2 ?_|refine Qh ?_|refine Q5 rfl ?_|refine Qe ?_|refine Q1 zlt ?_)
   repeat(first|refine Qd zM ?_|refine Qd zA ?_|refine Qd zF ?_|refine Qd (zB 2) ?_|refine Qd (zD 0) ?_|refine Qd (Q07 rfl rfl (by decide) rfl rfl rfl hkc) ?_|refine Qd (Q4 (f:=58) rfl rfl (by decide) rfl rfl (fun w hw=>(Kn ((HFM.out.on hw.k.below).take hk hc) (HLK.out.on hw.k.below) HSM.out (by omega) hsz).mono (fun _ _ h=>h))) ?_|refine XS ?_|refine Xm (by kernel_rfl) (by kernel_rfl) ?_)
   repeat(first|refine Q1 zM ?_|refine Q1 (Q4 (f:=39) rfl rfl (by decide) rfl rfl (fun w hw=>XK _ _ w)) ?_|refine yW 1 ?_|refine Q8 ?_|refine Q6 ?_|refine Q2 ?_|refine Q5 rfl ?_|refine Ql ?_|refine Qc ?_|refine Qf ?_|refine Q1 zna ?_)
   exact Q9 (by exact .inr rfl) rfl (RsV.blk 1 rfl rfl rfl) (fun w hw=>ZY ((Q2t (by rw[HLEN.out];exact hn0) (by rw[HLEN.out];exact hn40) (by rw[HLEN.out];exact hkn) (by rw[HRK.out];exact hz) HA.out).trans (by rw[HRK.out])) hw)
 have HR:=Lib.hid (show ∀j,j<F.length→Zt F j=0 from fun j hj=>HA.out j (by rw[HLEN.out] at hj;omega));have HF:=Lib.hid (Q82 HR.out);clear HA
 repeat(first|refine Q1 zM ?_|refine Q1 zF ?_|refine Q1 (zB 1) ?_|refine Q8 ?_|refine Q6 ?_|refine Q2 ?_|refine Q3 rfl ?_|refine QX ?_|refine Qe ?_|refine Q1 zL ?_|refine Q1 zlf ?_)
 refine X0 (ι:=Nat) (fun k=>k≤n∧∀j,j<k→JM F j=0) (fun k=>n - k) (fun k=>[(1,.pointer (some ⟨bf,0,none⟩)),(2,.pointer (some ⟨b2,0,none⟩)),(48,.slice (some ⟨b,o,none⟩) n c),(49,.int .i64 (n:Int)),(50,.int .i64 (k:Int))]) (fun _=>[.blk b2 (.cells [.int .i64 0,.int .i64 0].toArray 27 (0,0)),.blk bf (.cells [.slice (some ⟨b,o,none⟩) n c].toArray 24 (0,0))]) 0 [0,1] (by decide) ⟨Nat.zero_le _,fun j hj=>absurd hj (Nat.not_lt_zero _)⟩ (.cons rfl rfl (.cons rfl rfl (.cons rfl rfl (.cons rfl rfl (.cons rfl rfl .nil))))) rfl ?_
 rintro k ⟨hk,hall⟩
 have HA:=Lib.hid hall;clear hall
 by_cases hkn:k<n
 ·obtain⟨rk,Ab,cb,An,cn,Ap,cp,hrk,hrg,hlk⟩:=HFM.out.rl hkn;have HRK:=Lib.hid (show JM F k=Jv F rk from YP hrk);have HLK:=Lib.hid hlk;have HSM:=Lib.hid (HS.out.2 rk (List.mem_of_getElem? hrk));have HOK:=Lib.hid (show ROk n rk by have:=HF.out k rk hrk;rwa [HLEN.out] at this);clear hrk hlk
  by_cases hz:Jv F rk=0
  ·have hzb:(Jv F rk != 0)=false:=bne_eq_false_iff_eq.2 hz
   repeat(first|refine Q1 zM ?_|refine Q1 zA ?_|refine Q1 (zD 0) ?_|refine Q1 (zD 2) ?_|refine Q1 zE ?_|refine Q1 (zi (hj:=hkn)) ?_|refine yA (t:=52) fun b7=>?_|refine yW 0 ?_|refine Q1 (Q4 (f:=59) rfl rfl (by decide) rfl rfl (fun w hw=>(KE (HFM.out.on hw.k.below) (HLK.out.on hw.k.below) HSM.out (QaP HOK.out)).mono (fun _ _ h=>h))) ?_|refine Q8 ?_|refine Q6 ?_|refine Q2 ?_|refine Qh ?_|refine Q5 rfl ?_|refine Q3 rfl ?_|refine Qe ?_|refine Q1 zna ?_|refine Q1 (Xu rfl rfl (by decide) rfl rfl rfl (by first|exact decide_eq_true (by omega)|rfl)) ?_|refine Q1 zP ?_)
   exact QA (k+1) [1,2] (by decide) ⟨hkn,V0 HA.out (HRK.out.trans hz)⟩ (by omega) (.cons rfl rfl (.cons rfl rfl (.cons rfl rfl (.cons rfl rfl (.cons rfl (by go_num) .nil))))) rfl
  ·have hzb:(Jv F rk != 0)=true:=bne_iff_ne.2 hz
   repeat(first|refine Q1 zM ?_|refine Q1 zA ?_|refine Q1 (zD 0) ?_|refine Q1 (zD 2) ?_|refine Q1 zE ?_|refine Q1 (zi (hj:=hkn)) ?_|refine yA (t:=52) fun b7=>?_|refine yW 0 ?_|refine Q1 (Q4 (f:=59) rfl rfl (by decide) rfl rfl (fun w hw=>(KE (HFM.out.on hw.k.below) (HLK.out.on hw.k.below) HSM.out (QaP HOK.out)).mono (fun _ _ h=>h))) ?_|refine Q1 (Q4 (f:=39) rfl rfl (by decide) rfl rfl (fun w hw=>XK _ _ w)) ?_|refine yW 1 ?_|refine Q8 ?_|refine Q6 ?_|refine Q2 ?_|refine Qh ?_|refine Q5 rfl ?_|refine Ql ?_|refine Qe ?_|refine Qc ?_|refine Qf ?_|refine Q1 zna ?_|refine Q1 zlt ?_)
   exact Q9 (by exact .inr rfl) rfl (RsV.blk 1 rfl rfl rfl) (fun w hw=>ZY ((Q3b (by rw[HLEN.out];exact hn0) (by rw[HLEN.out];exact hn40) HR.out (by rw[HLEN.out];exact hkn) (by rw[HRK.out];exact hz) HA.out).trans (by rw[HRK.out])) hw)
 have HU:=Lib.hid (show ∀j,j<F.length→JM F j=0 from fun j hj=>HA.out j (by rw[HLEN.out] at hj;omega));clear HA
 repeat(first|refine Q1 zM ?_|refine Q1 zF ?_|refine Q1 (zB 1) ?_|refine Q8 ?_|refine Q6 ?_|refine Q2 ?_|refine Q3 rfl ?_|refine QX ?_|refine Qe ?_|refine Q1 zL ?_|refine Q1 zlf ?_)
 refine X0 (ι:=Nat) (fun k=>k≤n∧∀j,j<k→Km F j=false) (fun k=>n - k) (fun k=>[(1,.pointer (some ⟨bf,0,none⟩)),(2,.pointer (some ⟨b2,0,none⟩)),(66,.int .i64 (n:Int)),(67,.int .i64 (k:Int))]) (fun _=>[.blk b2 (.cells [.int .i64 0,.int .i64 0].toArray 27 (0,0)),.blk bf (.cells [.slice (some ⟨b,o,none⟩) n c].toArray 24 (0,0))]) 0 [0,1] (by decide) ⟨Nat.zero_le _,fun j hj=>absurd hj (Nat.not_lt_zero _)⟩ (.cons rfl rfl (.cons rfl rfl (.cons rfl rfl (.cons rfl rfl .nil)))) rfl ?_
 rintro k ⟨hk,hall⟩
 have HA:=Lib.hid hall;clear hall
 by_cases hkn:k<n
 ·obtain⟨cy,hcy⟩:∃cy,Km F k=cy:=⟨_,rfl⟩;have HCY:=Lib.hid hcy;clear hcy
  cases cy with
  |false=>
   repeat(first|refine Q1 zM ?_|refine Q1 zA ?_|refine Q1 (zD 0) ?_|refine Q1 (zD 1) ?_|(refine Q1 (Q4 (f:=60) rfl rfl (by decide) rfl rfl (fun w hw=>(Q1b (HFM.out.on hw.k.below) HF.out hn40 hkn).mono (fun _ _ h=>h))) ?_;rw[HCY.out])|refine Q8 ?_|refine Q6 ?_|refine Q2 ?_|refine Qh ?_|refine Q5 rfl ?_|refine Q3 rfl ?_|refine Qe ?_|refine Q1 (Xu rfl rfl (by decide) rfl rfl rfl (by first|exact decide_eq_true (by omega)|rfl)) ?_|refine Q1 zP ?_)
   exact QA (k+1) [0,1] (by decide) ⟨hkn,V0 HA.out HCY.out⟩ (by omega) (.cons rfl rfl (.cons rfl rfl (.cons rfl rfl (.cons rfl (by go_num) .nil)))) rfl
  |true=>
   repeat(first|refine Q1 zM ?_|refine Q1 zA ?_|refine Q1 (zD 0) ?_|refine Q1 (zD 1) ?_|(refine Q1 (Q4 (f:=60) rfl rfl (by decide) rfl rfl (fun w hw=>(Q1b (HFM.out.on hw.k.below) HF.out hn40 hkn).mono (fun _ _ h=>h))) ?_;rw[HCY.out])|refine Q1 (Q4 (f:=39) rfl rfl (by decide) rfl rfl (fun w hw=>XK _ _ w)) ?_|refine yW 0 ?_|refine Q8 ?_|refine Q6 ?_|refine Q2 ?_|refine Qh ?_|refine Q5 rfl ?_|refine Ql ?_|refine Qe ?_|refine Qc ?_|refine Qf ?_|refine Q1 zlt ?_)
   exact Q9 (by exact .inr rfl) rfl (RsV.blk 0 rfl rfl rfl) (fun w hw=>ZY (Q45 (by rw[HLEN.out];exact hn0) (by rw[HLEN.out];exact hn40) HR.out HU.out (by rw[HLEN.out];exact hkn) HCY.out HA.out) hw)
 have HT:=Lib.hid (Q2d (by rw[HLEN.out];exact hn0) (by rw[HLEN.out];exact hn40) HR.out HU.out (fun j hj=>HA.out j (by rw[HLEN.out] at hj;omega)));clear HA
 by_cases hfi:0≤Q1G (ZC F)
 ·skip
  repeat(first|refine Q1 zM ?_|refine Q1 zA ?_|refine Q1 (zD 0) ?_|refine Q1 (zD 1) ?_|refine Qa (Qx _ _ _ (f:=62) rfl rfl rfl (fun w hw=>Q4V HFM.out HF.out hn40 hn0 hw)) rfl (by decide) (fun bz _=>?_)|refine Q1 (Q4 (f:=61) rfl rfl (by decide) rfl rfl (fun w hw=>(Q2X (hw.own 0 _ rfl) ((Jc F).trans HLEN.out) hsz).mono (fun _ _ h=>h))) ?_|refine Q1 (Q4 (f:=39) rfl rfl (by decide) rfl rfl (fun w hw=>XK _ _ w)) ?_|refine yW 1 ?_|refine Q8 ?_|refine Q6 ?_|refine Q2 ?_|refine Q5 rfl ?_|refine Q3 rfl ?_|refine QX ?_|refine Ql ?_|refine Qc ?_|refine Q1 (Xu rfl rfl (by decide) rfl rfl rfl (by first|exact decide_eq_false (by omega)|rfl)) ?_|refine Q1 zht ?_)
  exact Q9 (by exact .inr rfl) rfl (RsV.blk 1 rfl rfl rfl) (fun w hw=>ZY (HT.out.trans (Q80 (Jc F) hfi)) hw)
 repeat(first|refine Q1 zM ?_|refine Q1 zA ?_|refine Q1 zF ?_|refine Q1 (zB 3) ?_|refine Q1 (zD 0) ?_|refine Q1 (zD 1) ?_|refine Q1 (zD 2) ?_|refine Qa (Qx _ _ _ (f:=62) rfl rfl rfl (fun w hw=>Q4V HFM.out HF.out hn40 hn0 hw)) rfl (by decide) (fun bz _=>?_)|refine Q1 (Q4 (f:=61) rfl rfl (by decide) rfl rfl (fun w hw=>(Q2X (hw.own 0 _ rfl) ((Jc F).trans HLEN.out) hsz).mono (fun _ _ h=>h))) ?_|refine Qa (Qx _ _ _ (f:=32) rfl rfl rfl (fun w hw=>Q4y HFM.out HF.out hn40 hn0 hw)) rfl (by decide) (fun y _=>?_)|refine Q8 ?_|refine Q6 ?_|refine Q2 ?_|refine Qh ?_|refine Q3 rfl ?_|refine QX ?_|refine Qe ?_|refine Q1 zL ?_|refine Q1 (Xu rfl rfl (by decide) rfl rfl rfl (by first|exact decide_eq_false (by omega)|rfl)) ?_|refine Q1 zhf ?_)
 obtain⟨bs,cs⟩:=y;refine X0 (ι:=Nat) (fun k=>k≤n∧∀j,j<k→ZM F j=false) (fun k=>n - k) (fun k=>[(1,.pointer (some ⟨bf,0,none⟩)),(2,.pointer (some ⟨b2,0,none⟩)),(12,.slice (some ⟨bs,0,none⟩) n cs),(86,.slice (some ⟨b,o,none⟩) n c),(87,.int .i64 (n:Int)),(88,.int .i64 (k:Int))]) (fun _=>[.rd (some ⟨bs,0,none⟩) n 256 (Xk (JS F)),.blk b2 (.cells [.int .i64 0,.int .i64 0].toArray 27 (0,0)),.blk bf (.cells [.slice (some ⟨b,o,none⟩) n c].toArray 24 (0,0))]) 0 [0,2,3] (by decide) ⟨Nat.zero_le _,fun j hj=>absurd hj (Nat.not_lt_zero _)⟩ (.cons rfl rfl (.cons rfl rfl (.cons rfl rfl (.cons rfl rfl (.cons rfl rfl (.cons rfl rfl .nil)))))) rfl ?_
 rintro k ⟨hk,hall⟩
 have HA:=Lib.hid hall;clear hall
 by_cases hkn:k<n
 ·obtain⟨rk,Ab,cb,An,cn,Ap,cp,hrk,hrg,hlk⟩:=HFM.out.rl hkn;have HLK:=Lib.hid hlk;have HOK:=Lib.hid (show ROk n rk by have:=HF.out k rk hrk;rwa [HLEN.out] at this);obtain⟨cf,hcf⟩:∃cf,ZU (JS F) rk=cf:=⟨_,rfl⟩;have HCF:=Lib.hid hcf;have HRK:=Lib.hid (show ZM F k=cf from (Q3L hrk).trans hcf);clear hrk hlk hcf
  cases cf with
  |false=>
   repeat(first|refine Q1 zM ?_|refine Q1 zA ?_|refine Q1 (zD 0) ?_|refine Q1 (zD 1) ?_|refine Q1 zE ?_|refine Q1 (zi (hj:=hkn)) ?_|refine yA (t:=52) fun b7=>?_|refine yW 0 ?_|(refine Q1 (Q4 (f:=63) rfl rfl (by decide) rfl rfl (fun w hw=>(KH (HLK.out.on hw.k.below) HOK.out ((Q19 F).trans HLEN.out) (hw.own 1 _ rfl)).mono (fun _ _ h=>h))) ?_;rw[HCF.out])|refine Q8 ?_|refine Q6 ?_|refine Q2 ?_|refine Qh ?_|refine Q5 rfl ?_|refine Q3 rfl ?_|refine Qe ?_|refine Q1 (Xu rfl rfl (by decide) rfl rfl rfl (by first|exact decide_eq_true (by omega)|rfl)) ?_|refine Q1 zP ?_)
   exact QA (k+1) [1,2,3] (by decide) ⟨hkn,V0 HA.out HRK.out⟩ (by omega) (.cons rfl rfl (.cons rfl rfl (.cons rfl rfl (.cons rfl rfl (.cons rfl rfl (.cons rfl (by go_num) .nil)))))) rfl
  |true=>
   repeat(first|refine Q1 zM ?_|refine Q1 zA ?_|refine Q1 (zD 0) ?_|refine Q1 (zD 1) ?_|refine Q1 zE ?_|refine Q1 (zi (hj:=hkn)) ?_|refine yA (t:=52) fun b7=>?_|refine yW 0 ?_|(refine Q1 (Q4 (f:=63) rfl rfl (by decide) rfl rfl (fun w hw=>(KH (HLK.out.on hw.k.below) HOK.out ((Q19 F).trans HLEN.out) (hw.own 1 _ rfl)).mono (fun _ _ h=>h))) ?_;rw[HCF.out])|refine Q1 (Q4 (f:=39) rfl rfl (by decide) rfl rfl (fun w hw=>XK _ _ w)) ?_|refine yW 2 ?_|refine Q8 ?_|refine Q6 ?_|refine Q2 ?_|refine Qh ?_|refine Q5 rfl ?_|refine Ql ?_|refine Qe ?_|refine Qc ?_|refine Qf ?_|refine Q1 zlt ?_)
   exact Q9 (by exact .inr rfl) rfl (RsV.blk 2 rfl rfl rfl) (fun w hw=>ZY (HT.out.trans (Q0Z (Jc F) hfi (by rw[HLEN.out];exact hkn) HRK.out HA.out)) hw)
 ·skip
  repeat(first|refine Q1 (QZ (xs:=[]) (vs:=[]) (v:=.agg #[.int .i64 0,.int .i64 0]) rfl rfl (by decide) rfl rfl (fun w=>run_build w _ _ _ (by kernel_rfl))) ?_|refine yW 1 ?_|refine Q8 ?_|refine Q6 ?_|refine Q2 ?_|refine Q3 rfl ?_|refine QX ?_|refine Ql ?_|refine Q1 zlf ?_)
  exact Q9 (by exact .inr rfl) rfl (RsV.blk 1 rfl rfl rfl) (fun w hw=>ZY (HT.out.trans (Q4J (Jc F) hfi (fun j hj=>HA.out j (by rw[HLEN.out] at hj;omega)))) hw)
end Go.Proofs.YtgdiadednlajgaaGreatDoor
