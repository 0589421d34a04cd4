import Derived.Test.YtphkhfdmlcnoeaaGreatDoorP18
import Derived.Test.YtphkhfdmlcnoeaaGreatDoorP24
namespace Go.Proofs.YtphkhfdmlcnoeaaGreatDoor
set_option linter.unusedVariables false
set_option linter.unusedSimpArgs false
open Go.RowKit
theorem Z5(c i:Int)(w:World):Calls Tryz.prog 91 #[.int .i64 c,.int .i64 i] w fun e w'=>e=.returned (.agg #[.int .i64 c,.int .i64 i])∧Below w.heap.size w w':=by
 go_enter Tryz.func91,Tryz.ntmps91
 refine QE (M:=[]) (W:=w) (N:=8) (E:=[(0,.int .i64 c),(1,.int .i64 i)]) (O:=[]) ?_ (Ag.cons (Ag.cons (Ag.nil rfl rfl) rfl) rfl) (Wd.start [] w)
 repeat(first|refine Q1 zM ?_|refine yA (t:=32) fun b2=>?_|refine Q1 (QO (xs:=[(0,.tmp 5),(1,.tmp 6)]) (vs:=[(0,.int .i64 c),(1,.int .i64 i)]) (v:=.agg #[.int .i64 c,.int .i64 i]) rfl rfl (by decide) rfl rfl (fun w=>run_build w _ _ _ (by kernel_rfl))) ?_|refine yW 0 ?_|refine Q8 ?_|refine Q9 ?_|refine Q3 ?_|refine Qr ?_)
 exact Q7 (by exact .inr rfl) rfl (RsV.blk 0 rfl rfl rfl) (fun w hw=>⟨rfl,hw.k.below⟩)
section
variable {P:Program}{ops:Array Oper}{C:World→Prop}{N:Nat}{E:Env}{o:Oper}{d:Nat}
theorem Qbf{x y:Operand}{t t':TypeId}{a b c:Bool}(ht:P.underlying t=some .bool)(ho:o.op=.binOp .eql t x y t')(hd:o.dst=some d)(hN:d<N)(hw:Qj ops E o=some true)(hx:ev E x=some (.bool a))(hy:ev E y=some (.bool b))(hb:(a==b)=c):oE P ops C N E ((d,.bool c)::E) o:=
 Xq hd hN hw fun ρ w ha _=>by
  subst hb
  simp [execOp,ho,ha.eval hx,ha.eval hy,run_eql_bool _ _ _ _ ht,go_sem]
end
def Qfq(W:World)(c:Int)(e:Ending)(w':World):Prop:=e=.returned (.int .i64 c)∧Below W.heap.size W w'
set_option maxRecDepth 100000 in
set_option maxHeartbeats 4000000 in
theorem Q2N{l:List Bool}{b n c:Nat}{W:World}(hr:Rd W W.heap.size 1 (some ⟨b,0,none⟩) n (J3 l))(hl:l.length=n)(hn:n≤1048576):
  Calls Tryz.prog 118 #[.slice (some ⟨b,0,none⟩) n c,.bool false] W (Qfq W (Q31 l)):=by
 have HR:=Lib.hid hr;clear hr
 go_enter Tryz.func118,Tryz.ntmps118
 refine QE (M:=[]) (W:=W) (N:=19) (E:=[(0,.slice (some ⟨b,0,none⟩) n c),(1,.bool false)]) (O:=[]) ?_ (Ag.cons (Ag.cons (Ag.nil rfl rfl) rfl) rfl) (Wd.start [] W)
 repeat(first|refine Q1 zM ?_|refine Q1 zA ?_|refine Q8 ?_|refine Q9 ?_|refine Q3 ?_|refine Qi ?_|refine Q1 zL ?_)
 refine Z2 (ι:=Nat) (fun k=>k≤n∧∀j,j<k→l.getD j false=true) (fun k=>n - k) (fun k=>[(0,.slice (some ⟨b,0,none⟩) n c),(1,.bool false),(7,.int .i64 (n:Int)),(8,.int .i64 (k:Int))]) (fun _=>[]) 0 [] (by decide) ⟨Nat.zero_le _,fun j hj=>absurd hj (Nat.not_lt_zero _)⟩ (.cons rfl rfl (.cons rfl rfl (.cons rfl rfl (.cons rfl rfl .nil)))) rfl ?_
 rintro k ⟨hk,hall⟩
 have HA:=Lib.hid hall;clear hall
 by_cases hkn:k<n
 ·obtain⟨v,hv⟩:∃v,l.getD k false=v:=⟨_,rfl⟩
  have hcell:W.cell? ⟨b,0+k,none⟩=some (.bool v):=by
   rw[← hv];exact HR.out.cellAt (by omega) (Q1c (by omega))
  have HV:=Lib.hid hv;clear hv
  cases v with
  |true=>
   repeat(first|refine Q1 zM ?_|refine Q1 zA ?_|refine Q1 zC ?_|refine Q1 (zi1 (hj:=hkn)) ?_|refine Q1 (Qbf Tryz.underlying4 rfl rfl (by decide) rfl rfl rfl rfl) ?_|refine Q8 ?_|refine Q9 ?_|refine Q3 ?_|refine Qt ?_|refine Qa rfl ?_|refine Q6 rfl ?_|refine Qi ?_|refine Q1 (XS rfl rfl (by decide) rfl rfl rfl (by first|exact decide_eq_true (by omega)|rfl)) ?_|refine Q1 zP ?_)
   refine Xc (k+1) [] (by decide) ⟨hkn,fun j hj=>?_⟩ (by omega) (.cons rfl rfl (.cons rfl rfl (.cons rfl rfl (.cons rfl (by go_num) .nil)))) rfl
   rcases Nat.lt_or_ge j k with h|h
   ·exact HA.out j h
   ·obtain rfl:j=k:=by omega
    exact HV.out
  |false=>
   repeat(first|refine Q1 zM ?_|refine Q1 zA ?_|refine Q1 zC ?_|refine Q1 (zi1 (hj:=hkn)) ?_|refine Q1 (Qbf Tryz.underlying4 rfl rfl (by decide) rfl rfl rfl rfl) ?_|refine Q8 ?_|refine Q9 ?_|refine Q3 ?_|refine Qt ?_|refine Qa rfl ?_|refine Qr ?_|refine Qi ?_|refine Qf ?_|refine Qg ?_|refine Q1 zlt ?_)
   refine Q7 (by exact .inr rfl) rfl (.tmp rfl) (fun w hw=>⟨?_,hw.k.below⟩)
   unfold Q31
   rw[JP (k:=k) (by omega) (by rw[HV.out];rfl) (fun j hj=>by rw[HA.out j hj];rfl)]
 ·skip
  repeat(first|refine Q1 zA ?_|refine Q8 ?_|refine Q9 ?_|refine Q3 ?_|refine Q6 rfl ?_|refine XL ?_|refine Qr ?_|refine Q1 zlf ?_)
  refine Q7 (by exact .inr rfl) rfl (.tmp rfl) (fun w hw=>⟨?_,hw.k.below⟩)
  unfold Q31
  rw[XH (fun j hj=>by rw[HA.out j (by omega)];rfl)]
theorem Xm.take{W:World}{B:Nat}{A:Option Addr}{n c i:Nat}{F:List Rl}(h:Xm W B A n F)(hi:i≤n)(hc:n≤c):Xm W B (ZU A c 0 12) i (F.take i):=by
 refine⟨by rw[List.length_take,h.1];omega,fun h0=>?_⟩;obtain⟨b,o,rfl,hB,hr⟩:=h.2 (by omega);refine⟨b,o,?_,hB,fun j r hj=>?_⟩
 ·rw[ZU,if_neg (by omega),Option.map_some,Addr.add_mid,Nat.zero_mul,Nat.add_zero]
 ·rw[List.getElem?_take] at hj
  split at hj
  ·exact hr j r hj
  ·cases hj
theorem Q4p{F:List Rl}{A:Option Addr}{n c:Nat}{W w:World}{O:List Qc}(hf:Xm W W.heap.size A n F)(hF:FOk F)(hn:n≤40)(hn0:0<n)(hw:Wd [] W O w):
  Calls Tryz.prog 119 #[.agg #[.slice A n c]] w (XR (fun b:Nat=>.slice (some ⟨b,0,none⟩) n n) (fun _=>True) [] W (fun b=>.rd (some ⟨b,0,none⟩) n 1 (J3 (Vz F))::O)):=by
 refine(Q56 (hf.on hw.k.below) hF hn hn0).mono ?_
 rintro e w' ⟨b,rfl,h1,h2,h3⟩
 rw[Yr,hf.1] at h2 ⊢;exact⟨b,rfl,trivial,hw.push h3 h2 (fun b' hb'=>by simp only[Qc.foot] at hb';rw[if_neg (by omega)] at hb';cases hb';exact h1)⟩
theorem Q4r{F:List Rl}{A:Option Addr}{n c:Nat}{W w:World}{O:List Qc}(hf:Xm W W.heap.size A n F)(hF:FOk F)(hn:n≤40)(hn0:0<n)(hw:Wd [] W O w):
  Calls Tryz.prog 55 #[.agg #[.slice A n c]] w (XR (fun y:Nat×Nat=>.slice (some ⟨y.1,0,none⟩) n y.2) (fun _=>True) [] W (fun y=>.rd (some ⟨y.1,0,none⟩) n 256 (X4 (K8 F))::O)):=by
 refine(Q5j (hf.on hw.k.below) hF hn hn0).mono ?_
 rintro e w' ⟨b,c',rfl,h1,h2,h3⟩
 exact⟨(b,c'),rfl,trivial,hw.push h3 h2 (fun b' hb'=>by simp only[Qc.foot] at hb';rw[if_neg (by omega)] at hb';cases hb';exact h1)⟩
def Q97(W:World)(p:Int×Int)(e:Ending)(w':World):Prop:=e=.returned (.agg #[.int .i64 p.1,.int .i64 p.2])∧Below W.heap.size W w'
theorem VA{W w:World}{p:Int×Int}{a b:Int}{O:List Qc}(h:p=(a,b))(hw:Wd [] W O w):Q97 W p (.returned (.agg [.int .i64 a,.int .i64 b].toArray)) w:=⟨by rw[h],hw.k.below⟩
theorem Q0W{p:Nat→Prop}{k:Nat}(h:∀j,j<k→p j)(hk:p k):∀j,j<k+1→p j:=fun j hj=>by
 rcases Nat.lt_or_ge j k with h1|h1
 ·exact h j h1
 ·obtain rfl:j=k:=by omega
  exact hk
theorem Q3t(F:List Rl):(K8 F).length=F.length:=by
 unfold K8
 rw[VR,List.length_map]
set_option maxRecDepth 100000 in
set_option maxHeartbeats 16000000 in
theorem Q28{F:List Rl}{A:Option Addr}{n c:Nat}{W:World}(hf:Xm W W.heap.size A n F)(hs:FSm F)(hc:n≤c):
  Calls Tryz.prog 89 #[.agg #[.slice A n c]] W (Q97 W (XC F)):=by
 have hlen:F.length=n:=hf.1
 have hsz:n≤1048576:=by rw[← hlen];exact hs.1
 have HFM:=Lib.hid hf;have HS:=Lib.hid hs;have HLEN:=Lib.hid hlen;clear hf hs hlen
 go_enter Tryz.func89,Tryz.ntmps89
 refine QE (M:=[]) (W:=W) (N:=100) (E:=[(0,.agg #[.slice A n c])]) (O:=[]) ?_ (Ag.cons (Ag.nil rfl rfl) rfl) (Wd.start [] W)
 by_cases h0:n=0
 ·skip
  repeat(first|refine Q1 zM ?_|refine Q1 zA ?_|refine Q1 zF ?_|refine Q1 (zB 1) ?_|refine yB fun bf=>?_|refine yA (t:=32) fun b2=>?_|refine Q1 (Qb (f:=91) rfl rfl (by decide) rfl rfl (fun w hw=>Z5 _ _ w)) ?_|refine yW 0 ?_|refine Q8 ?_|refine Q9 ?_|refine Q3 ?_|refine Qa rfl ?_|refine Qr ?_|refine Qi ?_|refine Qf ?_|refine Qg ?_|refine Q1 zL ?_|refine Q1 zet ?_)
  exact Q7 (by exact .inr rfl) rfl (RsV.blk 0 rfl rfl rfl) (fun w hw=>VA (Q5O (by rw[HLEN.out];exact h0)) hw)
 by_cases h40:40<n
 ·skip
  repeat(first|refine Q1 zM ?_|refine Q1 zA ?_|refine Q1 zF ?_|refine Q1 (zB 1) ?_|refine yB fun bf=>?_|refine yA (t:=32) fun b2=>?_|refine Q1 (Qb (f:=91) rfl rfl (by decide) rfl rfl (fun w hw=>Z5 _ _ w)) ?_|refine yW 0 ?_|refine Q8 ?_|refine Q9 ?_|refine Q3 ?_|refine Qa rfl ?_|refine Q6 rfl ?_|refine Qr ?_|refine Qi ?_|refine Qf ?_|refine Qg ?_|refine Q1 zL ?_|refine Q1 (Zu rfl rfl (by decide) rfl rfl rfl (by first|exact beq_eq_false_iff_ne.2 (by omega)|rfl)) ?_|refine Q1 zgt ?_)
  exact Q7 (by exact .inr rfl) rfl (RsV.blk 0 rfl rfl rfl) (fun w hw=>VA (Q7g (by rw[HLEN.out];exact h40)) hw)
 have hn0:0<n:=by omega
 have hn40:n≤40:=by omega
 obtain⟨b,o,rfl⟩:=HFM.out.addr hn0
 repeat(first|refine Q1 zM ?_|refine Q1 zA ?_|refine Q1 zF ?_|refine Q1 (zB 1) ?_|refine yB fun bf=>?_|refine yA (t:=32) fun b2=>?_|refine Q8 ?_|refine Q9 ?_|refine Q3 ?_|refine Qt ?_|refine Q6 rfl ?_|refine Qi ?_|refine Q1 zL ?_|refine Q1 (Zu rfl rfl (by decide) rfl rfl rfl (by first|exact beq_eq_false_iff_ne.2 (by omega)|rfl)) ?_|refine Q1 zgf ?_)
 refine Z2 (ι:=Nat) (fun k=>k≤n∧∀j,j<k→ZR F j=0) (fun k=>n - k) (fun k=>[(1,.pointer (some ⟨bf,0,none⟩)),(2,.pointer (some ⟨b2,0,none⟩)),(3,.int .i64 (n:Int)),(27,.slice (some ⟨b,o,none⟩) n c),(28,.int .i64 (n:Int)),(29,.int .i64 (k:Int))]) (fun _=>[.blk b2 (.cells [.int .i64 0,.int .i64 0].toArray 32 (0,0)),.blk bf (.cells [.slice (some ⟨b,o,none⟩) n c].toArray 24 (0,0))]) 0 [0,1] (by decide) ⟨Nat.zero_le _,fun j hj=>absurd hj (Nat.not_lt_zero _)⟩ (.cons rfl rfl (.cons rfl rfl (.cons rfl rfl (.cons rfl rfl (.cons rfl rfl (.cons rfl rfl .nil)))))) rfl ?_
 rintro k ⟨hk,hall⟩
 have HA:=Lib.hid hall;clear hall
 by_cases hkn:k<n
 ·obtain⟨rk,Ab,cb,An,cn,Ap,cp,hrk,hrg,hlk⟩:=HFM.out.rl hkn;have HRK:=Lib.hid (show ZR F k=X1 rk (F.take k) n by rw[Q1R hrk,HLEN.out]);have HLK:=Lib.hid hlk;have HSM:=Lib.hid (HS.out.2 rk (List.mem_of_getElem? hrk));clear hrk hlk
  have hkc:k≤c:=by omega
  by_cases hz:X1 rk (F.take k) n=0
  ·have hzb:(X1 rk (F.take k) n != 0)=false:=bne_eq_false_iff_eq.2 hz
   repeat(first|refine Q1 zM ?_|refine Q1 zA ?_|refine Q1 (zD 0) ?_|refine Q1 zE ?_|refine Q1 (zi (hj:=hkn)) ?_|refine yA (t:=65) fun b7=>?_|refine yW 0 ?_|refine Q8 ?_|refine Q9 ?_|refine Q3 ?_|refine Qt ?_|refine Qa rfl ?_|refine Qi ?_|refine Q1 zlt ?_)
   repeat(first|refine Q5 zM ?_|refine Q5 zA ?_|refine Q5 zF ?_|refine Q5 (zB 2) ?_|refine Q5 (zD 0) ?_|refine Q5 (Yn rfl rfl (by decide) rfl rfl rfl hkc) ?_|refine Q5 (Qb (f:=115) rfl rfl (by decide) rfl rfl (fun w hw=>(YZ ((HFM.out.on hw.k.below).take hk hc) (HLK.out.on hw.k.below) HSM.out (by omega) hsz).mono (fun _ _ h=>h))) ?_|refine XM ?_|refine Xj (by kernel_rfl) (by kernel_rfl) ?_)
   repeat(first|refine Q1 zM ?_|refine Q8 ?_|refine Q9 ?_|refine Q3 ?_|refine Qt ?_|refine Q6 rfl ?_|refine Q1 zna ?_|refine Q1 zP ?_)
   exact Xc (k+1) [1,2] (by decide) ⟨hkn,Q0W HA.out (HRK.out.trans hz)⟩ (by omega) (.cons rfl rfl (.cons rfl rfl (.cons rfl rfl (.cons rfl rfl (.cons rfl rfl (.cons rfl (by go_num) .nil)))))) rfl
  ·have hzb:(X1 rk (F.take k) n != 0)=true:=bne_iff_ne.2 hz
   repeat(first|refine Q1 zM ?_|refine Q1 zA ?_|refine Q1 (zD 0) ?_|refine Q1 zE ?_|refine Q1 (zi (hj:=hkn)) ?_|refine yA (t:=65) fun b7=>?_|refine yW 0 ?_|refine Q8 ?_|refine Q9 ?_|refine Q3 ?_|refine Qt ?_|refine Qa rfl ?_|refine Qi ?_|refine Q1 zlt ?_)
   repeat(first|refine Q5 zM ?_|refine Q5 zA ?_|refine Q5 zF ?_|refine Q5 (zB 2) ?_|refine Q5 (zD 0) ?_|refine Q5 (Yn rfl rfl (by decide) rfl rfl rfl hkc) ?_|refine Q5 (Qb (f:=115) rfl rfl (by decide) rfl rfl (fun w hw=>(YZ ((HFM.out.on hw.k.below).take hk hc) (HLK.out.on hw.k.below) HSM.out (by omega) hsz).mono (fun _ _ h=>h))) ?_|refine XM ?_|refine Xj (by kernel_rfl) (by kernel_rfl) ?_)
   repeat(first|refine Q1 zM ?_|refine Q1 (Qb (f:=91) rfl rfl (by decide) rfl rfl (fun w hw=>Z5 _ _ w)) ?_|refine yW 1 ?_|refine Q8 ?_|refine Q9 ?_|refine Q3 ?_|refine Qa rfl ?_|refine Qr ?_|refine Qf ?_|refine Qg ?_|refine Q1 zna ?_)
   exact Q7 (by exact .inr rfl) rfl (RsV.blk 1 rfl rfl rfl) (fun w hw=>VA ((Q78 (by rw[HLEN.out];exact hn0) (by rw[HLEN.out];exact hn40) (by rw[HLEN.out];exact hkn) (by rw[HRK.out];exact hz) HA.out).trans (by rw[HRK.out])) hw)
 have HR:=Lib.hid (show ∀j,j<F.length→ZR F j=0 from fun j hj=>HA.out j (by rw[HLEN.out] at hj;omega));have HF:=Lib.hid (QbE HR.out);clear HA
 repeat(first|refine Q1 zM ?_|refine Q1 zF ?_|refine Q1 (zB 1) ?_|refine Q8 ?_|refine Q9 ?_|refine Q3 ?_|refine Q6 rfl ?_|refine XL ?_|refine Qi ?_|refine Q1 zL ?_|refine Q1 zlf ?_)
 refine Z2 (ι:=Nat) (fun k=>k≤n∧∀j,j<k→V8 F j=0) (fun k=>n - k) (fun k=>[(1,.pointer (some ⟨bf,0,none⟩)),(2,.pointer (some ⟨b2,0,none⟩)),(48,.slice (some ⟨b,o,none⟩) n c),(49,.int .i64 (n:Int)),(50,.int .i64 (k:Int))]) (fun _=>[.blk b2 (.cells [.int .i64 0,.int .i64 0].toArray 32 (0,0)),.blk bf (.cells [.slice (some ⟨b,o,none⟩) n c].toArray 24 (0,0))]) 0 [0,1] (by decide) ⟨Nat.zero_le _,fun j hj=>absurd hj (Nat.not_lt_zero _)⟩ (.cons rfl rfl (.cons rfl rfl (.cons rfl rfl (.cons rfl rfl (.cons rfl rfl .nil))))) rfl ?_
 rintro k ⟨hk,hall⟩
 have HA:=Lib.hid hall;clear hall
 by_cases hkn:k<n
 ·obtain⟨rk,Ab,cb,An,cn,Ap,cp,hrk,hrg,hlk⟩:=HFM.out.rl hkn;have HRK:=Lib.hid (show V8 F k=Yl F rk from Q0J hrk);have HLK:=Lib.hid hlk;have HSM:=Lib.hid (HS.out.2 rk (List.mem_of_getElem? hrk));have HOK:=Lib.hid (show ROk n rk by have:=HF.out k rk hrk;rwa [HLEN.out] at this);clear hrk hlk
  by_cases hz:Yl F rk=0
  ·have hzb:(Yl F rk != 0)=false:=bne_eq_false_iff_eq.2 hz
   repeat(first|refine Q1 zM ?_|refine Q1 zA ?_|refine Q1 (zD 0) ?_|refine Q1 (zD 2) ?_|refine Q1 zE ?_|refine Q1 (zi (hj:=hkn)) ?_|refine yA (t:=65) fun b7=>?_|refine yW 0 ?_|refine Q1 (Qb (f:=116) rfl rfl (by decide) rfl rfl (fun w hw=>(Kd (HFM.out.on hw.k.below) (HLK.out.on hw.k.below) HSM.out (QbH HOK.out)).mono (fun _ _ h=>h))) ?_|refine Q8 ?_|refine Q9 ?_|refine Q3 ?_|refine Qt ?_|refine Qa rfl ?_|refine Q6 rfl ?_|refine Qi ?_|refine Q1 zna ?_|refine Q1 (XS rfl rfl (by decide) rfl rfl rfl (by first|exact decide_eq_true (by omega)|rfl)) ?_|refine Q1 zP ?_)
   exact Xc (k+1) [1,2] (by decide) ⟨hkn,Q0W HA.out (HRK.out.trans hz)⟩ (by omega) (.cons rfl rfl (.cons rfl rfl (.cons rfl rfl (.cons rfl rfl (.cons rfl (by go_num) .nil))))) rfl
  ·have hzb:(Yl F rk != 0)=true:=bne_iff_ne.2 hz
   repeat(first|refine Q1 zM ?_|refine Q1 zA ?_|refine Q1 (zD 0) ?_|refine Q1 (zD 2) ?_|refine Q1 zE ?_|refine Q1 (zi (hj:=hkn)) ?_|refine yA (t:=65) fun b7=>?_|refine yW 0 ?_|refine Q1 (Qb (f:=116) rfl rfl (by decide) rfl rfl (fun w hw=>(Kd (HFM.out.on hw.k.below) (HLK.out.on hw.k.below) HSM.out (QbH HOK.out)).mono (fun _ _ h=>h))) ?_|refine Q1 (Qb (f:=91) rfl rfl (by decide) rfl rfl (fun w hw=>Z5 _ _ w)) ?_|refine yW 1 ?_|refine Q8 ?_|refine Q9 ?_|refine Q3 ?_|refine Qt ?_|refine Qa rfl ?_|refine Qr ?_|refine Qi ?_|refine Qf ?_|refine Qg ?_|refine Q1 zna ?_|refine Q1 zlt ?_)
   exact Q7 (by exact .inr rfl) rfl (RsV.blk 1 rfl rfl rfl) (fun w hw=>VA ((Q8E (by rw[HLEN.out];exact hn0) (by rw[HLEN.out];exact hn40) HR.out (by rw[HLEN.out];exact hkn) (by rw[HRK.out];exact hz) HA.out).trans (by rw[HRK.out])) hw)
 have HU:=Lib.hid (show ∀j,j<F.length→V8 F j=0 from fun j hj=>HA.out j (by rw[HLEN.out] at hj;omega));clear HA
 repeat(first|refine Q1 zM ?_|refine Q1 zF ?_|refine Q1 (zB 1) ?_|refine Q8 ?_|refine Q9 ?_|refine Q3 ?_|refine Q6 rfl ?_|refine XL ?_|refine Qi ?_|refine Q1 zL ?_|refine Q1 zlf ?_)
 refine Z2 (ι:=Nat) (fun k=>k≤n∧∀j,j<k→Q1g F j=false) (fun k=>n - k) (fun k=>[(1,.pointer (some ⟨bf,0,none⟩)),(2,.pointer (some ⟨b2,0,none⟩)),(66,.int .i64 (n:Int)),(67,.int .i64 (k:Int))]) (fun _=>[.blk b2 (.cells [.int .i64 0,.int .i64 0].toArray 32 (0,0)),.blk bf (.cells [.slice (some ⟨b,o,none⟩) n c].toArray 24 (0,0))]) 0 [0,1] (by decide) ⟨Nat.zero_le _,fun j hj=>absurd hj (Nat.not_lt_zero _)⟩ (.cons rfl rfl (.cons rfl rfl (.cons rfl rfl (.cons rfl rfl .nil)))) rfl ?_
 rintro k ⟨hk,hall⟩
 have HA:=Lib.hid hall;clear hall
 by_cases hkn:k<n
 ·obtain⟨cy,hcy⟩:∃cy,Q1g F k=cy:=⟨_,rfl⟩;have HCY:=Lib.hid hcy;clear hcy
  cases cy with
  |false=>
   repeat(first|refine Q1 zM ?_|refine Q1 zA ?_|refine Q1 (zD 0) ?_|refine Q1 (zD 1) ?_|(refine Q1 (Qb (f:=117) rfl rfl (by decide) rfl rfl (fun w hw=>(Q1i (HFM.out.on hw.k.below) HF.out hn40 hkn).mono (fun _ _ h=>h))) ?_;rw[HCY.out])|refine Q8 ?_|refine Q9 ?_|refine Q3 ?_|refine Qt ?_|refine Qa rfl ?_|refine Q6 rfl ?_|refine Qi ?_|refine Q1 (XS rfl rfl (by decide) rfl rfl rfl (by first|exact decide_eq_true (by omega)|rfl)) ?_|refine Q1 zP ?_)
   exact Xc (k+1) [0,1] (by decide) ⟨hkn,Q0W HA.out HCY.out⟩ (by omega) (.cons rfl rfl (.cons rfl rfl (.cons rfl rfl (.cons rfl (by go_num) .nil)))) rfl
  |true=>
   repeat(first|refine Q1 zM ?_|refine Q1 zA ?_|refine Q1 (zD 0) ?_|refine Q1 (zD 1) ?_|(refine Q1 (Qb (f:=117) rfl rfl (by decide) rfl rfl (fun w hw=>(Q1i (HFM.out.on hw.k.below) HF.out hn40 hkn).mono (fun _ _ h=>h))) ?_;rw[HCY.out])|refine Q1 (Qb (f:=91) rfl rfl (by decide) rfl rfl (fun w hw=>Z5 _ _ w)) ?_|refine yW 0 ?_|refine Q8 ?_|refine Q9 ?_|refine Q3 ?_|refine Qt ?_|refine Qa rfl ?_|refine Qr ?_|refine Qi ?_|refine Qf ?_|refine Qg ?_|refine Q1 zlt ?_)
   exact Q7 (by exact .inr rfl) rfl (RsV.blk 0 rfl rfl rfl) (fun w hw=>VA (Q8A (by rw[HLEN.out];exact hn0) (by rw[HLEN.out];exact hn40) HR.out HU.out (by rw[HLEN.out];exact hkn) HCY.out HA.out) hw)
 have HT:=Lib.hid (Q6W (by rw[HLEN.out];exact hn0) (by rw[HLEN.out];exact hn40) HR.out HU.out (fun j hj=>HA.out j (by rw[HLEN.out] at hj;omega)));clear HA
 by_cases hfi:0≤Q31 (Vz F)
 ·skip
  repeat(first|refine Q1 zM ?_|refine Q1 zA ?_|refine Q1 (zD 0) ?_|refine Q1 (zD 1) ?_|refine Qo (QM _ _ _ (f:=119) rfl rfl rfl (fun w hw=>Q4p HFM.out HF.out hn40 hn0 hw)) rfl (by decide) (fun bz _=>?_)|refine Q1 (Qb (f:=118) rfl rfl (by decide) rfl rfl (fun w hw=>(Q2N (hw.own 0 _ rfl) ((Yr F).trans HLEN.out) hsz).mono (fun _ _ h=>h))) ?_|refine Q1 (Qb (f:=91) rfl rfl (by decide) rfl rfl (fun w hw=>Z5 _ _ w)) ?_|refine yW 1 ?_|refine Q8 ?_|refine Q9 ?_|refine Q3 ?_|refine Qa rfl ?_|refine Q6 rfl ?_|refine XL ?_|refine Qr ?_|refine Qf ?_|refine Q1 (XS rfl rfl (by decide) rfl rfl rfl (by first|exact decide_eq_false (by omega)|rfl)) ?_|refine Q1 zht ?_)
  exact Q7 (by exact .inr rfl) rfl (RsV.blk 1 rfl rfl rfl) (fun w hw=>VA (HT.out.trans (Q7T (Yr F) hfi)) hw)
 repeat(first|refine Q1 zM ?_|refine Q1 zA ?_|refine Q1 zF ?_|refine Q1 (zB 3) ?_|refine Q1 (zD 0) ?_|refine Q1 (zD 1) ?_|refine Q1 (zD 2) ?_|refine Qo (QM _ _ _ (f:=119) rfl rfl rfl (fun w hw=>Q4p HFM.out HF.out hn40 hn0 hw)) rfl (by decide) (fun bz _=>?_)|refine Q1 (Qb (f:=118) rfl rfl (by decide) rfl rfl (fun w hw=>(Q2N (hw.own 0 _ rfl) ((Yr F).trans HLEN.out) hsz).mono (fun _ _ h=>h))) ?_|refine Qo (QM _ _ _ (f:=55) rfl rfl rfl (fun w hw=>Q4r HFM.out HF.out hn40 hn0 hw)) rfl (by decide) (fun y _=>?_)|refine Q8 ?_|refine Q9 ?_|refine Q3 ?_|refine Qt ?_|refine Q6 rfl ?_|refine XL ?_|refine Qi ?_|refine Q1 zL ?_|refine Q1 (XS rfl rfl (by decide) rfl rfl rfl (by first|exact decide_eq_false (by omega)|rfl)) ?_|refine Q1 zhf ?_)
 obtain⟨bs,cs⟩:=y;refine Z2 (ι:=Nat) (fun k=>k≤n∧∀j,j<k→J9 F j=false) (fun k=>n - k) (fun k=>[(1,.pointer (some ⟨bf,0,none⟩)),(2,.pointer (some ⟨b2,0,none⟩)),(12,.slice (some ⟨bs,0,none⟩) n cs),(86,.slice (some ⟨b,o,none⟩) n c),(87,.int .i64 (n:Int)),(88,.int .i64 (k:Int))]) (fun _=>[.rd (some ⟨bs,0,none⟩) n 256 (X4 (K8 F)),.blk b2 (.cells [.int .i64 0,.int .i64 0].toArray 32 (0,0)),.blk bf (.cells [.slice (some ⟨b,o,none⟩) n c].toArray 24 (0,0))]) 0 [0,2,3] (by decide) ⟨Nat.zero_le _,fun j hj=>absurd hj (Nat.not_lt_zero _)⟩ (.cons rfl rfl (.cons rfl rfl (.cons rfl rfl (.cons rfl rfl (.cons rfl rfl (.cons rfl rfl .nil)))))) rfl ?_
 rintro k ⟨hk,hall⟩
 have HA:=Lib.hid hall;clear hall
 by_cases hkn:k<n
 ·obtain⟨rk,Ab,cb,An,cn,Ap,cp,hrk,hrg,hlk⟩:=HFM.out.rl hkn;have HLK:=Lib.hid hlk;have HOK:=Lib.hid (show ROk n rk by have:=HF.out k rk hrk;rwa [HLEN.out] at this);obtain⟨cf,hcf⟩:∃cf,VI (K8 F) rk=cf:=⟨_,rfl⟩;have HCF:=Lib.hid hcf;have HRK:=Lib.hid (show J9 F k=cf from (Q05 hrk).trans hcf);clear hrk hlk hcf
  cases cf with
  |false=>
   repeat(first|refine Q1 zM ?_|refine Q1 zA ?_|refine Q1 (zD 0) ?_|refine Q1 (zD 1) ?_|refine Q1 zE ?_|refine Q1 (zi (hj:=hkn)) ?_|refine yA (t:=65) fun b7=>?_|refine yW 0 ?_|(refine Q1 (Qb (f:=120) rfl rfl (by decide) rfl rfl (fun w hw=>(K5 (HLK.out.on hw.k.below) HOK.out ((Q3t F).trans HLEN.out) (hw.own 1 _ rfl)).mono (fun _ _ h=>h))) ?_;rw[HCF.out])|refine Q8 ?_|refine Q9 ?_|refine Q3 ?_|refine Qt ?_|refine Qa rfl ?_|refine Q6 rfl ?_|refine Qi ?_|refine Q1 (XS rfl rfl (by decide) rfl rfl rfl (by first|exact decide_eq_true (by omega)|rfl)) ?_|refine Q1 zP ?_)
   exact Xc (k+1) [1,2,3] (by decide) ⟨hkn,Q0W HA.out HRK.out⟩ (by omega) (.cons rfl rfl (.cons rfl rfl (.cons rfl rfl (.cons rfl rfl (.cons rfl rfl (.cons rfl (by go_num) .nil)))))) rfl
  |true=>
   repeat(first|refine Q1 zM ?_|refine Q1 zA ?_|refine Q1 (zD 0) ?_|refine Q1 (zD 1) ?_|refine Q1 zE ?_|refine Q1 (zi (hj:=hkn)) ?_|refine yA (t:=65) fun b7=>?_|refine yW 0 ?_|(refine Q1 (Qb (f:=120) rfl rfl (by decide) rfl rfl (fun w hw=>(K5 (HLK.out.on hw.k.below) HOK.out ((Q3t F).trans HLEN.out) (hw.own 1 _ rfl)).mono (fun _ _ h=>h))) ?_;rw[HCF.out])|refine Q1 (Qb (f:=91) rfl rfl (by decide) rfl rfl (fun w hw=>Z5 _ _ w)) ?_|refine yW 2 ?_|refine Q8 ?_|refine Q9 ?_|refine Q3 ?_|refine Qt ?_|refine Qa rfl ?_|refine Qr ?_|refine Qi ?_|refine Qf ?_|refine Qg ?_|refine Q1 zlt ?_)
   exact Q7 (by exact .inr rfl) rfl (RsV.blk 2 rfl rfl rfl) (fun w hw=>VA (HT.out.trans (Q4Y (Yr F) hfi (by rw[HLEN.out];exact hkn) HRK.out HA.out)) hw)
 ·skip
  repeat(first|refine Q1 (QO (xs:=[]) (vs:=[]) (v:=.agg #[.int .i64 0,.int .i64 0]) rfl rfl (by decide) rfl rfl (fun w=>run_build w _ _ _ (by kernel_rfl))) ?_|refine yW 1 ?_|refine Q8 ?_|refine Q9 ?_|refine Q3 ?_|refine Q6 rfl ?_|refine XL ?_|refine Qr ?_|refine Q1 zlf ?_)
  exact Q7 (by exact .inr rfl) rfl (RsV.blk 1 rfl rfl rfl) (fun w hw=>VA (HT.out.trans (Qag (Yr F) hfi (fun j hj=>HA.out j (by rw[HLEN.out] at hj;omega)))) hw)
end Go.Proofs.YtphkhfdmlcnoeaaGreatDoor
