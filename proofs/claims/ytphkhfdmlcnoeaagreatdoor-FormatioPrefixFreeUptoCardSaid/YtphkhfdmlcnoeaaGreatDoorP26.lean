import Derived.Test.YtphkhfdmlcnoeaaGreatDoorP23
import Derived.Test.YtphkhfdmlcnoeaaGreatDoorP25
import Derived.Lib.ItoaLen
namespace Go.Proofs.YtphkhfdmlcnoeaaGreatDoor
set_option linter.unusedVariables false
set_option linter.unusedSimpArgs false
open Go.RowKit
section
variable {ops:Array Oper}{C:World→Prop}{N:Nat}{E:Env}{o:Oper}{d:Nat}
theorem Je{x y:Operand}{t':TypeId}{a b a' b':Int}{v:Bool}(ho:o.op=.binOp .neq 32 x y t')(hd:o.dst=some d)(hN:d<N)(hw:Qj ops E o=some true)(hx:ev E x=some (.agg #[.int .i64 a,.int .i64 b]))(hy:ev E y=some (.agg #[.int .i64 a',.int .i64 b']))(hb:(!(a==a'&&b==b'))=v):oE Tryz.prog ops C N E ((d,.bool v)::E) o:=
 Xq hd hN hw fun ρ w ha _=>by
  subst hb
  by_cases h1:a=a'<;>by_cases h2:b=b'<;>simp [execOp,ho,ha.eval hx,ha.eval hy,h1,h2,go_sem]
end
theorem Q98(m:Nat):∀ws:List (List UInt8),(∀w∈ws,w.length≤m)→(Lib.join ws [32]).length≤ws.length*(m+1)
 |[],_=>by simp [Lib.join]
 |[x],h=>by
  rw[Lib.join_one];have:=h x List.mem_cons_self
  simp only[List.length_cons,List.length_nil]
  omega
 |x::y::l,h=>by
  have ih:=Q98 m (y::l) fun w hw=>h w (List.mem_cons_of_mem _ hw)
  rw[Lib.join_cons,Q3W,← Lib.join_cons];have:=h x List.mem_cons_self
  simp only[List.length_append,List.length_cons,List.length_nil] at ih ⊢
  rw[Nat.add_mul] at ih ⊢;rw[Nat.add_mul]
  omega
theorem Q0G{v:Int}(h:0≤v∧v≤4294967295):(Lib.itoa v).length≤100:=by
 have:=Lib.itoa_length_le v (by omega) (by omega)
 omega
theorem VY{u:Bool}{s w:List UInt8}(h:w∈ifW u s):w=s:=by
 unfold ifW at h
 split at h
 ·exact List.mem_singleton.1 h
 ·cases h
theorem VW(u:Bool)(s:List UInt8):(ifW u s).length≤1:=by
 unfold ifW
 split<;>simp
theorem Q8N{F:List Rl}{r:Rl}(h:LOk F r)(h0:0<F.length):(Lib.join (Ya F r) [32]).length≤1000000:=by
 have hN:=QbW h.ok h0
 have hnm:∀x:Int,0≤x∧x<F.length→(Q1B F x).length≤100:=fun x hx=>by have:=Yq (h.all x hx);omega
 have hlen:(Ya F r).length≤24:=by
  unfold Ya Q2V
  simp only[List.length_append,List.length_map,List.length_range,List.length_cons,List.length_nil]
  have:=h.ok.p12;have:=VW (r.kind==1) (Q3Q r.bs);have:=VW (Jn r.kind) (Lib.itoa r.stop);have:=VW (Jl r.kind) (Lib.itoa r.size);have:=VW (r.kind==2) (if r.big then Qdg else Q2r);have:=VW (r.kind==2) (Lib.itoa r.mn);have:=VW (JJ r.kind) (Lib.itoa r.mx);have:=VW (QP r.kind) (Q1B F r.count);have:=VW (Ka r.kind) (Q1B F r.elem)
  omega
 have hw:∀w∈Ya F r,w.length≤100:=by
  intro w hw
  unfold Ya Q2V at hw
  simp only[List.mem_append] at hw
  rcases hw with (((((((((hw|hw)|hw)|hw)|hw)|hw)|hw)|hw)|hw))|hw
  ·rcases List.mem_cons.1 hw with rfl|hw
   ·have:=Yq h.name;omega
   ·rw[List.mem_singleton.1 hw];have hk:=h.ok.kind
    rcases (show r.kind=1∨r.kind=2∨r.kind=3∨r.kind=4∨r.kind=5∨r.kind=6∨r.kind=7∨r.kind=8∨r.kind=9∨r.kind=10 by omega) with e|e|e|e|e|e|e|e|e|e<;>rw[e]<;>decide
  ·rw[VY hw,Yo];have:=h.ok.bs16;omega
  ·rw[VY hw];exact Q0G hN.stop
  ·rw[VY hw];exact Q0G hN.size
  ·rw[VY hw];split<;>decide
  ·rw[VY hw];exact Q0G hN.mn
  ·rw[VY hw];exact Q0G hN.mx
  ·rw[VY hw];exact hnm _ hN.count
  ·rw[VY hw];exact hnm _ hN.elem
  ·rw[List.mem_map] at hw;obtain⟨i,hi,rfl⟩:=hw;rw[List.mem_range] at hi
   have hp:(Q1B F (r.parts.getD i 0)).length≤32:=by
    by_cases h78:r.kind=7∨r.kind=8
    ·exact Yq (h.all _ (h.ok.parts h78 _ (by rw[List.getD_eq_getElem?_getD,List.getElem?_eq_getElem hi];exact List.getElem_mem hi)))
    ·rw[(Qcn h.ok).parts (by omega) (by omega)] at hi;exact absurd hi (by simp)
   unfold Zj
   rw[List.length_append]
   split
   ·next h7=>
    have h7':r.kind=7:=by simpa using h7
    have hs:=(h.ok.seven h7').1;rw[List.length_append]
    split
    ·simp only[List.length_cons,List.length_nil];omega
    ·next hne=>
     have hg:r.names.getD i []=r.names[i]:=by rw[List.getD_eq_getElem?_getD,List.getElem?_eq_getElem (by omega)];rfl
     have hi2:i<r.names.length:=by omega
     have:(r.names.getD i []).length≤32:=by
      rw[hg]
      rcases h.part h7' r.names[i] (List.getElem_mem hi2) with e|e
      ·rw[e];decide
      ·exact Yq e
     simp only[List.length_cons,List.length_nil];omega
   ·simp only[List.length_nil];omega
 have:=Q98 100 (Ya F r) hw;have h2:(Ya F r).length*(100+1)≤24*(100+1):=Nat.mul_le_mul_right _ hlen
 omega
def Q1o(F:List Rl)(k:Nat):List UInt8:=((F.take k).map (Q3z F)).flatten
theorem Q7p{F:List Rl}{k:Nat}{r:Rl}(h:F[k]? =some r):Q1o F k++Q3z F r=Q1o F (k+1):=by
 unfold Q1o
 rw[List.take_add_one,h]
 simp
theorem Q9Z{F:List Rl}{k:Nat}(h:F.length≤k):Q1o F k=Q2a F:=by
 unfold Q1o Q2a
 rw[List.take_of_length_le h]
def Q5E(F:List Rl):List UInt8:=if QL F=(0,0) then Q2a F else []
def QfD(W:World)(l:List UInt8)(p:Int×Int)(e:Ending)(w':World):Prop:=e=.returned (.tuple #[.string ⟨l.toArray⟩,.agg #[.int .i64 p.1,.int .i64 p.2]])∧Below W.heap.size W w'
set_option maxRecDepth 100000 in
set_option maxHeartbeats 16000000 in
theorem Q7l{F:List Rl}{A:Option Addr}{n c:Nat}{W:World}(hf:Xm W W.heap.size A n F)(hs:FSm F)(hc:n≤c)(hg:GV W):
  Calls Tryz.prog 51 #[.agg #[.slice A n c]] W (QfD W (Q5E F) (QL F)):=by
 have hlen:F.length=n:=hf.1;have HFM:=Lib.hid hf;have HS:=Lib.hid hs;have HG:=Lib.hid hg;have HLEN:=Lib.hid hlen;clear hf hs hg hlen;obtain⟨⟨a,b⟩,hab⟩:∃p,XC F=p:=⟨_,rfl⟩;have HC:=Lib.hid hab;clear hab
 go_enter Tryz.func51,Tryz.ntmps51
 refine QE (M:=[]) (W:=W) (N:=33) (E:=[(0,.agg #[.slice A n c])]) (O:=[]) ?_ (Ag.cons (Ag.nil rfl rfl) rfl) (Wd.start [] W)
 by_cases hz:a=0∧b=0
 case neg=>
  have hne:(!(a==0&&b==0))=true:=by
   rw[Bool.not_eq_true',Bool.and_eq_false_iff,beq_eq_false_iff_ne,beq_eq_false_iff_ne]
   omega
  repeat(first|refine Q1 zA ?_|refine Q1 (zD 0) ?_|refine Q1 (zD 1) ?_|refine Qo (Y3 rfl rfl rfl rfl) rfl (by decide) (fun bf _=>?_)|refine Qo (QT (t:=32) rfl rfl) rfl (by decide) (fun b2 _=>?_)|(refine Q1 (Qb (f:=89) rfl rfl (by decide) rfl rfl (fun w hw=>(Q28 (HFM.out.on hw.k.below) HS.out hc).mono (fun _ _ h=>by rw[HC.out] at h;exact h))) ?_)|(refine QJ (Ql 0 rfl rfl rfl rfl rfl rfl rfl (by simp)) rfl (fun _ _=>?_);rw[Qn (by rfl)])|refine Q1 (QO (xs:=[]) (vs:=[]) (v:=.agg #[.int .i64 0,.int .i64 0]) rfl rfl (by decide) rfl rfl (fun w=>run_build w _ _ _ (by kernel_rfl))) ?_|refine Q1 (Je rfl rfl (by decide) rfl rfl rfl hne) ?_|refine Q8 ?_|refine Q9 ?_|refine Q3 ?_|refine Qa rfl ?_)
  refine ZA [2] (by kernel_rfl) ?_;refine Qe 0 rfl (by kernel_rfl) (Q2.rfl_) (zD 0) ?_;refine Qe 1 rfl (by kernel_rfl) (Q2.rfl_) zA ?_;refine Qu 2 (by kernel_rfl) rfl rfl (Ql 1 rfl rfl rfl rfl rfl rfl rfl (by simp)) (fun _=>.inl (by decide)) rfl (fun _ _=>?_);rw[Qn (by rfl)];refine Xh ?_ (by kernel_rfl);refine Qr (Qf ?_);refine Ve (by exact .inr rfl) rfl (.tmp rfl) (RsV.blk 1 rfl rfl rfl) (fun w hw=>⟨?_,hw.k.below⟩)
  have hff:QL F=(a,b):=by
   unfold QL
   rw[HC.out,if_pos];intro h;exact hz (by simpa using h)
  unfold Q5E
  rw[hff,if_neg (fun h=>hz (by simpa using h))]
 case pos=>
  obtain⟨rfl,rfl⟩:=hz;have hlo:=Q7Q HC.out;have hlon:=hlo.1;have hlox:=hlo.2;rw[HLEN.out] at hlon hlox;clear hlo;obtain⟨b,o,rfl⟩:=HFM.out.addr hlon;have hpok:=Q33 HC.out;have HP:=Lib.hid hpok;clear hpok
  repeat(first|refine Q1 zM ?_|refine Q1 zA ?_|refine Q1 zF ?_|refine Q1 (zB 2) ?_|refine Q1 (zD 0) ?_|refine Q1 (zD 1) ?_|refine Qo (Y3 rfl rfl rfl rfl) rfl (by decide) (fun bf _=>?_)|refine Qo (QT (t:=32) rfl rfl) rfl (by decide) (fun b2 _=>?_)|(refine Q1 (Qb (f:=89) rfl rfl (by decide) rfl rfl (fun w hw=>(Q28 (HFM.out.on hw.k.below) HS.out hc).mono (fun _ _ h=>by rw[HC.out] at h;exact h))) ?_)|(refine QJ (Ql 0 rfl rfl rfl rfl rfl rfl rfl (by simp)) rfl (fun _ _=>?_);rw[Qn (by rfl)])|refine Q1 (QO (xs:=[]) (vs:=[]) (v:=.agg #[.int .i64 0,.int .i64 0]) rfl rfl (by decide) rfl rfl (fun w=>run_build w _ _ _ (by kernel_rfl))) ?_|refine Q1 (Je rfl rfl (by decide) rfl rfl rfl rfl) ?_|refine Q8 ?_|refine Q9 ?_|refine Q3 ?_|refine Qt ?_|refine Q6 rfl ?_|refine Qi ?_|refine Q1 zL ?_)
  rename_i b3 _ _ _ _
  refine Z2 (ι:=Nat) (fun k=>k≤n∧(Q1o F k).length≤k*1000001) (fun k=>n - k) (fun k=>[(1,.pointer (some ⟨bf,0,none⟩)),(3,.pointer (some ⟨b3,0,none⟩)),(5,.string ⟨(Q1o F k).toArray⟩),(15,.slice (some ⟨b,o,none⟩) n c),(16,.int .i64 (n:Int)),(17,.int .i64 (k:Int))]) (fun _=>[.blk b3 (.cells [.int .i64 0,.int .i64 0].toArray 32 (0,0)),.blk bf (.cells [.slice (some ⟨b,o,none⟩) n c].toArray 24 (0,0))]) 0 [1,2] (by decide) ⟨Nat.zero_le _,by unfold Q1o;simp⟩ (.cons rfl rfl (.cons rfl rfl (.cons rfl rfl (.cons rfl rfl (.cons rfl rfl (.cons rfl rfl .nil)))))) rfl ?_
  rintro k ⟨hk,htx⟩
  by_cases hkn:k<n
  ·obtain⟨rk,Ab,cb,An,cn,Ap,cp,hrk,hrg,hlk⟩:=HFM.out.rl hkn;have HLK:=Lib.hid hlk;have HLO:=Lib.hid (HP.out.line hrk);have HST:=Lib.hid (Q7p hrk);have hsm:=Q8N HLO.out (by rw[HLEN.out];exact hlon)
   have hll:(Q3z F rk).length≤1000001:=by unfold Q3z;rw[List.length_append];simp only[List.length_cons,List.length_nil];omega
   clear hrk hlk
   repeat(first|refine Q1 zM ?_|refine Q1 zA ?_|refine Q1 (zD 0) ?_|refine Q1 (zD 2) ?_|refine Q1 zE ?_|refine Q1 (QY rfl rfl (by decide) rfl rfl rfl hkn) ?_|refine Qo (QT (t:=65) rfl rfl) rfl (by decide) (fun b7 _=>?_)|(refine QJ (Ql 0 rfl rfl rfl rfl rfl rfl rfl (by simp)) rfl (fun _ _=>?_);rw[Qn (by rfl)])|refine Q1 (Qb (f:=90) rfl rfl (by decide) rfl rfl (fun w hw=>(Q8K (HFM.out.on hw.k.below) (HLK.out.on hw.k.below) HLO.out hlon (HG.out.on hw.k.below) hsm).mono (fun _ _ h=>h))) ?_|(refine Q1 (Q1H rfl rfl (by decide) rfl rfl rfl (by rw[ZS,ZS];omega)) ?_;rw[Q1M,HST.out])|refine Q8 ?_|refine Q9 ?_|refine Q3 ?_|refine Qt ?_|refine Qa rfl ?_|refine Qi ?_|refine Q1 (XS rfl rfl (by decide) rfl rfl rfl (by first|exact decide_eq_true (by omega)|rfl)) ?_|refine Q1 zP ?_)
   refine Xc (k+1) [1,2] (by decide) ⟨hkn,?_⟩ (by omega) (.cons rfl rfl (.cons rfl rfl (.cons rfl rfl (.cons rfl rfl (.cons rfl rfl (.cons rfl (by go_num) .nil)))))) rfl;rw[← HST.out,List.length_append,Nat.add_mul]
   omega
  ·have hall:Q1o F k=Q2a F:=Q9Z (by rw[HLEN.out];omega);rw[hall] at htx ⊢;have hsz:=ZS (Q2a F)
   by_cases hbig:2000<(Q2a F).length
   ·skip
    repeat(first|refine Q1 zM ?_|refine Q1 zA ?_|refine Q1 (Qb (f:=91) rfl rfl (by decide) rfl rfl (fun w hw=>Z5 _ _ w)) ?_|(refine QJ (Ql 0 rfl rfl rfl rfl rfl rfl rfl (by simp)) rfl (fun _ _=>?_);rw[Qn (by rfl)])|refine Q8 ?_|refine Q9 ?_|refine Q3 ?_|refine Qa rfl ?_|refine Q6 rfl ?_|refine XL ?_|refine Qr ?_|refine Qf ?_|refine Q1 (Qaw Tryz.underlying9 rfl rfl (by decide) rfl rfl) ?_|refine Q1 (XS rfl rfl (by decide) rfl rfl rfl (by first|exact decide_eq_false (by omega)|rfl)) ?_|refine Q1 zgt ?_)
    refine Ve (by exact .inr rfl) rfl (.tmp rfl) (RsV.blk 0 rfl rfl rfl) (fun w hw=>⟨?_,hw.k.below⟩)
    have hff:QL F=(14,-1):=by
     unfold QL
     rw[HC.out,if_neg (fun h=>h rfl),if_pos hbig]
    unfold Q5E
    rw[hff,if_neg (by decide)]
   ·skip
    repeat(first|refine Q1 zM ?_|refine Q1 zA ?_|refine Q1 (QO (xs:=[]) (vs:=[]) (v:=.agg #[.int .i64 0,.int .i64 0]) rfl rfl (by decide) rfl rfl (fun w=>run_build w _ _ _ (by kernel_rfl))) ?_|(refine QJ (Ql 0 rfl rfl rfl rfl rfl rfl rfl (by simp)) rfl (fun _ _=>?_);rw[Qn (by rfl)])|refine Q8 ?_|refine Q9 ?_|refine Q3 ?_|refine Qt ?_|refine Q6 rfl ?_|refine XL ?_|refine Qr ?_|refine Q1 (Qaw Tryz.underlying9 rfl rfl (by decide) rfl rfl) ?_|refine Q1 (XS rfl rfl (by decide) rfl rfl rfl (by first|exact decide_eq_false (by omega)|rfl)) ?_|refine Q1 zgf ?_)
    refine Ve (by exact .inr rfl) rfl (.tmp rfl) (RsV.blk 0 rfl rfl rfl) (fun w hw=>⟨?_,hw.k.below⟩)
    have hff:QL F=(0,0):=by
     unfold QL
     rw[HC.out,if_neg (fun h=>h rfl),if_neg hbig]
    unfold Q5E
    rw[hff,if_pos rfl]
set_option maxRecDepth 100000 in
set_option maxHeartbeats 4000000 in
theorem Xv{F:List Rl}{A:Option Addr}{n c:Nat}{W:World}(hf:Xm W W.heap.size A n F)(hs:FSm F)(hc:n≤c)(hg:GV W):
  Calls Tryz.prog 28 #[.agg #[.slice A n c]] W (Q97 W (QL F)):=by
 have HFM:=Lib.hid hf;have HS:=Lib.hid hs;have HG:=Lib.hid hg;clear hf hs hg
 go_enter Tryz.func28,Tryz.ntmps28
 refine QE (M:=[]) (W:=W) (N:=11) (E:=[(0,.agg #[.slice A n c])]) (O:=[]) ?_ (Ag.cons (Ag.nil rfl rfl) rfl) (Wd.start [] W)
 repeat(first|refine Q1 zM ?_|refine Q1 zA ?_|refine Q1 (zD 0) ?_|refine Q1 (zD 1) ?_|refine Qo (Y3 rfl rfl rfl rfl) rfl (by decide) (fun bf _=>?_)|refine Qo (QT (t:=32) rfl rfl) rfl (by decide) (fun b2 _=>?_)|refine Q1 (Qb (f:=51) rfl rfl (by decide) rfl rfl (fun w hw=>(Q7l (HFM.out.on hw.k.below) HS.out hc (HG.out.on hw.k.below)).mono (fun _ _ h=>h))) ?_|(refine QJ (Ql 0 rfl rfl rfl rfl rfl rfl rfl (by simp)) rfl (fun _ _=>?_);rw[Qn (by rfl)])|(refine QJ (Ql 1 rfl rfl rfl rfl rfl rfl rfl (by simp)) rfl (fun _ _=>?_);rw[Qn (by rfl)])|refine Q8 ?_|refine Q9 ?_|refine Q3 ?_|refine Qr ?_|refine Q1 zX ?_)
 exact Q7 (by exact .inr rfl) rfl (RsV.blk 1 rfl rfl rfl) (fun w hw=>⟨rfl,hw.k.below⟩)
def Q2m(F:List Rl)(k:Int):Int×Int:=if QL F≠(0,0) then QL F else if inB k 0 ((F.length:Int) - 1) then (0,0) else (4,-2)
set_option maxRecDepth 100000 in
set_option maxHeartbeats 4000000 in
theorem Y0{F:List Rl}{A:Option Addr}{n c:Nat}{k:Int}{W:World}(hf:Xm W W.heap.size A n F)(hs:FSm F)(hc:n≤c)(hg:GV W):
  Calls Tryz.prog 54 #[.agg #[.slice A n c],.int .i64 k] W (Q97 W (Q2m F k)):=by
 have hlen:F.length=n:=hf.1
 have hsz:n≤1048576:=by rw[← hlen];exact hs.1
 have HFM:=Lib.hid hf;have HS:=Lib.hid hs;have HG:=Lib.hid hg;have HLEN:=Lib.hid hlen;clear hf hs hg hlen;obtain⟨⟨a,b⟩,hab⟩:∃p,QL F=p:=⟨_,rfl⟩;have HC:=Lib.hid hab;clear hab
 go_enter Tryz.func54,Tryz.ntmps54
 refine QE (M:=[]) (W:=W) (N:=21) (E:=[(0,.agg #[.slice A n c]),(1,.int .i64 k)]) (O:=[]) ?_ (Ag.cons (Ag.cons (Ag.nil rfl rfl) rfl) rfl) (Wd.start [] W)
 by_cases hz:a=0∧b=0
 case neg=>
  have hne:(!(a==0&&b==0))=true:=by
   rw[Bool.not_eq_true',Bool.and_eq_false_iff,beq_eq_false_iff_ne,beq_eq_false_iff_ne]
   omega
  repeat(first|refine Q1 (zD 0) ?_|refine Q1 (zD 1) ?_|refine Qo (Y3 rfl rfl rfl rfl) rfl (by decide) (fun bf _=>?_)|refine Qo (QT (t:=32) rfl rfl) rfl (by decide) (fun b2 _=>?_)|(refine Q1 (Qb (f:=28) rfl rfl (by decide) rfl rfl (fun w hw=>(Xv (HFM.out.on hw.k.below) HS.out hc (HG.out.on hw.k.below)).mono (fun _ _ h=>by rw[HC.out] at h;exact h))) ?_)|refine Q1 (QO (xs:=[]) (vs:=[]) (v:=.agg #[.int .i64 0,.int .i64 0]) rfl rfl (by decide) rfl rfl (fun w=>run_build w _ _ _ (by kernel_rfl))) ?_|refine Q1 (Je rfl rfl (by decide) rfl rfl rfl hne) ?_|(refine QJ (Ql 0 rfl rfl rfl rfl rfl rfl rfl (by simp)) rfl (fun _ _=>?_);rw[Qn (by rfl)])|(refine QJ (Ql 1 rfl rfl rfl rfl rfl rfl rfl (by simp)) rfl (fun _ _=>?_);rw[Qn (by rfl)])|refine Q8 ?_|refine Q9 ?_|refine Q3 ?_|refine Qa rfl ?_|refine Qr ?_|refine Qf ?_)
  refine Q7 (by exact .inr rfl) rfl (RsV.blk 1 rfl rfl rfl) (fun w hw=>VA ?_ hw)
  unfold Q2m
  rw[HC.out,if_pos (fun h=>hz (by simpa using h))]
 case pos=>
  obtain⟨rfl,rfl⟩:=hz;obtain⟨u,hu⟩:∃u,inB k 0 ((n:Int) - 1)=u:=⟨_,rfl⟩;have HU:=Lib.hid hu;clear hu
  cases u with
  |true=>
   repeat(first|refine Q1 zM ?_|refine Q1 zF ?_|refine Q1 (zB 2) ?_|refine Q1 (zD 0) ?_|refine Q1 (zD 1) ?_|refine Qo (Y3 rfl rfl rfl rfl) rfl (by decide) (fun bf _=>?_)|refine Qo (QT (t:=32) rfl rfl) rfl (by decide) (fun b2 _=>?_)|(refine Q1 (Qb (f:=28) rfl rfl (by decide) rfl rfl (fun w hw=>(Xv (HFM.out.on hw.k.below) HS.out hc (HG.out.on hw.k.below)).mono (fun _ _ h=>by rw[HC.out] at h;exact h))) ?_)|(refine Q1 (Qb (f:=95) rfl rfl (by decide) rfl rfl (fun w hw=>Calls.stay (X5 _ _ _ w))) ?_;rw[HU.out])|refine Q1 (QO (xs:=[]) (vs:=[]) (v:=.agg #[.int .i64 0,.int .i64 0]) rfl rfl (by decide) rfl rfl (fun w=>run_build w _ _ _ (by kernel_rfl))) ?_|refine Q1 (Je rfl rfl (by decide) rfl rfl rfl rfl) ?_|(refine QJ (Ql 0 rfl rfl rfl rfl rfl rfl rfl (by simp)) rfl (fun _ _=>?_);rw[Qn (by rfl)])|(refine QJ (Ql 1 rfl rfl rfl rfl rfl rfl rfl (by simp)) rfl (fun _ _=>?_);rw[Qn (by rfl)])|refine Q8 ?_|refine Q9 ?_|refine Q3 ?_|refine Qt ?_|refine Q6 rfl ?_|refine Qr ?_|refine Q1 zL ?_|refine Q1 zO ?_|refine Q1 zQ ?_)
   refine Q7 (by exact .inr rfl) rfl (RsV.blk 1 rfl rfl rfl) (fun w hw=>VA ?_ hw)
   unfold Q2m
   rw[HC.out,if_neg (fun h=>h rfl),HLEN.out,HU.out,if_pos rfl]
  |false=>
   repeat(first|refine Q1 zM ?_|refine Q1 zF ?_|refine Q1 (zB 2) ?_|refine Q1 (zD 0) ?_|refine Q1 (zD 1) ?_|refine Qo (Y3 rfl rfl rfl rfl) rfl (by decide) (fun bf _=>?_)|refine Qo (QT (t:=32) rfl rfl) rfl (by decide) (fun b2 _=>?_)|(refine Q1 (Qb (f:=28) rfl rfl (by decide) rfl rfl (fun w hw=>(Xv (HFM.out.on hw.k.below) HS.out hc (HG.out.on hw.k.below)).mono (fun _ _ h=>by rw[HC.out] at h;exact h))) ?_)|(refine Q1 (Qb (f:=95) rfl rfl (by decide) rfl rfl (fun w hw=>Calls.stay (X5 _ _ _ w))) ?_;rw[HU.out])|refine Q1 (Qb (f:=91) rfl rfl (by decide) rfl rfl (fun w hw=>Z5 _ _ w)) ?_|refine Q1 (QO (xs:=[]) (vs:=[]) (v:=.agg #[.int .i64 0,.int .i64 0]) rfl rfl (by decide) rfl rfl (fun w=>run_build w _ _ _ (by kernel_rfl))) ?_|refine Q1 (Je rfl rfl (by decide) rfl rfl rfl rfl) ?_|(refine QJ (Ql 0 rfl rfl rfl rfl rfl rfl rfl (by simp)) rfl (fun _ _=>?_);rw[Qn (by rfl)])|(refine QJ (Ql 1 rfl rfl rfl rfl rfl rfl rfl (by simp)) rfl (fun _ _=>?_);rw[Qn (by rfl)])|refine Q8 ?_|refine Q9 ?_|refine Q3 ?_|refine Qt ?_|refine Qa rfl ?_|refine Q6 rfl ?_|refine Qr ?_|refine Qf ?_|refine Q1 zL ?_|refine Q1 zO ?_|refine Q1 zQ ?_)
   refine Q7 (by exact .inr rfl) rfl (RsV.blk 1 rfl rfl rfl) (fun w hw=>VA ?_ hw)
   unfold Q2m
   rw[HC.out,if_neg (fun h=>h rfl),HLEN.out,HU.out,if_neg Bool.false_ne_true]
end Go.Proofs.YtphkhfdmlcnoeaaGreatDoor
