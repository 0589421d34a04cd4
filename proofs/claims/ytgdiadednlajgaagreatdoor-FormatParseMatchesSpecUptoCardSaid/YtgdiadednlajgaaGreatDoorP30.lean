import Derived.Test.YtgdiadednlajgaaGreatDoorP27
import Derived.Test.YtgdiadednlajgaaGreatDoorP29
namespace Go.Proofs.YtgdiadednlajgaaGreatDoor
set_option linter.unusedVariables false
set_option linter.unusedSimpArgs false
open Go.RowKit
section
variable {ops:Array Oper}{C:World→Prop}{N:Nat}{E:Env}{o:Oper}{d:Nat}
theorem VC{x y:Operand}{t':TypeId}{a b a' b':Int}{v:Bool}(ho:o.op=.binOp .neq 27 x y t')(hd:o.dst=some d)(hN:d<N)(hw:Qm ops E o=some true)(hx:ev E x=some (.agg #[.int .i64 a,.int .i64 b]))(hy:ev E y=some (.agg #[.int .i64 a',.int .i64 b']))(hb:(!(a==a'&&b==b'))=v):oE Tryz.prog ops C N E ((d,.bool v)::E) o:=
 XL hd hN hw fun ρ w ha _=>by
  subst hb
  by_cases h1:a=a'<;>by_cases h2:b=b'<;>simp [execOp,ho,ha.eval hx,ha.eval hy,h1,h2,go_sem]
end
theorem Q9g(m:Nat):∀ws:List (List UInt8),(∀w∈ws,w.length≤m)→(Lib.join ws [32]).length≤ws.length*(m+1)
 |[],_=>by simp [Lib.join]
 |[x],h=>by
  rw[Lib.join_one];have:=h x List.mem_cons_self
  simp only[List.length_cons,List.length_nil]
  omega
 |x::y::l,h=>by
  have ih:=Q9g m (y::l) fun w hw=>h w (List.mem_cons_of_mem _ hw)
  rw[Lib.join_cons,XH,← Lib.join_cons];have:=h x List.mem_cons_self
  simp only[List.length_append,List.length_cons,List.length_nil] at ih ⊢
  rw[Nat.add_mul] at ih ⊢;rw[Nat.add_mul]
  omega
theorem Q1f{v:Int}(h:0≤v∧v≤4294967295):(Lib.itoa v).length≤100:=by
 have:=Lib.itoa_length_le v (by omega) (by omega)
 omega
theorem Yo{u:Bool}{s w:List UInt8}(h:w∈ifW u s):w=s:=by
 unfold ifW at h
 split at h
 ·exact List.mem_singleton.1 h
 ·cases h
theorem Yn(u:Bool)(s:List UInt8):(ifW u s).length≤1:=by
 unfold ifW
 split<;>simp
theorem Q8O{F:List Rl}{r:Rl}(h:LOk F r)(h0:0<F.length):(Lib.join (XZ F r) [32]).length≤1000000:=by
 have hN:=Q8q h.ok h0
 have hnm:∀x:Int,0≤x∧x<F.length→(Zv F x).length≤100:=fun x hx=>by have:=YO (h.all x hx);omega
 have hlen:(XZ F r).length≤24:=by
  unfold XZ KI
  simp only[List.length_append,List.length_map,List.length_range,List.length_cons,List.length_nil]
  have:=h.ok.p12;have:=Yn (r.kind==1) (Jr r.bs);have:=Yn (Z7 r.kind) (Lib.itoa r.stop);have:=Yn (Z4 r.kind) (Lib.itoa r.size);have:=Yn (r.kind==2) (if r.big then V3 else Ze);have:=Yn (r.kind==2) (Lib.itoa r.mn);have:=Yn (Zf r.kind) (Lib.itoa r.mx);have:=Yn (Qp r.kind) (Zv F r.count);have:=Yn (XJ r.kind) (Zv F r.elem)
  omega
 have hw:∀w∈XZ F r,w.length≤100:=by
  intro w hw
  unfold XZ KI at hw
  simp only[List.mem_append] at hw
  rcases hw with (((((((((hw|hw)|hw)|hw)|hw)|hw)|hw)|hw)|hw))|hw
  ·rcases List.mem_cons.1 hw with rfl|hw
   ·have:=YO h.name;omega
   ·rw[List.mem_singleton.1 hw];have hk:=h.ok.kind
    rcases (show r.kind=1∨r.kind=2∨r.kind=3∨r.kind=4∨r.kind=5∨r.kind=6∨r.kind=7∨r.kind=8∨r.kind=9∨r.kind=10 by omega) with e|e|e|e|e|e|e|e|e|e<;>rw[e]<;>decide
  ·rw[Yo hw,Ya];have:=h.ok.bs16;omega
  ·rw[Yo hw];exact Q1f hN.stop
  ·rw[Yo hw];exact Q1f hN.size
  ·rw[Yo hw];split<;>decide
  ·rw[Yo hw];exact Q1f hN.mn
  ·rw[Yo hw];exact Q1f hN.mx
  ·rw[Yo hw];exact hnm _ hN.count
  ·rw[Yo hw];exact hnm _ hN.elem
  ·rw[List.mem_map] at hw;obtain⟨i,hi,rfl⟩:=hw;rw[List.mem_range] at hi
   have hp:(Zv F (r.parts.getD i 0)).length≤32:=by
    by_cases h78:r.kind=7∨r.kind=8
    ·exact YO (h.all _ (h.ok.parts h78 _ (by rw[List.getD_eq_getElem?_getD,List.getElem?_eq_getElem hi];exact List.getElem_mem hi)))
    ·rw[(Q1m h.ok).parts (by omega) (by omega)] at hi;exact absurd hi (by simp)
   unfold XW
   rw[List.length_append]
   split
   ·next h7=>
    have h7':r.kind=7:=by simpa using h7
    have hs:=(h.ok.seven h7').1;rw[List.length_append]
    split
    ·simp only[List.length_cons,List.length_nil];omega
    ·next hne=>
     have hg:r.names.getD i []=r.names[i]:=by rw[List.getD_eq_getElem?_getD,List.getElem?_eq_getElem (by omega)];rfl
     have hi2:i<r.names.length:=by omega
     have:(r.names.getD i []).length≤32:=by
      rw[hg]
      rcases h.part h7' r.names[i] (List.getElem_mem hi2) with e|e
      ·rw[e];decide
      ·exact YO e
     simp only[List.length_cons,List.length_nil];omega
   ·simp only[List.length_nil];omega
 have:=Q9g 100 (XZ F r) hw;have h2:(XZ F r).length*(100+1)≤24*(100+1):=Nat.mul_le_mul_right _ hlen
 omega
def Q10(F:List Rl)(k:Nat):List UInt8:=((F.take k).map (YF F)).flatten
theorem Q8S{F:List Rl}{k:Nat}{r:Rl}(h:F[k]? =some r):Q10 F k++YF F r=Q10 F (k+1):=by
 unfold Q10
 rw[List.take_add_one,h]
 simp
theorem Qaw{F:List Rl}{k:Nat}(h:F.length≤k):Q10 F k=J1 F:=by
 unfold Q10 J1
 rw[List.take_of_length_le h]
def JT(F:List Rl):List UInt8:=if QO F=(0,0) then J1 F else []
def Qf5(W:World)(l:List UInt8)(p:Int×Int)(e:Ending)(w':World):Prop:=e=.returned (.tuple #[.string ⟨l.toArray⟩,.agg #[.int .i64 p.1,.int .i64 p.2]])∧Below W.heap.size W w'
set_option maxRecDepth 100000 in
set_option maxHeartbeats 16000000 in
theorem JJ{F:List Rl}{A:Option Addr}{n c:Nat}{W:World}(hf:Xq W W.heap.size A n F)(hs:FSm F)(hc:n≤c)(hg:GV W):
  Calls Tryz.prog 19 #[.agg #[.slice A n c]] W (Qf5 W (JT F) (QO F)):=by
 have hlen:F.length=n:=hf.1;have HFM:=Lib.hid hf;have HS:=Lib.hid hs;have HG:=Lib.hid hg;have HLEN:=Lib.hid hlen;clear hf hs hg hlen;obtain⟨⟨a,b⟩,hab⟩:∃p,Xb F=p:=⟨_,rfl⟩;have HC:=Lib.hid hab;clear hab
 go_enter Tryz.func19,Tryz.ntmps19
 refine QE (M:=[]) (W:=W) (N:=33) (E:=[(0,.agg #[.slice A n c])]) (O:=[]) ?_ (Ag.cons (Ag.nil rfl rfl) rfl) (Wd.start [] W)
 by_cases hz:a=0∧b=0
 case neg=>
  have hne:(!(a==0&&b==0))=true:=by
   rw[Bool.not_eq_true',Bool.and_eq_false_iff,beq_eq_false_iff_ne,beq_eq_false_iff_ne]
   omega
  repeat(first|refine Q1 zA ?_|refine Q1 (zD 0) ?_|refine Q1 (zD 1) ?_|refine Qa (V6 rfl rfl rfl rfl) rfl (by decide) (fun bf _=>?_)|refine Qa (Xn (t:=27) rfl rfl) rfl (by decide) (fun b2 _=>?_)|(refine Q1 (Q4 (f:=37) rfl rfl (by decide) rfl rfl (fun w hw=>(Q2l (HFM.out.on hw.k.below) HS.out hc).mono (fun _ _ h=>by rw[HC.out] at h;exact h))) ?_)|(refine Qq (Qs 0 rfl rfl rfl rfl rfl rfl rfl (by simp)) rfl (fun _ _=>?_);rw[Qw (by rfl)])|refine Q1 (QZ (xs:=[]) (vs:=[]) (v:=.agg #[.int .i64 0,.int .i64 0]) rfl rfl (by decide) rfl rfl (fun w=>run_build w _ _ _ (by kernel_rfl))) ?_|refine Q1 (VC rfl rfl (by decide) rfl rfl rfl hne) ?_|refine Q8 ?_|refine Q6 ?_|refine Q2 ?_|refine Q5 rfl ?_)
  refine ZW [2] (by kernel_rfl) ?_;refine Qk 0 rfl (by kernel_rfl) (Q7.rfl_) (zD 0) ?_;refine Qk 1 rfl (by kernel_rfl) (Q7.rfl_) zA ?_;refine Xw 2 (by kernel_rfl) rfl rfl (Qs 1 rfl rfl rfl rfl rfl rfl rfl (by simp)) (fun _=>.inl (by decide)) rfl (fun _ _=>?_);rw[Qw (by rfl)];refine Zc ?_ (by kernel_rfl);refine Ql (Qc ?_);refine Xv (by exact .inr rfl) rfl (.tmp rfl) (RsV.blk 1 rfl rfl rfl) (fun w hw=>⟨?_,hw.k.below⟩)
  have hff:QO F=(a,b):=by
   unfold QO
   rw[HC.out,if_pos];intro h;exact hz (by simpa using h)
  unfold JT
  rw[hff,if_neg (fun h=>hz (by simpa using h))]
 case pos=>
  obtain⟨rfl,rfl⟩:=hz;have hlo:=Q1N HC.out;have hlon:=hlo.1;have hlox:=hlo.2;rw[HLEN.out] at hlon hlox;clear hlo;obtain⟨b,o,rfl⟩:=HFM.out.addr hlon;have hpok:=KP HC.out;have HP:=Lib.hid hpok;clear hpok
  repeat(first|refine Q1 zM ?_|refine Q1 zA ?_|refine Q1 zF ?_|refine Q1 (zB 2) ?_|refine Q1 (zD 0) ?_|refine Q1 (zD 1) ?_|refine Qa (V6 rfl rfl rfl rfl) rfl (by decide) (fun bf _=>?_)|refine Qa (Xn (t:=27) rfl rfl) rfl (by decide) (fun b2 _=>?_)|(refine Q1 (Q4 (f:=37) rfl rfl (by decide) rfl rfl (fun w hw=>(Q2l (HFM.out.on hw.k.below) HS.out hc).mono (fun _ _ h=>by rw[HC.out] at h;exact h))) ?_)|(refine Qq (Qs 0 rfl rfl rfl rfl rfl rfl rfl (by simp)) rfl (fun _ _=>?_);rw[Qw (by rfl)])|refine Q1 (QZ (xs:=[]) (vs:=[]) (v:=.agg #[.int .i64 0,.int .i64 0]) rfl rfl (by decide) rfl rfl (fun w=>run_build w _ _ _ (by kernel_rfl))) ?_|refine Q1 (VC rfl rfl (by decide) rfl rfl rfl rfl) ?_|refine Q8 ?_|refine Q6 ?_|refine Q2 ?_|refine Qh ?_|refine Q3 rfl ?_|refine Qe ?_|refine Q1 zL ?_)
  rename_i b3 _ _ _ _
  refine X0 (ι:=Nat) (fun k=>k≤n∧(Q10 F k).length≤k*1000001) (fun k=>n - k) (fun k=>[(1,.pointer (some ⟨bf,0,none⟩)),(3,.pointer (some ⟨b3,0,none⟩)),(5,.string ⟨(Q10 F k).toArray⟩),(15,.slice (some ⟨b,o,none⟩) n c),(16,.int .i64 (n:Int)),(17,.int .i64 (k:Int))]) (fun _=>[.blk b3 (.cells [.int .i64 0,.int .i64 0].toArray 27 (0,0)),.blk bf (.cells [.slice (some ⟨b,o,none⟩) n c].toArray 24 (0,0))]) 0 [1,2] (by decide) ⟨Nat.zero_le _,by unfold Q10;simp⟩ (.cons rfl rfl (.cons rfl rfl (.cons rfl rfl (.cons rfl rfl (.cons rfl rfl (.cons rfl rfl .nil)))))) rfl ?_
  rintro k ⟨hk,htx⟩
  by_cases hkn:k<n
  ·obtain⟨rk,Ab,cb,An,cn,Ap,cp,hrk,hrg,hlk⟩:=HFM.out.rl hkn;have HLK:=Lib.hid hlk;have HLO:=Lib.hid (HP.out.line hrk);have HST:=Lib.hid (Q8S hrk);have hsm:=Q8O HLO.out (by rw[HLEN.out];exact hlon)
   have hll:(YF F rk).length≤1000001:=by unfold YF;rw[List.length_append];simp only[List.length_cons,List.length_nil];omega
   clear hrk hlk
   repeat(first|refine Q1 zM ?_|refine Q1 zA ?_|refine Q1 (zD 0) ?_|refine Q1 (zD 2) ?_|refine Q1 zE ?_|refine Q1 (Zy rfl rfl (by decide) rfl rfl rfl hkn) ?_|refine Qa (Xn (t:=52) rfl rfl) rfl (by decide) (fun b7 _=>?_)|(refine Qq (Qs 0 rfl rfl rfl rfl rfl rfl rfl (by simp)) rfl (fun _ _=>?_);rw[Qw (by rfl)])|refine Q1 (Q4 (f:=38) rfl rfl (by decide) rfl rfl (fun w hw=>(Q8Q (HFM.out.on hw.k.below) (HLK.out.on hw.k.below) HLO.out hlon (HG.out.on hw.k.below) hsm).mono (fun _ _ h=>h))) ?_|(refine Q1 (Q0K rfl rfl (by decide) rfl rfl rfl (by rw[Xh,Xh];omega)) ?_;rw[Q0z,HST.out])|refine Q8 ?_|refine Q6 ?_|refine Q2 ?_|refine Qh ?_|refine Q5 rfl ?_|refine Qe ?_|refine Q1 (Xu rfl rfl (by decide) rfl rfl rfl (by first|exact decide_eq_true (by omega)|rfl)) ?_|refine Q1 zP ?_)
   refine QA (k+1) [1,2] (by decide) ⟨hkn,?_⟩ (by omega) (.cons rfl rfl (.cons rfl rfl (.cons rfl rfl (.cons rfl rfl (.cons rfl rfl (.cons rfl (by go_num) .nil)))))) rfl;rw[← HST.out,List.length_append,Nat.add_mul]
   omega
  ·have hall:Q10 F k=J1 F:=Qaw (by rw[HLEN.out];omega);rw[hall] at htx ⊢;have hsz:=Xh (J1 F)
   by_cases hbig:2000<(J1 F).length
   ·skip
    repeat(first|refine Q1 zM ?_|refine Q1 zA ?_|refine Q1 (Q4 (f:=39) rfl rfl (by decide) rfl rfl (fun w hw=>XK _ _ w)) ?_|(refine Qq (Qs 0 rfl rfl rfl rfl rfl rfl rfl (by simp)) rfl (fun _ _=>?_);rw[Qw (by rfl)])|refine Q8 ?_|refine Q6 ?_|refine Q2 ?_|refine Q5 rfl ?_|refine Q3 rfl ?_|refine QX ?_|refine Ql ?_|refine Qc ?_|refine Q1 (Q3f Tryz.underlying9 rfl rfl (by decide) rfl rfl) ?_|refine Q1 (Xu rfl rfl (by decide) rfl rfl rfl (by first|exact decide_eq_false (by omega)|rfl)) ?_|refine Q1 zgt ?_)
    refine Xv (by exact .inr rfl) rfl (.tmp rfl) (RsV.blk 0 rfl rfl rfl) (fun w hw=>⟨?_,hw.k.below⟩)
    have hff:QO F=(14,-1):=by
     unfold QO
     rw[HC.out,if_neg (fun h=>h rfl),if_pos hbig]
    unfold JT
    rw[hff,if_neg (by decide)]
   ·skip
    repeat(first|refine Q1 zM ?_|refine Q1 zA ?_|refine Q1 (QZ (xs:=[]) (vs:=[]) (v:=.agg #[.int .i64 0,.int .i64 0]) rfl rfl (by decide) rfl rfl (fun w=>run_build w _ _ _ (by kernel_rfl))) ?_|(refine Qq (Qs 0 rfl rfl rfl rfl rfl rfl rfl (by simp)) rfl (fun _ _=>?_);rw[Qw (by rfl)])|refine Q8 ?_|refine Q6 ?_|refine Q2 ?_|refine Qh ?_|refine Q3 rfl ?_|refine QX ?_|refine Ql ?_|refine Q1 (Q3f Tryz.underlying9 rfl rfl (by decide) rfl rfl) ?_|refine Q1 (Xu rfl rfl (by decide) rfl rfl rfl (by first|exact decide_eq_false (by omega)|rfl)) ?_|refine Q1 zgf ?_)
    refine Xv (by exact .inr rfl) rfl (.tmp rfl) (RsV.blk 0 rfl rfl rfl) (fun w hw=>⟨?_,hw.k.below⟩)
    have hff:QO F=(0,0):=by
     unfold QO
     rw[HC.out,if_neg (fun h=>h rfl),if_neg hbig]
    unfold JT
    rw[hff,if_pos rfl]
set_option maxRecDepth 100000 in
set_option maxHeartbeats 4000000 in
theorem Zw{F:List Rl}{A:Option Addr}{n c:Nat}{W:World}(hf:Xq W W.heap.size A n F)(hs:FSm F)(hc:n≤c)(hg:GV W):
  Calls Tryz.prog 10 #[.agg #[.slice A n c]] W (Q7v W (QO F)):=by
 have HFM:=Lib.hid hf;have HS:=Lib.hid hs;have HG:=Lib.hid hg;clear hf hs hg
 go_enter Tryz.func10,Tryz.ntmps10
 refine QE (M:=[]) (W:=W) (N:=11) (E:=[(0,.agg #[.slice A n c])]) (O:=[]) ?_ (Ag.cons (Ag.nil rfl rfl) rfl) (Wd.start [] W)
 repeat(first|refine Q1 zM ?_|refine Q1 zA ?_|refine Q1 (zD 0) ?_|refine Q1 (zD 1) ?_|refine Qa (V6 rfl rfl rfl rfl) rfl (by decide) (fun bf _=>?_)|refine Qa (Xn (t:=27) rfl rfl) rfl (by decide) (fun b2 _=>?_)|refine Q1 (Q4 (f:=19) rfl rfl (by decide) rfl rfl (fun w hw=>(JJ (HFM.out.on hw.k.below) HS.out hc (HG.out.on hw.k.below)).mono (fun _ _ h=>h))) ?_|(refine Qq (Qs 0 rfl rfl rfl rfl rfl rfl rfl (by simp)) rfl (fun _ _=>?_);rw[Qw (by rfl)])|(refine Qq (Qs 1 rfl rfl rfl rfl rfl rfl rfl (by simp)) rfl (fun _ _=>?_);rw[Qw (by rfl)])|refine Q8 ?_|refine Q6 ?_|refine Q2 ?_|refine Ql ?_|refine Q1 zX ?_)
 exact Q9 (by exact .inr rfl) rfl (RsV.blk 1 rfl rfl rfl) (fun w hw=>⟨rfl,hw.k.below⟩)
def Jw(F:List Rl)(k:Int):Int×Int:=if QO F≠(0,0) then QO F else if inB k 0 ((F.length:Int) - 1) then (0,0) else (4,-2)
set_option maxRecDepth 100000 in
set_option maxHeartbeats 4000000 in
theorem Jk{F:List Rl}{A:Option Addr}{n c:Nat}{k:Int}{W:World}(hf:Xq W W.heap.size A n F)(hs:FSm F)(hc:n≤c)(hg:GV W):
  Calls Tryz.prog 31 #[.agg #[.slice A n c],.int .i64 k] W (Q7v W (Jw F k)):=by
 have hlen:F.length=n:=hf.1
 have hsz:n≤1048576:=by rw[← hlen];exact hs.1
 have HFM:=Lib.hid hf;have HS:=Lib.hid hs;have HG:=Lib.hid hg;have HLEN:=Lib.hid hlen;clear hf hs hg hlen;obtain⟨⟨a,b⟩,hab⟩:∃p,QO F=p:=⟨_,rfl⟩;have HC:=Lib.hid hab;clear hab
 go_enter Tryz.func31,Tryz.ntmps31
 refine QE (M:=[]) (W:=W) (N:=21) (E:=[(0,.agg #[.slice A n c]),(1,.int .i64 k)]) (O:=[]) ?_ (Ag.cons (Ag.cons (Ag.nil rfl rfl) rfl) rfl) (Wd.start [] W)
 by_cases hz:a=0∧b=0
 case neg=>
  have hne:(!(a==0&&b==0))=true:=by
   rw[Bool.not_eq_true',Bool.and_eq_false_iff,beq_eq_false_iff_ne,beq_eq_false_iff_ne]
   omega
  repeat(first|refine Q1 (zD 0) ?_|refine Q1 (zD 1) ?_|refine Qa (V6 rfl rfl rfl rfl) rfl (by decide) (fun bf _=>?_)|refine Qa (Xn (t:=27) rfl rfl) rfl (by decide) (fun b2 _=>?_)|(refine Q1 (Q4 (f:=10) rfl rfl (by decide) rfl rfl (fun w hw=>(Zw (HFM.out.on hw.k.below) HS.out hc (HG.out.on hw.k.below)).mono (fun _ _ h=>by rw[HC.out] at h;exact h))) ?_)|refine Q1 (QZ (xs:=[]) (vs:=[]) (v:=.agg #[.int .i64 0,.int .i64 0]) rfl rfl (by decide) rfl rfl (fun w=>run_build w _ _ _ (by kernel_rfl))) ?_|refine Q1 (VC rfl rfl (by decide) rfl rfl rfl hne) ?_|(refine Qq (Qs 0 rfl rfl rfl rfl rfl rfl rfl (by simp)) rfl (fun _ _=>?_);rw[Qw (by rfl)])|(refine Qq (Qs 1 rfl rfl rfl rfl rfl rfl rfl (by simp)) rfl (fun _ _=>?_);rw[Qw (by rfl)])|refine Q8 ?_|refine Q6 ?_|refine Q2 ?_|refine Q5 rfl ?_|refine Ql ?_|refine Qc ?_)
  refine Q9 (by exact .inr rfl) rfl (RsV.blk 1 rfl rfl rfl) (fun w hw=>ZY ?_ hw)
  unfold Jw
  rw[HC.out,if_pos (fun h=>hz (by simpa using h))]
 case pos=>
  obtain⟨rfl,rfl⟩:=hz;obtain⟨u,hu⟩:∃u,inB k 0 ((n:Int) - 1)=u:=⟨_,rfl⟩;have HU:=Lib.hid hu;clear hu
  cases u with
  |true=>
   repeat(first|refine Q1 zM ?_|refine Q1 zF ?_|refine Q1 (zB 2) ?_|refine Q1 (zD 0) ?_|refine Q1 (zD 1) ?_|refine Qa (V6 rfl rfl rfl rfl) rfl (by decide) (fun bf _=>?_)|refine Qa (Xn (t:=27) rfl rfl) rfl (by decide) (fun b2 _=>?_)|(refine Q1 (Q4 (f:=10) rfl rfl (by decide) rfl rfl (fun w hw=>(Zw (HFM.out.on hw.k.below) HS.out hc (HG.out.on hw.k.below)).mono (fun _ _ h=>by rw[HC.out] at h;exact h))) ?_)|(refine Q1 (Q4 (f:=52) rfl rfl (by decide) rfl rfl (fun w hw=>Calls.stay (Xl _ _ _ w))) ?_;rw[HU.out])|refine Q1 (QZ (xs:=[]) (vs:=[]) (v:=.agg #[.int .i64 0,.int .i64 0]) rfl rfl (by decide) rfl rfl (fun w=>run_build w _ _ _ (by kernel_rfl))) ?_|refine Q1 (VC rfl rfl (by decide) rfl rfl rfl rfl) ?_|(refine Qq (Qs 0 rfl rfl rfl rfl rfl rfl rfl (by simp)) rfl (fun _ _=>?_);rw[Qw (by rfl)])|(refine Qq (Qs 1 rfl rfl rfl rfl rfl rfl rfl (by simp)) rfl (fun _ _=>?_);rw[Qw (by rfl)])|refine Q8 ?_|refine Q6 ?_|refine Q2 ?_|refine Qh ?_|refine Q3 rfl ?_|refine Ql ?_|refine Q1 zL ?_|refine Q1 zO ?_|refine Q1 zQ ?_)
   refine Q9 (by exact .inr rfl) rfl (RsV.blk 1 rfl rfl rfl) (fun w hw=>ZY ?_ hw)
   unfold Jw
   rw[HC.out,if_neg (fun h=>h rfl),HLEN.out,HU.out,if_pos rfl]
  |false=>
   repeat(first|refine Q1 zM ?_|refine Q1 zF ?_|refine Q1 (zB 2) ?_|refine Q1 (zD 0) ?_|refine Q1 (zD 1) ?_|refine Qa (V6 rfl rfl rfl rfl) rfl (by decide) (fun bf _=>?_)|refine Qa (Xn (t:=27) rfl rfl) rfl (by decide) (fun b2 _=>?_)|(refine Q1 (Q4 (f:=10) rfl rfl (by decide) rfl rfl (fun w hw=>(Zw (HFM.out.on hw.k.below) HS.out hc (HG.out.on hw.k.below)).mono (fun _ _ h=>by rw[HC.out] at h;exact h))) ?_)|(refine Q1 (Q4 (f:=52) rfl rfl (by decide) rfl rfl (fun w hw=>Calls.stay (Xl _ _ _ w))) ?_;rw[HU.out])|refine Q1 (Q4 (f:=39) rfl rfl (by decide) rfl rfl (fun w hw=>XK _ _ w)) ?_|refine Q1 (QZ (xs:=[]) (vs:=[]) (v:=.agg #[.int .i64 0,.int .i64 0]) rfl rfl (by decide) rfl rfl (fun w=>run_build w _ _ _ (by kernel_rfl))) ?_|refine Q1 (VC rfl rfl (by decide) rfl rfl rfl rfl) ?_|(refine Qq (Qs 0 rfl rfl rfl rfl rfl rfl rfl (by simp)) rfl (fun _ _=>?_);rw[Qw (by rfl)])|(refine Qq (Qs 1 rfl rfl rfl rfl rfl rfl rfl (by simp)) rfl (fun _ _=>?_);rw[Qw (by rfl)])|refine Q8 ?_|refine Q6 ?_|refine Q2 ?_|refine Qh ?_|refine Q5 rfl ?_|refine Q3 rfl ?_|refine Ql ?_|refine Qc ?_|refine Q1 zL ?_|refine Q1 zO ?_|refine Q1 zQ ?_)
   refine Q9 (by exact .inr rfl) rfl (RsV.blk 1 rfl rfl rfl) (fun w hw=>ZY ?_ hw)
   unfold Jw
   rw[HC.out,if_neg (fun h=>h rfl),HLEN.out,HU.out,if_neg Bool.false_ne_true]
end Go.Proofs.YtgdiadednlajgaaGreatDoor
