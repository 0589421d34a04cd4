import Derived.Test.YtphkhfdmlcnoeaaGreatDoorP35
import Derived.Test.YtphkhfdmlcnoeaaGreatDoorP37
import Derived.Test.YtphkhfdmlcnoeaaGreatDoorP34
namespace Go.Proofs.YtphkhfdmlcnoeaaGreatDoor
set_option linter.unusedVariables false
set_option linter.unusedSimpArgs false
open Go.RowKit
theorem Q5G{z:Wz}{B g:Nat}{F:List Rl}(hv:Fm F):∀(d:Nd) (p:VF),WvC z B g F d p:=
 VF.all_each fun d p hall hn0 hg hnd hf hl W A c xs n k v hk h hval hsz hno=>by
  have hr:=(hv.toUsd.rok hk).kind
  cases hfit:X8 F (Qd F k) d p with
  |false=>exact QeA hv hk h hval hnd.2.1 hnd.2.2.1 hn0 hl hsz hno hfit
  |true=>
   by_cases h1:(Qd F k).kind=1
   ·exact Qg3 hv hk h hval hnd.2.1 hnd.2.2.1 hn0 hl hsz hno hfit h1
   by_cases h2:(Qd F k).kind=2
   ·exact QfT hv hk h hval hnd.2.1 hnd.2.2.1 hn0 hl hsz hno hfit h2
   by_cases h3:(Qd F k).kind=3
   ·exact QfR hv hk h hval hnd.2.1 hnd.2.2.1 hn0 hl hsz hno hfit h3
   by_cases h4:(Qd F k).kind=4
   ·exact QfY hv hk h hval hnd.2.1 hnd.2.2.1 hn0 hl hsz hno hfit h4
   by_cases h5:(Qd F k).kind=5
   ·exact QfW hv hk h hval hnd.2.1 hnd.2.2.1 hn0 hl hsz hno hfit h5
   by_cases h6:(Qd F k).kind=6
   ·exact QfU hall hg hf hv hk h hval hnd.2.1 hnd.2.2.1 hn0 hl hsz hno hfit h6
   by_cases h7:(Qd F k).kind=7
   ·exact QfS hall hg hf hv hk h hval hnd.2.1 hnd.2.2.1 hn0 hl hsz hno hfit h7
   by_cases h8:(Qd F k).kind=8
   ·exact QfQ hall hg hf hv hk h hval hnd.2.1 hnd.2.2.1 hn0 hl hsz hno hfit h8
   by_cases h9:(Qd F k).kind=9
   ·exact QfV hall hg hf hv hk h hval hnd.2.1 hnd.2.2.1 hn0 hl hsz hno hfit h9
   exact Qfe hv hk h hval hnd.2.1 hnd.2.2.1 hn0 hl hsz hno hfit (by omega)
theorem Q3j:∀(l:VF),Zq l→X3 l≤l.cnt*1048876
 |.nil,_=>by simp [X3]
 |.cons d p r,h=>by
  have a:=Q3j p h.2.2.1;have b:=Q3j r h.2.2.2;have c:=h.1.2.1
  simp only[X3,VF.cnt]
  omega
theorem Q7J{d:Nd}{l:VF}(h:Sz d l)(hv:Zg d l=(0,0)):QK d l≤1000000000:=by
 unfold Zg at hv
 cases hc:XP (.cons d l .nil) 0 1 with
 |inl f=>
  obtain⟨c,i⟩:=f;rw[hc] at hv
  simp only at hv
  have:=Vn _ _ _ _ _ hc;rw[Prod.mk.injEq] at hv;exact absurd hv.1 this
 |inr m=>
  have a:=Q1C _ _ _ _ hc;have b:=Q7b _ _ _ _ hc
  simp only[VF.cnt] at b
  have g:l.cnt≤600:=by have:=a.2 (by omega);omega
  have e:=Q3j l h.2.1;have f:=h.1.2.1
  unfold QK
  omega
set_option maxRecDepth 100000 in
theorem Q5v(g h:Nat)(w:World):
  CallsD Tryz.prog 44 #[.pointer (some ⟨g,0,none⟩),.pointer (some ⟨h,0,none⟩)] .returning w fun e u' w'=>e=.returned (.tuple #[])∧u'=.returning∧w'=w:=by
 refine callsD_of_wpS Tryz.func44 rfl fun c₀ cs hu=>?_
 apply wpS_seq
 apply wpS_region
 simp [wpOpsS,go_sem,recoverD,hu,Tryz.ntmps44,Exit.thenS]
 refine wpS_of_wp ?_
 simp only[Array.replicate_succ,Array.replicate_zero,List.push_toArray,List.append_toArray,List.nil_append,List.cons_append,List.setIfInBounds_toArray,List.set_cons_zero,List.set_cons_succ]
 go_wp2_with fail
 cases c₀
 simp_all [bodyPostS,results,Tryz.results44]
set_option maxRecDepth 100000 in
theorem Q3C{g k:Nat}{c x:Int}{M:List Nat}{W w:World}{O:List Qc}{a0 r0 r1:Value}(hw:Wd M W (.blk g (.cells ([a0]:List Value).toArray 25 (0,0))::.blk k (.cells ([r0,r1]:List Value).toArray 32 (0,0))::O) w):
  CallsD Tryz.prog 44 #[.pointer (some ⟨g,0,none⟩),.pointer (some ⟨k,0,none⟩)] (.panicking (Jv c x)) w fun e u' w'=>
   e=.returned (.tuple #[])∧u'=.panicking [{ v:=.iface 32 (.agg #[.int .i64 c,.int .i64 x]),recovered:=true }]∧Wd M W (.blk g (.cells ([.slice none 0 0]:List Value).toArray 25 (0,0))::.blk k (.cells ([.int .i64 c,.int .i64 x]:List Value).toArray 32 (0,0))::O) w':=by
 refine callsD_of_wpS Tryz.func44 rfl fun c₀ cs hu=>?_
 apply wpS_seq
 apply wpS_region
 unfold Jv at hu
 simp [wpOpsS,go_sem,recoverD,hu,Tryz.ntmps44,Exit.thenS]
 refine wpS_of_wp ?_
 simp only[Array.replicate_succ,Array.replicate_zero,List.push_toArray,List.append_toArray,List.nil_append,List.cons_append,List.setIfInBounds_toArray,List.set_cons_zero,List.set_cons_succ]
 have hta:∀W:World,(Instr.typeAssert (.iface 32 (.agg #[.int .i64 c,.int .i64 x])) 20 32 true).run Tryz.prog W=.ok (.tuple #[.agg #[.int .i64 c,.int .i64 x],.bool true]) W:=fun _=>by kernel_rfl
 have heq:∀W:World,(binOp .eql 20 (.iface 32 (.agg #[.int .i64 c,.int .i64 x])) .nilIface).run Tryz.prog W=.ok (.bool false) W:=fun _=>by kernel_rfl
 have hui:Tryz.prog.underlying 20=some (.interface (Tryz.prog.methodsAt 20)):=by kernel_rfl
 refine QE (M:=M) (W:=W) (N:=12) (E:=[(0,.pointer (some ⟨g,0,none⟩)),(1,.pointer (some ⟨k,0,none⟩)),(5,.iface 32 (.agg #[.int .i64 c,.int .i64 x]))]) (O:=.blk g (.cells ([a0]:List Value).toArray 25 (0,0))::.blk k (.cells ([r0,r1]:List Value).toArray 32 (0,0))::O) ?_ (Ag.cons (Ag.cons (Ag.cons (Ag.nil rfl rfl) rfl) rfl) rfl) hw;refine yb<|yq<|yr ?_;refine Q1 (Xq (v:=.bool false) rfl (by decide) rfl (fun ρ w ha _=>by have h5:=ha.eval (x:=.tmp 5) rfl;have hc:ρ (.const .nilIface)=.nilIface:=ha.eval rfl;simp [execOp,h5,hc,heq,eqGuard,go_sem])) ?_;refine yl<|yn<|y0<|yq<|yr ?_;refine Q1 (Xq (v:=.tuple #[.agg #[.int .i64 c,.int .i64 x],.bool true]) rfl (by decide) rfl (fun ρ w ha _=>by have h5:=ha.eval (x:=.tmp 5) rfl;simp [execOp,h5,hta,Sem.run_bind,go_sem])) ?_;refine yo zX<|yo zX<|yl<|yn<|y1<|yq<|yr ?_;refine yA fun b3=>?_;refine yW 0 ?_;refine yl<|yn ?_;refine XQ [.blk b3 (.cells ([.int .i64 c,.int .i64 x]:List Value).toArray 32 (0,0))] [] (by kernel_rfl) ?_;refine Qe 0 rfl (by kernel_rfl) (Q2.sel [0] (by decide) rfl) (zD 0) ?_;refine Qu 1 (by kernel_rfl) rfl rfl (X0 1 rfl rfl rfl rfl rfl rfl rfl) (fun _=>.inr (Q2.sel [0] (by decide) rfl)) rfl (fun _ _=>?_);refine Qu 2 (by kernel_rfl) rfl rfl (Ql 2 rfl rfl rfl rfl rfl rfl rfl (by simp)) (fun _=>.inr (Q2.sel [0] (by decide) rfl)) rfl (fun _ _=>?_);rw[Qn (by rfl)];refine Xh ?_ (by kernel_rfl);refine yd ?_;intro a w' ha hw';exact⟨ha.df,_,rfl,.tuple #[],by simp [results,Tryz.results44],rfl,rfl,hw'.tl⟩
def Q6G(F:List Rl)(d:Nd)(l:VF)(W:World)(e:Ending)(w':World):Prop:=∃A c,e=.returned (.tuple #[.slice A (J1 F d l).1.length c,.agg #[.int .i64 (J1 F d l).2.1,.int .i64 (J1 F d l).2.2]])∧New [.rd A (J1 F d l).1.length 1 (bv (J1 F d l).1)] W.heap.size w'∧(J1 F d l).1.length≤c∧c≤maxLen∧Below W.heap.size W w'
section
variable {F:List Rl}{d:Nd}{l:VF}{W w:World}{c x:Int}
theorem Q2v(h:J1 F d l=([],(c,x)))(hb:Below W.heap.size W w):Q6G F d l W (.returned (.tuple #[.slice none 0 0,.agg #[.int .i64 c,.int .i64 x]])) w:=by
 refine⟨none,0,by rw[h];rfl,?_,by rw[h];exact Nat.le_refl _,Nat.zero_le _,hb⟩;rw[h];exact Vl (ZM _ _ _) (fun b hb=>by cases hb)
theorem QdJ(h:QL F≠(0,0)):J1 F d l=([],QL F):=by unfold J1;rw[if_pos h]
theorem QdE(h:QL F=(0,0))(h1:Zg d l≠(0,0)):J1 F d l=([],Zg d l):=by unfold J1;rw[if_neg (by simp [h]),if_pos h1]
theorem Qd2{n:Nat}(h:QL F=(0,0))(h1:Zg d l=(0,0))(h2:QA F 0 d l 0=.error n):J1 F d l=([],(13,(n:Int))):=by
 unfold J1;rw[if_neg (by simp [h]),if_neg (by simp [h1]),YG,h2]
theorem Qb0{b:List UInt8}{n:Nat}(h:QL F=(0,0))(h1:Zg d l=(0,0))(h2:QA F 0 d l 0=.ok (b,n))(h3:1000<b.length):J1 F d l=([],(14,-2)):=by
 unfold J1;rw[if_neg (by simp [h]),if_neg (by simp [h1]),YG,h2];simp only;rw[if_pos h3]
theorem Q4A{b:List UInt8}{n:Nat}(h:QL F=(0,0))(h1:Zg d l=(0,0))(h2:QA F 0 d l 0=.ok (b,n))(h3:¬1000<b.length):J1 F d l=(b,(0,0)):=by
 unfold J1;rw[if_neg (by simp [h]),if_neg (by simp [h1]),YG,h2];simp only;rw[if_neg h3]
theorem Q99{a b:Int}(h:(a,b)≠(0,0)):(!(a==0&&b==0))=true:=by
 rw[Bool.not_eq_true',Bool.and_eq_false_iff,beq_eq_false_iff_ne,beq_eq_false_iff_ne]
 by_cases h0:a=0
 ·exact .inr fun h1=>h (by rw[h0,h1])
 ·exact .inl h0
end
theorem Qc5{W w:World}{O:List Qc}{A:Option Addr}{n c s:Nat}{t:TypeId}{xs:List Value}(i:Nat)(hw:Wd [] W O w)(hO:O[i]? =some (.row A n c t s xs)):New [.rd A n s xs] W.heap.size w:=
 Vl (Rd.of_own (hw.own i _ hO)) fun b hb=>by
  rcases Nat.lt_or_ge b W.heap.size with hl|hl
  ·have h1:b∈[]:=hw.new i _ b hO (Q15 (hw.own i _ hO) hb) hl
   cases h1
  ·exact hl
set_option maxRecDepth 100000 in
set_option maxHeartbeats 16000000 in
theorem Q6D{F:List Rl}{d:Nd}{l:VF}{A:Option Addr}{n c:Nat}{v:Value}{W:World}(hf:Xm W W.heap.size A n F)(hs:FSm F)(hc:n≤c)(hg:GV W)(hv:VIn W W.heap.size v d l)(hz:QL F≠(0,0)):
  Calls Tryz.prog 15 #[.agg #[.slice A n c],v] W (Q6G F d l W):=by
 have HF:=Lib.hid hf;have HS:=Lib.hid hs;have HG:=Lib.hid hg;have HZ:=Lib.hid hz;obtain⟨⟨a,b⟩,hab⟩:∃p,QL F=p:=⟨_,rfl⟩;have HAB:=Lib.hid hab;have hne:=Q99 (hab▸hz);obtain⟨sb,sn,sp,rfl,Abv,nb,cbv,Anv,nnv,cnv,Apv,cpv,rfl,rfl,rfl,_⟩:=hv;clear hf hs hg hz hab
 go_enter_defers Tryz.func15,Tryz.ntmps15
 refine QE (M:=[]) (W:=W) (N:=40) (E:=[(0,.agg #[.slice A n c]),(1,.agg #[.int .i64 d.k,.int .i64 d.n,.slice Abv nb cbv,.slice Anv nnv cnv,.slice Apv l.len cpv])]) (O:=[]) ?_ (Ag.cons (Ag.cons (Ag.nil rfl rfl) rfl) rfl) (Wd.start [] W);refine yq<|yr ?_;refine yB fun b2=>?_;refine yB fun b3=>?_;refine yA fun b4=>?_;refine yA fun b5=>?_;refine yl<|yn<|yq<|yq<|yr<|yo (zD 3) ?_;refine Q1 (Qb rfl rfl (by decide) rfl rfl (fun w hw=>(Xv (HF.out.on hw.k.below) HS.out hc (HG.out.on hw.k.below)).mono (fun e w' h=>by rw[HAB.out] at h;exact h))) ?_;refine yA fun b6=>?_;refine yW 0 ?_;refine yl<|yn<|yq<|yr<|yo (zD 0) ?_;refine Q1 (QO (xs:=[]) (vs:=[]) (v:=.agg #[.int .i64 0,.int .i64 0]) rfl rfl (by decide) rfl rfl (fun w=>run_build w _ _ _ (by kernel_rfl))) ?_;refine Q1 (Je rfl rfl (by decide) rfl rfl rfl hne) ?_;refine yl<|yn<|y1<|yq ?_;refine XQ [.blk b6 (.cells ([.int .i64 a,.int .i64 b]:List Value).toArray 32 (0,0))] [] (by kernel_rfl) ?_;refine Qe 0 rfl (by kernel_rfl) (Q2.sel [0] (by decide) rfl) (zD 0) ?_;refine Qu 1 (by kernel_rfl) rfl rfl (X0 2 rfl rfl rfl rfl rfl rfl rfl) (fun _=>.inr (Q2.sel [0] (by decide) rfl)) rfl (fun _ _=>?_);refine Qu 2 (by kernel_rfl) rfl rfl (Ql 1 rfl rfl rfl rfl rfl rfl rfl (by simp)) (fun _=>.inr (Q2.sel [0] (by decide) rfl)) rfl (fun _ _=>?_);rw[Qn (by rfl)];refine Xh ?_ (by kernel_rfl);refine yn<|yt<|yc ?_;exact Q8U (.inr rfl) (Ve (.inr rfl) rfl (RsV.cell1 rfl (fun w hw=>hw.cell_blkL 2 rfl rfl)) (RsV.blk 1 rfl rfl rfl) (fun w hw=>Q2v ((QdJ HZ.out).trans (by rw[HAB.out])) hw.k.below))
set_option maxRecDepth 100000 in
set_option maxHeartbeats 16000000 in
theorem Q59{F:List Rl}{d:Nd}{l:VF}{A:Option Addr}{n c:Nat}{v:Value}{W:World}(hf:Xm W W.heap.size A n F)(hs:FSm F)(hc:n≤c)(hg:GV W)(hv:VIn W W.heap.size v d l)(hsz:Sz d l)(hz:QL F=(0,0))(hz2:Zg d l≠(0,0)):
  Calls Tryz.prog 15 #[.agg #[.slice A n c],v] W (Q6G F d l W):=by
 have HF:=Lib.hid hf;have HS:=Lib.hid hs;have HG:=Lib.hid hg;have HZ:=Lib.hid hz;have HZ2:=Lib.hid hz2;have HSZ:=Lib.hid hsz;have HV:=Lib.hid hv;obtain⟨⟨a,b⟩,hab⟩:∃p,Zg d l=p:=⟨_,rfl⟩;have HAB:=Lib.hid hab;have hne2:=Q99 (hab▸hz2);obtain⟨sb,sn,sp,rfl,Abv,nb,cbv,Anv,nnv,cnv,Apv,cpv,rfl,rfl,rfl,_⟩:=hv;clear hf hs hg hz hab hz2 hsz
 go_enter_defers Tryz.func15,Tryz.ntmps15
 refine QE (M:=[]) (W:=W) (N:=40) (E:=[(0,.agg #[.slice A n c]),(1,.agg #[.int .i64 d.k,.int .i64 d.n,.slice Abv nb cbv,.slice Anv nnv cnv,.slice Apv l.len cpv])]) (O:=[]) ?_ (Ag.cons (Ag.cons (Ag.nil rfl rfl) rfl) rfl) (Wd.start [] W);refine yq<|yr ?_;refine yB fun b2=>?_;refine yB fun b3=>?_;refine yA fun b4=>?_;refine yA fun b5=>?_;refine yl<|yn<|yq<|yq<|yr<|yo (zD 3) ?_;refine Q1 (Qb rfl rfl (by decide) rfl rfl (fun w hw=>(Xv (HF.out.on hw.k.below) HS.out hc (HG.out.on hw.k.below)).mono (fun e w' h=>by rw[HZ.out] at h;exact h))) ?_;refine yA fun b6=>?_;refine yW 0 ?_;refine yl ?_;have hne:(!((0:Int)==0&&(0:Int)==0))=false:=rfl;refine yn<|yq<|yr<|yo (zD 0) ?_;refine Q1 (QO (xs:=[]) (vs:=[]) (v:=.agg #[.int .i64 0,.int .i64 0]) rfl rfl (by decide) rfl rfl (fun w=>run_build w _ _ _ (by kernel_rfl))) ?_;refine Q1 (Je rfl rfl (by decide) rfl rfl rfl hne) ?_;refine yl<|yn<|y0<|ys<|yn<|yq<|yq<|yr<|yo (zD 3) ?_;refine Q1 (Qb rfl rfl (by decide) rfl rfl (fun w hw=>(VS HSZ.out (HV.out.on hw.k.below)).mono (fun e w' h=>by rw[HAB.out] at h;exact h))) ?_;refine yA fun b7=>?_;refine yW 0 ?_;refine yl<|yn<|yq<|yr<|yo (zD 0) ?_;refine Q1 (QO (xs:=[]) (vs:=[]) (v:=.agg #[.int .i64 0,.int .i64 0]) rfl rfl (by decide) rfl rfl (fun w=>run_build w _ _ _ (by kernel_rfl))) ?_;refine Q1 (Je rfl rfl (by decide) rfl rfl rfl hne2) ?_;refine yl<|yn<|y1<|yq ?_;refine XQ [.blk b7 (.cells ([.int .i64 a,.int .i64 b]:List Value).toArray 32 (0,0))] [] (by kernel_rfl) ?_;refine Qe 0 rfl (by kernel_rfl) (Q2.sel [0] (by decide) rfl) (zD 0) ?_;refine Qu 1 (by kernel_rfl) rfl rfl (X0 3 rfl rfl rfl rfl rfl rfl rfl) (fun _=>.inr (Q2.sel [0] (by decide) rfl)) rfl (fun _ _=>?_);refine Qu 2 (by kernel_rfl) rfl rfl (Ql 2 rfl rfl rfl rfl rfl rfl rfl (by simp)) (fun _=>.inr (Q2.sel [0] (by decide) rfl)) rfl (fun _ _=>?_);rw[Qn (by rfl)];refine Xh ?_ (by kernel_rfl);refine yn<|yt<|yc ?_;exact Q8U (.inr rfl) (Ve (.inr rfl) rfl (RsV.cell1 rfl (fun w hw=>hw.cell_blkL 3 rfl rfl)) (RsV.blk 2 rfl rfl rfl) (fun w hw=>Q2v ((QdE HZ.out HZ2.out).trans (by rw[HAB.out])) hw.k.below))
section
variable {W w w':World}{O:List Qc}{g b4 b5 N:Nat}{E:Env}{R:Ending→World→Prop}{e:Exit}
abbrev prD(b4 b5:Nat):List Deferred:=[{ target:=.fn (.func 44) #[.pointer (some ⟨b4,0,none⟩),.pointer (some ⟨b5,0,none⟩)],args:=#[] }]
theorem QaD[dq:DQ]{v u:Value}(hdq:dq.D=prD b4 b5)(he:e=.normal∨e=.ret)(h4:RsV Tryz.prog (Wd [] W O) E (.cell 4 25) v)(h5:RsV Tryz.prog (Wd [] W O) E (.cell 5 32) u)(hR:∀w,Wd [] W O w→R (.returned (.tuple #[v,u])) w):xE (bodyPostD Tryz.prog Tryz.f15 R) N [] W E O e:=fun a w ha hw=>by
 have h:Leaves Tryz.prog Tryz.f15 a.tmps R a.defers .returning w:=by
  rw[ha.df,hdq];refine leaves_cons (f:=44) (args:=#[.pointer (some ⟨b4,0,none⟩),.pointer (some ⟨b5,0,none⟩)]) (by simp) (by simp [go_sem]) ?_;refine(Q5v _ _ _).mono ?_
  rintro e' u' w8 ⟨rfl,rfl,rfl⟩
  exact⟨_,QaY rfl (Jk ha hw h4) (Jk ha hw h5),hR _ hw⟩
 rcases he with rfl|rfl<;>exact h
theorem Qeq[dq:DQ]{a:Act}{c x:Int}{ch:List PanicEntry}{a0 r0 r1:Value}(hdq:dq.D=prD b4 b5)(hch:ch=Jv c x)(h4:E.lookup 4=some (.pointer (some ⟨b4,0,none⟩)))(h5:E.lookup 5=some (.pointer (some ⟨b5,0,none⟩)))(ha:Ag N E a)(hw:Wd [] W (.blk b4 (.cells ([a0]:List Value).toArray 25 (0,0))::.blk b5 (.cells ([r0,r1]:List Value).toArray 32 (0,0))::O) w)
  (hR:∀w,Below W.heap.size W w→R (.returned (.tuple #[.slice none 0 0,.agg #[.int .i64 c,.int .i64 x]])) w):bodyPostD Tryz.prog Tryz.f15 R (.panic ch) a w:=by
 subst hch
 show Leaves Tryz.prog Tryz.f15 a.tmps R a.defers (.panicking (Jv c x)) w
 rw[ha.df,hdq];refine leaves_cons (f:=44) (args:=#[.pointer (some ⟨b4,0,none⟩),.pointer (some ⟨b5,0,none⟩)]) (by simp) (by simp [go_sem]) ?_;refine(Q3C hw).mono ?_
 rintro e' u' w8 ⟨rfl,rfl,hw8⟩
 exact⟨_,QaY rfl (Jk ha hw8 (RsV.cell1 h4 (fun w hw=>hw.cell_blkL 0 rfl rfl))) (Jk ha hw8 (RsV.blk 1 h5 rfl rfl)),hR _ hw8.k.below⟩
theorem Qel{z:Wz}{res:Wtg}{cost:Nat}{e:Ending}(hw:Wd [] W (.blk g (z.obj none 0 0 0)::O) w)(h:WrE z g w none 0 [] res 0 cost e w'):ZE (fun y:Wy=>.tuple #[]) (fun y=>res=.ok (y.b,y.m)) [] W (fun y=>YT y.A y.c y.b::.blk g (z.obj y.A y.b.length y.c y.m)::O) (fun ch w'=>∃x:Nat,res=.error x∧ch=Jv 13 x∧Wd [] W O w') e w':=by
 obtain⟨hk,⟨x,h1,h2⟩|⟨b,m',A',c',h1,h2,h3,h4,h5,h6,h7⟩⟩:=h
 ·exact .inr ⟨_,h2,x,h1,rfl,hw.lost hk⟩
 ·refine .inl ⟨⟨b,m',A',c'⟩,h2,h1,?_⟩;have hw2:=hw.row 5 1
  have:=hw2.upd2 (i:=1) (j:=0) (x:=.blk g (z.obj none 0 0 0)) (y:=.row none 0 0 5 1 []) (x':=.blk g (z.obj A' (([]:List UInt8)++b).length c' m')) (y':=YT A' c' (([]:List UInt8)++b)) (by decide) rfl rfl rfl rfl rfl rfl hk (fun q hq=>by
   have:q=g:=by simpa [wM,Value.ownBlock] using hq
   subst this
   exact .inl rfl) h5 h6 (fun _ h=>h) (fun q hq=>by
   rcases h7 q hq with h8|h8
   ·cases h8
   ·exact .inr h8)
  exact this
end
set_option maxRecDepth 100000 in
set_option maxHeartbeats 16000000 in
theorem Q8P{F:List Rl}{d:Nd}{l:VF}{A:Option Addr}{n c:Nat}{v:Value}{W:World}(hf:Xm W W.heap.size A n F)(hs:FSm F)(hc:n≤c)(hg:GV W)(hv:VIn W W.heap.size v d l)(hsz:Sz d l)(hz:QL F=(0,0))(hz2:Zg d l=(0,0)):
  Calls Tryz.prog 15 #[.agg #[.slice A n c],v] W (Q6G F d l W):=by
 have HF:=Lib.hid hf;have HS:=Lib.hid hs;have HG:=Lib.hid hg;have HZ:=Lib.hid hz;have HZ2:=Lib.hid hz2;have HSZ:=Lib.hid hsz;have HV:=Lib.hid hv;have HFM:=Lib.hid (VD hz);have HK:=Lib.hid (show 0≤(0:Int)∧(0:Int)<F.length by have:=HFM.out.len;omega);have HGD:=Lib.hid (Q4j hz2);have hcost:=Q7J hsz hz2;obtain⟨sb,sn,sp,rfl,Abv,nb,cbv,Anv,nnv,cnv,Apv,cpv,rfl,rfl,rfl,_⟩:=hv;clear hf hs hg hz hz2 hsz
 go_enter_defers Tryz.func15,Tryz.ntmps15
 refine QE (M:=[]) (W:=W) (N:=40) (E:=[(0,.agg #[.slice A n c]),(1,.agg #[.int .i64 d.k,.int .i64 d.n,.slice Abv nb cbv,.slice Anv nnv cnv,.slice Apv l.len cpv])]) (O:=[]) ?_ (Ag.cons (Ag.cons (Ag.nil rfl rfl) rfl) rfl) (Wd.start [] W);refine yq<|yr ?_;refine yB fun b2=>?_;refine yB fun b3=>?_;refine yA fun b4=>?_;refine yA fun b5=>?_;refine yl<|yn<|yq<|yq<|yr<|yo (zD 3) ?_;refine Q1 (Qb rfl rfl (by decide) rfl rfl (fun w hw=>(Xv (HF.out.on hw.k.below) HS.out hc (HG.out.on hw.k.below)).mono (fun e w' h=>by rw[HZ.out] at h;exact h))) ?_;refine yA fun b6=>?_;refine yW 0 ?_;refine yl ?_;have hne:(!((0:Int)==0&&(0:Int)==0))=false:=rfl;refine yn<|yq<|yr<|yo (zD 0) ?_;refine Q1 (QO (xs:=[]) (vs:=[]) (v:=.agg #[.int .i64 0,.int .i64 0]) rfl rfl (by decide) rfl rfl (fun w=>run_build w _ _ _ (by kernel_rfl))) ?_;refine Q1 (Je rfl rfl (by decide) rfl rfl rfl hne) ?_;refine yl<|yn<|y0<|ys<|yn<|yq<|yq<|yr<|yo (zD 3) ?_;refine Q1 (Qb rfl rfl (by decide) rfl rfl (fun w hw=>(VS HSZ.out (HV.out.on hw.k.below)).mono (fun e w' h=>by rw[HZ2.out] at h;exact h))) ?_;refine yA fun b7=>?_;refine yW 0 ?_;refine yl<|yn<|yq<|yr<|yo (zD 0) ?_;refine Q1 (QO (xs:=[]) (vs:=[]) (v:=.agg #[.int .i64 0,.int .i64 0]) rfl rfl (by decide) rfl rfl (fun w=>run_build w _ _ _ (by kernel_rfl))) ?_;refine Q1 (Je rfl rfl (by decide) rfl rfl rfl hne) ?_;refine yl<|yn<|y0<|ys<|yn<|yq<|yr<|yo zu ?_;refine Q9e rfl rfl rfl rfl (fun dq' hdq=>?_);refine yl ?_
 replace hdq:dq'.D=prD b4 b5:=hdq
 refine yn<|yq<|yr<|yo (zD 5) ?_;refine Q1 (QO (xs:=[(0,.tmp 22)]) (vs:=[(0,.agg #[.slice A n c])]) (v:=.agg #[.slice A n c,.slice none 0 0,.int .i64 0]) rfl rfl (by decide) rfl rfl (fun w=>run_build w _ _ _ (by kernel_rfl))) ?_;refine Qo (QbI (cs:=[.slice A n c,.slice none 0 0,.int .i64 0]) rfl rfl rfl rfl) rfl (by decide) (fun g hg=>?_);have hg1:=hg.1;clear hg;refine yo zA<|yl<|yn<|yq<|yr<|yo zM<|yo (zD 5) ?_;refine Q7Y (QV _ _ _ rfl rfl rfl (fun w hw=>(Q5G (z:=⟨A,n,c⟩) (B:=g) (g:=g) HFM.out d l HGD.out.1 HGD.out.2 HSZ.out.1 HSZ.out.2.1 HSZ.out.2.2 w none 0 [] 0 0 _ HK.out ⟨(HF.out.below hw.k.below).more hg1,Nat.le_refl _,hw.own 0 _ rfl,World.ownsRow_nil _ _ _ _,(fun b hb=>by cases hb),hc,fun w' hb=>HG.out.on (hw.k.below.trans (hb.mono hg1))⟩ ((HV.out.below hw.k.below (Nat.le_refl _)).keep (fun _ _=>rfl) hg1) (by show 0+QK d l≤_;omega) (by omega)).mono (fun e w' h=>Qel hw h))) rfl (by decide) (fun a ch w ha ⟨x,h1,h2,h3⟩=>Qeq hdq h2 rfl rfl ha (h3.sel [3,2] (by decide)) (fun w2 hb=>Q2v (Qd2 HZ.out HZ2.out h1) hb)) (fun y hy=>?_);refine yl ?_;have HY:=Lib.hid hy;clear hy
 by_cases hlong:1000<y.b.length
 ·have hl2:1000<(y.b.length:Int):=by omega
  refine yn<|yq<|yq<|yr<|yo zM ?_;refine Q1 (Q0B rfl rfl (by decide) rfl rfl) ?_;refine yo zF<|yo (zB 1)<|yo zL<|yo zgt<|yl<|yn<|y1<|yq<|yr ?_;refine Q1 (Qb rfl rfl (by decide) rfl rfl (fun w hw=>(J5 _ _ w).mono (fun e w2 h=>⟨h.1,h.2▸Zm _ _⟩))) ?_;refine yS 5 ?_;refine yW 4 ?_;refine yl<|yn<|yt<|yc ?_;exact QaD hdq (by exact .inr rfl) (RsV.cell1 rfl (fun w hw=>hw.cell_blkL 5 rfl rfl)) (RsV.blk 4 rfl rfl rfl) (fun w hw=>Q2v (Qb0 HZ.out HZ2.out HY.out hlong) hw.k.below)
 ·have hl2:¬1000<(y.b.length:Int):=by omega
  refine yn<|yq<|yq<|yr<|yo zM ?_;refine Q1 (Q0B rfl rfl (by decide) rfl rfl) ?_;refine yo zF<|yo (zB 1)<|yo zL<|yo zgf<|yl<|yn<|y0<|ys<|yn<|yq<|yr<|yo zM ?_;refine Q1 (Q0B rfl rfl (by decide) rfl rfl) ?_;refine yo zF<|yo (zB 1) ?_;refine Q1 (QO (xs:=[]) (vs:=[]) (v:=.agg #[.int .i64 0,.int .i64 0]) rfl rfl (by decide) rfl rfl (fun w=>run_build w _ _ _ (by kernel_rfl))) ?_;refine yS 5 ?_;refine yW 4 ?_;refine yl<|yn<|yt ?_;have hfine:=Q4A HZ.out HZ2.out HY.out hlong;exact QaD hdq (by exact .inr rfl) (RsV.cell1 rfl (fun w hw=>hw.cell_blkL 5 rfl rfl)) (RsV.blk 4 rfl rfl rfl) (fun w hw=>⟨y.A,y.c,by rw[hfine],by rw[hfine];exact Qc5 0 hw rfl,by rw[hfine];exact(Jt 0 hw rfl).1,(Jt 0 hw rfl).2,hw.k.below⟩)
theorem Q5a{F:List Rl}{d:Nd}{l:VF}{A:Option Addr}{n c:Nat}{v:Value}{W:World}(hf:Xm W W.heap.size A n F)(hs:FSm F)(hc:n≤c)(hg:GV W)(hv:VIn W W.heap.size v d l)(hsz:Sz d l):
  Calls Tryz.prog 15 #[.agg #[.slice A n c],v] W (Q6G F d l W):=by
 by_cases hz:QL F=(0,0)
 ·by_cases hz2:Zg d l=(0,0)
  ·exact Q8P hf hs hc hg hv hsz hz hz2
  ·exact Q59 hf hs hc hg hv hsz hz hz2
 ·exact Q6D hf hs hc hg hv hz
def ex0:Rl:={ Q8J [108,105,115,116] 6 with count:=1,elem:=2 }
def ex1:Rl:={ Q8J [110] 2 with size:=1,big:=true,mx:=255 }
def ex2:Rl:={ Q8J [120] 2 with size:=2,mx:=65535 }
def exF:List Rl:=[ex0,ex1,ex2]
set_option maxRecDepth 1000000 in
theorem Qcd:XC exF=(0,0):=by kernel_rfl
set_option maxRecDepth 1000000 in
theorem QcV:decide ((Q2a exF).length≤2000)=true:=by kernel_rfl
theorem Q5A:QL exF=(0,0):=by
 unfold QL
 rw[Qcd,if_neg (fun hh=>hh rfl),if_neg (by have:=of_decide_eq_true QcV;omega)]
theorem Q9k:FSm exF:=by
 refine⟨by decide,fun r hr=>?_⟩
 have:r=ex0∨r=ex1∨r=ex2:=by simpa [exF] using hr
 rcases this with rfl|rfl|rfl<;>exact⟨by decide,by decide,by decide,by decide,fun s hs=>by cases hs⟩
def exC(r:Rl):List Value:=ruC r (.slice none 0 0) (.slice none 0 0) (.slice none 0 0)
theorem Vp{A R:List Value}:∀(us:List Value) (A R:List Value),us.length≤R.length→ZD (A++R) A.length us=A++us++R.drop us.length
 |[],A,R,_=>by simp [ZD]
 |u::us,A,[],h=>by simp at h
 |u::us,A,x::R,h=>by
  rw[ZD,List.set_append_right _ _ (Nat.le_refl _),Nat.sub_self,List.set_cons_zero]
  have e:A++u::R=(A++[u])++R:=by simp
  have e2:A.length+1=(A++[u]).length:=by simp
  rw[e,e2,Vp (A:=[]) (R:=[]) us (A++[u]) R (by simpa using h)]
  simp
theorem QbO{Z A B:List Value}(n:Nat)(hA:A.length=n)(hB:B.length=n)(hZ:Z.length=n+n):ZD (ZD Z 0 A) n B=A++B:=by
 have h1:=Vp (A:=[]) (R:=[]) A [] Z (by omega)
 simp only[List.nil_append,List.length_nil] at h1
 rw[h1];have h2:=Vp (A:=[]) (R:=[]) B A (Z.drop A.length) (by rw[List.length_drop];omega);rw[hA] at h2 ⊢;rw[h2,List.drop_drop,List.drop_of_length_le (by omega),List.append_nil]
theorem Q81{Z A B C:List Value}(n:Nat)(hA:A.length=n)(hB:B.length=n)(hC:C.length=n)(hZ:Z.length=n+n+n):ZD (ZD (ZD Z 0 A) n B) (n+n) C=A++B++C:=by
 have h1:=Vp (A:=[]) (R:=[]) A [] Z (by omega)
 simp only[List.nil_append,List.length_nil] at h1
 rw[h1];have h2:=Vp (A:=[]) (R:=[]) B A (Z.drop A.length) (by rw[List.length_drop];omega);rw[hA] at h2 ⊢;rw[h2,List.drop_drop];have h3:=Vp (A:=[]) (R:=[]) C (A++B) (Z.drop (n+B.length)) (by rw[List.length_drop];omega);rw[List.length_append,hA,hB] at h3;rw[hB,h3,List.drop_drop,List.drop_of_length_le (by omega),List.append_nil]
set_option maxRecDepth 1000000 in
theorem Qec(w:World):(Instr.buildSlice 22 3 #[(0,.agg (exC ex0).toArray),(1,.agg (exC ex1).toArray),(2,.agg (exC ex2).toArray)]).run Tryz.prog w=.ok (.slice (some ⟨w.heap.size,0,none⟩) 3 3) (w.alloc (.cells (exC ex0++exC ex1++exC ex2).toArray 65)):=by
 have hT:SlT Tryz.prog 22 65 12 152:=(inferInstance:Sl Tryz.prog 22 65 12 152).h;obtain⟨i,z,hi,hz,hsz,hby,hzs⟩:=hT.info;refine run_buildSlice w _ _ 3 _ (exC ex0++exC ex1++exC ex2).toArray i z hT.und hi hz (by rw[hsz];omega) (by rw[hsz];omega) ?_;rw[hsz];obtain⟨Z,hZ,hZl⟩:∃Z:List Value,(Array.range (3*12)).map (z.cells[·% z.cells.size]!)=Z.toArray∧Z.length=36:=⟨_,(Array.toArray_toList).symm,by simp⟩;rw[hZ]
 show Instr.fill (fun i=>some (i*12,12)) Z.toArray [(0,.agg (exC ex0).toArray),(1,.agg (exC ex1).toArray),(2,.agg (exC ex2).toArray)]=_
 have hfin:ZD (ZD (ZD Z 0 (exC ex0)) 12 (exC ex1)) 24 (exC ex2)=exC ex0++exC ex1++exC ex2:=Q81 12 rfl rfl rfl hZl;rw[Vr (o:=0) (n:=12) (cs:=exC ex0) rfl rfl rfl (by omega),Vr (o:=12) (n:=12) (cs:=exC ex1) rfl rfl rfl (by rw[Xz];omega),Vr (o:=24) (n:=12) (cs:=exC ex2) rfl rfl rfl (by rw[Xz,Xz];omega),hfin,Q3f]
theorem Q94{w:World}{A:Option Addr}(h:Rd w w.heap.size 12 A 3 (exC ex0++exC ex1++exC ex2)):Xm w w.heap.size A 3 exF:=by
 refine⟨rfl,fun h0=>?_⟩;obtain⟨b,o,e,hb,hc⟩:=h.2 h0
 have hsl:∀r:Rl,r.bs=[]→r.names=[]→r.parts=[]→YN w w.heap.size r (.slice none 0 0) (.slice none 0 0) (.slice none 0 0):=fun r h1 h2 h3=>⟨none,0,0,none,0,0,none,0,0,rfl,rfl,rfl,Nat.le_refl _,Nat.le_refl _,Nat.le_refl _,by rw[h1];exact ZM _ _ _,by rw[h2];exact ZM _ _ _,by rw[h3];exact ZM _ _ _⟩
 refine⟨b,o,e,hb,fun i r hr=>?_⟩
 match i,hr with
 |0,hr=>cases hr;exact⟨_,_,_,⟨hc 0 _ rfl,hc 1 _ rfl,hc 2 _ rfl,hc 3 _ rfl,hc 4 _ rfl,hc 5 _ rfl,hc 6 _ rfl,hc 7 _ rfl,hc 8 _ rfl,hc 9 _ rfl,hc 10 _ rfl,hc 11 _ rfl⟩,hsl ex0 rfl rfl rfl⟩
 |1,hr=>cases hr;exact⟨_,_,_,⟨hc 12 _ rfl,hc 13 _ rfl,hc 14 _ rfl,hc 15 _ rfl,hc 16 _ rfl,hc 17 _ rfl,hc 18 _ rfl,hc 19 _ rfl,hc 20 _ rfl,hc 21 _ rfl,hc 22 _ rfl,hc 23 _ rfl⟩,hsl ex1 rfl rfl rfl⟩
 |2,hr=>cases hr;exact⟨_,_,_,⟨hc 24 _ rfl,hc 25 _ rfl,hc 26 _ rfl,hc 27 _ rfl,hc 28 _ rfl,hc 29 _ rfl,hc 30 _ rfl,hc 31 _ rfl,hc 32 _ rfl,hc 33 _ rfl,hc 34 _ rfl,hc 35 _ rfl⟩,hsl ex2 rfl rfl rfl⟩
 |n+3,hr=>cases hr
section
variable {W w:World}{O:List Qc}
theorem Wd.blkRd{b n s:Nat}{t:TypeId}{cs:List Value}(h:Wd [] W (.blk b (.cells cs.toArray t (0,0))::O) w)(hl:cs.length=n*s):Wd [] W (.rd (some ⟨b,0,none⟩) n s cs::O) w:=by
 have hft:∀q,(Qc.rd (some ⟨b,0,none⟩) n s cs).foot=some q→q=b:=fun q hq=>by
  simp only[Qc.foot] at hq
  split at hq
  ·cases hq
  ·cases hq;rfl
 have hpp:=List.pairwise_cons.1 h.pairs;refine .of_pairs h.k ?_ ?_ (List.pairwise_cons.2 ⟨fun x hx q hq hq'=>?_,hpp.2⟩)
 ·intro x hx
  rcases List.mem_cons.1 hx with rfl|hx
  ·exact h.rd_blk 0 rfl hl
  ·exact h.onAll x (List.mem_cons_of_mem _ hx)
 ·intro x hx q hq hlt
  rcases List.mem_cons.1 hx with rfl|hx
  ·simp [Qc.w]
  ·exact h.newAll x (List.mem_cons_of_mem _ hx) q hq hlt
 ·have:=hft q hq;subst this;have:=hpp.1 x hx q rfl hq'
  simp [Qc.w] at this
set_option maxRecDepth 1000000 in
set_option maxHeartbeats 16000000 in
theorem Q96(hw:Wd [] W O w):Calls Tryz.prog 25 #[] w (XR (fun b:Nat=>.agg #[.slice (some ⟨b,0,none⟩) 3 3]) (fun _=>True) [] W (fun b=>.rd (some ⟨b,0,none⟩) 3 12 (exC ex0++exC ex1++exC ex2)::O)):=by
 go_enter Tryz.func25,Tryz.ntmps25
 refine QE (M:=[]) (W:=W) (N:=6) (E:=[]) (O:=O) ?_ (Ag.nil rfl rfl) hw;refine yq<|yr ?_;refine yA fun b0=>?_;refine yl<|yn<|yq<|yr ?_;refine Q1 (QO (xs:=[(0,.const (.string ⟨#[108,105,115,116]⟩)),(1,.const (.int .i64 6)),(8,.const (.int .i64 1)),(9,.const (.int .i64 2))]) (vs:=[(0,.string ⟨#[108,105,115,116]⟩),(1,.int .i64 6),(8,.int .i64 1),(9,.int .i64 2)]) (v:=.agg (exC ex0).toArray) rfl rfl (by decide) rfl rfl (fun w=>run_build w _ _ _ (by kernel_rfl))) ?_;refine Q1 (QO (xs:=[(0,.const (.string ⟨#[110]⟩)),(1,.const (.int .i64 2)),(3,.const (.int .i64 1)),(4,.const (.bool true)),(6,.const (.int .i64 255))]) (vs:=[(0,.string ⟨#[110]⟩),(1,.int .i64 2),(3,.int .i64 1),(4,.bool true),(6,.int .i64 255)]) (v:=.agg (exC ex1).toArray) rfl rfl (by decide) rfl rfl (fun w=>run_build w _ _ _ (by kernel_rfl))) ?_;refine Q1 (QO (xs:=[(0,.const (.string ⟨#[120]⟩)),(1,.const (.int .i64 2)),(3,.const (.int .i64 2)),(6,.const (.int .i64 65535))]) (vs:=[(0,.string ⟨#[120]⟩),(1,.int .i64 2),(3,.int .i64 2),(6,.int .i64 65535)]) (v:=.agg (exC ex2).toArray) rfl rfl (by decide) rfl rfl (fun w=>run_build w _ _ _ (by kernel_rfl))) ?_;refine Qo (J8 (xs:=[(0,.tmp 1),(1,.tmp 2),(2,.tmp 3)]) (vs:=[(0,.agg (exC ex0).toArray),(1,.agg (exC ex1).toArray),(2,.agg (exC ex2).toArray)]) (cells:=exC ex0++exC ex1++exC ex2) rfl rfl rfl Qec) rfl (by decide) (fun b _=>?_);refine Q1 (QO (xs:=[(0,.tmp 4)]) (vs:=[(0,.slice (some ⟨b,0,none⟩) 3 3)]) (v:=.agg #[.slice (some ⟨b,0,none⟩) 3 3]) rfl rfl (by decide) rfl rfl (fun w=>run_build w _ _ _ (by kernel_rfl))) ?_;refine yW 1 ?_;refine yl<|yn<|yt ?_;exact Q7 (by exact .inr rfl) rfl (RsV.blk 1 rfl rfl rfl) (fun w hw=>⟨b,rfl,trivial,(Wd.blkRd (n:=3) (s:=12) hw rfl).sub (.cons_cons _ (.cons _ (.refl _)))⟩)
abbrev Q1k(i:Int):List Value:=[.int .i64 1,.int .i64 i,.slice none 0 0,.slice none 0 0,.slice none 0 0]
set_option maxRecDepth 1000000 in
theorem YC(n:Int)(w:World):Calls Tryz.prog 27 #[.int .i64 n] w fun e w'=>e=.returned (.agg (Q1k n).toArray)∧Below w.heap.size w w':=by
 go_enter Tryz.func27,Tryz.ntmps27
 refine QE (M:=[]) (W:=w) (N:=5) (E:=[(0,.int .i64 n)]) (O:=[]) ?_ (Ag.cons (Ag.nil rfl rfl) rfl) (Wd.start [] w);refine yq<|yr ?_;refine yA fun b2=>?_;refine yl<|yn<|yq<|yr<|yo zM ?_;refine Q1 (QO (xs:=[(0,.const (.int .i64 1)),(1,.tmp 3)]) (vs:=[(0,.int .i64 1),(1,.int .i64 n)]) (v:=.agg (Q1k n).toArray) rfl rfl (by decide) rfl rfl (fun w=>run_build w _ _ _ (by kernel_rfl))) ?_;refine yW 0 ?_;refine yl<|yn<|yt ?_;exact Q7 (by exact .inr rfl) rfl (RsV.blk 0 rfl rfl rfl) (fun w hw=>⟨rfl,hw.k.below⟩)
theorem Qax{A B:List Value}(hA:A.length=5)(hB:B.length=5)(w:World):(Instr.buildSlice 28 2 #[(0,.agg A.toArray),(1,.agg B.toArray)]).run Tryz.prog w=.ok (.slice (some ⟨w.heap.size,0,none⟩) 2 2) (w.alloc (.cells (A++B).toArray 30)):=by
 have hT:SlT Tryz.prog 28 30 5 88:=(inferInstance:Sl Tryz.prog 28 30 5 88).h;obtain⟨j,z,hi,hz,hsz,hby,hzs⟩:=hT.info;refine run_buildSlice w _ _ 2 _ (A++B).toArray j z hT.und hi hz (by rw[hsz];omega) (by rw[hsz];omega) ?_;rw[hsz];obtain⟨Z,hZ,hZl⟩:∃Z:List Value,(Array.range (2*5)).map (z.cells[·% z.cells.size]!)=Z.toArray∧Z.length=10:=⟨_,(Array.toArray_toList).symm,by simp⟩;rw[hZ]
 show Instr.fill (fun i=>some (i*5,5)) Z.toArray [(0,.agg A.toArray),(1,.agg B.toArray)]=_
 rw[Vr (o:=0) (n:=5) (cs:=A) rfl rfl hA (by omega),Vr (o:=5) (n:=5) (cs:=B) rfl rfl hB (by rw[Xz];omega),Q3f,QbO 5 hA hB hZl]
abbrev QeS(b:Nat):Value:=.agg #[.int .i64 3,.int .i64 0,.slice none 0 0,.slice none 0 0,.slice (some ⟨b,0,none⟩) 2 2]
abbrev Q1G(i j:Int):VF:=.cons (ndN i) .nil (.cons (ndN j) .nil .nil)
set_option maxRecDepth 1000000 in
theorem QbL(i j:Int)(hw:Wd [] W O w):Calls Tryz.prog 26 #[.agg (Q1k i).toArray,.agg (Q1k j).toArray] w (XR (fun b:Nat=>QeS b) (fun _=>True) [] W (fun b=>.rd (some ⟨b,0,none⟩) 2 5 (Q1k i++Q1k j)::O)):=by
 go_enter Tryz.func26,Tryz.ntmps26
 refine QE (M:=[]) (W:=W) (N:=9) (E:=[(0,.agg (Q1k i).toArray),(1,.agg (Q1k j).toArray)]) (O:=O) ?_ (Ag.cons (Ag.cons (Ag.nil rfl rfl) rfl) rfl) hw;refine yq<|yr ?_;refine yB fun b2=>?_;refine yB fun b3=>?_;refine yA fun b4=>?_;refine yl<|yn<|yq<|yr<|yo (zD 2)<|yo (zD 1) ?_;refine Qo (J8 (xs:=[(0,.tmp 5),(1,.tmp 6)]) (vs:=[(0,.agg (Q1k i).toArray),(1,.agg (Q1k j).toArray)]) (cells:=Q1k i++Q1k j) rfl rfl rfl (Qax rfl rfl)) rfl (by decide) (fun b _=>?_);refine Q1 (QO (xs:=[(0,.const (.int .i64 3)),(4,.tmp 7)]) (vs:=[(0,.int .i64 3),(4,.slice (some ⟨b,0,none⟩) 2 2)]) (v:=QeS b) rfl rfl (by decide) rfl rfl (fun w=>run_build w _ _ _ (by kernel_rfl))) ?_;refine yW 1 ?_;refine yl<|yn<|yt ?_;exact Q7 (by exact .inr rfl) rfl (RsV.blk 1 rfl rfl rfl) (fun w hw=>⟨b,rfl,trivial,(Wd.blkRd (n:=2) (s:=5) hw rfl).sub (.cons_cons _ (.cons _ (.cons _ (.cons _ (.refl _)))))⟩)
theorem Q68(i j:Int)(b:Nat):XA [.rd (some ⟨b,0,none⟩) 2 5 (Q1k i++Q1k j)] (QeS b) ndL (Q1G i j):=
 XA.list (l:=Q1G i j) ((JO.nil.snoc (XA.num i)).snoc (XA.num j)) (Nat.le_refl 2) (by decide)
def exD:List UInt8:=[2,5,0,6,0]
set_option maxRecDepth 1000000 in
theorem QdO:Qx exF exD (V9 exF exD) 0 0=some (.ok (ndL,Q1G 5 6,5)):=by kernel_rfl
set_option maxRecDepth 1000000 in
theorem Qc2:Zg ndL (Q1G 5 6)=(0,0):=by kernel_rfl
theorem QaQ:Z0 exF exD=((ndL,Q1G 5 6),(0,0)):=Q4m (y:=(ndL,Q1G 5 6,5)) Q5A (by decide) QdO (by decide) Qc2
set_option maxRecDepth 1000000 in
theorem Qcc:Z0 exF [2,5,0]=((ndZ,.nil),(1,3)):=Q95 (x:=3) Q5A (by decide) (by kernel_rfl)
set_option maxRecDepth 1000000 in
theorem QcM:Z0 exF [0,9]=((ndZ,.nil),(1,1)):=Q43 (y:=(ndL,.nil,1)) Q5A (by decide) (by kernel_rfl) (by decide)
set_option maxRecDepth 1000000 in
theorem Qca:QA exF 0 ndL (Q1G 5 6) 0=.ok (exD,3):=by kernel_rfl
theorem Qaz:J1 exF ndL (Q1G 5 6)=(exD,(0,0)):=Q4A Q5A Qc2 Qca (by decide)
end
instance :En Tryz.prog 25:=⟨fun _ _=>by kernel_rfl⟩
instance :En Tryz.prog 26:=⟨fun _ _=>by kernel_rfl⟩
instance :En Tryz.prog 27:=⟨fun _ _=>by kernel_rfl⟩
instance :En Tryz.prog 10:=⟨fun _ _=>by kernel_rfl⟩
section
variable {P:Program}{ops:Array Oper}{Q:Exit→Act→World→Prop}{N:Nat}{M:List Nat}{W:World}{E:Env}{O:List Qc}{o:Oper}{C:World→Prop}{d:Nat}
theorem Qbg(T:List Nat:=[]){id:Nat}{l:List Oper}(hm:P.follows .mixedOrders=true)(h:dE P l.toArray Q N M W O T l.length (Array.replicate l.length false) E O):sE P Q N M W E O (.region id l.toArray true):=XQ O T hm h
theorem Q4Z{x y:Operand}{t':TypeId}{a b a' b':Int}{v:Bool}(ho:o.op=.binOp .eql 32 x y t')(hd:o.dst=some d)(hN:d<N)(hw:Qj ops E o=some true)(hx:ev E x=some (.agg #[.int .i64 a,.int .i64 b]))(hy:ev E y=some (.agg #[.int .i64 a',.int .i64 b']))(hb:(a==a'&&b==b')=v):oE Tryz.prog ops C N E ((d,.bool v)::E) o:=
 Xq hd hN hw fun ρ w ha _=>by
  subst hb
  by_cases h1:a=a'<;>by_cases h2:b=b'<;>simp [execOp,ho,ha.eval hx,ha.eval hy,h1,h2,go_sem]
end
section
variable {W w:World}{O:List Qc}
theorem XO{F:List Rl}{D:List UInt8}{A A2:Option Addr}{n c m c2:Nat}{d:Nd}{l:VF}{cd x:Int}(hw:Wd [] W O w)(hf:Xm w w.heap.size A n F)(hs:FSm F)(hc:n≤c)(hg:GV w)(hd:Rd w w.heap.size 1 A2 m (bv D))(hmc:m≤c2)(hc2:c2≤maxLen)(h:Z0 F D=((d,l),(cd,x))):
  Calls Tryz.prog 11 #[.agg #[.slice A n c],.slice A2 m c2] w (XR (fun y:Py=>.tuple #[.agg (y.cells d).toArray,.agg #[.int .i64 cd,.int .i64 x]]) (fun y=>XA y.L (.agg (y.cells d).toArray) d l) [] W (fun y=>O++y.L)):=
 (Q6R hf hs hc hg hd hmc hc2).mono fun e w' ⟨y,h1,h2,h3,h4⟩=>by
  rw[h] at h1 h2;exact⟨y,h1,h2,hw.made h4 h3⟩
theorem Q2B{F:List Rl}{A:Option Addr}{n c:Nat}{d:Nd}{l:VF}{v:Value}{b:List UInt8}{cd x:Int}(hw:Wd [] W O w)(hf:Xm w w.heap.size A n F)(hs:FSm F)(hc:n≤c)(hg:GV w)(hv:VIn w w.heap.size v d l)(hsz:Sz d l)(h:J1 F d l=(b,(cd,x))):
  Calls Tryz.prog 15 #[.agg #[.slice A n c],v] w (XR (fun y:Option Addr×Nat=>.tuple #[.slice y.1 b.length y.2,.agg #[.int .i64 cd,.int .i64 x]]) (fun y=>b.length≤y.2∧y.2≤maxLen) [] W (fun y=>O++[.rd y.1 b.length 1 (bv b)])):=
 (Q5a hf hs hc hg hv hsz).mono fun e w' ⟨A',c',h1,h2,h3,h4,h5⟩=>by
  rw[h] at h1 h2 h3;exact⟨(A',c'),h1,⟨h3,h4⟩,hw.made h5 h2⟩
theorem Q2w{n:Nat}{vs:List (Nat×Value)}{cells:List Value}(hn:n≤1000∧0<n)(h:∀Z:Array Value,Z.size=n*1→Instr.fill (fun i=>some (i*1,1)) Z vs=some cells.toArray)(w:World):(Instr.buildSlice 25 n vs.toArray).run Tryz.prog w=.ok (.slice (some ⟨w.heap.size,0,none⟩) n n) (w.alloc (.cells cells.toArray 5)):=by
 have hT:SlT Tryz.prog 25 5 1 1:=(inferInstance:Sl Tryz.prog 25 5 1 1).h;obtain⟨j,z,hi,hz,hsz,hby,hzs⟩:=hT.info;refine run_buildSlice w _ _ n vs.toArray cells.toArray j z hT.und hi hz (by rw[hsz];omega) (by rw[hsz];omega) ?_;rw[hsz];exact h _ (by simp)
end
theorem Q8Z:Sz ndL (Q1G 5 6):=by
 refine⟨⟨⟨by decide,by decide,by decide,by decide⟩,by decide,by decide,fun x hx=>by cases hx⟩,⟨⟨⟨by decide,by decide,by decide,by decide⟩,by decide,by decide,fun x hx=>by cases hx⟩,by decide,trivial,⟨⟨by decide,by decide,by decide,by decide⟩,by decide,by decide,fun x hx=>by cases hx⟩,by decide,trivial,trivial⟩,by decide⟩
set_option maxRecDepth 1000000 in
set_option maxHeartbeats 16000000 in
theorem Ye{W:World}(hg:GV W):Calls Tryz.prog 10 #[] W fun e w'=>e=.returned (.bool true)∧Below W.heap.size W w':=by
 have HG:=Lib.hid hg;clear hg
 go_enter Tryz.func10,Tryz.ntmps10
 refine QE (M:=[]) (W:=W) (N:=65) (E:=[]) (O:=[]) ?_ (Ag.nil rfl rfl) (Wd.start [] W);refine yq<|yr<|yo zA<|yl<|yn<|yq<|yr ?_;refine Qo (QM _ _ _ rfl rfl rfl (fun w hw=>Q96 hw)) rfl (by decide) (fun p1 _=>?_)
 refine Qo (J8 (xs:=[(0,.const (.int .u8 2)),(1,.const (.int .u8 5)),(2,.const (.int .u8 0)),(3,.const (.int .u8 6)),(4,.const (.int .u8 0))]) (vs:=[(0,.int .u8 2),(1,.int .u8 5),(2,.int .u8 0),(3,.int .u8 6),(4,.int .u8 0)]) (cells:=bv exD) rfl rfl rfl (Q2w (by decide) (by rintro⟨l⟩ h;match l,h with|[z0,z1,z2,z3,z4],_=>rfl))) rfl (by decide) (fun d1 _=>?_)
 refine Qo (QM _ _ _ rfl rfl rfl (fun w hw=>XO hw (Q94 (hw.own 1 _ rfl)) Q9k (Nat.le_refl _) (HG.out.on hw.k.below) (hw.rd_blk (n:=5) 0 rfl rfl) (Nat.le_refl _) (by decide) QaQ)) rfl (by decide) (fun q1 hy1=>?_);refine yo zM<|yo zX<|yo zX ?_;refine yA fun b1=>?_;refine yA fun b2=>?_;refine yW 1 ?_;refine yW 0 ?_;refine yl ?_;have HY1:=Lib.hid hy1;clear hy1;refine yn<|yq<|yr ?_;refine Qo (QM _ _ _ rfl rfl rfl (fun w hw=>Q96 hw)) rfl (by decide) (fun p2 _=>?_)
 refine Qo (J8 (xs:=[(0,.const (.int .u8 2)),(1,.const (.int .u8 5)),(2,.const (.int .u8 0))]) (vs:=[(0,.int .u8 2),(1,.int .u8 5),(2,.int .u8 0)]) (cells:=bv [2,5,0]) rfl rfl rfl (Q2w (by decide) (by rintro⟨l⟩ h;match l,h with|[z0,z1,z2],_=>rfl))) rfl (by decide) (fun d2 _=>?_)
 refine Qo (QM _ _ _ rfl rfl rfl (fun w hw=>XO hw (Q94 (hw.own 1 _ rfl)) Q9k (Nat.le_refl _) (HG.out.on hw.k.below) (hw.rd_blk (n:=3) 0 rfl rfl) (Nat.le_refl _) (by decide) Qcc)) rfl (by decide) (fun q2 hy2=>?_);refine yo zM<|yo zX<|yo zX ?_;refine yA fun b3=>?_;refine yA fun b4=>?_;refine yW 1 ?_;refine yW 0 ?_;refine yl ?_;clear hy2;refine yn<|yq<|yr ?_;refine Qo (QM _ _ _ rfl rfl rfl (fun w hw=>Q96 hw)) rfl (by decide) (fun p3 _=>?_)
 refine Qo (J8 (xs:=[(0,.const (.int .u8 0)),(1,.const (.int .u8 9))]) (vs:=[(0,.int .u8 0),(1,.int .u8 9)]) (cells:=bv [0,9]) rfl rfl rfl (Q2w (by decide) (by rintro⟨l⟩ h;match l,h with|[z0,z1],_=>rfl))) rfl (by decide) (fun d3 _=>?_)
 refine Qo (QM _ _ _ rfl rfl rfl (fun w hw=>XO hw (Q94 (hw.own 1 _ rfl)) Q9k (Nat.le_refl _) (HG.out.on hw.k.below) (hw.rd_blk (n:=2) 0 rfl rfl) (Nat.le_refl _) (by decide) QcM)) rfl (by decide) (fun q3 hy3=>?_);refine yo zM<|yo zX<|yo zX ?_;refine yA fun b5=>?_;refine yA fun b6=>?_;refine yW 1 ?_;refine yW 0 ?_;refine yl ?_;clear hy3;refine yn<|yq<|yr ?_;refine Qo (QM _ _ _ rfl rfl rfl (fun w hw=>Q96 hw)) rfl (by decide) (fun p4 _=>?_);refine Q1 (Qb rfl rfl (by decide) rfl rfl (fun w hw=>YC 5 w)) ?_;refine Q1 (Qb rfl rfl (by decide) rfl rfl (fun w hw=>YC 6 w)) ?_;refine Qo (QM _ _ _ rfl rfl rfl (fun w hw=>QbL 5 6 hw)) rfl (by decide) (fun s4 _=>?_);refine Qo (QM _ _ _ rfl rfl rfl (fun w hw=>Q2B hw (Q94 (hw.own 1 _ rfl)) Q9k (Nat.le_refl _) (HG.out.on hw.k.below) ((Q68 5 6 s4).vin (fun x hx=>by rw[List.mem_singleton] at hx;subst hx;exact hw.own 0 _ rfl)) Q8Z Qaz)) rfl (by decide) (fun wo hyo=>?_);refine yo zM<|yo zX<|yo zX ?_;refine yA fun b8=>?_;refine yo zA ?_;refine yW 0 ?_;refine yl<|yn<|yq ?_;refine Qbg [] (by kernel_rfl) ?_;refine Qe 0 rfl (by kernel_rfl) (fun _ hw=>hw) zF ?_;refine Qe 1 rfl (by kernel_rfl) (fun _ hw=>hw) (zB 11) ?_;refine Qe 2 rfl (by kernel_rfl) (fun _ hw=>hw) zet ?_;refine Qe 3 rfl (by kernel_rfl) (fun _ hw=>hw) zM ?_;refine Qe 4 rfl (by kernel_rfl) (fun _ hw=>hw) zF ?_;refine Qe 5 rfl (by kernel_rfl) (fun _ hw=>hw) (zB 0) ?_;refine Qe 6 rfl (by kernel_rfl) (fun _ hw=>hw) zet ?_;refine Qe 7 rfl (by kernel_rfl) (fun _ hw=>hw) zY ?_;refine Qe 8 rfl (by kernel_rfl) (fun _ hw=>hw) zM ?_;refine Qe 9 rfl (by kernel_rfl) (fun _ hw=>hw) (QB (cs:=q1.cells ndL) rfl rfl (by decide) rfl rfl (fun w hw=>Wd.range_blk 12 (cs:=q1.cells ndL) rfl hw) rfl) ?_;refine Qe 10 rfl (by kernel_rfl) (fun _ hw=>hw) (Qb rfl rfl (by decide) rfl rfl (fun w hw=>YC 5 w)) ?_;refine Qe 11 rfl (by kernel_rfl) (fun _ hw=>hw) (Qb rfl rfl (by decide) rfl rfl (fun w hw=>YC 6 w)) ?_;refine QC 12 (by kernel_rfl) rfl rfl (QM _ _ _ rfl rfl rfl (fun w hw=>QbL 5 6 hw)) (fun _=>.inr (fun _ hw=>hw.tl)) rfl (by decide) (fun s5 _=>?_);refine Q7f 13 (by kernel_rfl) rfl (.inr (fun _ hw=>hw.tl)) (Qb rfl rfl (by decide) rfl rfl (fun w hw=>Kr ndL (Q1G 5 6) ndL (Q1G 5 6) w _ _ Q8Z.1.2.2.1 Q8Z.2.2 Q8Z.2.1 (HY1.out.vin fun x hx=>hw.onAll x (by simp [hx])) ((Q68 5 6 s5).vin (fun x hx=>by rw[List.mem_singleton] at hx;subst hx;exact hw.own 0 _ rfl)))) ?_;rw[(Q9l ndL (Q1G 5 6) ndL (Q1G 5 6)).2 ⟨rfl,rfl⟩];refine Qe 14 rfl (by kernel_rfl) (fun _ hw=>hw.tl) zY ?_;refine Qe 15 rfl (by kernel_rfl) (fun _ hw=>hw.tl) zM ?_;refine Qe 16 rfl (by kernel_rfl) (fun _ hw=>hw.tl) (QB (cs:=[.int .i64 1,.int .i64 3]) rfl rfl (by decide) rfl rfl (fun w hw=>Wd.range_blk 7 (cs:=[.int .i64 1,.int .i64 3]) rfl hw) rfl) ?_;refine Qe 17 rfl (by kernel_rfl) (fun _ hw=>hw.tl) (Qb rfl rfl (by decide) rfl rfl (fun w hw=>(Q3q _ _ w).mono (fun e w2 h=>⟨h.1,h.2▸Zm _ _⟩))) ?_;refine Qe 18 rfl (by kernel_rfl) (fun _ hw=>hw.tl) (Q4Z rfl rfl (by decide) rfl rfl rfl rfl) ?_;refine Qe 19 rfl (by kernel_rfl) (fun _ hw=>hw.tl) zY ?_;refine Qe 20 rfl (by kernel_rfl) (fun _ hw=>hw.tl) zM ?_;refine Qe 21 rfl (by kernel_rfl) (fun _ hw=>hw.tl) (QB (cs:=[.int .i64 1,.int .i64 1]) rfl rfl (by decide) rfl rfl (fun w hw=>Wd.range_blk 3 (cs:=[.int .i64 1,.int .i64 1]) rfl hw) rfl) ?_
 refine Qe 22 rfl (by kernel_rfl) (fun _ hw=>hw.tl) (Qb rfl rfl (by decide) rfl rfl (fun w hw=>(Q3q _ _ w).mono (fun e w2 h=>⟨h.1,h.2▸Zm _ _⟩))) ?_;refine Qe 23 rfl (by kernel_rfl) (fun _ hw=>hw.tl) (Q4Z rfl rfl (by decide) rfl rfl rfl rfl) ?_;refine Qe 24 rfl (by kernel_rfl) (fun _ hw=>hw.tl) zY ?_;refine Qe 25 rfl (by kernel_rfl) (fun _ hw=>hw.tl) zM ?_;refine Qe 26 rfl (by kernel_rfl) (fun _ hw=>hw.tl) zM ?_
 refine QC 27 (by kernel_rfl) rfl rfl (J8 (xs:=[(0,.const (.int .u8 2)),(1,.const (.int .u8 5)),(2,.const (.int .u8 0)),(3,.const (.int .u8 6)),(4,.const (.int .u8 0))]) (vs:=[(0,.int .u8 2),(1,.int .u8 5),(2,.int .u8 0),(3,.int .u8 6),(4,.int .u8 0)]) (cells:=bv exD) rfl rfl rfl (Q2w (by decide) (by rintro⟨l⟩ h;match l,h with|[z0,z1,z2,z3,z4],_=>rfl))) (fun _=>.inr (fun _ hw=>hw.tl.tl)) rfl (by decide) (fun d5 _=>?_)
 refine Q7f 28 (by kernel_rfl) rfl (.inr (fun _ hw=>hw.tl.tl)) (Qb rfl rfl (by decide) rfl rfl (fun w hw=>Calls.stay (K7 (a:=exD) (b:=exD) (B:=w.heap.size) (B':=w.heap.size) (hw.onAll (.rd wo.1 exD.length 1 (bv exD)) (by simp)) (hw.rd_blk (n:=5) 0 rfl rfl)))) ?_;refine Qe 29 rfl (by kernel_rfl) (fun _ hw=>hw.tl.tl) zY ?_;refine Qe 30 rfl (by kernel_rfl) (fun _ hw=>hw.tl.tl) zA ?_;refine Xh ?_ (by kernel_rfl);refine yn<|yt ?_;exact Q7 (by exact .inr rfl) rfl (.tmp rfl) (fun w hw=>⟨by rfl,hw.k.below⟩)
def Q7D(W:World)(e:Ending)(w':World):Prop:=e=.returned (.bool true)∧Below W.heap.size W w'
section
variable {A A2:Option Addr}{n c m c2:Nat}{W:World}{F:List Rl}{D:List UInt8}{d:Nd}{l:VF}{v:Value}
theorem Qdd(hs:FSm F)(h:(Z0 F D).2.1=0):Sz (Z0 F D).1.1 (Z0 F D).1.2:=by
 obtain⟨h0,hl,d,l,he,hr,hval⟩:=Q5b h;have hv:=VD h0;rw[he];exact Yt hv (by omega) (fun r hr x hx=>(hs.2 r hr).each x hx) _ ⟨by omega,by have:=hv.len;omega⟩ 0 _ (Nat.zero_le _) hr
theorem Q70(d:Nd)(l:VF):eqV d l d l=true:=(Q9l d l d l).2 ⟨rfl,rfl⟩
theorem neI{a:Int}(h:a≠0):(a != 0)=true:=bne_iff_ne.2 h
set_option maxRecDepth 1000000 in
set_option maxHeartbeats 16000000 in
theorem K0(hf:Xm W W.heap.size A n F)(hs:FSm F)(hc:n≤c)(hg:GV W)(hd:Rd W W.heap.size 1 A2 m (bv D))(hmc:m≤c2)(hc2:c2≤maxLen):
  Calls Tryz.prog 5 #[.agg #[.slice A n c],.slice A2 m c2] W (Q7D W):=by
 have HF:=Lib.hid hf;have HS:=Lib.hid hs;have HG:=Lib.hid hg;have HD:=Lib.hid hd;obtain⟨⟨⟨d,l⟩,cd,x⟩,hp⟩:∃p,Z0 F D=p:=⟨_,rfl⟩;have HP:=Lib.hid hp;clear hf hs hg hd
 go_enter Tryz.func5,Tryz.ntmps5
 refine QE (M:=[]) (W:=W) (N:=37) (E:=[(0,.agg #[.slice A n c]),(1,.slice A2 m c2)]) (O:=[]) ?_ (Ag.cons (Ag.cons (Ag.nil rfl rfl) rfl) rfl) (Wd.start [] W);refine yq<|yr ?_;refine yB fun b2=>?_;refine yo zA<|yl<|yn<|yq<|yq<|yr ?_;refine Q1 (Qb rfl rfl (by decide) rfl rfl (fun w hw=>Ye (HG.out.on hw.k.below))) ?_;refine yo zO<|yl<|yn<|y0<|ys<|yn<|yq<|yr<|yo (zD 0)<|yo zM ?_;refine Qo (QM _ _ _ rfl rfl rfl (fun w hw=>XO hw (HF.out.on hw.k.below) HS.out hc (HG.out.on hw.k.below) (HD.out.up hw.k.below) hmc hc2 HP.out)) rfl (by decide) (fun y hy=>?_);refine yo zM<|yo zX<|yo zX ?_;refine yA fun b5=>?_;refine yA fun b6=>?_;refine yW 1 ?_;refine yW 0 ?_;refine yl ?_;have HY:=Lib.hid hy;clear hy
 by_cases hz:cd=0
 ·subst hz
  have hok:(Z0 F D).2.1=0:=by rw[hp]
  have HSZ:=Lib.hid (show Sz d l by have:=Qdd HS.out hok;rw[hp] at this;exact this);have hw0:=Q7X hok;rw[hp] at hw0;have HW:=Lib.hid (show J1 F d l=(D,(0,0)) from hw0);clear hp hok hw0;refine yn<|yq<|yq<|yr<|yo zF<|yo (zB 0)<|yo znf<|yl<|yn<|y0<|ys<|yn<|yq<|yr<|yo (zD 2)<|yo (zD 1) ?_;refine Qo (QM _ _ _ rfl rfl rfl (fun w hw=>Q2B hw (HF.out.on hw.k.below) HS.out hc (HG.out.on hw.k.below) (HY.out.vin fun x hx=>hw.onAll x (by simp [hx])) HSZ.out HW.out)) rfl (by decide) (fun wo hyo=>?_);refine yo zM<|yo zX<|yo zX ?_;refine yA fun b8=>?_;refine yo zA ?_;refine yW 0 ?_;refine yl<|yn<|yq<|yr<|yo zF<|yo (zB 0)<|yo zet<|yo zM<|yo zM<|yo zM ?_;refine Q1 (Qb rfl rfl (by decide) rfl rfl (fun w hw=>Calls.stay (K7 (a:=D) (b:=D) (B:=w.heap.size) (B':=w.heap.size) (hw.onAll (.rd wo.1 D.length 1 (bv D)) (by simp)) (HD.out.up hw.k.below)))) ?_;refine yo zY<|yo zA<|yl<|yn<|yt ?_;exact Q7 (by exact .inr rfl) rfl (.tmp rfl) (fun w hw=>⟨by rw[beq_self_eq_true],hw.k.below⟩)
 ·have hbad:(Z0 F D).1=(ndZ,.nil):=Qc9 (by rw[hp];exact hz);rw[hp] at hbad;have e1:d=ndZ:=congrArg Prod.fst hbad;have e2:l=.nil:=congrArg Prod.snd hbad;subst e1 e2;clear hp hbad;have hnz:=neI hz;refine yn<|yq<|yq<|yr<|yo zF<|yo (zB 0)<|yo zna<|yl<|yn<|y1<|yq<|yr<|yo (zD 1) ?_;refine Q1 (QO (xs:=[]) (vs:=[]) (v:=.agg #[.int .i64 0,.int .i64 0,.slice none 0 0,.slice none 0 0,.slice none 0 0]) rfl rfl (by decide) rfl rfl (fun w=>run_build w _ _ _ (by kernel_rfl))) ?_;refine Q1 (Qb rfl rfl (by decide) rfl rfl (fun w hw=>Kr ndZ .nil ndZ .nil w _ _ (by decide) (by decide) trivial (HY.out.vin fun x hx=>hw.onAll x (by simp [hx])) (XA.zero.vin fun x hx=>by cases hx))) ?_;refine yo zA<|yl<|yn<|yt<|yc ?_;exact Q7 (by exact .inr rfl) rfl (.tmp rfl) (fun w hw=>⟨by rw[Q70],hw.k.below⟩)
set_option maxRecDepth 1000000 in
set_option maxHeartbeats 16000000 in
theorem YS(hf:Xm W W.heap.size A n F)(hs:FSm F)(hc:n≤c)(hg:GV W)(hv:VIn W W.heap.size v d l)(hsz:Sz d l):
  Calls Tryz.prog 6 #[.agg #[.slice A n c],v] W (Q7D W):=by
 have HF:=Lib.hid hf;have HS:=Lib.hid hs;have HG:=Lib.hid hg;have HV:=Lib.hid hv;have HSZ:=Lib.hid hsz;obtain⟨⟨b,cd,x⟩,hp⟩:∃p,J1 F d l=p:=⟨_,rfl⟩;have HP:=Lib.hid hp;obtain⟨sb,sn,sp,rfl,Abv,nb,cbv,Anv,nnv,cnv,Apv,cpv,rfl,rfl,rfl,_⟩:=hv;clear hf hs hg hsz
 go_enter Tryz.func6,Tryz.ntmps6
 refine QE (M:=[]) (W:=W) (N:=37) (E:=[(0,.agg #[.slice A n c]),(1,.agg #[.int .i64 d.k,.int .i64 d.n,.slice Abv nb cbv,.slice Anv nnv cnv,.slice Apv l.len cpv])]) (O:=[]) ?_ (Ag.cons (Ag.cons (Ag.nil rfl rfl) rfl) rfl) (Wd.start [] W);refine yq<|yr ?_;refine yB fun b2=>?_;refine yB fun b3=>?_;refine yo zA<|yl<|yn<|yq<|yq<|yr ?_;refine Q1 (Qb rfl rfl (by decide) rfl rfl (fun w hw=>Ye (HG.out.on hw.k.below))) ?_;refine yo zO<|yl<|yn<|y0<|ys<|yn<|yq<|yr<|yo (zD 1)<|yo (zD 0) ?_;refine Qo (QM _ _ _ rfl rfl rfl (fun w hw=>Q2B hw (HF.out.on hw.k.below) HS.out hc (HG.out.on hw.k.below) (HV.out.on hw.k.below) HSZ.out HP.out)) rfl (by decide) (fun wo hyo=>?_);refine yo zM<|yo zX<|yo zX ?_;refine yA fun b6=>?_;refine yo zA ?_;refine yW 0 ?_;refine yl ?_
 by_cases hz:cd=0
 ·subst hz
  have hok:(J1 F d l).2.1=0:=by rw[hp]
  have hr0:=Q7G hok;rw[hp] at hr0;have HR:=Lib.hid (show Z0 F b=((d,l),(0,0)) from hr0);clear hp hok hr0;refine yn<|yq<|yq<|yr<|yo zF<|yo (zB 0)<|yo znf<|yl<|yn<|y0<|ys<|yn<|yq<|yr<|yo (zD 2)<|yo zM ?_;refine Qo (QM _ _ _ rfl rfl rfl (fun w hw=>XO hw (HF.out.on hw.k.below) HS.out hc (HG.out.on hw.k.below) (hw.onAll (.rd wo.1 b.length 1 (bv b)) (by simp)) hyo.1 hyo.2 HR.out)) rfl (by decide) (fun y hy=>?_);refine yo zM<|yo zX<|yo zX ?_;refine yA fun b7=>?_;refine yA fun b8=>?_;refine yW 1 ?_;refine yW 0 ?_;refine yl<|yn<|yq<|yr<|yo zF<|yo (zB 0)<|yo zet<|yo zM<|yo (zD 3)<|yo (zD 1) ?_;refine Q1 (Qb rfl rfl (by decide) rfl rfl (fun w hw=>Kr d l d l w _ _ HSZ.out.1.2.2.1 HSZ.out.2.2 HSZ.out.2.1 (HV.out.on hw.k.below) (hy.vin fun x hx=>hw.onAll x (by simp [hx])))) ?_;refine yo zY<|yo zA<|yl<|yn<|yt ?_;exact Q7 (by exact .inr rfl) rfl (.tmp rfl) (fun w hw=>⟨by rw[Q70],hw.k.below⟩)
 ·have hbad:(J1 F d l).1=[]:=Qco (by rw[hp];exact hz);rw[hp] at hbad;have e1:b=[]:=hbad;subst e1;clear hp hbad;have hnz:=neI hz;refine yn<|yq<|yq<|yr<|yo zF<|yo (zB 0)<|yo zna<|yl<|yn<|y1<|yq<|yr<|yo zM<|yo zL<|yo zer<|yo zA<|yl<|yn<|yt<|yc ?_;exact Q7 (by exact .inr rfl) rfl (.tmp rfl) (fun w hw=>⟨rfl,hw.k.below⟩)
end
end Go.Proofs.YtphkhfdmlcnoeaaGreatDoor
