import Derived.Test.YtgdiadednlajgaaGreatDoorP36
namespace Go.Proofs.YtgdiadednlajgaaGreatDoor
set_option linter.unusedVariables false
set_option linter.unusedSimpArgs false
open Go.RowKit
theorem Qft{Q:Exit→Act→World→Prop}{N:Nat}{M:List Nat}{W:World}{E:Env}{O O':List Qg}{e:Exit}(f:∀w,Wd M W O w→Wd M W O' w)(h:xE Q N M W E O' e):xE Q N M W E O e:=fun a w ha hw=>h a w ha (f w hw)
theorem Q94{W w:World}{O:List Qg}{s:List UInt8}{A:Option Addr}{n c:Nat}{cur:List RlY}{at_:List Qg}(hn:cur.length=n)(hp:Zn s=(cur.map RlY.x,0,0))(hc:n≤c)(hs:FSm (cur.map RlY.x))(hat:∀a∈at_,a.w=false)(hf:∀w,(∀a∈at_,a.on w)→∀z∈cur,RlF z w)(h:Wd [] W (.row A n c 52 12 (QR cur)::(at_++O)) w):QW PrY.v (PrI s) [] W (fun y=>y.ats++O) (.returned (.tuple #[.agg #[.slice A n c],.agg #[.int .i64 0,.int .i64 0]])) w:=by
 have hl:(cur.map RlY.x).length=n:=by rw[List.length_map];exact hn
 subst hl;refine⟨⟨cur.map RlY.x,A,c,(0,0),.rd A (cur.map RlY.x).length 12 (QR cur)::at_⟩,rfl,⟨hp,hc,hs,fun a ha=>?_,fun w hw=>?_⟩,h.toRd (i:=0) rfl (by decide)⟩
 ·rcases List.mem_cons.1 ha with e|ha
  ·rw[e];rfl
  ·exact hat a ha
 ·exact QbE (hw _ List.mem_cons_self) (by rw[List.length_map]) (hf w fun a ha=>hw a (List.mem_cons_of_mem _ ha))
section
variable {W w:World}{O:List Qg}
set_option maxRecDepth 100000 in
set_option maxHeartbeats 64000000 in
theorem YT{s0:List UInt8}(hg:GV W)(hs0:s0.length≤1048576)(hw:Wd [] W O w):
  Calls Tryz.prog 21 #[.string ⟨s0.toArray⟩] w (QW PrY.v (PrI s0) [] W (fun y=>y.ats++O)):=by
 have HG:=Lib.hid hg;have hsz:=Xh s0;clear hg
 by_cases hlong:2000<s0.length
 ·go_enter Tryz.func21,Tryz.ntmps21
  refine QE (M:=[]) (W:=W) (N:=86) (E:=[(0,.string ⟨s0.toArray⟩)]) (O:=O) ?_ (Ag.cons (Ag.nil rfl rfl) rfl) hw
  repeat(first|refine Q1 zM ?_|refine Qa (Xn rfl rfl) rfl (by decide) (fun gg _=>?_)|refine Q1 (QZ (xs:=[]) (vs:=[]) (v:=.agg #[.slice none 0 0]) rfl rfl (by decide) rfl rfl (fun w=>run_build w _ _ _ (by kernel_rfl))) ?_|refine Q1 (Q4 (f:=39) rfl rfl (by decide) rfl rfl (fun w hw=>XK _ _ w)) ?_|(refine Qq (Qs 1 rfl rfl rfl rfl rfl rfl rfl (by simp)) rfl (fun _ _=>?_);rw[Qw (by rfl)])|(refine Qq (Qs 0 rfl rfl rfl rfl rfl rfl rfl (by simp)) rfl (fun _ _=>?_);rw[Qw (by rfl)])|refine Q8 ?_|refine Q6 ?_|refine Q2 ?_|refine Q5 rfl ?_|refine Ql ?_|refine Qc ?_|refine Q1 (Q3f Tryz.underlying9 rfl rfl (by decide) rfl rfl) ?_|refine Q1 (Ja rfl rfl (by decide) rfl rfl rfl (by first|assumption|exact decide_eq_true (by omega)|exact decide_eq_false (by omega)|rfl)) ?_)
  exact Xv (by first|exact .inl rfl|exact .inr rfl) rfl (RsV.blk 1 rfl rfl rfl) (RsV.blk 0 rfl rfl rfl) (fun w hw=>Y8 (Q2W hlong) hw.tail.tail)
 go_enter Tryz.func21,Tryz.ntmps21
 refine QE (M:=[]) (W:=W) (N:=86) (E:=[(0,.string ⟨s0.toArray⟩)]) (O:=O) ?_ (Ag.cons (Ag.nil rfl rfl) rfl) hw
 repeat(first|refine Q1 zM ?_|refine Q1 zA ?_|refine Qa (Xn rfl rfl) rfl (by decide) (fun gg _=>?_)|refine Q8 ?_|refine Q6 ?_|refine Q2 ?_|refine Qh ?_|refine Q3 rfl ?_|refine Qe ?_|refine Q1 (Q3f Tryz.underlying9 rfl rfl (by decide) rfl rfl) ?_|refine Q1 (Ja rfl rfl (by decide) rfl rfl rfl (by first|assumption|exact decide_eq_true (by omega)|exact decide_eq_false (by omega)|rfl)) ?_)
 rename_i b2 _ b3 _ _
 refine JI 50 1 ?_;refine JI 52 12 ?_;refine JW (ι:=PsY) (PsI s0) (fun y=>y.s.length) (fun y=>[(2,.pointer (some ⟨b2,0,none⟩)),(3,.pointer (some ⟨b3,0,none⟩)),(4,.pointer (some ⟨gg,0,none⟩)),(5,.slice y.B y.ls.length y.d),(6,.int .i64 (y.ls.length:Int)),(0,.string ⟨y.s.toArray⟩)]) (fun y=>.row y.A y.ls.length y.c 52 12 (QR y.ls)::.row y.B y.ls.length y.d 50 1 (Jx y.ls)::.blk gg (.cells ([.slice y.A y.ls.length y.c]:List Value).toArray 24 (0,0))::.blk b3 (.cells ([.int .i64 0,.int .i64 0]:List Value).toArray 27 (0,0))::.blk b2 (.cells ([.slice none 0 0]:List Value).toArray 24 (0,0))::(y.at_++O)) ⟨[],s0,none,0,none,0,[]⟩ ⟨(Q3h _).symm,by show 0+s0.length≤2000;omega,fun z hz=>(by cases hz),fun a ha=>(by cases ha),fun w _ z hz=>(by cases hz)⟩ (.cons rfl rfl (.cons rfl rfl (.cons rfl rfl (.cons rfl rfl (.cons rfl rfl (.cons rfl rfl .nil)))))) (fun w hw=>hw) ?_
 rintro⟨ls,s,A,c,B,d,at_⟩ hinv
 have hsz1:ls.length+s.length≤2000:=hinv.sz;have HI:=Lib.hid hinv;clear hinv
 show sE _ _ _ _ _ [(2,.pointer (some ⟨b2,0,none⟩)),(3,.pointer (some ⟨b3,0,none⟩)),(4,.pointer (some ⟨gg,0,none⟩)),(5,.slice B ls.length d),(6,.int .i64 (ls.length:Int)),(0,.string ⟨s.toArray⟩)] (.row A ls.length c 52 12 (QR ls)::.row B ls.length d 50 1 (Jx ls)::.blk gg (.cells ([.slice A ls.length c]:List Value).toArray 24 (0,0))::.blk b3 (.cells ([.int .i64 0,.int .i64 0]:List Value).toArray 27 (0,0))::.blk b2 (.cells ([.slice none 0 0]:List Value).toArray 24 (0,0))::(at_++O)) _
 by_cases hse:s=[]
 ·subst hse;have hb:((⟨([]:List UInt8).toArray⟩:ByteArray).data.toList != (⟨#[]⟩:ByteArray).data.toList)=false:=rfl
  repeat(first|refine Q1 zM ?_|refine Q1 zF ?_|refine Q1 (zB 0) ?_|refine Q1 (zB 1) ?_|refine Q1 (zB 2) ?_|refine Q1 (zB 3) ?_|refine Q1 (zB 4) ?_|refine Q1 (zB 5) ?_|refine Q1 zC ?_|refine Q1 zR ?_|refine Q8 ?_|refine Q6 ?_|refine Q2 ?_|refine Q3 rfl ?_|refine QX ?_|refine Qe ?_|refine Q1 zL ?_|refine Q1 (Jy rfl rfl (by decide) rfl rfl rfl (by first|assumption|rfl)) ?_)
  have hlines:QS 0 (spl 10 s0)=.ok (ls.map prL):=by
   rw[HI.out.res]
   show Except.ok (ls.map prL++[])=_
   rw[List.append_nil]
  have HLN:=Lib.hid hlines;clear hlines;refine Z8 (φ:=0<ls.length→∃b,A=some ⟨b,0,none⟩) (fun w hw=>Q0Y (hw.own 0 _ rfl)) (fun hA=>?_);refine Z8 (φ:=0<ls.length→∃b,B=some ⟨b,0,none⟩) (fun w hw=>Q0Y (hw.own 1 _ rfl)) (fun hB=>?_);refine Z8 (φ:=ls.length≤c) (fun w hw=>(XN (hw.own 0 _ rfl) (by decide)).2) (fun hlc=>?_);refine JW (ι:=P2Y) (P2I ls) (fun y=>ls.length - y.k) (fun y=>[(2,.pointer (some ⟨b2,0,none⟩)),(3,.pointer (some ⟨b3,0,none⟩)),(4,.pointer (some ⟨gg,0,none⟩)),(5,.slice B ls.length d),(58,.int .i64 (ls.length:Int)),(59,.int .i64 (y.k:Int))]) (fun y=>.row A ls.length c 52 12 (QR y.cur)::.row B ls.length d 50 1 (Jx ls)::.blk gg (.cells ([.slice A ls.length c]:List Value).toArray 24 (0,0))::.blk b3 (.cells ([.int .i64 0,.int .i64 0]:List Value).toArray 27 (0,0))::.blk b2 (.cells ([.slice none 0 0]:List Value).toArray 24 (0,0))::(y.at_++O)) ⟨0,ls,at_⟩ (P2I.start HI.out.k HI.out.w HI.out.f) (.cons rfl rfl (.cons rfl rfl (.cons rfl rfl (.cons rfl rfl (.cons rfl rfl (.cons rfl rfl .nil)))))) (fun w hw=>hw) ?_
  rintro⟨k,cur,at2⟩ hinv
  have hkn:k≤ls.length:=hinv.k
  have hon:∀w,Wd [] W (.row A ls.length c 52 12 (QR cur)::.row B ls.length d 50 1 (Jx ls)::.blk gg (.cells ([.slice A ls.length c]:List Value).toArray 24 (0,0))::.blk b3 (.cells ([.int .i64 0,.int .i64 0]:List Value).toArray 27 (0,0))::.blk b2 (.cells ([.slice none 0 0]:List Value).toArray 24 (0,0))::(at2++O)) w→Xq w w.heap.size A ls.length (cur.map RlY.x)∧∀z∈ls,RlF z w:=fun w hw=>by
   have h5:=hinv.f w (hw.tail.tail.tail.tail.tail.at_);exact⟨Qce (hw.own 0 _ rfl) hinv.len h5.1,h5.2⟩
  have H2:=Lib.hid hinv;have HON:=Lib.hid hon;clear hinv hon
  show sE _ _ _ _ _ [(2,.pointer (some ⟨b2,0,none⟩)),(3,.pointer (some ⟨b3,0,none⟩)),(4,.pointer (some ⟨gg,0,none⟩)),(5,.slice B ls.length d),(58,.int .i64 (ls.length:Int)),(59,.int .i64 (k:Int))] (.row A ls.length c 52 12 (QR cur)::.row B ls.length d 50 1 (Jx ls)::.blk gg (.cells ([.slice A ls.length c]:List Value).toArray 24 (0,0))::.blk b3 (.cells ([.int .i64 0,.int .i64 0]:List Value).toArray 27 (0,0))::.blk b2 (.cells ([.slice none 0 0]:List Value).toArray 24 (0,0))::(at2++O)) _
  by_cases hk:k<ls.length
  ·obtain⟨y,hy,hy2⟩:=H2.out.at_k hk;obtain⟨b,rfl⟩:=hA (by omega);obtain⟨bb,rfl⟩:=hB (by omega);have hym:y∈ls:=List.mem_of_getElem? hy2;have hks:=(HI.out.k y hym).2
   have hrc:(Jx ls)[k]? =some (.slice y.Ar y.refs.length y.cr):=by unfold Jx;rw[List.getElem?_map,hy2];rfl
   have hrf:=hks.rf;refine Z8 (φ:=y.refs.length≤y.cr) (fun w hw=>((HON.out w hw).2 y hym).c) (fun hcr=>?_);have HY:=Lib.hid hy;have HY2:=Lib.hid hy2;have HKS:=Lib.hid hks;clear hy hy2 hks
   repeat(first|refine Q1 zM ?_|refine Q1 zA ?_|refine Q8 ?_|refine Q6 ?_|refine Q2 ?_|refine Qh ?_|refine Q5 rfl ?_|refine Qe ?_|refine Q1 (Xu rfl rfl (by decide) rfl rfl rfl (by first|assumption|exact decide_eq_true (by omega)|exact decide_eq_false (by omega)|rfl)) ?_)
   refine Zs [.row (some ⟨bb,0,none⟩) ls.length d 50 1 (Jx ls),.blk gg (.cells ([.slice (some ⟨b,0,none⟩) ls.length c]:List Value).toArray 24 (0,0))] [] (by kernel_rfl) ?_
   first|refine Qk 0 rfl (by kernel_rfl) (Q7.sel [1,2] (by decide) rfl) (X8 rfl rfl (by decide) rfl rfl (by first|exact fun w hw=>hw.range_blk 0 rfl|exact fun w hw=>hw.range_blk 1 rfl|exact fun w hw=>hw.range_blk 2 rfl|exact fun w hw=>hw.range_blk 3 rfl|exact fun w hw=>hw.range_blk 4 rfl|exact fun w hw=>hw.range_blk 5 rfl|exact fun w hw=>hw.range_old (by assumption) (by simp)) (by first|rfl|exact Qn _)) ?_
   first|refine Qk 1 rfl (by kernel_rfl) (Q7.sel [1,2] (by decide) rfl) zF ?_
   first|refine Qk 2 rfl (by kernel_rfl) (Q7.sel [1,2] (by decide) rfl) (QL rfl rfl (by decide) rfl rfl (by first|exact fun w hw=>hw.cell_blkL 0 rfl rfl|exact fun w hw=>hw.cell_blkL 1 rfl rfl|exact fun w hw=>hw.cell_blkL 2 rfl rfl|exact fun w hw=>hw.cell_blkL 3 rfl rfl|exact fun w hw=>hw.cell_blkL 4 rfl rfl|exact fun w hw=>hw.cell_blkL 5 rfl rfl|exact fun w hw=>hw.cell_old (by assumption) (by simp)|exact fun w hw=>hw.cell_range (by assumption) rfl (by simp))) ?_
   first|refine Qk 3 rfl (by kernel_rfl) (Q7.sel [1,2] (by decide) rfl) zM ?_
   first|refine Qk 4 rfl (by kernel_rfl) (Q7.sel [1,2] (by decide) rfl) (Zy (j:=k) rfl rfl (by decide) rfl rfl rfl hk) ?_
   first|refine Qk 5 rfl (by kernel_rfl) (Q7.sel [1,2] (by decide) rfl) zM ?_
   first|refine Qk 6 rfl (by kernel_rfl) (Q7.sel [1,2] (by decide) rfl) zM ?_
   first|refine Qk 7 rfl (by kernel_rfl) (Q7.sel [1,2] (by decide) rfl) (QV (j:=k) rfl rfl (by decide) rfl rfl rfl hk) ?_
   first|(refine Qk 8 rfl (by kernel_rfl) (Q7.sel [1,2] (by decide) rfl) (QL rfl rfl (by decide) rfl rfl (fun w hw=>by rw[Nat.zero_add];exact hw.cell_row 0 rfl hrc)) ?_)
   rw[show 0+k*12=k*12 from Nat.zero_add _];refine ZR 9 (by kernel_rfl) rfl rfl (Qx _ _ _ (f:=44) rfl rfl rfl (fun w hw=>Q8y (by omega) H2.out.len HY.out (by omega) hcr HKS.out.use (fun w hw=>⟨(HON.out w hw).1,((HON.out w hw).2 y hym).s⟩) hw)) (fun z=>.inr (fun w hw=>(hw.tail.drop (L:=z.ats)).sel [0,1] (by decide))) rfl (by decide) (fun z hz=>?_);refine Qk 10 rfl (by kernel_rfl) (fun w hw=>(hw.tail.drop (L:=z.ats)).sel [0,1] (by decide)) zO ?_;refine Zc ?_ (by kernel_rfl);refine Qft (fun w hw=>hw.swap41) ?_;obtain⟨zo,hzo⟩:∃zo,z.ok=zo:=⟨_,rfl⟩;rw[hzo]
   cases zo with
   |false=>
    repeat(first|refine Q1 zM ?_|refine Q1 (QZ (xs:=[]) (vs:=[]) (v:=.agg #[.slice none 0 0]) rfl rfl (by decide) rfl rfl (fun w=>run_build w _ _ _ (by kernel_rfl))) ?_|refine Q1 (Q4 (f:=39) rfl rfl (by decide) rfl rfl (fun w hw=>XK _ _ w)) ?_|(refine Qq (Qs 4 rfl rfl rfl rfl rfl rfl rfl (by simp)) rfl (fun _ _=>?_);rw[Qw (by rfl)])|(refine Qq (Qs 3 rfl rfl rfl rfl rfl rfl rfl (by simp)) rfl (fun _ _=>?_);rw[Qw (by rfl)])|refine Q8 ?_|refine Q6 ?_|refine Q2 ?_|refine Q5 rfl ?_|refine Ql ?_|refine Qc ?_|refine Qf ?_)
    exact Xv (by first|exact .inl rfl|exact .inr rfl) rfl (RsV.blk 4 rfl rfl rfl) (RsV.blk 3 rfl rfl rfl) (fun w hw=>Y8 (Q1M hlong HLN.out (by rw[Q2H];exact H2.out.no HY2.out (hz.no hzo))) hw.tail.tail.tail.tail.tail.drop.drop)
   |true=>
    repeat(first|refine Q1 zM ?_|refine Q8 ?_|refine Q2 ?_|refine Qh ?_|refine Q3 rfl ?_|refine Q1 zP ?_)
    refine Xj ⟨k+1,z.cur,z.ats++at2⟩ (H2.out.next HY.out HY2.out hz hzo HKS.out) (by show ls.length - (k+1)<ls.length - k;omega) (.cons rfl rfl (.cons rfl rfl (.cons rfl rfl (.cons rfl rfl (.cons rfl rfl (.cons rfl rfl .nil)))))) (fun w hw=>?_)
    show Wd [] W (.row (some ⟨b,0,none⟩) ls.length c 52 12 (QR z.cur)::.row (some ⟨bb,0,none⟩) ls.length d 50 1 (Jx ls)::.blk gg (.cells ([.slice (some ⟨b,0,none⟩) ls.length c]:List Value).toArray 24 (0,0))::.blk b3 (.cells ([.int .i64 0,.int .i64 0]:List Value).toArray 27 (0,0))::.blk b2 (.cells ([.slice none 0 0]:List Value).toArray 24 (0,0))::((z.ats++at2)++O)) w
    rw[List.append_assoc];exact hw
  ·obtain rfl:k=ls.length:=by omega
   have hfin:=H2.out.fin;have hlen:cur.length=ls.length:=H2.out.len
   have hfs:FSm (cur.map RlY.x):=⟨by rw[List.length_map,hlen];omega,fun r hr=>by
    obtain⟨z,hz,rfl⟩:=List.mem_map.1 hr
    exact H2.out.sm z hz⟩
   obtain⟨⟨fa,fb⟩,hff⟩:∃p,QO (cur.map RlY.x)=p:=⟨_,rfl⟩;have HFF:=Lib.hid hff;have HFS:=Lib.hid hfs;have HFIN:=Lib.hid (show QF ((ls.map prL).map (·.1)) 0 (ls.map prL)=.ok (cur.map RlY.x) by rw[Q2H];exact hfin);clear hff hfs hfin
   by_cases hz:fa=0∧fb=0
   ·obtain⟨rfl,rfl⟩:=hz
    repeat(first|refine Q1 (X8 rfl rfl (by decide) rfl rfl (by first|exact fun w hw=>hw.range_blk 0 rfl|exact fun w hw=>hw.range_blk 1 rfl|exact fun w hw=>hw.range_blk 2 rfl|exact fun w hw=>hw.range_blk 3 rfl|exact fun w hw=>hw.range_blk 4 rfl|exact fun w hw=>hw.range_blk 5 rfl|exact fun w hw=>hw.range_old (by assumption) (by simp)) (by first|rfl|exact Qn _)) ?_|(refine Q1 (Q4 (f:=10) rfl rfl (by decide) rfl rfl (fun w hw=>(Zw (HON.out w hw).1 HFS.out hlc (HG.out.on hw.k.below)).mono (fun _ _ h=>by rw[HFF.out] at h;exact h))) ?_)|refine Qa (Xn rfl rfl) rfl (by decide) (fun g14 _=>?_)|refine Q1 (QZ (xs:=[]) (vs:=[]) (v:=.agg #[.int .i64 0,.int .i64 0]) rfl rfl (by decide) rfl rfl (fun w=>run_build w _ _ _ (by kernel_rfl))) ?_|refine Q1 (VC rfl rfl (by decide) rfl rfl rfl rfl) ?_|(refine Qq (Qs 0 rfl rfl rfl rfl rfl rfl rfl (by simp)) rfl (fun _ _=>?_);rw[Qw (by rfl)])|(refine Qq (Qs 5 rfl rfl rfl rfl rfl rfl rfl (by simp)) rfl (fun _ _=>?_);rw[Qw (by rfl)])|(refine Qq (Qs 4 rfl rfl rfl rfl rfl rfl rfl (by simp)) rfl (fun _ _=>?_);rw[Qw (by rfl)])|refine Q8 ?_|refine Q6 ?_|refine Q2 ?_|refine Qh ?_|refine Q3 rfl ?_|refine QX ?_|refine Ql ?_|refine Q1 (Xu rfl rfl (by decide) rfl rfl rfl (by first|assumption|exact decide_eq_true (by omega)|exact decide_eq_false (by omega)|rfl)) ?_)
    refine Xv (by first|exact .inl rfl|exact .inr rfl) rfl (RsV.blk 5 rfl rfl rfl) (RsV.blk 4 rfl rfl rfl) (fun w hw=>Q94 hlen (Q4D hlong HLN.out HFIN.out HFF.out) hlc HFS.out H2.out.w (fun w h=>(H2.out.f w h).1) ?_)
    exact hw.tail.ofMap (fun i=>if i=0 then 0 else i+4) (fun i j h=>by (repeat' split at h)<;>omega) (fun i x hx=>by
     match i,hx with
     |0,hx=>exact hx
     |n+1,hx=>exact hx)
   ·have hzb:(!(fa==0&&fb==0))=true:=by
     cases h1:(fa==0&&fb==0) with
     |false=>rfl
     |true=>
      exact absurd (by simpa using h1) hz
    repeat(first|refine Q1 (X8 rfl rfl (by decide) rfl rfl (by first|exact fun w hw=>hw.range_blk 0 rfl|exact fun w hw=>hw.range_blk 1 rfl|exact fun w hw=>hw.range_blk 2 rfl|exact fun w hw=>hw.range_blk 3 rfl|exact fun w hw=>hw.range_blk 4 rfl|exact fun w hw=>hw.range_blk 5 rfl|exact fun w hw=>hw.range_old (by assumption) (by simp)) (by first|rfl|exact Qn _)) ?_|(refine Q1 (Q4 (f:=10) rfl rfl (by decide) rfl rfl (fun w hw=>(Zw (HON.out w hw).1 HFS.out hlc (HG.out.on hw.k.below)).mono (fun _ _ h=>by rw[HFF.out] at h;exact h))) ?_)|refine Qa (Xn rfl rfl) rfl (by decide) (fun g14 _=>?_)|refine Q1 (QZ (xs:=[]) (vs:=[]) (v:=.agg #[.int .i64 0,.int .i64 0]) rfl rfl (by decide) rfl rfl (fun w=>run_build w _ _ _ (by kernel_rfl))) ?_|refine Q1 (VC rfl rfl (by decide) rfl rfl rfl hzb) ?_|(refine Qq (Qs 0 rfl rfl rfl rfl rfl rfl rfl (by simp)) rfl (fun _ _=>?_);rw[Qw (by rfl)])|refine Q8 ?_|refine Q6 ?_|refine Q2 ?_|refine Q5 rfl ?_|refine Q3 rfl ?_|refine QX ?_|refine Q1 (Xu rfl rfl (by decide) rfl rfl rfl (by first|assumption|exact decide_eq_true (by omega)|exact decide_eq_false (by omega)|rfl)) ?_)
    refine Zs [.blk g14 (.cells ([.int .i64 fa,.int .i64 fb]:List Value).toArray 27 (0,0))] [] (by kernel_rfl) ?_
    first|refine Qk 0 rfl (by kernel_rfl) (Q7.sel [0] (by decide) rfl) (QZ (xs:=[]) (vs:=[]) (v:=.agg #[.slice none 0 0]) rfl rfl (by decide) rfl rfl (fun w=>run_build w _ _ _ (by kernel_rfl))) ?_
    first|refine Qk 1 rfl (by kernel_rfl) (Q7.sel [0] (by decide) rfl) (X8 rfl rfl (by decide) rfl rfl (by first|exact fun w hw=>hw.range_blk 0 rfl|exact fun w hw=>hw.range_blk 1 rfl|exact fun w hw=>hw.range_blk 2 rfl|exact fun w hw=>hw.range_blk 3 rfl|exact fun w hw=>hw.range_blk 4 rfl|exact fun w hw=>hw.range_blk 5 rfl|exact fun w hw=>hw.range_old (by assumption) (by simp)) (by first|rfl|exact Qn _)) ?_
    refine Xw 2 (by kernel_rfl) rfl rfl (Qs 5 rfl rfl rfl rfl rfl rfl rfl (by simp)) (fun _=>.inr (Q7.sel [0] (by decide) rfl)) rfl (fun _ _=>?_);rw[Qw (by rfl)];refine Xw 3 (by kernel_rfl) rfl rfl (Qs 4 (us:=[.int .i64 fa,.int .i64 fb]) rfl rfl rfl rfl rfl rfl rfl (by simp)) (fun _=>.inr (Q7.sel [0] (by decide) rfl)) rfl (fun _ _=>?_);rw[Qw (by rfl)];refine Zc ?_ (by kernel_rfl)
    repeat(first|refine Ql ?_|refine Qc ?_)
    exact Xv (by first|exact .inl rfl|exact .inr rfl) rfl (RsV.blk 5 rfl rfl rfl) (RsV.blk 4 rfl rfl rfl) (fun w hw=>Y8 (by rw[Q4v hlong HLN.out HFIN.out (by rw[HFF.out];intro e;cases e;exact hz ⟨rfl,rfl⟩),HFF.out]) hw.drop6.drop)
 ·have hb:((⟨s.toArray⟩:ByteArray).data.toList != (⟨#[]⟩:ByteArray).data.toList)=true:=bne_iff_ne.2 hse;obtain⟨t,ht⟩:∃t,(Xp 10 s).1=t:=⟨_,rfl⟩;obtain⟨r,hr⟩:∃r,(Xp 10 s).2.1=r:=⟨_,rfl⟩;obtain⟨e,he⟩:∃e,(Xp 10 s).2.2=e:=⟨_,rfl⟩
  have hcut:Xp 10 s=(t,r,e):=by rw[← ht,← hr,← he]
  have hcl:=Q1z 10 s;rw[ht,hr] at hcl
  have htl:t.length≤2000:=by omega
  have HC:=Lib.hid hcut;have HT:=Lib.hid ht;have HR:=Lib.hid hr;have HE:=Lib.hid he;clear ht hr he hcut
  repeat(first|refine Q1 zM ?_|refine Q1 zA ?_|(refine Q1 (Q4 (f:=42) rfl rfl (by decide) rfl rfl (fun w hw=>Vg (HG.out.on hw.k.below) (by omega))) ?_;rw[HT.out,HR.out,HE.out])|(refine Qa (Qx _ _ _ (f:=43) rfl rfl rfl (fun w hw=>Q6F HG.out htl hw)) rfl (by decide) (fun y hy=>?_);obtain⟨ok,hok⟩:∃ok,y.ok=ok:=⟨_,rfl⟩;rw[show RlY.v y=.tuple #[.agg y.cells.toArray,.slice y.Ar y.refs.length y.cr,.bool ok] by rw[← hok]];refine Q3d (fun w hw=>hw.swap5) ?_)|refine Q8 ?_|refine Q6 ?_|refine Q2 ?_|refine Qh ?_|refine Q5 rfl ?_|refine Qe ?_|refine Q1 (Jy rfl rfl (by decide) rfl rfl rfl (by first|assumption|rfl)) ?_|refine Q1 zX ?_)
  have hrd:=hy.ok
  cases ok with
  |false=>
   rw[hok] at hrd
   repeat(first|refine Q1 zM ?_|refine Q1 zA ?_|refine Q1 zS ?_|refine Q1 (QZ (xs:=[]) (vs:=[]) (v:=.agg #[.slice none 0 0]) rfl rfl (by decide) rfl rfl (fun w=>run_build w _ _ _ (by kernel_rfl))) ?_|refine Q1 (Q4 (f:=39) rfl rfl (by decide) rfl rfl (fun w hw=>XK _ _ w)) ?_|refine Qa (Xn rfl rfl) rfl (by decide) (fun g10 _=>?_)|(refine Qq (Qs 0 (us:=y.cells) rfl rfl rfl rfl rfl rfl rfl (by first|simp|exact Nat.le_refl 12)) rfl (fun _ _=>?_);rw[Qw (by rfl)])|(refine Qq (Qs 5 rfl rfl rfl rfl rfl rfl rfl (by simp)) rfl (fun _ _=>?_);rw[Qw (by rfl)])|(refine Qq (Qs 4 rfl rfl rfl rfl rfl rfl rfl (by simp)) rfl (fun _ _=>?_);rw[Qw (by rfl)])|refine Q8 ?_|refine Q6 ?_|refine Q2 ?_|refine Q5 rfl ?_|refine Ql ?_|refine Qc ?_|refine Qf ?_|refine Q1 zY ?_|refine Q1 zO ?_)
   exact Xv (by first|exact .inl rfl|exact .inr rfl) rfl (RsV.blk 5 rfl rfl rfl) (RsV.blk 4 rfl rfl rfl) (fun w hw=>Y8 (Y9 hlong (by rw[HI.out.res,QaW hse HC.out hrd];rfl)) hw.drop6.drop.drop)
  |true=>
   rw[hok] at hrd;have hrl:Zo t=some (y.x,y.refs):=hrd;clear hrd
   cases e with
   |false=>
    repeat(first|refine Q1 zM ?_|refine Q1 zA ?_|refine Q1 (QZ (xs:=[]) (vs:=[]) (v:=.agg #[.slice none 0 0]) rfl rfl (by decide) rfl rfl (fun w=>run_build w _ _ _ (by kernel_rfl))) ?_|refine Q1 (Q4 (f:=39) rfl rfl (by decide) rfl rfl (fun w hw=>XK _ _ w)) ?_|refine Qa (Xn rfl rfl) rfl (by decide) (fun g10 _=>?_)|(refine Qq (Qs 0 (us:=y.cells) rfl rfl rfl rfl rfl rfl rfl (by first|simp|exact Nat.le_refl 12)) rfl (fun _ _=>?_);rw[Qw (by rfl)])|(refine Qq (Qs 5 rfl rfl rfl rfl rfl rfl rfl (by simp)) rfl (fun _ _=>?_);rw[Qw (by rfl)])|(refine Qq (Qs 4 rfl rfl rfl rfl rfl rfl rfl (by simp)) rfl (fun _ _=>?_);rw[Qw (by rfl)])|refine Q8 ?_|refine Q6 ?_|refine Q2 ?_|refine Q5 rfl ?_|refine Ql ?_|refine Qc ?_|refine Qf ?_|refine Q1 zN ?_|refine Q1 zO ?_)
    exact Xv (by first|exact .inl rfl|exact .inr rfl) rfl (RsV.blk 5 rfl rfl rfl) (RsV.blk 4 rfl rfl rfl) (fun w hw=>Y8 (Y9 hlong (by rw[HI.out.res,Q9b hse HC.out];rfl)) hw.drop6.drop.drop)
   |true=>
    repeat(first|refine Q1 zM ?_|refine Q1 zA ?_|refine Q1 zF ?_|refine Q1 (zB 0) ?_|refine Q1 (zB 1) ?_|refine Q1 (zB 2) ?_|refine Q1 (zB 3) ?_|refine Q1 (zB 4) ?_|refine Q1 (zB 5) ?_|refine Q1 zC ?_|refine Q1 zR ?_|refine Q1 (X8 rfl rfl (by decide) rfl rfl (by first|exact fun w hw=>hw.range_blk 0 rfl|exact fun w hw=>hw.range_blk 1 rfl|exact fun w hw=>hw.range_blk 2 rfl|exact fun w hw=>hw.range_blk 3 rfl|exact fun w hw=>hw.range_blk 4 rfl|exact fun w hw=>hw.range_blk 5 rfl|exact fun w hw=>hw.range_old (by assumption) (by simp)) (by first|rfl|exact Qn _)) ?_|refine Qa (Xn rfl rfl) rfl (by decide) (fun g10 _=>?_)|(refine Qq (Qs 0 (us:=y.cells) rfl rfl rfl rfl rfl rfl rfl (by first|simp|exact Nat.le_refl 12)) rfl (fun _ _=>?_);rw[Qw (by rfl)])|refine Qa (Qz (size:=12) (cs:=y.cells) rfl rfl rfl rfl rfl (by decide)) rfl (by decide) (fun bn _=>?_)|refine Qa (QC (news:=y.cells) 2 rfl rfl rfl rfl rfl (fun w hw=>hw.rd_blk 0 rfl rfl) (by first|rfl|simp [Value.oneCell']) (by omega)) rfl (by decide) (fun z1 _=>?_)|refine Qa (Qz (size:=1) (cs:=[.slice y.Ar y.refs.length y.cr]) rfl rfl rfl rfl rfl (by decide)) rfl (by decide) (fun bn _=>?_)|refine Qa (QC (news:=[.slice y.Ar y.refs.length y.cr]) 4 rfl rfl rfl rfl rfl (fun w hw=>hw.rd_blk 0 rfl rfl) (by simp [Value.oneCell']) (by omega)) rfl (by decide) (fun z2 _=>?_)|refine Qq (Zp 5 rfl rfl rfl rfl rfl rfl rfl) rfl (fun _ _=>?_)|refine Q8 ?_|refine Q6 ?_|refine Q2 ?_|refine Qh ?_|refine Q3 rfl ?_|refine Q1 zN ?_|refine Q1 zO ?_|refine Q1 zP ?_)
    have hcy:=(Vo HC.out).2.1;refine Xj ⟨ls++[y],r,z1.1,z1.2,z2.1,z2.2,y.ats++at_⟩ (HI.out.next HC.out hy hok hrl) (by show r.length<s.length;rw[hcy];simp only[List.length_append,List.length_cons];omega) (.cons rfl rfl (.cons rfl rfl (.cons rfl rfl (.cons rfl (by rw[List.length_append];rfl) (.cons rfl (by rw[List.length_append];rfl) (.cons rfl rfl .nil)))))) (fun w hw=>?_)
    show Wd [] W (.row z1.1 (ls++[y]).length z1.2 52 12 (QR (ls++[y]))::.row z2.1 (ls++[y]).length z2.2 50 1 (Jx (ls++[y]))::.blk gg (.cells ([.slice z1.1 (ls++[y]).length z1.2]:List Value).toArray 24 (0,0))::.blk b3 (.cells ([.int .i64 0,.int .i64 0]:List Value).toArray 27 (0,0))::.blk b2 (.cells ([.slice none 0 0]:List Value).toArray 24 (0,0))::((y.ats++at_)++O)) w
    rw[Q1P,Q6Z,List.length_append,List.append_assoc];exact hw.tail.tail.tail
end
end Go.Proofs.YtgdiadednlajgaaGreatDoor
