import Derived.Test.YtphkhfdmlcnoeaaGreatDoorP10
namespace Go.Proofs.YtphkhfdmlcnoeaaGreatDoor
set_option linter.unusedVariables false
set_option linter.unusedSimpArgs false
open Go.RowKit
theorem Xm.addr{W:World}{A:Option Addr}{n:Nat}{F:List Rl}(h:Xm W W.heap.size A n F)(hn:0<n):∃b o,A=some ⟨b,o,none⟩:=by
 obtain⟨b,o,e,_⟩:=h.2 hn;exact⟨b,o,e⟩
theorem Xm.rl{W:World}{b o n i:Nat}{F:List Rl}(h:Xm W W.heap.size (some ⟨b,o,none⟩) n F)(hi:i<n):∃r Ab cb An cn Ap cp,F[i]? =some r∧W.rangeAt b (o+i*12) (ruC r (.slice Ab r.bs.length cb) (.slice An r.names.length cn) (.slice Ap r.parts.length cp))∧RuL W r Ab cb An cn Ap cp:=by
 obtain⟨b',o',r,Ab,cb,An,cn,Ap,cp,e,hr,hc,hl⟩:=h.rule hi
 cases e
 exact⟨r,Ab,cb,An,cn,Ap,cp,hr,hc,hl⟩
def Yc(W:World)(c:Int)(e:Ending)(w':World):Prop:=e=.returned (.int .i64 c)∧Below W.heap.size W w'
theorem QI{W w:World}{c c':Int}{O:List Qc}(h:c=c')(hw:Wd [] W O w):Yc W c' (.returned (.int .i64 c)) w:=⟨by rw[h],hw.k.below⟩
def Q06(F:List Rl)(x:Int):Int:=match F[x.toNat]? with|some r=>r.kind|none=>0
theorem KP{F:List Rl}{x:Int}{r:Rl}(h:F[x.toNat]? =some r):Q06 F x=r.kind:=by unfold Q06;rw[h]
def Jo(g:Nat→Int):Nat→Nat→Int
 |_,0=>0
 |i,k+1=>if g i=0 then Jo g (i+1) k else g i
theorem Q4x{g:Nat→Int}{i n:Nat}(h:i<n)(h0:g i=0):Jo g i (n - i)=Jo g (i+1) (n - (i+1)):=by
 rw[show n - i=(n - (i+1))+1 by omega,Jo,if_pos h0]
theorem Q0e{g:Nat→Int}{i n:Nat}(h:i<n)(h0:g i≠0):Jo g i (n - i)=g i:=by
 rw[show n - i=(n - (i+1))+1 by omega,Jo,if_neg h0]
def Va(F:List Rl)(names:List (List UInt8))(parts:List Int)(i:Nat):Int:=
 if (names.getD i [])==[] then (if Q06 F (parts.getD i 0) != 1 then 13 else 0)
 else if !(QG (names.getD i [])) then 7 else if ZC (names.take i) (names.getD i []) then 8 else 0
def Yl(F:List Rl)(r:Rl):Int:=
 if QP r.kind&&!(JJ (Q06 F r.count)) then 13 else if r.kind != 7 then 0 else Jo (Va F r.names r.parts) 0 r.names.length
structure Q9v(n:Nat)(r:Rl):Prop where
 count:QP r.kind=true→0≤r.count∧r.count<n
 parts:r.kind=7→r.parts.length=r.names.length∧∀x∈r.parts,0≤x∧x<n
set_option maxRecDepth 100000 in
set_option maxHeartbeats 8000000 in
theorem Q8u{F:List Rl}{r:Rl}{A Ab An Ap:Option Addr}{n c cb cn cp:Nat}{W:World}(hf:Xm W W.heap.size A n F)(hl:RuL W r Ab cb An cn Ap cp)(hs:RSm r)(hu:Q9v n r)(hc:QP r.kind=true):
  Calls Tryz.prog 116 #[.agg #[.slice A n c],.agg (ruC r (.slice Ab r.bs.length cb) (.slice An r.names.length cn) (.slice Ap r.parts.length cp)).toArray] W (Yc W (Yl F r)):=by
 have hcn:=hu.count hc;obtain⟨b,o,rfl⟩:=hf.addr (by omega);obtain⟨rc,Ac,cc,Ad,cd,Ae,ce,hrc,hrg,_⟩:=hf.rl (i:=r.count.toNat) (by omega);have HK:=Lib.hid (KP hrc)
 have h7:(r.kind != 7)=true:=by
  rw[bne_iff_ne];intro h;rw[h] at hc;exact absurd hc (by decide)
 clear hrc hl hf
 go_enter Tryz.func116,Tryz.ntmps116
 refine QE (M:=[]) (W:=W) (N:=66) (E:=[(0,.agg #[.slice (some ⟨b,o,none⟩) n c]),(1,.agg (ruC r (.slice Ab r.bs.length cb) (.slice An r.names.length cn) (.slice Ap r.parts.length cp)).toArray)]) (O:=[]) ?_ (Ag.cons (Ag.cons (Ag.nil rfl rfl) rfl) rfl) (Wd.start [] W)
 repeat(first|refine Q1 (XN rfl rfl (by decide) rfl rfl) ?_|refine Q1 (Xt rfl rfl (by decide) rfl rfl) ?_|refine Q1 (Z6 rfl rfl (by decide) rfl rfl) ?_|refine Q1 (QW rfl rfl (by decide) rfl rfl (by first|exact fun w hw=>hw.cell_blkL 0 rfl rfl|exact fun w hw=>hw.cell_blkL 1 rfl rfl)) ?_|refine Q1 (QB rfl rfl (by decide) rfl rfl (by first|exact fun w hw=>hw.range_blk 0 rfl|exact fun w hw=>hw.range_old (by assumption) (by simp)) (by rfl)) ?_|refine Qo (Y3 rfl rfl rfl rfl) rfl (by decide) (fun br _=>?_)|(refine Q1 (Qb (f:=126) rfl rfl (by decide) rfl rfl (fun w hw=>QF w)) ?_;rw[hc])|refine Q1 (Qb (f:=125) rfl rfl (by decide) rfl rfl (fun w hw=>JL w)) ?_|refine Q1 (Qm rfl rfl (by decide) rfl rfl rfl (by omega)) ?_|refine Q8 ?_|refine Q9 ?_|refine Q3 ?_|refine Q1 (JG rfl rfl (by decide) rfl rfl rfl) ?_|refine Q1 (Qbv rfl rfl (by decide) rfl rfl rfl) ?_)
 refine Xf rfl (fun hx=>?_) (fun hx=>?_)
 ·skip
  repeat(first|refine Q1 (Xt rfl rfl (by decide) rfl rfl) ?_|refine Q8 ?_|refine Q9 ?_|refine Q3 ?_|refine Qr ?_|refine Qf ?_)
  refine Q7 (.inr rfl) rfl (.tmp rfl) (fun w hw=>QI ?_ hw)
  simp [Yl,hc,HK.out,hx]
 ·skip
  repeat(first|refine Q1 (Xt rfl rfl (by decide) rfl rfl) ?_|refine Q1 (Z6 rfl rfl (by decide) rfl rfl) ?_|refine Q1 (QW rfl rfl (by decide) rfl rfl (by exact fun w hw=>hw.cell_blkL 0 rfl rfl)) ?_|refine Q8 ?_|refine Q9 ?_|refine Q3 ?_|refine Qt ?_|refine Qa rfl ?_|refine Qr ?_|refine Qf ?_|refine Q1 (Q2c rfl rfl (by decide) rfl rfl rfl (by assumption)) ?_)
  refine Q7 (.inr rfl) rfl (.tmp rfl) (fun w hw=>QI ?_ hw)
  simp [Yl,hc,HK.out,hx,h7]
set_option maxRecDepth 100000 in
set_option maxHeartbeats 8000000 in
theorem Q7q{F:List Rl}{r:Rl}{A Ab An Ap:Option Addr}{n c cb cn cp:Nat}{W:World}(hc:QP r.kind=false)(h7:(r.kind != 7)=true):
  Calls Tryz.prog 116 #[.agg #[.slice A n c],.agg (ruC r (.slice Ab r.bs.length cb) (.slice An r.names.length cn) (.slice Ap r.parts.length cp)).toArray] W (Yc W (Yl F r)):=by
 go_enter Tryz.func116,Tryz.ntmps116
 refine QE (M:=[]) (W:=W) (N:=66) (E:=[(0,.agg #[.slice A n c]),(1,.agg (ruC r (.slice Ab r.bs.length cb) (.slice An r.names.length cn) (.slice Ap r.parts.length cp)).toArray)]) (O:=[]) ?_ (Ag.cons (Ag.cons (Ag.nil rfl rfl) rfl) rfl) (Wd.start [] W)
 repeat(first|refine Q1 (XN rfl rfl (by decide) rfl rfl) ?_|refine Q1 (Xt rfl rfl (by decide) rfl rfl) ?_|refine Q1 (Z6 rfl rfl (by decide) rfl rfl) ?_|refine Q1 (QW rfl rfl (by decide) rfl rfl (by exact fun w hw=>hw.cell_blkL 0 rfl rfl)) ?_|refine Q1 (QB rfl rfl (by decide) rfl rfl (by exact fun w hw=>hw.range_blk 0 rfl) (by rfl)) ?_|refine Qo (Y3 rfl rfl rfl rfl) rfl (by decide) (fun br _=>?_)|(refine Q1 (Qb (f:=126) rfl rfl (by decide) rfl rfl (fun w hw=>QF w)) ?_;rw[hc])|refine Q8 ?_|refine Q9 ?_|refine Q3 ?_|refine Qt ?_|refine Qa rfl ?_|refine Q6 rfl ?_|refine Qr ?_|refine Qf ?_|refine Q1 (Q2c rfl rfl (by decide) rfl rfl rfl (by assumption)) ?_|refine Q1 (Vm rfl rfl (by decide) rfl rfl rfl) ?_|refine Q1 (KA rfl (by decide) rfl) ?_)
 refine Q7 (.inr rfl) rfl (.tmp rfl) (fun w hw=>QI ?_ hw)
 simp [Yl,hc,h7]
theorem Q88{w:World}{B n i c:Nat}{A:Option Addr}{xs:List (List UInt8)}(h:Rd w B 1 A n (sv xs))(hi:i≤n)(hc:n≤c):Rd w B 1 (ZU A c 0 1) i (sv (xs.take i)):=by
 have:=h.cut (k:=0) (m:=i) (c:=c) (by omega) hc;rw[Nat.zero_mul,List.drop_zero,Nat.mul_one] at this
 unfold sv at this ⊢
 rw[List.map_take];exact this
def chE(bf br n c i:Nat)(r:Rl)(A An:Option Addr)(cn:Nat):Env:=[(2,.pointer (some ⟨bf,0,none⟩)),(3,.pointer (some ⟨br,0,none⟩)),(23,.slice An r.names.length cn),(24,.int .i64 (r.names.length:Int)),(25,.int .i64 (i:Int))]
set_option maxRecDepth 100000 in
set_option maxHeartbeats 8000000 in
theorem Q8h{F:List Rl}{r:Rl}{A Ab An Ap:Option Addr}{n c cb cn cp:Nat}{W:World}(hf:Xm W W.heap.size A n F)(hl:RuL W r Ab cb An cn Ap cp)(hs:RSm r)(hu:Q9v n r)(h7:r.kind=7):
  Calls Tryz.prog 116 #[.agg #[.slice A n c],.agg (ruC r (.slice Ab r.bs.length cb) (.slice An r.names.length cn) (.slice Ap r.parts.length cp)).toArray] W (Yc W (Yl F r)):=by
 have hc:QP r.kind=false:=by rw[h7];rfl
 have HP:=Lib.hid (hu.parts h7);have HF:=Lib.hid hf;have HL:=Lib.hid hl;have HS:=Lib.hid hs;have hnl:r.names.length≤1048576:=hs.names;obtain⟨C,hC⟩:∃C,Yl F r=C:=⟨_,rfl⟩;have HC:=Lib.hid (show Jo (Va F r.names r.parts) 0 r.names.length=C by rw[← hC,Yl,hc,h7];rfl);rw[hC];clear hC hu hf hl hs
 go_enter Tryz.func116,Tryz.ntmps116
 refine QE (M:=[]) (W:=W) (N:=66) (E:=[(0,.agg #[.slice A n c]),(1,.agg (ruC r (.slice Ab r.bs.length cb) (.slice An r.names.length cn) (.slice Ap r.parts.length cp)).toArray)]) (O:=[]) ?_ (Ag.cons (Ag.cons (Ag.nil rfl rfl) rfl) rfl) (Wd.start [] W)
 repeat(first|refine Q1 (XN rfl rfl (by decide) rfl rfl) ?_|refine Q1 (Xt rfl rfl (by decide) rfl rfl) ?_|refine Q1 (Z6 rfl rfl (by decide) rfl rfl) ?_|refine Q1 (QW rfl rfl (by decide) rfl rfl (by exact fun w hw=>hw.cell_blkL 0 rfl rfl)) ?_|refine Q1 (QB rfl rfl (by decide) rfl rfl (by exact fun w hw=>hw.range_blk 0 rfl) (by rfl)) ?_|refine Qo (Y3 rfl rfl rfl rfl) rfl (by decide) (fun br _=>?_)|(refine Q1 (Qb (f:=126) rfl rfl (by decide) rfl rfl (fun w hw=>QF w)) ?_;rw[hc])|refine Q8 ?_|refine Q9 ?_|refine Q3 ?_|refine Qt ?_|refine Q6 rfl ?_|refine Qi ?_|refine Q1 (Q8X rfl rfl (by decide) rfl rfl) ?_|refine Q1 (Q2c rfl rfl (by decide) rfl rfl rfl (by exact bne_eq_false_iff_eq.2 (by omega))) ?_|refine Q1 (Vm rfl rfl (by decide) rfl rfl rfl) ?_|refine Q1 (KA rfl (by decide) rfl) ?_)
 rename_i bf _ _
 refine Z2 (ι:=Nat) (fun i=>i≤r.names.length∧Jo (Va F r.names r.parts) i (r.names.length - i)=C) (fun i=>r.names.length - i) (fun i=>chE bf br n c i r A An cn) (fun i=>[.blk br (.cells (ruC r (.slice Ab r.bs.length cb) (.slice An r.names.length cn) (.slice Ap r.parts.length cp)).toArray 65 (0,0)),.blk bf (.cells [.slice A n c].toArray 24 (0,0))]) 0 [0,1] (by decide) ⟨Nat.zero_le _,HC.out⟩ (.cons rfl rfl (.cons rfl rfl (.cons rfl rfl (.cons rfl rfl (.cons rfl rfl .nil))))) rfl ?_
 rintro i ⟨hi,hC⟩
 have HI:=Lib.hid hC;clear hC
 by_cases hlt:i<r.names.length
 ·obtain⟨bn,on,s,rfl,_,hsn,hcell⟩:=YW HL.out.n hlt
  have hgd:r.names.getD i []=s.data.toList:=by rw[List.getD_eq_getElem?_getD,hsn];rfl
  have HG:=Lib.hid hgd;clear hgd
  cases he:s.data.toList==([]:List UInt8) with
  |true=>
   have hne:(s.data.toList != ([]:List UInt8))=false:=by rw[bne,he];rfl
   obtain⟨bp,op,x,rfl,_,hx,hcx⟩:=Q1V HL.out.p (show i<r.parts.length by rw[HP.out.1];exact hlt);have hxr:=HP.out.2 x (List.mem_of_getElem? hx);obtain⟨b,o,rfl⟩:=HF.out.addr (by omega);obtain⟨rx,Ac,cc,Ad,cd,Ae,ce,hrx,hrg,_⟩:=HF.out.rl (i:=x.toNat) (by omega)
   have hgx:r.parts.getD i 0=x:=by rw[List.getD_eq_getElem?_getD,hx];rfl
   have HK:=Lib.hid (show Q06 F (r.parts.getD i 0)=rx.kind by rw[hgx];exact KP hrx)
   have hip:i<r.parts.length:=by rw[HP.out.1];exact hlt
   clear hsn hx hrx hgx
   repeat(first|refine Q1 (XN rfl rfl (by decide) rfl rfl) ?_|refine Q1 (Xt rfl rfl (by decide) rfl rfl) ?_|refine Q1 (QW rfl rfl (by decide) rfl rfl (by exact fun w hw=>hw.cell_old (by assumption) (by simp))) ?_|refine Q1 (QS rfl rfl (by decide) rfl rfl rfl (by assumption)) ?_|refine Q8 ?_|refine Q9 ?_|refine Q3 ?_|refine Qt ?_|refine Qa rfl ?_|refine Qi ?_|refine Q1 (XS rfl rfl (by decide) rfl rfl rfl (by exact decide_eq_true (by omega))) ?_)
   repeat(first|refine Q5 (XN rfl rfl (by decide) rfl rfl) ?_|refine Q5 (Xt rfl rfl (by decide) rfl rfl) ?_|refine Q5 (Z6 rfl rfl (by decide) rfl rfl) ?_|refine Q5 (QW rfl rfl (by decide) rfl rfl (by first|exact fun w hw=>hw.cell_blkL 0 rfl rfl|exact fun w hw=>hw.cell_blkL 1 rfl rfl|exact fun w hw=>hw.cell_old (by assumption) (by simp)|exact fun w hw=>hw.cell_range (by assumption) rfl (by simp))) ?_|refine Q5 (QS rfl rfl (by decide) rfl rfl rfl (by assumption)) ?_|refine Q5 (Qm rfl rfl (by decide) rfl rfl rfl (by omega)) ?_|refine XM ?_|refine Xj (by kernel_rfl) (by kernel_rfl) ?_|refine Q5 (Q2c rfl rfl (by decide) rfl rfl rfl (by first|exact bne_eq_false_iff_eq.2 (by omega)|rfl)) ?_|refine Q5 (JG rfl rfl (by decide) rfl rfl rfl) ?_|refine Q5 (Q09 rfl rfl (by decide) rfl rfl rfl (by assumption)) ?_)
   refine Xf rfl (fun hk=>?_) (fun hk=>?_)
   ·skip
    repeat(first|refine Q1 (Xt rfl rfl (by decide) rfl rfl) ?_|refine Q8 ?_|refine Q9 ?_|refine Q3 ?_|refine Qr ?_|refine Qf ?_|refine Qg ?_)
    refine Q7 (.inr rfl) rfl (.tmp rfl) (fun w hw=>QI ?_ hw)
    have hv:Va F r.names r.parts i=13:=by unfold Va;rw[HG.out,he,HK.out,hk];rfl
    rw[← HI.out,Q0e hlt (by rw[hv];decide),hv]
   ·skip
    repeat(first|refine Q1 (XN rfl rfl (by decide) rfl rfl) ?_|refine Q1 (Xt rfl rfl (by decide) rfl rfl) ?_|refine Q8 ?_|refine Q9 ?_|refine Q3 ?_|refine Qt ?_|refine Q6 rfl ?_|refine Q1 (Vm rfl rfl (by decide) rfl rfl rfl) ?_|refine Q1 (Q3p (k:=.i64) rfl rfl (by decide) rfl rfl rfl (IntWalk.i64_in _ (by omega))) ?_|refine Q1 (YM rfl rfl (by decide) rfl rfl rfl (by first|assumption|rfl)) ?_|refine Q1 (KA rfl (by decide) rfl) ?_)
    refine Xc (i+1) [0,1] (by decide) ⟨by omega,?_⟩ (by omega) (.cons rfl rfl (.cons rfl rfl (.cons rfl rfl (.cons rfl rfl (.cons rfl (by go_num) .nil))))) rfl
    have hv:Va F r.names r.parts i=0:=by unfold Va;rw[HG.out,he,HK.out,hk];rfl
    rw[← Q4x hlt hv];exact HI.out
  |false=>
   have hne:(s.data.toList != ([]:List UInt8))=true:=by rw[bne,he];rfl
   have hsz:s.size≤9223372036854775807:=by
    have:=HS.out.each _ (List.mem_of_getElem? hsn)
    have e:s.size=s.data.toList.length:=by simp
    omega
   clear hsn
   repeat(first|refine Q1 (XN rfl rfl (by decide) rfl rfl) ?_|refine Q1 (Xt rfl rfl (by decide) rfl rfl) ?_|refine Q1 (QW rfl rfl (by decide) rfl rfl (by exact fun w hw=>hw.cell_old (by assumption) (by simp))) ?_|refine Q1 (QS rfl rfl (by decide) rfl rfl rfl (by assumption)) ?_|refine Q8 ?_|refine Q9 ?_|refine Q3 ?_|refine Qt ?_|refine Qa rfl ?_|refine Qi ?_|refine Q1 (XS rfl rfl (by decide) rfl rfl rfl (by exact decide_eq_true (by omega))) ?_)
   repeat(first|refine Q5 (XN rfl rfl (by decide) rfl rfl) ?_|refine Q5 (Xt rfl rfl (by decide) rfl rfl) ?_|refine XM ?_|refine Xj (by kernel_rfl) (by kernel_rfl) ?_|refine Q5 (Vm rfl rfl (by decide) rfl rfl rfl) ?_|refine Q5 (Q09 rfl rfl (by decide) rfl rfl rfl (by first|assumption|rfl)) ?_|refine Q5 (KA rfl (by decide) rfl) ?_)
   repeat(first|refine Q1 (XN rfl rfl (by decide) rfl rfl) ?_|refine Q1 (Xt rfl rfl (by decide) rfl rfl) ?_|refine Q1 (Qb (f:=133) rfl rfl (by decide) rfl rfl (fun w hw=>JI _ w hsz)) ?_|refine Q8 ?_|refine Q9 ?_|refine Q3 ?_|refine Q6 rfl ?_|refine Q1 (JG rfl rfl (by decide) rfl rfl rfl) ?_|refine Q1 (Qbv rfl rfl (by decide) rfl rfl rfl) ?_|refine Q1 (YM rfl rfl (by decide) rfl rfl rfl (by assumption)) ?_)
   refine Xf rfl (fun hk=>?_) (fun hk=>?_)
   ·skip
    repeat(first|refine Q1 (Xt rfl rfl (by decide) rfl rfl) ?_|refine Q8 ?_|refine Q9 ?_|refine Q3 ?_|refine Qr ?_|refine Qf ?_|refine Qg ?_)
    refine Q7 (.inr rfl) rfl (.tmp rfl) (fun w hw=>QI ?_ hw)
    have hv:Va F r.names r.parts i=7:=by unfold Va;rw[HG.out,he,hk];rfl
    rw[← HI.out,Q0e hlt (by rw[hv];decide),hv]
   ·skip
    repeat(first|refine Q1 (XN rfl rfl (by decide) rfl rfl) ?_|refine Q1 (Xt rfl rfl (by decide) rfl rfl) ?_|refine Q1 (Z6 rfl rfl (by decide) rfl rfl) ?_|refine Q1 (QW rfl rfl (by decide) rfl rfl (by first|exact fun w hw=>hw.cell_blkL 0 rfl rfl|exact fun w hw=>hw.cell_old (by assumption) (by simp))) ?_|(refine Q1 (Yn rfl rfl (by decide) rfl rfl rfl (by have:=HL.out.cn;omega)) ?_)|refine Q1 (Qb (f:=150) rfl rfl (by decide) rfl rfl (fun w hw=>Calls.stay (Vv (Q88 (HL.out.on hw.k.below).n (by omega) HL.out.cn) (by omega)))) ?_|refine Q8 ?_|refine Q9 ?_|refine Q3 ?_|refine Q1 (JG rfl rfl (by decide) rfl rfl rfl) ?_|refine Q1 (YM rfl rfl (by decide) rfl rfl rfl (by assumption)) ?_)
    refine Xf rfl (fun hq=>?_) (fun hq=>?_)
    ·skip
     repeat(first|refine Q1 (Xt rfl rfl (by decide) rfl rfl) ?_|refine Q8 ?_|refine Q9 ?_|refine Q3 ?_|refine Qr ?_|refine Qf ?_|refine Qg ?_)
     refine Q7 (.inr rfl) rfl (.tmp rfl) (fun w hw=>QI ?_ hw)
     have hv:Va F r.names r.parts i=8:=by unfold Va;rw[HG.out,he,hk,hq];rfl
     rw[← HI.out,Q0e hlt (by rw[hv];decide),hv]
    ·skip
     repeat(first|refine Q1 (XN rfl rfl (by decide) rfl rfl) ?_|refine Q8 ?_|refine Q3 ?_|refine Qt ?_|refine Q1 (Q3p (k:=.i64) rfl rfl (by decide) rfl rfl rfl (IntWalk.i64_in _ (by omega))) ?_)
     refine Xc (i+1) [0,1] (by decide) ⟨by omega,?_⟩ (by omega) (.cons rfl rfl (.cons rfl rfl (.cons rfl rfl (.cons rfl rfl (.cons rfl (by go_num) .nil))))) rfl
     have hv:Va F r.names r.parts i=0:=by unfold Va;rw[HG.out,he,hk,hq];rfl
     rw[← Q4x hlt hv];exact HI.out
 ·skip
  repeat(first|refine Q1 (Xt rfl rfl (by decide) rfl rfl) ?_|refine Q8 ?_|refine Q9 ?_|refine Q3 ?_|refine Q6 rfl ?_|refine XL ?_|refine Qr ?_|refine Q1 (XS rfl rfl (by decide) rfl rfl rfl (by exact decide_eq_false (by omega))) ?_)
  refine Q7 (by exact .inr rfl) rfl (.tmp rfl) (fun w hw=>QI ?_ hw);rw[← HI.out,show r.names.length - i=0 by omega]
  rfl
theorem Kd{F:List Rl}{r:Rl}{A Ab An Ap:Option Addr}{n c cb cn cp:Nat}{W:World}(hf:Xm W W.heap.size A n F)(hl:RuL W r Ab cb An cn Ap cp)(hs:RSm r)(hu:Q9v n r):
  Calls Tryz.prog 116 #[.agg #[.slice A n c],.agg (ruC r (.slice Ab r.bs.length cb) (.slice An r.names.length cn) (.slice Ap r.parts.length cp)).toArray] W (Yc W (Yl F r)):=by
 cases hc:QP r.kind with
 |true=>exact Q8u hf hl hs hu hc
 |false=>
  by_cases h7:r.kind=7
  ·exact Q8h hf hl hs hu h7
  ·exact Q7q hc (bne_iff_ne.2 h7)
end Go.Proofs.YtphkhfdmlcnoeaaGreatDoor
