import Derived.Test.YtgdiadednlajgaaGreatDoorP34
namespace Go.Proofs.YtgdiadednlajgaaGreatDoor
set_option linter.unusedVariables false
set_option linter.unusedSimpArgs false
open Go.RowKit
def QR(L:List RlY):List Value:=L.flatMap RlY.cells
theorem Q06:∀L:List RlY,(QR L).length=L.length*12
 |[]=>rfl
 |y::L=>by
  have ih:=Q06 L
  have e:y.cells.length=12:=rfl
  show (y.cells++QR L).length=_
  generalize y.cells=cs at e
  rw[List.length_append,ih,List.length_cons,e]
  omega
theorem ZZ:∀(L:List RlY) (i:Nat) (y:RlY) (j:Nat),L[i]? =some y→j<12→(QR L)[i*12+j]? =y.cells[j]?
 |[],i,y,j,h,hj=>by simp at h
 |z::L,0,y,j,h,hj=>by
  obtain rfl:z=y:=by simpa using h
  have e:z.cells.length=12:=rfl
  show (z.cells++QR L)[0*12+j]? =_
  generalize z.cells=cs at e
  rw[Nat.zero_mul,Nat.zero_add,List.getElem?_append_left (by omega)]
 |z::L,i+1,y,j,h,hj=>by
  have ih:=ZZ L i y j h hj
  have e:z.cells.length=12:=rfl
  show (z.cells++QR L)[(i+1)*12+j]? =_
  generalize z.cells=cs at e
  rw[List.getElem?_append_right (by omega),e,show (i+1)*12+j - 12=i*12+j by omega,ih]
theorem Q1P(L:List RlY)(y:RlY):QR (L++[y])=QR L++y.cells:=by simp [QR]
structure Win(L:List RlY)(i:Nat)(cs cells:List Value):Prop where
 len:cs.length=L.length*12
 cl:cells.length=12
 at_:∀j,j<12→cs[i*12+j]? =cells[j]?
 out:∀k,(k<i*12∨i*12+12≤k)→cs[k]? =(QR L)[k]?
theorem Win.start{L:List RlY}{i:Nat}{y:RlY}(h:L[i]? =some y):Win L i (QR L) y.cells:=⟨Q06 L,rfl,fun j hj=>ZZ L i y j h hj,fun _ _=>rfl⟩
theorem Win.put{L:List RlY}{i k:Nat}{cs cells:List Value}{v:Value}(h:Win L i cs cells)(hi:i<L.length)(hk:k<12):Win L i (cs.set (i*12+k) v) (cells.set k v):=by
 have hl:=h.len
 have hc:=h.cl
 refine⟨by rw[List.length_set];exact hl,by rw[List.length_set];exact hc,fun j hj=>?_,fun q hq=>?_⟩
 ·rw[List.getElem?_set,List.getElem?_set]
  by_cases e:k=j
  ·subst e
   rw[if_pos rfl,if_pos rfl,if_pos (by omega),if_pos (by omega)]
  ·rw[if_neg (by omega),if_neg e,h.at_ j hj]
 ·rw[List.getElem?_set_ne (by omega),h.out q hq]
theorem Win.fin{L:List RlY}{i:Nat}{cs:List Value}{y:RlY}(h:Win L i cs y.cells)(hi:i<L.length):cs=QR (L.set i y):=by
 apply List.ext_getElem?
 intro q
 by_cases hq:q<L.length*12
 ·have e:q=(q / 12)*12+q % 12:=by omega
  have hm:q % 12<12:=Nat.mod_lt _ (by decide)
  have hd:q / 12<L.length:=by omega
  by_cases e1:q / 12=i
  ·have h1:=h.at_ (q % 12) hm
   have h2:=ZZ (L.set i y) i y (q % 12) (by rw[List.getElem?_set,if_pos rfl,if_pos hi]) hm
   rw[← e1,← e] at h1 h2
   rw[h1,← e1]
   exact h2.symm
  ·have h1:=h.out q (by omega)
   have hz:L[q / 12]? =some L[q / 12]:=List.getElem?_eq_getElem hd
   have h2:=ZZ L (q / 12) _ (q % 12) hz hm
   have h3:=ZZ (L.set i y) (q / 12) _ (q % 12) (by rw[List.getElem?_set_ne (fun e=>e1 e.symm),hz]) hm
   rw[← e] at h2 h3
   rw[h1,h2,h3]
 ·rw[List.getElem?_eq_none (by rw[h.len];omega),List.getElem?_eq_none (by rw[Q06,List.length_set];omega)]
theorem Q27{F:List Rl}:∀{refs:List (List UInt8)} {j:Nat} {s:List UInt8},refs[j]? =some s→Xa F s<0→Xe F refs=none
 |[],_,_,h,_=>by simp at h
 |x::l,0,s,h,hs=>by
  cases h
  unfold Xe
  rw[if_pos hs]
 |x::l,j+1,s,h,hs=>by
  unfold Xe
  split
  ·rfl
  ·rw[Q27 (show l[j]? =some s from h) hs]
   rfl
theorem Q0t{F:List Rl}:∀{refs:List (List UInt8)},(∀s∈refs,0≤Xa F s)→Xe F refs=some (refs.map (Xa F))
 |[],_=>rfl
 |x::l,h=>by
  unfold Xe
  rw[if_neg (by have:=h x List.mem_cons_self;omega),Q0t fun s hs=>h s (List.mem_cons_of_mem _ hs)]
  rfl
theorem Rd.at1{w:World}{B n j:Nat}{A:Option Addr}{xs:List Value}{u:Value}(h:Rd w B 1 A n xs)(hu:xs[j]? =some u):∃b o,A=some ⟨b,o,none⟩∧w.cell? ⟨b,o+j,none⟩=some u:=by
 have hj:j<xs.length:=(List.getElem?_eq_some_iff.1 hu).1
 have hl:=h.1
 obtain⟨b,o,e,_,hc⟩:=h.2 (by omega)
 exact⟨b,o,e,hc j u hu⟩
structure RvY where
 j:Nat
 ns:List Int
 A:Option Addr
 c:Nat
structure RvI(F:List Rl)(refs:List (List UInt8))(z:RvY):Prop where
 j:z.j≤refs.length
 ns:z.ns=(refs.take z.j).map (Xa F)
 p:∀s∈refs.take z.j,0≤Xa F s
structure RsY where
 ok:Bool
 x:Rl
 Ap:Option Addr
 cp:Nat
 cur:List RlY
 ats:List Qg
structure RsI(cur:List RlY)(i:Nat)(y:RlY)(z:RsY):Prop where
 no:z.ok=false→Xf (cur.map RlY.x) (y.x,y.refs)=none
 yes:z.ok=true→Xf (cur.map RlY.x) (y.x,y.refs)=some z.x
 cur:z.ok=true→z.cur=cur.set i { y with x:=z.x,Ap:=z.Ap,cp:=z.cp }
 w:∀a∈z.ats,a.w=false
 c:z.ok=true→z.x.parts.length≤z.cp
 f:z.ok=true→∀w,(∀a∈z.ats,a.on w)→Rd w w.heap.size 1 z.Ap z.x.parts.length (iv z.x.parts)
theorem QcO{b o c:Nat}(h:2≤c):Zj (some ⟨b,o,none⟩) c 1 1=some ⟨b,o+1,none⟩:=by
 rw[Zj,if_neg (by omega),Option.map_some,Addr.add_mid]
theorem Yd(w:World)(B:Nat)(A:Option Addr):Rd w B 1 A 0 []:=⟨rfl,fun h=>absurd h (by omega)⟩
theorem Q5o{W w:World}{O:List Qg}{cur:List RlY}{i n c b cp:Nat}{y:RlY}{x:Rl}{Ap:Option Addr}{ats:List Qg}{cs cells:List Value}(hpl:Xf (cur.map RlY.x) (y.x,y.refs)=some x)(hi:i<cur.length)(hw1:Win cur i cs cells)(hc:cells=RlY.cells { y with x:=x,Ap:=Ap,cp:=cp })(hcp:x.parts.length≤cp)(hat:∀a∈ats,a.w=false)(hf:∀w,(∀a∈ats,a.on w)→Rd w w.heap.size 1 Ap x.parts.length (iv x.parts))(hw:Wd [] W (.row (some ⟨b,0,none⟩) n c 52 12 cs::(ats++O)) w):QW (fun z:RsY=>.bool z.ok) (RsI cur i y) [] W (fun z=>.row (some ⟨b,0,none⟩) n c 52 12 (QR z.cur)::(z.ats++O)) (.returned (.bool true)) w:=by
 subst hc
 refine⟨⟨true,x,Ap,cp,cur.set i { y with x:=x,Ap:=Ap,cp:=cp },ats⟩,rfl,⟨fun h=>(by cases h),fun _=>hpl,fun _=>rfl,hat,fun _=>hcp,fun _=>hf⟩,?_⟩
 show Wd [] W (.row (some ⟨b,0,none⟩) n c 52 12 (QR (cur.set i { y with x:=x,Ap:=Ap,cp:=cp }))::(ats++O)) w
 rw[← hw1.fin hi]
 exact hw
section
variable {W w:World}{O:List Qg}
set_option maxRecDepth 100000 in
set_option maxHeartbeats 64000000 in
theorem Q8y{cur:List RlY}{i n c b:Nat}{y:RlY}(hn:n≤2001)(hcur:cur.length=n)(hy:cur[i]? =some y)(hm:y.refs.length≤2001)(hcr:y.refs.length≤y.cr)
  (hlen:(Qp y.x.kind=true∨XJ y.x.kind=true)→y.refs.length=(if Qp y.x.kind then 1 else 0)+(if XJ y.x.kind then 1 else 0))
  (hF:∀w,Wd [] W (.row (some ⟨b,0,none⟩) n c 52 12 (QR cur)::O) w→Xq w w.heap.size (some ⟨b,0,none⟩) n (cur.map RlY.x)∧Rd w w.heap.size 1 y.Ar y.refs.length (sv y.refs))
  (hw:Wd [] W (.row (some ⟨b,0,none⟩) n c 52 12 (QR cur)::O) w):
  Calls Tryz.prog 44 #[.agg #[.slice (some ⟨b,0,none⟩) n c],.pointer (some ⟨b,i*12,none⟩),.slice y.Ar y.refs.length y.cr] w (QW (fun z:RsY=>.bool z.ok) (RsI cur i y) [] W (fun z=>.row (some ⟨b,0,none⟩) n c 52 12 (QR z.cur)::(z.ats++O))):=by
 have hwin0:=Win.start hy
 have hi:i<cur.length:=(List.getElem?_eq_some_iff.1 hy).1
 have hin:i<n:=by omega
 have hwin:∀j v,y.cells[j]? =some v→(QR cur)[i*12+j]? =some v:=fun j v hv=>by
  rw[hwin0.at_ j (List.getElem?_eq_some_iff.1 hv).1,hv]
 obtain⟨m,hmm⟩:∃m,y.refs.length=m:=⟨_,rfl⟩
 obtain⟨F,hFF⟩:∃F,cur.map RlY.x=F:=⟨_,rfl⟩
 have hA:0<m→∃ba oa,y.Ar=some ⟨ba,oa,none⟩:=fun h0=>by
  obtain⟨ba,oa,e,_⟩:=(hF w hw).2.2 (by omega)
  exact⟨ba,oa,e⟩
 obtain⟨Ar,hAr⟩:∃Ar,y.Ar=Ar:=⟨_,rfl⟩
 rw[hAr] at hA hF ⊢
 rw[hmm] at hm hlen hF hcr ⊢
 rw[hFF] at hF
 have HFF:=Lib.hid hFF
 have HM:=Lib.hid hmm
 have HF:=Lib.hid hF
 have HW:=Lib.hid hwin
 have HW0:=Lib.hid hwin0
 have HL:=Lib.hid hlen
 have HA:=Lib.hid hA
 have HCUR:=Lib.hid hcur
 have HY:=Lib.hid hy
 clear hmm hFF hAr hwin hwin0 hlen hA hF hcur hy
 go_enter Tryz.func44,Tryz.ntmps44
 refine QE (M:=[]) (W:=W) (N:=56) (E:=[(0,.agg #[.slice (some ⟨b,0,none⟩) n c]),(1,.pointer (some ⟨b,i*12,none⟩)),(2,.slice Ar m y.cr)]) (O:=.row (some ⟨b,0,none⟩) n c 52 12 (QR cur)::O) ?_ (Ag.cons (Ag.cons (Ag.cons (Ag.nil rfl rfl) rfl) rfl) rfl) hw
 repeat(first|refine Q1 (QU rfl rfl (by decide) rfl rfl) ?_|refine Q1 (QJ rfl rfl (by decide) rfl rfl) ?_|refine Qa (V6 (cs:=[.slice (some ⟨b,0,none⟩) n c]) rfl rfl rfl rfl) rfl (by decide) (fun bx _=>?_)|refine Q8 ?_|refine Q6 ?_|refine Q2 ?_|refine Qe ?_|refine Q1 (Q49 rfl rfl (by decide) rfl rfl) ?_)
 refine JI 3 1 ?_
 refine JW (ι:=RvY) (RvI F y.refs) (fun z=>m - z.j) (fun z=>[(1,.pointer (some ⟨b,i*12,none⟩)),(3,.pointer (some ⟨bx,0,none⟩)),(11,.slice Ar m y.cr),(12,.int .i64 (m:Int)),(13,.int .i64 (z.j:Int)),(7,.slice z.A z.ns.length z.c)]) (fun z=>.row z.A z.ns.length z.c 3 1 (iv z.ns)::.blk bx (.cells ([.slice (some ⟨b,0,none⟩) n c]:List Value).toArray 24 (0,0))::.row (some ⟨b,0,none⟩) n c 52 12 (QR cur)::O) ⟨0,[],none,0⟩ ⟨Nat.zero_le _,rfl,by intro s hs;simp at hs⟩ (.cons rfl rfl (.cons rfl rfl (.cons rfl rfl (.cons rfl rfl (.cons rfl rfl (.cons rfl rfl .nil)))))) (fun w hw=>hw) ?_
 rintro⟨j,ns,A1,c1⟩ hinv
 have hj:j≤m:=by have h1:j≤y.refs.length:=hinv.j;have h2:=HM.out;omega
 have hnl:ns.length=j:=by
  have h1:ns=(y.refs.take j).map (Xa F):=hinv.ns
  have h2:=HM.out
  rw[h1,List.length_map,List.length_take]
  omega
 have HI:=Lib.hid hinv
 clear hinv
 show sE _ _ _ _ _ [(1,.pointer (some ⟨b,i*12,none⟩)),(3,.pointer (some ⟨bx,0,none⟩)),(11,.slice Ar m y.cr),(12,.int .i64 (m:Int)),(13,.int .i64 (j:Int)),(7,.slice A1 ns.length c1)] (.row A1 ns.length c1 3 1 (iv ns)::.blk bx (.cells ([.slice (some ⟨b,0,none⟩) n c]:List Value).toArray 24 (0,0))::.row (some ⟨b,0,none⟩) n c 52 12 (QR cur)::O) _
 by_cases hjm:j<m
 ·obtain⟨ba,oa,rfl⟩:=HA.out (by omega)
  obtain⟨s,hs⟩:∃s,y.refs[j]? =some s:=⟨_,List.getElem?_eq_getElem (by have h2:=HM.out;omega)⟩
  have HS:=Lib.hid hs
  have hcell:∀w,Wd [] W (.row (some ⟨b,0,none⟩) n c 52 12 (QR cur)::O) w→w.cell? ⟨ba,oa+j,none⟩=some (.string ⟨s.toArray⟩):=fun w hw=>by
   obtain⟨b1,o1,e,hc⟩:=(HF.out w hw).2.at1 (j:=j) (u:=.string ⟨s.toArray⟩) (by unfold sv;rw[List.getElem?_map,HS.out];rfl)
   cases e
   exact hc
  have HC:=Lib.hid hcell
  obtain⟨K,hK⟩:∃K,Xa F (⟨s.toArray⟩:ByteArray).data.toList=K:=⟨_,rfl⟩
  have HK:=Lib.hid hK
  have hK':Xa F s=K:=hK
  clear hs hcell hK
  by_cases hK0:K<0
  ·skip
   repeat(first|refine Q1 (QU rfl rfl (by decide) rfl rfl) ?_|refine Q1 (QJ rfl rfl (by decide) rfl rfl) ?_|refine Q1 (X1 rfl rfl (by decide) rfl rfl) ?_|refine Q1 (QL rfl rfl (by decide) rfl rfl (by first|exact fun w hw=>hw.cell_blkL 0 rfl rfl|exact fun w hw=>hw.cell_blkL 1 rfl rfl|exact fun w hw=>hw.cell_blkL 2 rfl rfl|exact fun w hw=>hw.cell_blkL 3 rfl rfl|exact fun w hw=>hw.cell_blkL 4 rfl rfl|exact fun w hw=>hw.cell_blkL 5 rfl rfl|exact fun w hw=>hw.cell_old (by assumption) (by simp)|exact fun w hw=>hw.cell_range (by assumption) rfl (by simp))) ?_|refine Q1 (QV (j:=j) rfl rfl (by decide) rfl rfl rfl hjm) ?_|refine Q1 (QL rfl rfl (by decide) rfl rfl (fun w hw=>HC.out w hw.tail.tail)) ?_|(refine Q1 (Q4 (f:=84) rfl rfl (by decide) rfl rfl (fun w hw=>Zx (HF.out w hw.tail.tail).1 (by omega))) ?_;rw[HK.out])|refine Q8 ?_|refine Q6 ?_|refine Q2 ?_|refine Qh ?_|refine Q5 rfl ?_|refine Ql ?_|refine Qe ?_|refine Qc ?_|refine Qf ?_|refine Q1 (Xu rfl rfl (by decide) rfl rfl rfl (by first|assumption|exact decide_eq_true (by omega)|exact decide_eq_false (by omega)|rfl)) ?_)
   refine Q9 (by first|exact .inl rfl|exact .inr rfl) rfl (.tmp rfl) (fun w hw=>⟨⟨false,y.x,none,0,cur,[]⟩,rfl,⟨fun _=>?_,fun h=>(by cases h),fun h=>(by cases h),fun a ha=>(by cases ha),fun h=>(by cases h),fun h=>(by cases h)⟩,hw.tail.tail⟩)
   rw[HFF.out]
   unfold Xf
   rw[Q27 HS.out (by rw[hK'];exact hK0)]
   rfl
  ·skip
   repeat(first|refine Q1 (QU rfl rfl (by decide) rfl rfl) ?_|refine Q1 (QJ rfl rfl (by decide) rfl rfl) ?_|refine Q1 (X1 rfl rfl (by decide) rfl rfl) ?_|refine Q1 (QL rfl rfl (by decide) rfl rfl (by first|exact fun w hw=>hw.cell_blkL 0 rfl rfl|exact fun w hw=>hw.cell_blkL 1 rfl rfl|exact fun w hw=>hw.cell_blkL 2 rfl rfl|exact fun w hw=>hw.cell_blkL 3 rfl rfl|exact fun w hw=>hw.cell_blkL 4 rfl rfl|exact fun w hw=>hw.cell_blkL 5 rfl rfl|exact fun w hw=>hw.cell_old (by assumption) (by simp)|exact fun w hw=>hw.cell_range (by assumption) rfl (by simp))) ?_|refine Q1 (QV (j:=j) rfl rfl (by decide) rfl rfl rfl hjm) ?_|refine Q1 (QL rfl rfl (by decide) rfl rfl (fun w hw=>HC.out w hw.tail.tail)) ?_|(refine Q1 (Q4 (f:=84) rfl rfl (by decide) rfl rfl (fun w hw=>Zx (HF.out w hw.tail.tail).1 (by omega))) ?_;rw[HK.out])|refine Qa (Qz (size:=1) (cs:=[.int .i64 K]) rfl rfl rfl rfl rfl (by decide)) rfl (by decide) (fun bn _=>?_)|refine Qa (QC (news:=[.int .i64 K]) 1 rfl rfl rfl rfl rfl (fun w hw=>hw.rd_blk 0 rfl rfl) (by simp [Value.oneCell']) (by omega)) rfl (by decide) (fun z _=>?_)|refine Q8 ?_|refine Q6 ?_|refine Q2 ?_|refine Qh ?_|refine Q5 rfl ?_|refine Q3 rfl ?_|refine Qe ?_|refine Q1 (Xu rfl rfl (by decide) rfl rfl rfl (by first|assumption|exact decide_eq_true (by omega)|exact decide_eq_false (by omega)|rfl)) ?_|refine Q1 (Q0o (k:=.i64) rfl rfl (by decide) rfl rfl rfl (IntWalk.i64_in _ (by omega))) ?_)
   have htk:y.refs.take (j+1)=y.refs.take j++[s]:=by rw[List.take_add_one,HS.out];rfl
   have h1:ns=(y.refs.take j).map (Xa F):=HI.out.ns
   refine Xj ⟨j+1,ns++[K],z.1,z.2⟩ ⟨?_,?_,?_⟩ (by show m - (j+1)<m - j;omega) (.cons rfl rfl (.cons rfl rfl (.cons rfl rfl (.cons rfl rfl (.cons rfl rfl (.cons rfl (by rw[List.length_append];rfl) .nil)))))) (fun w hw=>?_)
   ·show j+1≤y.refs.length
    have h2:=HM.out
    omega
   ·show ns++[K]=(y.refs.take (j+1)).map (Xa F)
    rw[htk,List.map_append,← h1,← hK']
    rfl
   ·show ∀s∈y.refs.take (j+1),0≤Xa F s
    rw[htk]
    intro t ht
    rcases List.mem_append.1 ht with ht|ht
    ·exact HI.out.p t ht
    ·rw[List.mem_singleton.1 ht,hK']
     omega
   ·show Wd [] W (.row z.1 (ns++[K]).length z.2 3 1 (iv (ns++[K]))::.blk bx (.cells ([.slice (some ⟨b,0,none⟩) n c]:List Value).toArray 24 (0,0))::.row (some ⟨b,0,none⟩) n c 52 12 (QR cur)::O) w
    rw[List.length_append,Q8w]
    exact hw.tail
 ·obtain rfl:j=m:=by omega
  have hpl:Xf F (y.x,y.refs)=some (XD y.x ns):=by
   have h1:ns=(y.refs.take j).map (Xa F):=HI.out.ns
   have h2:y.refs.take j=y.refs:=List.take_of_length_le (by have:=HM.out;omega)
   have h3:∀s∈y.refs.take j,0≤Xa F s:=HI.out.p
   rw[h2] at h1 h3
   unfold Xf
   rw[Q0t h3,h1]
   rfl
  have HPL:=Lib.hid hpl
  clear hpl
  obtain⟨uc,huc⟩:∃uc,Qp y.x.kind=uc:=⟨_,rfl⟩
  obtain⟨uo,huo⟩:∃uo,XJ y.x.kind=uo:=⟨_,rfl⟩
  have hlen:=HL.out
  rw[huc,huo] at hlen
  have HUC:=Lib.hid huc
  have HUO:=Lib.hid huo
  clear huc huo
  repeat(first|refine Q1 (QU rfl rfl (by decide) rfl rfl) ?_|refine Q1 (XA rfl rfl (by decide) rfl rfl) ?_|refine Q1 (X8 (cs:=y.cells) rfl rfl (by decide) rfl rfl (fun w hw j v hv=>hw.cell_row 2 rfl (HW.out j v hv)) rfl) ?_|(refine Q1 (Q4 (f:=70) rfl rfl (by decide) rfl rfl (fun w hw=>Qu w)) ?_;rw[HUC.out])|refine Q8 ?_|refine Q6 ?_|refine Q2 ?_|refine Q3 rfl ?_|refine QX ?_|refine Q1 (Xu rfl rfl (by decide) rfl rfl rfl (by first|assumption|exact decide_eq_true (by omega)|exact decide_eq_false (by omega)|rfl)) ?_)
  refine Z8 (fun w hw=>(XN (hw.own 0 _ rfl) (by decide)).2) (fun hc1=>?_)
  refine Z8 (φ:=0<ns.length→∃b1 o1,A1=some ⟨b1,o1,none⟩) (fun w hw h0=>by
   obtain⟨b1,o1,e,_⟩:=(XN (hw.own 0 _ rfl) (by decide)).1.2 h0
   exact⟨b1,o1,e⟩) (fun hA1=>?_)
  refine Q0M (fun w hw=>hw.toRd (i:=0) rfl (by decide)) ?_
  refine Q0M (O':=.rd A1 ns.length 1 (iv ns)::.blk bx (.cells ([.slice (some ⟨b,0,none⟩) n c]:List Value).toArray 24 (0,0))::.row (some ⟨b,0,none⟩) n c 52 12 (QR cur)::O) (fun w hw=>hw) ?_
  cases uc with
  |false=>
   cases uo with
   |false=>
    have hw1:=HW0.out
    have hwin2:=HW.out
    repeat(first|refine Q1 (QU rfl rfl (by decide) rfl rfl) ?_|refine Q1 (X1 rfl rfl (by decide) rfl rfl) ?_|refine Q1 (XA rfl rfl (by decide) rfl rfl) ?_|refine Q1 (X8 (cs:=y.cells) rfl rfl (by decide) rfl rfl (fun w hw j v hv=>hw.cell_row 2 rfl (hwin2 j v hv)) rfl) ?_|(refine Q1 (Q4 (f:=71) rfl rfl (by decide) rfl rfl (fun w hw=>X7 w)) ?_;rw[HUO.out])|refine Q8 ?_|refine Q6 ?_|refine Q2 ?_|refine Qh ?_|refine Q3 rfl ?_)
    repeat(first|refine Q1 (QJ rfl rfl (by decide) rfl rfl) ?_|refine Qq (QI 2 rfl rfl rfl rfl rfl rfl (by omega)) rfl (fun _ _=>?_)|refine Q8 ?_|refine Q6 ?_|refine Q2 ?_|refine Ql ?_)
    refine Q9 (by first|exact .inl rfl|exact .inr rfl) rfl (.tmp rfl) (fun w hw=>?_)
    have hx:XD y.x ns={ y.x with parts:=ns }:=by unfold XD;rw[HUC.out,HUO.out];rfl
    refine Q5o (x:={ y.x with parts:=ns }) (Ap:=A1) (cp:=c1) (ats:=[.rd A1 ns.length 1 (iv ns)]) (HFF.out.symm▸hx▸HPL.out) hi (hw1.put (k:=11) (v:=.slice A1 ns.length c1) hi (by decide)) ?_ (hc1) ?_ ?_ ?_
    ·rfl
    ·exact Q5G
    ·exact fun w ha=>ha _ List.mem_cons_self
    ·exact hw.ofMap (fun i=>if i=0 then 2 else if i=1 then 0 else i+1) (fun i j h=>by (repeat' split at h)<;>omega) (fun i x hx=>by
      match i,hx with
      |0,hx=>exact hx
      |1,hx=>exact hx
      |n+2,hx=>exact hx)
   |true=>
    have hl:ns.length=1:=by rw[hnl];exact hlen (.inr rfl)
    obtain⟨a,rfl⟩:=List.length_eq_one_iff.1 hl
    obtain⟨b1,o1,rfl⟩:=hA1 (Nat.zero_lt_succ _)
    have hc2:1≤c1:=hc1
    have hw1:=HW0.out
    have hwin2:=HW.out
    repeat(first|refine Q1 (QU rfl rfl (by decide) rfl rfl) ?_|refine Q1 (XA rfl rfl (by decide) rfl rfl) ?_|refine Q1 (X8 (cs:=y.cells) rfl rfl (by decide) rfl rfl (fun w hw j v hv=>hw.cell_row 2 rfl (hwin2 j v hv)) rfl) ?_|(refine Q1 (Q4 (f:=71) rfl rfl (by decide) rfl rfl (fun w hw=>X7 w)) ?_;rw[HUO.out])|refine Q8 ?_|refine Q6 ?_|refine Q2 ?_|refine Qh ?_|refine Q5 rfl ?_|refine Q3 rfl ?_)
    refine Q0M (O':=.rd (some ⟨b1,o1,none⟩) 1 1 (iv [a])::.blk bx (.cells ([.slice (some ⟨b,0,none⟩) n c]:List Value).toArray 24 (0,0))::.row (some ⟨b,0,none⟩) n c 52 12 (QR cur)::O) (fun w hw=>hw) ?_
    refine Zs [.rd (some ⟨b1,o1,none⟩) 1 1 (iv [a])] [] (by kernel_rfl) ?_
    first|refine Qk 0 rfl (by kernel_rfl) (Q7.sel [0] (by decide) rfl) (QU rfl rfl (by decide) rfl rfl) ?_
    first|refine Qk 1 rfl (by kernel_rfl) (Q7.sel [0] (by decide) rfl) (QU rfl rfl (by decide) rfl rfl) ?_
    first|refine Qk 2 rfl (by kernel_rfl) (Q7.sel [0] (by decide) rfl) (QV (j:=0) rfl rfl (by decide) rfl rfl rfl (by first|exact Nat.zero_lt_succ _|exact Nat.zero_lt_one)) ?_
    first|refine Qk 3 rfl (by kernel_rfl) (Q7.sel [0] (by decide) rfl) (QL rfl rfl (by decide) rfl rfl (fun w hw=>hw.cell_rd 0 (j:=0) (v:=.int .i64 a) rfl rfl)) ?_
    first|refine Qk 4 rfl (by kernel_rfl) (Q7.sel [0] (by decide) rfl) (QU rfl rfl (by decide) rfl rfl) ?_
    first|refine Qk 5 rfl (by kernel_rfl) (Q7.sel [0] (by decide) rfl) (QG (l:=1) rfl rfl (by decide) rfl rfl rfl (by first|exact Nat.succ_le_succ (Nat.zero_le _)|exact Nat.le_refl 1)) ?_
    first|refine Qk 6 rfl (by kernel_rfl) (Q7.sel [0] (by decide) rfl) (XA rfl rfl (by decide) rfl rfl) ?_
    first|refine Qk 7 rfl (by kernel_rfl) (Q7.sel [0] (by decide) rfl) (X1 rfl rfl (by decide) rfl rfl) ?_
    refine Xw 8 (by kernel_rfl) rfl rfl (QI 2 rfl rfl rfl rfl rfl rfl (by omega)) (fun _=>.inr (Q7.sel [0] (by decide) rfl)) rfl (fun _ _=>?_)
    first|refine Qk 9 rfl (by kernel_rfl) (Q7.sel [0] (by decide) rfl) (QJ rfl rfl (by decide) rfl rfl) ?_
    refine Zc ?_ (by kernel_rfl)
    have hw2:=hw1.put (k:=9) (v:=.int .i64 a) hi (by decide)
    clear hw1
    have hw1:=hw2
    clear hw2
    repeat(first|refine Q1 (QU rfl rfl (by decide) rfl rfl) ?_|refine Q1 (QJ rfl rfl (by decide) rfl rfl) ?_|refine Q1 (X1 rfl rfl (by decide) rfl rfl) ?_|refine Q1 (XA rfl rfl (by decide) rfl rfl) ?_|refine Qq (QI 2 rfl rfl rfl rfl rfl rfl (by omega)) rfl (fun _ _=>?_)|refine Q8 ?_|refine Q6 ?_|refine Q2 ?_|refine Ql ?_)
    refine Q9 (by first|exact .inl rfl|exact .inr rfl) rfl (.tmp rfl) (fun w hw=>?_)
    have hx:XD y.x [a]={ y.x with elem:=a,parts:=[] }:=by unfold XD;rw[HUC.out,HUO.out];rfl
    refine Q5o (x:={ y.x with elem:=a,parts:=[] }) (Ap:=Zj (some ⟨b1,o1,none⟩) c1 1 1) (cp:=c1 - 1) (ats:=[]) (HFF.out.symm▸hx▸HPL.out) hi (hw1.put (k:=11) (v:=.slice (Zj (some ⟨b1,o1,none⟩) c1 1 1) 0 (c1 - 1)) hi (by decide)) ?_ (Nat.zero_le _) ?_ ?_ ?_
    ·rfl
    ·intro a ha;cases ha
    ·exact fun w ha=>Yd _ _ _
    ·exact hw.tail.tail
  |true=>
   cases uo with
   |false=>
    have hl:ns.length=1:=by rw[hnl];exact hlen (.inl rfl)
    obtain⟨a,rfl⟩:=List.length_eq_one_iff.1 hl
    obtain⟨b1,o1,rfl⟩:=hA1 (Nat.zero_lt_succ _)
    have hc2:1≤c1:=hc1
    have hw1:=HW0.out
    have hwin2:=HW.out
    refine Q0M (O':=.rd (some ⟨b1,o1,none⟩) 1 1 (iv [a])::.blk bx (.cells ([.slice (some ⟨b,0,none⟩) n c]:List Value).toArray 24 (0,0))::.row (some ⟨b,0,none⟩) n c 52 12 (QR cur)::O) (fun w hw=>hw) ?_
    repeat(first|refine Q5 rfl ?_)
    refine Zs [.rd (some ⟨b1,o1,none⟩) 1 1 (iv [a])] [] (by kernel_rfl) ?_
    first|refine Qk 0 rfl (by kernel_rfl) (Q7.sel [0] (by decide) rfl) (QU rfl rfl (by decide) rfl rfl) ?_
    first|refine Qk 1 rfl (by kernel_rfl) (Q7.sel [0] (by decide) rfl) (QU rfl rfl (by decide) rfl rfl) ?_
    first|refine Qk 2 rfl (by kernel_rfl) (Q7.sel [0] (by decide) rfl) (QV (j:=0) rfl rfl (by decide) rfl rfl rfl (by first|exact Nat.zero_lt_succ _|exact Nat.zero_lt_one)) ?_
    first|refine Qk 3 rfl (by kernel_rfl) (Q7.sel [0] (by decide) rfl) (QL rfl rfl (by decide) rfl rfl (fun w hw=>hw.cell_rd 0 (j:=0) (v:=.int .i64 a) rfl rfl)) ?_
    first|refine Qk 4 rfl (by kernel_rfl) (Q7.sel [0] (by decide) rfl) (QU rfl rfl (by decide) rfl rfl) ?_
    first|refine Qk 5 rfl (by kernel_rfl) (Q7.sel [0] (by decide) rfl) (QG (l:=1) rfl rfl (by decide) rfl rfl rfl (by first|exact Nat.succ_le_succ (Nat.zero_le _)|exact Nat.le_refl 1)) ?_
    first|refine Qk 6 rfl (by kernel_rfl) (Q7.sel [0] (by decide) rfl) (XA rfl rfl (by decide) rfl rfl) ?_
    first|refine Qk 7 rfl (by kernel_rfl) (Q7.sel [0] (by decide) rfl) (X1 rfl rfl (by decide) rfl rfl) ?_
    refine Xw 8 (by kernel_rfl) rfl rfl (QI 2 rfl rfl rfl rfl rfl rfl (by omega)) (fun _=>.inr (Q7.sel [0] (by decide) rfl)) rfl (fun _ _=>?_)
    first|refine Qk 9 rfl (by kernel_rfl) (Q7.sel [0] (by decide) rfl) (QJ rfl rfl (by decide) rfl rfl) ?_
    refine Zc ?_ (by kernel_rfl)
    have hw2:=hw1.put (k:=8) (v:=.int .i64 a) hi (by decide)
    have hwin3:∀j v,(y.cells.set 8 (.int .i64 a))[j]? =some v→((QR cur).set (i*12+8) (.int .i64 a))[i*12+j]? =some v:=fun j v hv=>by
     rw[hw2.at_ j (List.getElem?_eq_some_iff.1 hv).1,hv]
    clear hw1 hwin2
    have hw1:=hw2
    have hwin2:=hwin3
    clear hw2 hwin3
    repeat(first|refine Q1 (QU rfl rfl (by decide) rfl rfl) ?_|refine Q1 (X1 rfl rfl (by decide) rfl rfl) ?_|refine Q1 (XA rfl rfl (by decide) rfl rfl) ?_|refine Q1 (X8 (cs:=ruC { y.x with count:=a } (.slice y.Ab y.x.bs.length y.cb) (.slice y.An y.x.names.length y.cn) (.slice y.Ap y.x.parts.length y.cp)) rfl rfl (by decide) rfl rfl (fun w hw j v hv=>hw.cell_row 2 rfl (hwin2 j v hv)) rfl) ?_|(refine Q1 (Q4 (f:=71) rfl rfl (by decide) rfl rfl (fun w hw=>X7 w)) ?_;rw[HUO.out])|refine Q8 ?_|refine Q6 ?_|refine Q2 ?_|refine Qh ?_|refine Q3 rfl ?_)
    repeat(first|refine Q1 (QJ rfl rfl (by decide) rfl rfl) ?_|refine Qq (QI 2 rfl rfl rfl rfl rfl rfl (by omega)) rfl (fun _ _=>?_)|refine Q8 ?_|refine Q6 ?_|refine Q2 ?_|refine Ql ?_)
    refine Q9 (by first|exact .inl rfl|exact .inr rfl) rfl (.tmp rfl) (fun w hw=>?_)
    have hx:XD y.x [a]={ y.x with count:=a,parts:=[] }:=by unfold XD;rw[HUC.out,HUO.out];rfl
    refine Q5o (x:={ y.x with count:=a,parts:=[] }) (Ap:=Zj (some ⟨b1,o1,none⟩) c1 1 1) (cp:=c1 - 1) (ats:=[]) (HFF.out.symm▸hx▸HPL.out) hi (hw1.put (k:=11) (v:=.slice (Zj (some ⟨b1,o1,none⟩) c1 1 1) 0 (c1 - 1)) hi (by decide)) ?_ (Nat.zero_le _) ?_ ?_ ?_
    ·rfl
    ·intro a ha;cases ha
    ·exact fun w ha=>Yd _ _ _
    ·exact hw.tail.tail
   |true=>
    have hl:ns.length=2:=by rw[hnl];exact hlen (.inl rfl)
    obtain⟨a,a',rfl⟩:∃a a',ns=[a,a']:=by
     match ns,hl with
     |[a,a'],_=>exact⟨a,a',rfl⟩
    obtain⟨b1,o1,rfl⟩:=hA1 (Nat.zero_lt_succ _)
    have hc2:2≤c1:=hc1
    have hw1:=HW0.out
    have hwin2:=HW.out
    refine Q0M (O':=.rd (some ⟨b1,o1,none⟩) 2 1 (iv [a,a'])::.blk bx (.cells ([.slice (some ⟨b,0,none⟩) n c]:List Value).toArray 24 (0,0))::.row (some ⟨b,0,none⟩) n c 52 12 (QR cur)::O) (fun w hw=>hw) ?_
    repeat(first|refine Q5 rfl ?_)
    refine Zs [.rd (some ⟨b1,o1,none⟩) 2 1 (iv [a,a'])] [] (by kernel_rfl) ?_
    first|refine Qk 0 rfl (by kernel_rfl) (Q7.sel [0] (by decide) rfl) (QU rfl rfl (by decide) rfl rfl) ?_
    first|refine Qk 1 rfl (by kernel_rfl) (Q7.sel [0] (by decide) rfl) (QU rfl rfl (by decide) rfl rfl) ?_
    first|refine Qk 2 rfl (by kernel_rfl) (Q7.sel [0] (by decide) rfl) (QV (j:=0) rfl rfl (by decide) rfl rfl rfl (by first|exact Nat.zero_lt_succ _|exact Nat.zero_lt_one)) ?_
    first|refine Qk 3 rfl (by kernel_rfl) (Q7.sel [0] (by decide) rfl) (QL rfl rfl (by decide) rfl rfl (fun w hw=>hw.cell_rd 0 (j:=0) (v:=.int .i64 a) rfl rfl)) ?_
    first|refine Qk 4 rfl (by kernel_rfl) (Q7.sel [0] (by decide) rfl) (QU rfl rfl (by decide) rfl rfl) ?_
    first|refine Qk 5 rfl (by kernel_rfl) (Q7.sel [0] (by decide) rfl) (QG (l:=1) rfl rfl (by decide) rfl rfl rfl (by first|exact Nat.succ_le_succ (Nat.zero_le _)|exact Nat.le_refl 1)) ?_
    first|refine Qk 6 rfl (by kernel_rfl) (Q7.sel [0] (by decide) rfl) (XA rfl rfl (by decide) rfl rfl) ?_
    first|refine Qk 7 rfl (by kernel_rfl) (Q7.sel [0] (by decide) rfl) (X1 rfl rfl (by decide) rfl rfl) ?_
    refine Xw 8 (by kernel_rfl) rfl rfl (QI 2 rfl rfl rfl rfl rfl rfl (by omega)) (fun _=>.inr (Q7.sel [0] (by decide) rfl)) rfl (fun _ _=>?_)
    first|refine Qk 9 rfl (by kernel_rfl) (Q7.sel [0] (by decide) rfl) (QJ rfl rfl (by decide) rfl rfl) ?_
    refine Zc ?_ (by kernel_rfl)
    rw[QcO hc2]
    have hw2:=hw1.put (k:=8) (v:=.int .i64 a) hi (by decide)
    have hwin3:∀j v,(y.cells.set 8 (.int .i64 a))[j]? =some v→((QR cur).set (i*12+8) (.int .i64 a))[i*12+j]? =some v:=fun j v hv=>by
     rw[hw2.at_ j (List.getElem?_eq_some_iff.1 hv).1,hv]
    clear hw1 hwin2
    have hw1:=hw2
    have hwin2:=hwin3
    clear hw2 hwin3
    repeat(first|refine Q1 (QU rfl rfl (by decide) rfl rfl) ?_|refine Q1 (XA rfl rfl (by decide) rfl rfl) ?_|refine Q1 (X8 (cs:=ruC { y.x with count:=a } (.slice y.Ab y.x.bs.length y.cb) (.slice y.An y.x.names.length y.cn) (.slice y.Ap y.x.parts.length y.cp)) rfl rfl (by decide) rfl rfl (fun w hw j v hv=>hw.cell_row 2 rfl (hwin2 j v hv)) rfl) ?_|(refine Q1 (Q4 (f:=71) rfl rfl (by decide) rfl rfl (fun w hw=>X7 w)) ?_;rw[HUO.out])|refine Q8 ?_|refine Q6 ?_|refine Q2 ?_|refine Q5 rfl ?_)
    refine Zs [.rd (some ⟨b1,o1,none⟩) 2 1 (iv [a,a'])] [] (by kernel_rfl) ?_
    first|refine Qk 0 rfl (by kernel_rfl) (Q7.sel [0] (by decide) rfl) (QU rfl rfl (by decide) rfl rfl) ?_
    first|refine Qk 1 rfl (by kernel_rfl) (Q7.sel [0] (by decide) rfl) (QU rfl rfl (by decide) rfl rfl) ?_
    first|refine Qk 2 rfl (by kernel_rfl) (Q7.sel [0] (by decide) rfl) (QV (j:=0) rfl rfl (by decide) rfl rfl rfl (by first|exact Nat.zero_lt_succ _|exact Nat.zero_lt_one)) ?_
    first|refine Qk 3 rfl (by kernel_rfl) (Q7.sel [0] (by decide) rfl) (QL rfl rfl (by decide) rfl rfl (fun w hw=>hw.cell_rd 0 (j:=1) (v:=.int .i64 a') rfl rfl)) ?_
    first|refine Qk 4 rfl (by kernel_rfl) (Q7.sel [0] (by decide) rfl) (QU rfl rfl (by decide) rfl rfl) ?_
    first|refine Qk 5 rfl (by kernel_rfl) (Q7.sel [0] (by decide) rfl) (QG (l:=1) rfl rfl (by decide) rfl rfl rfl (by first|exact Nat.succ_le_succ (Nat.zero_le _)|exact Nat.le_refl 1)) ?_
    first|refine Qk 6 rfl (by kernel_rfl) (Q7.sel [0] (by decide) rfl) (XA rfl rfl (by decide) rfl rfl) ?_
    first|refine Qk 7 rfl (by kernel_rfl) (Q7.sel [0] (by decide) rfl) (X1 rfl rfl (by decide) rfl rfl) ?_
    refine Xw 8 (by kernel_rfl) rfl rfl (QI 2 rfl rfl rfl rfl rfl rfl (by omega)) (fun _=>.inr (Q7.sel [0] (by decide) rfl)) rfl (fun _ _=>?_)
    first|refine Qk 9 rfl (by kernel_rfl) (Q7.sel [0] (by decide) rfl) (QJ rfl rfl (by decide) rfl rfl) ?_
    refine Zc ?_ (by kernel_rfl)
    have hw2:=hw1.put (k:=9) (v:=.int .i64 a') hi (by decide)
    clear hw1
    have hw1:=hw2
    clear hw2
    repeat(first|refine Q1 (QU rfl rfl (by decide) rfl rfl) ?_|refine Q1 (QJ rfl rfl (by decide) rfl rfl) ?_|refine Q1 (X1 rfl rfl (by decide) rfl rfl) ?_|refine Q1 (XA rfl rfl (by decide) rfl rfl) ?_|refine Qq (QI 2 rfl rfl rfl rfl rfl rfl (by omega)) rfl (fun _ _=>?_)|refine Q8 ?_|refine Q6 ?_|refine Q2 ?_|refine Ql ?_)
    refine Q9 (by first|exact .inl rfl|exact .inr rfl) rfl (.tmp rfl) (fun w hw=>?_)
    have hx:XD y.x [a,a']={ y.x with count:=a,elem:=a',parts:=[] }:=by unfold XD;rw[HUC.out,HUO.out];rfl
    refine Q5o (x:={ y.x with count:=a,elem:=a',parts:=[] }) (Ap:=Zj (some ⟨b1,o1+1,none⟩) (c1 - 1) 1 1) (cp:=c1 - 1 - 1) (ats:=[]) (HFF.out.symm▸hx▸HPL.out) hi (hw1.put (k:=11) (v:=.slice (Zj (some ⟨b1,o1+1,none⟩) (c1 - 1) 1 1) 0 (c1 - 1 - 1)) hi (by decide)) ?_ (Nat.zero_le _) ?_ ?_ ?_
    ·rfl
    ·intro a ha;cases ha
    ·exact fun w ha=>Yd _ _ _
    ·exact hw.tail.tail
end
end Go.Proofs.YtgdiadednlajgaaGreatDoor
