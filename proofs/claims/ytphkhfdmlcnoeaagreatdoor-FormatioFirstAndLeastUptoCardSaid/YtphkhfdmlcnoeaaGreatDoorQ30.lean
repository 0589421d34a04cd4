import Derived.Test.YtphkhfdmlcnoeaaGreatDoorQ29
namespace Go.Proofs.YtphkhfdmlcnoeaaGreatDoor
set_option linter.unusedVariables false
set_option linter.unusedSimpArgs false
set_option maxRecDepth 1000000
set_option maxHeartbeats 32000000
open Go.RowKit
section
variable {L cur:List RlY}{b c i n:Nat}{cells cs:List Value}{y:RlY}
def Xq(L:List RlY):List Value:=L.flatMap RlY.cells
theorem Q0Y:∀L:List RlY,(Xq L).length=L.length*12
 |[]=>rfl
 |y::L=>by
  have ih:=Q0Y L
  have e:y.cells.length=12:=rfl;show (y.cells++Xq L).length=_;generalize y.cells=cs at e;rw[List.length_append,ih,List.length_cons,e];omega
theorem Jf:∀(L:List RlY) (i:Nat) (y:RlY) (j:Nat),L[i]? =some y->j<12->(Xq L)[i*12+j]? =y.cells[j]?
 |[],i,y,j,h,hj=>by simp at h
 |z::L,0,y,j,h,hj=>by
  obtain rfl:z=y:=by simpa using h
  have e:z.cells.length=12:=rfl;show (z.cells++Xq L)[0*12+j]? =_;generalize z.cells=cs at e;rw[Nat.zero_mul,Nat.zero_add,List.getElem?_append_left Q2]
 |z::L,i+1,y,j,h,hj=>by
  have ih:=Jf L i y j h hj;have e:z.cells.length=12:=rfl;show (z.cells++Xq L)[(i+1)*12+j]? =_;generalize z.cells=cs at e;rw[List.getElem?_append_right Q2,e,show (i+1)*12+j - 12=i*12+j by omega,ih]
theorem Qii(L:List RlY)(y:RlY):Xq (L++[y])=Xq L++y.cells:=by simp [Xq]
structure Win(L:List RlY)(i:Nat)(cs cells:List Value):Prop where
 len:cs.length=L.length*12
 cl:cells.length=12
 at_:∀j,j<12->cs[i*12+j]? =cells[j]?
 out:∀k,(k<i*12\/i*12+12<=k)->cs[k]? =(Xq L)[k]?
theorem Win.start(h:L[i]? =some y):Win L i (Xq L) y.cells:=⟨Q0Y L,rfl,fun j hj=>Jf L i y j h hj,fun _ _=>rfl⟩
theorem Win.put{k:Nat}{v:Value}(h:Win L i cs cells)(hi:i<L.length)(hk:k<12):Win L i (cs.set (i*12+k) v) (cells.set k v):=by
 have hl:=h.len;have hc:=h.cl;refine⟨by rw[List.length_set];exact hl,by rw[List.length_set];exact hc,fun j hj=>?_,fun q hq=>?_⟩
 ·rw[List.getElem?_set,List.getElem?_set]
  by_cases e:k=j
  ·subst e
   rw[if_pos rfl,if_pos rfl,if_pos Q2,if_pos Q2]
  ·rw[if_neg Q2,if_neg e,h.at_ j hj]
 ·rw[List.getElem?_set_ne Q2,h.out q hq]
theorem Win.fin(h:Win L i cs y.cells)(hi:i<L.length):cs=Xq (L.set i y):=by
 apply List.ext_getElem?;intro q;by_cases hq:q<L.length*12
 ·have e:q=(q / 12)*12+q % 12:=by omega
  have hm:q % 12<12:=Nat.mod_lt _ Q1;have hd:q / 12<L.length:=by omega
  by_cases e1:q / 12=i
  ·have h1:=h.at_ (q % 12) hm
   have h2:=Jf (L.set i y) i y (q % 12) (by rw[List.getElem?_set,if_pos rfl,if_pos hi]) hm;rw[<- e1,<- e] at h1 h2;rw[h1,<- e1];exact h2.symm
  ·have h1:=h.out q Q2
   have hz:L[q / 12]? =some L[q / 12]:=List.getElem?_eq_getElem hd;have h2:=Jf L (q / 12) _ (q % 12) hz hm;have h3:=Jf (L.set i y) (q / 12) _ (q % 12) (by rw[List.getElem?_set_ne (fun e=>e1 e.symm),hz]) hm;rw[<- e] at h2 h3;rw[h1,h2,h3]
 ·rw[List.getElem?_eq_none (by rw[h.len];omega),List.getElem?_eq_none (by rw[Q0Y,List.length_set];omega)]
theorem Q9b{F:List Rl}:∀{refs:List (List UInt8)} {j:Nat} {s:List UInt8},refs[j]? =some s->XN F s<0->Zs F refs=none
 |[],_,_,h,_=>by simp at h
 |x::l,0,s,h,hs=>by
  cases h
  unfold Zs
  rw[if_pos hs]
 |x::l,j+1,s,h,hs=>by
  unfold Zs
  split
  ·rfl
  ·rw[Q9b (show l[j]? =some s from h) hs]
   rfl
theorem Q6T{F:List Rl}:∀{refs:List (List UInt8)},(∀s∈refs,0<=XN F s)->Zs F refs=some (refs.map (XN F))
 |[],_=>rfl
 |x::l,h=>by
  unfold Zs
  rw[if_neg (by have:=h x List.mem_cons_self;omega),Q6T fun s hs=>h s (List.mem_cons_of_mem _ hs)]
  rfl
theorem Rd.at1{w:World}{B j:Nat}{A:Option Addr}{xs:List Value}{u:Value}(h:Rd w B 1 A n xs)(hu:xs[j]? =some u):∃b o,A=some ⟨b,o,none⟩/\w.cell? ⟨b,o+j,none⟩=some u:=by
 have hj:j<xs.length:=(List.getElem?_eq_some_iff.1 hu).1;have hl:=h.1;obtain⟨b,o,e,_,hc⟩:=h.2 Q2;exact⟨b,o,e,hc j u hu⟩
structure RvY where
 j:Nat
 ns:List Int
 A:Option Addr
 c:Nat
structure RvI(F:List Rl)(refs:List (List UInt8))(z:RvY):Prop where
 j:z.j<=refs.length
 ns:z.ns=(refs.take z.j).map (XN F)
 p:∀s∈refs.take z.j,0<=XN F s
structure RsY where
 ok:Bool
 x:Rl
 Ap:Option Addr
 cp:Nat
 cur:List RlY
 ats:List Qf
structure RsI(cur:List RlY)(i:Nat)(y:RlY)(z:RsY):Prop where
 no:z.ok=false->XX (cur.map RlY.x) (y.x,y.refs)=none
 yes:z.ok=true->XX (cur.map RlY.x) (y.x,y.refs)=some z.x
 cur:z.ok=true->z.cur=cur.set i { y with x:=z.x,Ap:=z.Ap,cp:=z.cp }
 w:∀a∈z.ats,a.w=false
 c:z.ok=true->z.x.parts.length<=z.cp
 f:z.ok=true->∀w,(∀a∈z.ats,a.on w)->Rd w w.heap.size 1 z.Ap z.x.parts.length (iv z.x.parts)
theorem QpF{o:Nat}(h:2<=c):ZC (some ⟨b,o,none⟩) c 1 1=some ⟨b,o+1,none⟩:=by
 rw[ZC,if_neg Q2,Option.map_some,Addr.add_mid]
theorem Q6r(w:World)(B:Nat)(A:Option Addr):Rd w B 1 A 0 []:=⟨rfl,fun h=>absurd h Q2⟩
theorem QaF{W w:World}{O:List Qf}{cp:Nat}{x:Rl}{Ap:Option Addr}{ats:List Qf}(hpl:XX (cur.map RlY.x) (y.x,y.refs)=some x)(hi:i<cur.length)(hw1:Win cur i cs cells)(hc:cells=RlY.cells { y with x:=x,Ap:=Ap,cp:=cp })(hcp:x.parts.length<=cp)(hat:∀a∈ats,a.w=false)(hf:∀w,(∀a∈ats,a.on w)->Rd w w.heap.size 1 Ap x.parts.length (iv x.parts))(hw:Wd [] W (.row (some ⟨b,0,none⟩) n c 65 12 cs::(ats++O)) w):QN (fun z:RsY=>.bool z.ok) (RsI cur i y) [] W (fun z=>.row (some ⟨b,0,none⟩) n c 65 12 (Xq z.cur)::(z.ats++O)) (.returned (.bool true)) w:=by
 subst hc;refine⟨⟨true,x,Ap,cp,cur.set i { y with x:=x,Ap:=Ap,cp:=cp },ats⟩,rfl,⟨fun h=>(by cases h),fun _=>hpl,fun _=>rfl,hat,fun _=>hcp,fun _=>hf⟩,?_⟩;show Wd [] W (.row (some ⟨b,0,none⟩) n c 65 12 (Xq (cur.set i { y with x:=x,Ap:=Ap,cp:=cp }))::(ats++O)) w;rw[<- hw1.fin hi];exact hw
section
variable {W w:World}{O:List Qf}
theorem QfT(hn:n<=2001)(hcur:cur.length=n)(hy:cur[i]? =some y)(hm:y.refs.length<=2001)(hcr:y.refs.length<=y.cr)
  (hlen:(Qv y.x.kind=true\/Zy y.x.kind=true)->y.refs.length=(if Qv y.x.kind then 1 else 0)+(if Zy y.x.kind then 1 else 0))
  (hF:∀w,Wd [] W (.row (some ⟨b,0,none⟩) n c 65 12 (Xq cur)::O) w->X3 w w.heap.size (some ⟨b,0,none⟩) n (cur.map RlY.x)/\Rd w w.heap.size 1 y.Ar y.refs.length (sv y.refs))
  (hw:Wd [] W (.row (some ⟨b,0,none⟩) n c 65 12 (Xq cur)::O) w):
  Calls Tryz.prog 94 #[.agg #[.slice (some ⟨b,0,none⟩) n c],.pointer (some ⟨b,i*12,none⟩),.slice y.Ar y.refs.length y.cr] w (QN (fun z:RsY=>.bool z.ok) (RsI cur i y) [] W (fun z=>.row (some ⟨b,0,none⟩) n c 65 12 (Xq z.cur)::(z.ats++O))):=by
 have hwin0:=Win.start hy;have hi:i<cur.length:=(List.getElem?_eq_some_iff.1 hy).1;have hin:i<n:=by omega
 have hwin:∀j v,y.cells[j]? =some v->(Xq cur)[i*12+j]? =some v:=fun j v hv=>by
  rw[hwin0.at_ j (List.getElem?_eq_some_iff.1 hv).1,hv]
 obtain⟨m,hmm⟩:∃m,y.refs.length=m:=⟨_,rfl⟩;obtain⟨F,hFF⟩:∃F,cur.map RlY.x=F:=⟨_,rfl⟩;have hA:0<m->∃ba oa,y.Ar=some ⟨ba,oa,none⟩:=fun h0=>by
  obtain⟨ba,oa,e,_⟩:=(hF w hw).2.2 Q2;exact⟨ba,oa,e⟩
 obtain⟨Ar,hAr⟩:∃Ar,y.Ar=Ar:=⟨_,rfl⟩;rw[hAr] at hA hF ⊢;rw[hmm] at hm hlen hF hcr ⊢;rw[hFF] at hF;have HFF:=Q3 hFF;have HM:=Q3 hmm;have HF:=Q3 hF;have HW:=Q3 hwin;have HW0:=Q3 hwin0;have HL:=Q3 hlen;have HA:=Q3 hA;have HCUR:=Q3 hcur;have HY:=Q3 hy;clear hmm hFF hAr hwin hwin0 hlen hA hF hcur hy;go_enter Tryz.func94,Tryz.ntmps94;refine Qy (M:=[]) (W:=W) (N:=56) (E:=[(0,.agg #[.slice V7 n c]),Qfy,(2,.slice Ar m y.cr)]) (O:=.row V7 n c 65 12 (Xq cur)::O) ?_ Ze hw;repeat(first|refine Q4 ZE ?_|refine Q4 Jk ?_|refine Qd (Q7P (cs:=[.slice V7 n c]) rfl rfl rfl rfl) rfl Q1 (fun bx _=>?_)|refine Qc ?_|refine Qa ?_|refine Q6 ?_|refine Qh ?_|refine Q4 Q7Z ?_)
 refine Q5U 3 1 ?_;refine Q2O (ι:=RvY) (RvI F y.refs) (fun z=>m - z.j) (fun z=>[Qfy,(3,.pointer (some ⟨bx,0,none⟩)),(11,.slice Ar m y.cr),(12,.int .i64 (m:Int)),(13,.int .i64 (z.j:Int)),(7,.slice z.A z.ns.length z.c)]) (fun z=>.row z.A z.ns.length z.c 3 1 (iv z.ns)::.blk bx Qcq::.row V7 n c 65 12 (Xq cur)::O) ⟨0,[],none,0⟩ ⟨Nat.zero_le _,rfl,by intro s hs;simp at hs⟩ Qem Y2 ?_;rintro⟨j,ns,A1,c1⟩ hinv;have hj:j<=m:=by have h1:j<=y.refs.length:=hinv.j;have h2:=HM.out;omega
 have hnl:ns.length=j:=by
  have h1:ns=(y.refs.take j).map (XN F):=hinv.ns;have h2:=HM.out;rw[h1,List.length_map,List.length_take];omega
 have HI:=Q3 hinv;clear hinv;show sE _ _ _ _ _ [Qfy,(3,.pointer (some ⟨bx,0,none⟩)),(11,.slice Ar m y.cr),(12,.int .i64 (m:Int)),(13,.int .i64 (j:Int)),(7,.slice A1 ns.length c1)] (.row A1 ns.length c1 3 1 (iv ns)::.blk bx Qcq::.row V7 n c 65 12 (Xq cur)::O) _;by_cases hjm:j<m
 ·obtain⟨ba,oa,rfl⟩:=HA.out Q2
  obtain⟨s,hs⟩:∃s,y.refs[j]? =some s:=⟨_,List.getElem?_eq_getElem (by have h2:=HM.out;omega)⟩;have HS:=Q3 hs;have hcell:∀w,Wd [] W (.row (some ⟨b,0,none⟩) n c 65 12 (Xq cur)::O) w->w.cell? ⟨ba,oa+j,none⟩=some (.string ⟨s.toArray⟩):=fun w hw=>by
   obtain⟨b1,o1,e,hc⟩:=(HF.out w hw).2.at1 (j:=j) (u:=.string ⟨s.toArray⟩) (by unfold sv;rw[List.getElem?_map,HS.out];rfl);cases e;exact hc
  have HC:=Q3 hcell;obtain⟨K,hK⟩:∃K,XN F (⟨s.toArray⟩:ByteArray).data.toList=K:=⟨_,rfl⟩;have HK:=Q3 hK;have hK':XN F s=K:=hK;clear hs hcell hK;by_cases hK0:K<0
  ·skip
   repeat(first|refine Q4 ZE ?_|refine Q4 Jk ?_|refine Q4 JH ?_|refine Q4 Qqc ?_|refine Q4 QmU ?_|refine Q4 Qjr ?_|(refine Q4 QrZ ?_;rw[HK.out])|refine Qc ?_|refine Qa ?_|refine Q6 ?_|refine Qp ?_|refine Q8 rfl ?_|refine Qu ?_|refine Qh ?_|refine Qo ?_|refine Qt ?_|refine Q4 Qkw ?_)
   refine Qb Q8T rfl (.tmp rfl) (fun w hw=>⟨⟨false,y.x,none,0,cur,[]⟩,rfl,⟨fun _=>?_,fun h=>(by cases h),fun h=>(by cases h),fun a ha=>(by cases ha),fun h=>(by cases h),fun h=>(by cases h)⟩,hw.tail.tail⟩);rw[HFF.out];unfold XX;rw[Q9b HS.out (by rw[hK'];exact hK0)];rfl
  ·skip
   repeat(first|refine Q4 ZE ?_|refine Q4 Jk ?_|refine Q4 JH ?_|refine Q4 Qqc ?_|refine Q4 QmU ?_|refine Q4 Qjr ?_|(refine Q4 QrZ ?_;rw[HK.out])|refine Qd (Zl (size:=1) (cs:=[.int .i64 K]) rfl rfl rfl rfl rfl Q1) rfl Q1 (fun bn _=>?_)|refine Qd (Xp (news:=[.int .i64 K]) 1 rfl rfl rfl rfl rfl Q7p Q5c Q2) rfl Q1 (fun z _=>?_)|refine Qc ?_|refine Qa ?_|refine Q6 ?_|refine Qp ?_|refine Q8 rfl ?_|refine Q7 rfl ?_|refine Qh ?_|refine Q4 Qkw ?_|refine Q4 Q6o ?_)
   have htk:y.refs.take (j+1)=y.refs.take j++[s]:=by rw[List.take_add_one,HS.out];rfl
   have h1:ns=(y.refs.take j).map (XN F):=HI.out.ns;refine ZB ⟨j+1,ns++[K],z.1,z.2⟩ ⟨?_,?_,?_⟩ (by show m - (j+1)<m - j;omega) (.cons rfl rfl (.cons rfl rfl (.cons rfl rfl Q6Z))) (fun w hw=>?_)
   ·show j+1<=y.refs.length
    have h2:=HM.out;omega
   ·show ns++[K]=(y.refs.take (j+1)).map (XN F)
    rw[htk,List.map_append,<- h1,<- hK'];rfl
   ·show ∀s∈y.refs.take (j+1),0<=XN F s
    rw[htk];intro t ht;rcases List.mem_append.1 ht with ht|ht
    ·exact HI.out.p t ht
    ·rw[List.mem_singleton.1 ht,hK']
     omega
   ·show Wd [] W (.row z.1 (ns++[K]).length z.2 3 1 (iv (ns++[K]))::.blk bx (.cells ([.slice (some ⟨b,0,none⟩) n c]:List Value).toArray 24 (0,0))::.row (some ⟨b,0,none⟩) n c 65 12 (Xq cur)::O) w
    rw[List.length_append,Qau];exact hw.tail
 ·obtain rfl:j=m:=by omega
  have hpl:XX F (y.x,y.refs)=some (JO y.x ns):=by
   have h1:ns=(y.refs.take j).map (XN F):=HI.out.ns;have h2:y.refs.take j=y.refs:=List.take_of_length_le (by have:=HM.out;omega);have h3:∀s∈y.refs.take j,0<=XN F s:=HI.out.p;rw[h2] at h1 h3;unfold XX;rw[Q6T h3,h1];rfl
  have HPL:=Q3 hpl;clear hpl;obtain⟨uc,huc⟩:∃uc,Qv y.x.kind=uc:=⟨_,rfl⟩;obtain⟨uo,huo⟩:∃uo,Zy y.x.kind=uo:=⟨_,rfl⟩;have hlen:=HL.out;rw[huc,huo] at hlen;have HUC:=Q3 huc;have HUO:=Q3 huo;clear huc huo;repeat(first|refine Q4 ZE ?_|refine Q4 mc5 ?_|refine Q4 (QV (cs:=y.cells) rfl rfl Q1 rfl rfl (fun w hw j v hv=>hw.cell_row 2 rfl (HW.out j v hv)) rfl) ?_|(refine Q4 Q23 ?_;rw[HUC.out])|refine Qc ?_|refine Qa ?_|refine Q6 ?_|refine Q7 rfl ?_|refine Xe ?_|refine Q4 Qkw ?_)
  refine Zz (fun w hw=>(row_rd Kk Q1).2) (fun hc1=>?_)
  refine Zz (φ:=0<ns.length->∃b1 o1,A1=some ⟨b1,o1,none⟩) (fun w hw h0=>by
   obtain⟨b1,o1,e,_⟩:=(row_rd Kk Q1).1.2 h0
   exact⟨b1,o1,e⟩) (fun hA1=>?_)
  refine Q3l (fun w hw=>hw.toRd (i:=0) rfl Q1) ?_;refine Q3l (O':=.rd A1 ns.length 1 (iv ns)::.blk bx Qcq::.row V7 n c 65 12 (Xq cur)::O) Y2 ?_;cases uc with
  |false=>
   cases uo with
   |false=>
    have hw1:=HW0.out;have hwin2:=HW.out;repeat(first|refine Q4 ZE ?_|refine Q4 JH ?_|refine Q4 mc5 ?_|refine Q4 QsN ?_|(refine Q4 Qn9 ?_;rw[HUO.out])|refine Qc ?_|refine Qa ?_|refine Q6 ?_|refine Qp ?_|refine Q7 rfl ?_)
    repeat(first|refine Q4 Jk ?_|refine Qr Q3p rfl (fun _ _=>?_)|refine Qc ?_|refine Qa ?_|refine Q6 ?_|refine Qu ?_)
    refine Qb Q8T rfl (.tmp rfl) (fun w hw=>?_);have hx:JO y.x ns={ y.x with parts:=ns }:=by unfold JO;rw[HUC.out,HUO.out];rfl
    refine QaF (x:={ y.x with parts:=ns }) (Ap:=A1) (cp:=c1) (ats:=[.rd A1 ns.length 1 (iv ns)]) QhK hi (hw1.put (k:=11) (v:=.slice A1 ns.length c1) hi Q1) ?_ (hc1) ?_ ?_ ?_
    ·rfl
    ·exact Qav
    ·exact fun w ha=>ha _ List.mem_cons_self
    ·exact hw.ofMap (fun i=>if i=0 then 2 else if i=1 then 0 else i+1) Q5F (fun i x hx=>by
      match i,hx with
      |0,hx=>exact hx
      |1,hx=>exact hx
      |n+2,hx=>exact hx)
   |true=>
    have hl:ns.length=1:=by rw[hnl];exact hlen (.inr rfl)
    obtain⟨a,rfl⟩:=List.length_eq_one_iff.1 hl;obtain⟨b1,o1,rfl⟩:=hA1 (Nat.zero_lt_succ _);have hc2:1<=c1:=hc1;have hw1:=HW0.out;have hwin2:=HW.out;repeat(first|refine Q4 ZE ?_|refine Q4 mc5 ?_|refine Q4 QsN ?_|(refine Q4 Qn9 ?_;rw[HUO.out])|refine Qc ?_|refine Qa ?_|refine Q6 ?_|refine Qp ?_|refine Q8 rfl ?_|refine Q7 rfl ?_)
    refine QnH ?_;refine Xw [.rd Q3m 1 1 (iv [a])] [] Q5 ?_;first|refine Qi 0 rfl Q5 Zi ZE ?_
    first|refine Qi 1 rfl Q5 Zi ZE ?_
    first|refine Qi 2 rfl Q5 Zi Qhl ?_
    first|refine Qi 3 rfl Q5 Zi Qm3 ?_
    first|refine Qi 4 rfl Q5 Zi ZE ?_
    first|refine Qi 5 rfl Q5 Zi Qh4 ?_
    first|refine Qi 6 rfl Q5 Zi mc5 ?_
    first|refine Qi 7 rfl Q5 Zi JH ?_
    refine QB 8 Q5 rfl rfl Q3p YH rfl (fun _ _=>?_);first|refine Qi 9 rfl Q5 Zi Jk ?_
    refine Xi ?_ Q5;have hw2:=hw1.put (k:=9) (v:=.int .i64 a) hi Q1;clear hw1;have hw1:=hw2;clear hw2;repeat(first|refine Q4 ZE ?_|refine Q4 Jk ?_|refine Q4 JH ?_|refine Q4 mc5 ?_|refine Qr Q3p rfl (fun _ _=>?_)|refine Qc ?_|refine Qa ?_|refine Q6 ?_|refine Qu ?_)
    refine Qb Q8T rfl (.tmp rfl) (fun w hw=>?_);have hx:JO y.x [a]={ y.x with elem:=a,parts:=[] }:=by unfold JO;rw[HUC.out,HUO.out];rfl
    refine QaF (x:={ y.x with elem:=a,parts:=[] }) (Ap:=ZC Q3m c1 1 1) (cp:=c1 - 1) (ats:=[]) QhK hi Qm6 ?_ JR ?_ ?_ ?_
    ·rfl
    ·intro a ha;cases ha
    ·exact fun w ha=>Q6r _ _ _
    ·exact hw.tail.tail
  |true=>
   cases uo with
   |false=>
    have hl:ns.length=1:=by rw[hnl];exact hlen (.inl rfl)
    obtain⟨a,rfl⟩:=List.length_eq_one_iff.1 hl;obtain⟨b1,o1,rfl⟩:=hA1 (Nat.zero_lt_succ _);have hc2:1<=c1:=hc1;have hw1:=HW0.out;have hwin2:=HW.out;refine QnH ?_;repeat(first|refine Q8 rfl ?_)
    refine Xw [.rd Q3m 1 1 (iv [a])] [] Q5 ?_;first|refine Qi 0 rfl Q5 Zi ZE ?_
    first|refine Qi 1 rfl Q5 Zi ZE ?_
    first|refine Qi 2 rfl Q5 Zi Qhl ?_
    first|refine Qi 3 rfl Q5 Zi Qm3 ?_
    first|refine Qi 4 rfl Q5 Zi ZE ?_
    first|refine Qi 5 rfl Q5 Zi Qh4 ?_
    first|refine Qi 6 rfl Q5 Zi mc5 ?_
    first|refine Qi 7 rfl Q5 Zi JH ?_
    refine QB 8 Q5 rfl rfl Q3p YH rfl (fun _ _=>?_);first|refine Qi 9 rfl Q5 Zi Jk ?_
    refine Xi ?_ Q5;have hw2:=hw1.put (k:=8) (v:=.int .i64 a) hi Q1;have hwin3:∀j v,(y.cells.set 8 (.int .i64 a))[j]? =some v->((Xq cur).set (i*12+8) (.int .i64 a))[i*12+j]? =some v:=fun j v hv=>by
     rw[hw2.at_ j (List.getElem?_eq_some_iff.1 hv).1,hv]
    clear hw1 hwin2;have hw1:=hw2;have hwin2:=hwin3;clear hw2 hwin3;repeat(first|refine Q4 ZE ?_|refine Q4 JH ?_|refine Q4 mc5 ?_|refine Q4 Qrz ?_|(refine Q4 Qn9 ?_;rw[HUO.out])|refine Qc ?_|refine Qa ?_|refine Q6 ?_|refine Qp ?_|refine Q7 rfl ?_)
    repeat(first|refine Q4 Jk ?_|refine Qr Q3p rfl (fun _ _=>?_)|refine Qc ?_|refine Qa ?_|refine Q6 ?_|refine Qu ?_)
    refine Qb Q8T rfl (.tmp rfl) (fun w hw=>?_);have hx:JO y.x [a]={ y.x with count:=a,parts:=[] }:=by unfold JO;rw[HUC.out,HUO.out];rfl
    refine QaF (x:={ y.x with count:=a,parts:=[] }) (Ap:=ZC Q3m c1 1 1) (cp:=c1 - 1) (ats:=[]) QhK hi Qm6 ?_ JR ?_ ?_ ?_
    ·rfl
    ·intro a ha;cases ha
    ·exact fun w ha=>Q6r _ _ _
    ·exact hw.tail.tail
   |true=>
    have hl:ns.length=2:=by rw[hnl];exact hlen (.inl rfl)
    obtain⟨a,a',rfl⟩:∃a a',ns=[a,a']:=by
     match ns,hl with
     |[a,a'],_=>exact⟨a,a',rfl⟩
    obtain⟨b1,o1,rfl⟩:=hA1 (Nat.zero_lt_succ _);have hc2:2<=c1:=hc1;have hw1:=HW0.out;have hwin2:=HW.out;refine Q3l (O':=.rd Q3m 2 1 (iv [a,a'])::.blk bx Qcq::.row V7 n c 65 12 (Xq cur)::O) Y2 ?_;repeat(first|refine Q8 rfl ?_)
    refine Xw [.rd Q3m 2 1 (iv [a,a'])] [] Q5 ?_;first|refine Qi 0 rfl Q5 Zi ZE ?_
    first|refine Qi 1 rfl Q5 Zi ZE ?_
    first|refine Qi 2 rfl Q5 Zi Qhl ?_
    first|refine Qi 3 rfl Q5 Zi Qm3 ?_
    first|refine Qi 4 rfl Q5 Zi ZE ?_
    first|refine Qi 5 rfl Q5 Zi Qh4 ?_
    first|refine Qi 6 rfl Q5 Zi mc5 ?_
    first|refine Qi 7 rfl Q5 Zi JH ?_
    refine QB 8 Q5 rfl rfl Q3p YH rfl (fun _ _=>?_);first|refine Qi 9 rfl Q5 Zi Jk ?_
    refine Xi ?_ Q5;rw[QpF hc2];have hw2:=hw1.put (k:=8) (v:=.int .i64 a) hi Q1;have hwin3:∀j v,(y.cells.set 8 (.int .i64 a))[j]? =some v->((Xq cur).set (i*12+8) (.int .i64 a))[i*12+j]? =some v:=fun j v hv=>by
     rw[hw2.at_ j (List.getElem?_eq_some_iff.1 hv).1,hv]
    clear hw1 hwin2;have hw1:=hw2;have hwin2:=hwin3;clear hw2 hwin3;repeat(first|refine Q4 ZE ?_|refine Q4 mc5 ?_|refine Q4 Qrz ?_|(refine Q4 Qn9 ?_;rw[HUO.out])|refine Qc ?_|refine Qa ?_|refine Q6 ?_|refine Q8 rfl ?_)
    refine Xw [.rd Q3m 2 1 (iv [a,a'])] [] Q5 ?_;first|refine Qi 0 rfl Q5 Zi ZE ?_
    first|refine Qi 1 rfl Q5 Zi ZE ?_
    first|refine Qi 2 rfl Q5 Zi Qhl ?_
    first|refine Qi 3 rfl Q5 Zi (QP rfl rfl Q1 rfl rfl (fun w hw=>hw.cell_rd 0 (j:=1) (v:=.int .i64 a') rfl rfl)) ?_
    first|refine Qi 4 rfl Q5 Zi ZE ?_
    first|refine Qi 5 rfl Q5 Zi Qh4 ?_
    first|refine Qi 6 rfl Q5 Zi mc5 ?_
    first|refine Qi 7 rfl Q5 Zi JH ?_
    refine QB 8 Q5 rfl rfl Q3p YH rfl (fun _ _=>?_);first|refine Qi 9 rfl Q5 Zi Jk ?_
    refine Xi ?_ Q5;have hw2:=hw1.put (k:=9) (v:=.int .i64 a') hi Q1;clear hw1;have hw1:=hw2;clear hw2;repeat(first|refine Q4 ZE ?_|refine Q4 Jk ?_|refine Q4 JH ?_|refine Q4 mc5 ?_|refine Qr Q3p rfl (fun _ _=>?_)|refine Qc ?_|refine Qa ?_|refine Q6 ?_|refine Qu ?_)
    refine Qb Q8T rfl (.tmp rfl) (fun w hw=>?_);have hx:JO y.x [a,a']={ y.x with count:=a,elem:=a',parts:=[] }:=by unfold JO;rw[HUC.out,HUO.out];rfl
    refine QaF (x:={ y.x with count:=a,elem:=a',parts:=[] }) (Ap:=ZC (some ⟨b1,o1+1,none⟩) (c1 - 1) 1 1) (cp:=c1 - 1 - 1) (ats:=[]) QhK hi (hw1.put (k:=11) (v:=.slice (ZC (some ⟨b1,o1+1,none⟩) (c1 - 1) 1 1) 0 (c1 - 1 - 1)) hi Q1) ?_ JR ?_ ?_ ?_
    ·rfl
    ·intro a ha;cases ha
    ·exact fun w ha=>Q6r _ _ _
    ·exact hw.tail.tail
end
end
end Go.Proofs.YtphkhfdmlcnoeaaGreatDoor
