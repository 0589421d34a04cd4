import Derived.Test.YtphkhfdmlcnoeaaGreatDoorP19
import Derived.Test.YtphkhfdmlcnoeaaGreatDoorP21
import Derived.Test.YtphkhfdmlcnoeaaGreatDoorP22
namespace Go.Proofs.YtphkhfdmlcnoeaaGreatDoor
set_option linter.unusedVariables false
set_option linter.unusedSimpArgs false
set_option maxRecDepth 1000000
set_option maxHeartbeats 32000000
open Go.RowKit
section
variable {i:Nat}{l:List (List UInt8)}{r:Rl}{x:List UInt8}
theorem Qm3{W:World}{A:Option Addr}(h:Rd W W.heap.size 1 A l.length (sv l))(h0:0<l.length):∃b o,A=some ⟨b,o,none⟩/\∀j:Nat,j<l.length->W.cell? ⟨b,o+j,none⟩=some (.string ⟨(l.getD j []).toArray⟩):=by
 obtain⟨b,o,e,_,hc⟩:=h.2 Q3;refine⟨b,o,e,fun j hj=>hc j _ ?_⟩;unfold sv;refine Qnn ?_;rfl
theorem Qn9{W:World}{A:Option Addr}{l:List Int}(h:Rd W W.heap.size 1 A l.length (iv l))(h0:0<l.length):∃b o,A=some ⟨b,o,none⟩/\∀j:Nat,j<l.length->W.cell? ⟨b,o+j,none⟩=some (.int .i64 (l.getD j 0)):=by
 obtain⟨b,o,e,_,hc⟩:=h.2 Q3;refine⟨b,o,e,fun j hj=>hc j _ ?_⟩;unfold iv;refine Qnn ?_;rfl
theorem Qfd(h:∃j,j<i/\j<l.length/\l.getD j []=x):XR (l.take i) x=true:=by
 obtain⟨j,hj,hl,he⟩:=h;unfold XR;rw[List.contains_iff_mem];refine List.mem_of_getElem? (i:=j) ?_;rw[List.getElem?_take,if_pos hj,List.getElem?_eq_getElem hl,<- he,List.getD_eq_getElem?_getD,List.getElem?_eq_getElem hl];rfl
theorem Qfe(h:∀j,j<i->¬l.getD j []=x):XR (l.take i) x=false:=by
 unfold XR;rw[<- Bool.not_eq_true,List.contains_iff_mem];intro hm;obtain⟨j,hj⟩:=List.getElem?_of_mem hm;rw[List.getElem?_take] at hj;split at hj
 ·next hji=>exact h j hji (by rw[List.getD_eq_getElem?_getD,hj];rfl)
 ·cases hj
section
variable {A Ab An Ap:Option Addr}{n c cb cn cp:Nat}{W:World}{F:List Rl}
theorem QlS(hf:QS W W.heap.size A n F)(hr:ROk n r)(hk:r.kind=6\/r.kind=10)(hnm:r.names=[]):
  Calls Tryz.prog 36 #[.agg #[.slice A n c],.agg (ruC r (.slice Ab r.bs.length cb) (.slice An r.names.length cn) (.slice Ap r.parts.length cp)).toArray] W (Je W (J3 F r)):=by
 have hcn:=hr.count hk;obtain⟨b,o,rfl⟩:=hf.addr Q3;obtain⟨rc,Ac,cc,Ad,cd,Ae,ce,hrc,hrg,_⟩:=hf.rl (i:=r.count.toNat) Q3;have HK:=Q2 (VT hrc);obtain⟨name,kind,bs,size,big,mn,mx,stop,count,elem,names,parts⟩:=r;simp only at hk hcn hrc hrg HK hnm;subst hnm;have hC:J3 F ⟨name,kind,bs,size,big,mn,mx,stop,count,elem,[],parts⟩=if rc.kind≠2/\rc.kind≠3 then 13 else 0:=by
  have h7:(kind != 7)=true:=bne_iff_ne.2 Q3;have hu:QE kind=true:=by rcases hk with e|e<;>rw[e]<;>rfl
  unfold J3;rw[hu,HK.out,Bool.true_and];unfold Z8 XR;simp only[h7];by_cases h2:rc.kind=2
  ·rw[h2];rfl
  ·by_cases h3:rc.kind=3
   ·rw[h3];rfl
   ·rw[if_pos (show rc.kind≠2/\rc.kind≠3 from ⟨h2,h3⟩)]
    simp [h2,h3]
 rw[hC];clear hrc hf hr hC HK;simp only[ruC];rcases hk with rfl|rfl<;>
 ·go_enter Tryz.func36,Tryz.ntmps36
  refine Qz (M:=[]) (W:=W) (N:=76) (E:=[(0,.agg #[.slice (some ⟨b,o,none⟩) n c]),(1,.agg ([.string ⟨name.toArray⟩,.int .i64 _,.slice Ab bs.length cb,.int .i64 size,.bool big,.int .i64 mn,.int .i64 mx,.int .i64 stop,.int .i64 count,.int .i64 elem,.slice An ([]:List (List UInt8)).length cn,.slice Ap parts.length cp]:List Value).toArray)]) (O:=[]) ?_ mc3 (Wd.start [] W);by_cases hb:rc.kind≠2/\rc.kind≠3
  ·rw[if_pos hb];obtain⟨hb2,hb3⟩:=hb
   refine Q2f ?_
   refine yB fun b2=>?_;refine yB fun b3=>?_;refine Q9V ?_
   refine QjY ?_;first|refine Q4 zF ?_|refine Q4 zS ?_
   first|refine Q4 (zB 0) ?_|refine Q4 zS ?_
   first|refine Q4 Qgf ?_|refine Q4 zS ?_
   first|refine Q4 zY ?_|refine Q4 zN ?_
   refine yl ?_;refine Qcm ?_
   refine Qf3 ?_
   refine yo zM<|yo znt<|yo zM<|yo zM<|yo znt<|yo zY<|yl ?_;refine Qcm ?_
   refine yo zA<|yl ?_;repeat(first|((with_reducible show sE _ _ _ _ _ _ _ _);refine QC ?_)|((with_reducible show xE _ _ _ _ _ _ _);first|refine Qb ?_|refine Qk ?_))
   exact QgX
  ·rw[if_neg hb]
   have hb':rc.kind=2\/rc.kind=3:=by omega
   clear hb;rcases hb' with hb2|hb3
   ·skip
    refine Q2f ?_
    refine yB fun b2=>?_;refine yB fun b3=>?_;refine Q9V ?_
    refine QjY ?_;first|refine Q4 zF ?_|refine Q4 zS ?_
    first|refine Q4 (zB 0) ?_|refine Q4 zS ?_
    first|refine Q4 Qgf ?_|refine Q4 zS ?_
    first|refine Q4 zY ?_|refine Q4 zN ?_
    refine yl ?_;refine Qcm ?_
    refine Qf3 ?_
    refine yo zM<|yo znf<|yo zM<|yo zS<|yo zS<|yo zN<|yl ?_;refine QoR ?_
    refine yo zA<|yl ?_;repeat(first|((with_reducible show sE _ _ _ _ _ _ _ _);refine Qi ?_)|((with_reducible show xE _ _ _ _ _ _ _);refine Qb ?_))
    refine QK (ι:=Unit) (fun _=>True) (fun _=>0) (fun _=>[(3,.pointer (some ⟨b3,0,none⟩)),(6,.int .i64 0)]) (fun _=>[.blk b3 (.cells ([.string ⟨name.toArray⟩,.int .i64 _,.slice Ab bs.length cb,.int .i64 size,.bool big,.int .i64 mn,.int .i64 mx,.int .i64 stop,.int .i64 count,.int .i64 elem,.slice An ([]:List (List UInt8)).length cn,.slice Ap parts.length cp]:List Value).toArray 65 (0,0))]) () [0] Q1 trivial (.cons rfl rfl (.cons rfl rfl .nil)) rfl ?_;rintro⟨⟩ _;repeat(first|((with_reducible show sE _ _ _ _ _ _ _ _);first|refine Qa ?_|refine Q6 ?_))
    refine yo zM<|yo zF<|yo (zB 0)<|yo zL<|yo zlr<|yl ?_;refine QnH ?_
    refine yo zA<|yl ?_;repeat(first|((with_reducible show sE _ _ _ _ _ _ _ _);refine QC ?_)|((with_reducible show xE _ _ _ _ _ _ _);refine Qb ?_))
    exact QgX
   ·skip
    refine Q2f ?_
    refine yB fun b2=>?_;refine yB fun b3=>?_;refine Q9V ?_
    refine QjY ?_;first|refine Q4 zF ?_|refine Q4 zS ?_
    first|refine Q4 (zB 0) ?_|refine Q4 zS ?_
    first|refine Q4 Qgf ?_|refine Q4 zS ?_
    first|refine Q4 zY ?_|refine Q4 zN ?_
    refine yl ?_;refine Qcm ?_
    refine Qf3 ?_
    refine yo zM<|yo znt<|yo zM<|yo zM<|yo znf<|yo zY<|yl ?_;refine QoR ?_
    refine yo zA<|yl ?_;repeat(first|((with_reducible show sE _ _ _ _ _ _ _ _);refine Qi ?_)|((with_reducible show xE _ _ _ _ _ _ _);refine Qb ?_))
    refine QK (ι:=Unit) (fun _=>True) (fun _=>0) (fun _=>[(3,.pointer (some ⟨b3,0,none⟩)),(6,.int .i64 0)]) (fun _=>[.blk b3 (.cells ([.string ⟨name.toArray⟩,.int .i64 _,.slice Ab bs.length cb,.int .i64 size,.bool big,.int .i64 mn,.int .i64 mx,.int .i64 stop,.int .i64 count,.int .i64 elem,.slice An ([]:List (List UInt8)).length cn,.slice Ap parts.length cp]:List Value).toArray 65 (0,0))]) () [0] Q1 trivial (.cons rfl rfl (.cons rfl rfl .nil)) rfl ?_;rintro⟨⟩ _;repeat(first|((with_reducible show sE _ _ _ _ _ _ _ _);first|refine Qa ?_|refine Q6 ?_))
    refine yo zM<|yo zF<|yo (zB 0)<|yo zL<|yo zlr<|yl ?_;refine QnH ?_
    refine yo zA<|yl ?_;repeat(first|((with_reducible show sE _ _ _ _ _ _ _ _);refine QC ?_)|((with_reducible show xE _ _ _ _ _ _ _);refine Qb ?_))
    exact QgX
theorem Qmm(hk:¬(r.kind=6\/r.kind=10))(h7:r.kind≠7)(hnm:r.names=[]):
  Calls Tryz.prog 36 #[.agg #[.slice A n c],.agg (ruC r (.slice Ab r.bs.length cb) (.slice An r.names.length cn) (.slice Ap r.parts.length cp)).toArray] W (Je W (J3 F r)):=by
 obtain⟨name,kind,bs,size,big,mn,mx,stop,count,elem,names,parts⟩:=r;simp only at hk h7 hnm;subst hnm;have hC:J3 F ⟨name,kind,bs,size,big,mn,mx,stop,count,elem,[],parts⟩=0:=by
  have h7':(kind != 7)=true:=bne_iff_ne.2 h7;have hu:QE kind=false:=by unfold QE XR;simp;omega
  unfold J3;simp only[hu,h7',Bool.false_and];rfl
 rw[hC];clear hC;have hk6:kind≠6:=fun e=>hk (.inl e);have hk10:kind≠10:=fun e=>hk (.inr e);clear hk h7;simp only[ruC];go_enter Tryz.func36,Tryz.ntmps36;refine Qz (M:=[]) (W:=W) (N:=76) (E:=[VD,(1,.agg (QsY:List Value).toArray)]) (O:=[]) ?_ mc3 QR;refine yq<|yr ?_;refine yB fun b2=>?_;refine yB fun b3=>?_;refine Qsb ?_;refine QK (ι:=Unit) Qd6 (fun _=>0) (fun _=>[QnD,(6,.int .i64 0)]) (fun _=>[.blk b3 (.cells (QsY:List Value).toArray 65 (0,0))]) () [0] Q1 trivial Q6G rfl ?_;rintro⟨⟩ _;refine yq<|yq<|yr<|yo zM<|yo zF<|yo (zB 0)<|yo zL<|yo zlr<|yl<|yn<|y0<|ye<|yn<|yq<|yr<|yo zA<|yl<|yn<|yt ?_;exact QgX
theorem QjQ(hf:QS W W.heap.size A n F)(hl:RuL W r Ab cb An cn Ap cp)(hr:ROk n r)(hs:RSm r)(hk:r.kind=7):
  Calls Tryz.prog 36 #[.agg #[.slice A n c],.agg (ruC r (.slice Ab r.bs.length cb) (.slice An r.names.length cn) (.slice Ap r.parts.length cp)).toArray] W (Je W (J3 F r)):=by
 obtain⟨hnp,hp1⟩:=hr.seven hk;have hpt:=hr.parts (.inl hk);have h12:=hr.p12
 obtain⟨b,o,rfl⟩:=hf.addr (by
  cases hp:r.parts with
  |nil=>rw[hp] at hp1;exact absurd hp1 Q1
  |cons x t=>have:=hpt x (by rw[hp];exact List.mem_cons_self ..);omega)
 obtain⟨bn,on,rfl,hcn⟩:=Qm3 hl.n Q3;obtain⟨bp,op,rfl,hcp⟩:=Qn9 hl.p Q3;have hC:J3 F r=J0 (Zq F r.names r.parts) 0 r.names.length:=by
  unfold J3;rw[hk];rfl
 have hse:=hs.each;obtain⟨C,hC'⟩:∃C,J3 F r=C:=⟨_,rfl⟩;rw[hC'] at hC ⊢;have HC:=Q2 hC;have HF:=Q2 hf;have HN:=Q2 hcn;have HP:=Q2 hcp;have HT:=Q2 hpt;have HSE:=Q2 hse;obtain⟨name,kind,bs,size,big,mn,mx,stop,count,elem,names,parts⟩:=r;simp only at hk hnp hp1 h12 HC HN HP HT HSE;subst hk;clear hf hl hr hs hC hC' hcn hcp hpt hse;simp only[ruC];go_enter Tryz.func36,Tryz.ntmps36;refine Qz (M:=[]) (W:=W) (N:=76) (E:=[Q0s,(1,.agg (Qrw:List Value).toArray)]) (O:=[]) ?_ mc3 QR;refine yq<|yr ?_;refine yB fun b2=>?_;refine yB fun b3=>?_;refine Qsb ?_;refine QK (ι:=Nat) (fun i=>i<=names.length/\J0 (Zq F names parts) i (names.length - i)=C) (fun i=>names.length - i) (fun i=>[Q1v,QnD,(6,.int .i64 (i:Int))]) QoH 0 [0,1] Q1 ⟨Nat.zero_le _,HC.out.symm⟩ Jf rfl ?_;rintro i ⟨hi,hfc⟩;have HI:=Q2 hfc;clear hfc;by_cases hin:i<names.length
 ·have hcn:=HN.out i hin;have hnl:=HSE.out (names.getD i []) (by rw[List.getD_eq_getElem?_getD,List.getElem?_eq_getElem hin];exact List.getElem_mem hin);obtain⟨nm,hnm⟩:∃nm,names.getD i []=nm:=⟨_,rfl⟩;rw[hnm] at hcn hnl;have HNM:=Q2 hnm;clear hnm
  by_cases he:nm=[]
  ·have htest:((⟨nm.toArray⟩:ByteArray).data.toList==(⟨#[]⟩:ByteArray).data.toList)=true:=by rw[he];rfl
   have hip:i<parts.length:=by omega
   have hcp:=HP.out i hip;have hxr:=HT.out (parts.getD i 0) (by rw[List.getD_eq_getElem?_getD,List.getElem?_eq_getElem hip];exact List.getElem_mem hip);obtain⟨x,hx⟩:∃x,parts.getD i 0=x:=⟨_,rfl⟩;rw[hx] at hcp hxr;obtain⟨rx,Ac,cc,Ad,cd,Ae,ce,hrx,hrg,_⟩:=HF.out.rl (i:=x.toNat) Q3
   have HV:=Q2 (show Zq F names parts i=if rx.kind≠1 then 13 else 0 by
    unfold Zq
    rw[HNM.out,he,hx,VT hrx]
    by_cases h1:rx.kind=1
    ·rw[h1];rfl
    ·rw[if_pos h1]
     show (if (rx.kind != 1)=true then (13:Int) else 0)=13
     rw[if_pos (bne_iff_ne.2 h1)])
   have HE:=Q2 he;clear he hrx hx;by_cases hx1:rx.kind=1
   ·refine Qqu ?_;refine Qe zR ?_;refine Qe znf ?_;refine JW ?_;refine yn<|y0<|ys<|yn<|ye<|yn<|yr<|yo zM<|yo zP<|yo zA<|yl ?_;refine Qt (i+1) [0,1] Q1 ⟨hin,?_⟩ Q3 Q5u rfl;rw[<- Q1n hin (by rw[HV.out,if_neg (fun h=>h hx1)])];exact HI.out
   ·refine Qqu ?_;refine Qe zR ?_;refine Qe znt ?_;refine JW ?_;refine yn<|y1<|yq<|yr<|yo zA<|yl<|yn<|yt<|yc<|yc<|yk<|yc<|yc<|yk<|yc ?_;refine Q7 mc4 rfl (.tmp rfl) (fun w hw=>Qr ?_ hw);have hv:=HV.out;rw[if_pos hx1] at hv;exact QjE
  ·have htest:((⟨nm.toArray⟩:ByteArray).data.toList==(⟨#[]⟩:ByteArray).data.toList)=false:=by
    cases nm with
    |nil=>exact absurd rfl he
    |cons=>rfl
   have HE:=Q2 (show (nm==([]:List UInt8))=false from beq_eq_false_iff_ne.2 he);clear he;obtain⟨t,ht⟩:∃t,QA nm=t:=⟨_,rfl⟩;have H1:=Q2 ht;clear ht;cases t with
   |false=>
    refine QqN ?_;refine yo zO<|yl<|yn<|y1<|yq<|yr<|yo zA<|yl<|yn<|yt<|yc<|yk<|yc<|yc<|yk<|yc ?_;refine Q7 mc4 rfl (.tmp rfl) (fun w hw=>Qr ?_ hw);have hv:Zq F names parts i=7:=by unfold Zq;rw[HNM.out,HE.out,H1.out];rfl
    exact QjE
   |true=>
    refine QqN ?_;refine yo zO<|yl<|yn<|y0<|ys<|yn<|yq<|yr<|yo zA<|yl<|yn<|yb ?_;refine QK (ι:=Nat) (fun k=>k<=i/\∀j,j<k->¬names.getD j []=nm) (fun k=>i - k) (fun k=>[Q1v,QnD,(6,.int .i64 (i:Int)),(7,.int .i64 (k:Int))]) QoH 0 [0,1] Q1 Q15 mc1 rfl ?_;rintro k ⟨hk,hno⟩;have HNO:=Q2 hno;clear hno;by_cases hki:k<i
    ·have hck:=HN.out k Q3
     have hkl:k<names.length:=by omega
     obtain⟨nk,hnk⟩:∃nm,names.getD k []=nm:=⟨_,rfl⟩;rw[hnk] at hck;have HNK:=Q2 hnk;clear hnk;by_cases heq:nk=nm
     ·have htest2:((⟨nk.toArray⟩:ByteArray).data.toList==(⟨nm.toArray⟩:ByteArray).data.toList)=true:=beq_iff_eq.2 heq;have HB:=Q2 (Qfd (l:=names) (i:=i) (x:=nm) ⟨k,hki,hkl,HNK.out.trans heq⟩);clear heq;refine Qow ?_;refine Qg3 ?_;refine Qg3 ?_;refine Qe zsa ?_;refine JW ?_;refine yn<|y1<|yq<|yr<|yo zA<|yl<|yn<|yt<|yk<|yc<|yc<|yk<|yk<|yc<|yc<|yk<|yc ?_;refine Q7 mc4 rfl (.tmp rfl) (fun w hw=>Qr ?_ hw)
      have hv:Zq F names parts i=8:=by unfold Zq;rw[HNM.out,HE.out,H1.out,HB.out];rfl
      exact QjE
     ·have htest2:((⟨nk.toArray⟩:ByteArray).data.toList==(⟨nm.toArray⟩:ByteArray).data.toList)=false:=beq_eq_false_iff_ne.2 heq;have HEQ:=Q2 heq;clear heq;refine Qow ?_;refine Qg3 ?_;refine Qg3 ?_;refine Qe zsa ?_;refine Qg7 ?_;refine Qt (k+1) [0,1] Q1 ⟨hki,fun j hj=>?_⟩ Q3 mc2 rfl
      rcases (show j<k\/j=k by omega) with h|rfl
      ·exact HNO.out j h
      ·rw[HNK.out];exact HEQ.out
    ·obtain rfl:k=i:=by omega
     have HB:=Q2 (Qfe (l:=names) (i:=k) (x:=nm) HNO.out);refine yq<|yq<|yr<|yo zM<|yo zM<|yo zlf<|yl<|yn<|y0<|ye<|yn<|yr<|yo zM<|yo zP<|yo zA<|yl ?_;refine Qt (k+1) [0,1] Q1 ⟨hin,?_⟩ Q3 Q5u rfl;rw[<- Q1n hin (by unfold Zq;rw[HNM.out,HE.out,H1.out,HB.out];rfl)];exact HI.out
 ·obtain rfl:i=names.length:=by omega
  refine yq<|yq<|yr<|yo zM<|yo zF<|yo (zB 0)<|yo zL<|yo zlf<|yl<|yn<|y0<|ye<|yn<|yq<|yr<|yo zA<|yl<|yn<|yt ?_;refine Q7 mc4 rfl (.tmp rfl) (fun w hw=>Qr ?_ hw);rw[<- HI.out,Nat.sub_self];rfl
theorem Qan(hf:QS W W.heap.size A n F)(hl:RuL W r Ab cb An cn Ap cp)(hr:ROk n r)(hs:RSm r):
  Calls Tryz.prog 36 #[.agg #[.slice A n c],.agg (ruC r (.slice Ab r.bs.length cb) (.slice An r.names.length cn) (.slice Ap r.parts.length cp)).toArray] W (Je W (J3 F r)):=by
 by_cases h7:r.kind=7
 ·exact QjQ hf hl hr hs h7
 ·have hnm:r.names=[]:=List.eq_nil_of_length_eq_zero (by
   have hfm:=Ji.1 hr.formed
   rcases hfm.2.2.2.2.2.2.2.1 with h|h
   ·omega
   ·exact absurd h h7)
  by_cases hk:r.kind=6\/r.kind=10
  ·exact QlS hf hr hk hnm
  ·exact Qmm hk h7 hnm
end
end
section
variable {r:Rl}
section
variable {A Ab An Ap:Option Addr}{n c cb cn cp:Nat}{W:World}
theorem Q4f(hl:RuL W r Ab cb An cn Ap cp)(hk:1<=r.kind/\r.kind<=10)(h7:r.kind=7->1<=r.parts.length)(h8:r.kind=8->1<=r.parts.length):
  Calls Tryz.prog 74 #[.agg (ruC r (.slice Ab r.bs.length cb) (.slice An r.names.length cn) (.slice Ap r.parts.length cp)).toArray] W (BgX W Ap r.parts.length (bl r)):=by
 obtain⟨name,kind,bs,size,big,mn,mx,stop,count,elem,names,parts⟩:=r;have hp:=hl.p;have hcp:=hl.cp;simp only[ruC] at hk h7 h8 hp hcp ⊢;clear hl;have HP:=Q2 hp;clear hp;by_cases k7:kind=7
 ·subst k7;have hp7:=h7 rfl;obtain⟨bp,op,rfl,_,hcell⟩:=HP.out.2 Q3;obtain⟨x,hx⟩:∃x,parts[0]? =some x:=⟨_,List.getElem?_eq_getElem Q3⟩;have hc0:W.cell? ⟨bp,op+0,none⟩=some (.int .i64 x):=hcell 0 _ (by show (iv parts)[0]? =_;unfold iv;rw[List.getElem?_map,hx];rfl)
  have hbl:bl ⟨name,7,bs,size,big,mn,mx,stop,count,elem,names,parts⟩=[x]:=by
   show parts.take 1=[x];cases parts with
   |nil=>cases hx
   |cons y t=>cases hx;rfl
  rw[hbl];have h0p:0<parts.length:=by omega
  clear hcell hbl hx;go_enter Tryz.func74,Tryz.ntmps74;refine Qz (M:=[]) (W:=W) (N:=33) (E:=[(0,.agg (Qk8:List Value).toArray)]) (O:=[]) ?_ Zl QR;repeat' (first|((with_reducible show lE _ _ _ _ _ _ _ _ _);first|refine Q4 zM ?_|refine Q4 zA ?_|refine Q4 zF ?_|refine Q4 (zB 0) ?_|refine Q4 zC ?_|refine yB fun br=>?_|refine Q4 (zi1 (j:=0) (hj:=h0p)) ?_|refine Qd (J4 (size:=1) (cs:=[.int .i64 x]) rfl rfl rfl rfl rfl Q1) rfl Q1 (fun bn _=>?_)|refine Qg ?_|refine Q4 zet ?_|refine Q4 zef ?_|refine Q4 zN ?_)|((with_reducible show sE _ _ _ _ _ _ _ _);first|refine Qa ?_|refine Q6 ?_|refine Qp ?_|refine Q9 rfl ?_|refine Q8 rfl ?_|refine QC ?_)|((with_reducible show xE _ _ _ _ _ _ _);first|refine Qb ?_|refine Qk ?_))
  exact Q7 mc4 rfl (.tmp rfl) (fun w hw=>Q2Z hw)
 by_cases k8:kind=8
 ·subst k8
  go_enter Tryz.func74,Tryz.ntmps74;refine Qz (M:=[]) (W:=W) (N:=33) (E:=[(0,.agg (Qr8:List Value).toArray)]) (O:=[]) ?_ Zl QR;repeat' (first|((with_reducible show lE _ _ _ _ _ _ _ _ _);first|refine Q4 zM ?_|refine Q4 zA ?_|refine Q4 zF ?_|refine Q4 (zB 0) ?_|refine yB fun br=>?_|refine Qg ?_|refine Q4 zet ?_|refine Q4 zef ?_|refine Q4 zN ?_)|((with_reducible show sE _ _ _ _ _ _ _ _);first|refine Qa ?_|refine Q6 ?_|refine Qp ?_|refine Q9 rfl ?_|refine Q8 rfl ?_|refine QC ?_)|((with_reducible show xE _ _ _ _ _ _ _);first|refine Qb ?_|refine Qk ?_))
  exact Q7 mc4 rfl (.tmp rfl) (fun w hw=>QhI HP.out (h8 rfl) hcp hw)
 rcases (show (kind=6\/kind=10)\/kind=9\/(kind=1\/kind=2\/kind=3\/kind=4\/kind=5) by omega) with (rfl|rfl)|rfl|(rfl|rfl|rfl|rfl|rfl)<;>
 ·clear k7 k8 h7 h8 hk
  go_enter Tryz.func74,Tryz.ntmps74;refine Qz (M:=[]) (W:=W) (N:=33) (E:=[(0,.agg ([.string ⟨name.toArray⟩,.int .i64 _,.slice Ab bs.length cb,.int .i64 size,.bool big,.int .i64 mn,.int .i64 mx,.int .i64 stop,.int .i64 count,.int .i64 elem,.slice An names.length cn,.slice Ap parts.length cp]:List Value).toArray)]) (O:=[]) ?_ (Ag.cons (Ag.nil rfl rfl) rfl) (Wd.start [] W);repeat' (first|((with_reducible show lE _ _ _ _ _ _ _ _ _);first|refine Q4 zM ?_|refine Q4 zA ?_|refine Q4 zF ?_|refine Q4 zS ?_|refine Q4 (zB 0) ?_|refine yB fun br=>?_|refine Qd (J4 (size:=1) (cs:=[.int .i64 count]) rfl rfl rfl rfl rfl Q1) rfl Q1 (fun bn _=>?_)|refine Qd (J4 (size:=1) (cs:=[.int .i64 elem]) rfl rfl rfl rfl rfl Q1) rfl Q1 (fun bn _=>?_)|refine Qg ?_|refine Q4 zet ?_|refine Q4 zef ?_|refine Q4 zY ?_|refine Q4 zN ?_)|((with_reducible show sE _ _ _ _ _ _ _ _);first|refine Qa ?_|refine Q6 ?_|refine Qp ?_|refine Q9 rfl ?_|refine Q8 rfl ?_|refine QC ?_)|((with_reducible show xE _ _ _ _ _ _ _);first|refine Qb ?_|refine Qk ?_))
  first|exact Q7 (by exact .inr rfl) rfl (.tmp rfl) (fun w hw=>Q2Z hw)|exact Q7 (by exact .inr rfl) rfl (.tmp rfl) (fun w hw=>Q1a hw)
theorem Q8n{w:World}{O:List Qf}(hl:RuL W r Ab cb An cn Ap cp)(hr:ROk n r)(hw:Wd [] W O w):
  Calls Tryz.prog 74 #[.agg (ruC r (.slice Ab r.bs.length cb) (.slice An r.names.length cn) (.slice Ap r.parts.length cp)).toArray] w (X7 (fun y:Option Addr×Nat=>.slice y.1 (bl r).length y.2) (fun y=>(bl r).length<=y.2) [] W (fun y=>.rd y.1 (bl r).length 1 (iv (bl r))::O)):=by
 refine(Q4f (hl.on hw.k.below) hr.kind (fun h=>(hr.seven h).2) (fun h=>by have:=hr.eight h;omega)).mono ?_;rintro e w' ⟨A,m,c,rfl,h1,h2,h3,h4,h5⟩;have hm:(bl r).length=m:=by have:=h1.len;rw[Q0o] at this;exact this
 subst hm;refine⟨(A,c),rfl,h2,(hw.on h3).rd_far hw h1 (fun b o e hn=>?_)⟩;rcases h4 b o e hn with h|⟨⟨o',h⟩,h0⟩
 ·exact .inl h
 ·right
  exact Qnf
def Yo(F:List Rl)(k t:Nat):List Bool:=iter (ZR F k) t (List.replicate F.length false)
def YM(F:List Rl)(k t i:Nat):List Bool:=(List.range i).foldl (ZA F k) (Yo F k t)
theorem Qkx(a:List Bool)(l:List Nat):(Q5J a l).length=a.length:=(Qhr a l).1.symm
theorem QfF(F:List Rl)(k t:Nat):(Yo F k t).length=F.length:=by
 have:=(Q18 (V8 F k) Q9o t).1;exact QdK
theorem Qf6(F:List Rl)(k t i:Nat):(YM F k t i).length=F.length:=by
 have:=(Vi (Kx F k) (List.range i) (Yo F k t)).1;rw[QfF] at this;exact this.symm
theorem Qbz(F:List Rl)(k t i:Nat):YM F k t (i+1)=ZA F k (YM F k t i) i:=by
 unfold YM;rw[List.range_succ,List.foldl_append];rfl
theorem QhP{a:List Bool}{l:List Nat}{j x:Nat}(h:l[j]? =some x):Q5J a (l.take (j+1))=(Q5J a (l.take j)).set x true:=by
 rw[List.take_add_one,h];unfold Q5J;rw[List.foldl_append];rfl
end
end
section
variable {old:List Int}
theorem QgG{old:List Int}(h:∀j:Nat,-1<=old.getD j 0/\old.getD j 0<=1001):∀(l:List Int) (n:Int),-1<=n->n<=1001->-1<=Q3l old n l/\Q3l old n l<=1001
 |[],n,h1,h2=>⟨h1,h2⟩
 |x::l,n,h1,h2=>by
  rw[Q8K];have hx:=h x.toNat;have e:lk old x=old.getD x.toNat 0:=rfl;rw[<- e] at hx
  generalize lk old x=X at hx ⊢;apply QgG h l<;>·rw[Vc];split<;>split<;>omega
theorem QfR{old:List Int}(h:∀j:Nat,-1<=old.getD j 0/\old.getD j 0<=1001):∀(l:List Int) (n:Int),-1<=n->n<=1001->-1<=Q5C old n l/\Q5C old n l<=1001
 |[],n,h1,h2=>⟨h1,h2⟩
 |x::l,n,h1,h2=>by
  rw[Q9g];have hx:=h x.toNat;have e:lk old x=old.getD x.toNat 0:=rfl;rw[<- e] at hx
  generalize lk old x=X at hx ⊢;apply QfR h l<;>·split<;>omega
theorem QoW{F:List Rl}(hu:Usd F)(h:∀j:Nat,-1<=old.getD j 0/\old.getD j 0<=1001){i:Nat}{r:Rl}(hr:F[i]? =some r):-1<=YN F old r/\YN F old r<=1001:=by
 have ho:=hu.ok i r hr;have h16:=ho.bs16;have h4:=ho.size4;have h2:=ho.num;have hl:=hu.least hr;have hcx:=h r.count.toNat;have hex:=h r.elem.toNat;have e1:lk old r.count=old.getD r.count.toNat 0:=rfl;have e2:lk old r.elem=old.getD r.elem.toNat 0:=rfl;rw[<- e1] at hcx;rw[<- e2] at hex;generalize hX:lk old r.count=X at hcx;generalize hY:lk old r.elem=Y at hex;unfold YN;rw[hX,hY];generalize hL:KD F r.count=L at hl;split
 ·omega
 ·split
  ·next hk=>
   rcases hk with hk|hk
   ·have:=h2 hk;omega
   ·have:=h4 hk;omega
  ·split
   ·omega
   ·split
    ·omega
    ·split
     ·next hk=>
      have hL':=hl (.inl hk);split
      ·exact hcx
      ·split
       ·next hk2=>
        have hm:=Int.mul_nonneg (show 0<=L by omega) hk2.2;rw[Vc];omega
       ·omega
     ·split
      ·next hk=>
       have hL':=hl (.inr hk);split
       ·rw[Vc];omega
       ·omega
      ·split
       ·exact QgG h _ _ Q1 Q1
       ·split
        ·exact QfR h _ _ Q1 Q1
        ·omega
theorem Qim{F:List Rl}(hu:Usd F)(h:∀j:Nat,-1<=old.getD j 0/\old.getD j 0<=1001)(j:Nat):-1<=(Ya F old).getD j 0/\(Ya F old).getD j 0<=1001:=by
 rcases hj:F[j]? with _|r
 ·unfold Ya
  rw[List.getD_eq_getElem?_getD,List.getElem?_map,hj];show -1<=(0:Int)/\(0:Int)<=1001;decide
 ·rw[Q62 hj];exact QoW hu h hj
theorem Q8E{F:List Rl}(hu:Usd F):∀(t j:Nat),-1<=(V5 F t).getD j 0/\(V5 F t).getD j 0<=1001
 |0,j=>by
  show -1<=(List.replicate F.length (-1:Int)).getD j 0/\(List.replicate F.length (-1:Int)).getD j 0<=1001
  rw[List.getD_eq_getElem?_getD,List.getElem?_replicate]
  split<;>exact⟨by decide,by decide⟩
 |t+1,j=>Qim hu (Q8E hu t) j
theorem Q6m.wdn{W w w':World}{O:List Qf}{l:List Int}{n:Nat}{e:Ending}(h:Q6m w l e w')(hl:l.length=n)(hw:Wd [] W O w):X7 (fun y:Option Addr×Nat=>.slice y.1 n y.2) (fun _=>True) [] W (fun y=>.row y.1 n y.2 3 1 (iv l)::O) e w':=hl▸h.wd hw
theorem Qo2(i:Nat):iv (List.replicate i (-1))++[.int .i64 (-1)]=iv (List.replicate (i+1) (-1)):=by
 rw[Q3s];congr 1;exact List.replicate_succ'.symm
section
variable {A:Option Addr}{n c:Nat}{W:World}{F:List Rl}
theorem Q82(hf:QS W W.heap.size A n F)(hu:Usd F)(hn:n<=40)(hn0:0<n):
  Calls Tryz.prog 38 #[.agg #[.slice A n c]] W (Q6m W (JY F)):=by
 have hlen:F.length=n:=hf.1;obtain⟨b,o,rfl⟩:=hf.addr Q3;have HFM:=Q2 hf;have HU:=Q2 hu;have HLEN:=Q2 hlen;clear hf hu hlen;go_enter Tryz.func38,Tryz.ntmps38;refine Qz (M:=[]) (W:=W) (N:=28) (E:=[Q0s]) (O:=[]) ?_ Zl QR;refine yq<|yr ?_;refine yB fun b1=>?_;refine Qof ?_;refine Q16 3 1 ?_;refine Xu (ι:=Nat×Option Addr×Nat) (fun y=>y.1<=n) (fun y=>n - y.1) (fun y=>[Yp,(3,.slice y.2.1 y.1 y.2.2),(4,.int .i64 (y.1:Int))]) (fun y=>[.row y.2.1 y.1 y.2.2 3 1 (iv (List.replicate y.1 (-1))),.blk b1 Q1s]) (0,none,0) Z4 Jf Zc ?_;rintro⟨i,A1,c1⟩ hi;replace hi:i<=n:=hi;show sE _ _ _ _ _ [Yp,(3,.slice A1 i c1),VB] [.row A1 i c1 3 1 (iv (List.replicate i (-1))),.blk b1 Q1s] _;by_cases hin:i<n
 ·refine yq<|yq<|yr<|yo zM<|yo zF<|yo (zB 1)<|yo zL<|yo zlt<|yl<|yn<|y1<|ys<|yn<|yq<|yb<|yr<|yo zM ?_;refine Qd (J4 (size:=1) rfl rfl rfl rfl rfl Q1) rfl Q1 (fun bn _=>?_);refine Qd (Zt 1 rfl rfl rfl rfl rfl Q84 Qen Q3) rfl Q1 (fun z _=>?_);refine yo zA<|yl<|yn<|yr<|yo zM<|yo zP<|yo zA<|yl ?_;refine Qx (i+1,z.1,z.2) hin (by show n - (i+1)<n - i;omega) (.cons rfl rfl (.cons rfl rfl (.cons rfl (by go_num) .nil))) (fun w hw=>?_)
  show Wd [] W [.row z.1 (i+1) z.2 3 1 (iv (List.replicate (i+1) (-1))),_] w;rw[<- Qo2];exact hw.tl
 ·obtain rfl:i=n:=by omega
  refine QoA ?_;refine Xu (ι:=Nat×Option Addr×Nat) (fun y=>y.1<=2*i+1) (fun y=>2*i+1 - y.1) (fun y=>[Yp,(3,.slice y.2.1 i y.2.2),(5,.int .i64 (y.1:Int))]) (fun y=>[.row y.2.1 i y.2.2 3 1 (iv (V5 F y.1)),.blk b1 QqF]) (0,A1,c1) Z4 Jf (fun w hw=>by rw[<- HLEN.out] at hw ⊢;exact hw) ?_;rintro⟨k,A2,c2⟩ hk;replace hk:k<=2*i+1:=hk;show sE _ _ _ _ _ [Yp,(3,.slice A2 i c2),(5,.int .i64 (k:Int))] [.row A2 i c2 3 1 (iv (V5 F k)),.blk b1 QqF] _;by_cases hkn:k<=2*i
  ·refine yq<|yq<|yr<|yo zM<|yo zF<|yo (zB 1)<|yo zL ?_;refine Q4 (Qrc (k:=.i64) rfl rfl Q1 rfl rfl rfl (IntWalk.i64_in _ Q3)) ?_;refine yo zqt<|yl<|yn<|y1<|ys<|yn<|yq<|yb<|yr<|yo (zD 1)<|yo zM ?_;refine Qd (QY (f:=75) (fun y:Option Addr×Nat=>.slice y.1 i y.2) (fun _=>True) (fun y=>[.row y.1 i y.2 3 1 (iv (V5 F (k+1))),.row A2 i c2 3 1 (iv (V5 F k)),.blk b1 (.cells ([.slice (some ⟨b,o,none⟩) i c]:List Value).toArray 24 (0,0))]) rfl rfl rfl (fun w hw=>(Qbx (W:=w) (HFM.out.on hw.k.below) HU.out hn (Rd.of_own (hw.own 0 _ rfl)) (Q8E HU.out k) hn0).mono fun _ _ h=>h.wdn (by rw[Q2h];exact HLEN.out) hw)) rfl Q1 (fun z _=>?_);refine yo zA<|yl<|yn<|yr<|yo zM<|yo zP<|yo zA<|yl ?_;refine Qx (k+1,z.1,z.2) (by show k+1<=2*i+1;omega) (by show 2*i+1 - (k+1)<2*i+1 - k;omega) (.cons rfl rfl (.cons rfl rfl (.cons rfl (by go_num) .nil))) (fun w hw=>hw.no2)
  ·obtain rfl:k=2*i+1:=by omega
   refine yq<|yq<|yr<|yo zM<|yo zF<|yo (zB 1)<|yo zL ?_;refine Q4 Qi7 ?_;refine yo zqf<|yl<|yn<|y0<|ye<|yn<|yq<|yr<|yo zM<|yo zA<|yl<|yn<|yt ?_;refine Q7 mc4 rfl (.tmp rfl) (fun w hw=>?_);have h:V5 F (2*i+1)=JY F:=by unfold JY;rw[HLEN.out]
   have hw2:Wd [] W [.row A2 i c2 3 1 (iv (V5 F (2*i+1))),.blk b1 (.cells ([.slice (some ⟨b,o,none⟩) i c]:List Value).toArray 24 (0,0))] w:=hw;rw[h] at hw2;exact QnY (by unfold JY;rw[Jd];exact HLEN.out) hw2
end
end
section
variable {E:Env}{N:Nat}{ops:Array Oper}
theorem Qna(c i:Int)(w:World):Calls Tryz.prog 20 #[.int .i64 c,.int .i64 i] w fun e w'=>e=.returned (.agg #[.int .i64 c,.int .i64 i])/\Below w.heap.size w w':=
 (Km c i w).mono fun _ _ h=>⟨h.1,h.2▸JN _ _⟩
theorem Qvp{C:World->Prop}{o:Oper}{d:Nat}{x:Operand}{A:Option Addr}{n c:Nat}{bs:List UInt8}(ho:o.op=.convert 25 9 x)(hd:o.dst=some d)(hN:d<N)(hw:Qo ops E o=some true)(hx:ev E x=some (.slice A n c))(hr:∀w,C w->Rd w w.heap.size 1 A n (bv bs)):oE Tryz.prog ops C N E ((d,.string ⟨bs.toArray⟩)::E) o:=
 Xi hd hN hw fun ρ w ha hc=>by
  have h:=Qaz (c:=c) (hr w hc);simp only[execOp,ho,ha.eval hx,Sem.run_bind,h,Result.andThen_ok];rfl
end
section
variable {m n q:Int}{r:List UInt8}{t t':TypeId}{x y:Operand}
section
variable {P:Program}{ops:Array Oper}{C:World->Prop}{N:Nat}{E:Env}{o:Oper}{d:Nat}
theorem X5{a b:List UInt8}(hr:a++b=r)(ho:o.op=.binOp .add t x y t')(hd:o.dst=some d)(hN:d<N)(hw:Qo ops E o=some true)(hx:ev E x=some (.string ⟨a.toArray⟩))(hy:ev E y=some (.string ⟨b.toArray⟩))(h:a.length+b.length<=9223372036854775807):oE P ops C N E ((d,.string ⟨r.toArray⟩)::E) o:=by
 subst hr;have:=QdL (P:=P) (ops:=ops) (C:=C) (N:=N) ho hd hN hw hx hy (by rw[V9,V9];exact h);rw[Q2n] at this;exact this
theorem QfD(hq:m / n=q)(hm:0<=m/\m<=9223372036854775807)(hn:1<=n)(ho:o.op=.binOp .quo t x y t')(hd:o.dst=some d)(hN:d<N)(hw:Qo ops E o=some true)(hx:ev E x=some (.int .i64 m))(hy:ev E y=some (.int .i64 n)):oE P ops C N E ((d,.int .i64 q)::E) o:=hq▸KC hm hn ho hd hN hw hx hy
theorem QjK(hq:m % n=q)(hm:0<=m/\m<=9223372036854775807)(hn:1<=n)(ho:o.op=.binOp .rem t x y t')(hd:o.dst=some d)(hN:d<N)(hw:Qo ops E o=some true)(hx:ev E x=some (.int .i64 m))(hy:ev E y=some (.int .i64 n)):oE P ops C N E ((d,.int .i64 q)::E) o:=hq▸Qfp hm hn ho hd hN hw hx hy
theorem Qgn{lo hi:Operand}{s:ByteArray}{k k':IntKind}{l h:Int}{l' h':Nat}(hr:s.extract l' h'=⟨r.toArray⟩)(ht:P.underlying t=some .string)(ho:o.op=.slice t x (some lo) (some hi) none)(hd:o.dst=some d)(hN:d<N)(hw:Qo ops E o=some true)(hx:ev E x=some (.string s))(hl:ev E lo=some (.int k l))(hh:ev E hi=some (.int k' h))(el:l=(l':Int))(eh:h=(h':Int))(h1:l'<=h')(h2:h'<=s.size):oE P ops C N E ((d,.string ⟨r.toArray⟩)::E) o:=by
 subst el eh;exact hr▸Qkw ht ho hd hN hw hx hl hh h1 h2
end
theorem Qw3{k:Nat}(hk:k<10)(w:World):Calls Tryz.prog 77 #[.int .i64 (((k+1:Nat)):Int)] w fun e w'=>e=.returned (.string ⟨(JP ((k+1:Nat):Int)).toArray⟩)/\Below w.heap.size w w':=by
 rcases (show k=0\/k=1\/k=2\/k=3\/k=4\/k=5\/k=6\/k=7\/k=8\/k=9 by omega) with rfl|rfl|rfl|rfl|rfl|rfl|rfl|rfl|rfl|rfl<;>
 ·go_enter Tryz.func77,Tryz.ntmps77
  go_wp2_with fail
  exact Q2l
theorem QeF{k:Int}(hk:1<=k/\k<=10)(w:World):Calls Tryz.prog 77 #[.int .i64 k] w fun e w'=>e=.returned (.string ⟨(JP k).toArray⟩)/\Below w.heap.size w w':=by
 obtain⟨j,rfl⟩:∃j:Nat,k=((j+1:Nat):Int):=⟨(k - 1).toNat,by omega⟩;exact Qw3 Q3 w
theorem Qmw(q:Nat)(h:q<16):(⟨#[48,49,50,51,52,53,54,55,56,57,97,98,99,100,101,102]⟩:ByteArray).extract q (q+1)=⟨([hx q]:List UInt8).toArray⟩:=by
 rcases (show q=0\/q=1\/q=2\/q=3\/q=4\/q=5\/q=6\/q=7\/q=8\/q=9\/q=10\/q=11\/q=12\/q=13\/q=14\/q=15 by omega) with rfl|rfl|rfl|rfl|rfl|rfl|rfl|rfl|rfl|rfl|rfl|rfl|rfl|rfl|rfl|rfl<;>decide
theorem QhU(c:UInt8)(W:World):Calls Tryz.prog 78 #[.int .i64 (c.toNat:Int)] W fun e w'=>e=.returned (.string ⟨(Qca c).toArray⟩)/\Below W.heap.size W w':=by
 have hc:=c.toNat_lt;have hq:((c.toNat:Int) / 16)=((c.toNat / 16:Nat):Int):=by omega
 have hr:((c.toNat:Int) % 16)=((c.toNat % 16:Nat):Int):=by omega
 have h1:=Qmw (c.toNat / 16) Q3;have h2:=Qmw (c.toNat % 16) Q3;have hd1:c.toNat / 16<16:=by omega
 have hd2:c.toNat % 16<16:=by omega
 unfold Qca;obtain⟨m,hm⟩:∃m,c.toNat=m:=⟨_,rfl⟩;rw[hm] at hq hr h1 h2 hc hd1 hd2 ⊢;obtain⟨q,hq'⟩:∃q,m / 16=q:=⟨_,rfl⟩;obtain⟨r,hr'⟩:∃q,m % 16=q:=⟨_,rfl⟩;rw[hq'] at hq h1 hd1 ⊢;rw[hr'] at hr h2 hd2 ⊢;have H1:=Q2 h1;have H2:=Q2 h2;clear hm hq' hr' h1 h2;go_enter Tryz.func78,Tryz.ntmps78;refine Qz (M:=[]) (W:=W) (N:=16) (E:=[(0,.int .i64 (m:Int))]) (O:=[]) ?_ Zl QR;refine yq<|yr<|yo zA<|yl<|yn<|yq<|Xm Q5 Q5 ?_;refine Qe zM ?_;refine Qe Ql6 ?_;refine Qe zM ?_;refine Qe Ql6 ?_;refine Qe zP ?_;refine Qe (Qgn H1.out Tryz.underlying9 rfl rfl Q1 rfl rfl rfl rfl rfl Q3 Q3 (by show _<=16;omega)) ?_;refine Qe zM ?_;refine Qe QkB ?_;refine Qe zM ?_;refine Qe QkB ?_;refine Qe zP ?_;refine Qe (Qgn H2.out Tryz.underlying9 rfl rfl Q1 rfl rfl rfl rfl rfl Q3 Q3 (by show _<=16;omega)) ?_;refine Qe (X5 (r:=[hx q,hx r]) rfl rfl rfl Q1 rfl rfl rfl (by simp only[List.length_cons,List.length_nil];omega)) ?_;refine Q05 ?_;refine yn<|yt ?_;exact Q5g
def Qum(n:Nat)(y:Nat×List UInt8):Prop:=y.2.length+y.1<=n+1/\((y.2=[]/\y.1=n)\/(y.2≠[]/\(if y.1=0 then y.2 else Lib.decDigits y.1++y.2)=Lib.decDigits n))
def dgc(m:Nat):UInt8:=UInt8.ofNat (48+m % 10)
theorem Q8R{n m:Nat}{s:List UInt8}(h:Qum n (m,s))(hg:s=[]\/0<m):Qum n (m / 10,dgc m::s):=by
 obtain⟨h1,h2⟩:=h;simp only at h1 h2;have hl:(dgc m::s).length+m / 10<=n+1:=by
  rw[List.length_cons];rcases hg with rfl|hg
  ·rw[List.length_nil] at h1 ⊢
   omega
  ·omega
 refine⟨hl,.inr ⟨List.cons_ne_nil _ _,?_⟩⟩;show (if m / 10=0 then dgc m::s else Lib.decDigits (m / 10)++dgc m::s)=_;have hd:(if m / 10=0 then dgc m::s else Lib.decDigits (m / 10)++dgc m::s)=Lib.decDigits m++s:=by
  rw[Lib.decDigits.eq_def m];split
  ·next h=>rw[dif_pos Q3];unfold dgc;rw[Nat.mod_eq_of_lt Q3];rfl
  ·next h=>rw[dif_neg Q3];unfold dgc;simp
 rw[hd];rcases h2 with ⟨rfl,rfl⟩|⟨h3,h4⟩
 ·rw[List.append_nil]
 ·rcases hg with rfl|hg
  ·exact absurd rfl h3
  ·rw[if_neg Q3] at h4;exact h4
theorem Ql0(m:Nat)(k:IntKind)(hk:k=.u8):k.wrap (48+(m:Int) % 10)=((dgc m).toNat:Int):=by
 subst hk;have h:(dgc m).toNat=48+m % 10:=by
  unfold dgc;rw[UInt8.toNat_ofNat'];omega
 rw[h];have h2:IntKind.u8.wrap (48+(m:Int) % 10)=48+(m:Int) % 10:=by
  exact IntWalk.u8_in _ Q3
 rw[h2];omega
theorem Q1P{n:Nat}(hn:n<=1000000000000000000)(W:World):Calls Tryz.prog 79 #[.int .i64 (n:Int)] W fun e w'=>e=.returned (.string ⟨(Lib.itoa (n:Int)).toArray⟩)/\Below W.heap.size W w':=by
 rw[Lib.itoa_nonneg n];go_enter Tryz.func79,Tryz.ntmps79;refine Qz (M:=[]) (W:=W) (N:=29) (E:=[(0,.int .i64 (n:Int))]) (O:=[]) ?_ Zl QR;refine yq<|yr<|yo zA<|yl<|yn<|yq<|yq<|yr<|yo zM<|yo zlf<|yl<|yn<|y0<|ys<|yn<|yq<|yr<|yo zA<|yl<|yn<|yq<|yb ?_;refine QK (ι:=Nat×List UInt8) (Qum n) (fun y=>y.1+(if y.2=[] then 1 else 0)) (fun y=>[(0,.int .i64 (y.1:Int)),(3,.string ⟨y.2.toArray⟩)]) (fun _=>[]) (n,[]) [] Q1 ⟨by show 0+n<=n+1;omega,.inl ⟨rfl,rfl⟩⟩ Q6G rfl ?_;rintro⟨m,s⟩ hP;have hlen:s.length+m<=n+1:=hP.1;show sE _ _ _ _ _ [(0,.int .i64 (m:Int)),(3,.string ⟨s.toArray⟩)] [] _;have HP:=Q2 hP;clear hP;have hq:(m:Int) / 10=((m / 10:Nat):Int):=by omega
 by_cases hs:s=[]
 ·have htest:((⟨s.toArray⟩:ByteArray).data.toList==(⟨#[]⟩:ByteArray).data.toList)=true:=by rw[hs];rfl
  have HS:=Q2 hs;clear hs;refine yq<|yq<|yr<|yo zM<|yo zsa<|yo zM<|yo zS<|yo zS<|yo zY<|yl<|yn<|y1<|ys<|yn<|yb<|yq<|yr<|yo zM ?_;refine QqG ?_;refine Qd Qsj rfl Q1 (fun b22 _=>?_);refine QqI ?_;refine Qt (m / 10,dgc m::s) [] Q1 (Q8R HP.out (.inl HS.out)) ?_ Q6G rfl;show m / 10+0<m+_;rw[if_pos HS.out];omega
 ·have htest:((⟨s.toArray⟩:ByteArray).data.toList==(⟨#[]⟩:ByteArray).data.toList)=false:=by
   cases s with
   |nil=>exact absurd rfl hs
   |cons=>rfl
  have HS:=Q2 hs;clear hs;by_cases hm:0<m
  ·refine yq<|yq<|yr<|yo zM<|yo zsa<|yo zM<|yo zM<|yo zgt<|yo zN<|yl<|yn<|y1<|ys<|yn<|yb<|yq<|yr<|yo zM ?_;refine QqG ?_;refine Qd Qsj rfl Q1 (fun b22 _=>?_);refine QqI ?_;refine Qt (m / 10,dgc m::s) [] Q1 (Q8R HP.out (.inr hm)) ?_ Q6G rfl
   show m / 10+0<m+_;omega
  ·refine yq<|yq<|yr<|yo zM<|yo zsa<|yo zM<|yo zM<|yo zgf<|yo zN<|yl<|yn<|y0<|ye<|yn<|yq<|yr<|yo zM<|yo zA<|yl<|yn<|yt ?_;refine Q7 mc4 rfl (.tmp rfl) (fun w hw=>⟨?_,hw.k.below⟩);obtain⟨h1,h2|⟨h2,h3⟩⟩:=HP.out
   ·exact absurd h2.1 HS.out
   ·rw[if_pos (show m=0 by omega)] at h3;have h4:s=Lib.decDigits n:=h3;rw[<- h4]
theorem JG(hn:0<=n/\n<=1000000000000000000)(W:World):Calls Tryz.prog 79 #[.int .i64 n] W fun e w'=>e=.returned (.string ⟨(Lib.itoa n).toArray⟩)/\Below W.heap.size W w':=by
 obtain⟨m,rfl⟩:∃m:Nat,n=(m:Int):=QdH;exact Q1P Q3 W
end
section
variable {A:Option Addr}{n c k:Nat}{W w:World}{O:List Qf}{F:List Rl}
theorem Q6R(hf:QS W W.heap.size A n F)(hF:FOk F)(hn:n<=40)(hk:k<n)(hw:Wd [] W O w):
  Calls Tryz.prog 37 #[.agg #[.slice A n c],.int .i64 (k:Int)] w (X7 (fun b:Nat=>.slice (some ⟨b,0,none⟩) n n) (fun _=>True) [] W (fun b=>.row (some ⟨b,0,none⟩) n n 4 1 (XN (ZE F k))::O)):=by
 have hlen:F.length=n:=hf.1;obtain⟨b,o,rfl⟩:=hf.addr Q3;have HFM:=Q2 hf;have HF:=Q2 hF;have HLEN:=Q2 hlen;clear hf hF hlen;go_enter Tryz.func37,Tryz.ntmps37;refine Qz (M:=[]) (W:=W) (N:=57) (E:=[Q0s,Q0H]) (O:=O) ?_ mc3 hw;refine yq<|yr ?_;refine yB fun b2=>?_;refine yo zA<|yl<|yn<|yq<|yr<|yo zF<|yo (zB 0)<|yo zL ?_;refine Qd Ql5 rfl Q1 (fun bs _=>?_);refine Q7f ?_;refine Xu (ι:=Nat) (fun t=>t<=n+1) (fun t=>n+1 - t) (fun t=>[Q0H,Q1v,Q8I,Q9D]) (fun t=>.row VC n n 4 1 (XN (Yo F k t))::.blk b2 Q1s::O) 0 Z4 mc1 (fun w hw=>by rw[QgP] at hw;rw[show Yo F k 0=List.replicate n false from by unfold Yo;rw[HLEN.out];rfl];exact hw) ?_;intro t ht;show sE _ _ _ _ _ [Q0H,Q1v,Q8I,Q9D] (.row VC n n 4 1 (XN (Yo F k t))::.blk b2 Q1s::O) _;by_cases htn:t<=n
 ·refine yq<|yq<|yr<|yo zM<|yo zF<|yo (zB 1)<|yo zL<|yo zqt<|yl<|yn<|y1<|ys<|yn<|yq<|yb<|yq<|yr<|yo zA<|yl<|yn<|yb ?_;refine Xu (ι:=Nat) (fun i=>i<=n) (fun i=>n - i) (fun i=>[Q0H,Q1v,Q8I,Q9D,(7,.int .i64 (i:Int))]) (fun i=>.row VC n n 4 1 (XN (YM F k t i))::.blk b2 Q1s::O) 0 Z4 Vg Zc ?_;intro i hi
  show sE _ _ _ _ _ [Q0H,Q1v,Q8I,Q9D,(7,.int .i64 (i:Int))] (.row VC n n 4 1 (XN (YM F k t i))::.blk b2 Q1s::O) _;by_cases hin:i<n
  ·obtain⟨rk,Ab,cb,An,cn,Ap,cp,hrk,hrg,hlk⟩:=HFM.out.rl hin;have HOK:=Q2 (HF.out i rk hrk);have HBG:=Q2 (Q4Z hrk);have HLK:=Q2 hlk
   have hil:(YM F k t i).length=n:=by rw[Qf6];exact HLEN.out
   have hstep:=Qbz F k t i;unfold ZA at hstep;rw[HBG.out] at hstep;have hbl:=Q7M HOK.out;have HIN:=Q2 (Q9j HOK.out);generalize YM F k t i=out at hil hstep ⊢;have hcell:(XN out)[0+i]? =some (.bool (out.getD i false)):=by rw[Nat.zero_add];exact Y7 Q3
   clear hrk hlk;by_cases hgo:i=k\/out.getD i false=true
   ·rw[if_pos hgo] at hstep;have HST:=Q2 hstep;clear hstep
    have hgo':i=k\/(i≠k/\out.getD i false=true):=by
     by_cases h:i=k
     ·exact .inl h
     ·exact .inr ⟨h,hgo.resolve_left h⟩
    clear hgo;rcases hgo' with he|⟨he,hb⟩<;>
    ·(try rw[hb] at hcell)
     refine Q2f ?_
     refine yo zM<|yo zF<|yo (zB 1)<|yo zL<|yo zlt<|yl ?_;refine QgF ?_
     refine yo zM<|yo zM ?_;refine Q4 (Q0B rfl rfl Q1 rfl rfl rfl (by first|exact bne_iff_ne.2 Q3|exact bne_eq_false_iff_eq.2 Q3)) ?_;refine yo zM ?_;first|refine Q4 zM ?_|refine Q4 zS ?_
     first|refine Q4 zM ?_|refine Q4 zS ?_
     first|refine Q4 Q4b ?_|refine Q4 zS ?_
     first|refine Q4 (zK 0 hcell) ?_|refine Q4 zS ?_
     first|refine Q4 zO ?_|refine Q4 zS ?_
     first|refine Q4 zY ?_|refine Q4 zN ?_
     refine yl ?_;refine QoR ?_
     refine yo zF<|yo (zB 1)<|yo zM<|yo (zi (hj:=hin)) ?_;refine Q4 (X4 rfl rfl Q1 rfl rfl (fun w hw=>hw.range_old hrg Qn) (by rfl)) ?_;refine Qd (QY _ _ _ (f:=74) rfl rfl rfl (fun w hw=>Q8n (n:=F.length) HLK.out HOK.out hw)) rfl Q1 (fun y hy=>?_);refine yo zA<|yl ?_;refine Qmx ?_
     refine yo zA<|yl ?_;repeat(first|((with_reducible show sE _ _ _ _ _ _ _ _);refine Qi ?_)|((with_reducible show xE _ _ _ _ _ _ _);refine Qb ?_))
     refine Xu (ι:=Nat) (fun j=>j<=(bl rk).length) (fun j=>(bl rk).length - j) (fun j=>[(1,.int .i64 (k:Int)),(2,.pointer (some ⟨b2,0,none⟩)),(5,.slice (some ⟨bs,0,none⟩) n n),(6,.int .i64 (t:Int)),(7,.int .i64 (i:Int)),(8,.slice y.1 (bl rk).length y.2),(9,.int .i64 (j:Int))]) (fun j=>.rd y.1 (bl rk).length 1 (iv (bl rk))::.row (some ⟨bs,0,none⟩) n n 4 1 (XN (Q5J out (((bl rk).map Int.toNat).take j)))::.blk b2 (.cells ([.slice (some ⟨b,o,none⟩) n c]:List Value).toArray 24 (0,0))::O) 0 (Nat.zero_le _) (.cons rfl rfl (.cons rfl rfl (.cons rfl rfl (.cons rfl rfl (.cons rfl rfl (.cons rfl rfl (.cons rfl rfl .nil))))))) (fun w hw=>hw) ?_;intro j hj;show sE _ _ _ _ _ [(1,.int .i64 (k:Int)),(2,.pointer (some ⟨b2,0,none⟩)),(5,.slice (some ⟨bs,0,none⟩) n n),(6,.int .i64 (t:Int)),(7,.int .i64 (i:Int)),(8,.slice y.1 (bl rk).length y.2),(9,.int .i64 (j:Int))] (.rd y.1 (bl rk).length 1 (iv (bl rk))::.row (some ⟨bs,0,none⟩) n n 4 1 (XN (Q5J out (((bl rk).map Int.toNat).take j)))::.blk b2 (.cells ([.slice (some ⟨b,o,none⟩) n c]:List Value).toArray 24 (0,0))::O) _;by_cases hjl:j<(bl rk).length
     ·obtain⟨x,hx⟩:∃x,(bl rk)[j]? =some x:=⟨_,List.getElem?_eq_getElem hjl⟩
      have hx0:0<=x/\x<(n:Int):=by
       have:=HIN.out x Q07;rw[HLEN.out] at this;exact this
      have hxc:(iv (bl rk))[j]? =some (.int .i64 x):=by unfold iv;rw[List.getElem?_map,hx];rfl
      have HMS:=Q2 (QhP (a:=out) (l:=(bl rk).map Int.toNat) (j:=j) (x:=x.toNat) (by rw[List.getElem?_map,hx];rfl));have hml:(Q5J out (((bl rk).map Int.toNat).take j)).length=n:=by rw[Qkx];exact hil
      generalize Q5J out (((bl rk).map Int.toNat).take j)=mk at HMS hml ⊢;have hst:(0:Nat)+x.toNat<n*1:=by omega
      refine Q9c 0 rfl Q3 (fun b2 o2 e=>?_);obtain⟨yA,yc⟩:=y;simp only at e hy ⊢;subst e;refine Q2f ?_
      refine yo zM<|yo zM<|yo zL<|yo zlt<|yl ?_;refine QgF ?_
      refine yo zM<|yo zM<|yo zM<|yo (zi1 (hj:=hjl)) ?_;refine Q4 (Xz rfl rfl Q1 rfl rfl (fun w hw=>hw.cell_rd 0 rfl hxc)) ?_;refine Q4 (J6 rfl rfl Q1 rfl rfl rfl hx0) ?_;refine QD (Z3 1 rfl rfl rfl rfl rfl rfl hst) rfl (fun _ _=>?_);refine yl ?_;repeat(first|((with_reducible show sE _ _ _ _ _ _ _ _);refine Q6 ?_)|((with_reducible show xE _ _ _ _ _ _ _);refine Qb ?_))
      refine yo zM<|yo zP<|yo zA<|yl ?_;refine Qx (j+1) hjl Q3 Q1T (fun w hw=>?_);rw[HMS.out,<- Q17];rw[show (0:Nat)+x.toNat=x.toNat from Nat.zero_add _] at hw;exact hw
     ·skip
      refine Q2f ?_
      refine yo zM<|yo zM<|yo zL<|yo zlf<|yl ?_;repeat(first|((with_reducible show sE _ _ _ _ _ _ _ _);first|refine Q6 ?_|refine Q8 rfl ?_|refine Xx ?_)|((with_reducible show xE _ _ _ _ _ _ _);refine Qb ?_))
      refine yo zM<|yo zP<|yo zA<|yl ?_;refine Qx (i+1) hin Q3 Yj (fun w hw=>?_);rw[HST.out,<- List.take_of_length_le (show ((bl rk).map Int.toNat).length<=j by rw[List.length_map];omega)];exact hw.tl
   ·rw[if_neg hgo] at hstep;have HST:=Q2 hstep
    have he:i≠k:=fun h=>hgo (.inl h);have hb:out.getD i false=false:=by
     cases h:out.getD i false with
     |false=>rfl
     |true=>exact absurd (.inr h) hgo
    rw[hb] at hcell;clear hstep hgo;refine yq<|yq<|yr<|yo zM<|yo zF<|yo (zB 1)<|yo zL<|yo zlt<|yl<|yn<|y1<|ys<|yn<|yq<|yb<|yq<|yq<|yr<|yo zM<|yo zM<|yo znt<|yo zM<|yo zM<|yo zM<|yo Q4b<|yo (zK 0 hcell)<|yo zO<|yo zY<|yl<|yn<|y1<|ye<|yn<|yr<|yo zM<|yo zP<|yo zA<|yl ?_;refine Qx (i+1) hin Q3 Yj (fun w hw=>?_);rw[HST.out];exact hw
  ·obtain rfl:i=n:=by omega
   refine yq<|yq<|yr<|yo zM<|yo zF<|yo (zB 1)<|yo zL<|yo zlf<|yl<|yn<|y0<|ye<|yn<|yr<|yo zM<|yo zP<|yo zA<|yl ?_;refine Qx (t+1) Q3 Q3 mc2 (fun w hw=>?_);rw[show Yo F k (t+1)=YM F k t i by show ZR F k (Yo F k t)=_;unfold ZR YM;rw[HLEN.out]];exact hw
 ·obtain rfl:t=n+1:=by omega
  refine yq<|yq<|yr<|yo zM<|yo zF<|yo (zB 1)<|yo zL<|yo zqf<|yl<|yn<|y0<|ye<|yn<|yq<|yr<|yo zM<|yo zA<|yl<|yn<|yt ?_;refine Q7 mc4 rfl (.tmp rfl) (fun w hw=>⟨bs,rfl,trivial,?_⟩);rw[show ZE F k=Yo F k (n+1) by unfold ZE Yo;rw[HLEN.out]];exact hw.no2
end
section
variable {b:Nat}
def YQ(F:List Rl)(k:Nat):List Bool:=(ZE F k).set k true
def Q2V(F:List Rl)(L:List Bool)(b i:Nat):Bool:=(List.range i).any fun j=>L.getD j false&&(match F[j]? with|some r=>Kc r (b:Int)|none=>false)
theorem QfE{F:List Rl}{L:List Bool}{i:Nat}{r:Rl}(h:F[i]? =some r):Q2V F L b (i+1)=(Q2V F L b i||(L.getD i false&&Kc r (b:Int))):=by
 unfold Q2V;rw[List.range_succ,List.any_append];simp [h]
theorem QiX{F:List Rl}(hF:FOk F){k:Nat}(hk:k<F.length)(hb:b<256):Q2V F (YQ F k) b F.length=(Yi F).getD k XH b:=Qix hF hk hb
def Q09(F:List Rl)(k b i:Nat):Nat->Bool:=fun c=>if c<b then (Yi F).getD k XH c else if c=b then Q2V F (YQ F k) b i else false
theorem Qqa(F:List Rl)(k b i:Nat):Q09 F k b i b=Q2V F (YQ F k) b i:=by unfold Q09;rw[if_neg (Nat.lt_irrefl b),if_pos rfl]
theorem Qne(F:List Rl)(k b i:Nat):(QP (Q09 F k b i)).set b (.bool (Q2V F (YQ F k) b (i+1)))=QP (Q09 F k b (i+1)):=by
 rw[Q14];congr 1;funext c;unfold Q09;by_cases h:c=b
 ·subst h;simp
 ·simp [h]
theorem Qiy{F:List Rl}(hF:FOk F){k:Nat}(hk:k<F.length):QP (Q09 F k b F.length)=QP (Q09 F k (b+1) 0):=ZO fun c hc=>by
 unfold Q09;by_cases h1:c<b
 ·rw[if_pos h1,if_pos Q3]
 ·rw[if_neg h1]
  by_cases h2:c=b
  ·subst h2;rw[if_pos rfl,if_pos Q3,QiX hF hk hc]
  ·rw[if_neg h2,if_neg Q3]
   by_cases h3:c=b+1
   ·rw[if_pos h3];rfl
   ·rw[if_neg h3]
theorem QiG(F:List Rl)(k:Nat):QP (Q09 F k 0 0)=XN (List.replicate 256 false):=by
 have h:QP (Q09 F k 0 0)=QP fun _=>false:=ZO fun c hc=>by
  unfold Q09;rw[if_neg (Nat.not_lt_zero c)];split<;>rfl
 rw[h];unfold QP XN;rw[List.map_replicate];apply List.ext_getElem?;intro i;rw[List.getElem?_map];by_cases hi:i<256
 ·rw[List.getElem?_range hi,List.getElem?_replicate,if_pos hi];rfl
 ·rw[List.getElem?_eq_none (by rw[List.length_range];omega),List.getElem?_replicate,if_neg hi];rfl
theorem Qj9(F:List Rl)(k i:Nat):QP (Q09 F k 256 i)=QP ((Yi F).getD k XH):=ZO fun c hc=>by
 unfold Q09;rw[if_pos hc]
section
variable {A:Option Addr}{n c k:Nat}{W w:World}{O:List Qf}{F:List Rl}
theorem QfM(hf:QS W W.heap.size A n F)(hF:FOk F)(hn:n<=40)(hk:k<n)(hw:Wd [] W O w):
  Calls Tryz.prog 39 #[.agg #[.slice A n c],.int .i64 (k:Int)] w (X7 (fun b:Nat=>.slice (some ⟨b,0,none⟩) 256 256) (fun _=>True) [] W (fun b=>.row (some ⟨b,0,none⟩) 256 256 4 1 (QP ((Yi F).getD k XH))::O)):=by
 have hlen:F.length=n:=hf.1;obtain⟨b,o,rfl⟩:=hf.addr Q3;have HFM:=Q2 hf;have HF:=Q2 hF;have HLEN:=Q2 hlen;have hrl:(ZE F k).length=n:=by rw[KH];exact hlen
 clear hf hF hlen;go_enter Tryz.func39,Tryz.ntmps39;refine Qz (M:=[]) (W:=W) (N:=49) (E:=[Q0s,Q0H]) (O:=O) ?_ mc3 hw;have hk0:(0:Nat)+k<n*1:=by omega
 refine yq<|yr ?_;refine yB fun b2=>?_;refine yo zA<|yl<|yn<|yq<|yr<|yo (zD 0)<|yo zM ?_;refine Qd (QY _ _ _ (f:=37) rfl rfl rfl (fun w hw=>Q6R HFM.out HF.out hn hk hw)) rfl Q1 (fun br _=>?_);refine yo zA<|yl<|yn<|yq<|yr<|yo zM<|yo zM<|yo (zi1 (hj:=hk)) ?_;refine QD (Z3 0 rfl rfl rfl rfl rfl rfl hk0) rfl (fun _ _=>?_);refine yl<|yn<|yq<|yr ?_;refine Qd (Qf0 (n:=256) rfl rfl rfl rfl Q1) rfl Q1 (fun bs _=>?_);refine Q7f ?_
 refine Xu (ι:=Nat) (fun q=>q<=256) (fun q=>256 - q) (fun q=>QmD) (fun q=>.row VC 256 256 4 1 (QP (Q09 F k q 0))::.row Q0w n n 4 1 Q9z::.blk b2 Q1s::O) 0 Z4 mc1 (fun w hw=>by
  rw[QiG,<- QgP]
  unfold YQ
  rw[<- Q17];rw[Nat.zero_add] at hw
  exact hw) ?_
 intro q hq;show sE _ _ _ _ _ QmD (.row VC 256 256 4 1 (QP (Q09 F k q 0))::.row Q0w n n 4 1 Q9z::.blk b2 Q1s::O) _;by_cases hq2:q<256
 ·refine yq<|yq<|yr<|yo zM<|yo zlt<|yl<|yn<|y1<|ys<|yn<|yq<|yb<|yq<|yr<|yo zA<|yl<|yn<|yb ?_;refine Xu (ι:=Nat) (fun i=>i<=n) (fun i=>n - i) (fun i=>QsN) (fun i=>.row VC 256 256 4 1 (QP (Q09 F k q i))::.row Q0w n n 4 1 Q9z::.blk b2 Q1s::O) 0 Z4 Vg Zc ?_;intro i hi
  show sE _ _ _ _ _ QsN (.row VC 256 256 4 1 (QP (Q09 F k q i))::.row Q0w n n 4 1 Q9z::.blk b2 Q1s::O) _;by_cases hin:i<n
  ·obtain⟨rk,Ab,cb,An,cn,Ap,cp,hrk,hrg,hlk⟩:=HFM.out.rl hin;have HOK:=Q2 (by have:=HF.out i rk hrk;rw[HLEN.out] at this;exact this:ROk n rk);have HLK:=Q2 hlk;have hstep:=QfE (L:=YQ F k) (b:=q) hrk;have HSET:=Q2 (Qne F k q i)
   have hc1:(QP (Q09 F k q i))[0+q]? =some (.bool (Q2V F (YQ F k) q i)):=by rw[Nat.zero_add,ZI _ hq2,Qqa]
   have hc2:(XN (YQ F k))[0+i]? =some (.bool ((YQ F k).getD i false)):=by rw[Nat.zero_add];exact Y7 (by unfold YQ;rw[List.length_set];omega)
   have hst:(0:Nat)+q<256*1:=by omega
   generalize Q2V F (YQ F k) q i=v at hc1 hstep;generalize (YQ F k).getD i false=u at hc2 hstep;clear hrk hlk;cases v with
   |true=>
    rw[Bool.true_or] at hstep;have HST:=Q2 hstep;clear hstep;refine yq<|yq<|yr<|yo zM<|yo zM<|yo zL<|yo zlt<|yl<|yn<|y1<|ys<|yn<|yq<|yb<|yr<|yo zM<|yo zM<|yo zM<|yo zM<|yo Q3X<|yo (zK 0 hc1)<|yo zM<|yo zS<|yo zS<|yo zS<|yo zS<|yo zS<|yo zS<|yo zS<|yo zS<|yo zS<|yo zS<|yo zS<|yo zS<|yo zS<|yo zY<|yo Q3X ?_;refine QD Qnl rfl (fun _ _=>?_);refine yl<|yn<|yr<|yo zM<|yo zP<|yo zA<|yl ?_;refine Qx (i+1) hin Q3 Yj (fun w hw=>?_);exact Qlh
   |false=>
    rw[Bool.false_or] at hstep;have HST:=Q2 hstep;clear hstep;cases u with
    |true=>
     refine yq<|yq<|yr<|yo zM<|yo zM<|yo zL<|yo zlt<|yl<|yn<|y1<|ys<|yn<|yq<|yb<|yr<|yo zM<|yo zM<|yo zM<|yo zM<|yo Q3X<|yo (zK 0 hc1)<|yo zM<|yo zM<|yo zM<|yo Q4b<|yo (zK 1 hc2)<|yo zM<|yo zF<|yo (zB 2)<|yo zM<|yo (zi (hj:=hin)) ?_;refine Q4 (X4 rfl rfl Q1 rfl rfl (fun w hw=>hw.range_old hrg Qn) (by rfl)) ?_;refine yo zM ?_;refine Q4 (Ql (f:=76) rfl rfl Q1 rfl rfl (fun w hw=>Q83 Qaa HOK.out hq2)) ?_;refine yo zY<|yo zN<|yo Q3X ?_;refine QD Qnl rfl (fun _ _=>?_);refine yl<|yn<|yr<|yo zM<|yo zP<|yo zA<|yl ?_;refine Qx (i+1) hin Q3 Yj (fun w hw=>?_);exact Qlh
    |false=>
     refine yq<|yq<|yr<|yo zM<|yo zM<|yo zL<|yo zlt<|yl<|yn<|y1<|ys<|yn<|yq<|yb<|yr<|yo zM<|yo zM<|yo zM<|yo zM<|yo Q3X<|yo (zK 0 hc1)<|yo zM<|yo zM<|yo zM<|yo Q4b<|yo (zK 1 hc2)<|yo zM<|yo zS<|yo zS<|yo zS<|yo zS<|yo zS<|yo zS<|yo zS<|yo zN<|yo zN<|yo Q3X ?_;refine QD Qnl rfl (fun _ _=>?_);refine yl<|yn<|yr<|yo zM<|yo zP<|yo zA<|yl ?_;refine Qx (i+1) hin Q3 Yj (fun w hw=>?_);exact Qlh
  ·obtain rfl:i=n:=by omega
   refine yq<|yq<|yr<|yo zM<|yo zM<|yo zL<|yo zlf<|yl<|yn<|y0<|ye<|yn<|yr<|yo zM<|yo zP<|yo zA<|yl ?_;refine Qx (q+1) Q3 Q3 mc2 (fun w hw=>?_);rw[<- Qiy HF.out (by rw[HLEN.out];exact hk),HLEN.out];exact hw
 ·obtain rfl:q=256:=by omega
  refine yq<|yq<|yr<|yo zM<|yo zlf<|yl<|yn<|y0<|ye<|yn<|yq<|yr<|yo zM<|yo zA<|yl<|yn<|yt ?_;refine Q7 mc4 rfl (.tmp rfl) (fun w hw=>⟨bs,rfl,trivial,?_⟩);rw[Qj9] at hw;exact hw.no2.no2
end
end
section
variable {r:Rl}
structure QpO(w:World)(A:Option Addr)(n:Nat)(vs:List Value)(S:List (Nat->Bool)):Prop where
 len:S.length=n
 r:Rd w w.heap.size 1 A n vs
 at_:∀j,j<n->∃b,vs[j]? =some (.slice (some ⟨b,0,none⟩) 256 256)/\∀q,q<256->w.cell? ⟨b,0+q,none⟩=some (.bool ((S.getD j XH) q))
section
variable {A Ab An Ap:Option Addr}{n c cb cn cp:Nat}{W:World}{vs:List Value}{S:List (Nat->Bool)}
theorem QoS(hr:ROk n r)(hS:QpO W A n vs S)(hk:r.kind=9):
  Calls Tryz.prog 40 #[.agg (ruC r (.slice Ab r.bs.length cb) (.slice An r.names.length cn) (.slice Ap r.parts.length cp)).toArray,.slice A n c] W (QU W (Ze S r)):=by
 have hci:=Q8w (S:=S) hr;have he:=hr.elem (.inr hk);have hs:=hr.stop (.inr (.inr hk));obtain⟨name,kind,bs,size,big,mn,mx,stop,count,elem,names,parts⟩:=r;simp only[ruC] at hk he hs hci ⊢;subst hk;obtain⟨ba,oa,rfl,_,hcell⟩:=hS.r.2 Q3;obtain⟨be,hve,hbe⟩:=hS.at_ elem.toNat Q3;have hc1:=hcell elem.toNat _ hve;have HBE:=Q2 hbe;have HCI:=Q2 hci;clear hcell hbe hve hci hr hS;go_enter Tryz.func40,Tryz.ntmps40;refine Qz (M:=[]) (W:=W) (N:=56) (E:=[(0,.agg ([.string ⟨name.toArray⟩,.int .i64 9,.slice Ab bs.length cb,.int .i64 size,.bool big,.int .i64 mn,.int .i64 mx,.int .i64 stop,.int .i64 count,.int .i64 elem,.slice An names.length cn,.slice Ap parts.length cp]:List Value).toArray),(1,.slice (some ⟨ba,oa,none⟩) n c)]) (O:=[]) ?_ mc3 (Wd.start [] W);refine yq<|yr ?_;refine yB fun b2=>?_;refine Q7f ?_;refine QK (ι:=Nat) (fun b=>b<=256/\∀q,q<b->Q9O S ⟨name,9,bs,size,big,mn,mx,stop,count,elem,names,parts⟩ q=false) (fun b=>256 - b) (fun b=>[(1,.slice (some ⟨ba,oa,none⟩) n c),(2,.pointer (some ⟨b2,0,none⟩)),(5,.int .i64 (b:Int))]) (fun b=>[.blk b2 (.cells ([.string ⟨name.toArray⟩,.int .i64 9,.slice Ab bs.length cb,.int .i64 size,.bool big,.int .i64 mn,.int .i64 mx,.int .i64 stop,.int .i64 count,.int .i64 elem,.slice An names.length cn,.slice Ap parts.length cp]:List Value).toArray 65 (0,0))]) 0 [0] Q1 QmV Jf rfl ?_;rintro b ⟨hb,hall⟩;have HALL:=Q2 hall;clear hall;by_cases hlt:b<256
 ·by_cases hbs:(b:Int)=stop
  ·have hc2:=HBE.out b hlt;obtain⟨v,hv⟩:∃v,(S.getD elem.toNat XH) b=v:=⟨_,rfl⟩;rw[hv] at hc2;have HV:=Q2 hv;clear hv
   cases v with
   |true=>
    refine Qs3 ?_;refine yo (zG hc1)<|yo zM<|yo (zi1 (hj:=hlt))<|yo (zG hc2)<|yo zY<|yl<|yn<|y1<|yq<|yr<|yo zA<|yl<|yn<|yt<|yc<|yk<|yc<|yc<|yk<|yc ?_;refine Q7 mc4 rfl (.tmp rfl) (fun w hw=>QN (HCI.out.2 ⟨b,hlt,?_⟩).symm hw);show (_&&((b:Int)==stop&&(S.getD elem.toNat XH) b)||_)=true;rw[HV.out,beq_iff_eq.2 hbs];rfl
   |false=>
    refine Qs3 ?_;refine yo (zG hc1)<|yo zM<|yo (zi1 (hj:=hlt))<|yo (zG hc2)<|yo zY<|yl<|yn<|y0<|ys<|yn<|yq<|yq<|yr<|yo zF<|yo (zB 0)<|yo znt<|yl<|yn<|y1<|ye<|yn<|yr<|yo zM<|yo zP<|yo zA<|yl ?_;refine Qt (b+1) [0] Q1 ⟨hlt,fun q hq=>?_⟩ Q3 Q5u rfl;rcases (show q<b\/q=b by omega) with h|rfl
    ·exact HALL.out q h
    ·show (_&&((q:Int)==stop&&(S.getD elem.toNat XH) q)||_)=false
     rw[HV.out,Bool.and_false,Bool.and_false];rfl
  ·refine yq<|yq<|yr<|yo zM<|yo zlt<|yl<|yn<|y1<|ys<|yn<|yq<|yb<|yq<|yq<|yr<|yo zF<|yo (zB 0)<|yo zet<|yo zM<|yo zM<|yo zF<|yo (zB 0)<|yo zef<|yo zY<|yo zM<|yo zS<|yo zS<|yo zS<|yo zS<|yo zS<|yo zS<|yo zS<|yo zS<|yo zN<|yl<|yn<|y0<|ys<|yn<|yq<|yq<|yr<|yo zF<|yo (zB 0)<|yo znt<|yl<|yn<|y1<|ye<|yn<|yr<|yo zM<|yo zP<|yo zA<|yl ?_;refine Qt (b+1) [0] Q1 ⟨hlt,fun q hq=>?_⟩ Q3 Q5u rfl
   rcases (show q<b\/q=b by omega) with h|rfl
   ·exact HALL.out q h
   ·show (_&&((q:Int)==stop&&(S.getD elem.toNat XH) q)||_)=false
    rw[beq_eq_false_iff_ne.2 hbs,Bool.false_and,Bool.and_false];rfl
 ·refine Qma ?_;refine Q7 mc4 rfl (.tmp rfl) (fun w hw=>QN ?_ hw)
  cases hcf:Ze S ⟨name,9,bs,size,big,mn,mx,stop,count,elem,names,parts⟩ with
  |false=>rfl
  |true=>
   exfalso;obtain⟨q,hq,h⟩:=HCI.out.1 hcf;rw[HALL.out q Q3] at h;cases h
theorem QpS(h9:r.kind≠9)(h8:r.kind≠8):
  Calls Tryz.prog 40 #[.agg (ruC r (.slice Ab r.bs.length cb) (.slice An r.names.length cn) (.slice Ap r.parts.length cp)).toArray,.slice A n c] W (QU W (Ze S r)):=by
 have hcf:Ze S r=false:=by unfold Ze;rw[if_neg h9,if_neg h8]
 rw[hcf];clear hcf;obtain⟨name,kind,bs,size,big,mn,mx,stop,count,elem,names,parts⟩:=r;simp only[ruC] at h9 h8 ⊢;go_enter Tryz.func40,Tryz.ntmps40;refine Qz (M:=[]) (W:=W) (N:=56) (E:=[(0,.agg (Qjv:List Value).toArray),(1,.slice A n c)]) (O:=[]) ?_ mc3 QR;refine yq<|yr ?_;refine yB fun b2=>?_;refine Q7f ?_;refine QK (ι:=Nat) (fun b=>b<=256) (fun b=>256 - b) (fun b=>[(1,.slice A n c),Q1v,(5,.int .i64 (b:Int))]) (fun b=>[.blk b2 (.cells (Qjv:List Value).toArray 65 (0,0))]) 0 [0] Q1 Z4 Jf rfl ?_;intro b hb;by_cases hlt:b<256
 ·refine yq<|yq<|yr<|yo zM<|yo zlt<|yl<|yn<|y1<|ys<|yn<|yq<|yb<|yq<|yq<|yr<|yo zF<|yo (zB 0)<|yo zef<|yo zM<|yo zS<|yo zS<|yo zS<|yo zS<|yo zN<|yo zM<|yo zS<|yo zS<|yo zS<|yo zS<|yo zS<|yo zS<|yo zS<|yo zS<|yo zN<|yl<|yn<|y0<|ys<|yn<|yq<|yq<|yr<|yo zF<|yo (zB 0)<|yo znt<|yl<|yn<|y1<|ye<|yn<|yr<|yo zM<|yo zP<|yo zA<|yl ?_;exact Qt (b+1) [0] Q1 hlt Q3 Q5u rfl
 ·refine Qma ?_;exact Q4A
theorem Qj2{l:List Int}{j:Nat}{x:Int}(b:Nat)(h:l[j]? =some x):VG S (l.take (j+1)) b=VG S (l.take j) b+(if (S.getD x.toNat XH) b then 1 else 0):=by
 rw[List.take_add_one,h];show VG S (l.take j++[x]) b=_;rw[Qda];rfl
theorem Qpr(hl:RuL W r Ab cb An cn Ap cp)(hr:ROk n r)(hS:QpO W A n vs S)(hk:r.kind=8):
  Calls Tryz.prog 40 #[.agg (ruC r (.slice Ab r.bs.length cb) (.slice An r.names.length cn) (.slice Ap r.parts.length cp)).toArray,.slice A n c] W (QU W (Ze S r)):=by
 have hci:=Q8w (S:=S) hr;have h8:=hr.eight hk;have h12:=hr.p12;have hin:=hr.parts (.inr hk);have hp:=hl.p;obtain⟨name,kind,bs,size,big,mn,mx,stop,count,elem,names,parts⟩:=r;simp only[ruC] at hk h8 h12 hin hp hci ⊢;subst hk;obtain⟨bp,op,rfl,_,hpc⟩:=hp.2 Q3
 obtain⟨ba,oa,rfl,_,hcell⟩:=hS.r.2 (by
  have:=hin (parts.getD 0 0) (by rw[List.getD_eq_getElem?_getD,List.getElem?_eq_getElem Q3];exact List.getElem_mem _)
  omega)
 have HP:=Q2 hpc;have HC:=Q2 hcell;have HS:=Q2 hS;have HIN:=Q2 hin;have HCI:=Q2 hci;clear hcell hpc hci hr hS hin hp hl;go_enter Tryz.func40,Tryz.ntmps40;refine Qz (M:=[]) (W:=W) (N:=56) (E:=[(0,.agg ([.string ⟨name.toArray⟩,.int .i64 8,.slice Ab bs.length cb,.int .i64 size,.bool big,.int .i64 mn,.int .i64 mx,.int .i64 stop,.int .i64 count,.int .i64 elem,.slice An names.length cn,.slice (some ⟨bp,op,none⟩) parts.length cp]:List Value).toArray),(1,.slice (some ⟨ba,oa,none⟩) n c)]) (O:=[]) ?_ mc3 (Wd.start [] W);refine yq<|yr ?_;refine yB fun b2=>?_;refine Q7f ?_;refine QK (ι:=Nat) (fun b=>b<=256/\∀q,q<b->Q9O S ⟨name,8,bs,size,big,mn,mx,stop,count,elem,names,parts⟩ q=false) (fun b=>256 - b) (fun b=>[(1,.slice (some ⟨ba,oa,none⟩) n c),(2,.pointer (some ⟨b2,0,none⟩)),(5,.int .i64 (b:Int))]) (fun b=>[.blk b2 (.cells ([.string ⟨name.toArray⟩,.int .i64 8,.slice Ab bs.length cb,.int .i64 size,.bool big,.int .i64 mn,.int .i64 mx,.int .i64 stop,.int .i64 count,.int .i64 elem,.slice An names.length cn,.slice (some ⟨bp,op,none⟩) parts.length cp]:List Value).toArray 65 (0,0))]) 0 [0] Q1 QmV Jf rfl ?_;rintro b ⟨hb,hall⟩;have HALL:=Q2 hall;clear hall;by_cases hlt:b<256
 ·refine yq<|yq<|yr<|yo zM<|yo zlt<|yl<|yn<|y1<|ys<|yn<|yq<|yb<|yq<|yq<|yr<|yo zF<|yo (zB 0)<|yo zef<|yo zM<|yo zS<|yo zS<|yo zS<|yo zS<|yo zN<|yo zM<|yo zS<|yo zS<|yo zS<|yo zS<|yo zS<|yo zS<|yo zS<|yo zS<|yo zN<|yl<|yn<|y0<|ys<|yn<|yq<|yq<|yr<|yo zF<|yo (zB 0)<|yo znf<|yl<|yn<|y0<|ys<|yn<|yq<|yr<|yo zA<|yl<|yn<|yq<|yq<|yr<|yo zA<|yl<|yn<|yb ?_;refine QK (ι:=Nat) (fun j=>j<=parts.length) (fun j=>parts.length - j) (fun j=>[(1,.slice (some ⟨ba,oa,none⟩) n c),(2,.pointer (some ⟨b2,0,none⟩)),(5,.int .i64 (b:Int)),(6,.int .i64 (VG S (parts.take j) b:Int)),(7,.int .i64 (j:Int))]) (fun j=>[.blk b2 (.cells ([.string ⟨name.toArray⟩,.int .i64 8,.slice Ab bs.length cb,.int .i64 size,.bool big,.int .i64 mn,.int .i64 mx,.int .i64 stop,.int .i64 count,.int .i64 elem,.slice An names.length cn,.slice (some ⟨bp,op,none⟩) parts.length cp]:List Value).toArray 65 (0,0))]) 0 [0] Q1 Z4 Vg rfl ?_;intro j hj
  by_cases hjl:j<parts.length
  ·obtain⟨x,hx⟩:∃x,parts[j]? =some x:=⟨_,List.getElem?_eq_getElem hjl⟩;have hxn:=HIN.out x Q07;have hcx:W.cell? ⟨bp,op+j,none⟩=some (.int .i64 x):=HP.out j _ (by unfold iv;rw[List.getElem?_map,hx];rfl);obtain⟨be,hve,hbe⟩:=HS.out.at_ x.toNat Q3;have hc1:=HC.out x.toNat _ hve;have hc2:=hbe b hlt;have hst:=Qj2 (S:=S) b hx;have hcl:=Qhb S (parts.take j) b;rw[List.length_take] at hcl
   generalize VG S (parts.take j) b=cn0 at hst hcl ⊢;obtain⟨v,hv⟩:∃v,(S.getD x.toNat XH) b=v:=⟨_,rfl⟩;rw[hv] at hc2 hst;clear hv hbe hve hx;cases v with
   |true=>
    refine QrB ?_;refine yo (zG hc1)<|yo zM<|yo (zi1 (hj:=hlt))<|yo (zG hc2)<|yl<|yn<|y1<|yr<|yo zM<|yo zP<|yo zA<|yl<|yn<|yr<|yo zM<|yo zP<|yo zA<|yl ?_;exact Qt (j+1) [0] Q1 hjl Q3 (.cons rfl rfl (.cons rfl rfl (.cons rfl rfl (.cons rfl (by rw[hst];simp) Q0a)))) rfl
   |false=>
    refine QrB ?_;refine yo (zG hc1)<|yo zM<|yo (zi1 (hj:=hlt))<|yo (zG hc2)<|yl<|yn<|y0<|ys<|yn<|yr<|yo zM<|yo zP<|yo zA<|yl ?_;exact Qt (j+1) [0] Q1 hjl Q3 (.cons rfl rfl (.cons rfl rfl (.cons rfl rfl (.cons rfl (by rw[hst];simp) Q0a)))) rfl
  ·have hjt:parts.take j=parts:=List.take_of_length_le Q3;rw[hjt]
   by_cases h1:1<VG S parts b
   ·refine yq<|yq<|yr<|yo zM<|yo zF<|yo (zB 0)<|yo zL<|yo zlf<|yl<|yn<|y0<|ye<|yn<|yq<|yr<|yo zM<|yo zgt<|yl<|yn<|y1<|yq<|yr<|yo zA<|yl<|yn<|yt<|yk<|yc<|yc<|yk<|yc ?_;refine Q7 mc4 rfl (.tmp rfl) (fun w hw=>QN (HCI.out.2 ⟨b,hlt,?_⟩).symm hw)
    show (_||(_&&decide (1<VG S parts b)))=true;rw[decide_eq_true h1];rfl
   ·refine yq<|yq<|yr<|yo zM<|yo zF<|yo (zB 0)<|yo zL<|yo zlf<|yl<|yn<|y0<|ye<|yn<|yq<|yr<|yo zM<|yo zgf<|yl<|yn<|y0<|ys<|yn<|yr<|yo zM<|yo zP<|yo zA<|yl ?_;refine Qt (b+1) [0] Q1 ⟨hlt,fun q hq=>?_⟩ Q3 Q5u rfl
    rcases (show q<b\/q=b by omega) with h|rfl
    ·exact HALL.out q h
    ·show ((_&&_)||(_&&decide (1<VG S parts q)))=false
     rw[decide_eq_false h1,Bool.and_false,Bool.or_false];rfl
 ·refine Qma ?_;refine Q7 mc4 rfl (.tmp rfl) (fun w hw=>QN ?_ hw)
  cases hcf:Ze S ⟨name,8,bs,size,big,mn,mx,stop,count,elem,names,parts⟩ with
  |false=>rfl
  |true=>
   exfalso;obtain⟨q,hq,h⟩:=HCI.out.1 hcf;rw[HALL.out q Q3] at h;cases h
theorem Qdd(hl:RuL W r Ab cb An cn Ap cp)(hr:ROk n r)(hS:QpO W A n vs S):
  Calls Tryz.prog 40 #[.agg (ruC r (.slice Ab r.bs.length cb) (.slice An r.names.length cn) (.slice Ap r.parts.length cp)).toArray,.slice A n c] W (QU W (Ze S r)):=by
 by_cases h9:r.kind=9
 ·exact QoS hr hS h9
 ·by_cases h8:r.kind=8
  ·exact Qpr hl hr hS h8
  ·exact QpS h9 h8
end
end
end Go.Proofs.YtphkhfdmlcnoeaaGreatDoor
