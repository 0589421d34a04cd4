import Derived.Test.YtphkhfdmlcnoeaaGreatDoorP24
namespace Go.Proofs.YtphkhfdmlcnoeaaGreatDoor
set_option linter.unusedVariables false
set_option linter.unusedSimpArgs false
set_option maxRecDepth 1000000
set_option maxHeartbeats 32000000
open Go.RowKit
section
variable {i:Nat}{l:List (List UInt8)}{r:Rl}{x:List UInt8}
theorem Qmn{W:World}{A:Option Addr}(h:Rd W W.heap.size 1 A l.length (sv l))(h0:0<l.length):∃b o,A=some ⟨b,o,none⟩/\∀j:Nat,j<l.length->W.cell? ⟨b,o+j,none⟩=some (.string ⟨(l.getD j []).toArray⟩):=by
 obtain⟨b,o,e,_,hc⟩:=h.2 Q3;refine⟨b,o,e,fun j hj=>hc j _ ?_⟩;unfold sv;refine QlX ?_;rfl
theorem QnZ{W:World}{A:Option Addr}{l:List Int}(h:Rd W W.heap.size 1 A l.length (iv l))(h0:0<l.length):∃b o,A=some ⟨b,o,none⟩/\∀j:Nat,j<l.length->W.cell? ⟨b,o+j,none⟩=some (.int .i64 (l.getD j 0)):=by
 obtain⟨b,o,e,_,hc⟩:=h.2 Q3;refine⟨b,o,e,fun j hj=>hc j _ ?_⟩;unfold iv;refine QlX ?_;rfl
theorem Qg6(h:∃j,j<i/\j<l.length/\l.getD j []=x):XI (l.take i) x=true:=by
 obtain⟨j,hj,hl,he⟩:=h;unfold XI;rw[List.contains_iff_mem];refine List.mem_of_getElem? (i:=j) ?_;rw[List.getElem?_take,if_pos hj,List.getElem?_eq_getElem hl,<- he,List.getD_eq_getElem?_getD,List.getElem?_eq_getElem hl];rfl
theorem Qfa(h:∀j,j<i->¬l.getD j []=x):XI (l.take i) x=false:=by
 unfold XI;rw[<- Bool.not_eq_true,List.contains_iff_mem];intro hm;obtain⟨j,hj⟩:=List.getElem?_of_mem hm;rw[List.getElem?_take] at hj;split at hj
 ·next hji=>exact h j hji (by rw[List.getD_eq_getElem?_getD,hj];rfl)
 ·cases hj
section
variable {A Ab An Ap:Option Addr}{n c cb cn cp:Nat}{W:World}{F:List Rl}
theorem QoJ(hf:QX W W.heap.size A n F)(hr:ROk n r)(hk:r.kind=6\/r.kind=10)(hnm:r.names=[]):
  Calls Tryz.prog 36 #[.agg #[.slice A n c],.agg (ruC r (.slice Ab r.bs.length cb) (.slice An r.names.length cn) (.slice Ap r.parts.length cp)).toArray] W (Jj W (J4 F r)):=by
 have hcn:=hr.count hk;obtain⟨b,o,rfl⟩:=hf.addr Q3;obtain⟨rc,Ac,cc,Ad,cd,Ae,ce,hrc,hrg,_⟩:=hf.rl (i:=r.count.toNat) Q3;have HK:=Q2 (VY hrc);obtain⟨name,kind,bs,size,big,mn,mx,stop,count,elem,names,parts⟩:=r;simp only at hk hcn hrc hrg HK hnm;subst hnm;have hC:J4 F ⟨name,kind,bs,size,big,mn,mx,stop,count,elem,[],parts⟩=if rc.kind≠2/\rc.kind≠3 then 13 else 0:=by
  have h7:(kind != 7)=true:=bne_iff_ne.2 Q3;have hu:Qz kind=true:=by rcases hk with e|e<;>rw[e]<;>rfl
  unfold J4;rw[hu,HK.out,Bool.true_and];unfold Z9 XI;simp only[h7];by_cases h2:rc.kind=2
  ·rw[h2];rfl
  ·by_cases h3:rc.kind=3
   ·rw[h3];rfl
   ·rw[if_pos (show rc.kind≠2/\rc.kind≠3 from ⟨h2,h3⟩)]
    simp [h2,h3]
 rw[hC];clear hrc hf hr hC HK;simp only[ruC];rcases hk with rfl|rfl<;>
 ·go_enter Tryz.func36,Tryz.ntmps36
  refine Qs (M:=[]) (W:=W) (N:=76) (E:=[(0,.agg #[.slice (some ⟨b,o,none⟩) n c]),(1,.agg ([.string ⟨name.toArray⟩,.int .i64 _,.slice Ab bs.length cb,.int .i64 size,.bool big,.int .i64 mn,.int .i64 mx,.int .i64 stop,.int .i64 count,.int .i64 elem,.slice An ([]:List (List UInt8)).length cn,.slice Ap parts.length cp]:List Value).toArray)]) (O:=[]) ?_ (Ag.cons (Ag.cons (Ag.nil rfl rfl) rfl) rfl) (Wd.start [] W);by_cases hb:rc.kind≠2/\rc.kind≠3
  ·rw[if_pos hb];obtain⟨hb2,hb3⟩:=hb
   repeat(first|((with_reducible show sE _ _ _ _ _ _ _ _);first|refine Qa ?_|refine Q6 ?_))
   refine yB fun b2=>?_;refine yB fun b3=>?_;refine yo zA<|yl ?_;repeat(first|((with_reducible show sE _ _ _ _ _ _ _ _);first|refine Qa ?_|refine Q6 ?_)|((with_reducible show xE _ _ _ _ _ _ _);refine Qk ?_))
   refine yo zF<|yo (zB 0) ?_;refine Q4 (Ja rfl rfl Q1 rfl rfl rfl (by first|exact beq_iff_eq.2 Q3|exact beq_eq_false_iff_ne.2 Q3)) ?_;refine yo zM ?_;first|refine Q4 zF ?_|refine Q4 zS ?_
   first|refine Q4 (zB 0) ?_|refine Q4 zS ?_
   first|refine Q4 (Ja rfl rfl Q1 rfl rfl rfl (by first|exact beq_iff_eq.2 Q3|rfl)) ?_|refine Q4 zS ?_
   first|refine Q4 zY ?_|refine Q4 zN ?_
   refine yl ?_;repeat(first|((with_reducible show sE _ _ _ _ _ _ _ _);first|refine Qa ?_|refine Q6 ?_|refine Q9 rfl ?_)|((with_reducible show xE _ _ _ _ _ _ _);refine Qk ?_))
   refine yo zF<|yo (zB 1)<|yo zF<|yo (zB 0) ?_;refine Q4 (QG rfl rfl Q1 rfl rfl rfl Q3) ?_;refine yo zF<|yo zR<|yo zA<|yl ?_;repeat(first|((with_reducible show sE _ _ _ _ _ _ _ _);first|refine Qa ?_|refine Q6 ?_)|((with_reducible show xE _ _ _ _ _ _ _);refine Qk ?_))
   refine yo zM<|yo znt<|yo zM<|yo zM<|yo znt<|yo zY<|yl ?_;repeat(first|((with_reducible show sE _ _ _ _ _ _ _ _);first|refine Qa ?_|refine Q6 ?_|refine Q9 rfl ?_)|((with_reducible show xE _ _ _ _ _ _ _);refine Qk ?_))
   refine yo zA<|yl ?_;repeat(first|((with_reducible show sE _ _ _ _ _ _ _ _);refine QB ?_)|((with_reducible show xE _ _ _ _ _ _ _);first|refine Qk ?_|refine Qm ?_))
   exact Q7 (by exact .inr rfl) rfl (.tmp rfl) (fun w hw=>Qo rfl hw)
  ·rw[if_neg hb]
   have hb':rc.kind=2\/rc.kind=3:=by omega
   clear hb;rcases hb' with hb2|hb3
   ·skip
    repeat(first|((with_reducible show sE _ _ _ _ _ _ _ _);first|refine Qa ?_|refine Q6 ?_))
    refine yB fun b2=>?_;refine yB fun b3=>?_;refine yo zA<|yl ?_;repeat(first|((with_reducible show sE _ _ _ _ _ _ _ _);first|refine Qa ?_|refine Q6 ?_)|((with_reducible show xE _ _ _ _ _ _ _);refine Qk ?_))
    refine yo zF<|yo (zB 0) ?_;refine Q4 (Ja rfl rfl Q1 rfl rfl rfl (by first|exact beq_iff_eq.2 Q3|exact beq_eq_false_iff_ne.2 Q3)) ?_;refine yo zM ?_;first|refine Q4 zF ?_|refine Q4 zS ?_
    first|refine Q4 (zB 0) ?_|refine Q4 zS ?_
    first|refine Q4 (Ja rfl rfl Q1 rfl rfl rfl (by first|exact beq_iff_eq.2 Q3|rfl)) ?_|refine Q4 zS ?_
    first|refine Q4 zY ?_|refine Q4 zN ?_
    refine yl ?_;repeat(first|((with_reducible show sE _ _ _ _ _ _ _ _);first|refine Qa ?_|refine Q6 ?_|refine Q9 rfl ?_)|((with_reducible show xE _ _ _ _ _ _ _);refine Qk ?_))
    refine yo zF<|yo (zB 1)<|yo zF<|yo (zB 0) ?_;refine Q4 (QG rfl rfl Q1 rfl rfl rfl Q3) ?_;refine yo zF<|yo zR<|yo zA<|yl ?_;repeat(first|((with_reducible show sE _ _ _ _ _ _ _ _);first|refine Qa ?_|refine Q6 ?_)|((with_reducible show xE _ _ _ _ _ _ _);refine Qk ?_))
    refine yo zM<|yo znf<|yo zM<|yo zS<|yo zS<|yo zN<|yl ?_;repeat(first|((with_reducible show sE _ _ _ _ _ _ _ _);first|refine Qa ?_|refine Q6 ?_|refine Qq ?_|refine Q8 rfl ?_)|((with_reducible show xE _ _ _ _ _ _ _);refine Qk ?_))
    refine yo zA<|yl ?_;repeat(first|((with_reducible show sE _ _ _ _ _ _ _ _);refine Qh ?_)|((with_reducible show xE _ _ _ _ _ _ _);refine Qk ?_))
    refine QN (ι:=Unit) (fun _=>True) (fun _=>0) (fun _=>[(3,.pointer (some ⟨b3,0,none⟩)),(6,.int .i64 0)]) (fun _=>[.blk b3 (.cells ([.string ⟨name.toArray⟩,.int .i64 _,.slice Ab bs.length cb,.int .i64 size,.bool big,.int .i64 mn,.int .i64 mx,.int .i64 stop,.int .i64 count,.int .i64 elem,.slice An ([]:List (List UInt8)).length cn,.slice Ap parts.length cp]:List Value).toArray 65 (0,0))]) () [0] Q1 trivial (.cons rfl rfl (.cons rfl rfl .nil)) rfl ?_;rintro⟨⟩ _;repeat(first|((with_reducible show sE _ _ _ _ _ _ _ _);first|refine Qa ?_|refine Q6 ?_))
    refine yo zM<|yo zF<|yo (zB 0)<|yo zL<|yo zlr<|yl ?_;repeat(first|((with_reducible show sE _ _ _ _ _ _ _ _);first|refine Qa ?_|refine Q6 ?_|refine Q8 rfl ?_|refine XS ?_)|((with_reducible show xE _ _ _ _ _ _ _);refine Qk ?_))
    refine yo zA<|yl ?_;repeat(first|((with_reducible show sE _ _ _ _ _ _ _ _);refine QB ?_)|((with_reducible show xE _ _ _ _ _ _ _);refine Qk ?_))
    exact Q7 (by exact .inr rfl) rfl (.tmp rfl) (fun w hw=>Qo rfl hw)
   ·skip
    repeat(first|((with_reducible show sE _ _ _ _ _ _ _ _);first|refine Qa ?_|refine Q6 ?_))
    refine yB fun b2=>?_;refine yB fun b3=>?_;refine yo zA<|yl ?_;repeat(first|((with_reducible show sE _ _ _ _ _ _ _ _);first|refine Qa ?_|refine Q6 ?_)|((with_reducible show xE _ _ _ _ _ _ _);refine Qk ?_))
    refine yo zF<|yo (zB 0) ?_;refine Q4 (Ja rfl rfl Q1 rfl rfl rfl (by first|exact beq_iff_eq.2 Q3|exact beq_eq_false_iff_ne.2 Q3)) ?_;refine yo zM ?_;first|refine Q4 zF ?_|refine Q4 zS ?_
    first|refine Q4 (zB 0) ?_|refine Q4 zS ?_
    first|refine Q4 (Ja rfl rfl Q1 rfl rfl rfl (by first|exact beq_iff_eq.2 Q3|rfl)) ?_|refine Q4 zS ?_
    first|refine Q4 zY ?_|refine Q4 zN ?_
    refine yl ?_;repeat(first|((with_reducible show sE _ _ _ _ _ _ _ _);first|refine Qa ?_|refine Q6 ?_|refine Q9 rfl ?_)|((with_reducible show xE _ _ _ _ _ _ _);refine Qk ?_))
    refine yo zF<|yo (zB 1)<|yo zF<|yo (zB 0) ?_;refine Q4 (QG rfl rfl Q1 rfl rfl rfl Q3) ?_;refine yo zF<|yo zR<|yo zA<|yl ?_;repeat(first|((with_reducible show sE _ _ _ _ _ _ _ _);first|refine Qa ?_|refine Q6 ?_)|((with_reducible show xE _ _ _ _ _ _ _);refine Qk ?_))
    refine yo zM<|yo znt<|yo zM<|yo zM<|yo znf<|yo zY<|yl ?_;repeat(first|((with_reducible show sE _ _ _ _ _ _ _ _);first|refine Qa ?_|refine Q6 ?_|refine Qq ?_|refine Q8 rfl ?_)|((with_reducible show xE _ _ _ _ _ _ _);refine Qk ?_))
    refine yo zA<|yl ?_;repeat(first|((with_reducible show sE _ _ _ _ _ _ _ _);refine Qh ?_)|((with_reducible show xE _ _ _ _ _ _ _);refine Qk ?_))
    refine QN (ι:=Unit) (fun _=>True) (fun _=>0) (fun _=>[(3,.pointer (some ⟨b3,0,none⟩)),(6,.int .i64 0)]) (fun _=>[.blk b3 (.cells ([.string ⟨name.toArray⟩,.int .i64 _,.slice Ab bs.length cb,.int .i64 size,.bool big,.int .i64 mn,.int .i64 mx,.int .i64 stop,.int .i64 count,.int .i64 elem,.slice An ([]:List (List UInt8)).length cn,.slice Ap parts.length cp]:List Value).toArray 65 (0,0))]) () [0] Q1 trivial (.cons rfl rfl (.cons rfl rfl .nil)) rfl ?_;rintro⟨⟩ _;repeat(first|((with_reducible show sE _ _ _ _ _ _ _ _);first|refine Qa ?_|refine Q6 ?_))
    refine yo zM<|yo zF<|yo (zB 0)<|yo zL<|yo zlr<|yl ?_;repeat(first|((with_reducible show sE _ _ _ _ _ _ _ _);first|refine Qa ?_|refine Q6 ?_|refine Q8 rfl ?_|refine XS ?_)|((with_reducible show xE _ _ _ _ _ _ _);refine Qk ?_))
    refine yo zA<|yl ?_;repeat(first|((with_reducible show sE _ _ _ _ _ _ _ _);refine QB ?_)|((with_reducible show xE _ _ _ _ _ _ _);refine Qk ?_))
    exact Q7 (by exact .inr rfl) rfl (.tmp rfl) (fun w hw=>Qo rfl hw)
theorem QjV(hk:¬(r.kind=6\/r.kind=10))(h7:r.kind≠7)(hnm:r.names=[]):
  Calls Tryz.prog 36 #[.agg #[.slice A n c],.agg (ruC r (.slice Ab r.bs.length cb) (.slice An r.names.length cn) (.slice Ap r.parts.length cp)).toArray] W (Jj W (J4 F r)):=by
 obtain⟨name,kind,bs,size,big,mn,mx,stop,count,elem,names,parts⟩:=r;simp only at hk h7 hnm;subst hnm;have hC:J4 F ⟨name,kind,bs,size,big,mn,mx,stop,count,elem,[],parts⟩=0:=by
  have h7':(kind != 7)=true:=bne_iff_ne.2 h7;have hu:Qz kind=false:=by unfold Qz XI;simp;omega
  unfold J4;simp only[hu,h7',Bool.false_and];rfl
 rw[hC];clear hC;have hk6:kind≠6:=fun e=>hk (.inl e);have hk10:kind≠10:=fun e=>hk (.inr e);clear hk h7;simp only[ruC];go_enter Tryz.func36,Tryz.ntmps36;refine Qs (M:=[]) (W:=W) (N:=76) (E:=[Vh,(1,.agg (Qrv:List Value).toArray)]) (O:=[]) ?_ mc3 QV;refine yq<|yr ?_;refine yB fun b2=>?_;refine yB fun b3=>?_;refine Qto ?_;refine QN (ι:=Unit) QdB (fun _=>0) (fun _=>[Q7Q,(6,.int .i64 0)]) (fun _=>[.blk b3 (.cells (Qrv:List Value).toArray 65 (0,0))]) () [0] Q1 trivial Q6Y rfl ?_;rintro⟨⟩ _;refine yq<|yq<|yr<|yo zM<|yo zF<|yo (zB 0)<|yo zL<|yo zlr<|yl<|yn<|y0<|ye<|yn<|yq<|yr<|yo zA<|yl<|yn<|yt ?_;exact Q7 mc4 rfl (.tmp rfl) (fun w hw=>Qo rfl hw)
theorem Qoi(hf:QX W W.heap.size A n F)(hl:RuL W r Ab cb An cn Ap cp)(hr:ROk n r)(hs:RSm r)(hk:r.kind=7):
  Calls Tryz.prog 36 #[.agg #[.slice A n c],.agg (ruC r (.slice Ab r.bs.length cb) (.slice An r.names.length cn) (.slice Ap r.parts.length cp)).toArray] W (Jj W (J4 F r)):=by
 obtain⟨hnp,hp1⟩:=hr.seven hk;have hpt:=hr.parts (.inl hk);have h12:=hr.p12
 obtain⟨b,o,rfl⟩:=hf.addr (by
  cases hp:r.parts with
  |nil=>rw[hp] at hp1;exact absurd hp1 Q1
  |cons x t=>have:=hpt x (by rw[hp];exact List.mem_cons_self ..);omega)
 obtain⟨bn,on,rfl,hcn⟩:=Qmn hl.n Q3;obtain⟨bp,op,rfl,hcp⟩:=QnZ hl.p Q3;have hC:J4 F r=J1 (Zv F r.names r.parts) 0 r.names.length:=by
  unfold J4;rw[hk];rfl
 have hse:=hs.each;obtain⟨C,hC'⟩:∃C,J4 F r=C:=⟨_,rfl⟩;rw[hC'] at hC ⊢;have HC:=Q2 hC;have HF:=Q2 hf;have HN:=Q2 hcn;have HP:=Q2 hcp;have HT:=Q2 hpt;have HSE:=Q2 hse;obtain⟨name,kind,bs,size,big,mn,mx,stop,count,elem,names,parts⟩:=r;simp only at hk hnp hp1 h12 HC HN HP HT HSE;subst hk;clear hf hl hr hs hC hC' hcn hcp hpt hse;simp only[ruC];go_enter Tryz.func36,Tryz.ntmps36;refine Qs (M:=[]) (W:=W) (N:=76) (E:=[Q5R,(1,.agg (Qtf:List Value).toArray)]) (O:=[]) ?_ mc3 QV;refine yq<|yr ?_;refine yB fun b2=>?_;refine yB fun b3=>?_;refine Qto ?_;refine QN (ι:=Nat) (fun i=>i<=names.length/\J1 (Zv F names parts) i (names.length - i)=C) (fun i=>names.length - i) (fun i=>[Q2k,Q7Q,(6,.int .i64 (i:Int))]) Qoc 0 [0,1] Q1 ⟨Nat.zero_le _,HC.out.symm⟩ J9 rfl ?_;rintro i ⟨hi,hfc⟩;have HI:=Q2 hfc;clear hfc;by_cases hin:i<names.length
 ·have hcn:=HN.out i hin;have hnl:=HSE.out (names.getD i []) (by rw[List.getD_eq_getElem?_getD,List.getElem?_eq_getElem hin];exact List.getElem_mem hin);obtain⟨nm,hnm⟩:∃nm,names.getD i []=nm:=⟨_,rfl⟩;rw[hnm] at hcn hnl;have HNM:=Q2 hnm;clear hnm
  by_cases he:nm=[]
  ·have htest:((⟨nm.toArray⟩:ByteArray).data.toList==(⟨#[]⟩:ByteArray).data.toList)=true:=by rw[he];rfl
   have hip:i<parts.length:=by omega
   have hcp:=HP.out i hip;have hxr:=HT.out (parts.getD i 0) (by rw[List.getD_eq_getElem?_getD,List.getElem?_eq_getElem hip];exact List.getElem_mem hip);obtain⟨x,hx⟩:∃x,parts.getD i 0=x:=⟨_,rfl⟩;rw[hx] at hcp hxr;obtain⟨rx,Ac,cc,Ad,cd,Ae,ce,hrx,hrg,_⟩:=HF.out.rl (i:=x.toNat) Q3
   have HV:=Q2 (show Zv F names parts i=if rx.kind≠1 then 13 else 0 by
    unfold Zv
    rw[HNM.out,he,hx,VY hrx]
    by_cases h1:rx.kind=1
    ·rw[h1];rfl
    ·rw[if_pos h1]
     show (if (rx.kind != 1)=true then (13:Int) else 0)=13
     rw[if_pos (bne_iff_ne.2 h1)])
   have HE:=Q2 he;clear he hrx hx;by_cases hx1:rx.kind=1
   ·refine Qr8 ?_;refine Qd zR ?_;refine Qd znf ?_;refine ZJ ?_;refine yn<|y0<|ys<|yn<|ye<|yn<|yr<|yo zM<|yo zP<|yo zA<|yl ?_;refine Qt (i+1) [0,1] Q1 ⟨hin,?_⟩ Q3 Q59 rfl;rw[<- Q14 hin (by rw[HV.out,if_neg (fun h=>h hx1)])];exact HI.out
   ·refine Qr8 ?_;refine Qd zR ?_;refine Qd znt ?_;refine ZJ ?_;refine yn<|y1<|yq<|yr<|yo zA<|yl<|yn<|yt<|yc<|yc<|yk<|yc<|yc<|yk<|yc ?_;refine Q7 mc4 rfl (.tmp rfl) (fun w hw=>Qo ?_ hw);have hv:=HV.out;rw[if_pos hx1] at hv;exact Qoq
  ·have htest:((⟨nm.toArray⟩:ByteArray).data.toList==(⟨#[]⟩:ByteArray).data.toList)=false:=by
    cases nm with
    |nil=>exact absurd rfl he
    |cons=>rfl
   have HE:=Q2 (show (nm==([]:List UInt8))=false from beq_eq_false_iff_ne.2 he);clear he;obtain⟨t,ht⟩:∃t,Qv nm=t:=⟨_,rfl⟩;have H1:=Q2 ht;clear ht;cases t with
   |false=>
    refine Qsa ?_;refine yo zO<|yl<|yn<|y1<|yq<|yr<|yo zA<|yl<|yn<|yt<|yc<|yk<|yc<|yc<|yk<|yc ?_;refine Q7 mc4 rfl (.tmp rfl) (fun w hw=>Qo ?_ hw);have hv:Zv F names parts i=7:=by unfold Zv;rw[HNM.out,HE.out,H1.out];rfl
    exact Qoq
   |true=>
    refine Qsa ?_;refine yo zO<|yl<|yn<|y0<|ys<|yn<|yq<|yr<|yo zA<|yl<|yn<|yb ?_;refine QN (ι:=Nat) (fun k=>k<=i/\∀j,j<k->¬names.getD j []=nm) (fun k=>i - k) (fun k=>[Q2k,Q7Q,(6,.int .i64 (i:Int)),(7,.int .i64 (k:Int))]) Qoc 0 [0,1] Q1 Q0G mc1 rfl ?_;rintro k ⟨hk,hno⟩;have HNO:=Q2 hno;clear hno;by_cases hki:k<i
    ·have hck:=HN.out k Q3
     have hkl:k<names.length:=by omega
     obtain⟨nk,hnk⟩:∃nm,names.getD k []=nm:=⟨_,rfl⟩;rw[hnk] at hck;have HNK:=Q2 hnk;clear hnk;by_cases heq:nk=nm
     ·have htest2:((⟨nk.toArray⟩:ByteArray).data.toList==(⟨nm.toArray⟩:ByteArray).data.toList)=true:=beq_iff_eq.2 heq;have HB:=Q2 (Qg6 (l:=names) (i:=i) (x:=nm) ⟨k,hki,hkl,HNK.out.trans heq⟩);clear heq;refine Qlv ?_;refine Qgy ?_;refine Qgy ?_;refine Qd zsa ?_;refine ZJ ?_;refine yn<|y1<|yq<|yr<|yo zA<|yl<|yn<|yt<|yk<|yc<|yc<|yk<|yk<|yc<|yc<|yk<|yc ?_;refine Q7 mc4 rfl (.tmp rfl) (fun w hw=>Qo ?_ hw)
      have hv:Zv F names parts i=8:=by unfold Zv;rw[HNM.out,HE.out,H1.out,HB.out];rfl
      exact Qoq
     ·have htest2:((⟨nk.toArray⟩:ByteArray).data.toList==(⟨nm.toArray⟩:ByteArray).data.toList)=false:=beq_eq_false_iff_ne.2 heq;have HEQ:=Q2 heq;clear heq;refine Qlv ?_;refine Qgy ?_;refine Qgy ?_;refine Qd zsa ?_;refine QhT ?_;refine Qt (k+1) [0,1] Q1 ⟨hki,fun j hj=>?_⟩ Q3 mc2 rfl
      rcases (show j<k\/j=k by omega) with h|rfl
      ·exact HNO.out j h
      ·rw[HNK.out];exact HEQ.out
    ·obtain rfl:k=i:=by omega
     have HB:=Q2 (Qfa (l:=names) (i:=k) (x:=nm) HNO.out);refine yq<|yq<|yr<|yo zM<|yo zM<|yo zlf<|yl<|yn<|y0<|ye<|yn<|yr<|yo zM<|yo zP<|yo zA<|yl ?_;refine Qt (k+1) [0,1] Q1 ⟨hin,?_⟩ Q3 Q59 rfl;rw[<- Q14 hin (by unfold Zv;rw[HNM.out,HE.out,H1.out,HB.out];rfl)];exact HI.out
 ·obtain rfl:i=names.length:=by omega
  refine yq<|yq<|yr<|yo zM<|yo zF<|yo (zB 0)<|yo zL<|yo zlf<|yl<|yn<|y0<|ye<|yn<|yq<|yr<|yo zA<|yl<|yn<|yt ?_;refine Q7 mc4 rfl (.tmp rfl) (fun w hw=>Qo ?_ hw);rw[<- HI.out,Nat.sub_self];rfl
theorem Qat(hf:QX W W.heap.size A n F)(hl:RuL W r Ab cb An cn Ap cp)(hr:ROk n r)(hs:RSm r):
  Calls Tryz.prog 36 #[.agg #[.slice A n c],.agg (ruC r (.slice Ab r.bs.length cb) (.slice An r.names.length cn) (.slice Ap r.parts.length cp)).toArray] W (Jj W (J4 F r)):=by
 by_cases h7:r.kind=7
 ·exact Qoi hf hl hr hs h7
 ·have hnm:r.names=[]:=List.eq_nil_of_length_eq_zero (by
   have hfm:=Jn.1 hr.formed
   rcases hfm.2.2.2.2.2.2.2.1 with h|h
   ·omega
   ·exact absurd h h7)
  by_cases hk:r.kind=6\/r.kind=10
  ·exact QoJ hf hr hk hnm
  ·exact QjV hk h7 hnm
end
end
end Go.Proofs.YtphkhfdmlcnoeaaGreatDoor
