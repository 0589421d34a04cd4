import Derived.Test.YtgdiadednlajgaaGreatDoorP22
namespace Go.Proofs.YtgdiadednlajgaaGreatDoor
set_option linter.unusedVariables false
set_option linter.unusedSimpArgs false
open Go.RowKit
theorem QaX{W:World}{A:Option Addr}{l:List (List UInt8)}(h:Rd W W.heap.size 1 A l.length (sv l))(h0:0<l.length):∃b o,A=some ⟨b,o,none⟩∧∀j:Nat,j<l.length→W.cell? ⟨b,o+j,none⟩=some (.string ⟨(l.getD j []).toArray⟩):=by
 obtain⟨b,o,e,_,hc⟩:=h.2 (by omega);refine⟨b,o,e,fun j hj=>hc j _ ?_⟩
 unfold sv
 rw[List.getElem?_map,List.getElem?_eq_getElem hj,List.getD_eq_getElem?_getD,List.getElem?_eq_getElem hj]
 rfl
theorem Qbd{W:World}{A:Option Addr}{l:List Int}(h:Rd W W.heap.size 1 A l.length (iv l))(h0:0<l.length):∃b o,A=some ⟨b,o,none⟩∧∀j:Nat,j<l.length→W.cell? ⟨b,o+j,none⟩=some (.int .i64 (l.getD j 0)):=by
 obtain⟨b,o,e,_,hc⟩:=h.2 (by omega);refine⟨b,o,e,fun j hj=>hc j _ ?_⟩
 unfold iv
 rw[List.getElem?_map,List.getElem?_eq_getElem hj,List.getD_eq_getElem?_getD,List.getElem?_eq_getElem hj]
 rfl
theorem Q83{l:List (List UInt8)}{i:Nat}{x:List UInt8}(h:∃j,j<i∧j<l.length∧l.getD j []=x):Zu (l.take i) x=true:=by
 obtain⟨j,hj,hl,he⟩:=h
 unfold Zu
 rw[List.contains_iff_mem];refine List.mem_of_getElem? (i:=j) ?_;rw[List.getElem?_take,if_pos hj,List.getElem?_eq_getElem hl,← he,List.getD_eq_getElem?_getD,List.getElem?_eq_getElem hl]
 rfl
theorem Q85{l:List (List UInt8)}{i:Nat}{x:List UInt8}(h:∀j,j<i→¬l.getD j []=x):Zu (l.take i) x=false:=by
 unfold Zu
 rw[← Bool.not_eq_true,List.contains_iff_mem];intro hm;obtain⟨j,hj⟩:=List.getElem?_of_mem hm;rw[List.getElem?_take] at hj
 split at hj
 ·next hji=>exact h j hji (by rw[List.getD_eq_getElem?_getD,hj];rfl)
 ·cases hj
section
variable {A Ab An Ap:Option Addr}{n c cb cn cp:Nat}{W:World}{F:List Rl}
set_option maxRecDepth 100000 in
set_option maxHeartbeats 16000000 in
theorem Qc4{r:Rl}(hf:Xq W W.heap.size A n F)(hr:ROk n r)(hk:r.kind=6∨r.kind=10)(hnm:r.names=[]):
  Calls Tryz.prog 27 #[.agg #[.slice A n c],.agg (ruC r (.slice Ab r.bs.length cb) (.slice An r.names.length cn) (.slice Ap r.parts.length cp)).toArray] W (ZP W (Jv F r)):=by
 have hcn:=hr.count hk;obtain⟨b,o,rfl⟩:=hf.addr (by omega);obtain⟨rc,Ac,cc,Ad,cd,Ae,ce,hrc,hrg,_⟩:=hf.rl (i:=r.count.toNat) (by omega);have HK:=Lib.hid (YN hrc);obtain⟨name,kind,bs,size,big,mn,mx,stop,count,elem,names,parts⟩:=r
 simp only at hk hcn hrc hrg HK hnm
 subst hnm
 have hC:Jv F ⟨name,kind,bs,size,big,mn,mx,stop,count,elem,[],parts⟩=if rc.kind≠2∧rc.kind≠3 then 13 else 0:=by
  have h7:(kind != 7)=true:=bne_iff_ne.2 (by omega)
  have hu:Qp kind=true:=by rcases hk with e|e<;>rw[e]<;>rfl
  unfold Jv
  rw[hu,HK.out,Bool.true_and]
  unfold Zf Zu
  simp only[h7]
  by_cases h2:rc.kind=2
  ·rw[h2];rfl
  ·by_cases h3:rc.kind=3
   ·rw[h3];rfl
   ·rw[if_pos (show rc.kind≠2∧rc.kind≠3 from ⟨h2,h3⟩)]
    simp [h2,h3]
 rw[hC];clear hrc hf hr hC HK
 simp only[ruC]
 rcases hk with rfl|rfl<;>
 ·go_enter Tryz.func27,Tryz.ntmps27
  refine QE (M:=[]) (W:=W) (N:=76) (E:=[(0,.agg #[.slice (some ⟨b,o,none⟩) n c]),(1,.agg ([.string ⟨name.toArray⟩,.int .i64 _,.slice Ab bs.length cb,.int .i64 size,.bool big,.int .i64 mn,.int .i64 mx,.int .i64 stop,.int .i64 count,.int .i64 elem,.slice An ([]:List (List UInt8)).length cn,.slice Ap parts.length cp]:List Value).toArray)]) (O:=[]) ?_ (Ag.cons (Ag.cons (Ag.nil rfl rfl) rfl) rfl) (Wd.start [] W)
  by_cases hb:rc.kind≠2∧rc.kind≠3
  ·rw[if_pos hb];obtain⟨hb2,hb3⟩:=hb
   repeat(first|((with_reducible show sE _ _ _ _ _ _ _ _);first|refine Q6 ?_|refine Q2 ?_))
   refine yB fun b2=>?_;refine yB fun b3=>?_;refine yo zA<|yl ?_
   repeat(first|((with_reducible show sE _ _ _ _ _ _ _ _);first|refine Q6 ?_|refine Q2 ?_)|((with_reducible show xE _ _ _ _ _ _ _);refine Qb ?_))
   refine yo zF<|yo (zB 0) ?_;refine Q1 (XB rfl rfl (by decide) rfl rfl rfl (by first|exact beq_iff_eq.2 (by omega)|exact beq_eq_false_iff_ne.2 (by omega))) ?_;refine yo zM ?_
   first|refine Q1 zF ?_|refine Q1 zS ?_
   first|refine Q1 (zB 0) ?_|refine Q1 zS ?_
   first|refine Q1 (XB rfl rfl (by decide) rfl rfl rfl (by first|exact beq_iff_eq.2 (by omega)|rfl)) ?_|refine Q1 zS ?_
   first|refine Q1 zY ?_|refine Q1 zN ?_
   refine yl ?_
   repeat(first|((with_reducible show sE _ _ _ _ _ _ _ _);first|refine Q6 ?_|refine Q2 ?_|refine Q5 rfl ?_)|((with_reducible show xE _ _ _ _ _ _ _);refine Qb ?_))
   refine yo zF<|yo (zB 1)<|yo zF<|yo (zB 0) ?_;refine Q1 (Qv rfl rfl (by decide) rfl rfl rfl (by omega)) ?_;refine yo zF<|yo zR<|yo zA<|yl ?_
   repeat(first|((with_reducible show sE _ _ _ _ _ _ _ _);first|refine Q6 ?_|refine Q2 ?_)|((with_reducible show xE _ _ _ _ _ _ _);refine Qb ?_))
   refine yo zM<|yo znt<|yo zM<|yo zM<|yo znt<|yo zY<|yl ?_
   repeat(first|((with_reducible show sE _ _ _ _ _ _ _ _);first|refine Q6 ?_|refine Q2 ?_|refine Q5 rfl ?_)|((with_reducible show xE _ _ _ _ _ _ _);refine Qb ?_))
   refine yo zA<|yl ?_
   repeat(first|((with_reducible show sE _ _ _ _ _ _ _ _);refine Ql ?_)|((with_reducible show xE _ _ _ _ _ _ _);first|refine Qb ?_|refine Qc ?_))
   exact Q9 (by exact .inr rfl) rfl (.tmp rfl) (fun w hw=>Qr rfl hw)
  ·rw[if_neg hb]
   have hb':rc.kind=2∨rc.kind=3:=by omega
   clear hb
   rcases hb' with hb2|hb3
   ·skip
    repeat(first|((with_reducible show sE _ _ _ _ _ _ _ _);first|refine Q6 ?_|refine Q2 ?_))
    refine yB fun b2=>?_;refine yB fun b3=>?_;refine yo zA<|yl ?_
    repeat(first|((with_reducible show sE _ _ _ _ _ _ _ _);first|refine Q6 ?_|refine Q2 ?_)|((with_reducible show xE _ _ _ _ _ _ _);refine Qb ?_))
    refine yo zF<|yo (zB 0) ?_;refine Q1 (XB rfl rfl (by decide) rfl rfl rfl (by first|exact beq_iff_eq.2 (by omega)|exact beq_eq_false_iff_ne.2 (by omega))) ?_;refine yo zM ?_
    first|refine Q1 zF ?_|refine Q1 zS ?_
    first|refine Q1 (zB 0) ?_|refine Q1 zS ?_
    first|refine Q1 (XB rfl rfl (by decide) rfl rfl rfl (by first|exact beq_iff_eq.2 (by omega)|rfl)) ?_|refine Q1 zS ?_
    first|refine Q1 zY ?_|refine Q1 zN ?_
    refine yl ?_
    repeat(first|((with_reducible show sE _ _ _ _ _ _ _ _);first|refine Q6 ?_|refine Q2 ?_|refine Q5 rfl ?_)|((with_reducible show xE _ _ _ _ _ _ _);refine Qb ?_))
    refine yo zF<|yo (zB 1)<|yo zF<|yo (zB 0) ?_;refine Q1 (Qv rfl rfl (by decide) rfl rfl rfl (by omega)) ?_;refine yo zF<|yo zR<|yo zA<|yl ?_
    repeat(first|((with_reducible show sE _ _ _ _ _ _ _ _);first|refine Q6 ?_|refine Q2 ?_)|((with_reducible show xE _ _ _ _ _ _ _);refine Qb ?_))
    refine yo zM<|yo znf<|yo zM<|yo zS<|yo zS<|yo zN<|yl ?_
    repeat(first|((with_reducible show sE _ _ _ _ _ _ _ _);first|refine Q6 ?_|refine Q2 ?_|refine Qh ?_|refine Q3 rfl ?_)|((with_reducible show xE _ _ _ _ _ _ _);refine Qb ?_))
    refine yo zA<|yl ?_
    repeat(first|((with_reducible show sE _ _ _ _ _ _ _ _);refine Qe ?_)|((with_reducible show xE _ _ _ _ _ _ _);refine Qb ?_))
    refine X0 (ι:=Unit) (fun _=>True) (fun _=>0) (fun _=>[(3,.pointer (some ⟨b3,0,none⟩)),(6,.int .i64 0)]) (fun _=>[.blk b3 (.cells ([.string ⟨name.toArray⟩,.int .i64 _,.slice Ab bs.length cb,.int .i64 size,.bool big,.int .i64 mn,.int .i64 mx,.int .i64 stop,.int .i64 count,.int .i64 elem,.slice An ([]:List (List UInt8)).length cn,.slice Ap parts.length cp]:List Value).toArray 52 (0,0))]) () [0] (by decide) trivial (.cons rfl rfl (.cons rfl rfl .nil)) rfl ?_
    rintro⟨⟩ _
    repeat(first|((with_reducible show sE _ _ _ _ _ _ _ _);first|refine Q6 ?_|refine Q2 ?_))
    refine yo zM<|yo zF<|yo (zB 0)<|yo zL<|yo zlr<|yl ?_
    repeat(first|((with_reducible show sE _ _ _ _ _ _ _ _);first|refine Q6 ?_|refine Q2 ?_|refine Q3 rfl ?_|refine QX ?_)|((with_reducible show xE _ _ _ _ _ _ _);refine Qb ?_))
    refine yo zA<|yl ?_
    repeat(first|((with_reducible show sE _ _ _ _ _ _ _ _);refine Ql ?_)|((with_reducible show xE _ _ _ _ _ _ _);refine Qb ?_))
    exact Q9 (by exact .inr rfl) rfl (.tmp rfl) (fun w hw=>Qr rfl hw)
   ·skip
    repeat(first|((with_reducible show sE _ _ _ _ _ _ _ _);first|refine Q6 ?_|refine Q2 ?_))
    refine yB fun b2=>?_;refine yB fun b3=>?_;refine yo zA<|yl ?_
    repeat(first|((with_reducible show sE _ _ _ _ _ _ _ _);first|refine Q6 ?_|refine Q2 ?_)|((with_reducible show xE _ _ _ _ _ _ _);refine Qb ?_))
    refine yo zF<|yo (zB 0) ?_;refine Q1 (XB rfl rfl (by decide) rfl rfl rfl (by first|exact beq_iff_eq.2 (by omega)|exact beq_eq_false_iff_ne.2 (by omega))) ?_;refine yo zM ?_
    first|refine Q1 zF ?_|refine Q1 zS ?_
    first|refine Q1 (zB 0) ?_|refine Q1 zS ?_
    first|refine Q1 (XB rfl rfl (by decide) rfl rfl rfl (by first|exact beq_iff_eq.2 (by omega)|rfl)) ?_|refine Q1 zS ?_
    first|refine Q1 zY ?_|refine Q1 zN ?_
    refine yl ?_
    repeat(first|((with_reducible show sE _ _ _ _ _ _ _ _);first|refine Q6 ?_|refine Q2 ?_|refine Q5 rfl ?_)|((with_reducible show xE _ _ _ _ _ _ _);refine Qb ?_))
    refine yo zF<|yo (zB 1)<|yo zF<|yo (zB 0) ?_;refine Q1 (Qv rfl rfl (by decide) rfl rfl rfl (by omega)) ?_;refine yo zF<|yo zR<|yo zA<|yl ?_
    repeat(first|((with_reducible show sE _ _ _ _ _ _ _ _);first|refine Q6 ?_|refine Q2 ?_)|((with_reducible show xE _ _ _ _ _ _ _);refine Qb ?_))
    refine yo zM<|yo znt<|yo zM<|yo zM<|yo znf<|yo zY<|yl ?_
    repeat(first|((with_reducible show sE _ _ _ _ _ _ _ _);first|refine Q6 ?_|refine Q2 ?_|refine Qh ?_|refine Q3 rfl ?_)|((with_reducible show xE _ _ _ _ _ _ _);refine Qb ?_))
    refine yo zA<|yl ?_
    repeat(first|((with_reducible show sE _ _ _ _ _ _ _ _);refine Qe ?_)|((with_reducible show xE _ _ _ _ _ _ _);refine Qb ?_))
    refine X0 (ι:=Unit) (fun _=>True) (fun _=>0) (fun _=>[(3,.pointer (some ⟨b3,0,none⟩)),(6,.int .i64 0)]) (fun _=>[.blk b3 (.cells ([.string ⟨name.toArray⟩,.int .i64 _,.slice Ab bs.length cb,.int .i64 size,.bool big,.int .i64 mn,.int .i64 mx,.int .i64 stop,.int .i64 count,.int .i64 elem,.slice An ([]:List (List UInt8)).length cn,.slice Ap parts.length cp]:List Value).toArray 52 (0,0))]) () [0] (by decide) trivial (.cons rfl rfl (.cons rfl rfl .nil)) rfl ?_
    rintro⟨⟩ _
    repeat(first|((with_reducible show sE _ _ _ _ _ _ _ _);first|refine Q6 ?_|refine Q2 ?_))
    refine yo zM<|yo zF<|yo (zB 0)<|yo zL<|yo zlr<|yl ?_
    repeat(first|((with_reducible show sE _ _ _ _ _ _ _ _);first|refine Q6 ?_|refine Q2 ?_|refine Q3 rfl ?_|refine QX ?_)|((with_reducible show xE _ _ _ _ _ _ _);refine Qb ?_))
    refine yo zA<|yl ?_
    repeat(first|((with_reducible show sE _ _ _ _ _ _ _ _);refine Ql ?_)|((with_reducible show xE _ _ _ _ _ _ _);refine Qb ?_))
    exact Q9 (by exact .inr rfl) rfl (.tmp rfl) (fun w hw=>Qr rfl hw)
set_option maxRecDepth 100000 in
set_option maxHeartbeats 16000000 in
theorem Qcu{r:Rl}(hk:¬(r.kind=6∨r.kind=10))(h7:r.kind≠7)(hnm:r.names=[]):
  Calls Tryz.prog 27 #[.agg #[.slice A n c],.agg (ruC r (.slice Ab r.bs.length cb) (.slice An r.names.length cn) (.slice Ap r.parts.length cp)).toArray] W (ZP W (Jv F r)):=by
 obtain⟨name,kind,bs,size,big,mn,mx,stop,count,elem,names,parts⟩:=r
 simp only at hk h7 hnm
 subst hnm
 have hC:Jv F ⟨name,kind,bs,size,big,mn,mx,stop,count,elem,[],parts⟩=0:=by
  have h7':(kind != 7)=true:=bne_iff_ne.2 h7
  have hu:Qp kind=false:=by unfold Qp Zu;simp;omega
  unfold Jv
  simp only[hu,h7',Bool.false_and]
  rfl
 rw[hC];clear hC
 have hk6:kind≠6:=fun e=>hk (.inl e)
 have hk10:kind≠10:=fun e=>hk (.inr e)
 clear hk h7
 simp only[ruC]
 go_enter Tryz.func27,Tryz.ntmps27
 refine QE (M:=[]) (W:=W) (N:=76) (E:=[(0,.agg #[.slice A n c]),(1,.agg ([.string ⟨name.toArray⟩,.int .i64 kind,.slice Ab bs.length cb,.int .i64 size,.bool big,.int .i64 mn,.int .i64 mx,.int .i64 stop,.int .i64 count,.int .i64 elem,.slice An ([]:List (List UInt8)).length cn,.slice Ap parts.length cp]:List Value).toArray)]) (O:=[]) ?_ (Ag.cons (Ag.cons (Ag.nil rfl rfl) rfl) rfl) (Wd.start [] W);refine yq<|yr ?_;refine yB fun b2=>?_;refine yB fun b3=>?_;refine yo zA<|yl<|yn<|yq<|yq<|yr<|yo zF<|yo (zB 0)<|yo zef<|yo zM<|yo zF<|yo (zB 0)<|yo zef<|yo zN<|yl<|yn<|y0<|ys<|yn<|yq<|yq<|yr<|yo zA<|yl<|yn<|yb ?_;refine X0 (ι:=Unit) (fun _=>True) (fun _=>0) (fun _=>[(3,.pointer (some ⟨b3,0,none⟩)),(6,.int .i64 0)]) (fun _=>[.blk b3 (.cells ([.string ⟨name.toArray⟩,.int .i64 kind,.slice Ab bs.length cb,.int .i64 size,.bool big,.int .i64 mn,.int .i64 mx,.int .i64 stop,.int .i64 count,.int .i64 elem,.slice An ([]:List (List UInt8)).length cn,.slice Ap parts.length cp]:List Value).toArray 52 (0,0))]) () [0] (by decide) trivial (.cons rfl rfl (.cons rfl rfl .nil)) rfl ?_
 rintro⟨⟩ _
 refine yq<|yq<|yr<|yo zM<|yo zF<|yo (zB 0)<|yo zL<|yo zlr<|yl<|yn<|y0<|ye<|yn<|yq<|yr<|yo zA<|yl<|yn<|yt ?_;exact Q9 (by exact .inr rfl) rfl (.tmp rfl) (fun w hw=>Qr rfl hw)
set_option maxRecDepth 100000 in
set_option maxHeartbeats 16000000 in
theorem Qbt{r:Rl}(hf:Xq W W.heap.size A n F)(hl:RuL W r Ab cb An cn Ap cp)(hr:ROk n r)(hs:RSm r)(hk:r.kind=7):
  Calls Tryz.prog 27 #[.agg #[.slice A n c],.agg (ruC r (.slice Ab r.bs.length cb) (.slice An r.names.length cn) (.slice Ap r.parts.length cp)).toArray] W (ZP W (Jv F r)):=by
 obtain⟨hnp,hp1⟩:=hr.seven hk;have hpt:=hr.parts (.inl hk);have h12:=hr.p12
 obtain⟨b,o,rfl⟩:=hf.addr (by
  cases hp:r.parts with
  |nil=>rw[hp] at hp1;exact absurd hp1 (by decide)
  |cons x t=>have:=hpt x (by rw[hp];exact List.mem_cons_self ..);omega)
 obtain⟨bn,on,rfl,hcn⟩:=QaX hl.n (by omega);obtain⟨bp,op,rfl,hcp⟩:=Qbd hl.p (by omega)
 have hC:Jv F r=Jp (J2 F r.names r.parts) 0 r.names.length:=by
  unfold Jv
  rw[hk]
  rfl
 have hse:=hs.each;obtain⟨C,hC'⟩:∃C,Jv F r=C:=⟨_,rfl⟩;rw[hC'] at hC ⊢;have HC:=Lib.hid hC;have HF:=Lib.hid hf;have HN:=Lib.hid hcn;have HP:=Lib.hid hcp;have HT:=Lib.hid hpt;have HSE:=Lib.hid hse;obtain⟨name,kind,bs,size,big,mn,mx,stop,count,elem,names,parts⟩:=r
 simp only at hk hnp hp1 h12 HC HN HP HT HSE
 subst hk;clear hf hl hr hs hC hC' hcn hcp hpt hse
 simp only[ruC]
 go_enter Tryz.func27,Tryz.ntmps27
 refine QE (M:=[]) (W:=W) (N:=76) (E:=[(0,.agg #[.slice (some ⟨b,o,none⟩) n c]),(1,.agg ([.string ⟨name.toArray⟩,.int .i64 7,.slice Ab bs.length cb,.int .i64 size,.bool big,.int .i64 mn,.int .i64 mx,.int .i64 stop,.int .i64 count,.int .i64 elem,.slice (some ⟨bn,on,none⟩) names.length cn,.slice (some ⟨bp,op,none⟩) parts.length cp]:List Value).toArray)]) (O:=[]) ?_ (Ag.cons (Ag.cons (Ag.nil rfl rfl) rfl) rfl) (Wd.start [] W);refine yq<|yr ?_;refine yB fun b2=>?_;refine yB fun b3=>?_;refine yo zA<|yl<|yn<|yq<|yq<|yr<|yo zF<|yo (zB 0)<|yo zef<|yo zM<|yo zF<|yo (zB 0)<|yo zef<|yo zN<|yl<|yn<|y0<|ys<|yn<|yq<|yq<|yr<|yo zA<|yl<|yn<|yb ?_;refine X0 (ι:=Nat) (fun i=>i≤names.length∧Jp (J2 F names parts) i (names.length - i)=C) (fun i=>names.length - i) (fun i=>[(2,.pointer (some ⟨b2,0,none⟩)),(3,.pointer (some ⟨b3,0,none⟩)),(6,.int .i64 (i:Int))]) (fun _=>[.blk b3 (.cells ([.string ⟨name.toArray⟩,.int .i64 7,.slice Ab bs.length cb,.int .i64 size,.bool big,.int .i64 mn,.int .i64 mx,.int .i64 stop,.int .i64 count,.int .i64 elem,.slice (some ⟨bn,on,none⟩) names.length cn,.slice (some ⟨bp,op,none⟩) parts.length cp]:List Value).toArray 52 (0,0)),.blk b2 (.cells ([.slice (some ⟨b,o,none⟩) n c]:List Value).toArray 24 (0,0))]) 0 [0,1] (by decide) ⟨Nat.zero_le _,HC.out.symm⟩ (.cons rfl rfl (.cons rfl rfl (.cons rfl rfl .nil))) rfl ?_
 rintro i ⟨hi,hfc⟩
 have HI:=Lib.hid hfc;clear hfc
 by_cases hin:i<names.length
 ·have hcn:=HN.out i hin;have hnl:=HSE.out (names.getD i []) (by rw[List.getD_eq_getElem?_getD,List.getElem?_eq_getElem hin];exact List.getElem_mem hin);obtain⟨nm,hnm⟩:∃nm,names.getD i []=nm:=⟨_,rfl⟩;rw[hnm] at hcn hnl;have HNM:=Lib.hid hnm;clear hnm
  by_cases he:nm=[]
  ·have htest:((⟨nm.toArray⟩:ByteArray).data.toList==(⟨#[]⟩:ByteArray).data.toList)=true:=by rw[he];rfl
   have hip:i<parts.length:=by omega
   have hcp:=HP.out i hip;have hxr:=HT.out (parts.getD i 0) (by rw[List.getD_eq_getElem?_getD,List.getElem?_eq_getElem hip];exact List.getElem_mem hip);obtain⟨x,hx⟩:∃x,parts.getD i 0=x:=⟨_,rfl⟩;rw[hx] at hcp hxr;obtain⟨rx,Ac,cc,Ad,cd,Ae,ce,hrx,hrg,_⟩:=HF.out.rl (i:=x.toNat) (by omega)
   have HV:=Lib.hid (show J2 F names parts i=if rx.kind≠1 then 13 else 0 by
    unfold J2
    rw[HNM.out,he,hx,YN hrx]
    by_cases h1:rx.kind=1
    ·rw[h1];rfl
    ·rw[if_pos h1]
     show (if (rx.kind != 1)=true then (13:Int) else 0)=13
     rw[if_pos (bne_iff_ne.2 h1)])
   have HE:=Lib.hid he;clear he hrx hx
   by_cases hx1:rx.kind=1
   ·refine yq<|yq<|yr<|yo zM<|yo zF<|yo (zB 0)<|yo zL<|yo zlt<|yl<|yn<|y1<|ys<|yn<|yq<|yb<|yq<|yq<|yr<|yo zF<|yo (zB 0)<|yo zM<|yo zi1<|yo zC<|yo zsa<|yl<|yn<|y1<|yq<|yq<|Xm (by kernel_rfl) (by kernel_rfl) ?_;refine Qd zF ?_;refine Qd (zB 1) ?_;refine Qd zF ?_;refine Qd (zB 0) ?_;refine Qd zM ?_;refine Qd zi1 ?_;refine Qd zC ?_;refine Qd (Qv rfl rfl (by decide) rfl rfl rfl (by omega)) ?_;refine Qd zF ?_;refine Qd zR ?_;refine Qd znf ?_;refine XS ?_;refine yn<|y0<|ys<|yn<|ye<|yn<|yr<|yo zM<|yo zP<|yo zA<|yl ?_;refine QA (i+1) [0,1] (by decide) ⟨hin,?_⟩ (by omega) (.cons rfl rfl (.cons rfl rfl (.cons rfl (by go_num) .nil))) rfl;rw[← Q0e hin (by rw[HV.out,if_neg (fun h=>h hx1)])];exact HI.out
   ·refine yq<|yq<|yr<|yo zM<|yo zF<|yo (zB 0)<|yo zL<|yo zlt<|yl<|yn<|y1<|ys<|yn<|yq<|yb<|yq<|yq<|yr<|yo zF<|yo (zB 0)<|yo zM<|yo zi1<|yo zC<|yo zsa<|yl<|yn<|y1<|yq<|yq<|Xm (by kernel_rfl) (by kernel_rfl) ?_;refine Qd zF ?_;refine Qd (zB 1) ?_;refine Qd zF ?_;refine Qd (zB 0) ?_;refine Qd zM ?_;refine Qd zi1 ?_;refine Qd zC ?_;refine Qd (Qv rfl rfl (by decide) rfl rfl rfl (by omega)) ?_;refine Qd zF ?_;refine Qd zR ?_;refine Qd znt ?_;refine XS ?_;refine yn<|y1<|yq<|yr<|yo zA<|yl<|yn<|yt<|yc<|yc<|yk<|yc<|yc<|yk<|yc ?_;refine Q9 (by exact .inr rfl) rfl (.tmp rfl) (fun w hw=>Qr ?_ hw);have hv:=HV.out;rw[if_pos hx1] at hv;rw[← HI.out,Va hin (by rw[hv];decide),hv]
  ·have htest:((⟨nm.toArray⟩:ByteArray).data.toList==(⟨#[]⟩:ByteArray).data.toList)=false:=by
    cases nm with
    |nil=>exact absurd rfl he
    |cons=>rfl
   have HE:=Lib.hid (show (nm==([]:List UInt8))=false from beq_eq_false_iff_ne.2 he);clear he;obtain⟨t,ht⟩:∃t,Qi nm=t:=⟨_,rfl⟩;have H1:=Lib.hid ht;clear ht
   cases t with
   |false=>
    refine yq<|yq<|yr<|yo zM<|yo zF<|yo (zB 0)<|yo zL<|yo zlt<|yl<|yn<|y1<|ys<|yn<|yq<|yb<|yq<|yq<|yr<|yo zF<|yo (zB 0)<|yo zM<|yo zi1<|yo zC<|yo zsa<|yl<|yn<|y0<|ys<|yn<|yq<|yq<|yr<|yo zF<|yo (zB 0)<|yo zM<|yo zi1<|yo zC ?_;refine Q1 (Q4 (f:=48) rfl rfl (by decide) rfl rfl (fun w hw=>(ZA nm hnl w).mono (fun _ _ h=>by rw[H1.out] at h;exact h))) ?_;refine yo zO<|yl<|yn<|y1<|yq<|yr<|yo zA<|yl<|yn<|yt<|yc<|yk<|yc<|yc<|yk<|yc ?_;refine Q9 (by exact .inr rfl) rfl (.tmp rfl) (fun w hw=>Qr ?_ hw)
    have hv:J2 F names parts i=7:=by unfold J2;rw[HNM.out,HE.out,H1.out];rfl
    rw[← HI.out,Va hin (by rw[hv];decide),hv]
   |true=>
    refine yq<|yq<|yr<|yo zM<|yo zF<|yo (zB 0)<|yo zL<|yo zlt<|yl<|yn<|y1<|ys<|yn<|yq<|yb<|yq<|yq<|yr<|yo zF<|yo (zB 0)<|yo zM<|yo zi1<|yo zC<|yo zsa<|yl<|yn<|y0<|ys<|yn<|yq<|yq<|yr<|yo zF<|yo (zB 0)<|yo zM<|yo zi1<|yo zC ?_;refine Q1 (Q4 (f:=48) rfl rfl (by decide) rfl rfl (fun w hw=>(ZA nm hnl w).mono (fun _ _ h=>by rw[H1.out] at h;exact h))) ?_;refine yo zO<|yl<|yn<|y0<|ys<|yn<|yq<|yr<|yo zA<|yl<|yn<|yb ?_;refine X0 (ι:=Nat) (fun k=>k≤i∧∀j,j<k→¬names.getD j []=nm) (fun k=>i - k) (fun k=>[(2,.pointer (some ⟨b2,0,none⟩)),(3,.pointer (some ⟨b3,0,none⟩)),(6,.int .i64 (i:Int)),(7,.int .i64 (k:Int))]) (fun _=>[.blk b3 (.cells ([.string ⟨name.toArray⟩,.int .i64 7,.slice Ab bs.length cb,.int .i64 size,.bool big,.int .i64 mn,.int .i64 mx,.int .i64 stop,.int .i64 count,.int .i64 elem,.slice (some ⟨bn,on,none⟩) names.length cn,.slice (some ⟨bp,op,none⟩) parts.length cp]:List Value).toArray 52 (0,0)),.blk b2 (.cells ([.slice (some ⟨b,o,none⟩) n c]:List Value).toArray 24 (0,0))]) 0 [0,1] (by decide) ⟨Nat.zero_le _,fun j hj=>absurd hj (Nat.not_lt_zero _)⟩ (.cons rfl rfl (.cons rfl rfl (.cons rfl rfl (.cons rfl rfl .nil)))) rfl ?_
    rintro k ⟨hk,hno⟩
    have HNO:=Lib.hid hno;clear hno
    by_cases hki:k<i
    ·have hck:=HN.out k (by omega)
     have hkl:k<names.length:=by omega
     obtain⟨nk,hnk⟩:∃nm,names.getD k []=nm:=⟨_,rfl⟩;rw[hnk] at hck;have HNK:=Lib.hid hnk;clear hnk
     by_cases heq:nk=nm
     ·have htest2:((⟨nk.toArray⟩:ByteArray).data.toList==(⟨nm.toArray⟩:ByteArray).data.toList)=true:=beq_iff_eq.2 heq;have HB:=Lib.hid (Q83 (l:=names) (i:=i) (x:=nm) ⟨k,hki,hkl,HNK.out.trans heq⟩);clear heq;refine yq<|yq<|yr<|yo zM<|yo zM<|yo zlt<|yl<|yn<|y1<|ys<|yn<|yq<|yb<|yq<|Xm (by kernel_rfl) (by kernel_rfl) ?_;refine Qd zF ?_;refine Qd (zB 0) ?_;refine Qd zM ?_;refine Qd zi1 ?_;refine Qd zC ?_;refine Qd zF ?_;refine Qd (zB 0) ?_;refine Qd zM ?_;refine Qd zi1 ?_;refine Qd zC ?_;refine Qd zsa ?_;refine XS ?_;refine yn<|y1<|yq<|yr<|yo zA<|yl<|yn<|yt<|yk<|yc<|yc<|yk<|yk<|yc<|yc<|yk<|yc ?_;refine Q9 (by exact .inr rfl) rfl (.tmp rfl) (fun w hw=>Qr ?_ hw)
      have hv:J2 F names parts i=8:=by unfold J2;rw[HNM.out,HE.out,H1.out,HB.out];rfl
      rw[← HI.out,Va hin (by rw[hv];decide),hv]
     ·have htest2:((⟨nk.toArray⟩:ByteArray).data.toList==(⟨nm.toArray⟩:ByteArray).data.toList)=false:=beq_eq_false_iff_ne.2 heq;have HEQ:=Lib.hid heq;clear heq;refine yq<|yq<|yr<|yo zM<|yo zM<|yo zlt<|yl<|yn<|y1<|ys<|yn<|yq<|yb<|yq<|Xm (by kernel_rfl) (by kernel_rfl) ?_;refine Qd zF ?_;refine Qd (zB 0) ?_;refine Qd zM ?_;refine Qd zi1 ?_;refine Qd zC ?_;refine Qd zF ?_;refine Qd (zB 0) ?_;refine Qd zM ?_;refine Qd zi1 ?_;refine Qd zC ?_;refine Qd zsa ?_;refine XS ?_;refine yn<|y0<|ys<|yn<|yr<|yo zM<|yo zP<|yo zA<|yl ?_;refine QA (k+1) [0,1] (by decide) ⟨hki,fun j hj=>?_⟩ (by omega) (.cons rfl rfl (.cons rfl rfl (.cons rfl rfl (.cons rfl (by go_num) .nil)))) rfl
      rcases (show j<k∨j=k by omega) with h|rfl
      ·exact HNO.out j h
      ·rw[HNK.out];exact HEQ.out
    ·obtain rfl:k=i:=by omega
     have HB:=Lib.hid (Q85 (l:=names) (i:=k) (x:=nm) HNO.out);refine yq<|yq<|yr<|yo zM<|yo zM<|yo zlf<|yl<|yn<|y0<|ye<|yn<|yr<|yo zM<|yo zP<|yo zA<|yl ?_;refine QA (k+1) [0,1] (by decide) ⟨hin,?_⟩ (by omega) (.cons rfl rfl (.cons rfl rfl (.cons rfl (by go_num) .nil))) rfl;rw[← Q0e hin (by unfold J2;rw[HNM.out,HE.out,H1.out,HB.out];rfl)];exact HI.out
 ·obtain rfl:i=names.length:=by omega
  refine yq<|yq<|yr<|yo zM<|yo zF<|yo (zB 0)<|yo zL<|yo zlf<|yl<|yn<|y0<|ye<|yn<|yq<|yr<|yo zA<|yl<|yn<|yt ?_;refine Q9 (by exact .inr rfl) rfl (.tmp rfl) (fun w hw=>Qr ?_ hw);rw[← HI.out,Nat.sub_self]
  rfl
theorem Q0T{r:Rl}(hf:Xq W W.heap.size A n F)(hl:RuL W r Ab cb An cn Ap cp)(hr:ROk n r)(hs:RSm r):
  Calls Tryz.prog 27 #[.agg #[.slice A n c],.agg (ruC r (.slice Ab r.bs.length cb) (.slice An r.names.length cn) (.slice Ap r.parts.length cp)).toArray] W (ZP W (Jv F r)):=by
 by_cases h7:r.kind=7
 ·exact Qbt hf hl hr hs h7
 ·have hnm:r.names=[]:=List.eq_nil_of_length_eq_zero (by
   have hfm:=JK.1 hr.formed
   rcases hfm.2.2.2.2.2.2.2.1 with h|h
   ·omega
   ·exact absurd h h7)
  by_cases hk:r.kind=6∨r.kind=10
  ·exact Qc4 hf hr hk hnm
  ·exact Qcu hk h7 hnm
end
end Go.Proofs.YtgdiadednlajgaaGreatDoor
