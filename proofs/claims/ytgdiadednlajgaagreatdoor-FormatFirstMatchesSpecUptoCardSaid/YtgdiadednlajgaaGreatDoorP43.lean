import Derived.Test.YtgdiadednlajgaaGreatDoorP42
namespace Go.Proofs.YtgdiadednlajgaaGreatDoor
set_option linter.unusedVariables false
set_option linter.unusedSimpArgs false
open Go.RowKit
theorem Q8C{P:Program}{Q:Exit→Act→World→Prop}{ops:Array Oper}{N:Nat}{M:List Nat}{W:World}{E:Env}{O:List Qg}(i:Nat){A:Option Addr}{n c s:Nat}{e:TypeId}{xs:List Value}{l:List Oper}(hO:O[i]? =some (.row A n c e s xs))(hn:0<n)(h:∀b,A=some ⟨b,0,none⟩→lE P ops Q N M W E O l):lE P ops Q N M W E O l:=fun a w ha hw=>by
 rcases (hw.own i _ hO).2 with ⟨hv,_⟩|⟨g,cap,cur,hv,_⟩
 ·have:n=0:=by
   simp only[Value.slice.injEq] at hv
   omega
  omega
 ·simp only[Value.slice.injEq] at hv
  exact h g hv.1 a w ha hw
section
variable {A:Option Addr}{n c:Nat}{W:World}{F:List Rl}{k:Int}
set_option maxRecDepth 100000 in
set_option maxHeartbeats 16000000 in
theorem Q42(hf:Xq W W.heap.size A n F)(hs:FSm F)(hc:n≤c)(hg:GV W)(hk:-9223372036854775808≤k∧k≤9223372036854775807):
  Calls Tryz.prog 4 #[.agg #[.slice A n c],.int .i64 k] W (QT W true):=by
 have HG:=Lib.hid hg;have HF0:=Lib.hid hf;have HS:=Lib.hid hs;have hlen:F.length=n:=hf.1;have hnb:n≤1048576:=hlen▸hs.1;have HLEN:=Lib.hid hlen;clear hf hs hg hlen
 go_enter Tryz.func4,Tryz.ntmps4
 refine QE (M:=[]) (W:=W) (N:=95) (E:=[(0,.agg #[.slice A n c]),(1,.int .i64 k)]) (O:=[]) ?_ (Ag.cons (Ag.cons (Ag.nil rfl rfl) rfl) rfl) (Wd.start [] W);refine yq<|yr ?_;refine yB fun b2=>?_;refine yo zA<|yl<|yn<|yq<|yq<|yr ?_;refine Q1 (Q4 (xs:=[]) (vs:=[]) (f:=9) rfl rfl (by decide) rfl rfl (fun w hw=>ZK (HG.out.on hw.k.below))) ?_;refine yo zO<|yl<|yn<|y0<|ys<|yn<|yq<|yr ?_;refine Q3E (fun w1 hw1=>?_);have r2:w1.rangeAt b2 0 [.slice A n c]:=hw1.range_blk 0 rfl;have HF:=Lib.hid (HF0.out.on hw1.k.below);have HB1:=Lib.hid hw1.k.below;have HG1:=Lib.hid (HG.out.on hw1.k.below);clear hw1;obtain⟨⟨ca,cb⟩,hch⟩:∃p,Jw F k=p:=⟨_,rfl⟩;have HCH:=Lib.hid hch
 by_cases hz:(ca,cb)=((0,0):Int×Int)
 ·obtain⟨rfl,rfl⟩:ca=0∧cb=0:=by cases hz;exact⟨rfl,rfl⟩
  obtain⟨hff,hk0,hkn⟩:=Q32 hch;rw[HLEN.out] at hkn;have hck:=VP hff;have hpo:=KP hck;have hn:=Q1N hck;rw[HLEN.out] at hn;obtain⟨hn0,hn40⟩:=hn;obtain⟨m,rfl⟩:∃m:Nat,k=(m:Int):=⟨k.toNat,by omega⟩
  have hmn:m<n:=by omega
  have HFO:=Lib.hid hpo.fok;have HUS:=Lib.hid (Q8P hpo);have HFF:=Lib.hid hff
  have hfi:ZT F (m:Int)=Zk ((JS F).getD m Z2) 256:=by unfold ZT;rw[if_pos hch];rfl
  have hle:Ju F (m:Int)=(XG F).getD m 0:=by unfold Ju;rw[if_pos hch];rfl
  have HFI:=Lib.hid hfi;have HLE:=Lib.hid hle;obtain⟨S,hS⟩:∃S,(JS F).getD m Z2=S:=⟨_,rfl⟩;have HST:=Lib.hid hS
  have hll:(XG F).length=n:=by unfold XG;rw[XO];exact HLEN.out
  have HLL:=Lib.hid hll;have hsl:=Q1r S 256;have hin:inB (m:Int) 0 ((n:Int) - 1)=true:=Kh (by omega);have HIN:=Lib.hid hin
  have hcell:(iv (XG F))[0+m]? =some (.int .i64 ((XG F).getD m 0)):=by rw[Nat.zero_add];exact Q5u (by rw[hll];exact hmn)
  have HCELL:=Lib.hid hcell;rw[hS] at HFI;clear hch hck hpo hff hfi hle hS hll hin hz hcell;refine yo zE<|yo zM ?_;(refine Qa (Qx _ _ _ (f:=12) rfl rfl rfl (fun w hw=>Q2e hw ((J0 (HF.out.on hw.k.below) HS.out hc (HG1.out.on hw.k.below)).mono (fun _ _ h=>by rw[HCH.out,HFI.out] at h;exact h)))) rfl (by decide) (fun z hz=>?_);obtain⟨A1,c1⟩:=z;replace hz:(Zk S 256).length≤c1:=hz);refine yo zM<|yo zX<|yo zX ?_;refine yA fun b6=>?_;refine yo zA ?_;refine yW 0 ?_;refine yl<|yn<|yq<|yr<|yo zE<|yo zM ?_;refine Q1 (Q4 (f:=13) rfl rfl (by decide) rfl rfl (fun w hw=>(ZG (HF.out.on hw.k.below) HS.out hc (HG1.out.on hw.k.below)).mono (fun _ _ h=>by rw[HCH.out,HLE.out] at h;exact h))) ?_;refine yo zM<|yo zX<|yo zX ?_;refine yA fun b8=>?_;refine yo zA ?_;refine yW 0 ?_;refine yl<|yn<|yq<|yr<|yo zE ?_;refine Q1 (Q4 (f:=11) rfl rfl (by decide) rfl rfl (fun w hw=>(ZB (HF.out.on hw.k.below) HS.out).mono (fun _ _ h=>by rw[HFF.out] at h;exact h))) ?_;refine yA fun b9=>?_;refine yW 0 ?_;refine yl<|yn<|yq<|yq<|yr<|yo zF<|yo (zB 0)<|yo zet<|yo zM<|yo zM<|yo zF<|yo zR<|yo zL<|yo zQ ?_;(refine Q1 (Q4 (f:=14) rfl rfl (by decide) rfl rfl (fun w hw=>(QM _ _ _ w).mono (fun _ _ h=>by rw[HIN.out] at h;exact h))) ?_);refine yo zO<|yo zY<|yl<|yn<|y0<|ys<|yn<|yq<|yq<|yr<|yo zF<|yo (zB 0)<|yo znf<|yl<|yn<|y0<|ys<|yn<|yq<|yr<|yo zA<|yl<|yn<|yq<|yq<|yr<|yo zA<|yl<|yn<|yb ?_;refine JI 3 1 ?_;refine ZF (ι:=Nat×Option Addr×Nat) (fun y=>y.1≤256) (fun y=>256 - y.1) (fun y=>[(1,.int .i64 (m:Int)),(2,.pointer (some ⟨b2,0,none⟩)),(5,.slice A1 (Zk S 256).length c1),(6,.pointer (some ⟨b6,0,none⟩)),(7,.int .i64 ((XG F).getD m 0)),(8,.pointer (some ⟨b8,0,none⟩)),(10,.slice y.2.1 (Zk S y.1).length y.2.2),(11,.int .i64 (y.1:Int))]) (fun y=>[.row y.2.1 (Zk S y.1).length y.2.2 3 1 (iv (Zk S y.1)),.blk b9 (.cells ([.int .i64 0,.int .i64 0]:List Value).toArray 27 (0,0)),.blk b8 (.cells ([.int .i64 0,.int .i64 0]:List Value).toArray 27 (0,0)),.blk b6 (.cells ([.int .i64 0,.int .i64 0]:List Value).toArray 27 (0,0)),.rd A1 (Zk S 256).length 1 (iv (Zk S 256))]) (0,none,0) (Nat.zero_le _) (.cons rfl rfl (.cons rfl rfl (.cons rfl rfl (.cons rfl rfl (.cons rfl rfl (.cons rfl rfl (.cons rfl rfl (.cons rfl rfl .nil)))))))) (fun w hw=>hw) ?_
  rintro⟨i,A2,c2⟩ hi
  replace hi:i≤256:=hi
  have hil:=Q1r S i
  show sE _ _ _ _ _ [(1,.int .i64 (m:Int)),(2,.pointer (some ⟨b2,0,none⟩)),(5,.slice A1 (Zk S 256).length c1),(6,.pointer (some ⟨b6,0,none⟩)),(7,.int .i64 ((XG F).getD m 0)),(8,.pointer (some ⟨b8,0,none⟩)),(10,.slice A2 (Zk S i).length c2),(11,.int .i64 (i:Int))] [.row A2 (Zk S i).length c2 3 1 (iv (Zk S i)),.blk b9 (.cells ([.int .i64 0,.int .i64 0]:List Value).toArray 27 (0,0)),.blk b8 (.cells ([.int .i64 0,.int .i64 0]:List Value).toArray 27 (0,0)),.blk b6 (.cells ([.int .i64 0,.int .i64 0]:List Value).toArray 27 (0,0)),.rd A1 (Zk S 256).length 1 (iv (Zk S 256))] _
  by_cases hi2:i<256
  ·obtain⟨v,hv⟩:∃v,S i=v:=⟨_,rfl⟩;have HV:=Lib.hid hv;clear hv
   cases v with
   |true=>
    have hsy:=Q3g HV.out;have HSY:=Lib.hid hsy
    have hle1:(Zk S (i+1)).length=(Zk S i).length+1:=by rw[← hsy,List.length_append];rfl
    clear hsy;refine yq<|yq<|yr<|yo zM<|yo zlt<|yl<|yn<|y1<|ys<|yn<|yq<|yb<|yq<|yr<|yo zE<|yo zM<|yo zM ?_;refine Q1 (Q4 (f:=16) rfl rfl (by decide) rfl rfl (fun w hw=>(Q0P (HF.out.on hw.k.below) HFO.out hn40 hmn hi2).mono (fun _ _ h=>by rw[HST.out,HV.out] at h;exact h))) ?_;refine yl<|yn<|y1<|yr<|yo zM<|yo zM ?_;refine Qa (Qz (size:=1) rfl rfl rfl rfl rfl (by decide)) rfl (by decide) (fun bn _=>?_);refine Qa (QC 1 rfl rfl rfl rfl rfl (fun w hw=>hw.rd_blk 0 rfl rfl) (by simp [Value.oneCell']) (by omega)) rfl (by decide) (fun z _=>?_);refine yo zA<|yl<|yn<|yr<|yo zM<|yo zP<|yo zA<|yl ?_;refine QH (i+1,z.1,z.2) hi2 (by show 256 - (i+1)<256 - i;omega) (.cons rfl rfl (.cons rfl rfl (.cons rfl rfl (.cons rfl rfl (.cons rfl rfl (.cons rfl rfl (.cons rfl (by rw[hle1]) (.cons rfl (by go_num) .nil)))))))) (fun w hw=>?_)
    show Wd [] w1 [.row z.1 (Zk S (i+1)).length z.2 3 1 (iv (Zk S (i+1))),_,_,_,_] w
    rw[hle1,← HSY.out,← ZE];exact hw.tl
   |false=>
    have hsy:=Q9e HV.out;refine yq<|yq<|yr<|yo zM<|yo zlt<|yl<|yn<|y1<|ys<|yn<|yq<|yb<|yq<|yr<|yo zE<|yo zM<|yo zM ?_;refine Q1 (Q4 (f:=16) rfl rfl (by decide) rfl rfl (fun w hw=>(Q0P (HF.out.on hw.k.below) HFO.out hn40 hmn hi2).mono (fun _ _ h=>by rw[HST.out,HV.out] at h;exact h))) ?_;refine yl<|yn<|y0<|ys<|yn<|yr<|yo zM<|yo zP<|yo zA<|yl ?_;refine QH (i+1,A2,c2) hi2 (by show 256 - (i+1)<256 - i;omega) (.cons rfl rfl (.cons rfl rfl (.cons rfl rfl (.cons rfl rfl (.cons rfl rfl (.cons rfl rfl (.cons rfl (by rw[← hsy]) (.cons rfl (by go_num) .nil)))))))) (fun w hw=>?_)
    show Wd [] w1 [.row A2 (Zk S (i+1)).length c2 3 1 (iv (Zk S (i+1))),_,_,_,_] w
    rw[← hsy];exact hw
  ·obtain rfl:i=256:=by omega
   have hbq:((XG F).getD m 0==(XG F).getD m 0)=true:=beq_iff_eq.2 rfl;have hseq:(Zk S 256==Zk S 256)=true:=beq_iff_eq.2 rfl;have HSEQ:=Lib.hid hseq;clear hseq;refine yq<|yq<|yr<|yo zM<|yo zlf<|yl<|yn<|y0<|ye<|yn<|yq<|yr<|yo zF<|yo (zB 3)<|yo zet<|yo zM<|yo zF<|yo (zB 2)<|yo zet<|yo zY<|yo zM<|yo zM<|yo zM ?_;(refine Q1 (Q4 (f:=17) rfl rfl (by decide) rfl rfl (fun w hw=>(Ki (xs:=Zk S 256) (ys:=Zk S 256) (hw.own 4 _ rfl) (Rd.of_own (hw.own 0 _ rfl)) (by omega)).mono (fun _ _ h=>by rw[HSEQ.out] at h;exact Q1j.below h))) ?_);refine yo zY<|yo zM<|yo zM<|yo zE ?_;(refine Qa (Qx (f:=18) (fun y:Option Addr×Nat=>.slice y.1 n y.2) (fun _=>True) (fun y=>[.row y.1 n y.2 3 1 (iv (XG F))]) rfl rfl rfl (fun w hw=>(Q0r (W:=w) (HF.out.on hw.k.below) HUS.out hn40 hn0).mono fun _ _ h=>h.wdn HLL.out (Wd.start [] w1 |>.on hw.k.below))) rfl (by decide) (fun z _=>?_);obtain⟨Al,cl⟩:=z;refine Q8C 0 rfl hn0 (fun bl el=>?_);obtain rfl:Al=some ⟨bl,0,none⟩:=el);refine yo zM<|yo (zi1 (hj:=hmn))<|yo (zK 0 HCELL.out)<|yo zea<|yo zY<|yo zA<|yl<|yn<|yt ?_;exact Q9 (by exact .inr rfl) rfl (.tmp rfl) (fun w hw=>⟨rfl,X4 HB1.out hw.k.below⟩)
 ·have hfi:ZT F k=[]:=by unfold ZT;rw[if_neg (by rw[hch];exact hz)]
  have hle:Ju F k=0:=by unfold Ju;rw[if_neg (by rw[hch];exact hz)]
  have HFI:=Lib.hid hfi;have HLE:=Lib.hid hle;obtain⟨⟨pa,pb⟩,hp⟩:∃p,QO F=p:=⟨_,rfl⟩;have HP:=Lib.hid hp
  by_cases hpz:pa=0
  ·subst hpz;obtain rfl:=Yf hp
   have hin:inB k 0 ((n:Int) - 1)=false∧ca=4∧cb=-2:=by
    unfold Jw at hch
    rw[if_neg (fun h=>h hp),HLEN.out] at hch
    split at hch
    ·exact absurd hch.symm hz
    ·next h=>cases hch;exact⟨Bool.not_eq_true _▸h,rfl,rfl⟩
   obtain⟨hin,rfl,rfl⟩:=hin;have HIN:=Lib.hid hin;clear hch hz hfi hle hp hin;refine yo zE<|yo zM ?_;(refine Qa (Qx _ _ _ (f:=12) rfl rfl rfl (fun w hw=>Q2e hw ((J0 (HF.out.on hw.k.below) HS.out hc (HG1.out.on hw.k.below)).mono (fun _ _ h=>by rw[HCH.out,HFI.out] at h;exact h)))) rfl (by decide) (fun z hz=>?_);obtain⟨A1,c1⟩:=z);refine yo zM<|yo zX<|yo zX ?_;refine yA fun b6=>?_;refine yo zA ?_;refine yW 0 ?_;refine yl<|yn<|yq<|yr<|yo zE<|yo zM ?_;refine Q1 (Q4 (f:=13) rfl rfl (by decide) rfl rfl (fun w hw=>(ZG (HF.out.on hw.k.below) HS.out hc (HG1.out.on hw.k.below)).mono (fun _ _ h=>by rw[HCH.out,HLE.out] at h;exact h))) ?_;refine yo zM<|yo zX<|yo zX ?_;refine yA fun b8=>?_;refine yo zA ?_;refine yW 0 ?_;refine yl<|yn<|yq<|yr<|yo zE ?_;refine Q1 (Q4 (f:=11) rfl rfl (by decide) rfl rfl (fun w hw=>(ZB (HF.out.on hw.k.below) HS.out).mono (fun _ _ h=>by rw[HP.out] at h;exact h))) ?_;refine yA fun b9=>?_;refine yW 0 ?_;refine yl<|yn<|yq<|yq<|yr<|yo zF<|yo (zB 0)<|yo zet<|yo zM<|yo zM<|yo zF<|yo zR<|yo zL<|yo zQ ?_;(refine Q1 (Q4 (f:=14) rfl rfl (by decide) rfl rfl (fun w hw=>(QM _ _ _ w).mono (fun _ _ h=>by rw[HIN.out] at h;exact h))) ?_);refine yo zO<|yo zY<|yl<|yn<|y1<|yr ?_;refine Q1 (Q4 (f:=15) rfl rfl (by decide) rfl rfl (fun w hw=>Js _ _ w)) ?_;refine yW 0 ?_;refine yl<|yn<|yq<|yq<|yr<|yo zF<|yo (zB 0)<|yo znt<|yl<|yn<|y1<|yq<|yr<|yo (zD 2)<|yo (zD 0) ?_;refine Q1 (Y6 (JO _ _) rfl rfl (by decide) rfl rfl rfl) ?_;refine yo zM<|yo (zD 1)<|yo (zD 0) ?_;refine Q1 (Y6 (JO _ _) rfl rfl (by decide) rfl rfl rfl) ?_;refine yo zY<|yo zM<|yo zM<|yo zL<|yo zer<|yo zY<|yo zM<|yo zM<|yo zet<|yo zY<|yo zA<|yl<|yn<|yt<|yc ?_;exact Q9 (by exact .inr rfl) rfl (.tmp rfl) (fun w hw=>⟨rfl,X4 HB1.out hw.k.below⟩)
  ·obtain⟨rfl,rfl⟩:ca=pa∧cb=pb:=by
    unfold Jw at hch
    rw[if_pos (by rw[hp];exact Yg hpz),hp] at hch
    cases hch
    exact⟨rfl,rfl⟩
   clear hch hz hfi hle hp;refine yo zE<|yo zM ?_;(refine Qa (Qx _ _ _ (f:=12) rfl rfl rfl (fun w hw=>Q2e hw ((J0 (HF.out.on hw.k.below) HS.out hc (HG1.out.on hw.k.below)).mono (fun _ _ h=>by rw[HCH.out,HFI.out] at h;exact h)))) rfl (by decide) (fun z hz=>?_);obtain⟨A1,c1⟩:=z);refine yo zM<|yo zX<|yo zX ?_;refine yA fun b6=>?_;refine yo zA ?_;refine yW 0 ?_;refine yl<|yn<|yq<|yr<|yo zE<|yo zM ?_;refine Q1 (Q4 (f:=13) rfl rfl (by decide) rfl rfl (fun w hw=>(ZG (HF.out.on hw.k.below) HS.out hc (HG1.out.on hw.k.below)).mono (fun _ _ h=>by rw[HCH.out,HLE.out] at h;exact h))) ?_;refine yo zM<|yo zX<|yo zX ?_;refine yA fun b8=>?_;refine yo zA ?_;refine yW 0 ?_;refine yl<|yn<|yq<|yr<|yo zE ?_;refine Q1 (Q4 (f:=11) rfl rfl (by decide) rfl rfl (fun w hw=>(ZB (HF.out.on hw.k.below) HS.out).mono (fun _ _ h=>by rw[HP.out] at h;exact h))) ?_;refine yA fun b9=>?_;refine yW 0 ?_;refine yl<|yn<|yq<|yq<|yr<|yo zF<|yo (zB 0)<|yo zef<|yo zM<|yo zS<|yo zS<|yo zS<|yo zS<|yo zS<|yo zS<|yo zS<|yo zN<|yl<|yn<|y0<|ys<|yn<|yq<|yq<|yr<|yo zF<|yo (zB 0)<|yo znt<|yl<|yn<|y1<|yq<|yr<|yo (zD 2)<|yo (zD 0) ?_;refine Q1 (Y6 (JO _ _) rfl rfl (by decide) rfl rfl rfl) ?_;refine yo zM<|yo (zD 1)<|yo (zD 0) ?_;refine Q1 (Y6 (JO _ _) rfl rfl (by decide) rfl rfl rfl) ?_;refine yo zY<|yo zM<|yo zM<|yo zL<|yo zer<|yo zY<|yo zM<|yo zM<|yo zet<|yo zY<|yo zA<|yl<|yn<|yt<|yc ?_;exact Q9 (by exact .inr rfl) rfl (.tmp rfl) (fun w hw=>⟨rfl,X4 HB1.out hw.k.below⟩)
end
end Go.Proofs.YtgdiadednlajgaaGreatDoor
