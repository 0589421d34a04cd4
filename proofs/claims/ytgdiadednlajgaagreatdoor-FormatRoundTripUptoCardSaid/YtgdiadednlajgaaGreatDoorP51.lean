import Derived.Test.YtgdiadednlajgaaGreatDoorP41
import Derived.Test.YtgdiadednlajgaaGreatDoorP49
namespace Go.Proofs.YtgdiadednlajgaaGreatDoor
set_option linter.unusedVariables false
set_option linter.unusedSimpArgs false
open Go.RowKit
theorem Q6y{F:List Rl}(h:(Xb F).1=0):Xb F=(0,0):=by
 unfold Xb at h ⊢
 split
 ·next h0=>rw[if_pos h0] at h;cases h
 next h0=>
 rw[if_neg h0] at h
 split
 ·next h1=>rw[if_pos h1] at h;cases h
 next h1=>
 rw[if_neg h1] at h
 cases ha:XC F.length (fun k=>Zt F k != 0) with
 |some k=>
  rw[ha] at h;have:=(VS ha).2.1;exact absurd h (by simpa using this)
 |none=>
  rw[ha] at h
  cases hb:XC F.length (fun k=>JM F k != 0) with
  |some k=>
   rw[hb] at h;have:=(VS hb).2.1;exact absurd h (by simpa using this)
  |none=>
   rw[hb] at h
   cases hc:XC F.length (Km F) with
   |some k=>rw[hc] at h;cases h
   |none=>
    rw[hc] at h
    cases hd:XC F.length (fun k=>!((ZC F).getD k false)) with
    |some k=>rw[hd] at h;cases h
    |none=>
     rw[hd] at h
     cases he:XC F.length (ZM F) with
     |some k=>rw[he] at h;cases h
     |none=>rfl
theorem Q2r{F:List Rl}(h:(QO F).1=0):QO F=(0,0):=by
 unfold QO at h ⊢
 split
 ·next h0=>
  rw[if_pos h0] at h;exact Q6y h
 ·next h0=>
  rw[if_neg h0] at h
  split
  ·next h1=>rw[if_pos h1] at h;cases h
  ·rfl
theorem Q88{F:List Rl}(h:QO F=(0,0)):(J1 F).length≤2000:=by
 unfold QO at h
 split at h
 ·next h0=>exact absurd h h0
 ·split at h
  ·cases h
  ·omega
theorem QcG{s:List UInt8}{F:List Rl}{e:Int×Int}(h:Zn s=(F,e)):(e=(0,0))∨(e.1≠0∧F=[]):=by
 unfold Zn at h
 split at h
 ·cases h;exact .inr ⟨by decide,rfl⟩
 ·split at h
  ·cases h;exact .inr ⟨(by decide:(1:Int)≠0),rfl⟩
  ·split at h
   ·cases h;exact .inr ⟨(by decide:(12:Int)≠0),rfl⟩
   ·next F' _=>
    split at h
    ·next hne=>
     cases h
     exact .inr ⟨fun h0=>hne (Q2r h0),rfl⟩
    ·cases h
     exact .inl rfl
section
variable {A:Option Addr}{n c:Nat}{W:World}{F:List Rl}{s:List UInt8}
set_option maxRecDepth 1000000 in
set_option maxHeartbeats 16000000 in
theorem Q0F(hf:Xq W W.heap.size A n F)(hs:FSm F)(hc:n≤c)(hg:GV W)(hl:s.length≤1048576):
  Calls Tryz.prog 7 #[.agg #[.slice A n c],.string ⟨s.toArray⟩] W (QT W true):=by
 obtain rfl:n=F.length:=hf.1.symm;have HF:=Lib.hid hf;have HS:=Lib.hid hs;have HG:=Lib.hid hg;clear hf hs hg;obtain⟨⟨pa,pb⟩,hp⟩:∃p,QO F=p:=⟨_,rfl⟩
 go_enter Tryz.func7,Tryz.ntmps7
 refine QE (M:=[]) (W:=W) (N:=62) (E:=[(0,.agg #[.slice A F.length c]),(1,.string ⟨s.toArray⟩)]) (O:=[]) ?_ (Ag.cons (Ag.cons (Ag.nil rfl rfl) rfl) rfl) (Wd.start [] W);refine yq<|yr ?_;refine yB fun b2=>?_;refine yo zA<|yl<|yn<|yq<|yq<|yr ?_;refine Q1 (Q4 (f:=9) rfl rfl (by decide) rfl rfl (fun w hw=>ZK (HG.out.on hw.k.below))) ?_;refine yo zO<|yl<|yn<|y0<|ys<|yn<|yq<|yq<|yr<|yo (zD 0) ?_;refine Q1 (Q4 (f:=19) rfl rfl (by decide) rfl rfl (fun w hw=>(JJ (HF.out.on hw.k.below) HS.out hc (HG.out.on hw.k.below)).mono (fun _ _ h=>by rw[hp] at h;exact h))) ?_;refine yo zM<|yo zX<|yo zX ?_;refine yA fun b6=>?_;refine yo zA ?_;refine yW 0 ?_;refine yl<|yn ?_;refine Q7D (ι:=Unit) (fun _=>True) (fun _=>[(1,.string ⟨s.toArray⟩)]) (fun _=>[]) ?_ (fun _ _=>?_)
 ·by_cases hz:pa=0
  ·subst hz
   obtain rfl:pb=0:=by have:=Q2r (F:=F) (by rw[hp]);rw[hp] at this;exact congrArg (·.2) this
   have hpr:JT F=J1 F:=by unfold JT;rw[if_pos hp]
   rw[hpr];have hl2:=Q88 hp;have hpt:=Q30 hp;refine yq<|yr<|yo zF<|yo (zB 0)<|yo zet<|yl<|yn<|y1<|yq<|yr<|yo zM ?_;(refine Qa (Qx _ _ _ (f:=21) rfl rfl rfl (fun w hw=>YT (s0:=J1 F) HG.out (by omega) hw)) rfl (by decide) (fun y hy=>?_);obtain⟨F1,A1,c1,e1,at1⟩:=y;obtain rfl:F1=F:=(Q0m hy hpt).1;obtain rfl:e1=(0,0):=(Q0m hy hpt).2;refine Q3d (fun w hw=>Wd.swapL (L:=at1) (P:=[_,_]) (O:=[]) hw) ?_);refine yo zM<|yo zX<|yo zX ?_;refine yA fun b7=>?_;refine yA fun b8=>?_;refine yW 1 ?_;refine yW 0 ?_;refine yl<|yn<|yq<|yr<|yo zF<|yo (zB 0)<|yo znr<|yo zM<|yo (zD 1)<|yo (zD 3) ?_;refine Q1 (Q4 (f:=23) rfl rfl (by decide) rfl rfl (fun w hw=>YE (hy.f w (Wd.at_ (L:=at1) (O:=[]) hw.tl.tl.tl.tl)) (HF.out.on hw.k.below) HS.out)) ?_;refine yo zO<|yo zN<|yl<|yn<|y0<|ys ?_;exact XX () [] (by decide) trivial (.cons rfl rfl .nil) rfl
  ·refine yq<|yr<|yo zF<|yo (zB 0)<|yo zef<|yl<|yn<|y0<|ys ?_;exact XX () [] (by decide) trivial (.cons rfl rfl .nil) rfl
 ·obtain⟨⟨F1,e1⟩,hps⟩:∃y,Zn s=y:=⟨_,rfl⟩
  rcases QcG hps with rfl|⟨he,rfl⟩
  ·have htp:=Q8x (s:=s) (F:=F1) hps (.inr trivial)
   have hpr:JT F1=s:=by unfold JT;rw[if_pos htp.2];exact htp.1
   have hss:((⟨s.toArray⟩:ByteArray).data.toList==(⟨s.toArray⟩:ByteArray).data.toList)=true:=beq_iff_eq.2 rfl;refine yq<|yr<|yo zM ?_;(refine Qa (Qx _ _ _ (f:=21) rfl rfl rfl (fun w hw=>YT (s0:=s) HG.out hl hw)) rfl (by decide) (fun y hy=>?_);obtain⟨F2,A1,c1,e2,at1⟩:=y;obtain rfl:F2=F1:=(Q0m hy hps).1;obtain rfl:e2=(0,0):=(Q0m hy hps).2);refine yo zM<|yo zX<|yo zX ?_;refine yA fun b9=>?_;refine yA fun b10=>?_;refine yW 1 ?_;refine yW 0 ?_;refine yl<|yn<|yq<|yq<|yr<|yo zF<|yo (zB 0)<|yo znr<|yl<|yn<|y0<|ys<|yn<|yq<|yr<|yo (zD 1) ?_;refine Q1 (Q4 (f:=19) rfl rfl (by decide) rfl rfl (fun w hw=>(JJ (hy.f w (Wd.at_ (L:=at1) (O:=[]) hw.tl.tl)) hy.sm hy.c (HG.out.on hw.k.below)).mono (fun _ _ h=>by rw[hpr,htp.2] at h;exact h))) ?_;refine yo zM<|yo zX<|yo zX ?_;refine yA fun b12=>?_;refine yo zA ?_;refine yW 0 ?_;refine yl<|yn<|yq<|yr<|yo zF<|yo (zB 0)<|yo zet<|yo zM<|yo zM<|yo zM<|yo zsa<|yo zY<|yo zA<|yl<|yn<|yt ?_;exact Q9 (by exact .inr rfl) rfl (.tmp rfl) (fun w hw=>QB rfl hw)
  ·obtain⟨ea,eb⟩:=e1;have he':ea≠0:=he;refine yq<|yr<|yo zM ?_;(refine Qa (Qx _ _ _ (f:=21) rfl rfl rfl (fun w hw=>YT (s0:=s) HG.out hl hw)) rfl (by decide) (fun y hy=>?_);obtain⟨F2,A1,c1,e2,at1⟩:=y;obtain rfl:F2=[]:=(Q0m hy hps).1;obtain rfl:e2=(ea,eb):=(Q0m hy hps).2);refine yo zM<|yo zX<|yo zX ?_;refine yA fun b9=>?_;refine yA fun b10=>?_;refine yW 1 ?_;refine yW 0 ?_;refine yl<|yn<|yq<|yq<|yr<|yo zF<|yo (zB 0)<|yo znt<|yl<|yn<|y1<|yq<|yr<|yo zF<|yo (zB 1)<|yo zL<|yo zer<|yo zA<|yl<|yn<|yt<|yc ?_;exact Q9 (by exact .inr rfl) rfl (.tmp rfl) (fun w hw=>QB rfl hw)
end
end Go.Proofs.YtgdiadednlajgaaGreatDoor
