import Derived.Test.YtgdiadednlajgaaGreatDoorP48
import Derived.Test.YtgdiadednlajgaaGreatDoorP49
namespace Go.Proofs.YtgdiadednlajgaaGreatDoor
set_option linter.unusedVariables false
set_option linter.unusedSimpArgs false
open Go.RowKit
theorem Q97{s:List UInt8}{y z:PrY}(hy:PrI s y)(hz:PrI s z):z.F=y.F∧z.e=y.e:=by
 have h:=hz.e.symm.trans hy.e;exact⟨congrArg (·.1) h,congrArg (·.2) h⟩
section
variable {W:World}{s:List UInt8}
set_option maxRecDepth 100000 in
set_option maxHeartbeats 16000000 in
theorem Q3S(hg:GV W)(hl:s.length≤1048576):
  Calls Tryz.prog 6 #[.string ⟨s.toArray⟩] W (QT W true):=by
 have HG:=Lib.hid hg;clear hg
 go_enter Tryz.func6,Tryz.ntmps6
 refine QE (M:=[]) (W:=W) (N:=27) (E:=[(0,.string ⟨s.toArray⟩)]) (O:=[]) ?_ (Ag.cons (Ag.nil rfl rfl) rfl) (Wd.start [] W);refine yq<|yr<|yo zA<|yl<|yn<|yq<|yq<|yr ?_;refine Q1 (Q4 (xs:=[]) (vs:=[]) (f:=9) rfl rfl (by decide) rfl rfl (fun w hw=>ZK (HG.out.on hw.k.below))) ?_;refine yo zO<|yl<|yn<|y0<|ys<|yn<|yq<|yr<|yo zM ?_;(refine Qa (Qx _ _ _ (f:=21) rfl rfl rfl (fun w hw=>YT (s0:=s) HG.out hl hw)) rfl (by decide) (fun y1 hy1=>?_);obtain⟨F1,A1,c1,⟨pa,pb⟩,at1⟩:=y1;have HY1:=Lib.hid hy1;clear hy1);refine yo zM<|yo zX<|yo zX ?_;refine yA fun b3=>?_;refine yA fun b4=>?_;refine yW 1 ?_;refine yW 0 ?_;refine yl<|yn<|yq<|yr<|yo zM ?_;(refine Qa (Qx _ _ _ (f:=22) rfl rfl rfl (fun w hw=>Q8m (s0:=s) hl hw)) rfl (by decide) (fun y2 hy2=>?_);obtain⟨F2,A2,c2,e2,at2⟩:=y2;obtain rfl:F2=F1:=(Q97 HY1.out hy2).1;obtain rfl:e2=(pa,pb):=(Q97 HY1.out hy2).2;have HY2:=Lib.hid hy2;clear hy2;refine Q3d (fun w hw=>Wd.swapL (L:=at2) (P:=[_,_]) (O:=at1++[]) hw) ?_);refine yo zM<|yo zX<|yo zX ?_;refine yA fun b5=>?_;refine yA fun b6=>?_;refine yW 1 ?_;refine yW 0 ?_;refine yl<|yn<|yq<|yr<|yo (zD 2)<|yo (zD 0) ?_;refine Q1 (Y6 (JO pa pb) rfl rfl (by decide) rfl rfl rfl) ?_;refine yo zM<|yo (zD 3)<|yo (zD 1) ?_;refine Q1 (Q4 (f:=23) rfl rfl (by decide) rfl rfl (fun w hw=>YE (HY1.out.f w (Wd.at_ (L:=at1) (O:=[]) (Wd.drop (L:=at2) (O:=at1++[]) hw.tl.tl.tl.tl))) (HY2.out.f w (Wd.at_ (L:=at2) (O:=at1++[]) hw.tl.tl.tl.tl)) HY1.out.sm)) ?_;refine yo zY<|yo zA<|yl<|yn<|yt ?_;exact Q9 (by exact .inr rfl) rfl (.tmp rfl) (fun w hw=>QB rfl hw.tl.tl.tl.tl.drop.drop)
end
end Go.Proofs.YtgdiadednlajgaaGreatDoor
