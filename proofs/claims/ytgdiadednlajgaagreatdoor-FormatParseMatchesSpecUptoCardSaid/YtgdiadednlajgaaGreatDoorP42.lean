import Derived.Test.YtgdiadednlajgaaGreatDoorP40
import Derived.Test.YtgdiadednlajgaaGreatDoorP41
namespace Go.Proofs.YtgdiadednlajgaaGreatDoor
set_option linter.unusedVariables false
set_option linter.unusedSimpArgs false
open Go.RowKit
section
variable {ops:Array Oper}{C:World→Prop}{N:Nat}{E:Env}{o:Oper}{d:Nat}
theorem Y6{x y:Operand}{t':TypeId}{a b a' b':Int}{v:Bool}(hb:(a==a'&&b==b')=v)(ho:o.op=.binOp .eql 27 x y t')(hd:o.dst=some d)(hN:d<N)(hw:Qm ops E o=some true)(hx:ev E x=some (.agg #[.int .i64 a,.int .i64 b]))(hy:ev E y=some (.agg #[.int .i64 a',.int .i64 b'])):oE Tryz.prog ops C N E ((d,.bool v)::E) o:=
 XL hd hN hw fun ρ w ha _=>by
  subst hb
  by_cases h1:a=a'<;>by_cases h2:b=b'<;>simp [execOp,ho,ha.eval hx,ha.eval hy,h1,h2,go_sem]
end
theorem JO(a b:Int):(a==a&&b==b)=true:=by simp
theorem Q5K{F:List Rl}(h:(Xb F).1=0):Xb F=(0,0):=by
 unfold Xb at h ⊢
 split
 ·next h0=>rw[if_pos h0] at h;cases h
 next h0=>
 rw[if_neg h0] at h
 split
 ·next h1=>rw[if_pos h1] at h;cases h
 next h1=>
 rw[if_neg h1] at h
 cases ha:XC F.length (fun k=>Zt F k != 0) with
 |some k=>
  rw[ha] at h;have:=(VS ha).2.1;exact absurd h (by simpa using this)
 |none=>
  rw[ha] at h
  cases hb:XC F.length (fun k=>JM F k != 0) with
  |some k=>
   rw[hb] at h;have:=(VS hb).2.1;exact absurd h (by simpa using this)
  |none=>
   rw[hb] at h
   cases hc:XC F.length (Km F) with
   |some k=>rw[hc] at h;cases h
   |none=>
    rw[hc] at h
    cases hd:XC F.length (fun k=>!((ZC F).getD k false)) with
    |some k=>rw[hd] at h;cases h
    |none=>
     rw[hd] at h
     cases he:XC F.length (ZM F) with
     |some k=>rw[he] at h;cases h
     |none=>rfl
theorem Q5f{F:List Rl}(h:(QO F).1=0):QO F=(0,0):=by
 unfold QO at h ⊢
 split
 ·next h0=>
  rw[if_pos h0] at h;exact Q5K h
 ·next h0=>
  rw[if_neg h0] at h
  split
  ·next h1=>rw[if_pos h1] at h;cases h
  ·rfl
theorem Yf{F:List Rl}{b:Int}(h:QO F=(0,b)):b=0:=by
 have:=Q5f (F:=F) (by rw[h]);rw[h] at this;exact congrArg Prod.snd this
theorem VP{F:List Rl}(h:QO F=(0,0)):Xb F=(0,0):=by
 unfold QO at h
 split at h
 ·next hn=>exact absurd h hn
 ·next hn=>exact Classical.not_not.1 hn
section
variable {A:Option Addr}{n c:Nat}{W:World}{F:List Rl}
set_option maxRecDepth 100000 in
set_option maxHeartbeats 16000000 in
theorem Q0U(hf:Xq W W.heap.size A n F)(hs:FSm F)(hc:n≤c)(hg:GV W):
  Calls Tryz.prog 3 #[.agg #[.slice A n c]] W (QT W true):=by
 have HF:=Lib.hid hf;have HS:=Lib.hid hs;have HG:=Lib.hid hg;clear hf hs hg;obtain⟨⟨pa,pb⟩,hp⟩:∃p,QO F=p:=⟨_,rfl⟩;have HP:=Lib.hid hp;clear hp
 go_enter Tryz.func3,Tryz.ntmps3
 refine QE (M:=[]) (W:=W) (N:=11) (E:=[(0,.agg #[.slice A n c])]) (O:=[]) ?_ (Ag.cons (Ag.nil rfl rfl) rfl) (Wd.start [] W);refine yq<|yr ?_;refine yB fun b1=>?_;refine yo zA<|yl<|yn<|yq<|Xm (by kernel_rfl) (by kernel_rfl) ?_;refine Qd (Q4 (xs:=[]) (vs:=[]) (f:=9) rfl rfl (by decide) rfl rfl (fun w hw=>ZK (HG.out.on hw.k.below))) ?_;refine Qd zM ?_;refine Qd (zD 0) ?_;(refine Qd (Q4 (f:=10) rfl rfl (by decide) rfl rfl (fun w hw=>(Zw (HF.out.on hw.k.below) HS.out hc (HG.out.on hw.k.below)).mono (fun _ _ h=>by rw[HP.out] at h;exact h))) ?_);refine Qd (zD 0) ?_;(refine Qd (Q4 (f:=11) rfl rfl (by decide) rfl rfl (fun w hw=>(ZB (HF.out.on hw.k.below) HS.out).mono (fun _ _ h=>by rw[HP.out] at h;exact h))) ?_);refine Qd (Y6 (JO pa pb) rfl rfl (by decide) rfl rfl rfl) ?_;refine Qd zY ?_;refine Qd zA ?_;refine XS ?_;refine yn<|yt ?_;exact Q9 (by exact .inr rfl) rfl (.tmp rfl) (fun w hw=>QB rfl hw)
set_option maxRecDepth 100000 in
set_option maxHeartbeats 16000000 in
theorem Q40(hf:Xq W W.heap.size A n F)(hs:FSm F)(hc:n≤c)(hg:GV W):
  Calls Tryz.prog 5 #[.agg #[.slice A n c]] W (QT W true):=by
 have HF:=Lib.hid hf;have HS:=Lib.hid hs;have HG:=Lib.hid hg;have hlen:F.length=n:=hf.1;clear hf hs hg;obtain⟨⟨pa,pb⟩,hp⟩:∃p,QO F=p:=⟨_,rfl⟩
 by_cases hz:pa=0
 ·subst hz;obtain rfl:=Yf hp;have hck:=VP hp;have hpo:=KP hck;have hn:=Q1N hck;rw[hlen] at hn;obtain⟨hn0,hn40⟩:=hn;have HFO:=Lib.hid hpo.fok
  have hpr:JT F=J1 F:=by unfold JT;rw[if_pos hp]
  have HPR:=Lib.hid hpr;have HP:=Lib.hid hp;have HTX:=Lib.hid (Q53 HFO.out hlen);have HNM:=Lib.hid (show ∀r∈F,r.name.length≤1048576∧∀x∈r.names,x.length≤1048576 from fun r hr=>⟨(HS.out.2 r hr).name,(HS.out.2 r hr).each⟩);have hss:((⟨(J1 F).toArray⟩:ByteArray).data.toList==(⟨(J1 F).toArray⟩:ByteArray).data.toList)=true:=beq_iff_eq.2 rfl;clear hp hpr hck hpo
  go_enter Tryz.func5,Tryz.ntmps5
  refine QE (M:=[]) (W:=W) (N:=34) (E:=[(0,.agg #[.slice A n c])]) (O:=[]) ?_ (Ag.cons (Ag.nil rfl rfl) rfl) (Wd.start [] W);refine yq<|yr ?_;refine yB fun b1=>?_;refine yo zA<|yl<|yn<|yq<|yq<|yr ?_;refine Q1 (Q4 (xs:=[]) (vs:=[]) (f:=9) rfl rfl (by decide) rfl rfl (fun w hw=>ZK (HG.out.on hw.k.below))) ?_;refine yo zO<|yl<|yn<|y0<|ys<|yn<|yq<|yr<|yo (zD 0) ?_;refine Q1 (Q4 (f:=19) rfl rfl (by decide) rfl rfl (fun w hw=>(JJ (HF.out.on hw.k.below) HS.out hc (HG.out.on hw.k.below)).mono (fun _ _ h=>by rw[HP.out,HPR.out] at h;exact h))) ?_;refine yo zM<|yo zX<|yo zX ?_;refine yA fun b4=>?_;refine yo zA ?_;refine yW 0 ?_;refine yl<|yn<|yq<|yq<|yr<|yo (zD 1) ?_;refine Q1 (Q4 (f:=11) rfl rfl (by decide) rfl rfl (fun w hw=>(ZB (HF.out.on hw.k.below) HS.out).mono (fun _ _ h=>by rw[HP.out] at h;exact h))) ?_;refine yA fun b5=>?_;refine yW 0 ?_;refine yl<|yn<|yq<|yr<|yo zF<|yo (zB 0)<|yo znf<|yl<|yn<|y0<|ys<|yn<|yq<|yr<|yo zF<|yo (zB 1)<|yo zet<|yo zM<|yo zM<|yo (zD 2) ?_;(refine Q1 (Q4 (f:=20) rfl rfl (by decide) rfl rfl (fun w hw=>(Y5 (HF.out.on hw.k.below) HFO.out hn40 hn0 HNM.out).mono (fun _ _ h=>by rw[HTX.out] at h;exact h))) ?_);refine yo zsa<|yo zY<|yo zA<|yl<|yn<|yt ?_;exact Q9 (by exact .inr rfl) rfl (.tmp rfl) (fun w hw=>QB rfl hw)
 ·have hpr:JT F=[]:=by unfold JT;rw[if_neg (by rw[hp];exact Yg hz)]
  have HPR:=Lib.hid hpr;have HP:=Lib.hid hp;clear hp hpr
  go_enter Tryz.func5,Tryz.ntmps5
  refine QE (M:=[]) (W:=W) (N:=34) (E:=[(0,.agg #[.slice A n c])]) (O:=[]) ?_ (Ag.cons (Ag.nil rfl rfl) rfl) (Wd.start [] W);refine yq<|yr ?_;refine yB fun b1=>?_;refine yo zA<|yl<|yn<|yq<|yq<|yr ?_;refine Q1 (Q4 (xs:=[]) (vs:=[]) (f:=9) rfl rfl (by decide) rfl rfl (fun w hw=>ZK (HG.out.on hw.k.below))) ?_;refine yo zO<|yl<|yn<|y0<|ys<|yn<|yq<|yr<|yo (zD 0) ?_;refine Q1 (Q4 (f:=19) rfl rfl (by decide) rfl rfl (fun w hw=>(JJ (HF.out.on hw.k.below) HS.out hc (HG.out.on hw.k.below)).mono (fun _ _ h=>by rw[HP.out,HPR.out] at h;exact h))) ?_;refine yo zM<|yo zX<|yo zX ?_;refine yA fun b4=>?_;refine yo zA ?_;refine yW 0 ?_;refine yl<|yn<|yq<|yq<|yr<|yo (zD 1) ?_;refine Q1 (Q4 (f:=11) rfl rfl (by decide) rfl rfl (fun w hw=>(ZB (HF.out.on hw.k.below) HS.out).mono (fun _ _ h=>by rw[HP.out] at h;exact h))) ?_;refine yA fun b5=>?_;refine yW 0 ?_;refine yl<|yn<|yq<|yr<|yo zF<|yo (zB 0)<|yo znt<|yl<|yn<|y1<|yq<|yr<|yo (zD 1)<|yo (zD 0) ?_;refine Q1 (Y6 (JO pa pb) rfl rfl (by decide) rfl rfl rfl) ?_;refine yo zM<|yo zM ?_;refine Q1 (Kl rfl rfl (by decide) rfl rfl rfl (by rfl)) ?_;refine yo zY<|yo zA<|yl<|yn<|yt<|yc ?_;exact Q9 (by exact .inr rfl) rfl (.tmp rfl) (fun w hw=>QB rfl hw)
end
end Go.Proofs.YtgdiadednlajgaaGreatDoor
