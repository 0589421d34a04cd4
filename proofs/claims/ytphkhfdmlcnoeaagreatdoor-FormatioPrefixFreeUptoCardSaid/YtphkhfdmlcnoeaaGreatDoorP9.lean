import Derived.Test.YtphkhfdmlcnoeaaGreatDoorP2
namespace Go.Proofs.YtphkhfdmlcnoeaaGreatDoor
set_option linter.unusedVariables false
set_option linter.unusedSimpArgs false
open Go.RowKit
def Vd(k size:Int)(big:Bool)(mn mx stop count elem:Int)(nb nn np:Nat):Bool:=
 ((nb:Int)==0||k==1)&&(stop==0||Jn k)&&(size==0||Jl k)&&((!big&&mn==0)||k==2)&&(mx==0||JJ k)&&(count==0||QP k)&&(elem==0||Ka k)&&((nn:Int)==0||k==7)&&((np:Int)==0||JQ k)
set_option maxRecDepth 100000 in
set_option maxHeartbeats 4000000 in
theorem Vi{a0:Value}{k size mn mx stop count elem:Int}{big:Bool}{Ab An Ap:Option Addr}{nb cb nn cn np cp:Nat}(w:World):
  Calls Tryz.prog 148 #[.agg #[a0,.int .i64 k,.slice Ab nb cb,.int .i64 size,.bool big,.int .i64 mn,.int .i64 mx,.int .i64 stop,.int .i64 count,.int .i64 elem,.slice An nn cn,.slice Ap np cp]] w fun e w'=>e=.returned (.bool (Vd k size big mn mx stop count elem nb nn np))∧Below w.heap.size w w':=by
 obtain⟨B,hB⟩:∃B,Vd k size big mn mx stop count elem nb nn np=B:=⟨_,rfl⟩;have HF:=Lib.hid hB;rw[hB];clear hB
 go_enter Tryz.func148,Tryz.ntmps148
 go_upto_region 2 with (fail)
 obtain⟨W1,hW1⟩:∃W1,w.alloc (.cells #[a0,.int .i64 k,.slice Ab nb cb,.int .i64 size,.bool big,.int .i64 mn,.int .i64 mx,.int .i64 stop,.int .i64 count,.int .i64 elem,.slice An nn cn,.slice Ap np cp] 65)=W1:=⟨_,rfl⟩;have HB1:=Lib.hid (show Below w.heap.size w W1 by rw[← hW1];exact Zm _ _)
 have HV:Ys (fun w'=>∃x:Up W1,w'=x.w) w.heap.size a0 (.int .i64 k) (.slice Ab nb cb) (.int .i64 size) (.bool big) (.int .i64 mn) (.int .i64 mx) (.int .i64 stop) (.int .i64 count) (.int .i64 elem) (.slice An nn cn) (.slice Ap np cp):=by
  rintro w' ⟨x,rfl⟩ j u hu
  refine Up.cell ?_ x;rw[← hW1];exact XX j u hu
 (try rw[hW1]);obtain⟨y,hy⟩:=Up.start W1;rw[hy];clear hW1 hy;refine Q71 y ?_;refine qE.start (N:=95) (E:=[(1,.pointer (some ⟨w.heap.size,0,none⟩)),(3,.bool (k==2))]) ?_ (Ag.cons (Ag.cons (Ag.nil (by rfl) (by rfl)) (by rfl)) (by rfl));refine qE.cut [(16,.bool (((nb:Int)==0)||(k==1))),(1,.pointer (some ⟨w.heap.size,0,none⟩)),(3,.bool (k==2))] 10 ?_ ?_
 ·clear HF HB1;obtain⟨L,hL⟩:∃L,((nb:Int)==0)=L:=⟨_,rfl⟩;rw[hL]
  cases L
  ·obtain⟨R,hR⟩:∃R,(k==1)=R:=⟨_,rfl⟩;rw[hR]
   cases R
   ·skip
    simp only[List.append_eq,List.cons_append,List.nil_append,List.take_succ_cons,List.take_zero]
    repeat(first|refine Xk rfl rfl (by decide) rfl rfl ?_|refine Xg rfl (by decide) rfl (by decide) rfl rfl ?_|refine QU HV rfl rfl (by decide) rfl rfl rfl ?_|refine YE HV rfl rfl (by decide) rfl rfl rfl ?_|refine Q0M rfl Tryz.underlying25 rfl (by decide) rfl rfl ?_|refine Zi rfl rfl (by decide) rfl rfl rfl (by assumption) ?_|refine QN rfl rfl (by decide) rfl rfl rfl ?_)
    refine qE.nil (fun a ha=>?_);exact Ag.cons (Ag.cons (Ag.cons (Ag.nil ha.sz ha.df) (by exact ha.at_ rfl)) (by exact ha.at_ rfl)) (by exact ha.at_ rfl)
   ·skip
    simp only[List.append_eq,List.cons_append,List.nil_append,List.take_succ_cons,List.take_zero]
    repeat(first|refine Xk rfl rfl (by decide) rfl rfl ?_|refine Xg rfl (by decide) rfl (by decide) rfl rfl ?_|refine QU HV rfl rfl (by decide) rfl rfl rfl ?_|refine YE HV rfl rfl (by decide) rfl rfl rfl ?_|refine Q0M rfl Tryz.underlying25 rfl (by decide) rfl rfl ?_|refine Zi rfl rfl (by decide) rfl rfl rfl (by assumption) ?_|refine QN rfl rfl (by decide) rfl rfl rfl ?_)
    refine qE.nil (fun a ha=>?_);exact Ag.cons (Ag.cons (Ag.cons (Ag.nil ha.sz ha.df) (by exact ha.at_ rfl)) (by exact ha.at_ rfl)) (by exact ha.at_ rfl)
  ·skip
   simp only[List.append_eq,List.cons_append,List.nil_append,List.take_succ_cons,List.take_zero]
   repeat(first|refine Xk rfl rfl (by decide) rfl rfl ?_|refine Xg rfl (by decide) rfl (by decide) rfl rfl ?_|refine YE HV rfl rfl (by decide) rfl rfl rfl ?_|refine Q0M rfl Tryz.underlying25 rfl (by decide) rfl rfl ?_|refine Zi rfl rfl (by decide) rfl rfl rfl (by assumption) ?_|refine QD rfl rfl (by decide) rfl rfl rfl ?_|refine Zy rfl (by decide) rfl ?_)
   refine qE.nil (fun a ha=>?_);exact Ag.cons (Ag.cons (Ag.cons (Ag.nil ha.sz ha.df) (by exact ha.at_ rfl)) (by exact ha.at_ rfl)) (by exact ha.at_ rfl)
 obtain⟨b1,hb1⟩:∃b,(((nb:Int)==0)||(k==1))=b:=⟨_,rfl⟩;rw[hb1];have HB_1:=Lib.hid hb1;clear hb1
 simp only[List.append_eq,List.cons_append,List.nil_append,List.drop_succ_cons,List.drop_zero]
 refine qE.cut [(25,.bool (b1&&((stop==0)||(Jn k)))),(1,.pointer (some ⟨w.heap.size,0,none⟩)),(3,.bool (k==2))] 9 ?_ ?_
 ·clear HF HB1
  cases b1
  ·skip
   simp only[List.append_eq,List.cons_append,List.nil_append,List.take_succ_cons,List.take_zero]
   repeat(first|refine Xk rfl rfl (by decide) rfl rfl ?_|refine QN rfl rfl (by decide) rfl rfl rfl ?_|refine Zy rfl (by decide) rfl ?_)
   refine qE.nil (fun a ha=>?_);exact Ag.cons (Ag.cons (Ag.cons (Ag.nil ha.sz ha.df) (by exact ha.at_ rfl)) (by exact ha.at_ rfl)) (by exact ha.at_ rfl)
  ·obtain⟨L,hL⟩:∃L,(stop==0)=L:=⟨_,rfl⟩;rw[hL]
   cases L
   ·obtain⟨R,hR⟩:∃R,(Jn k)=R:=⟨_,rfl⟩;rw[hR]
    cases R
    ·skip
     simp only[List.append_eq,List.cons_append,List.nil_append,List.take_succ_cons,List.take_zero]
     repeat(first|refine Xk rfl rfl (by decide) rfl rfl ?_|refine Xg rfl (by decide) rfl (by decide) rfl rfl ?_|refine QU HV rfl rfl (by decide) rfl rfl rfl ?_|refine XG HV rfl rfl (by decide) rfl rfl ?_|refine Zi rfl rfl (by decide) rfl rfl rfl (by assumption) ?_|refine QD rfl rfl (by decide) rfl rfl rfl ?_|refine QN rfl rfl (by decide) rfl rfl rfl ?_|(refine V1 (v:=.bool (Jn k)) rfl (fun _ _=>by kernel_rfl) rfl (by decide) rfl rfl (by rintro w' ⟨x,rfl⟩;exact Calls.up (XD _)) ?_;rw[hR]))
     refine qE.nil (fun a ha=>?_);exact Ag.cons (Ag.cons (Ag.cons (Ag.nil ha.sz ha.df) (by exact ha.at_ rfl)) (by exact ha.at_ rfl)) (by exact ha.at_ rfl)
    ·skip
     simp only[List.append_eq,List.cons_append,List.nil_append,List.take_succ_cons,List.take_zero]
     repeat(first|refine Xk rfl rfl (by decide) rfl rfl ?_|refine Xg rfl (by decide) rfl (by decide) rfl rfl ?_|refine QU HV rfl rfl (by decide) rfl rfl rfl ?_|refine XG HV rfl rfl (by decide) rfl rfl ?_|refine Zi rfl rfl (by decide) rfl rfl rfl (by assumption) ?_|refine QD rfl rfl (by decide) rfl rfl rfl ?_|refine QN rfl rfl (by decide) rfl rfl rfl ?_|(refine V1 (v:=.bool (Jn k)) rfl (fun _ _=>by kernel_rfl) rfl (by decide) rfl rfl (by rintro w' ⟨x,rfl⟩;exact Calls.up (XD _)) ?_;rw[hR]))
     refine qE.nil (fun a ha=>?_);exact Ag.cons (Ag.cons (Ag.cons (Ag.nil ha.sz ha.df) (by exact ha.at_ rfl)) (by exact ha.at_ rfl)) (by exact ha.at_ rfl)
   ·skip
    simp only[List.append_eq,List.cons_append,List.nil_append,List.take_succ_cons,List.take_zero]
    repeat(first|refine Xk rfl rfl (by decide) rfl rfl ?_|refine Xg rfl (by decide) rfl (by decide) rfl rfl ?_|refine QU HV rfl rfl (by decide) rfl rfl rfl ?_|refine Zi rfl rfl (by decide) rfl rfl rfl (by assumption) ?_|refine QD rfl rfl (by decide) rfl rfl rfl ?_|refine Zy rfl (by decide) rfl ?_)
    refine qE.nil (fun a ha=>?_);exact Ag.cons (Ag.cons (Ag.cons (Ag.nil ha.sz ha.df) (by exact ha.at_ rfl)) (by exact ha.at_ rfl)) (by exact ha.at_ rfl)
 obtain⟨b2,hb2⟩:∃b,(b1&&((stop==0)||(Jn k)))=b:=⟨_,rfl⟩;rw[hb2];have HB_2:=Lib.hid hb2;clear hb2
 simp only[List.append_eq,List.cons_append,List.nil_append,List.drop_succ_cons,List.drop_zero]
 refine qE.cut [(34,.bool (b2&&((size==0)||(Jl k)))),(1,.pointer (some ⟨w.heap.size,0,none⟩)),(3,.bool (k==2))] 9 ?_ ?_
 ·clear HF HB1
  cases b2
  ·skip
   simp only[List.append_eq,List.cons_append,List.nil_append,List.take_succ_cons,List.take_zero]
   repeat(first|refine Xk rfl rfl (by decide) rfl rfl ?_|refine QN rfl rfl (by decide) rfl rfl rfl ?_|refine Zy rfl (by decide) rfl ?_)
   refine qE.nil (fun a ha=>?_);exact Ag.cons (Ag.cons (Ag.cons (Ag.nil ha.sz ha.df) (by exact ha.at_ rfl)) (by exact ha.at_ rfl)) (by exact ha.at_ rfl)
  ·obtain⟨L,hL⟩:∃L,(size==0)=L:=⟨_,rfl⟩;rw[hL]
   cases L
   ·obtain⟨R,hR⟩:∃R,(Jl k)=R:=⟨_,rfl⟩;rw[hR]
    cases R
    ·skip
     simp only[List.append_eq,List.cons_append,List.nil_append,List.take_succ_cons,List.take_zero]
     repeat(first|refine Xk rfl rfl (by decide) rfl rfl ?_|refine Xg rfl (by decide) rfl (by decide) rfl rfl ?_|refine QU HV rfl rfl (by decide) rfl rfl rfl ?_|refine XG HV rfl rfl (by decide) rfl rfl ?_|refine Zi rfl rfl (by decide) rfl rfl rfl (by assumption) ?_|refine QD rfl rfl (by decide) rfl rfl rfl ?_|refine QN rfl rfl (by decide) rfl rfl rfl ?_|(refine V1 (v:=.bool (Jl k)) rfl (fun _ _=>by kernel_rfl) rfl (by decide) rfl rfl (by rintro w' ⟨x,rfl⟩;exact Calls.up (Vx _)) ?_;rw[hR]))
     refine qE.nil (fun a ha=>?_);exact Ag.cons (Ag.cons (Ag.cons (Ag.nil ha.sz ha.df) (by exact ha.at_ rfl)) (by exact ha.at_ rfl)) (by exact ha.at_ rfl)
    ·skip
     simp only[List.append_eq,List.cons_append,List.nil_append,List.take_succ_cons,List.take_zero]
     repeat(first|refine Xk rfl rfl (by decide) rfl rfl ?_|refine Xg rfl (by decide) rfl (by decide) rfl rfl ?_|refine QU HV rfl rfl (by decide) rfl rfl rfl ?_|refine XG HV rfl rfl (by decide) rfl rfl ?_|refine Zi rfl rfl (by decide) rfl rfl rfl (by assumption) ?_|refine QD rfl rfl (by decide) rfl rfl rfl ?_|refine QN rfl rfl (by decide) rfl rfl rfl ?_|(refine V1 (v:=.bool (Jl k)) rfl (fun _ _=>by kernel_rfl) rfl (by decide) rfl rfl (by rintro w' ⟨x,rfl⟩;exact Calls.up (Vx _)) ?_;rw[hR]))
     refine qE.nil (fun a ha=>?_);exact Ag.cons (Ag.cons (Ag.cons (Ag.nil ha.sz ha.df) (by exact ha.at_ rfl)) (by exact ha.at_ rfl)) (by exact ha.at_ rfl)
   ·skip
    simp only[List.append_eq,List.cons_append,List.nil_append,List.take_succ_cons,List.take_zero]
    repeat(first|refine Xk rfl rfl (by decide) rfl rfl ?_|refine Xg rfl (by decide) rfl (by decide) rfl rfl ?_|refine QU HV rfl rfl (by decide) rfl rfl rfl ?_|refine Zi rfl rfl (by decide) rfl rfl rfl (by assumption) ?_|refine QD rfl rfl (by decide) rfl rfl rfl ?_|refine Zy rfl (by decide) rfl ?_)
    refine qE.nil (fun a ha=>?_);exact Ag.cons (Ag.cons (Ag.cons (Ag.nil ha.sz ha.df) (by exact ha.at_ rfl)) (by exact ha.at_ rfl)) (by exact ha.at_ rfl)
 obtain⟨b3,hb3⟩:∃b,(b2&&((size==0)||(Jl k)))=b:=⟨_,rfl⟩;rw[hb3];have HB_3:=Lib.hid hb3;clear hb3
 simp only[List.append_eq,List.cons_append,List.nil_append,List.drop_succ_cons,List.drop_zero]
 refine qE.cut [(47,.bool (b3&&((!big&&mn==0)||(k==2)))),(1,.pointer (some ⟨w.heap.size,0,none⟩)),(3,.bool (k==2))] 13 ?_ ?_
 ·clear HF HB1
  cases b3
  ·skip
   simp only[List.append_eq,List.cons_append,List.nil_append,List.take_succ_cons,List.take_zero]
   repeat(first|refine Xk rfl rfl (by decide) rfl rfl ?_|refine QN rfl rfl (by decide) rfl rfl rfl ?_|refine Zy rfl (by decide) rfl ?_)
   refine qE.nil (fun a ha=>?_);exact Ag.cons (Ag.cons (Ag.cons (Ag.nil ha.sz ha.df) (by exact ha.at_ rfl)) (by exact ha.at_ rfl)) (by exact ha.at_ rfl)
  ·skip
   cases big
   ·obtain⟨L,hL⟩:∃L,(mn==0)=L:=⟨_,rfl⟩;rw[hL]
    cases L
    ·obtain⟨R,hR⟩:∃R,(k==2)=R:=⟨_,rfl⟩;rw[hR]
     cases R
     ·skip
      simp only[List.append_eq,List.cons_append,List.nil_append,List.take_succ_cons,List.take_zero]
      repeat(first|refine Xk rfl rfl (by decide) rfl rfl ?_|refine Xg rfl (by decide) rfl (by decide) rfl rfl ?_|refine QU HV rfl rfl (by decide) rfl rfl rfl ?_|refine JT HV rfl rfl (by decide) rfl rfl rfl ?_|refine Zi rfl rfl (by decide) rfl rfl rfl (by assumption) ?_|refine QD rfl rfl (by decide) rfl rfl rfl ?_|refine QN rfl rfl (by decide) rfl rfl rfl ?_|refine Q6S rfl rfl (by decide) rfl rfl ?_)
      refine qE.nil (fun a ha=>?_);exact Ag.cons (Ag.cons (Ag.cons (Ag.nil ha.sz ha.df) (by exact ha.at_ rfl)) (by exact ha.at_ rfl)) (by exact ha.at_ rfl)
     ·skip
      simp only[List.append_eq,List.cons_append,List.nil_append,List.take_succ_cons,List.take_zero]
      repeat(first|refine Xk rfl rfl (by decide) rfl rfl ?_|refine Xg rfl (by decide) rfl (by decide) rfl rfl ?_|refine QU HV rfl rfl (by decide) rfl rfl rfl ?_|refine JT HV rfl rfl (by decide) rfl rfl rfl ?_|refine Zi rfl rfl (by decide) rfl rfl rfl (by assumption) ?_|refine QD rfl rfl (by decide) rfl rfl rfl ?_|refine QN rfl rfl (by decide) rfl rfl rfl ?_|refine Q6S rfl rfl (by decide) rfl rfl ?_)
      refine qE.nil (fun a ha=>?_);exact Ag.cons (Ag.cons (Ag.cons (Ag.nil ha.sz ha.df) (by exact ha.at_ rfl)) (by exact ha.at_ rfl)) (by exact ha.at_ rfl)
    ·skip
     simp only[List.append_eq,List.cons_append,List.nil_append,List.take_succ_cons,List.take_zero]
     repeat(first|refine Xk rfl rfl (by decide) rfl rfl ?_|refine Xg rfl (by decide) rfl (by decide) rfl rfl ?_|refine QU HV rfl rfl (by decide) rfl rfl rfl ?_|refine JT HV rfl rfl (by decide) rfl rfl rfl ?_|refine Zi rfl rfl (by decide) rfl rfl rfl (by assumption) ?_|refine QD rfl rfl (by decide) rfl rfl rfl ?_|refine Q6S rfl rfl (by decide) rfl rfl ?_|refine Zy rfl (by decide) rfl ?_)
     refine qE.nil (fun a ha=>?_);exact Ag.cons (Ag.cons (Ag.cons (Ag.nil ha.sz ha.df) (by exact ha.at_ rfl)) (by exact ha.at_ rfl)) (by exact ha.at_ rfl)
   ·obtain⟨R,hR⟩:∃R,(k==2)=R:=⟨_,rfl⟩;rw[hR]
    cases R
    ·skip
     simp only[List.append_eq,List.cons_append,List.nil_append,List.take_succ_cons,List.take_zero]
     repeat(first|refine Xk rfl rfl (by decide) rfl rfl ?_|refine Xg rfl (by decide) rfl (by decide) rfl rfl ?_|refine JT HV rfl rfl (by decide) rfl rfl rfl ?_|refine QD rfl rfl (by decide) rfl rfl rfl ?_|refine QN rfl rfl (by decide) rfl rfl rfl ?_|refine Q6S rfl rfl (by decide) rfl rfl ?_|refine Zy rfl (by decide) rfl ?_)
     refine qE.nil (fun a ha=>?_);exact Ag.cons (Ag.cons (Ag.cons (Ag.nil ha.sz ha.df) (by exact ha.at_ rfl)) (by exact ha.at_ rfl)) (by exact ha.at_ rfl)
    ·skip
     simp only[List.append_eq,List.cons_append,List.nil_append,List.take_succ_cons,List.take_zero]
     repeat(first|refine Xk rfl rfl (by decide) rfl rfl ?_|refine Xg rfl (by decide) rfl (by decide) rfl rfl ?_|refine JT HV rfl rfl (by decide) rfl rfl rfl ?_|refine QD rfl rfl (by decide) rfl rfl rfl ?_|refine QN rfl rfl (by decide) rfl rfl rfl ?_|refine Q6S rfl rfl (by decide) rfl rfl ?_|refine Zy rfl (by decide) rfl ?_)
     refine qE.nil (fun a ha=>?_);exact Ag.cons (Ag.cons (Ag.cons (Ag.nil ha.sz ha.df) (by exact ha.at_ rfl)) (by exact ha.at_ rfl)) (by exact ha.at_ rfl)
 obtain⟨b4,hb4⟩:∃b,(b3&&((!big&&mn==0)||(k==2)))=b:=⟨_,rfl⟩;rw[hb4];have HB_4:=Lib.hid hb4;clear hb4
 simp only[List.append_eq,List.cons_append,List.nil_append,List.drop_succ_cons,List.drop_zero]
 refine qE.cut [(56,.bool (b4&&((mx==0)||(JJ k)))),(1,.pointer (some ⟨w.heap.size,0,none⟩)),(3,.bool (k==2))] 9 ?_ ?_
 ·clear HF HB1
  cases b4
  ·skip
   simp only[List.append_eq,List.cons_append,List.nil_append,List.take_succ_cons,List.take_zero]
   repeat(first|refine Xk rfl rfl (by decide) rfl rfl ?_|refine QN rfl rfl (by decide) rfl rfl rfl ?_|refine Zy rfl (by decide) rfl ?_)
   refine qE.nil (fun a ha=>?_);exact Ag.cons (Ag.cons (Ag.cons (Ag.nil ha.sz ha.df) (by exact ha.at_ rfl)) (by exact ha.at_ rfl)) (by exact ha.at_ rfl)
  ·obtain⟨L,hL⟩:∃L,(mx==0)=L:=⟨_,rfl⟩;rw[hL]
   cases L
   ·obtain⟨R,hR⟩:∃R,(JJ k)=R:=⟨_,rfl⟩;rw[hR]
    cases R
    ·skip
     simp only[List.append_eq,List.cons_append,List.nil_append,List.take_succ_cons,List.take_zero]
     repeat(first|refine Xk rfl rfl (by decide) rfl rfl ?_|refine Xg rfl (by decide) rfl (by decide) rfl rfl ?_|refine QU HV rfl rfl (by decide) rfl rfl rfl ?_|refine XG HV rfl rfl (by decide) rfl rfl ?_|refine Zi rfl rfl (by decide) rfl rfl rfl (by assumption) ?_|refine QD rfl rfl (by decide) rfl rfl rfl ?_|refine QN rfl rfl (by decide) rfl rfl rfl ?_|(refine V1 (v:=.bool (JJ k)) rfl (fun _ _=>by kernel_rfl) rfl (by decide) rfl rfl (by rintro w' ⟨x,rfl⟩;exact Calls.up (JL _)) ?_;rw[hR]))
     refine qE.nil (fun a ha=>?_);exact Ag.cons (Ag.cons (Ag.cons (Ag.nil ha.sz ha.df) (by exact ha.at_ rfl)) (by exact ha.at_ rfl)) (by exact ha.at_ rfl)
    ·skip
     simp only[List.append_eq,List.cons_append,List.nil_append,List.take_succ_cons,List.take_zero]
     repeat(first|refine Xk rfl rfl (by decide) rfl rfl ?_|refine Xg rfl (by decide) rfl (by decide) rfl rfl ?_|refine QU HV rfl rfl (by decide) rfl rfl rfl ?_|refine XG HV rfl rfl (by decide) rfl rfl ?_|refine Zi rfl rfl (by decide) rfl rfl rfl (by assumption) ?_|refine QD rfl rfl (by decide) rfl rfl rfl ?_|refine QN rfl rfl (by decide) rfl rfl rfl ?_|(refine V1 (v:=.bool (JJ k)) rfl (fun _ _=>by kernel_rfl) rfl (by decide) rfl rfl (by rintro w' ⟨x,rfl⟩;exact Calls.up (JL _)) ?_;rw[hR]))
     refine qE.nil (fun a ha=>?_);exact Ag.cons (Ag.cons (Ag.cons (Ag.nil ha.sz ha.df) (by exact ha.at_ rfl)) (by exact ha.at_ rfl)) (by exact ha.at_ rfl)
   ·skip
    simp only[List.append_eq,List.cons_append,List.nil_append,List.take_succ_cons,List.take_zero]
    repeat(first|refine Xk rfl rfl (by decide) rfl rfl ?_|refine Xg rfl (by decide) rfl (by decide) rfl rfl ?_|refine QU HV rfl rfl (by decide) rfl rfl rfl ?_|refine Zi rfl rfl (by decide) rfl rfl rfl (by assumption) ?_|refine QD rfl rfl (by decide) rfl rfl rfl ?_|refine Zy rfl (by decide) rfl ?_)
    refine qE.nil (fun a ha=>?_);exact Ag.cons (Ag.cons (Ag.cons (Ag.nil ha.sz ha.df) (by exact ha.at_ rfl)) (by exact ha.at_ rfl)) (by exact ha.at_ rfl)
 obtain⟨b5,hb5⟩:∃b,(b4&&((mx==0)||(JJ k)))=b:=⟨_,rfl⟩;rw[hb5];have HB_5:=Lib.hid hb5;clear hb5
 simp only[List.append_eq,List.cons_append,List.nil_append,List.drop_succ_cons,List.drop_zero]
 refine qE.cut [(65,.bool (b5&&((count==0)||(QP k)))),(1,.pointer (some ⟨w.heap.size,0,none⟩)),(3,.bool (k==2))] 9 ?_ ?_
 ·clear HF HB1
  cases b5
  ·skip
   simp only[List.append_eq,List.cons_append,List.nil_append,List.take_succ_cons,List.take_zero]
   repeat(first|refine Xk rfl rfl (by decide) rfl rfl ?_|refine QN rfl rfl (by decide) rfl rfl rfl ?_|refine Zy rfl (by decide) rfl ?_)
   refine qE.nil (fun a ha=>?_);exact Ag.cons (Ag.cons (Ag.cons (Ag.nil ha.sz ha.df) (by exact ha.at_ rfl)) (by exact ha.at_ rfl)) (by exact ha.at_ rfl)
  ·obtain⟨L,hL⟩:∃L,(count==0)=L:=⟨_,rfl⟩;rw[hL]
   cases L
   ·obtain⟨R,hR⟩:∃R,(QP k)=R:=⟨_,rfl⟩;rw[hR]
    cases R
    ·skip
     simp only[List.append_eq,List.cons_append,List.nil_append,List.take_succ_cons,List.take_zero]
     repeat(first|refine Xk rfl rfl (by decide) rfl rfl ?_|refine Xg rfl (by decide) rfl (by decide) rfl rfl ?_|refine QU HV rfl rfl (by decide) rfl rfl rfl ?_|refine XG HV rfl rfl (by decide) rfl rfl ?_|refine Zi rfl rfl (by decide) rfl rfl rfl (by assumption) ?_|refine QD rfl rfl (by decide) rfl rfl rfl ?_|refine QN rfl rfl (by decide) rfl rfl rfl ?_|(refine V1 (v:=.bool (QP k)) rfl (fun _ _=>by kernel_rfl) rfl (by decide) rfl rfl (by rintro w' ⟨x,rfl⟩;exact Calls.up (QF _)) ?_;rw[hR]))
     refine qE.nil (fun a ha=>?_);exact Ag.cons (Ag.cons (Ag.cons (Ag.nil ha.sz ha.df) (by exact ha.at_ rfl)) (by exact ha.at_ rfl)) (by exact ha.at_ rfl)
    ·skip
     simp only[List.append_eq,List.cons_append,List.nil_append,List.take_succ_cons,List.take_zero]
     repeat(first|refine Xk rfl rfl (by decide) rfl rfl ?_|refine Xg rfl (by decide) rfl (by decide) rfl rfl ?_|refine QU HV rfl rfl (by decide) rfl rfl rfl ?_|refine XG HV rfl rfl (by decide) rfl rfl ?_|refine Zi rfl rfl (by decide) rfl rfl rfl (by assumption) ?_|refine QD rfl rfl (by decide) rfl rfl rfl ?_|refine QN rfl rfl (by decide) rfl rfl rfl ?_|(refine V1 (v:=.bool (QP k)) rfl (fun _ _=>by kernel_rfl) rfl (by decide) rfl rfl (by rintro w' ⟨x,rfl⟩;exact Calls.up (QF _)) ?_;rw[hR]))
     refine qE.nil (fun a ha=>?_);exact Ag.cons (Ag.cons (Ag.cons (Ag.nil ha.sz ha.df) (by exact ha.at_ rfl)) (by exact ha.at_ rfl)) (by exact ha.at_ rfl)
   ·skip
    simp only[List.append_eq,List.cons_append,List.nil_append,List.take_succ_cons,List.take_zero]
    repeat(first|refine Xk rfl rfl (by decide) rfl rfl ?_|refine Xg rfl (by decide) rfl (by decide) rfl rfl ?_|refine QU HV rfl rfl (by decide) rfl rfl rfl ?_|refine Zi rfl rfl (by decide) rfl rfl rfl (by assumption) ?_|refine QD rfl rfl (by decide) rfl rfl rfl ?_|refine Zy rfl (by decide) rfl ?_)
    refine qE.nil (fun a ha=>?_);exact Ag.cons (Ag.cons (Ag.cons (Ag.nil ha.sz ha.df) (by exact ha.at_ rfl)) (by exact ha.at_ rfl)) (by exact ha.at_ rfl)
 obtain⟨b6,hb6⟩:∃b,(b5&&((count==0)||(QP k)))=b:=⟨_,rfl⟩;rw[hb6];have HB_6:=Lib.hid hb6;clear hb6
 simp only[List.append_eq,List.cons_append,List.nil_append,List.drop_succ_cons,List.drop_zero]
 refine qE.cut [(74,.bool (b6&&((elem==0)||(Ka k)))),(1,.pointer (some ⟨w.heap.size,0,none⟩)),(3,.bool (k==2))] 9 ?_ ?_
 ·clear HF HB1
  cases b6
  ·skip
   simp only[List.append_eq,List.cons_append,List.nil_append,List.take_succ_cons,List.take_zero]
   repeat(first|refine Xk rfl rfl (by decide) rfl rfl ?_|refine QN rfl rfl (by decide) rfl rfl rfl ?_|refine Zy rfl (by decide) rfl ?_)
   refine qE.nil (fun a ha=>?_);exact Ag.cons (Ag.cons (Ag.cons (Ag.nil ha.sz ha.df) (by exact ha.at_ rfl)) (by exact ha.at_ rfl)) (by exact ha.at_ rfl)
  ·obtain⟨L,hL⟩:∃L,(elem==0)=L:=⟨_,rfl⟩;rw[hL]
   cases L
   ·obtain⟨R,hR⟩:∃R,(Ka k)=R:=⟨_,rfl⟩;rw[hR]
    cases R
    ·skip
     simp only[List.append_eq,List.cons_append,List.nil_append,List.take_succ_cons,List.take_zero]
     repeat(first|refine Xk rfl rfl (by decide) rfl rfl ?_|refine Xg rfl (by decide) rfl (by decide) rfl rfl ?_|refine QU HV rfl rfl (by decide) rfl rfl rfl ?_|refine XG HV rfl rfl (by decide) rfl rfl ?_|refine Zi rfl rfl (by decide) rfl rfl rfl (by assumption) ?_|refine QD rfl rfl (by decide) rfl rfl rfl ?_|refine QN rfl rfl (by decide) rfl rfl rfl ?_|(refine V1 (v:=.bool (Ka k)) rfl (fun _ _=>by kernel_rfl) rfl (by decide) rfl rfl (by rintro w' ⟨x,rfl⟩;exact Calls.up (YO _)) ?_;rw[hR]))
     refine qE.nil (fun a ha=>?_);exact Ag.cons (Ag.cons (Ag.cons (Ag.nil ha.sz ha.df) (by exact ha.at_ rfl)) (by exact ha.at_ rfl)) (by exact ha.at_ rfl)
    ·skip
     simp only[List.append_eq,List.cons_append,List.nil_append,List.take_succ_cons,List.take_zero]
     repeat(first|refine Xk rfl rfl (by decide) rfl rfl ?_|refine Xg rfl (by decide) rfl (by decide) rfl rfl ?_|refine QU HV rfl rfl (by decide) rfl rfl rfl ?_|refine XG HV rfl rfl (by decide) rfl rfl ?_|refine Zi rfl rfl (by decide) rfl rfl rfl (by assumption) ?_|refine QD rfl rfl (by decide) rfl rfl rfl ?_|refine QN rfl rfl (by decide) rfl rfl rfl ?_|(refine V1 (v:=.bool (Ka k)) rfl (fun _ _=>by kernel_rfl) rfl (by decide) rfl rfl (by rintro w' ⟨x,rfl⟩;exact Calls.up (YO _)) ?_;rw[hR]))
     refine qE.nil (fun a ha=>?_);exact Ag.cons (Ag.cons (Ag.cons (Ag.nil ha.sz ha.df) (by exact ha.at_ rfl)) (by exact ha.at_ rfl)) (by exact ha.at_ rfl)
   ·skip
    simp only[List.append_eq,List.cons_append,List.nil_append,List.take_succ_cons,List.take_zero]
    repeat(first|refine Xk rfl rfl (by decide) rfl rfl ?_|refine Xg rfl (by decide) rfl (by decide) rfl rfl ?_|refine QU HV rfl rfl (by decide) rfl rfl rfl ?_|refine Zi rfl rfl (by decide) rfl rfl rfl (by assumption) ?_|refine QD rfl rfl (by decide) rfl rfl rfl ?_|refine Zy rfl (by decide) rfl ?_)
    refine qE.nil (fun a ha=>?_);exact Ag.cons (Ag.cons (Ag.cons (Ag.nil ha.sz ha.df) (by exact ha.at_ rfl)) (by exact ha.at_ rfl)) (by exact ha.at_ rfl)
 obtain⟨b7,hb7⟩:∃b,(b6&&((elem==0)||(Ka k)))=b:=⟨_,rfl⟩;rw[hb7];have HB_7:=Lib.hid hb7;clear hb7
 simp only[List.append_eq,List.cons_append,List.nil_append,List.drop_succ_cons,List.drop_zero]
 refine qE.cut [(85,.bool (b7&&(((nn:Int)==0)||(k==7)))),(1,.pointer (some ⟨w.heap.size,0,none⟩)),(3,.bool (k==2))] 11 ?_ ?_
 ·clear HF HB1
  cases b7
  ·skip
   simp only[List.append_eq,List.cons_append,List.nil_append,List.take_succ_cons,List.take_zero]
   repeat(first|refine Xk rfl rfl (by decide) rfl rfl ?_|refine QN rfl rfl (by decide) rfl rfl rfl ?_|refine Zy rfl (by decide) rfl ?_)
   refine qE.nil (fun a ha=>?_);exact Ag.cons (Ag.cons (Ag.cons (Ag.nil ha.sz ha.df) (by exact ha.at_ rfl)) (by exact ha.at_ rfl)) (by exact ha.at_ rfl)
  ·obtain⟨L,hL⟩:∃L,((nn:Int)==0)=L:=⟨_,rfl⟩;rw[hL]
   cases L
   ·obtain⟨R,hR⟩:∃R,(k==7)=R:=⟨_,rfl⟩;rw[hR]
    cases R
    ·skip
     simp only[List.append_eq,List.cons_append,List.nil_append,List.take_succ_cons,List.take_zero]
     repeat(first|refine Xk rfl rfl (by decide) rfl rfl ?_|refine Xg rfl (by decide) rfl (by decide) rfl rfl ?_|refine QU HV rfl rfl (by decide) rfl rfl rfl ?_|refine VP HV rfl rfl (by decide) rfl rfl rfl ?_|refine Q0M rfl Tryz.underlying27 rfl (by decide) rfl rfl ?_|refine Zi rfl rfl (by decide) rfl rfl rfl (by assumption) ?_|refine QD rfl rfl (by decide) rfl rfl rfl ?_|refine QN rfl rfl (by decide) rfl rfl rfl ?_)
     refine qE.nil (fun a ha=>?_);exact Ag.cons (Ag.cons (Ag.cons (Ag.nil ha.sz ha.df) (by exact ha.at_ rfl)) (by exact ha.at_ rfl)) (by exact ha.at_ rfl)
    ·skip
     simp only[List.append_eq,List.cons_append,List.nil_append,List.take_succ_cons,List.take_zero]
     repeat(first|refine Xk rfl rfl (by decide) rfl rfl ?_|refine Xg rfl (by decide) rfl (by decide) rfl rfl ?_|refine QU HV rfl rfl (by decide) rfl rfl rfl ?_|refine VP HV rfl rfl (by decide) rfl rfl rfl ?_|refine Q0M rfl Tryz.underlying27 rfl (by decide) rfl rfl ?_|refine Zi rfl rfl (by decide) rfl rfl rfl (by assumption) ?_|refine QD rfl rfl (by decide) rfl rfl rfl ?_|refine QN rfl rfl (by decide) rfl rfl rfl ?_)
     refine qE.nil (fun a ha=>?_);exact Ag.cons (Ag.cons (Ag.cons (Ag.nil ha.sz ha.df) (by exact ha.at_ rfl)) (by exact ha.at_ rfl)) (by exact ha.at_ rfl)
   ·skip
    simp only[List.append_eq,List.cons_append,List.nil_append,List.take_succ_cons,List.take_zero]
    repeat(first|refine Xk rfl rfl (by decide) rfl rfl ?_|refine Xg rfl (by decide) rfl (by decide) rfl rfl ?_|refine VP HV rfl rfl (by decide) rfl rfl rfl ?_|refine Q0M rfl Tryz.underlying27 rfl (by decide) rfl rfl ?_|refine Zi rfl rfl (by decide) rfl rfl rfl (by assumption) ?_|refine QD rfl rfl (by decide) rfl rfl rfl ?_|refine Zy rfl (by decide) rfl ?_)
    refine qE.nil (fun a ha=>?_);exact Ag.cons (Ag.cons (Ag.cons (Ag.nil ha.sz ha.df) (by exact ha.at_ rfl)) (by exact ha.at_ rfl)) (by exact ha.at_ rfl)
 obtain⟨b8,hb8⟩:∃b,(b7&&(((nn:Int)==0)||(k==7)))=b:=⟨_,rfl⟩;rw[hb8];have HB_8:=Lib.hid hb8;clear hb8
 simp only[List.append_eq,List.cons_append,List.nil_append,List.drop_succ_cons,List.drop_zero]
 refine qE.cut [(2,.bool (b8&&(((np:Int)==0)||(JQ k))))] 10 ?_ ?_
 ·clear HF HB1
  cases b8
  ·skip
   simp only[List.append_eq,List.cons_append,List.nil_append,List.take_succ_cons,List.take_zero]
   repeat(first|refine QN rfl rfl (by decide) rfl rfl rfl ?_|refine Q1a rfl rfl (by decide) rfl rfl ?_|refine Zy rfl (by decide) rfl ?_)
   refine qE.nil (fun a ha=>?_);exact Ag.cons (Ag.nil ha.sz ha.df) (by exact ha.at_ rfl)
  ·obtain⟨L,hL⟩:∃L,((np:Int)==0)=L:=⟨_,rfl⟩;rw[hL]
   cases L
   ·obtain⟨R,hR⟩:∃R,(JQ k)=R:=⟨_,rfl⟩;rw[hR]
    cases R
    ·skip
     simp only[List.append_eq,List.cons_append,List.nil_append,List.take_succ_cons,List.take_zero]
     repeat(first|refine Xk rfl rfl (by decide) rfl rfl ?_|refine Xg rfl (by decide) rfl (by decide) rfl rfl ?_|refine Ko HV rfl rfl (by decide) rfl rfl rfl ?_|refine XG HV rfl rfl (by decide) rfl rfl ?_|refine Q0M rfl Tryz.underlying48 rfl (by decide) rfl rfl ?_|refine Zi rfl rfl (by decide) rfl rfl rfl (by assumption) ?_|refine QD rfl rfl (by decide) rfl rfl rfl ?_|refine QN rfl rfl (by decide) rfl rfl rfl ?_|refine Q1a rfl rfl (by decide) rfl rfl ?_|(refine V1 (v:=.bool (JQ k)) rfl (fun _ _=>by kernel_rfl) rfl (by decide) rfl rfl (by rintro w' ⟨x,rfl⟩;exact Calls.up (YX _)) ?_;rw[hR]))
     refine qE.nil (fun a ha=>?_);exact Ag.cons (Ag.nil ha.sz ha.df) (by exact ha.at_ rfl)
    ·skip
     simp only[List.append_eq,List.cons_append,List.nil_append,List.take_succ_cons,List.take_zero]
     repeat(first|refine Xk rfl rfl (by decide) rfl rfl ?_|refine Xg rfl (by decide) rfl (by decide) rfl rfl ?_|refine Ko HV rfl rfl (by decide) rfl rfl rfl ?_|refine XG HV rfl rfl (by decide) rfl rfl ?_|refine Q0M rfl Tryz.underlying48 rfl (by decide) rfl rfl ?_|refine Zi rfl rfl (by decide) rfl rfl rfl (by assumption) ?_|refine QD rfl rfl (by decide) rfl rfl rfl ?_|refine QN rfl rfl (by decide) rfl rfl rfl ?_|refine Q1a rfl rfl (by decide) rfl rfl ?_|(refine V1 (v:=.bool (JQ k)) rfl (fun _ _=>by kernel_rfl) rfl (by decide) rfl rfl (by rintro w' ⟨x,rfl⟩;exact Calls.up (YX _)) ?_;rw[hR]))
     refine qE.nil (fun a ha=>?_);exact Ag.cons (Ag.nil ha.sz ha.df) (by exact ha.at_ rfl)
   ·skip
    simp only[List.append_eq,List.cons_append,List.nil_append,List.take_succ_cons,List.take_zero]
    repeat(first|refine Xk rfl rfl (by decide) rfl rfl ?_|refine Xg rfl (by decide) rfl (by decide) rfl rfl ?_|refine Ko HV rfl rfl (by decide) rfl rfl rfl ?_|refine Q0M rfl Tryz.underlying48 rfl (by decide) rfl rfl ?_|refine Zi rfl rfl (by decide) rfl rfl rfl (by assumption) ?_|refine QD rfl rfl (by decide) rfl rfl rfl ?_|refine Q1a rfl rfl (by decide) rfl rfl ?_|refine Zy rfl (by decide) rfl ?_)
    refine qE.nil (fun a ha=>?_);exact Ag.cons (Ag.nil ha.sz ha.df) (by exact ha.at_ rfl)
 simp only[List.append_eq,List.cons_append,List.nil_append,List.drop_succ_cons,List.drop_zero]
 refine qE.nil (fun a ha=>?_)
 rintro w' ⟨y',rfl⟩
 have hs2:=ha.at_ (i:=2) rfl
 go_wp2_with fail
 exact bodyPost_ret (v:=.bool (b8&&(((np:Int)==0)||JQ k))) (by simp [results,Tryz.results148,go_sem,hs2]) ha.df ⟨by rw[← HF.out,Vd,HB_1.out,HB_2.out,HB_3.out,HB_4.out,HB_5.out,HB_6.out,HB_7.out,HB_8.out],Qz HB1.out y'.b⟩
end Go.Proofs.YtphkhfdmlcnoeaaGreatDoor
