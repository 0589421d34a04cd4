import Derived.Test.YtgdiadednlajgaaGreatDoorP1
namespace Go.Proofs.YtgdiadednlajgaaGreatDoor
set_option linter.unusedVariables false
set_option linter.unusedSimpArgs false
open Go.RowKit
def XI(k size:Int)(big:Bool)(mn mx stop count elem:Int)(nb nn np:Nat):Bool:=
 ((nb:Int)==0||k==1)&&(stop==0||Z7 k)&&(size==0||Z4 k)&&((!big&&mn==0)||k==2)&&(mx==0||Zf k)&&(count==0||Qp k)&&(elem==0||XJ k)&&((nn:Int)==0||k==7)&&((np:Int)==0||JZ k)
set_option maxRecDepth 100000 in
set_option maxHeartbeats 4000000 in
theorem VI{a0:Value}{k size mn mx stop count elem:Int}{big:Bool}{Ab An Ap:Option Addr}{nb cb nn cn np cp:Nat}(w:World):
  Calls Tryz.prog 90 #[.agg #[a0,.int .i64 k,.slice Ab nb cb,.int .i64 size,.bool big,.int .i64 mn,.int .i64 mx,.int .i64 stop,.int .i64 count,.int .i64 elem,.slice An nn cn,.slice Ap np cp]] w fun e w'=>e=.returned (.bool (XI k size big mn mx stop count elem nb nn np))∧Below w.heap.size w w':=by
 obtain⟨B,hB⟩:∃B,XI k size big mn mx stop count elem nb nn np=B:=⟨_,rfl⟩;have HF:=Lib.hid hB;rw[hB];clear hB
 go_enter Tryz.func90,Tryz.ntmps90
 go_upto_region 2 with (fail)
 obtain⟨W1,hW1⟩:∃W1,w.alloc (.cells #[a0,.int .i64 k,.slice Ab nb cb,.int .i64 size,.bool big,.int .i64 mn,.int .i64 mx,.int .i64 stop,.int .i64 count,.int .i64 elem,.slice An nn cn,.slice Ap np cp] 52)=W1:=⟨_,rfl⟩;have HB1:=Lib.hid (show Below w.heap.size w W1 by rw[← hW1];exact VV _ _)
 have HV:YW (fun w'=>∃x:Up W1,w'=x.w) w.heap.size a0 (.int .i64 k) (.slice Ab nb cb) (.int .i64 size) (.bool big) (.int .i64 mn) (.int .i64 mx) (.int .i64 stop) (.int .i64 count) (.int .i64 elem) (.slice An nn cn) (.slice Ap np cp):=by
  rintro w' ⟨x,rfl⟩ j u hu
  refine Up.cell ?_ x;rw[← hW1];exact Zm j u hu
 (try rw[hW1]);obtain⟨y,hy⟩:=Up.start W1;rw[hy];clear hW1 hy;refine Q7x y ?_;refine qE.start (N:=95) (E:=[(1,.pointer (some ⟨w.heap.size,0,none⟩)),(3,.bool (k==2))]) ?_ (Ag.cons (Ag.cons (Ag.nil (by rfl) (by rfl)) (by rfl)) (by rfl));refine qE.cut [(16,.bool (((nb:Int)==0)||(k==1))),(1,.pointer (some ⟨w.heap.size,0,none⟩)),(3,.bool (k==2))] 10 ?_ ?_
 ·clear HF HB1;obtain⟨L,hL⟩:∃L,((nb:Int)==0)=L:=⟨_,rfl⟩;rw[hL]
  cases L
  ·obtain⟨R,hR⟩:∃R,(k==1)=R:=⟨_,rfl⟩;rw[hR]
   cases R
   ·skip
    simp only[List.append_eq,List.cons_append,List.nil_append,List.take_succ_cons,List.take_zero]
    repeat(first|refine Xt rfl rfl (by decide) rfl rfl ?_|refine Xs rfl (by decide) rfl (by decide) rfl rfl ?_|refine X6 HV rfl rfl (by decide) rfl rfl rfl ?_|refine K5 HV rfl rfl (by decide) rfl rfl rfl ?_|refine Q1i rfl Tryz.underlying49 rfl (by decide) rfl rfl ?_|refine ZS rfl rfl (by decide) rfl rfl rfl (by assumption) ?_|refine QY rfl rfl (by decide) rfl rfl rfl ?_)
    refine qE.nil (fun a ha=>?_);exact Ag.cons (Ag.cons (Ag.cons (Ag.nil ha.sz ha.df) (by exact ha.at_ rfl)) (by exact ha.at_ rfl)) (by exact ha.at_ rfl)
   ·skip
    simp only[List.append_eq,List.cons_append,List.nil_append,List.take_succ_cons,List.take_zero]
    repeat(first|refine Xt rfl rfl (by decide) rfl rfl ?_|refine Xs rfl (by decide) rfl (by decide) rfl rfl ?_|refine X6 HV rfl rfl (by decide) rfl rfl rfl ?_|refine K5 HV rfl rfl (by decide) rfl rfl rfl ?_|refine Q1i rfl Tryz.underlying49 rfl (by decide) rfl rfl ?_|refine ZS rfl rfl (by decide) rfl rfl rfl (by assumption) ?_|refine QY rfl rfl (by decide) rfl rfl rfl ?_)
    refine qE.nil (fun a ha=>?_);exact Ag.cons (Ag.cons (Ag.cons (Ag.nil ha.sz ha.df) (by exact ha.at_ rfl)) (by exact ha.at_ rfl)) (by exact ha.at_ rfl)
  ·skip
   simp only[List.append_eq,List.cons_append,List.nil_append,List.take_succ_cons,List.take_zero]
   repeat(first|refine Xt rfl rfl (by decide) rfl rfl ?_|refine Xs rfl (by decide) rfl (by decide) rfl rfl ?_|refine K5 HV rfl rfl (by decide) rfl rfl rfl ?_|refine Q1i rfl Tryz.underlying49 rfl (by decide) rfl rfl ?_|refine ZS rfl rfl (by decide) rfl rfl rfl (by assumption) ?_|refine QP rfl rfl (by decide) rfl rfl rfl ?_|refine J6 rfl (by decide) rfl ?_)
   refine qE.nil (fun a ha=>?_);exact Ag.cons (Ag.cons (Ag.cons (Ag.nil ha.sz ha.df) (by exact ha.at_ rfl)) (by exact ha.at_ rfl)) (by exact ha.at_ rfl)
 obtain⟨b1,hb1⟩:∃b,(((nb:Int)==0)||(k==1))=b:=⟨_,rfl⟩;rw[hb1];have HB_1:=Lib.hid hb1;clear hb1
 simp only[List.append_eq,List.cons_append,List.nil_append,List.drop_succ_cons,List.drop_zero]
 refine qE.cut [(25,.bool (b1&&((stop==0)||(Z7 k)))),(1,.pointer (some ⟨w.heap.size,0,none⟩)),(3,.bool (k==2))] 9 ?_ ?_
 ·clear HF HB1
  cases b1
  ·skip
   simp only[List.append_eq,List.cons_append,List.nil_append,List.take_succ_cons,List.take_zero]
   repeat(first|refine Xt rfl rfl (by decide) rfl rfl ?_|refine QY rfl rfl (by decide) rfl rfl rfl ?_|refine J6 rfl (by decide) rfl ?_)
   refine qE.nil (fun a ha=>?_);exact Ag.cons (Ag.cons (Ag.cons (Ag.nil ha.sz ha.df) (by exact ha.at_ rfl)) (by exact ha.at_ rfl)) (by exact ha.at_ rfl)
  ·obtain⟨L,hL⟩:∃L,(stop==0)=L:=⟨_,rfl⟩;rw[hL]
   cases L
   ·obtain⟨R,hR⟩:∃R,(Z7 k)=R:=⟨_,rfl⟩;rw[hR]
    cases R
    ·skip
     simp only[List.append_eq,List.cons_append,List.nil_append,List.take_succ_cons,List.take_zero]
     repeat(first|refine Xt rfl rfl (by decide) rfl rfl ?_|refine Xs rfl (by decide) rfl (by decide) rfl rfl ?_|refine X6 HV rfl rfl (by decide) rfl rfl rfl ?_|refine XV HV rfl rfl (by decide) rfl rfl ?_|refine ZS rfl rfl (by decide) rfl rfl rfl (by assumption) ?_|refine QP rfl rfl (by decide) rfl rfl rfl ?_|refine QY rfl rfl (by decide) rfl rfl rfl ?_|(refine VD (v:=.bool (Z7 k)) rfl (fun _ _=>by kernel_rfl) rfl (by decide) rfl rfl (by rintro w' ⟨x,rfl⟩;exact Calls.up (QK _)) ?_;rw[hR]))
     refine qE.nil (fun a ha=>?_);exact Ag.cons (Ag.cons (Ag.cons (Ag.nil ha.sz ha.df) (by exact ha.at_ rfl)) (by exact ha.at_ rfl)) (by exact ha.at_ rfl)
    ·skip
     simp only[List.append_eq,List.cons_append,List.nil_append,List.take_succ_cons,List.take_zero]
     repeat(first|refine Xt rfl rfl (by decide) rfl rfl ?_|refine Xs rfl (by decide) rfl (by decide) rfl rfl ?_|refine X6 HV rfl rfl (by decide) rfl rfl rfl ?_|refine XV HV rfl rfl (by decide) rfl rfl ?_|refine ZS rfl rfl (by decide) rfl rfl rfl (by assumption) ?_|refine QP rfl rfl (by decide) rfl rfl rfl ?_|refine QY rfl rfl (by decide) rfl rfl rfl ?_|(refine VD (v:=.bool (Z7 k)) rfl (fun _ _=>by kernel_rfl) rfl (by decide) rfl rfl (by rintro w' ⟨x,rfl⟩;exact Calls.up (QK _)) ?_;rw[hR]))
     refine qE.nil (fun a ha=>?_);exact Ag.cons (Ag.cons (Ag.cons (Ag.nil ha.sz ha.df) (by exact ha.at_ rfl)) (by exact ha.at_ rfl)) (by exact ha.at_ rfl)
   ·skip
    simp only[List.append_eq,List.cons_append,List.nil_append,List.take_succ_cons,List.take_zero]
    repeat(first|refine Xt rfl rfl (by decide) rfl rfl ?_|refine Xs rfl (by decide) rfl (by decide) rfl rfl ?_|refine X6 HV rfl rfl (by decide) rfl rfl rfl ?_|refine ZS rfl rfl (by decide) rfl rfl rfl (by assumption) ?_|refine QP rfl rfl (by decide) rfl rfl rfl ?_|refine J6 rfl (by decide) rfl ?_)
    refine qE.nil (fun a ha=>?_);exact Ag.cons (Ag.cons (Ag.cons (Ag.nil ha.sz ha.df) (by exact ha.at_ rfl)) (by exact ha.at_ rfl)) (by exact ha.at_ rfl)
 obtain⟨b2,hb2⟩:∃b,(b1&&((stop==0)||(Z7 k)))=b:=⟨_,rfl⟩;rw[hb2];have HB_2:=Lib.hid hb2;clear hb2
 simp only[List.append_eq,List.cons_append,List.nil_append,List.drop_succ_cons,List.drop_zero]
 refine qE.cut [(34,.bool (b2&&((size==0)||(Z4 k)))),(1,.pointer (some ⟨w.heap.size,0,none⟩)),(3,.bool (k==2))] 9 ?_ ?_
 ·clear HF HB1
  cases b2
  ·skip
   simp only[List.append_eq,List.cons_append,List.nil_append,List.take_succ_cons,List.take_zero]
   repeat(first|refine Xt rfl rfl (by decide) rfl rfl ?_|refine QY rfl rfl (by decide) rfl rfl rfl ?_|refine J6 rfl (by decide) rfl ?_)
   refine qE.nil (fun a ha=>?_);exact Ag.cons (Ag.cons (Ag.cons (Ag.nil ha.sz ha.df) (by exact ha.at_ rfl)) (by exact ha.at_ rfl)) (by exact ha.at_ rfl)
  ·obtain⟨L,hL⟩:∃L,(size==0)=L:=⟨_,rfl⟩;rw[hL]
   cases L
   ·obtain⟨R,hR⟩:∃R,(Z4 k)=R:=⟨_,rfl⟩;rw[hR]
    cases R
    ·skip
     simp only[List.append_eq,List.cons_append,List.nil_append,List.take_succ_cons,List.take_zero]
     repeat(first|refine Xt rfl rfl (by decide) rfl rfl ?_|refine Xs rfl (by decide) rfl (by decide) rfl rfl ?_|refine X6 HV rfl rfl (by decide) rfl rfl rfl ?_|refine XV HV rfl rfl (by decide) rfl rfl ?_|refine ZS rfl rfl (by decide) rfl rfl rfl (by assumption) ?_|refine QP rfl rfl (by decide) rfl rfl rfl ?_|refine QY rfl rfl (by decide) rfl rfl rfl ?_|(refine VD (v:=.bool (Z4 k)) rfl (fun _ _=>by kernel_rfl) rfl (by decide) rfl rfl (by rintro w' ⟨x,rfl⟩;exact Calls.up (Xg _)) ?_;rw[hR]))
     refine qE.nil (fun a ha=>?_);exact Ag.cons (Ag.cons (Ag.cons (Ag.nil ha.sz ha.df) (by exact ha.at_ rfl)) (by exact ha.at_ rfl)) (by exact ha.at_ rfl)
    ·skip
     simp only[List.append_eq,List.cons_append,List.nil_append,List.take_succ_cons,List.take_zero]
     repeat(first|refine Xt rfl rfl (by decide) rfl rfl ?_|refine Xs rfl (by decide) rfl (by decide) rfl rfl ?_|refine X6 HV rfl rfl (by decide) rfl rfl rfl ?_|refine XV HV rfl rfl (by decide) rfl rfl ?_|refine ZS rfl rfl (by decide) rfl rfl rfl (by assumption) ?_|refine QP rfl rfl (by decide) rfl rfl rfl ?_|refine QY rfl rfl (by decide) rfl rfl rfl ?_|(refine VD (v:=.bool (Z4 k)) rfl (fun _ _=>by kernel_rfl) rfl (by decide) rfl rfl (by rintro w' ⟨x,rfl⟩;exact Calls.up (Xg _)) ?_;rw[hR]))
     refine qE.nil (fun a ha=>?_);exact Ag.cons (Ag.cons (Ag.cons (Ag.nil ha.sz ha.df) (by exact ha.at_ rfl)) (by exact ha.at_ rfl)) (by exact ha.at_ rfl)
   ·skip
    simp only[List.append_eq,List.cons_append,List.nil_append,List.take_succ_cons,List.take_zero]
    repeat(first|refine Xt rfl rfl (by decide) rfl rfl ?_|refine Xs rfl (by decide) rfl (by decide) rfl rfl ?_|refine X6 HV rfl rfl (by decide) rfl rfl rfl ?_|refine ZS rfl rfl (by decide) rfl rfl rfl (by assumption) ?_|refine QP rfl rfl (by decide) rfl rfl rfl ?_|refine J6 rfl (by decide) rfl ?_)
    refine qE.nil (fun a ha=>?_);exact Ag.cons (Ag.cons (Ag.cons (Ag.nil ha.sz ha.df) (by exact ha.at_ rfl)) (by exact ha.at_ rfl)) (by exact ha.at_ rfl)
 obtain⟨b3,hb3⟩:∃b,(b2&&((size==0)||(Z4 k)))=b:=⟨_,rfl⟩;rw[hb3];have HB_3:=Lib.hid hb3;clear hb3
 simp only[List.append_eq,List.cons_append,List.nil_append,List.drop_succ_cons,List.drop_zero]
 refine qE.cut [(47,.bool (b3&&((!big&&mn==0)||(k==2)))),(1,.pointer (some ⟨w.heap.size,0,none⟩)),(3,.bool (k==2))] 13 ?_ ?_
 ·clear HF HB1
  cases b3
  ·skip
   simp only[List.append_eq,List.cons_append,List.nil_append,List.take_succ_cons,List.take_zero]
   repeat(first|refine Xt rfl rfl (by decide) rfl rfl ?_|refine QY rfl rfl (by decide) rfl rfl rfl ?_|refine J6 rfl (by decide) rfl ?_)
   refine qE.nil (fun a ha=>?_);exact Ag.cons (Ag.cons (Ag.cons (Ag.nil ha.sz ha.df) (by exact ha.at_ rfl)) (by exact ha.at_ rfl)) (by exact ha.at_ rfl)
  ·skip
   cases big
   ·obtain⟨L,hL⟩:∃L,(mn==0)=L:=⟨_,rfl⟩;rw[hL]
    cases L
    ·obtain⟨R,hR⟩:∃R,(k==2)=R:=⟨_,rfl⟩;rw[hR]
     cases R
     ·skip
      simp only[List.append_eq,List.cons_append,List.nil_append,List.take_succ_cons,List.take_zero]
      repeat(first|refine Xt rfl rfl (by decide) rfl rfl ?_|refine Xs rfl (by decide) rfl (by decide) rfl rfl ?_|refine X6 HV rfl rfl (by decide) rfl rfl rfl ?_|refine Vs HV rfl rfl (by decide) rfl rfl rfl ?_|refine ZS rfl rfl (by decide) rfl rfl rfl (by assumption) ?_|refine QP rfl rfl (by decide) rfl rfl rfl ?_|refine QY rfl rfl (by decide) rfl rfl rfl ?_|refine Q75 rfl rfl (by decide) rfl rfl ?_)
      refine qE.nil (fun a ha=>?_);exact Ag.cons (Ag.cons (Ag.cons (Ag.nil ha.sz ha.df) (by exact ha.at_ rfl)) (by exact ha.at_ rfl)) (by exact ha.at_ rfl)
     ·skip
      simp only[List.append_eq,List.cons_append,List.nil_append,List.take_succ_cons,List.take_zero]
      repeat(first|refine Xt rfl rfl (by decide) rfl rfl ?_|refine Xs rfl (by decide) rfl (by decide) rfl rfl ?_|refine X6 HV rfl rfl (by decide) rfl rfl rfl ?_|refine Vs HV rfl rfl (by decide) rfl rfl rfl ?_|refine ZS rfl rfl (by decide) rfl rfl rfl (by assumption) ?_|refine QP rfl rfl (by decide) rfl rfl rfl ?_|refine QY rfl rfl (by decide) rfl rfl rfl ?_|refine Q75 rfl rfl (by decide) rfl rfl ?_)
      refine qE.nil (fun a ha=>?_);exact Ag.cons (Ag.cons (Ag.cons (Ag.nil ha.sz ha.df) (by exact ha.at_ rfl)) (by exact ha.at_ rfl)) (by exact ha.at_ rfl)
    ·skip
     simp only[List.append_eq,List.cons_append,List.nil_append,List.take_succ_cons,List.take_zero]
     repeat(first|refine Xt rfl rfl (by decide) rfl rfl ?_|refine Xs rfl (by decide) rfl (by decide) rfl rfl ?_|refine X6 HV rfl rfl (by decide) rfl rfl rfl ?_|refine Vs HV rfl rfl (by decide) rfl rfl rfl ?_|refine ZS rfl rfl (by decide) rfl rfl rfl (by assumption) ?_|refine QP rfl rfl (by decide) rfl rfl rfl ?_|refine Q75 rfl rfl (by decide) rfl rfl ?_|refine J6 rfl (by decide) rfl ?_)
     refine qE.nil (fun a ha=>?_);exact Ag.cons (Ag.cons (Ag.cons (Ag.nil ha.sz ha.df) (by exact ha.at_ rfl)) (by exact ha.at_ rfl)) (by exact ha.at_ rfl)
   ·obtain⟨R,hR⟩:∃R,(k==2)=R:=⟨_,rfl⟩;rw[hR]
    cases R
    ·skip
     simp only[List.append_eq,List.cons_append,List.nil_append,List.take_succ_cons,List.take_zero]
     repeat(first|refine Xt rfl rfl (by decide) rfl rfl ?_|refine Xs rfl (by decide) rfl (by decide) rfl rfl ?_|refine Vs HV rfl rfl (by decide) rfl rfl rfl ?_|refine QP rfl rfl (by decide) rfl rfl rfl ?_|refine QY rfl rfl (by decide) rfl rfl rfl ?_|refine Q75 rfl rfl (by decide) rfl rfl ?_|refine J6 rfl (by decide) rfl ?_)
     refine qE.nil (fun a ha=>?_);exact Ag.cons (Ag.cons (Ag.cons (Ag.nil ha.sz ha.df) (by exact ha.at_ rfl)) (by exact ha.at_ rfl)) (by exact ha.at_ rfl)
    ·skip
     simp only[List.append_eq,List.cons_append,List.nil_append,List.take_succ_cons,List.take_zero]
     repeat(first|refine Xt rfl rfl (by decide) rfl rfl ?_|refine Xs rfl (by decide) rfl (by decide) rfl rfl ?_|refine Vs HV rfl rfl (by decide) rfl rfl rfl ?_|refine QP rfl rfl (by decide) rfl rfl rfl ?_|refine QY rfl rfl (by decide) rfl rfl rfl ?_|refine Q75 rfl rfl (by decide) rfl rfl ?_|refine J6 rfl (by decide) rfl ?_)
     refine qE.nil (fun a ha=>?_);exact Ag.cons (Ag.cons (Ag.cons (Ag.nil ha.sz ha.df) (by exact ha.at_ rfl)) (by exact ha.at_ rfl)) (by exact ha.at_ rfl)
 obtain⟨b4,hb4⟩:∃b,(b3&&((!big&&mn==0)||(k==2)))=b:=⟨_,rfl⟩;rw[hb4];have HB_4:=Lib.hid hb4;clear hb4
 simp only[List.append_eq,List.cons_append,List.nil_append,List.drop_succ_cons,List.drop_zero]
 refine qE.cut [(56,.bool (b4&&((mx==0)||(Zf k)))),(1,.pointer (some ⟨w.heap.size,0,none⟩)),(3,.bool (k==2))] 9 ?_ ?_
 ·clear HF HB1
  cases b4
  ·skip
   simp only[List.append_eq,List.cons_append,List.nil_append,List.take_succ_cons,List.take_zero]
   repeat(first|refine Xt rfl rfl (by decide) rfl rfl ?_|refine QY rfl rfl (by decide) rfl rfl rfl ?_|refine J6 rfl (by decide) rfl ?_)
   refine qE.nil (fun a ha=>?_);exact Ag.cons (Ag.cons (Ag.cons (Ag.nil ha.sz ha.df) (by exact ha.at_ rfl)) (by exact ha.at_ rfl)) (by exact ha.at_ rfl)
  ·obtain⟨L,hL⟩:∃L,(mx==0)=L:=⟨_,rfl⟩;rw[hL]
   cases L
   ·obtain⟨R,hR⟩:∃R,(Zf k)=R:=⟨_,rfl⟩;rw[hR]
    cases R
    ·skip
     simp only[List.append_eq,List.cons_append,List.nil_append,List.take_succ_cons,List.take_zero]
     repeat(first|refine Xt rfl rfl (by decide) rfl rfl ?_|refine Xs rfl (by decide) rfl (by decide) rfl rfl ?_|refine X6 HV rfl rfl (by decide) rfl rfl rfl ?_|refine XV HV rfl rfl (by decide) rfl rfl ?_|refine ZS rfl rfl (by decide) rfl rfl rfl (by assumption) ?_|refine QP rfl rfl (by decide) rfl rfl rfl ?_|refine QY rfl rfl (by decide) rfl rfl rfl ?_|(refine VD (v:=.bool (Zf k)) rfl (fun _ _=>by kernel_rfl) rfl (by decide) rfl rfl (by rintro w' ⟨x,rfl⟩;exact Calls.up (Xi _)) ?_;rw[hR]))
     refine qE.nil (fun a ha=>?_);exact Ag.cons (Ag.cons (Ag.cons (Ag.nil ha.sz ha.df) (by exact ha.at_ rfl)) (by exact ha.at_ rfl)) (by exact ha.at_ rfl)
    ·skip
     simp only[List.append_eq,List.cons_append,List.nil_append,List.take_succ_cons,List.take_zero]
     repeat(first|refine Xt rfl rfl (by decide) rfl rfl ?_|refine Xs rfl (by decide) rfl (by decide) rfl rfl ?_|refine X6 HV rfl rfl (by decide) rfl rfl rfl ?_|refine XV HV rfl rfl (by decide) rfl rfl ?_|refine ZS rfl rfl (by decide) rfl rfl rfl (by assumption) ?_|refine QP rfl rfl (by decide) rfl rfl rfl ?_|refine QY rfl rfl (by decide) rfl rfl rfl ?_|(refine VD (v:=.bool (Zf k)) rfl (fun _ _=>by kernel_rfl) rfl (by decide) rfl rfl (by rintro w' ⟨x,rfl⟩;exact Calls.up (Xi _)) ?_;rw[hR]))
     refine qE.nil (fun a ha=>?_);exact Ag.cons (Ag.cons (Ag.cons (Ag.nil ha.sz ha.df) (by exact ha.at_ rfl)) (by exact ha.at_ rfl)) (by exact ha.at_ rfl)
   ·skip
    simp only[List.append_eq,List.cons_append,List.nil_append,List.take_succ_cons,List.take_zero]
    repeat(first|refine Xt rfl rfl (by decide) rfl rfl ?_|refine Xs rfl (by decide) rfl (by decide) rfl rfl ?_|refine X6 HV rfl rfl (by decide) rfl rfl rfl ?_|refine ZS rfl rfl (by decide) rfl rfl rfl (by assumption) ?_|refine QP rfl rfl (by decide) rfl rfl rfl ?_|refine J6 rfl (by decide) rfl ?_)
    refine qE.nil (fun a ha=>?_);exact Ag.cons (Ag.cons (Ag.cons (Ag.nil ha.sz ha.df) (by exact ha.at_ rfl)) (by exact ha.at_ rfl)) (by exact ha.at_ rfl)
 obtain⟨b5,hb5⟩:∃b,(b4&&((mx==0)||(Zf k)))=b:=⟨_,rfl⟩;rw[hb5];have HB_5:=Lib.hid hb5;clear hb5
 simp only[List.append_eq,List.cons_append,List.nil_append,List.drop_succ_cons,List.drop_zero]
 refine qE.cut [(65,.bool (b5&&((count==0)||(Qp k)))),(1,.pointer (some ⟨w.heap.size,0,none⟩)),(3,.bool (k==2))] 9 ?_ ?_
 ·clear HF HB1
  cases b5
  ·skip
   simp only[List.append_eq,List.cons_append,List.nil_append,List.take_succ_cons,List.take_zero]
   repeat(first|refine Xt rfl rfl (by decide) rfl rfl ?_|refine QY rfl rfl (by decide) rfl rfl rfl ?_|refine J6 rfl (by decide) rfl ?_)
   refine qE.nil (fun a ha=>?_);exact Ag.cons (Ag.cons (Ag.cons (Ag.nil ha.sz ha.df) (by exact ha.at_ rfl)) (by exact ha.at_ rfl)) (by exact ha.at_ rfl)
  ·obtain⟨L,hL⟩:∃L,(count==0)=L:=⟨_,rfl⟩;rw[hL]
   cases L
   ·obtain⟨R,hR⟩:∃R,(Qp k)=R:=⟨_,rfl⟩;rw[hR]
    cases R
    ·skip
     simp only[List.append_eq,List.cons_append,List.nil_append,List.take_succ_cons,List.take_zero]
     repeat(first|refine Xt rfl rfl (by decide) rfl rfl ?_|refine Xs rfl (by decide) rfl (by decide) rfl rfl ?_|refine X6 HV rfl rfl (by decide) rfl rfl rfl ?_|refine XV HV rfl rfl (by decide) rfl rfl ?_|refine ZS rfl rfl (by decide) rfl rfl rfl (by assumption) ?_|refine QP rfl rfl (by decide) rfl rfl rfl ?_|refine QY rfl rfl (by decide) rfl rfl rfl ?_|(refine VD (v:=.bool (Qp k)) rfl (fun _ _=>by kernel_rfl) rfl (by decide) rfl rfl (by rintro w' ⟨x,rfl⟩;exact Calls.up (Qu _)) ?_;rw[hR]))
     refine qE.nil (fun a ha=>?_);exact Ag.cons (Ag.cons (Ag.cons (Ag.nil ha.sz ha.df) (by exact ha.at_ rfl)) (by exact ha.at_ rfl)) (by exact ha.at_ rfl)
    ·skip
     simp only[List.append_eq,List.cons_append,List.nil_append,List.take_succ_cons,List.take_zero]
     repeat(first|refine Xt rfl rfl (by decide) rfl rfl ?_|refine Xs rfl (by decide) rfl (by decide) rfl rfl ?_|refine X6 HV rfl rfl (by decide) rfl rfl rfl ?_|refine XV HV rfl rfl (by decide) rfl rfl ?_|refine ZS rfl rfl (by decide) rfl rfl rfl (by assumption) ?_|refine QP rfl rfl (by decide) rfl rfl rfl ?_|refine QY rfl rfl (by decide) rfl rfl rfl ?_|(refine VD (v:=.bool (Qp k)) rfl (fun _ _=>by kernel_rfl) rfl (by decide) rfl rfl (by rintro w' ⟨x,rfl⟩;exact Calls.up (Qu _)) ?_;rw[hR]))
     refine qE.nil (fun a ha=>?_);exact Ag.cons (Ag.cons (Ag.cons (Ag.nil ha.sz ha.df) (by exact ha.at_ rfl)) (by exact ha.at_ rfl)) (by exact ha.at_ rfl)
   ·skip
    simp only[List.append_eq,List.cons_append,List.nil_append,List.take_succ_cons,List.take_zero]
    repeat(first|refine Xt rfl rfl (by decide) rfl rfl ?_|refine Xs rfl (by decide) rfl (by decide) rfl rfl ?_|refine X6 HV rfl rfl (by decide) rfl rfl rfl ?_|refine ZS rfl rfl (by decide) rfl rfl rfl (by assumption) ?_|refine QP rfl rfl (by decide) rfl rfl rfl ?_|refine J6 rfl (by decide) rfl ?_)
    refine qE.nil (fun a ha=>?_);exact Ag.cons (Ag.cons (Ag.cons (Ag.nil ha.sz ha.df) (by exact ha.at_ rfl)) (by exact ha.at_ rfl)) (by exact ha.at_ rfl)
 obtain⟨b6,hb6⟩:∃b,(b5&&((count==0)||(Qp k)))=b:=⟨_,rfl⟩;rw[hb6];have HB_6:=Lib.hid hb6;clear hb6
 simp only[List.append_eq,List.cons_append,List.nil_append,List.drop_succ_cons,List.drop_zero]
 refine qE.cut [(74,.bool (b6&&((elem==0)||(XJ k)))),(1,.pointer (some ⟨w.heap.size,0,none⟩)),(3,.bool (k==2))] 9 ?_ ?_
 ·clear HF HB1
  cases b6
  ·skip
   simp only[List.append_eq,List.cons_append,List.nil_append,List.take_succ_cons,List.take_zero]
   repeat(first|refine Xt rfl rfl (by decide) rfl rfl ?_|refine QY rfl rfl (by decide) rfl rfl rfl ?_|refine J6 rfl (by decide) rfl ?_)
   refine qE.nil (fun a ha=>?_);exact Ag.cons (Ag.cons (Ag.cons (Ag.nil ha.sz ha.df) (by exact ha.at_ rfl)) (by exact ha.at_ rfl)) (by exact ha.at_ rfl)
  ·obtain⟨L,hL⟩:∃L,(elem==0)=L:=⟨_,rfl⟩;rw[hL]
   cases L
   ·obtain⟨R,hR⟩:∃R,(XJ k)=R:=⟨_,rfl⟩;rw[hR]
    cases R
    ·skip
     simp only[List.append_eq,List.cons_append,List.nil_append,List.take_succ_cons,List.take_zero]
     repeat(first|refine Xt rfl rfl (by decide) rfl rfl ?_|refine Xs rfl (by decide) rfl (by decide) rfl rfl ?_|refine X6 HV rfl rfl (by decide) rfl rfl rfl ?_|refine XV HV rfl rfl (by decide) rfl rfl ?_|refine ZS rfl rfl (by decide) rfl rfl rfl (by assumption) ?_|refine QP rfl rfl (by decide) rfl rfl rfl ?_|refine QY rfl rfl (by decide) rfl rfl rfl ?_|(refine VD (v:=.bool (XJ k)) rfl (fun _ _=>by kernel_rfl) rfl (by decide) rfl rfl (by rintro w' ⟨x,rfl⟩;exact Calls.up (X7 _)) ?_;rw[hR]))
     refine qE.nil (fun a ha=>?_);exact Ag.cons (Ag.cons (Ag.cons (Ag.nil ha.sz ha.df) (by exact ha.at_ rfl)) (by exact ha.at_ rfl)) (by exact ha.at_ rfl)
    ·skip
     simp only[List.append_eq,List.cons_append,List.nil_append,List.take_succ_cons,List.take_zero]
     repeat(first|refine Xt rfl rfl (by decide) rfl rfl ?_|refine Xs rfl (by decide) rfl (by decide) rfl rfl ?_|refine X6 HV rfl rfl (by decide) rfl rfl rfl ?_|refine XV HV rfl rfl (by decide) rfl rfl ?_|refine ZS rfl rfl (by decide) rfl rfl rfl (by assumption) ?_|refine QP rfl rfl (by decide) rfl rfl rfl ?_|refine QY rfl rfl (by decide) rfl rfl rfl ?_|(refine VD (v:=.bool (XJ k)) rfl (fun _ _=>by kernel_rfl) rfl (by decide) rfl rfl (by rintro w' ⟨x,rfl⟩;exact Calls.up (X7 _)) ?_;rw[hR]))
     refine qE.nil (fun a ha=>?_);exact Ag.cons (Ag.cons (Ag.cons (Ag.nil ha.sz ha.df) (by exact ha.at_ rfl)) (by exact ha.at_ rfl)) (by exact ha.at_ rfl)
   ·skip
    simp only[List.append_eq,List.cons_append,List.nil_append,List.take_succ_cons,List.take_zero]
    repeat(first|refine Xt rfl rfl (by decide) rfl rfl ?_|refine Xs rfl (by decide) rfl (by decide) rfl rfl ?_|refine X6 HV rfl rfl (by decide) rfl rfl rfl ?_|refine ZS rfl rfl (by decide) rfl rfl rfl (by assumption) ?_|refine QP rfl rfl (by decide) rfl rfl rfl ?_|refine J6 rfl (by decide) rfl ?_)
    refine qE.nil (fun a ha=>?_);exact Ag.cons (Ag.cons (Ag.cons (Ag.nil ha.sz ha.df) (by exact ha.at_ rfl)) (by exact ha.at_ rfl)) (by exact ha.at_ rfl)
 obtain⟨b7,hb7⟩:∃b,(b6&&((elem==0)||(XJ k)))=b:=⟨_,rfl⟩;rw[hb7];have HB_7:=Lib.hid hb7;clear hb7
 simp only[List.append_eq,List.cons_append,List.nil_append,List.drop_succ_cons,List.drop_zero]
 refine qE.cut [(85,.bool (b7&&(((nn:Int)==0)||(k==7)))),(1,.pointer (some ⟨w.heap.size,0,none⟩)),(3,.bool (k==2))] 11 ?_ ?_
 ·clear HF HB1
  cases b7
  ·skip
   simp only[List.append_eq,List.cons_append,List.nil_append,List.take_succ_cons,List.take_zero]
   repeat(first|refine Xt rfl rfl (by decide) rfl rfl ?_|refine QY rfl rfl (by decide) rfl rfl rfl ?_|refine J6 rfl (by decide) rfl ?_)
   refine qE.nil (fun a ha=>?_);exact Ag.cons (Ag.cons (Ag.cons (Ag.nil ha.sz ha.df) (by exact ha.at_ rfl)) (by exact ha.at_ rfl)) (by exact ha.at_ rfl)
  ·obtain⟨L,hL⟩:∃L,((nn:Int)==0)=L:=⟨_,rfl⟩;rw[hL]
   cases L
   ·obtain⟨R,hR⟩:∃R,(k==7)=R:=⟨_,rfl⟩;rw[hR]
    cases R
    ·skip
     simp only[List.append_eq,List.cons_append,List.nil_append,List.take_succ_cons,List.take_zero]
     repeat(first|refine Xt rfl rfl (by decide) rfl rfl ?_|refine Xs rfl (by decide) rfl (by decide) rfl rfl ?_|refine X6 HV rfl rfl (by decide) rfl rfl rfl ?_|refine VX HV rfl rfl (by decide) rfl rfl rfl ?_|refine Q1i rfl Tryz.underlying50 rfl (by decide) rfl rfl ?_|refine ZS rfl rfl (by decide) rfl rfl rfl (by assumption) ?_|refine QP rfl rfl (by decide) rfl rfl rfl ?_|refine QY rfl rfl (by decide) rfl rfl rfl ?_)
     refine qE.nil (fun a ha=>?_);exact Ag.cons (Ag.cons (Ag.cons (Ag.nil ha.sz ha.df) (by exact ha.at_ rfl)) (by exact ha.at_ rfl)) (by exact ha.at_ rfl)
    ·skip
     simp only[List.append_eq,List.cons_append,List.nil_append,List.take_succ_cons,List.take_zero]
     repeat(first|refine Xt rfl rfl (by decide) rfl rfl ?_|refine Xs rfl (by decide) rfl (by decide) rfl rfl ?_|refine X6 HV rfl rfl (by decide) rfl rfl rfl ?_|refine VX HV rfl rfl (by decide) rfl rfl rfl ?_|refine Q1i rfl Tryz.underlying50 rfl (by decide) rfl rfl ?_|refine ZS rfl rfl (by decide) rfl rfl rfl (by assumption) ?_|refine QP rfl rfl (by decide) rfl rfl rfl ?_|refine QY rfl rfl (by decide) rfl rfl rfl ?_)
     refine qE.nil (fun a ha=>?_);exact Ag.cons (Ag.cons (Ag.cons (Ag.nil ha.sz ha.df) (by exact ha.at_ rfl)) (by exact ha.at_ rfl)) (by exact ha.at_ rfl)
   ·skip
    simp only[List.append_eq,List.cons_append,List.nil_append,List.take_succ_cons,List.take_zero]
    repeat(first|refine Xt rfl rfl (by decide) rfl rfl ?_|refine Xs rfl (by decide) rfl (by decide) rfl rfl ?_|refine VX HV rfl rfl (by decide) rfl rfl rfl ?_|refine Q1i rfl Tryz.underlying50 rfl (by decide) rfl rfl ?_|refine ZS rfl rfl (by decide) rfl rfl rfl (by assumption) ?_|refine QP rfl rfl (by decide) rfl rfl rfl ?_|refine J6 rfl (by decide) rfl ?_)
    refine qE.nil (fun a ha=>?_);exact Ag.cons (Ag.cons (Ag.cons (Ag.nil ha.sz ha.df) (by exact ha.at_ rfl)) (by exact ha.at_ rfl)) (by exact ha.at_ rfl)
 obtain⟨b8,hb8⟩:∃b,(b7&&(((nn:Int)==0)||(k==7)))=b:=⟨_,rfl⟩;rw[hb8];have HB_8:=Lib.hid hb8;clear hb8
 simp only[List.append_eq,List.cons_append,List.nil_append,List.drop_succ_cons,List.drop_zero]
 refine qE.cut [(2,.bool (b8&&(((np:Int)==0)||(JZ k))))] 10 ?_ ?_
 ·clear HF HB1
  cases b8
  ·skip
   simp only[List.append_eq,List.cons_append,List.nil_append,List.take_succ_cons,List.take_zero]
   repeat(first|refine QY rfl rfl (by decide) rfl rfl rfl ?_|refine Q11 rfl rfl (by decide) rfl rfl ?_|refine J6 rfl (by decide) rfl ?_)
   refine qE.nil (fun a ha=>?_);exact Ag.cons (Ag.nil ha.sz ha.df) (by exact ha.at_ rfl)
  ·obtain⟨L,hL⟩:∃L,((np:Int)==0)=L:=⟨_,rfl⟩;rw[hL]
   cases L
   ·obtain⟨R,hR⟩:∃R,(JZ k)=R:=⟨_,rfl⟩;rw[hR]
    cases R
    ·skip
     simp only[List.append_eq,List.cons_append,List.nil_append,List.take_succ_cons,List.take_zero]
     repeat(first|refine Xt rfl rfl (by decide) rfl rfl ?_|refine Xs rfl (by decide) rfl (by decide) rfl rfl ?_|refine KU HV rfl rfl (by decide) rfl rfl rfl ?_|refine XV HV rfl rfl (by decide) rfl rfl ?_|refine Q1i rfl Tryz.underlying30 rfl (by decide) rfl rfl ?_|refine ZS rfl rfl (by decide) rfl rfl rfl (by assumption) ?_|refine QP rfl rfl (by decide) rfl rfl rfl ?_|refine QY rfl rfl (by decide) rfl rfl rfl ?_|refine Q11 rfl rfl (by decide) rfl rfl ?_|(refine VD (v:=.bool (JZ k)) rfl (fun _ _=>by kernel_rfl) rfl (by decide) rfl rfl (by rintro w' ⟨x,rfl⟩;exact Calls.up (Xd _)) ?_;rw[hR]))
     refine qE.nil (fun a ha=>?_);exact Ag.cons (Ag.nil ha.sz ha.df) (by exact ha.at_ rfl)
    ·skip
     simp only[List.append_eq,List.cons_append,List.nil_append,List.take_succ_cons,List.take_zero]
     repeat(first|refine Xt rfl rfl (by decide) rfl rfl ?_|refine Xs rfl (by decide) rfl (by decide) rfl rfl ?_|refine KU HV rfl rfl (by decide) rfl rfl rfl ?_|refine XV HV rfl rfl (by decide) rfl rfl ?_|refine Q1i rfl Tryz.underlying30 rfl (by decide) rfl rfl ?_|refine ZS rfl rfl (by decide) rfl rfl rfl (by assumption) ?_|refine QP rfl rfl (by decide) rfl rfl rfl ?_|refine QY rfl rfl (by decide) rfl rfl rfl ?_|refine Q11 rfl rfl (by decide) rfl rfl ?_|(refine VD (v:=.bool (JZ k)) rfl (fun _ _=>by kernel_rfl) rfl (by decide) rfl rfl (by rintro w' ⟨x,rfl⟩;exact Calls.up (Xd _)) ?_;rw[hR]))
     refine qE.nil (fun a ha=>?_);exact Ag.cons (Ag.nil ha.sz ha.df) (by exact ha.at_ rfl)
   ·skip
    simp only[List.append_eq,List.cons_append,List.nil_append,List.take_succ_cons,List.take_zero]
    repeat(first|refine Xt rfl rfl (by decide) rfl rfl ?_|refine Xs rfl (by decide) rfl (by decide) rfl rfl ?_|refine KU HV rfl rfl (by decide) rfl rfl rfl ?_|refine Q1i rfl Tryz.underlying30 rfl (by decide) rfl rfl ?_|refine ZS rfl rfl (by decide) rfl rfl rfl (by assumption) ?_|refine QP rfl rfl (by decide) rfl rfl rfl ?_|refine Q11 rfl rfl (by decide) rfl rfl ?_|refine J6 rfl (by decide) rfl ?_)
    refine qE.nil (fun a ha=>?_);exact Ag.cons (Ag.nil ha.sz ha.df) (by exact ha.at_ rfl)
 simp only[List.append_eq,List.cons_append,List.nil_append,List.drop_succ_cons,List.drop_zero]
 refine qE.nil (fun a ha=>?_)
 rintro w' ⟨y',rfl⟩
 have hs2:=ha.at_ (i:=2) rfl
 go_wp2_with fail
 exact bodyPost_ret (v:=.bool (b8&&(((np:Int)==0)||JZ k))) (by simp [results,Tryz.results90,go_sem,hs2]) ha.df ⟨by rw[← HF.out,XI,HB_1.out,HB_2.out,HB_3.out,HB_4.out,HB_5.out,HB_6.out,HB_7.out,HB_8.out],X4 HB1.out y'.b⟩
end Go.Proofs.YtgdiadednlajgaaGreatDoor
