import Derived.Test.YtphkhfdmlcnoeaaGreatDoorP7
namespace Go.Proofs.YtphkhfdmlcnoeaaGreatDoor
set_option linter.unusedVariables false
set_option linter.unusedSimpArgs false
set_option maxRecDepth 1000000
set_option maxHeartbeats 32000000
open Go.RowKit
section
variable {Ab An Ap:Option Addr}{a0:Value}{big:Bool}{cb cn cp n nb nn np:Nat}{count elem mn mx size stop:Int}{parts:List Int}{w:World}
def QC(k size mn mx stop count elem:Int)(parts:List Int)(n:Nat):Bool:=
 if k=2 then inB size 1 4&&(inB mn 0 mx&&decide (mx<256 ^ size.toNat))
 else if k=3 then inB mx 0 999999999&&(inB stop 0 255&&!(inB stop 48 57))
 else if k=4 then inB size 1 1000
 else if k=5 then inB size 0 1000&&inB stop 0 255
 else if k=9 then inB stop 0 255&&inB elem 0 ((n:Int) - 1)
 else if k=6 then inB count 0 ((n:Int) - 1)&&inB elem 0 ((n:Int) - 1)
 else if k=10 then inB count 0 ((n:Int) - 1)
 else !(parts.any fun x=>!(inB x 0 ((n:Int) - 1)))
theorem QiY(w:World)(o:Obj)(v:Value)(T:TypeId):((w.alloc o).alloc (.cells #[v] T)).cell? ⟨w.heap.size+1,0,none⟩=some v:=by
 have h:=cell_of_row ((w.alloc o).alloc (.cells #[v] T)) (w.alloc o).heap.size 0 #[v] T (0,0) Qfz;rw[Qx] at h;exact h
theorem Qjc(w:World)(o o':Obj)(v:Value)(T:TypeId):(((w.alloc o).alloc o').alloc (.cells #[v] T)).cell? ⟨w.heap.size+1+1,0,none⟩=some v:=by
 have h:=cell_of_row (((w.alloc o).alloc o').alloc (.cells #[v] T)) ((w.alloc o).alloc o').heap.size 0 #[v] T (0,0) Qfz;rw[Qx,Qx] at h;exact h
theorem Qd2{P:Program}{Q:Exit->Act->World->Prop}{id:Nat}{a:Act}{l:List Oper}(y:Up w)(hm:P.follows .mixedOrders=true)(hB:Region.lexB .any l.toArray=true)
  (h:wpQuiet P l.toArray (fun w'=>∃x:Up w,w'=x.w) (fun a'=>∀w',(∃x:Up w,w'=x.w)->Q .normal a' w') l a):(Code.region id l.toArray true).wp P Q a y.w:=
 wp_region_quiet (C:=fun w'=>∃x:Up w,w'=x.w) hm hB ⟨⟨_,y.b.drew⟩,rfl⟩ (by simpa using h)
theorem Yo:Q0P 176:=fun args W=>by kernel_rfl
theorem Yq(n a b:Int)(x:Up w):Calls Tryz.prog 95 #[.int .i64 n,.int .i64 a,.int .i64 b] x.w fun e w''=>e=.returned (.bool (inB n a b))/\∃y:Up w,w''=y.w:=
 Calls.up ((Xk n a b x.w).mono fun e w' h=>QgB)
theorem QnJ(w:World)(hn:n<=1048576)(hp:Rd w w.heap.size 1 Ap np (iv parts))(hnp:np<=1048576):
  Calls Tryz.prog 149 #[.agg #[a0,.int .i64 1,.slice Ab nb cb,.int .i64 size,.bool big,.int .i64 mn,.int .i64 mx,.int .i64 stop,.int .i64 count,.int .i64 elem,.slice An nn cn,.slice Ap np cp],.int .i64 (n:Int)] w fun e w'=>e=.returned (.bool (QC 1 size mn mx stop count elem parts n))/\Below w.heap.size w w':=by
 obtain⟨B,hB⟩:∃B,QC 1 size mn mx stop count elem parts n=B:=⟨_,rfl⟩;have HF:=Q2 hB;rw[hB];clear hB;go_enter Tryz.func149,Tryz.ntmps149;go_upto_region 2 with (fail)
 obtain⟨W1,hW1⟩:∃W1,((w.alloc (.cells #[a0,.int .i64 1,.slice Ab nb cb,.int .i64 size,.bool big,.int .i64 mn,.int .i64 mx,.int .i64 stop,.int .i64 count,.int .i64 elem,.slice An nn cn,.slice Ap np cp] 65)).alloc (.cells #[.int .i64 (n:Int)] 3)).alloc (.cells #[.func (.func 175) #[] #[.pointer (some ⟨w.heap.size+1,0,none⟩)]] 104)=W1:=⟨_,rfl⟩;have HB1:=Q1K;have hc:∀(j:Nat) (u:Value),[a0,.int .i64 1,.slice Ab nb cb,.int .i64 size,.bool big,.int .i64 mn,.int .i64 mx,.int .i64 stop,.int .i64 count,.int .i64 elem,.slice An nn cn,.slice Ap np cp][j]? =some u->W1.cell? ⟨w.heap.size,j,none⟩=some u:=by rw[<- hW1];exact Q1h
 have hc13:W1.cell? ⟨w.heap.size+1,0,none⟩=some (.int .i64 (n:Int)):=by rw[<- hW1];exact Q1H
 have hc14:W1.cell? ⟨w.heap.size+1+1,0,none⟩=some (.func (.func 175) #[] #[.pointer (some ⟨w.heap.size+1,0,none⟩)]):=by rw[<- hW1];exact Q1B
 have r0:=Q1s;have r1:=Q1l;have r2:=Q1y;have r3:=Q1p;have r4:=Q1N;have r5:=Q1A;have r6:=Q1t;have r7:=Q1i;have r8:=Q1n;have r9:=Q1m;have r10:=Q1z;have r11:=Q1O;have r13:=Q1v;have r14:=Q1q;(try rw[hW1]);obtain⟨y,hy⟩:=Up.start W1;rw[hy];clear hW1 hc hc13 hc14 hy;have HP:=Qm0;clear hp;go_wp2_with fail
 refine(Zq (p:=fun x=>!(inB x 0 ((n:Int) - 1))) ((HP.out.below y.b).more y.b.size) hnp (fun x z _=>(Q0x x z.w (r13 ⟨z.w,X2 y.b z.b⟩) (r14 ⟨z.w,X2 y.b z.b⟩) hn).mono fun e w' h=>QgB) Yo).mono ?_;rintro e w' ⟨rfl,hb⟩;have HB2:=Qfb;clear hb;go_wp2_with fail
 exact Qlk
theorem Qnf(w:World)(hn:n<=1048576):
  Calls Tryz.prog 149 #[.agg #[a0,.int .i64 2,.slice Ab nb cb,.int .i64 size,.bool big,.int .i64 mn,.int .i64 mx,.int .i64 stop,.int .i64 count,.int .i64 elem,.slice An nn cn,.slice Ap np cp],.int .i64 (n:Int)] w fun e w'=>e=.returned (.bool (QC 2 size mn mx stop count elem parts n))/\Below w.heap.size w w':=by
 obtain⟨B,hB⟩:∃B,QC 2 size mn mx stop count elem parts n=B:=⟨_,rfl⟩;have HF:=Q2 hB;rw[hB];clear hB;go_enter Tryz.func149,Tryz.ntmps149;go_upto_region 2 with (fail)
 obtain⟨W1,hW1⟩:∃W1,((w.alloc (.cells #[a0,.int .i64 2,.slice Ab nb cb,.int .i64 size,.bool big,.int .i64 mn,.int .i64 mx,.int .i64 stop,.int .i64 count,.int .i64 elem,.slice An nn cn,.slice Ap np cp] 65)).alloc (.cells #[.int .i64 (n:Int)] 3)).alloc (.cells #[.func (.func 175) #[] #[.pointer (some ⟨w.heap.size+1,0,none⟩)]] 104)=W1:=⟨_,rfl⟩;have HB1:=Q1K;have hc:∀(j:Nat) (u:Value),[a0,.int .i64 2,.slice Ab nb cb,.int .i64 size,.bool big,.int .i64 mn,.int .i64 mx,.int .i64 stop,.int .i64 count,.int .i64 elem,.slice An nn cn,.slice Ap np cp][j]? =some u->W1.cell? ⟨w.heap.size,j,none⟩=some u:=by rw[<- hW1];exact Q1h
 have hc13:W1.cell? ⟨w.heap.size+1,0,none⟩=some (.int .i64 (n:Int)):=by rw[<- hW1];exact Q1H
 have hc14:W1.cell? ⟨w.heap.size+1+1,0,none⟩=some (.func (.func 175) #[] #[.pointer (some ⟨w.heap.size+1,0,none⟩)]):=by rw[<- hW1];exact Q1B
 have r0:=Q1s;have r1:=Q1l;have r2:=Q1y;have r3:=Q1p;have r4:=Q1N;have r5:=Q1A;have r6:=Q1t;have r7:=Q1i;have r8:=Q1n;have r9:=Q1m;have r10:=Q1z;have r11:=Q1O;have r13:=Q1v;have r14:=Q1q;(try rw[hW1]);obtain⟨y,hy⟩:=Up.start W1;rw[hy];clear hW1 hc hc13 hc14 hy;cases h1:inB size 1 4
 ·skip
  go_upto_region 4 with (fail)
  refine Q1u ?_;repeat(quiet_step ((go_at_call 95;exact Yq _ _ _ _)))
  refine wpQuiet_nil ?_;rintro w' ⟨y',rfl⟩;go_wp2_with fail
  exact V3
 ·skip
  cases h2:inB mn 0 mx
  ·skip
   go_upto_region 4 with (fail)
   refine Q1u ?_;repeat(quiet_step ((go_at_call 95;exact Yq _ _ _ _)))
   refine wpQuiet_nil ?_;rintro w' ⟨y',rfl⟩;go_wp2_with fail
   exact V3
  ·skip
   rcases (show size=1\/size=2\/size=3\/size=4 by have:=of_decide_eq_true h1;omega) with rfl|rfl|rfl|rfl
   ·have hw:IntKind.i64.wrap 8=8:=YP;have hv:IntKind.i64.wrap 256=256:=YP
    cases h3:decide (mx<256)
    ·skip
     go_upto_region 4 with (fail)
     refine Q1u ?_;repeat(quiet_step ((go_at_call 95;exact Yq _ _ _ _)))
     refine wpQuiet_nil ?_;rintro w' ⟨y',rfl⟩;go_wp2_with fail
     exact V3
    ·skip
     go_upto_region 4 with (fail)
     refine Q1u ?_;repeat(quiet_step ((go_at_call 95;exact Yq _ _ _ _)))
     refine wpQuiet_nil ?_;rintro w' ⟨y',rfl⟩;go_wp2_with fail
     exact V3
   ·have hw:IntKind.i64.wrap 16=16:=YP;have hv:IntKind.i64.wrap 65536=65536:=YP
    cases h3:decide (mx<65536)
    ·skip
     go_upto_region 4 with (fail)
     refine Q1u ?_;repeat(quiet_step ((go_at_call 95;exact Yq _ _ _ _)))
     refine wpQuiet_nil ?_;rintro w' ⟨y',rfl⟩;go_wp2_with fail
     exact V3
    ·skip
     go_upto_region 4 with (fail)
     refine Q1u ?_;repeat(quiet_step ((go_at_call 95;exact Yq _ _ _ _)))
     refine wpQuiet_nil ?_;rintro w' ⟨y',rfl⟩;go_wp2_with fail
     exact V3
   ·have hw:IntKind.i64.wrap 24=24:=YP;have hv:IntKind.i64.wrap 16777216=16777216:=YP
    cases h3:decide (mx<16777216)
    ·skip
     go_upto_region 4 with (fail)
     refine Q1u ?_;repeat(quiet_step ((go_at_call 95;exact Yq _ _ _ _)))
     refine wpQuiet_nil ?_;rintro w' ⟨y',rfl⟩;go_wp2_with fail
     exact V3
    ·skip
     go_upto_region 4 with (fail)
     refine Q1u ?_;repeat(quiet_step ((go_at_call 95;exact Yq _ _ _ _)))
     refine wpQuiet_nil ?_;rintro w' ⟨y',rfl⟩;go_wp2_with fail
     exact V3
   ·have hw:IntKind.i64.wrap 32=32:=YP;have hv:IntKind.i64.wrap 4294967296=4294967296:=YP
    cases h3:decide (mx<4294967296)
    ·skip
     go_upto_region 4 with (fail)
     refine Q1u ?_;repeat(quiet_step ((go_at_call 95;exact Yq _ _ _ _)))
     refine wpQuiet_nil ?_;rintro w' ⟨y',rfl⟩;go_wp2_with fail
     exact V3
    ·skip
     go_upto_region 4 with (fail)
     refine Q1u ?_;repeat(quiet_step ((go_at_call 95;exact Yq _ _ _ _)))
     refine wpQuiet_nil ?_;rintro w' ⟨y',rfl⟩;go_wp2_with fail
     exact V3
theorem Qor(w:World)(hn:n<=1048576):
  Calls Tryz.prog 149 #[.agg #[a0,.int .i64 3,.slice Ab nb cb,.int .i64 size,.bool big,.int .i64 mn,.int .i64 mx,.int .i64 stop,.int .i64 count,.int .i64 elem,.slice An nn cn,.slice Ap np cp],.int .i64 (n:Int)] w fun e w'=>e=.returned (.bool (QC 3 size mn mx stop count elem parts n))/\Below w.heap.size w w':=by
 obtain⟨B,hB⟩:∃B,QC 3 size mn mx stop count elem parts n=B:=⟨_,rfl⟩;have HF:=Q2 hB;rw[hB];clear hB;go_enter Tryz.func149,Tryz.ntmps149;go_upto_region 2 with (fail)
 obtain⟨W1,hW1⟩:∃W1,((w.alloc (.cells #[a0,.int .i64 3,.slice Ab nb cb,.int .i64 size,.bool big,.int .i64 mn,.int .i64 mx,.int .i64 stop,.int .i64 count,.int .i64 elem,.slice An nn cn,.slice Ap np cp] 65)).alloc (.cells #[.int .i64 (n:Int)] 3)).alloc (.cells #[.func (.func 175) #[] #[.pointer (some ⟨w.heap.size+1,0,none⟩)]] 104)=W1:=⟨_,rfl⟩;have HB1:=Q1K;have hc:∀(j:Nat) (u:Value),[a0,.int .i64 3,.slice Ab nb cb,.int .i64 size,.bool big,.int .i64 mn,.int .i64 mx,.int .i64 stop,.int .i64 count,.int .i64 elem,.slice An nn cn,.slice Ap np cp][j]? =some u->W1.cell? ⟨w.heap.size,j,none⟩=some u:=by rw[<- hW1];exact Q1h
 have hc13:W1.cell? ⟨w.heap.size+1,0,none⟩=some (.int .i64 (n:Int)):=by rw[<- hW1];exact Q1H
 have hc14:W1.cell? ⟨w.heap.size+1+1,0,none⟩=some (.func (.func 175) #[] #[.pointer (some ⟨w.heap.size+1,0,none⟩)]):=by rw[<- hW1];exact Q1B
 have r0:=Q1s;have r1:=Q1l;have r2:=Q1y;have r3:=Q1p;have r4:=Q1N;have r5:=Q1A;have r6:=Q1t;have r7:=Q1i;have r8:=Q1n;have r9:=Q1m;have r10:=Q1z;have r11:=Q1O;have r13:=Q1v;have r14:=Q1q;(try rw[hW1]);obtain⟨y,hy⟩:=Up.start W1;rw[hy];clear hW1 hc hc13 hc14 hy;cases h1:inB mx 0 999999999
 ·skip
  go_wp2_with ((go_at_call 95;refine(Xk _ _ _ _).mono ?_;rintro e w' ⟨rfl,rfl⟩))
  exact V3
 ·skip
  cases h2:inB stop 0 255
  ·skip
   go_wp2_with (first|(go_at_call 95;refine(Xk _ _ _ _).mono ?_;rintro e w' ⟨rfl,rfl⟩))
   exact V3
  ·skip
   cases h3:inB stop 48 57
   ·skip
    go_wp2_with (first|(go_at_call 95;refine(Xk _ _ _ _).mono ?_;rintro e w' ⟨rfl,rfl⟩))
    exact V3
   ·skip
    go_wp2_with (first|(go_at_call 95;refine(Xk _ _ _ _).mono ?_;rintro e w' ⟨rfl,rfl⟩))
    exact V3
theorem Qkc(w:World)(hn:n<=1048576):
  Calls Tryz.prog 149 #[.agg #[a0,.int .i64 4,.slice Ab nb cb,.int .i64 size,.bool big,.int .i64 mn,.int .i64 mx,.int .i64 stop,.int .i64 count,.int .i64 elem,.slice An nn cn,.slice Ap np cp],.int .i64 (n:Int)] w fun e w'=>e=.returned (.bool (QC 4 size mn mx stop count elem parts n))/\Below w.heap.size w w':=by
 obtain⟨B,hB⟩:∃B,QC 4 size mn mx stop count elem parts n=B:=⟨_,rfl⟩;have HF:=Q2 hB;rw[hB];clear hB;go_enter Tryz.func149,Tryz.ntmps149;go_upto_region 2 with (fail)
 obtain⟨W1,hW1⟩:∃W1,((w.alloc (.cells #[a0,.int .i64 4,.slice Ab nb cb,.int .i64 size,.bool big,.int .i64 mn,.int .i64 mx,.int .i64 stop,.int .i64 count,.int .i64 elem,.slice An nn cn,.slice Ap np cp] 65)).alloc (.cells #[.int .i64 (n:Int)] 3)).alloc (.cells #[.func (.func 175) #[] #[.pointer (some ⟨w.heap.size+1,0,none⟩)]] 104)=W1:=⟨_,rfl⟩;have HB1:=Q1K;have hc:∀(j:Nat) (u:Value),[a0,.int .i64 4,.slice Ab nb cb,.int .i64 size,.bool big,.int .i64 mn,.int .i64 mx,.int .i64 stop,.int .i64 count,.int .i64 elem,.slice An nn cn,.slice Ap np cp][j]? =some u->W1.cell? ⟨w.heap.size,j,none⟩=some u:=by rw[<- hW1];exact Q1h
 have hc13:W1.cell? ⟨w.heap.size+1,0,none⟩=some (.int .i64 (n:Int)):=by rw[<- hW1];exact Q1H
 have hc14:W1.cell? ⟨w.heap.size+1+1,0,none⟩=some (.func (.func 175) #[] #[.pointer (some ⟨w.heap.size+1,0,none⟩)]):=by rw[<- hW1];exact Q1B
 have r0:=Q1s;have r1:=Q1l;have r2:=Q1y;have r3:=Q1p;have r4:=Q1N;have r5:=Q1A;have r6:=Q1t;have r7:=Q1i;have r8:=Q1n;have r9:=Q1m;have r10:=Q1z;have r11:=Q1O;have r13:=Q1v;have r14:=Q1q;(try rw[hW1]);obtain⟨y,hy⟩:=Up.start W1;rw[hy];clear hW1 hc hc13 hc14 hy;cases h1:inB size 1 1000
 ·skip
  go_wp2_with ((go_at_call 95;refine(Xk _ _ _ _).mono ?_;rintro e w' ⟨rfl,rfl⟩))
  exact V3
 ·skip
  go_wp2_with ((go_at_call 95;refine(Xk _ _ _ _).mono ?_;rintro e w' ⟨rfl,rfl⟩))
  exact V3
theorem Qmd(w:World)(hn:n<=1048576):
  Calls Tryz.prog 149 #[.agg #[a0,.int .i64 5,.slice Ab nb cb,.int .i64 size,.bool big,.int .i64 mn,.int .i64 mx,.int .i64 stop,.int .i64 count,.int .i64 elem,.slice An nn cn,.slice Ap np cp],.int .i64 (n:Int)] w fun e w'=>e=.returned (.bool (QC 5 size mn mx stop count elem parts n))/\Below w.heap.size w w':=by
 obtain⟨B,hB⟩:∃B,QC 5 size mn mx stop count elem parts n=B:=⟨_,rfl⟩;have HF:=Q2 hB;rw[hB];clear hB;go_enter Tryz.func149,Tryz.ntmps149;go_upto_region 2 with (fail)
 obtain⟨W1,hW1⟩:∃W1,((w.alloc (.cells #[a0,.int .i64 5,.slice Ab nb cb,.int .i64 size,.bool big,.int .i64 mn,.int .i64 mx,.int .i64 stop,.int .i64 count,.int .i64 elem,.slice An nn cn,.slice Ap np cp] 65)).alloc (.cells #[.int .i64 (n:Int)] 3)).alloc (.cells #[.func (.func 175) #[] #[.pointer (some ⟨w.heap.size+1,0,none⟩)]] 104)=W1:=⟨_,rfl⟩;have HB1:=Q1K;have hc:∀(j:Nat) (u:Value),[a0,.int .i64 5,.slice Ab nb cb,.int .i64 size,.bool big,.int .i64 mn,.int .i64 mx,.int .i64 stop,.int .i64 count,.int .i64 elem,.slice An nn cn,.slice Ap np cp][j]? =some u->W1.cell? ⟨w.heap.size,j,none⟩=some u:=by rw[<- hW1];exact Q1h
 have hc13:W1.cell? ⟨w.heap.size+1,0,none⟩=some (.int .i64 (n:Int)):=by rw[<- hW1];exact Q1H
 have hc14:W1.cell? ⟨w.heap.size+1+1,0,none⟩=some (.func (.func 175) #[] #[.pointer (some ⟨w.heap.size+1,0,none⟩)]):=by rw[<- hW1];exact Q1B
 have r0:=Q1s;have r1:=Q1l;have r2:=Q1y;have r3:=Q1p;have r4:=Q1N;have r5:=Q1A;have r6:=Q1t;have r7:=Q1i;have r8:=Q1n;have r9:=Q1m;have r10:=Q1z;have r11:=Q1O;have r13:=Q1v;have r14:=Q1q;(try rw[hW1]);obtain⟨y,hy⟩:=Up.start W1;rw[hy];clear hW1 hc hc13 hc14 hy;cases h1:inB size 0 1000
 ·skip
  go_wp2_with ((go_at_call 95;refine(Xk _ _ _ _).mono ?_;rintro e w' ⟨rfl,rfl⟩))
  exact V3
 ·skip
  cases h2:inB stop 0 255
  ·skip
   go_wp2_with (first|(go_at_call 95;refine(Xk _ _ _ _).mono ?_;rintro e w' ⟨rfl,rfl⟩))
   exact V3
  ·skip
   go_wp2_with (first|(go_at_call 95;refine(Xk _ _ _ _).mono ?_;rintro e w' ⟨rfl,rfl⟩))
   exact V3
theorem Qky(w:World)(hn:n<=1048576):
  Calls Tryz.prog 149 #[.agg #[a0,.int .i64 6,.slice Ab nb cb,.int .i64 size,.bool big,.int .i64 mn,.int .i64 mx,.int .i64 stop,.int .i64 count,.int .i64 elem,.slice An nn cn,.slice Ap np cp],.int .i64 (n:Int)] w fun e w'=>e=.returned (.bool (QC 6 size mn mx stop count elem parts n))/\Below w.heap.size w w':=by
 obtain⟨B,hB⟩:∃B,QC 6 size mn mx stop count elem parts n=B:=⟨_,rfl⟩;have HF:=Q2 hB;rw[hB];clear hB;go_enter Tryz.func149,Tryz.ntmps149;go_upto_region 2 with (fail)
 obtain⟨W1,hW1⟩:∃W1,((w.alloc (.cells #[a0,.int .i64 6,.slice Ab nb cb,.int .i64 size,.bool big,.int .i64 mn,.int .i64 mx,.int .i64 stop,.int .i64 count,.int .i64 elem,.slice An nn cn,.slice Ap np cp] 65)).alloc (.cells #[.int .i64 (n:Int)] 3)).alloc (.cells #[.func (.func 175) #[] #[.pointer (some ⟨w.heap.size+1,0,none⟩)]] 104)=W1:=⟨_,rfl⟩;have HB1:=Q1K;have hc:∀(j:Nat) (u:Value),[a0,.int .i64 6,.slice Ab nb cb,.int .i64 size,.bool big,.int .i64 mn,.int .i64 mx,.int .i64 stop,.int .i64 count,.int .i64 elem,.slice An nn cn,.slice Ap np cp][j]? =some u->W1.cell? ⟨w.heap.size,j,none⟩=some u:=by rw[<- hW1];exact Q1h
 have hc13:W1.cell? ⟨w.heap.size+1,0,none⟩=some (.int .i64 (n:Int)):=by rw[<- hW1];exact Q1H
 have hc14:W1.cell? ⟨w.heap.size+1+1,0,none⟩=some (.func (.func 175) #[] #[.pointer (some ⟨w.heap.size+1,0,none⟩)]):=by rw[<- hW1];exact Q1B
 have r0:=Q1s;have r1:=Q1l;have r2:=Q1y;have r3:=Q1p;have r4:=Q1N;have r5:=Q1A;have r6:=Q1t;have r7:=Q1i;have r8:=Q1n;have r9:=Q1m;have r10:=Q1z;have r11:=Q1O;have r13:=Q1v;have r14:=Q1q;(try rw[hW1]);obtain⟨y,hy⟩:=Up.start W1;rw[hy];clear hW1 hc hc13 hc14 hy;cases h1:inB count 0 ((n:Int) - 1)
 ·skip
  go_wp2_with ((go_at_call 175;refine(XZ _ _ (r13 _) hn).mono ?_;rintro e w' ⟨rfl,rfl⟩))
  exact V3
 ·skip
  cases h2:inB elem 0 ((n:Int) - 1)
  ·skip
   go_wp2_with (first|(go_at_call 95;refine(Xk _ _ _ _).mono ?_;rintro e w' ⟨rfl,rfl⟩)|(go_at_call 175;refine(XZ _ _ (r13 _) hn).mono ?_;rintro e w' ⟨rfl,rfl⟩))
   exact V3
  ·skip
   go_wp2_with (first|(go_at_call 95;refine(Xk _ _ _ _).mono ?_;rintro e w' ⟨rfl,rfl⟩)|(go_at_call 175;refine(XZ _ _ (r13 _) hn).mono ?_;rintro e w' ⟨rfl,rfl⟩))
   exact V3
theorem QjP(w:World)(hn:n<=1048576)(hp:Rd w w.heap.size 1 Ap np (iv parts))(hnp:np<=1048576):
  Calls Tryz.prog 149 #[.agg #[a0,.int .i64 7,.slice Ab nb cb,.int .i64 size,.bool big,.int .i64 mn,.int .i64 mx,.int .i64 stop,.int .i64 count,.int .i64 elem,.slice An nn cn,.slice Ap np cp],.int .i64 (n:Int)] w fun e w'=>e=.returned (.bool (QC 7 size mn mx stop count elem parts n))/\Below w.heap.size w w':=by
 obtain⟨B,hB⟩:∃B,QC 7 size mn mx stop count elem parts n=B:=⟨_,rfl⟩;have HF:=Q2 hB;rw[hB];clear hB;go_enter Tryz.func149,Tryz.ntmps149;go_upto_region 2 with (fail)
 obtain⟨W1,hW1⟩:∃W1,((w.alloc (.cells #[a0,.int .i64 7,.slice Ab nb cb,.int .i64 size,.bool big,.int .i64 mn,.int .i64 mx,.int .i64 stop,.int .i64 count,.int .i64 elem,.slice An nn cn,.slice Ap np cp] 65)).alloc (.cells #[.int .i64 (n:Int)] 3)).alloc (.cells #[.func (.func 175) #[] #[.pointer (some ⟨w.heap.size+1,0,none⟩)]] 104)=W1:=⟨_,rfl⟩;have HB1:=Q1K;have hc:∀(j:Nat) (u:Value),[a0,.int .i64 7,.slice Ab nb cb,.int .i64 size,.bool big,.int .i64 mn,.int .i64 mx,.int .i64 stop,.int .i64 count,.int .i64 elem,.slice An nn cn,.slice Ap np cp][j]? =some u->W1.cell? ⟨w.heap.size,j,none⟩=some u:=by rw[<- hW1];exact Q1h
 have hc13:W1.cell? ⟨w.heap.size+1,0,none⟩=some (.int .i64 (n:Int)):=by rw[<- hW1];exact Q1H
 have hc14:W1.cell? ⟨w.heap.size+1+1,0,none⟩=some (.func (.func 175) #[] #[.pointer (some ⟨w.heap.size+1,0,none⟩)]):=by rw[<- hW1];exact Q1B
 have r0:=Q1s;have r1:=Q1l;have r2:=Q1y;have r3:=Q1p;have r4:=Q1N;have r5:=Q1A;have r6:=Q1t;have r7:=Q1i;have r8:=Q1n;have r9:=Q1m;have r10:=Q1z;have r11:=Q1O;have r13:=Q1v;have r14:=Q1q;(try rw[hW1]);obtain⟨y,hy⟩:=Up.start W1;rw[hy];clear hW1 hc hc13 hc14 hy;have HP:=Qm0;clear hp;go_wp2_with fail
 refine(Zq (p:=fun x=>!(inB x 0 ((n:Int) - 1))) ((HP.out.below y.b).more y.b.size) hnp (fun x z _=>(Q0x x z.w (r13 ⟨z.w,X2 y.b z.b⟩) (r14 ⟨z.w,X2 y.b z.b⟩) hn).mono fun e w' h=>QgB) Yo).mono ?_;rintro e w' ⟨rfl,hb⟩;have HB2:=Qfb;clear hb;go_wp2_with fail
 exact Qlk
theorem Qkl(w:World)(hn:n<=1048576)(hp:Rd w w.heap.size 1 Ap np (iv parts))(hnp:np<=1048576):
  Calls Tryz.prog 149 #[.agg #[a0,.int .i64 8,.slice Ab nb cb,.int .i64 size,.bool big,.int .i64 mn,.int .i64 mx,.int .i64 stop,.int .i64 count,.int .i64 elem,.slice An nn cn,.slice Ap np cp],.int .i64 (n:Int)] w fun e w'=>e=.returned (.bool (QC 8 size mn mx stop count elem parts n))/\Below w.heap.size w w':=by
 obtain⟨B,hB⟩:∃B,QC 8 size mn mx stop count elem parts n=B:=⟨_,rfl⟩;have HF:=Q2 hB;rw[hB];clear hB;go_enter Tryz.func149,Tryz.ntmps149;go_upto_region 2 with (fail)
 obtain⟨W1,hW1⟩:∃W1,((w.alloc (.cells #[a0,.int .i64 8,.slice Ab nb cb,.int .i64 size,.bool big,.int .i64 mn,.int .i64 mx,.int .i64 stop,.int .i64 count,.int .i64 elem,.slice An nn cn,.slice Ap np cp] 65)).alloc (.cells #[.int .i64 (n:Int)] 3)).alloc (.cells #[.func (.func 175) #[] #[.pointer (some ⟨w.heap.size+1,0,none⟩)]] 104)=W1:=⟨_,rfl⟩;have HB1:=Q1K;have hc:∀(j:Nat) (u:Value),[a0,.int .i64 8,.slice Ab nb cb,.int .i64 size,.bool big,.int .i64 mn,.int .i64 mx,.int .i64 stop,.int .i64 count,.int .i64 elem,.slice An nn cn,.slice Ap np cp][j]? =some u->W1.cell? ⟨w.heap.size,j,none⟩=some u:=by rw[<- hW1];exact Q1h
 have hc13:W1.cell? ⟨w.heap.size+1,0,none⟩=some (.int .i64 (n:Int)):=by rw[<- hW1];exact Q1H
 have hc14:W1.cell? ⟨w.heap.size+1+1,0,none⟩=some (.func (.func 175) #[] #[.pointer (some ⟨w.heap.size+1,0,none⟩)]):=by rw[<- hW1];exact Q1B
 have r0:=Q1s;have r1:=Q1l;have r2:=Q1y;have r3:=Q1p;have r4:=Q1N;have r5:=Q1A;have r6:=Q1t;have r7:=Q1i;have r8:=Q1n;have r9:=Q1m;have r10:=Q1z;have r11:=Q1O;have r13:=Q1v;have r14:=Q1q;(try rw[hW1]);obtain⟨y,hy⟩:=Up.start W1;rw[hy];clear hW1 hc hc13 hc14 hy;have HP:=Qm0;clear hp;go_wp2_with fail
 refine(Zq (p:=fun x=>!(inB x 0 ((n:Int) - 1))) ((HP.out.below y.b).more y.b.size) hnp (fun x z _=>(Q0x x z.w (r13 ⟨z.w,X2 y.b z.b⟩) (r14 ⟨z.w,X2 y.b z.b⟩) hn).mono fun e w' h=>QgB) Yo).mono ?_;rintro e w' ⟨rfl,hb⟩;have HB2:=Qfb;clear hb;go_wp2_with fail
 exact Qlk
theorem QlG(w:World)(hn:n<=1048576):
  Calls Tryz.prog 149 #[.agg #[a0,.int .i64 9,.slice Ab nb cb,.int .i64 size,.bool big,.int .i64 mn,.int .i64 mx,.int .i64 stop,.int .i64 count,.int .i64 elem,.slice An nn cn,.slice Ap np cp],.int .i64 (n:Int)] w fun e w'=>e=.returned (.bool (QC 9 size mn mx stop count elem parts n))/\Below w.heap.size w w':=by
 obtain⟨B,hB⟩:∃B,QC 9 size mn mx stop count elem parts n=B:=⟨_,rfl⟩;have HF:=Q2 hB;rw[hB];clear hB;go_enter Tryz.func149,Tryz.ntmps149;go_upto_region 2 with (fail)
 obtain⟨W1,hW1⟩:∃W1,((w.alloc (.cells #[a0,.int .i64 9,.slice Ab nb cb,.int .i64 size,.bool big,.int .i64 mn,.int .i64 mx,.int .i64 stop,.int .i64 count,.int .i64 elem,.slice An nn cn,.slice Ap np cp] 65)).alloc (.cells #[.int .i64 (n:Int)] 3)).alloc (.cells #[.func (.func 175) #[] #[.pointer (some ⟨w.heap.size+1,0,none⟩)]] 104)=W1:=⟨_,rfl⟩;have HB1:=Q1K;have hc:∀(j:Nat) (u:Value),[a0,.int .i64 9,.slice Ab nb cb,.int .i64 size,.bool big,.int .i64 mn,.int .i64 mx,.int .i64 stop,.int .i64 count,.int .i64 elem,.slice An nn cn,.slice Ap np cp][j]? =some u->W1.cell? ⟨w.heap.size,j,none⟩=some u:=by rw[<- hW1];exact Q1h
 have hc13:W1.cell? ⟨w.heap.size+1,0,none⟩=some (.int .i64 (n:Int)):=by rw[<- hW1];exact Q1H
 have hc14:W1.cell? ⟨w.heap.size+1+1,0,none⟩=some (.func (.func 175) #[] #[.pointer (some ⟨w.heap.size+1,0,none⟩)]):=by rw[<- hW1];exact Q1B
 have r0:=Q1s;have r1:=Q1l;have r2:=Q1y;have r3:=Q1p;have r4:=Q1N;have r5:=Q1A;have r6:=Q1t;have r7:=Q1i;have r8:=Q1n;have r9:=Q1m;have r10:=Q1z;have r11:=Q1O;have r13:=Q1v;have r14:=Q1q;(try rw[hW1]);obtain⟨y,hy⟩:=Up.start W1;rw[hy];clear hW1 hc hc13 hc14 hy;cases h1:inB stop 0 255
 ·skip
  go_wp2_with ((go_at_call 95;refine(Xk _ _ _ _).mono ?_;rintro e w' ⟨rfl,rfl⟩))
  exact V3
 ·skip
  cases h2:inB elem 0 ((n:Int) - 1)
  ·skip
   go_wp2_with (first|(go_at_call 95;refine(Xk _ _ _ _).mono ?_;rintro e w' ⟨rfl,rfl⟩)|(go_at_call 175;refine(XZ _ _ (r13 _) hn).mono ?_;rintro e w' ⟨rfl,rfl⟩))
   exact V3
  ·skip
   go_wp2_with (first|(go_at_call 95;refine(Xk _ _ _ _).mono ?_;rintro e w' ⟨rfl,rfl⟩)|(go_at_call 175;refine(XZ _ _ (r13 _) hn).mono ?_;rintro e w' ⟨rfl,rfl⟩))
   exact V3
theorem QiG(w:World)(hn:n<=1048576):
  Calls Tryz.prog 149 #[.agg #[a0,.int .i64 10,.slice Ab nb cb,.int .i64 size,.bool big,.int .i64 mn,.int .i64 mx,.int .i64 stop,.int .i64 count,.int .i64 elem,.slice An nn cn,.slice Ap np cp],.int .i64 (n:Int)] w fun e w'=>e=.returned (.bool (QC 10 size mn mx stop count elem parts n))/\Below w.heap.size w w':=by
 obtain⟨B,hB⟩:∃B,QC 10 size mn mx stop count elem parts n=B:=⟨_,rfl⟩;have HF:=Q2 hB;rw[hB];clear hB;go_enter Tryz.func149,Tryz.ntmps149;go_upto_region 2 with (fail)
 obtain⟨W1,hW1⟩:∃W1,((w.alloc (.cells #[a0,.int .i64 10,.slice Ab nb cb,.int .i64 size,.bool big,.int .i64 mn,.int .i64 mx,.int .i64 stop,.int .i64 count,.int .i64 elem,.slice An nn cn,.slice Ap np cp] 65)).alloc (.cells #[.int .i64 (n:Int)] 3)).alloc (.cells #[.func (.func 175) #[] #[.pointer (some ⟨w.heap.size+1,0,none⟩)]] 104)=W1:=⟨_,rfl⟩;have HB1:=Q1K;have hc:∀(j:Nat) (u:Value),[a0,.int .i64 10,.slice Ab nb cb,.int .i64 size,.bool big,.int .i64 mn,.int .i64 mx,.int .i64 stop,.int .i64 count,.int .i64 elem,.slice An nn cn,.slice Ap np cp][j]? =some u->W1.cell? ⟨w.heap.size,j,none⟩=some u:=by rw[<- hW1];exact Q1h
 have hc13:W1.cell? ⟨w.heap.size+1,0,none⟩=some (.int .i64 (n:Int)):=by rw[<- hW1];exact Q1H
 have hc14:W1.cell? ⟨w.heap.size+1+1,0,none⟩=some (.func (.func 175) #[] #[.pointer (some ⟨w.heap.size+1,0,none⟩)]):=by rw[<- hW1];exact Q1B
 have r0:=Q1s;have r1:=Q1l;have r2:=Q1y;have r3:=Q1p;have r4:=Q1N;have r5:=Q1A;have r6:=Q1t;have r7:=Q1i;have r8:=Q1n;have r9:=Q1m;have r10:=Q1z;have r11:=Q1O;have r13:=Q1v;have r14:=Q1q;(try rw[hW1]);obtain⟨y,hy⟩:=Up.start W1;rw[hy];clear hW1 hc hc13 hc14 hy;cases h1:inB count 0 ((n:Int) - 1)
 ·skip
  go_wp2_with ((go_at_call 175;refine(XZ _ _ (r13 _) hn).mono ?_;rintro e w' ⟨rfl,rfl⟩))
  exact V3
 ·skip
  go_wp2_with ((go_at_call 175;refine(XZ _ _ (r13 _) hn).mono ?_;rintro e w' ⟨rfl,rfl⟩))
  exact V3
end
end Go.Proofs.YtphkhfdmlcnoeaaGreatDoor
