import Derived.Test.YtphkhfdmlcnoeaaGreatDoorP6
namespace Go.Proofs.YtphkhfdmlcnoeaaGreatDoor
set_option linter.unusedVariables false
set_option linter.unusedSimpArgs false
set_option maxRecDepth 1000000
set_option maxHeartbeats 32000000
open Go.RowKit
section
variable {Ab An Ap:Option Addr}{a0:Value}{big:Bool}{cb cn cp n nb nn np:Nat}{count elem mn mx size stop:Int}{parts:List Int}{w:World}
def QH(k size mn mx stop count elem:Int)(parts:List Int)(n:Nat):Bool:=
 if k=2 then inB size 1 4&&(inB mn 0 mx&&decide (mx<256 ^ size.toNat))
 else if k=3 then inB mx 0 999999999&&(inB stop 0 255&&!(inB stop 48 57))
 else if k=4 then inB size 1 1000
 else if k=5 then inB size 0 1000&&inB stop 0 255
 else if k=9 then inB stop 0 255&&inB elem 0 ((n:Int) - 1)
 else if k=6 then inB count 0 ((n:Int) - 1)&&inB elem 0 ((n:Int) - 1)
 else if k=10 then inB count 0 ((n:Int) - 1)
 else !(parts.any fun x=>!(inB x 0 ((n:Int) - 1)))
theorem Qis(w:World)(o:Obj)(v:Value)(T:TypeId):((w.alloc o).alloc (.cells #[v] T)).cell? ⟨w.heap.size+1,0,none⟩=some v:=by
 have h:=cell_of_row ((w.alloc o).alloc (.cells #[v] T)) (w.alloc o).heap.size 0 #[v] T (0,0) Qez;rw[QB] at h;exact h
theorem Qi5(w:World)(o o':Obj)(v:Value)(T:TypeId):(((w.alloc o).alloc o').alloc (.cells #[v] T)).cell? ⟨w.heap.size+1+1,0,none⟩=some v:=by
 have h:=cell_of_row (((w.alloc o).alloc o').alloc (.cells #[v] T)) ((w.alloc o).alloc o').heap.size 0 #[v] T (0,0) Qez;rw[QB,QB] at h;exact h
theorem Qd9{P:Program}{Q:Exit->Act->World->Prop}{id:Nat}{a:Act}{l:List Oper}(y:Up w)(hm:P.follows .mixedOrders=true)(hB:Region.lexB .any l.toArray=true)
  (h:wpQuiet P l.toArray (fun w'=>∃x:Up w,w'=x.w) (fun a'=>∀w',(∃x:Up w,w'=x.w)->Q .normal a' w') l a):(Code.region id l.toArray true).wp P Q a y.w:=
 wp_region_quiet (C:=fun w'=>∃x:Up w,w'=x.w) hm hB ⟨⟨_,y.b.drew⟩,rfl⟩ (by simpa using h)
theorem YI:Q3q 176:=fun args W=>by kernel_rfl
theorem YK(n a b:Int)(x:Up w):Calls Tryz.prog 95 #[.int .i64 n,.int .i64 a,.int .i64 b] x.w fun e w''=>e=.returned (.bool (inB n a b))/\∃y:Up w,w''=y.w:=
 Calls.up ((Xo n a b x.w).mono fun e w' h=>QgV)
theorem QkS(w:World)(hn:n<=1048576)(hp:Rd w w.heap.size 1 Ap np (iv parts))(hnp:np<=1048576):
  Calls Tryz.prog 149 #[.agg #[a0,.int .i64 1,.slice Ab nb cb,.int .i64 size,.bool big,.int .i64 mn,.int .i64 mx,.int .i64 stop,.int .i64 count,.int .i64 elem,.slice An nn cn,.slice Ap np cp],.int .i64 (n:Int)] w fun e w'=>e=.returned (.bool (QH 1 size mn mx stop count elem parts n))/\Below w.heap.size w w':=by
 obtain⟨B,hB⟩:∃B,QH 1 size mn mx stop count elem parts n=B:=⟨_,rfl⟩;have HF:=Q2 hB;rw[hB];clear hB;go_enter Tryz.func149,Tryz.ntmps149;go_upto_region 2 with (fail)
 obtain⟨W1,hW1⟩:∃W1,((w.alloc (.cells #[a0,.int .i64 1,.slice Ab nb cb,.int .i64 size,.bool big,.int .i64 mn,.int .i64 mx,.int .i64 stop,.int .i64 count,.int .i64 elem,.slice An nn cn,.slice Ap np cp] 65)).alloc (.cells #[.int .i64 (n:Int)] 3)).alloc (.cells #[.func (.func 175) #[] #[.pointer (some ⟨w.heap.size+1,0,none⟩)]] 104)=W1:=⟨_,rfl⟩;have HB1:=Q1J;have hc:∀(j:Nat) (u:Value),[a0,.int .i64 1,.slice Ab nb cb,.int .i64 size,.bool big,.int .i64 mn,.int .i64 mx,.int .i64 stop,.int .i64 count,.int .i64 elem,.slice An nn cn,.slice Ap np cp][j]? =some u->W1.cell? ⟨w.heap.size,j,none⟩=some u:=by rw[<- hW1];exact Q1F
 have hc13:W1.cell? ⟨w.heap.size+1,0,none⟩=some (.int .i64 (n:Int)):=by rw[<- hW1];exact Q1Q
 have hc14:W1.cell? ⟨w.heap.size+1+1,0,none⟩=some (.func (.func 175) #[] #[.pointer (some ⟨w.heap.size+1,0,none⟩)]):=by rw[<- hW1];exact Q28
 have r0:=Q1I;have r1:=Q1B;have r2:=Q1W;have r3:=Q1S;have r4:=Q1K;have r5:=Q25;have r6:=Q1C;have r7:=Q20;have r8:=Q2c;have r9:=Q1Z;have r10:=Q1Y;have r11:=Q1O;have r13:=Q1A;have r14:=Q24;(try rw[hW1]);obtain⟨y,hy⟩:=Up.start W1;rw[hy];clear hW1 hc hc13 hc14 hy;have HP:=QjT;clear hp;go_wp2_with fail
 refine(Zs (p:=fun x=>!(inB x 0 ((n:Int) - 1))) ((HP.out.below y.b).more y.b.size) hnp (fun x z _=>(Q0L x z.w (r13 ⟨z.w,X9 y.b z.b⟩) (r14 ⟨z.w,X9 y.b z.b⟩) hn).mono fun e w' h=>QgV) YI).mono ?_;rintro e w' ⟨rfl,hb⟩;have HB2:=Qf7;clear hb;go_wp2_with fail
 exact QlZ
theorem QnV(w:World)(hn:n<=1048576):
  Calls Tryz.prog 149 #[.agg #[a0,.int .i64 2,.slice Ab nb cb,.int .i64 size,.bool big,.int .i64 mn,.int .i64 mx,.int .i64 stop,.int .i64 count,.int .i64 elem,.slice An nn cn,.slice Ap np cp],.int .i64 (n:Int)] w fun e w'=>e=.returned (.bool (QH 2 size mn mx stop count elem parts n))/\Below w.heap.size w w':=by
 obtain⟨B,hB⟩:∃B,QH 2 size mn mx stop count elem parts n=B:=⟨_,rfl⟩;have HF:=Q2 hB;rw[hB];clear hB;go_enter Tryz.func149,Tryz.ntmps149;go_upto_region 2 with (fail)
 obtain⟨W1,hW1⟩:∃W1,((w.alloc (.cells #[a0,.int .i64 2,.slice Ab nb cb,.int .i64 size,.bool big,.int .i64 mn,.int .i64 mx,.int .i64 stop,.int .i64 count,.int .i64 elem,.slice An nn cn,.slice Ap np cp] 65)).alloc (.cells #[.int .i64 (n:Int)] 3)).alloc (.cells #[.func (.func 175) #[] #[.pointer (some ⟨w.heap.size+1,0,none⟩)]] 104)=W1:=⟨_,rfl⟩;have HB1:=Q1J;have hc:∀(j:Nat) (u:Value),[a0,.int .i64 2,.slice Ab nb cb,.int .i64 size,.bool big,.int .i64 mn,.int .i64 mx,.int .i64 stop,.int .i64 count,.int .i64 elem,.slice An nn cn,.slice Ap np cp][j]? =some u->W1.cell? ⟨w.heap.size,j,none⟩=some u:=by rw[<- hW1];exact Q1F
 have hc13:W1.cell? ⟨w.heap.size+1,0,none⟩=some (.int .i64 (n:Int)):=by rw[<- hW1];exact Q1Q
 have hc14:W1.cell? ⟨w.heap.size+1+1,0,none⟩=some (.func (.func 175) #[] #[.pointer (some ⟨w.heap.size+1,0,none⟩)]):=by rw[<- hW1];exact Q28
 have r0:=Q1I;have r1:=Q1B;have r2:=Q1W;have r3:=Q1S;have r4:=Q1K;have r5:=Q25;have r6:=Q1C;have r7:=Q20;have r8:=Q2c;have r9:=Q1Z;have r10:=Q1Y;have r11:=Q1O;have r13:=Q1A;have r14:=Q24;(try rw[hW1]);obtain⟨y,hy⟩:=Up.start W1;rw[hy];clear hW1 hc hc13 hc14 hy;cases h1:inB size 1 4
 ·skip
  go_upto_region 4 with (fail)
  refine Q27 ?_;repeat(quiet_step ((go_at_call 95;exact YK _ _ _ _)))
  refine wpQuiet_nil ?_;rintro w' ⟨y',rfl⟩;go_wp2_with fail
  exact V3
 ·skip
  cases h2:inB mn 0 mx
  ·skip
   go_upto_region 4 with (fail)
   refine Q27 ?_;repeat(quiet_step ((go_at_call 95;exact YK _ _ _ _)))
   refine wpQuiet_nil ?_;rintro w' ⟨y',rfl⟩;go_wp2_with fail
   exact V3
  ·skip
   rcases (show size=1\/size=2\/size=3\/size=4 by have:=of_decide_eq_true h1;omega) with rfl|rfl|rfl|rfl
   ·have hw:IntKind.i64.wrap 8=8:=Q1E;have hv:IntKind.i64.wrap 256=256:=Q1E
    cases h3:decide (mx<256)
    ·skip
     go_upto_region 4 with (fail)
     refine Q27 ?_;repeat(quiet_step ((go_at_call 95;exact YK _ _ _ _)))
     refine wpQuiet_nil ?_;rintro w' ⟨y',rfl⟩;go_wp2_with fail
     exact V3
    ·skip
     go_upto_region 4 with (fail)
     refine Q27 ?_;repeat(quiet_step ((go_at_call 95;exact YK _ _ _ _)))
     refine wpQuiet_nil ?_;rintro w' ⟨y',rfl⟩;go_wp2_with fail
     exact V3
   ·have hw:IntKind.i64.wrap 16=16:=Q1E;have hv:IntKind.i64.wrap 65536=65536:=Q1E
    cases h3:decide (mx<65536)
    ·skip
     go_upto_region 4 with (fail)
     refine Q27 ?_;repeat(quiet_step ((go_at_call 95;exact YK _ _ _ _)))
     refine wpQuiet_nil ?_;rintro w' ⟨y',rfl⟩;go_wp2_with fail
     exact V3
    ·skip
     go_upto_region 4 with (fail)
     refine Q27 ?_;repeat(quiet_step ((go_at_call 95;exact YK _ _ _ _)))
     refine wpQuiet_nil ?_;rintro w' ⟨y',rfl⟩;go_wp2_with fail
     exact V3
   ·have hw:IntKind.i64.wrap 24=24:=Q1E;have hv:IntKind.i64.wrap 16777216=16777216:=Q1E
    cases h3:decide (mx<16777216)
    ·skip
     go_upto_region 4 with (fail)
     refine Q27 ?_;repeat(quiet_step ((go_at_call 95;exact YK _ _ _ _)))
     refine wpQuiet_nil ?_;rintro w' ⟨y',rfl⟩;go_wp2_with fail
     exact V3
    ·skip
     go_upto_region 4 with (fail)
     refine Q27 ?_;repeat(quiet_step ((go_at_call 95;exact YK _ _ _ _)))
     refine wpQuiet_nil ?_;rintro w' ⟨y',rfl⟩;go_wp2_with fail
     exact V3
   ·have hw:IntKind.i64.wrap 32=32:=Q1E;have hv:IntKind.i64.wrap 4294967296=4294967296:=Q1E
    cases h3:decide (mx<4294967296)
    ·skip
     go_upto_region 4 with (fail)
     refine Q27 ?_;repeat(quiet_step ((go_at_call 95;exact YK _ _ _ _)))
     refine wpQuiet_nil ?_;rintro w' ⟨y',rfl⟩;go_wp2_with fail
     exact V3
    ·skip
     go_upto_region 4 with (fail)
     refine Q27 ?_;repeat(quiet_step ((go_at_call 95;exact YK _ _ _ _)))
     refine wpQuiet_nil ?_;rintro w' ⟨y',rfl⟩;go_wp2_with fail
     exact V3
theorem QkX(w:World)(hn:n<=1048576):
  Calls Tryz.prog 149 #[.agg #[a0,.int .i64 3,.slice Ab nb cb,.int .i64 size,.bool big,.int .i64 mn,.int .i64 mx,.int .i64 stop,.int .i64 count,.int .i64 elem,.slice An nn cn,.slice Ap np cp],.int .i64 (n:Int)] w fun e w'=>e=.returned (.bool (QH 3 size mn mx stop count elem parts n))/\Below w.heap.size w w':=by
 obtain⟨B,hB⟩:∃B,QH 3 size mn mx stop count elem parts n=B:=⟨_,rfl⟩;have HF:=Q2 hB;rw[hB];clear hB;go_enter Tryz.func149,Tryz.ntmps149;go_upto_region 2 with (fail)
 obtain⟨W1,hW1⟩:∃W1,((w.alloc (.cells #[a0,.int .i64 3,.slice Ab nb cb,.int .i64 size,.bool big,.int .i64 mn,.int .i64 mx,.int .i64 stop,.int .i64 count,.int .i64 elem,.slice An nn cn,.slice Ap np cp] 65)).alloc (.cells #[.int .i64 (n:Int)] 3)).alloc (.cells #[.func (.func 175) #[] #[.pointer (some ⟨w.heap.size+1,0,none⟩)]] 104)=W1:=⟨_,rfl⟩;have HB1:=Q1J;have hc:∀(j:Nat) (u:Value),[a0,.int .i64 3,.slice Ab nb cb,.int .i64 size,.bool big,.int .i64 mn,.int .i64 mx,.int .i64 stop,.int .i64 count,.int .i64 elem,.slice An nn cn,.slice Ap np cp][j]? =some u->W1.cell? ⟨w.heap.size,j,none⟩=some u:=by rw[<- hW1];exact Q1F
 have hc13:W1.cell? ⟨w.heap.size+1,0,none⟩=some (.int .i64 (n:Int)):=by rw[<- hW1];exact Q1Q
 have hc14:W1.cell? ⟨w.heap.size+1+1,0,none⟩=some (.func (.func 175) #[] #[.pointer (some ⟨w.heap.size+1,0,none⟩)]):=by rw[<- hW1];exact Q28
 have r0:=Q1I;have r1:=Q1B;have r2:=Q1W;have r3:=Q1S;have r4:=Q1K;have r5:=Q25;have r6:=Q1C;have r7:=Q20;have r8:=Q2c;have r9:=Q1Z;have r10:=Q1Y;have r11:=Q1O;have r13:=Q1A;have r14:=Q24;(try rw[hW1]);obtain⟨y,hy⟩:=Up.start W1;rw[hy];clear hW1 hc hc13 hc14 hy;cases h1:inB mx 0 999999999
 ·skip
  go_wp2_with ((go_at_call 95;refine(Xo _ _ _ _).mono ?_;rintro e w' ⟨rfl,rfl⟩))
  exact V3
 ·skip
  cases h2:inB stop 0 255
  ·skip
   go_wp2_with (first|(go_at_call 95;refine(Xo _ _ _ _).mono ?_;rintro e w' ⟨rfl,rfl⟩))
   exact V3
  ·skip
   cases h3:inB stop 48 57
   ·skip
    go_wp2_with (first|(go_at_call 95;refine(Xo _ _ _ _).mono ?_;rintro e w' ⟨rfl,rfl⟩))
    exact V3
   ·skip
    go_wp2_with (first|(go_at_call 95;refine(Xo _ _ _ _).mono ?_;rintro e w' ⟨rfl,rfl⟩))
    exact V3
theorem Qnp(w:World)(hn:n<=1048576):
  Calls Tryz.prog 149 #[.agg #[a0,.int .i64 4,.slice Ab nb cb,.int .i64 size,.bool big,.int .i64 mn,.int .i64 mx,.int .i64 stop,.int .i64 count,.int .i64 elem,.slice An nn cn,.slice Ap np cp],.int .i64 (n:Int)] w fun e w'=>e=.returned (.bool (QH 4 size mn mx stop count elem parts n))/\Below w.heap.size w w':=by
 obtain⟨B,hB⟩:∃B,QH 4 size mn mx stop count elem parts n=B:=⟨_,rfl⟩;have HF:=Q2 hB;rw[hB];clear hB;go_enter Tryz.func149,Tryz.ntmps149;go_upto_region 2 with (fail)
 obtain⟨W1,hW1⟩:∃W1,((w.alloc (.cells #[a0,.int .i64 4,.slice Ab nb cb,.int .i64 size,.bool big,.int .i64 mn,.int .i64 mx,.int .i64 stop,.int .i64 count,.int .i64 elem,.slice An nn cn,.slice Ap np cp] 65)).alloc (.cells #[.int .i64 (n:Int)] 3)).alloc (.cells #[.func (.func 175) #[] #[.pointer (some ⟨w.heap.size+1,0,none⟩)]] 104)=W1:=⟨_,rfl⟩;have HB1:=Q1J;have hc:∀(j:Nat) (u:Value),[a0,.int .i64 4,.slice Ab nb cb,.int .i64 size,.bool big,.int .i64 mn,.int .i64 mx,.int .i64 stop,.int .i64 count,.int .i64 elem,.slice An nn cn,.slice Ap np cp][j]? =some u->W1.cell? ⟨w.heap.size,j,none⟩=some u:=by rw[<- hW1];exact Q1F
 have hc13:W1.cell? ⟨w.heap.size+1,0,none⟩=some (.int .i64 (n:Int)):=by rw[<- hW1];exact Q1Q
 have hc14:W1.cell? ⟨w.heap.size+1+1,0,none⟩=some (.func (.func 175) #[] #[.pointer (some ⟨w.heap.size+1,0,none⟩)]):=by rw[<- hW1];exact Q28
 have r0:=Q1I;have r1:=Q1B;have r2:=Q1W;have r3:=Q1S;have r4:=Q1K;have r5:=Q25;have r6:=Q1C;have r7:=Q20;have r8:=Q2c;have r9:=Q1Z;have r10:=Q1Y;have r11:=Q1O;have r13:=Q1A;have r14:=Q24;(try rw[hW1]);obtain⟨y,hy⟩:=Up.start W1;rw[hy];clear hW1 hc hc13 hc14 hy;cases h1:inB size 1 1000
 ·skip
  go_wp2_with ((go_at_call 95;refine(Xo _ _ _ _).mono ?_;rintro e w' ⟨rfl,rfl⟩))
  exact V3
 ·skip
  go_wp2_with ((go_at_call 95;refine(Xo _ _ _ _).mono ?_;rintro e w' ⟨rfl,rfl⟩))
  exact V3
theorem Qoa(w:World)(hn:n<=1048576):
  Calls Tryz.prog 149 #[.agg #[a0,.int .i64 5,.slice Ab nb cb,.int .i64 size,.bool big,.int .i64 mn,.int .i64 mx,.int .i64 stop,.int .i64 count,.int .i64 elem,.slice An nn cn,.slice Ap np cp],.int .i64 (n:Int)] w fun e w'=>e=.returned (.bool (QH 5 size mn mx stop count elem parts n))/\Below w.heap.size w w':=by
 obtain⟨B,hB⟩:∃B,QH 5 size mn mx stop count elem parts n=B:=⟨_,rfl⟩;have HF:=Q2 hB;rw[hB];clear hB;go_enter Tryz.func149,Tryz.ntmps149;go_upto_region 2 with (fail)
 obtain⟨W1,hW1⟩:∃W1,((w.alloc (.cells #[a0,.int .i64 5,.slice Ab nb cb,.int .i64 size,.bool big,.int .i64 mn,.int .i64 mx,.int .i64 stop,.int .i64 count,.int .i64 elem,.slice An nn cn,.slice Ap np cp] 65)).alloc (.cells #[.int .i64 (n:Int)] 3)).alloc (.cells #[.func (.func 175) #[] #[.pointer (some ⟨w.heap.size+1,0,none⟩)]] 104)=W1:=⟨_,rfl⟩;have HB1:=Q1J;have hc:∀(j:Nat) (u:Value),[a0,.int .i64 5,.slice Ab nb cb,.int .i64 size,.bool big,.int .i64 mn,.int .i64 mx,.int .i64 stop,.int .i64 count,.int .i64 elem,.slice An nn cn,.slice Ap np cp][j]? =some u->W1.cell? ⟨w.heap.size,j,none⟩=some u:=by rw[<- hW1];exact Q1F
 have hc13:W1.cell? ⟨w.heap.size+1,0,none⟩=some (.int .i64 (n:Int)):=by rw[<- hW1];exact Q1Q
 have hc14:W1.cell? ⟨w.heap.size+1+1,0,none⟩=some (.func (.func 175) #[] #[.pointer (some ⟨w.heap.size+1,0,none⟩)]):=by rw[<- hW1];exact Q28
 have r0:=Q1I;have r1:=Q1B;have r2:=Q1W;have r3:=Q1S;have r4:=Q1K;have r5:=Q25;have r6:=Q1C;have r7:=Q20;have r8:=Q2c;have r9:=Q1Z;have r10:=Q1Y;have r11:=Q1O;have r13:=Q1A;have r14:=Q24;(try rw[hW1]);obtain⟨y,hy⟩:=Up.start W1;rw[hy];clear hW1 hc hc13 hc14 hy;cases h1:inB size 0 1000
 ·skip
  go_wp2_with ((go_at_call 95;refine(Xo _ _ _ _).mono ?_;rintro e w' ⟨rfl,rfl⟩))
  exact V3
 ·skip
  cases h2:inB stop 0 255
  ·skip
   go_wp2_with (first|(go_at_call 95;refine(Xo _ _ _ _).mono ?_;rintro e w' ⟨rfl,rfl⟩))
   exact V3
  ·skip
   go_wp2_with (first|(go_at_call 95;refine(Xo _ _ _ _).mono ?_;rintro e w' ⟨rfl,rfl⟩))
   exact V3
theorem Qou(w:World)(hn:n<=1048576):
  Calls Tryz.prog 149 #[.agg #[a0,.int .i64 6,.slice Ab nb cb,.int .i64 size,.bool big,.int .i64 mn,.int .i64 mx,.int .i64 stop,.int .i64 count,.int .i64 elem,.slice An nn cn,.slice Ap np cp],.int .i64 (n:Int)] w fun e w'=>e=.returned (.bool (QH 6 size mn mx stop count elem parts n))/\Below w.heap.size w w':=by
 obtain⟨B,hB⟩:∃B,QH 6 size mn mx stop count elem parts n=B:=⟨_,rfl⟩;have HF:=Q2 hB;rw[hB];clear hB;go_enter Tryz.func149,Tryz.ntmps149;go_upto_region 2 with (fail)
 obtain⟨W1,hW1⟩:∃W1,((w.alloc (.cells #[a0,.int .i64 6,.slice Ab nb cb,.int .i64 size,.bool big,.int .i64 mn,.int .i64 mx,.int .i64 stop,.int .i64 count,.int .i64 elem,.slice An nn cn,.slice Ap np cp] 65)).alloc (.cells #[.int .i64 (n:Int)] 3)).alloc (.cells #[.func (.func 175) #[] #[.pointer (some ⟨w.heap.size+1,0,none⟩)]] 104)=W1:=⟨_,rfl⟩;have HB1:=Q1J;have hc:∀(j:Nat) (u:Value),[a0,.int .i64 6,.slice Ab nb cb,.int .i64 size,.bool big,.int .i64 mn,.int .i64 mx,.int .i64 stop,.int .i64 count,.int .i64 elem,.slice An nn cn,.slice Ap np cp][j]? =some u->W1.cell? ⟨w.heap.size,j,none⟩=some u:=by rw[<- hW1];exact Q1F
 have hc13:W1.cell? ⟨w.heap.size+1,0,none⟩=some (.int .i64 (n:Int)):=by rw[<- hW1];exact Q1Q
 have hc14:W1.cell? ⟨w.heap.size+1+1,0,none⟩=some (.func (.func 175) #[] #[.pointer (some ⟨w.heap.size+1,0,none⟩)]):=by rw[<- hW1];exact Q28
 have r0:=Q1I;have r1:=Q1B;have r2:=Q1W;have r3:=Q1S;have r4:=Q1K;have r5:=Q25;have r6:=Q1C;have r7:=Q20;have r8:=Q2c;have r9:=Q1Z;have r10:=Q1Y;have r11:=Q1O;have r13:=Q1A;have r14:=Q24;(try rw[hW1]);obtain⟨y,hy⟩:=Up.start W1;rw[hy];clear hW1 hc hc13 hc14 hy;cases h1:inB count 0 ((n:Int) - 1)
 ·skip
  go_wp2_with ((go_at_call 175;refine(Z1 _ _ (r13 _) hn).mono ?_;rintro e w' ⟨rfl,rfl⟩))
  exact V3
 ·skip
  cases h2:inB elem 0 ((n:Int) - 1)
  ·skip
   go_wp2_with (first|(go_at_call 95;refine(Xo _ _ _ _).mono ?_;rintro e w' ⟨rfl,rfl⟩)|(go_at_call 175;refine(Z1 _ _ (r13 _) hn).mono ?_;rintro e w' ⟨rfl,rfl⟩))
   exact V3
  ·skip
   go_wp2_with (first|(go_at_call 95;refine(Xo _ _ _ _).mono ?_;rintro e w' ⟨rfl,rfl⟩)|(go_at_call 175;refine(Z1 _ _ (r13 _) hn).mono ?_;rintro e w' ⟨rfl,rfl⟩))
   exact V3
theorem Qkg(w:World)(hn:n<=1048576)(hp:Rd w w.heap.size 1 Ap np (iv parts))(hnp:np<=1048576):
  Calls Tryz.prog 149 #[.agg #[a0,.int .i64 7,.slice Ab nb cb,.int .i64 size,.bool big,.int .i64 mn,.int .i64 mx,.int .i64 stop,.int .i64 count,.int .i64 elem,.slice An nn cn,.slice Ap np cp],.int .i64 (n:Int)] w fun e w'=>e=.returned (.bool (QH 7 size mn mx stop count elem parts n))/\Below w.heap.size w w':=by
 obtain⟨B,hB⟩:∃B,QH 7 size mn mx stop count elem parts n=B:=⟨_,rfl⟩;have HF:=Q2 hB;rw[hB];clear hB;go_enter Tryz.func149,Tryz.ntmps149;go_upto_region 2 with (fail)
 obtain⟨W1,hW1⟩:∃W1,((w.alloc (.cells #[a0,.int .i64 7,.slice Ab nb cb,.int .i64 size,.bool big,.int .i64 mn,.int .i64 mx,.int .i64 stop,.int .i64 count,.int .i64 elem,.slice An nn cn,.slice Ap np cp] 65)).alloc (.cells #[.int .i64 (n:Int)] 3)).alloc (.cells #[.func (.func 175) #[] #[.pointer (some ⟨w.heap.size+1,0,none⟩)]] 104)=W1:=⟨_,rfl⟩;have HB1:=Q1J;have hc:∀(j:Nat) (u:Value),[a0,.int .i64 7,.slice Ab nb cb,.int .i64 size,.bool big,.int .i64 mn,.int .i64 mx,.int .i64 stop,.int .i64 count,.int .i64 elem,.slice An nn cn,.slice Ap np cp][j]? =some u->W1.cell? ⟨w.heap.size,j,none⟩=some u:=by rw[<- hW1];exact Q1F
 have hc13:W1.cell? ⟨w.heap.size+1,0,none⟩=some (.int .i64 (n:Int)):=by rw[<- hW1];exact Q1Q
 have hc14:W1.cell? ⟨w.heap.size+1+1,0,none⟩=some (.func (.func 175) #[] #[.pointer (some ⟨w.heap.size+1,0,none⟩)]):=by rw[<- hW1];exact Q28
 have r0:=Q1I;have r1:=Q1B;have r2:=Q1W;have r3:=Q1S;have r4:=Q1K;have r5:=Q25;have r6:=Q1C;have r7:=Q20;have r8:=Q2c;have r9:=Q1Z;have r10:=Q1Y;have r11:=Q1O;have r13:=Q1A;have r14:=Q24;(try rw[hW1]);obtain⟨y,hy⟩:=Up.start W1;rw[hy];clear hW1 hc hc13 hc14 hy;have HP:=QjT;clear hp;go_wp2_with fail
 refine(Zs (p:=fun x=>!(inB x 0 ((n:Int) - 1))) ((HP.out.below y.b).more y.b.size) hnp (fun x z _=>(Q0L x z.w (r13 ⟨z.w,X9 y.b z.b⟩) (r14 ⟨z.w,X9 y.b z.b⟩) hn).mono fun e w' h=>QgV) YI).mono ?_;rintro e w' ⟨rfl,hb⟩;have HB2:=Qf7;clear hb;go_wp2_with fail
 exact QlZ
theorem QkV(w:World)(hn:n<=1048576)(hp:Rd w w.heap.size 1 Ap np (iv parts))(hnp:np<=1048576):
  Calls Tryz.prog 149 #[.agg #[a0,.int .i64 8,.slice Ab nb cb,.int .i64 size,.bool big,.int .i64 mn,.int .i64 mx,.int .i64 stop,.int .i64 count,.int .i64 elem,.slice An nn cn,.slice Ap np cp],.int .i64 (n:Int)] w fun e w'=>e=.returned (.bool (QH 8 size mn mx stop count elem parts n))/\Below w.heap.size w w':=by
 obtain⟨B,hB⟩:∃B,QH 8 size mn mx stop count elem parts n=B:=⟨_,rfl⟩;have HF:=Q2 hB;rw[hB];clear hB;go_enter Tryz.func149,Tryz.ntmps149;go_upto_region 2 with (fail)
 obtain⟨W1,hW1⟩:∃W1,((w.alloc (.cells #[a0,.int .i64 8,.slice Ab nb cb,.int .i64 size,.bool big,.int .i64 mn,.int .i64 mx,.int .i64 stop,.int .i64 count,.int .i64 elem,.slice An nn cn,.slice Ap np cp] 65)).alloc (.cells #[.int .i64 (n:Int)] 3)).alloc (.cells #[.func (.func 175) #[] #[.pointer (some ⟨w.heap.size+1,0,none⟩)]] 104)=W1:=⟨_,rfl⟩;have HB1:=Q1J;have hc:∀(j:Nat) (u:Value),[a0,.int .i64 8,.slice Ab nb cb,.int .i64 size,.bool big,.int .i64 mn,.int .i64 mx,.int .i64 stop,.int .i64 count,.int .i64 elem,.slice An nn cn,.slice Ap np cp][j]? =some u->W1.cell? ⟨w.heap.size,j,none⟩=some u:=by rw[<- hW1];exact Q1F
 have hc13:W1.cell? ⟨w.heap.size+1,0,none⟩=some (.int .i64 (n:Int)):=by rw[<- hW1];exact Q1Q
 have hc14:W1.cell? ⟨w.heap.size+1+1,0,none⟩=some (.func (.func 175) #[] #[.pointer (some ⟨w.heap.size+1,0,none⟩)]):=by rw[<- hW1];exact Q28
 have r0:=Q1I;have r1:=Q1B;have r2:=Q1W;have r3:=Q1S;have r4:=Q1K;have r5:=Q25;have r6:=Q1C;have r7:=Q20;have r8:=Q2c;have r9:=Q1Z;have r10:=Q1Y;have r11:=Q1O;have r13:=Q1A;have r14:=Q24;(try rw[hW1]);obtain⟨y,hy⟩:=Up.start W1;rw[hy];clear hW1 hc hc13 hc14 hy;have HP:=QjT;clear hp;go_wp2_with fail
 refine(Zs (p:=fun x=>!(inB x 0 ((n:Int) - 1))) ((HP.out.below y.b).more y.b.size) hnp (fun x z _=>(Q0L x z.w (r13 ⟨z.w,X9 y.b z.b⟩) (r14 ⟨z.w,X9 y.b z.b⟩) hn).mono fun e w' h=>QgV) YI).mono ?_;rintro e w' ⟨rfl,hb⟩;have HB2:=Qf7;clear hb;go_wp2_with fail
 exact QlZ
theorem QoB(w:World)(hn:n<=1048576):
  Calls Tryz.prog 149 #[.agg #[a0,.int .i64 9,.slice Ab nb cb,.int .i64 size,.bool big,.int .i64 mn,.int .i64 mx,.int .i64 stop,.int .i64 count,.int .i64 elem,.slice An nn cn,.slice Ap np cp],.int .i64 (n:Int)] w fun e w'=>e=.returned (.bool (QH 9 size mn mx stop count elem parts n))/\Below w.heap.size w w':=by
 obtain⟨B,hB⟩:∃B,QH 9 size mn mx stop count elem parts n=B:=⟨_,rfl⟩;have HF:=Q2 hB;rw[hB];clear hB;go_enter Tryz.func149,Tryz.ntmps149;go_upto_region 2 with (fail)
 obtain⟨W1,hW1⟩:∃W1,((w.alloc (.cells #[a0,.int .i64 9,.slice Ab nb cb,.int .i64 size,.bool big,.int .i64 mn,.int .i64 mx,.int .i64 stop,.int .i64 count,.int .i64 elem,.slice An nn cn,.slice Ap np cp] 65)).alloc (.cells #[.int .i64 (n:Int)] 3)).alloc (.cells #[.func (.func 175) #[] #[.pointer (some ⟨w.heap.size+1,0,none⟩)]] 104)=W1:=⟨_,rfl⟩;have HB1:=Q1J;have hc:∀(j:Nat) (u:Value),[a0,.int .i64 9,.slice Ab nb cb,.int .i64 size,.bool big,.int .i64 mn,.int .i64 mx,.int .i64 stop,.int .i64 count,.int .i64 elem,.slice An nn cn,.slice Ap np cp][j]? =some u->W1.cell? ⟨w.heap.size,j,none⟩=some u:=by rw[<- hW1];exact Q1F
 have hc13:W1.cell? ⟨w.heap.size+1,0,none⟩=some (.int .i64 (n:Int)):=by rw[<- hW1];exact Q1Q
 have hc14:W1.cell? ⟨w.heap.size+1+1,0,none⟩=some (.func (.func 175) #[] #[.pointer (some ⟨w.heap.size+1,0,none⟩)]):=by rw[<- hW1];exact Q28
 have r0:=Q1I;have r1:=Q1B;have r2:=Q1W;have r3:=Q1S;have r4:=Q1K;have r5:=Q25;have r6:=Q1C;have r7:=Q20;have r8:=Q2c;have r9:=Q1Z;have r10:=Q1Y;have r11:=Q1O;have r13:=Q1A;have r14:=Q24;(try rw[hW1]);obtain⟨y,hy⟩:=Up.start W1;rw[hy];clear hW1 hc hc13 hc14 hy;cases h1:inB stop 0 255
 ·skip
  go_wp2_with ((go_at_call 95;refine(Xo _ _ _ _).mono ?_;rintro e w' ⟨rfl,rfl⟩))
  exact V3
 ·skip
  cases h2:inB elem 0 ((n:Int) - 1)
  ·skip
   go_wp2_with (first|(go_at_call 95;refine(Xo _ _ _ _).mono ?_;rintro e w' ⟨rfl,rfl⟩)|(go_at_call 175;refine(Z1 _ _ (r13 _) hn).mono ?_;rintro e w' ⟨rfl,rfl⟩))
   exact V3
  ·skip
   go_wp2_with (first|(go_at_call 95;refine(Xo _ _ _ _).mono ?_;rintro e w' ⟨rfl,rfl⟩)|(go_at_call 175;refine(Z1 _ _ (r13 _) hn).mono ?_;rintro e w' ⟨rfl,rfl⟩))
   exact V3
theorem Qip(w:World)(hn:n<=1048576):
  Calls Tryz.prog 149 #[.agg #[a0,.int .i64 10,.slice Ab nb cb,.int .i64 size,.bool big,.int .i64 mn,.int .i64 mx,.int .i64 stop,.int .i64 count,.int .i64 elem,.slice An nn cn,.slice Ap np cp],.int .i64 (n:Int)] w fun e w'=>e=.returned (.bool (QH 10 size mn mx stop count elem parts n))/\Below w.heap.size w w':=by
 obtain⟨B,hB⟩:∃B,QH 10 size mn mx stop count elem parts n=B:=⟨_,rfl⟩;have HF:=Q2 hB;rw[hB];clear hB;go_enter Tryz.func149,Tryz.ntmps149;go_upto_region 2 with (fail)
 obtain⟨W1,hW1⟩:∃W1,((w.alloc (.cells #[a0,.int .i64 10,.slice Ab nb cb,.int .i64 size,.bool big,.int .i64 mn,.int .i64 mx,.int .i64 stop,.int .i64 count,.int .i64 elem,.slice An nn cn,.slice Ap np cp] 65)).alloc (.cells #[.int .i64 (n:Int)] 3)).alloc (.cells #[.func (.func 175) #[] #[.pointer (some ⟨w.heap.size+1,0,none⟩)]] 104)=W1:=⟨_,rfl⟩;have HB1:=Q1J;have hc:∀(j:Nat) (u:Value),[a0,.int .i64 10,.slice Ab nb cb,.int .i64 size,.bool big,.int .i64 mn,.int .i64 mx,.int .i64 stop,.int .i64 count,.int .i64 elem,.slice An nn cn,.slice Ap np cp][j]? =some u->W1.cell? ⟨w.heap.size,j,none⟩=some u:=by rw[<- hW1];exact Q1F
 have hc13:W1.cell? ⟨w.heap.size+1,0,none⟩=some (.int .i64 (n:Int)):=by rw[<- hW1];exact Q1Q
 have hc14:W1.cell? ⟨w.heap.size+1+1,0,none⟩=some (.func (.func 175) #[] #[.pointer (some ⟨w.heap.size+1,0,none⟩)]):=by rw[<- hW1];exact Q28
 have r0:=Q1I;have r1:=Q1B;have r2:=Q1W;have r3:=Q1S;have r4:=Q1K;have r5:=Q25;have r6:=Q1C;have r7:=Q20;have r8:=Q2c;have r9:=Q1Z;have r10:=Q1Y;have r11:=Q1O;have r13:=Q1A;have r14:=Q24;(try rw[hW1]);obtain⟨y,hy⟩:=Up.start W1;rw[hy];clear hW1 hc hc13 hc14 hy;cases h1:inB count 0 ((n:Int) - 1)
 ·skip
  go_wp2_with ((go_at_call 175;refine(Z1 _ _ (r13 _) hn).mono ?_;rintro e w' ⟨rfl,rfl⟩))
  exact V3
 ·skip
  go_wp2_with ((go_at_call 175;refine(Z1 _ _ (r13 _) hn).mono ?_;rintro e w' ⟨rfl,rfl⟩))
  exact V3
end
end Go.Proofs.YtphkhfdmlcnoeaaGreatDoor
