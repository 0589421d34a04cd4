import Derived.Test.YtphkhfdmlcnoeaaGreatDoorP6
import Derived.Laws.EntriesVeiled
namespace Go.Proofs.YtphkhfdmlcnoeaaGreatDoor
set_option linter.unusedVariables false
set_option linter.unusedSimpArgs false
open Go.RowKit
def Qs(k size mn mx stop count elem:Int)(parts:List Int)(n:Nat):Bool:=
 if k=2 then inB size 1 4&&(inB mn 0 mx&&decide (mx<256 ^ size.toNat))
 else if k=3 then inB mx 0 999999999&&(inB stop 0 255&&!(inB stop 48 57))
 else if k=4 then inB size 1 1000
 else if k=5 then inB size 0 1000&&inB stop 0 255
 else if k=9 then inB stop 0 255&&inB elem 0 ((n:Int) - 1)
 else if k=6 then inB count 0 ((n:Int) - 1)&&inB elem 0 ((n:Int) - 1)
 else if k=10 then inB count 0 ((n:Int) - 1)
 else !(parts.any fun x=>!(inB x 0 ((n:Int) - 1)))
theorem ZF(w:World)(o:Obj)(v:Value)(T:TypeId):((w.alloc o).alloc (.cells #[v] T)).cell? ⟨w.heap.size+1,0,none⟩=some v:=by
 have h:=cell_of_row ((w.alloc o).alloc (.cells #[v] T)) (w.alloc o).heap.size 0 #[v] T (0,0) (heap_alloc_new _ _);rw[Q4] at h;exact h
theorem ZG(w:World)(o o':Obj)(v:Value)(T:TypeId):(((w.alloc o).alloc o').alloc (.cells #[v] T)).cell? ⟨w.heap.size+1+1,0,none⟩=some v:=by
 have h:=cell_of_row (((w.alloc o).alloc o').alloc (.cells #[v] T)) ((w.alloc o).alloc o').heap.size 0 #[v] T (0,0) (heap_alloc_new _ _);rw[Q4,Q4] at h;exact h
theorem XV{P:Program}{Q:Exit→Act→World→Prop}{id:Nat}{a:Act}{w:World}{l:List Oper}(y:Up w)(hm:P.follows .mixedOrders=true)(hB:Region.lexB .any l.toArray=true)
  (h:wpQuiet P l.toArray (fun w'=>∃x:Up w,w'=x.w) (fun a'=>∀w',(∃x:Up w,w'=x.w)→Q .normal a' w') l a):(Code.region id l.toArray true).wp P Q a y.w:=
 wp_region_quiet (C:=fun w'=>∃x:Up w,w'=x.w) hm hB ⟨⟨_,y.b.drew⟩,rfl⟩ (by simpa using h)
theorem Y5:KK 176:=fun args W=>by kernel_rfl
theorem Y6(n a b:Int){w:World}(x:Up w):Calls Tryz.prog 95 #[.int .i64 n,.int .i64 a,.int .i64 b] x.w fun e w''=>e=.returned (.bool (inB n a b))∧∃y:Up w,w''=y.w:=
 Calls.up ((X5 n a b x.w).mono fun e w' h=>⟨h.1,by rw[← h.2];exact Below.refl _ _⟩)
set_option maxRecDepth 100000 in
set_option maxHeartbeats 4000000 in
theorem Qce{a0:Value}{size mn mx stop count elem:Int}{big:Bool}{Ab An Ap:Option Addr}{nb cb nn cn np cp n:Nat}{parts:List Int}(w:World)(hn:n≤1048576)(hp:Rd w w.heap.size 1 Ap np (iv parts))(hnp:np≤1048576):
  Calls Tryz.prog 149 #[.agg #[a0,.int .i64 1,.slice Ab nb cb,.int .i64 size,.bool big,.int .i64 mn,.int .i64 mx,.int .i64 stop,.int .i64 count,.int .i64 elem,.slice An nn cn,.slice Ap np cp],.int .i64 (n:Int)] w fun e w'=>e=.returned (.bool (Qs 1 size mn mx stop count elem parts n))∧Below w.heap.size w w':=by
 obtain⟨B,hB⟩:∃B,Qs 1 size mn mx stop count elem parts n=B:=⟨_,rfl⟩;have HF:=Lib.hid hB;rw[hB];clear hB
 go_enter Tryz.func149,Tryz.ntmps149
 go_upto_region 2 with (fail)
 obtain⟨W1,hW1⟩:∃W1,((w.alloc (.cells #[a0,.int .i64 1,.slice Ab nb cb,.int .i64 size,.bool big,.int .i64 mn,.int .i64 mx,.int .i64 stop,.int .i64 count,.int .i64 elem,.slice An nn cn,.slice Ap np cp] 65)).alloc (.cells #[.int .i64 (n:Int)] 3)).alloc (.cells #[.func (.func 175) #[] #[.pointer (some ⟨w.heap.size+1,0,none⟩)]] 104)=W1:=⟨_,rfl⟩;have HB1:=Lib.hid (show Below w.heap.size w W1 by rw[← hW1];exact Q1A _ _ _ _)
 have hc:∀(j:Nat) (u:Value),[a0,.int .i64 1,.slice Ab nb cb,.int .i64 size,.bool big,.int .i64 mn,.int .i64 mx,.int .i64 stop,.int .i64 count,.int .i64 elem,.slice An nn cn,.slice Ap np cp][j]? =some u→W1.cell? ⟨w.heap.size,j,none⟩=some u:=by rw[← hW1];exact fun j u hu=>Up.cell (XX j u hu) ⟨_,ZZ _ _ _⟩
 have hc13:W1.cell? ⟨w.heap.size+1,0,none⟩=some (.int .i64 (n:Int)):=by rw[← hW1];exact Up.cell (ZF _ _ _ _) ⟨_,Zm _ _⟩
 have hc14:W1.cell? ⟨w.heap.size+1+1,0,none⟩=some (.func (.func 175) #[] #[.pointer (some ⟨w.heap.size+1,0,none⟩)]):=by rw[← hW1];exact ZG _ _ _ _ _
 have r0:=fun y:Up W1=>Up.cell (hc 0 _ rfl) y
 have r1:=fun y:Up W1=>Up.cell (hc 1 _ rfl) y
 have r2:=fun y:Up W1=>Up.cell (hc 2 _ rfl) y
 have r3:=fun y:Up W1=>Up.cell (hc 3 _ rfl) y
 have r4:=fun y:Up W1=>Up.cell (hc 4 _ rfl) y
 have r5:=fun y:Up W1=>Up.cell (hc 5 _ rfl) y
 have r6:=fun y:Up W1=>Up.cell (hc 6 _ rfl) y
 have r7:=fun y:Up W1=>Up.cell (hc 7 _ rfl) y
 have r8:=fun y:Up W1=>Up.cell (hc 8 _ rfl) y
 have r9:=fun y:Up W1=>Up.cell (hc 9 _ rfl) y
 have r10:=fun y:Up W1=>Up.cell (hc 10 _ rfl) y
 have r11:=fun y:Up W1=>Up.cell (hc 11 _ rfl) y
 have r13:=fun y:Up W1=>Up.cell hc13 y
 have r14:=fun y:Up W1=>Up.cell hc14 y
 (try rw[hW1]);obtain⟨y,hy⟩:=Up.start W1;rw[hy];clear hW1 hc hc13 hc14 hy;have HP:=Lib.hid ((hp.below HB1.out).more HB1.out.size);clear hp
 go_wp2_with fail
 refine(Zz (p:=fun x=>!(inB x 0 ((n:Int) - 1))) ((HP.out.below y.b).more y.b.size) hnp (fun x z _=>(Kf x z.w (r13 ⟨z.w,Qz y.b z.b⟩) (r14 ⟨z.w,Qz y.b z.b⟩) hn).mono fun e w' h=>⟨h.1,by rw[← h.2];exact Below.refl _ _⟩) Y5).mono ?_
 rintro e w' ⟨rfl,hb⟩
 have HB2:=Lib.hid (Qz (Qz HB1.out y.b) hb);clear hb
 go_wp2_with fail
 go_ret
 exact⟨by rw[← HF.out];simp [Qs],HB2.out⟩
set_option maxRecDepth 100000 in
set_option maxHeartbeats 4000000 in
theorem Qcr{a0:Value}{size mn mx stop count elem:Int}{big:Bool}{Ab An Ap:Option Addr}{nb cb nn cn np cp n:Nat}{parts:List Int}(w:World)(hn:n≤1048576):
  Calls Tryz.prog 149 #[.agg #[a0,.int .i64 2,.slice Ab nb cb,.int .i64 size,.bool big,.int .i64 mn,.int .i64 mx,.int .i64 stop,.int .i64 count,.int .i64 elem,.slice An nn cn,.slice Ap np cp],.int .i64 (n:Int)] w fun e w'=>e=.returned (.bool (Qs 2 size mn mx stop count elem parts n))∧Below w.heap.size w w':=by
 obtain⟨B,hB⟩:∃B,Qs 2 size mn mx stop count elem parts n=B:=⟨_,rfl⟩;have HF:=Lib.hid hB;rw[hB];clear hB
 go_enter Tryz.func149,Tryz.ntmps149
 go_upto_region 2 with (fail)
 obtain⟨W1,hW1⟩:∃W1,((w.alloc (.cells #[a0,.int .i64 2,.slice Ab nb cb,.int .i64 size,.bool big,.int .i64 mn,.int .i64 mx,.int .i64 stop,.int .i64 count,.int .i64 elem,.slice An nn cn,.slice Ap np cp] 65)).alloc (.cells #[.int .i64 (n:Int)] 3)).alloc (.cells #[.func (.func 175) #[] #[.pointer (some ⟨w.heap.size+1,0,none⟩)]] 104)=W1:=⟨_,rfl⟩;have HB1:=Lib.hid (show Below w.heap.size w W1 by rw[← hW1];exact Q1A _ _ _ _)
 have hc:∀(j:Nat) (u:Value),[a0,.int .i64 2,.slice Ab nb cb,.int .i64 size,.bool big,.int .i64 mn,.int .i64 mx,.int .i64 stop,.int .i64 count,.int .i64 elem,.slice An nn cn,.slice Ap np cp][j]? =some u→W1.cell? ⟨w.heap.size,j,none⟩=some u:=by rw[← hW1];exact fun j u hu=>Up.cell (XX j u hu) ⟨_,ZZ _ _ _⟩
 have hc13:W1.cell? ⟨w.heap.size+1,0,none⟩=some (.int .i64 (n:Int)):=by rw[← hW1];exact Up.cell (ZF _ _ _ _) ⟨_,Zm _ _⟩
 have hc14:W1.cell? ⟨w.heap.size+1+1,0,none⟩=some (.func (.func 175) #[] #[.pointer (some ⟨w.heap.size+1,0,none⟩)]):=by rw[← hW1];exact ZG _ _ _ _ _
 have r0:=fun y:Up W1=>Up.cell (hc 0 _ rfl) y
 have r1:=fun y:Up W1=>Up.cell (hc 1 _ rfl) y
 have r2:=fun y:Up W1=>Up.cell (hc 2 _ rfl) y
 have r3:=fun y:Up W1=>Up.cell (hc 3 _ rfl) y
 have r4:=fun y:Up W1=>Up.cell (hc 4 _ rfl) y
 have r5:=fun y:Up W1=>Up.cell (hc 5 _ rfl) y
 have r6:=fun y:Up W1=>Up.cell (hc 6 _ rfl) y
 have r7:=fun y:Up W1=>Up.cell (hc 7 _ rfl) y
 have r8:=fun y:Up W1=>Up.cell (hc 8 _ rfl) y
 have r9:=fun y:Up W1=>Up.cell (hc 9 _ rfl) y
 have r10:=fun y:Up W1=>Up.cell (hc 10 _ rfl) y
 have r11:=fun y:Up W1=>Up.cell (hc 11 _ rfl) y
 have r13:=fun y:Up W1=>Up.cell hc13 y
 have r14:=fun y:Up W1=>Up.cell hc14 y
 (try rw[hW1]);obtain⟨y,hy⟩:=Up.start W1;rw[hy];clear hW1 hc hc13 hc14 hy
 cases h1:inB size 1 4
 ·skip
  go_upto_region 4 with (fail)
  refine XV _ (by kernel_rfl) (by kernel_rfl) ?_
  repeat(quiet_step ((go_at_call 95;exact Y6 _ _ _ _)))
  refine wpQuiet_nil ?_
  rintro w' ⟨y',rfl⟩
  go_wp2_with fail
  go_ret
  exact⟨by rw[← HF.out];simp [Qs, *],Qz HB1.out (Up.b _)⟩
 ·skip
  cases h2:inB mn 0 mx
  ·skip
   go_upto_region 4 with (fail)
   refine XV _ (by kernel_rfl) (by kernel_rfl) ?_
   repeat(quiet_step ((go_at_call 95;exact Y6 _ _ _ _)))
   refine wpQuiet_nil ?_
   rintro w' ⟨y',rfl⟩
   go_wp2_with fail
   go_ret
   exact⟨by rw[← HF.out];simp [Qs, *],Qz HB1.out (Up.b _)⟩
  ·skip
   rcases (show size=1∨size=2∨size=3∨size=4 by have:=of_decide_eq_true h1;omega) with rfl|rfl|rfl|rfl
   ·have hw:IntKind.i64.wrap 8=8:=IntWalk.i64_in _ (by omega);have hv:IntKind.i64.wrap 256=256:=IntWalk.i64_in _ (by omega)
    cases h3:decide (mx<256)
    ·skip
     go_upto_region 4 with (fail)
     refine XV _ (by kernel_rfl) (by kernel_rfl) ?_
     repeat(quiet_step ((go_at_call 95;exact Y6 _ _ _ _)))
     refine wpQuiet_nil ?_
     rintro w' ⟨y',rfl⟩
     go_wp2_with fail
     go_ret
     exact⟨by rw[← HF.out];simp [Qs, *],Qz HB1.out (Up.b _)⟩
    ·skip
     go_upto_region 4 with (fail)
     refine XV _ (by kernel_rfl) (by kernel_rfl) ?_
     repeat(quiet_step ((go_at_call 95;exact Y6 _ _ _ _)))
     refine wpQuiet_nil ?_
     rintro w' ⟨y',rfl⟩
     go_wp2_with fail
     go_ret
     exact⟨by rw[← HF.out];simp [Qs, *],Qz HB1.out (Up.b _)⟩
   ·have hw:IntKind.i64.wrap 16=16:=IntWalk.i64_in _ (by omega);have hv:IntKind.i64.wrap 65536=65536:=IntWalk.i64_in _ (by omega)
    cases h3:decide (mx<65536)
    ·skip
     go_upto_region 4 with (fail)
     refine XV _ (by kernel_rfl) (by kernel_rfl) ?_
     repeat(quiet_step ((go_at_call 95;exact Y6 _ _ _ _)))
     refine wpQuiet_nil ?_
     rintro w' ⟨y',rfl⟩
     go_wp2_with fail
     go_ret
     exact⟨by rw[← HF.out];simp [Qs, *],Qz HB1.out (Up.b _)⟩
    ·skip
     go_upto_region 4 with (fail)
     refine XV _ (by kernel_rfl) (by kernel_rfl) ?_
     repeat(quiet_step ((go_at_call 95;exact Y6 _ _ _ _)))
     refine wpQuiet_nil ?_
     rintro w' ⟨y',rfl⟩
     go_wp2_with fail
     go_ret
     exact⟨by rw[← HF.out];simp [Qs, *],Qz HB1.out (Up.b _)⟩
   ·have hw:IntKind.i64.wrap 24=24:=IntWalk.i64_in _ (by omega);have hv:IntKind.i64.wrap 16777216=16777216:=IntWalk.i64_in _ (by omega)
    cases h3:decide (mx<16777216)
    ·skip
     go_upto_region 4 with (fail)
     refine XV _ (by kernel_rfl) (by kernel_rfl) ?_
     repeat(quiet_step ((go_at_call 95;exact Y6 _ _ _ _)))
     refine wpQuiet_nil ?_
     rintro w' ⟨y',rfl⟩
     go_wp2_with fail
     go_ret
     exact⟨by rw[← HF.out];simp [Qs, *],Qz HB1.out (Up.b _)⟩
    ·skip
     go_upto_region 4 with (fail)
     refine XV _ (by kernel_rfl) (by kernel_rfl) ?_
     repeat(quiet_step ((go_at_call 95;exact Y6 _ _ _ _)))
     refine wpQuiet_nil ?_
     rintro w' ⟨y',rfl⟩
     go_wp2_with fail
     go_ret
     exact⟨by rw[← HF.out];simp [Qs, *],Qz HB1.out (Up.b _)⟩
   ·have hw:IntKind.i64.wrap 32=32:=IntWalk.i64_in _ (by omega);have hv:IntKind.i64.wrap 4294967296=4294967296:=IntWalk.i64_in _ (by omega)
    cases h3:decide (mx<4294967296)
    ·skip
     go_upto_region 4 with (fail)
     refine XV _ (by kernel_rfl) (by kernel_rfl) ?_
     repeat(quiet_step ((go_at_call 95;exact Y6 _ _ _ _)))
     refine wpQuiet_nil ?_
     rintro w' ⟨y',rfl⟩
     go_wp2_with fail
     go_ret
     exact⟨by rw[← HF.out];simp [Qs, *],Qz HB1.out (Up.b _)⟩
    ·skip
     go_upto_region 4 with (fail)
     refine XV _ (by kernel_rfl) (by kernel_rfl) ?_
     repeat(quiet_step ((go_at_call 95;exact Y6 _ _ _ _)))
     refine wpQuiet_nil ?_
     rintro w' ⟨y',rfl⟩
     go_wp2_with fail
     go_ret
     exact⟨by rw[← HF.out];simp [Qs, *],Qz HB1.out (Up.b _)⟩
set_option maxRecDepth 100000 in
set_option maxHeartbeats 4000000 in
theorem QbN{a0:Value}{size mn mx stop count elem:Int}{big:Bool}{Ab An Ap:Option Addr}{nb cb nn cn np cp n:Nat}{parts:List Int}(w:World)(hn:n≤1048576):
  Calls Tryz.prog 149 #[.agg #[a0,.int .i64 3,.slice Ab nb cb,.int .i64 size,.bool big,.int .i64 mn,.int .i64 mx,.int .i64 stop,.int .i64 count,.int .i64 elem,.slice An nn cn,.slice Ap np cp],.int .i64 (n:Int)] w fun e w'=>e=.returned (.bool (Qs 3 size mn mx stop count elem parts n))∧Below w.heap.size w w':=by
 obtain⟨B,hB⟩:∃B,Qs 3 size mn mx stop count elem parts n=B:=⟨_,rfl⟩;have HF:=Lib.hid hB;rw[hB];clear hB
 go_enter Tryz.func149,Tryz.ntmps149
 go_upto_region 2 with (fail)
 obtain⟨W1,hW1⟩:∃W1,((w.alloc (.cells #[a0,.int .i64 3,.slice Ab nb cb,.int .i64 size,.bool big,.int .i64 mn,.int .i64 mx,.int .i64 stop,.int .i64 count,.int .i64 elem,.slice An nn cn,.slice Ap np cp] 65)).alloc (.cells #[.int .i64 (n:Int)] 3)).alloc (.cells #[.func (.func 175) #[] #[.pointer (some ⟨w.heap.size+1,0,none⟩)]] 104)=W1:=⟨_,rfl⟩;have HB1:=Lib.hid (show Below w.heap.size w W1 by rw[← hW1];exact Q1A _ _ _ _)
 have hc:∀(j:Nat) (u:Value),[a0,.int .i64 3,.slice Ab nb cb,.int .i64 size,.bool big,.int .i64 mn,.int .i64 mx,.int .i64 stop,.int .i64 count,.int .i64 elem,.slice An nn cn,.slice Ap np cp][j]? =some u→W1.cell? ⟨w.heap.size,j,none⟩=some u:=by rw[← hW1];exact fun j u hu=>Up.cell (XX j u hu) ⟨_,ZZ _ _ _⟩
 have hc13:W1.cell? ⟨w.heap.size+1,0,none⟩=some (.int .i64 (n:Int)):=by rw[← hW1];exact Up.cell (ZF _ _ _ _) ⟨_,Zm _ _⟩
 have hc14:W1.cell? ⟨w.heap.size+1+1,0,none⟩=some (.func (.func 175) #[] #[.pointer (some ⟨w.heap.size+1,0,none⟩)]):=by rw[← hW1];exact ZG _ _ _ _ _
 have r0:=fun y:Up W1=>Up.cell (hc 0 _ rfl) y
 have r1:=fun y:Up W1=>Up.cell (hc 1 _ rfl) y
 have r2:=fun y:Up W1=>Up.cell (hc 2 _ rfl) y
 have r3:=fun y:Up W1=>Up.cell (hc 3 _ rfl) y
 have r4:=fun y:Up W1=>Up.cell (hc 4 _ rfl) y
 have r5:=fun y:Up W1=>Up.cell (hc 5 _ rfl) y
 have r6:=fun y:Up W1=>Up.cell (hc 6 _ rfl) y
 have r7:=fun y:Up W1=>Up.cell (hc 7 _ rfl) y
 have r8:=fun y:Up W1=>Up.cell (hc 8 _ rfl) y
 have r9:=fun y:Up W1=>Up.cell (hc 9 _ rfl) y
 have r10:=fun y:Up W1=>Up.cell (hc 10 _ rfl) y
 have r11:=fun y:Up W1=>Up.cell (hc 11 _ rfl) y
 have r13:=fun y:Up W1=>Up.cell hc13 y
 have r14:=fun y:Up W1=>Up.cell hc14 y
 (try rw[hW1]);obtain⟨y,hy⟩:=Up.start W1;rw[hy];clear hW1 hc hc13 hc14 hy
 cases h1:inB mx 0 999999999
 ·skip
  go_wp2_with ((go_at_call 95;refine(X5 _ _ _ _).mono ?_;rintro e w' ⟨rfl,rfl⟩))
  go_ret
  exact⟨by rw[← HF.out];simp [Qs, *],Qz HB1.out (Up.b _)⟩
 ·skip
  cases h2:inB stop 0 255
  ·skip
   go_wp2_with (first|(go_at_call 95;refine(X5 _ _ _ _).mono ?_;rintro e w' ⟨rfl,rfl⟩))
   go_ret
   exact⟨by rw[← HF.out];simp [Qs, *],Qz HB1.out (Up.b _)⟩
  ·skip
   cases h3:inB stop 48 57
   ·skip
    go_wp2_with (first|(go_at_call 95;refine(X5 _ _ _ _).mono ?_;rintro e w' ⟨rfl,rfl⟩))
    go_ret
    exact⟨by rw[← HF.out];simp [Qs, *],Qz HB1.out (Up.b _)⟩
   ·skip
    go_wp2_with (first|(go_at_call 95;refine(X5 _ _ _ _).mono ?_;rintro e w' ⟨rfl,rfl⟩))
    go_ret
    exact⟨by rw[← HF.out];simp [Qs, *],Qz HB1.out (Up.b _)⟩
set_option maxRecDepth 100000 in
set_option maxHeartbeats 4000000 in
theorem QbD{a0:Value}{size mn mx stop count elem:Int}{big:Bool}{Ab An Ap:Option Addr}{nb cb nn cn np cp n:Nat}{parts:List Int}(w:World)(hn:n≤1048576):
  Calls Tryz.prog 149 #[.agg #[a0,.int .i64 4,.slice Ab nb cb,.int .i64 size,.bool big,.int .i64 mn,.int .i64 mx,.int .i64 stop,.int .i64 count,.int .i64 elem,.slice An nn cn,.slice Ap np cp],.int .i64 (n:Int)] w fun e w'=>e=.returned (.bool (Qs 4 size mn mx stop count elem parts n))∧Below w.heap.size w w':=by
 obtain⟨B,hB⟩:∃B,Qs 4 size mn mx stop count elem parts n=B:=⟨_,rfl⟩;have HF:=Lib.hid hB;rw[hB];clear hB
 go_enter Tryz.func149,Tryz.ntmps149
 go_upto_region 2 with (fail)
 obtain⟨W1,hW1⟩:∃W1,((w.alloc (.cells #[a0,.int .i64 4,.slice Ab nb cb,.int .i64 size,.bool big,.int .i64 mn,.int .i64 mx,.int .i64 stop,.int .i64 count,.int .i64 elem,.slice An nn cn,.slice Ap np cp] 65)).alloc (.cells #[.int .i64 (n:Int)] 3)).alloc (.cells #[.func (.func 175) #[] #[.pointer (some ⟨w.heap.size+1,0,none⟩)]] 104)=W1:=⟨_,rfl⟩;have HB1:=Lib.hid (show Below w.heap.size w W1 by rw[← hW1];exact Q1A _ _ _ _)
 have hc:∀(j:Nat) (u:Value),[a0,.int .i64 4,.slice Ab nb cb,.int .i64 size,.bool big,.int .i64 mn,.int .i64 mx,.int .i64 stop,.int .i64 count,.int .i64 elem,.slice An nn cn,.slice Ap np cp][j]? =some u→W1.cell? ⟨w.heap.size,j,none⟩=some u:=by rw[← hW1];exact fun j u hu=>Up.cell (XX j u hu) ⟨_,ZZ _ _ _⟩
 have hc13:W1.cell? ⟨w.heap.size+1,0,none⟩=some (.int .i64 (n:Int)):=by rw[← hW1];exact Up.cell (ZF _ _ _ _) ⟨_,Zm _ _⟩
 have hc14:W1.cell? ⟨w.heap.size+1+1,0,none⟩=some (.func (.func 175) #[] #[.pointer (some ⟨w.heap.size+1,0,none⟩)]):=by rw[← hW1];exact ZG _ _ _ _ _
 have r0:=fun y:Up W1=>Up.cell (hc 0 _ rfl) y
 have r1:=fun y:Up W1=>Up.cell (hc 1 _ rfl) y
 have r2:=fun y:Up W1=>Up.cell (hc 2 _ rfl) y
 have r3:=fun y:Up W1=>Up.cell (hc 3 _ rfl) y
 have r4:=fun y:Up W1=>Up.cell (hc 4 _ rfl) y
 have r5:=fun y:Up W1=>Up.cell (hc 5 _ rfl) y
 have r6:=fun y:Up W1=>Up.cell (hc 6 _ rfl) y
 have r7:=fun y:Up W1=>Up.cell (hc 7 _ rfl) y
 have r8:=fun y:Up W1=>Up.cell (hc 8 _ rfl) y
 have r9:=fun y:Up W1=>Up.cell (hc 9 _ rfl) y
 have r10:=fun y:Up W1=>Up.cell (hc 10 _ rfl) y
 have r11:=fun y:Up W1=>Up.cell (hc 11 _ rfl) y
 have r13:=fun y:Up W1=>Up.cell hc13 y
 have r14:=fun y:Up W1=>Up.cell hc14 y
 (try rw[hW1]);obtain⟨y,hy⟩:=Up.start W1;rw[hy];clear hW1 hc hc13 hc14 hy
 cases h1:inB size 1 1000
 ·skip
  go_wp2_with ((go_at_call 95;refine(X5 _ _ _ _).mono ?_;rintro e w' ⟨rfl,rfl⟩))
  go_ret
  exact⟨by rw[← HF.out];simp [Qs, *],Qz HB1.out (Up.b _)⟩
 ·skip
  go_wp2_with ((go_at_call 95;refine(X5 _ _ _ _).mono ?_;rintro e w' ⟨rfl,rfl⟩))
  go_ret
  exact⟨by rw[← HF.out];simp [Qs, *],Qz HB1.out (Up.b _)⟩
set_option maxRecDepth 100000 in
set_option maxHeartbeats 4000000 in
theorem QaH{a0:Value}{size mn mx stop count elem:Int}{big:Bool}{Ab An Ap:Option Addr}{nb cb nn cn np cp n:Nat}{parts:List Int}(w:World)(hn:n≤1048576):
  Calls Tryz.prog 149 #[.agg #[a0,.int .i64 5,.slice Ab nb cb,.int .i64 size,.bool big,.int .i64 mn,.int .i64 mx,.int .i64 stop,.int .i64 count,.int .i64 elem,.slice An nn cn,.slice Ap np cp],.int .i64 (n:Int)] w fun e w'=>e=.returned (.bool (Qs 5 size mn mx stop count elem parts n))∧Below w.heap.size w w':=by
 obtain⟨B,hB⟩:∃B,Qs 5 size mn mx stop count elem parts n=B:=⟨_,rfl⟩;have HF:=Lib.hid hB;rw[hB];clear hB
 go_enter Tryz.func149,Tryz.ntmps149
 go_upto_region 2 with (fail)
 obtain⟨W1,hW1⟩:∃W1,((w.alloc (.cells #[a0,.int .i64 5,.slice Ab nb cb,.int .i64 size,.bool big,.int .i64 mn,.int .i64 mx,.int .i64 stop,.int .i64 count,.int .i64 elem,.slice An nn cn,.slice Ap np cp] 65)).alloc (.cells #[.int .i64 (n:Int)] 3)).alloc (.cells #[.func (.func 175) #[] #[.pointer (some ⟨w.heap.size+1,0,none⟩)]] 104)=W1:=⟨_,rfl⟩;have HB1:=Lib.hid (show Below w.heap.size w W1 by rw[← hW1];exact Q1A _ _ _ _)
 have hc:∀(j:Nat) (u:Value),[a0,.int .i64 5,.slice Ab nb cb,.int .i64 size,.bool big,.int .i64 mn,.int .i64 mx,.int .i64 stop,.int .i64 count,.int .i64 elem,.slice An nn cn,.slice Ap np cp][j]? =some u→W1.cell? ⟨w.heap.size,j,none⟩=some u:=by rw[← hW1];exact fun j u hu=>Up.cell (XX j u hu) ⟨_,ZZ _ _ _⟩
 have hc13:W1.cell? ⟨w.heap.size+1,0,none⟩=some (.int .i64 (n:Int)):=by rw[← hW1];exact Up.cell (ZF _ _ _ _) ⟨_,Zm _ _⟩
 have hc14:W1.cell? ⟨w.heap.size+1+1,0,none⟩=some (.func (.func 175) #[] #[.pointer (some ⟨w.heap.size+1,0,none⟩)]):=by rw[← hW1];exact ZG _ _ _ _ _
 have r0:=fun y:Up W1=>Up.cell (hc 0 _ rfl) y
 have r1:=fun y:Up W1=>Up.cell (hc 1 _ rfl) y
 have r2:=fun y:Up W1=>Up.cell (hc 2 _ rfl) y
 have r3:=fun y:Up W1=>Up.cell (hc 3 _ rfl) y
 have r4:=fun y:Up W1=>Up.cell (hc 4 _ rfl) y
 have r5:=fun y:Up W1=>Up.cell (hc 5 _ rfl) y
 have r6:=fun y:Up W1=>Up.cell (hc 6 _ rfl) y
 have r7:=fun y:Up W1=>Up.cell (hc 7 _ rfl) y
 have r8:=fun y:Up W1=>Up.cell (hc 8 _ rfl) y
 have r9:=fun y:Up W1=>Up.cell (hc 9 _ rfl) y
 have r10:=fun y:Up W1=>Up.cell (hc 10 _ rfl) y
 have r11:=fun y:Up W1=>Up.cell (hc 11 _ rfl) y
 have r13:=fun y:Up W1=>Up.cell hc13 y
 have r14:=fun y:Up W1=>Up.cell hc14 y
 (try rw[hW1]);obtain⟨y,hy⟩:=Up.start W1;rw[hy];clear hW1 hc hc13 hc14 hy
 cases h1:inB size 0 1000
 ·skip
  go_wp2_with ((go_at_call 95;refine(X5 _ _ _ _).mono ?_;rintro e w' ⟨rfl,rfl⟩))
  go_ret
  exact⟨by rw[← HF.out];simp [Qs, *],Qz HB1.out (Up.b _)⟩
 ·skip
  cases h2:inB stop 0 255
  ·skip
   go_wp2_with (first|(go_at_call 95;refine(X5 _ _ _ _).mono ?_;rintro e w' ⟨rfl,rfl⟩))
   go_ret
   exact⟨by rw[← HF.out];simp [Qs, *],Qz HB1.out (Up.b _)⟩
  ·skip
   go_wp2_with (first|(go_at_call 95;refine(X5 _ _ _ _).mono ?_;rintro e w' ⟨rfl,rfl⟩))
   go_ret
   exact⟨by rw[← HF.out];simp [Qs, *],Qz HB1.out (Up.b _)⟩
set_option maxRecDepth 100000 in
set_option maxHeartbeats 4000000 in
theorem Qc7{a0:Value}{size mn mx stop count elem:Int}{big:Bool}{Ab An Ap:Option Addr}{nb cb nn cn np cp n:Nat}{parts:List Int}(w:World)(hn:n≤1048576):
  Calls Tryz.prog 149 #[.agg #[a0,.int .i64 6,.slice Ab nb cb,.int .i64 size,.bool big,.int .i64 mn,.int .i64 mx,.int .i64 stop,.int .i64 count,.int .i64 elem,.slice An nn cn,.slice Ap np cp],.int .i64 (n:Int)] w fun e w'=>e=.returned (.bool (Qs 6 size mn mx stop count elem parts n))∧Below w.heap.size w w':=by
 obtain⟨B,hB⟩:∃B,Qs 6 size mn mx stop count elem parts n=B:=⟨_,rfl⟩;have HF:=Lib.hid hB;rw[hB];clear hB
 go_enter Tryz.func149,Tryz.ntmps149
 go_upto_region 2 with (fail)
 obtain⟨W1,hW1⟩:∃W1,((w.alloc (.cells #[a0,.int .i64 6,.slice Ab nb cb,.int .i64 size,.bool big,.int .i64 mn,.int .i64 mx,.int .i64 stop,.int .i64 count,.int .i64 elem,.slice An nn cn,.slice Ap np cp] 65)).alloc (.cells #[.int .i64 (n:Int)] 3)).alloc (.cells #[.func (.func 175) #[] #[.pointer (some ⟨w.heap.size+1,0,none⟩)]] 104)=W1:=⟨_,rfl⟩;have HB1:=Lib.hid (show Below w.heap.size w W1 by rw[← hW1];exact Q1A _ _ _ _)
 have hc:∀(j:Nat) (u:Value),[a0,.int .i64 6,.slice Ab nb cb,.int .i64 size,.bool big,.int .i64 mn,.int .i64 mx,.int .i64 stop,.int .i64 count,.int .i64 elem,.slice An nn cn,.slice Ap np cp][j]? =some u→W1.cell? ⟨w.heap.size,j,none⟩=some u:=by rw[← hW1];exact fun j u hu=>Up.cell (XX j u hu) ⟨_,ZZ _ _ _⟩
 have hc13:W1.cell? ⟨w.heap.size+1,0,none⟩=some (.int .i64 (n:Int)):=by rw[← hW1];exact Up.cell (ZF _ _ _ _) ⟨_,Zm _ _⟩
 have hc14:W1.cell? ⟨w.heap.size+1+1,0,none⟩=some (.func (.func 175) #[] #[.pointer (some ⟨w.heap.size+1,0,none⟩)]):=by rw[← hW1];exact ZG _ _ _ _ _
 have r0:=fun y:Up W1=>Up.cell (hc 0 _ rfl) y
 have r1:=fun y:Up W1=>Up.cell (hc 1 _ rfl) y
 have r2:=fun y:Up W1=>Up.cell (hc 2 _ rfl) y
 have r3:=fun y:Up W1=>Up.cell (hc 3 _ rfl) y
 have r4:=fun y:Up W1=>Up.cell (hc 4 _ rfl) y
 have r5:=fun y:Up W1=>Up.cell (hc 5 _ rfl) y
 have r6:=fun y:Up W1=>Up.cell (hc 6 _ rfl) y
 have r7:=fun y:Up W1=>Up.cell (hc 7 _ rfl) y
 have r8:=fun y:Up W1=>Up.cell (hc 8 _ rfl) y
 have r9:=fun y:Up W1=>Up.cell (hc 9 _ rfl) y
 have r10:=fun y:Up W1=>Up.cell (hc 10 _ rfl) y
 have r11:=fun y:Up W1=>Up.cell (hc 11 _ rfl) y
 have r13:=fun y:Up W1=>Up.cell hc13 y
 have r14:=fun y:Up W1=>Up.cell hc14 y
 (try rw[hW1]);obtain⟨y,hy⟩:=Up.start W1;rw[hy];clear hW1 hc hc13 hc14 hy
 cases h1:inB count 0 ((n:Int) - 1)
 ·skip
  go_wp2_with ((go_at_call 175;refine(Z4 _ _ (r13 _) hn).mono ?_;rintro e w' ⟨rfl,rfl⟩))
  go_ret
  exact⟨by rw[← HF.out];simp [Qs, *],Qz HB1.out (Up.b _)⟩
 ·skip
  cases h2:inB elem 0 ((n:Int) - 1)
  ·skip
   go_wp2_with (first|(go_at_call 95;refine(X5 _ _ _ _).mono ?_;rintro e w' ⟨rfl,rfl⟩)|(go_at_call 175;refine(Z4 _ _ (r13 _) hn).mono ?_;rintro e w' ⟨rfl,rfl⟩))
   go_ret
   exact⟨by rw[← HF.out];simp [Qs, *],Qz HB1.out (Up.b _)⟩
  ·skip
   go_wp2_with (first|(go_at_call 95;refine(X5 _ _ _ _).mono ?_;rintro e w' ⟨rfl,rfl⟩)|(go_at_call 175;refine(Z4 _ _ (r13 _) hn).mono ?_;rintro e w' ⟨rfl,rfl⟩))
   go_ret
   exact⟨by rw[← HF.out];simp [Qs, *],Qz HB1.out (Up.b _)⟩
set_option maxRecDepth 100000 in
set_option maxHeartbeats 4000000 in
theorem Qbe{a0:Value}{size mn mx stop count elem:Int}{big:Bool}{Ab An Ap:Option Addr}{nb cb nn cn np cp n:Nat}{parts:List Int}(w:World)(hn:n≤1048576)(hp:Rd w w.heap.size 1 Ap np (iv parts))(hnp:np≤1048576):
  Calls Tryz.prog 149 #[.agg #[a0,.int .i64 7,.slice Ab nb cb,.int .i64 size,.bool big,.int .i64 mn,.int .i64 mx,.int .i64 stop,.int .i64 count,.int .i64 elem,.slice An nn cn,.slice Ap np cp],.int .i64 (n:Int)] w fun e w'=>e=.returned (.bool (Qs 7 size mn mx stop count elem parts n))∧Below w.heap.size w w':=by
 obtain⟨B,hB⟩:∃B,Qs 7 size mn mx stop count elem parts n=B:=⟨_,rfl⟩;have HF:=Lib.hid hB;rw[hB];clear hB
 go_enter Tryz.func149,Tryz.ntmps149
 go_upto_region 2 with (fail)
 obtain⟨W1,hW1⟩:∃W1,((w.alloc (.cells #[a0,.int .i64 7,.slice Ab nb cb,.int .i64 size,.bool big,.int .i64 mn,.int .i64 mx,.int .i64 stop,.int .i64 count,.int .i64 elem,.slice An nn cn,.slice Ap np cp] 65)).alloc (.cells #[.int .i64 (n:Int)] 3)).alloc (.cells #[.func (.func 175) #[] #[.pointer (some ⟨w.heap.size+1,0,none⟩)]] 104)=W1:=⟨_,rfl⟩;have HB1:=Lib.hid (show Below w.heap.size w W1 by rw[← hW1];exact Q1A _ _ _ _)
 have hc:∀(j:Nat) (u:Value),[a0,.int .i64 7,.slice Ab nb cb,.int .i64 size,.bool big,.int .i64 mn,.int .i64 mx,.int .i64 stop,.int .i64 count,.int .i64 elem,.slice An nn cn,.slice Ap np cp][j]? =some u→W1.cell? ⟨w.heap.size,j,none⟩=some u:=by rw[← hW1];exact fun j u hu=>Up.cell (XX j u hu) ⟨_,ZZ _ _ _⟩
 have hc13:W1.cell? ⟨w.heap.size+1,0,none⟩=some (.int .i64 (n:Int)):=by rw[← hW1];exact Up.cell (ZF _ _ _ _) ⟨_,Zm _ _⟩
 have hc14:W1.cell? ⟨w.heap.size+1+1,0,none⟩=some (.func (.func 175) #[] #[.pointer (some ⟨w.heap.size+1,0,none⟩)]):=by rw[← hW1];exact ZG _ _ _ _ _
 have r0:=fun y:Up W1=>Up.cell (hc 0 _ rfl) y
 have r1:=fun y:Up W1=>Up.cell (hc 1 _ rfl) y
 have r2:=fun y:Up W1=>Up.cell (hc 2 _ rfl) y
 have r3:=fun y:Up W1=>Up.cell (hc 3 _ rfl) y
 have r4:=fun y:Up W1=>Up.cell (hc 4 _ rfl) y
 have r5:=fun y:Up W1=>Up.cell (hc 5 _ rfl) y
 have r6:=fun y:Up W1=>Up.cell (hc 6 _ rfl) y
 have r7:=fun y:Up W1=>Up.cell (hc 7 _ rfl) y
 have r8:=fun y:Up W1=>Up.cell (hc 8 _ rfl) y
 have r9:=fun y:Up W1=>Up.cell (hc 9 _ rfl) y
 have r10:=fun y:Up W1=>Up.cell (hc 10 _ rfl) y
 have r11:=fun y:Up W1=>Up.cell (hc 11 _ rfl) y
 have r13:=fun y:Up W1=>Up.cell hc13 y
 have r14:=fun y:Up W1=>Up.cell hc14 y
 (try rw[hW1]);obtain⟨y,hy⟩:=Up.start W1;rw[hy];clear hW1 hc hc13 hc14 hy;have HP:=Lib.hid ((hp.below HB1.out).more HB1.out.size);clear hp
 go_wp2_with fail
 refine(Zz (p:=fun x=>!(inB x 0 ((n:Int) - 1))) ((HP.out.below y.b).more y.b.size) hnp (fun x z _=>(Kf x z.w (r13 ⟨z.w,Qz y.b z.b⟩) (r14 ⟨z.w,Qz y.b z.b⟩) hn).mono fun e w' h=>⟨h.1,by rw[← h.2];exact Below.refl _ _⟩) Y5).mono ?_
 rintro e w' ⟨rfl,hb⟩
 have HB2:=Lib.hid (Qz (Qz HB1.out y.b) hb);clear hb
 go_wp2_with fail
 go_ret
 exact⟨by rw[← HF.out];simp [Qs],HB2.out⟩
set_option maxRecDepth 100000 in
set_option maxHeartbeats 4000000 in
theorem Qcb{a0:Value}{size mn mx stop count elem:Int}{big:Bool}{Ab An Ap:Option Addr}{nb cb nn cn np cp n:Nat}{parts:List Int}(w:World)(hn:n≤1048576)(hp:Rd w w.heap.size 1 Ap np (iv parts))(hnp:np≤1048576):
  Calls Tryz.prog 149 #[.agg #[a0,.int .i64 8,.slice Ab nb cb,.int .i64 size,.bool big,.int .i64 mn,.int .i64 mx,.int .i64 stop,.int .i64 count,.int .i64 elem,.slice An nn cn,.slice Ap np cp],.int .i64 (n:Int)] w fun e w'=>e=.returned (.bool (Qs 8 size mn mx stop count elem parts n))∧Below w.heap.size w w':=by
 obtain⟨B,hB⟩:∃B,Qs 8 size mn mx stop count elem parts n=B:=⟨_,rfl⟩;have HF:=Lib.hid hB;rw[hB];clear hB
 go_enter Tryz.func149,Tryz.ntmps149
 go_upto_region 2 with (fail)
 obtain⟨W1,hW1⟩:∃W1,((w.alloc (.cells #[a0,.int .i64 8,.slice Ab nb cb,.int .i64 size,.bool big,.int .i64 mn,.int .i64 mx,.int .i64 stop,.int .i64 count,.int .i64 elem,.slice An nn cn,.slice Ap np cp] 65)).alloc (.cells #[.int .i64 (n:Int)] 3)).alloc (.cells #[.func (.func 175) #[] #[.pointer (some ⟨w.heap.size+1,0,none⟩)]] 104)=W1:=⟨_,rfl⟩;have HB1:=Lib.hid (show Below w.heap.size w W1 by rw[← hW1];exact Q1A _ _ _ _)
 have hc:∀(j:Nat) (u:Value),[a0,.int .i64 8,.slice Ab nb cb,.int .i64 size,.bool big,.int .i64 mn,.int .i64 mx,.int .i64 stop,.int .i64 count,.int .i64 elem,.slice An nn cn,.slice Ap np cp][j]? =some u→W1.cell? ⟨w.heap.size,j,none⟩=some u:=by rw[← hW1];exact fun j u hu=>Up.cell (XX j u hu) ⟨_,ZZ _ _ _⟩
 have hc13:W1.cell? ⟨w.heap.size+1,0,none⟩=some (.int .i64 (n:Int)):=by rw[← hW1];exact Up.cell (ZF _ _ _ _) ⟨_,Zm _ _⟩
 have hc14:W1.cell? ⟨w.heap.size+1+1,0,none⟩=some (.func (.func 175) #[] #[.pointer (some ⟨w.heap.size+1,0,none⟩)]):=by rw[← hW1];exact ZG _ _ _ _ _
 have r0:=fun y:Up W1=>Up.cell (hc 0 _ rfl) y
 have r1:=fun y:Up W1=>Up.cell (hc 1 _ rfl) y
 have r2:=fun y:Up W1=>Up.cell (hc 2 _ rfl) y
 have r3:=fun y:Up W1=>Up.cell (hc 3 _ rfl) y
 have r4:=fun y:Up W1=>Up.cell (hc 4 _ rfl) y
 have r5:=fun y:Up W1=>Up.cell (hc 5 _ rfl) y
 have r6:=fun y:Up W1=>Up.cell (hc 6 _ rfl) y
 have r7:=fun y:Up W1=>Up.cell (hc 7 _ rfl) y
 have r8:=fun y:Up W1=>Up.cell (hc 8 _ rfl) y
 have r9:=fun y:Up W1=>Up.cell (hc 9 _ rfl) y
 have r10:=fun y:Up W1=>Up.cell (hc 10 _ rfl) y
 have r11:=fun y:Up W1=>Up.cell (hc 11 _ rfl) y
 have r13:=fun y:Up W1=>Up.cell hc13 y
 have r14:=fun y:Up W1=>Up.cell hc14 y
 (try rw[hW1]);obtain⟨y,hy⟩:=Up.start W1;rw[hy];clear hW1 hc hc13 hc14 hy;have HP:=Lib.hid ((hp.below HB1.out).more HB1.out.size);clear hp
 go_wp2_with fail
 refine(Zz (p:=fun x=>!(inB x 0 ((n:Int) - 1))) ((HP.out.below y.b).more y.b.size) hnp (fun x z _=>(Kf x z.w (r13 ⟨z.w,Qz y.b z.b⟩) (r14 ⟨z.w,Qz y.b z.b⟩) hn).mono fun e w' h=>⟨h.1,by rw[← h.2];exact Below.refl _ _⟩) Y5).mono ?_
 rintro e w' ⟨rfl,hb⟩
 have HB2:=Lib.hid (Qz (Qz HB1.out y.b) hb);clear hb
 go_wp2_with fail
 go_ret
 exact⟨by rw[← HF.out];simp [Qs],HB2.out⟩
set_option maxRecDepth 100000 in
set_option maxHeartbeats 4000000 in
theorem Qcv{a0:Value}{size mn mx stop count elem:Int}{big:Bool}{Ab An Ap:Option Addr}{nb cb nn cn np cp n:Nat}{parts:List Int}(w:World)(hn:n≤1048576):
  Calls Tryz.prog 149 #[.agg #[a0,.int .i64 9,.slice Ab nb cb,.int .i64 size,.bool big,.int .i64 mn,.int .i64 mx,.int .i64 stop,.int .i64 count,.int .i64 elem,.slice An nn cn,.slice Ap np cp],.int .i64 (n:Int)] w fun e w'=>e=.returned (.bool (Qs 9 size mn mx stop count elem parts n))∧Below w.heap.size w w':=by
 obtain⟨B,hB⟩:∃B,Qs 9 size mn mx stop count elem parts n=B:=⟨_,rfl⟩;have HF:=Lib.hid hB;rw[hB];clear hB
 go_enter Tryz.func149,Tryz.ntmps149
 go_upto_region 2 with (fail)
 obtain⟨W1,hW1⟩:∃W1,((w.alloc (.cells #[a0,.int .i64 9,.slice Ab nb cb,.int .i64 size,.bool big,.int .i64 mn,.int .i64 mx,.int .i64 stop,.int .i64 count,.int .i64 elem,.slice An nn cn,.slice Ap np cp] 65)).alloc (.cells #[.int .i64 (n:Int)] 3)).alloc (.cells #[.func (.func 175) #[] #[.pointer (some ⟨w.heap.size+1,0,none⟩)]] 104)=W1:=⟨_,rfl⟩;have HB1:=Lib.hid (show Below w.heap.size w W1 by rw[← hW1];exact Q1A _ _ _ _)
 have hc:∀(j:Nat) (u:Value),[a0,.int .i64 9,.slice Ab nb cb,.int .i64 size,.bool big,.int .i64 mn,.int .i64 mx,.int .i64 stop,.int .i64 count,.int .i64 elem,.slice An nn cn,.slice Ap np cp][j]? =some u→W1.cell? ⟨w.heap.size,j,none⟩=some u:=by rw[← hW1];exact fun j u hu=>Up.cell (XX j u hu) ⟨_,ZZ _ _ _⟩
 have hc13:W1.cell? ⟨w.heap.size+1,0,none⟩=some (.int .i64 (n:Int)):=by rw[← hW1];exact Up.cell (ZF _ _ _ _) ⟨_,Zm _ _⟩
 have hc14:W1.cell? ⟨w.heap.size+1+1,0,none⟩=some (.func (.func 175) #[] #[.pointer (some ⟨w.heap.size+1,0,none⟩)]):=by rw[← hW1];exact ZG _ _ _ _ _
 have r0:=fun y:Up W1=>Up.cell (hc 0 _ rfl) y
 have r1:=fun y:Up W1=>Up.cell (hc 1 _ rfl) y
 have r2:=fun y:Up W1=>Up.cell (hc 2 _ rfl) y
 have r3:=fun y:Up W1=>Up.cell (hc 3 _ rfl) y
 have r4:=fun y:Up W1=>Up.cell (hc 4 _ rfl) y
 have r5:=fun y:Up W1=>Up.cell (hc 5 _ rfl) y
 have r6:=fun y:Up W1=>Up.cell (hc 6 _ rfl) y
 have r7:=fun y:Up W1=>Up.cell (hc 7 _ rfl) y
 have r8:=fun y:Up W1=>Up.cell (hc 8 _ rfl) y
 have r9:=fun y:Up W1=>Up.cell (hc 9 _ rfl) y
 have r10:=fun y:Up W1=>Up.cell (hc 10 _ rfl) y
 have r11:=fun y:Up W1=>Up.cell (hc 11 _ rfl) y
 have r13:=fun y:Up W1=>Up.cell hc13 y
 have r14:=fun y:Up W1=>Up.cell hc14 y
 (try rw[hW1]);obtain⟨y,hy⟩:=Up.start W1;rw[hy];clear hW1 hc hc13 hc14 hy
 cases h1:inB stop 0 255
 ·skip
  go_wp2_with ((go_at_call 95;refine(X5 _ _ _ _).mono ?_;rintro e w' ⟨rfl,rfl⟩))
  go_ret
  exact⟨by rw[← HF.out];simp [Qs, *],Qz HB1.out (Up.b _)⟩
 ·skip
  cases h2:inB elem 0 ((n:Int) - 1)
  ·skip
   go_wp2_with (first|(go_at_call 95;refine(X5 _ _ _ _).mono ?_;rintro e w' ⟨rfl,rfl⟩)|(go_at_call 175;refine(Z4 _ _ (r13 _) hn).mono ?_;rintro e w' ⟨rfl,rfl⟩))
   go_ret
   exact⟨by rw[← HF.out];simp [Qs, *],Qz HB1.out (Up.b _)⟩
  ·skip
   go_wp2_with (first|(go_at_call 95;refine(X5 _ _ _ _).mono ?_;rintro e w' ⟨rfl,rfl⟩)|(go_at_call 175;refine(Z4 _ _ (r13 _) hn).mono ?_;rintro e w' ⟨rfl,rfl⟩))
   go_ret
   exact⟨by rw[← HF.out];simp [Qs, *],Qz HB1.out (Up.b _)⟩
set_option maxRecDepth 100000 in
set_option maxHeartbeats 4000000 in
theorem Qan{a0:Value}{size mn mx stop count elem:Int}{big:Bool}{Ab An Ap:Option Addr}{nb cb nn cn np cp n:Nat}{parts:List Int}(w:World)(hn:n≤1048576):
  Calls Tryz.prog 149 #[.agg #[a0,.int .i64 10,.slice Ab nb cb,.int .i64 size,.bool big,.int .i64 mn,.int .i64 mx,.int .i64 stop,.int .i64 count,.int .i64 elem,.slice An nn cn,.slice Ap np cp],.int .i64 (n:Int)] w fun e w'=>e=.returned (.bool (Qs 10 size mn mx stop count elem parts n))∧Below w.heap.size w w':=by
 obtain⟨B,hB⟩:∃B,Qs 10 size mn mx stop count elem parts n=B:=⟨_,rfl⟩;have HF:=Lib.hid hB;rw[hB];clear hB
 go_enter Tryz.func149,Tryz.ntmps149
 go_upto_region 2 with (fail)
 obtain⟨W1,hW1⟩:∃W1,((w.alloc (.cells #[a0,.int .i64 10,.slice Ab nb cb,.int .i64 size,.bool big,.int .i64 mn,.int .i64 mx,.int .i64 stop,.int .i64 count,.int .i64 elem,.slice An nn cn,.slice Ap np cp] 65)).alloc (.cells #[.int .i64 (n:Int)] 3)).alloc (.cells #[.func (.func 175) #[] #[.pointer (some ⟨w.heap.size+1,0,none⟩)]] 104)=W1:=⟨_,rfl⟩;have HB1:=Lib.hid (show Below w.heap.size w W1 by rw[← hW1];exact Q1A _ _ _ _)
 have hc:∀(j:Nat) (u:Value),[a0,.int .i64 10,.slice Ab nb cb,.int .i64 size,.bool big,.int .i64 mn,.int .i64 mx,.int .i64 stop,.int .i64 count,.int .i64 elem,.slice An nn cn,.slice Ap np cp][j]? =some u→W1.cell? ⟨w.heap.size,j,none⟩=some u:=by rw[← hW1];exact fun j u hu=>Up.cell (XX j u hu) ⟨_,ZZ _ _ _⟩
 have hc13:W1.cell? ⟨w.heap.size+1,0,none⟩=some (.int .i64 (n:Int)):=by rw[← hW1];exact Up.cell (ZF _ _ _ _) ⟨_,Zm _ _⟩
 have hc14:W1.cell? ⟨w.heap.size+1+1,0,none⟩=some (.func (.func 175) #[] #[.pointer (some ⟨w.heap.size+1,0,none⟩)]):=by rw[← hW1];exact ZG _ _ _ _ _
 have r0:=fun y:Up W1=>Up.cell (hc 0 _ rfl) y
 have r1:=fun y:Up W1=>Up.cell (hc 1 _ rfl) y
 have r2:=fun y:Up W1=>Up.cell (hc 2 _ rfl) y
 have r3:=fun y:Up W1=>Up.cell (hc 3 _ rfl) y
 have r4:=fun y:Up W1=>Up.cell (hc 4 _ rfl) y
 have r5:=fun y:Up W1=>Up.cell (hc 5 _ rfl) y
 have r6:=fun y:Up W1=>Up.cell (hc 6 _ rfl) y
 have r7:=fun y:Up W1=>Up.cell (hc 7 _ rfl) y
 have r8:=fun y:Up W1=>Up.cell (hc 8 _ rfl) y
 have r9:=fun y:Up W1=>Up.cell (hc 9 _ rfl) y
 have r10:=fun y:Up W1=>Up.cell (hc 10 _ rfl) y
 have r11:=fun y:Up W1=>Up.cell (hc 11 _ rfl) y
 have r13:=fun y:Up W1=>Up.cell hc13 y
 have r14:=fun y:Up W1=>Up.cell hc14 y
 (try rw[hW1]);obtain⟨y,hy⟩:=Up.start W1;rw[hy];clear hW1 hc hc13 hc14 hy
 cases h1:inB count 0 ((n:Int) - 1)
 ·skip
  go_wp2_with ((go_at_call 175;refine(Z4 _ _ (r13 _) hn).mono ?_;rintro e w' ⟨rfl,rfl⟩))
  go_ret
  exact⟨by rw[← HF.out];simp [Qs, *],Qz HB1.out (Up.b _)⟩
 ·skip
  go_wp2_with ((go_at_call 175;refine(Z4 _ _ (r13 _) hn).mono ?_;rintro e w' ⟨rfl,rfl⟩))
  go_ret
  exact⟨by rw[← HF.out];simp [Qs, *],Qz HB1.out (Up.b _)⟩
end Go.Proofs.YtphkhfdmlcnoeaaGreatDoor
