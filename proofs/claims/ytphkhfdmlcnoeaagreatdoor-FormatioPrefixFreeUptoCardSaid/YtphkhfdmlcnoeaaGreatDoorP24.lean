import Derived.Test.YtphkhfdmlcnoeaaGreatDoorP12
import Derived.Test.YtphkhfdmlcnoeaaGreatDoorP13
namespace Go.Proofs.YtphkhfdmlcnoeaaGreatDoor
set_option linter.unusedVariables false
set_option linter.unusedSimpArgs false
open Go.RowKit
set_option maxRecDepth 100000 in
set_option maxHeartbeats 8000000 in
theorem Q6L{r:Rl}{early:List Rl}{A Ab An Ap:Option Addr}{m c n cb cn cp:Nat}{W:World}(he:Xm W W.heap.size A m early)(hl:RuL W r Ab cb An cn Ap cp)(hs:RSm r)(hm:m≤1048576)(hn:n≤1048576)(hk1:(r.kind==1)=true)(hk7:(r.kind==7)=false)(hk8:(r.kind==8)=false):
  Calls Tryz.prog 115 #[.agg (ruC r (.slice Ab r.bs.length cb) (.slice An r.names.length cn) (.slice Ap r.parts.length cp)).toArray,.slice A m c,.int .i64 (n:Int)] W (Yc W (X1 r early n)):=by
 have HE:=Lib.hid he;have HL:=Lib.hid hl;have HS:=Lib.hid hs
 have hnm:(⟨r.name.toArray⟩:ByteArray).size≤9223372036854775807:=by
  have:=hs.name
  show r.name.toArray.size≤_
  rw[List.size_toArray]
  omega
 obtain⟨C,hC⟩:∃C,X1 r early n=C:=⟨_,rfl⟩;have HC:=Lib.hid hC;rw[hC];clear hC he hl hs
 go_enter Tryz.func115,Tryz.ntmps115
 refine QE (M:=[]) (W:=W) (N:=84) (E:=[(0,.agg (ruC r (.slice Ab r.bs.length cb) (.slice An r.names.length cn) (.slice Ap r.parts.length cp)).toArray),(1,.slice A m c),(2,.int .i64 (n:Int))]) (O:=[]) ?_ (Ag.cons (Ag.cons (Ag.cons (Ag.nil rfl rfl) rfl) rfl) rfl) (Wd.start [] W)
 repeat(first|refine Q1 zA ?_|refine Q1 zF ?_|refine Q1 (zB 0) ?_|refine yB fun br=>?_|refine Q1 (Qb (f:=133) rfl rfl (by decide) rfl rfl (fun w hw=>JI _ w hnm)) ?_|refine Q8 ?_|refine Q9 ?_|refine Q3 ?_|refine Qi ?_|refine Q1 zO ?_)
 refine Xf rfl (fun h1=>?_) (fun h1=>?_)
 ·skip
  repeat(first|refine Q1 zA ?_|refine Q8 ?_|refine Q9 ?_|refine Q3 ?_|refine Qr ?_|refine Qf ?_|refine Qg ?_)
  refine Q7 (.inr rfl) rfl (.tmp rfl) (fun w hw=>QI ?_ hw);rw[← HC.out]
  simp [X1,hk1,hk7,hk8,h1]
 repeat(first|refine Q1 zM ?_|refine Q1 zA ?_|refine Q1 zF ?_|refine Q1 (zB 0) ?_|refine Q1 (Qb (f:=140) rfl rfl (by decide) rfl rfl (fun w hw=>(Ja (HE.out.on hw.k.below) hm).mono (fun _ _ h=>h))) ?_|refine Q8 ?_|refine Q9 ?_|refine Q3 ?_|refine Q1 zhr ?_)
 refine Xf rfl (fun h2=>?_) (fun h2=>?_)
 ·skip
  repeat(first|refine Q1 zA ?_|refine Q8 ?_|refine Q9 ?_|refine Q3 ?_|refine Qr ?_|refine Qf ?_|refine Qg ?_)
  refine Q7 (.inr rfl) rfl (.tmp rfl) (fun w hw=>QI ?_ hw);rw[← HC.out]
  simp [X1,hk1,hk7,hk8,h1,h2]
 repeat(first|refine Q1 zA ?_|refine Q1 zF ?_|refine Q1 (zB 0) ?_|refine Q1 (Qb (f:=95) rfl rfl (by decide) rfl rfl (fun w hw=>Calls.stay (X5 _ _ _ w))) ?_|refine Q8 ?_|refine Q9 ?_|refine Q3 ?_|refine Q1 zO ?_)
 refine Xf rfl (fun h3=>?_) (fun h3=>?_)
 ·skip
  repeat(first|refine Q1 zA ?_|refine Q8 ?_|refine Q9 ?_|refine Q3 ?_|refine Qr ?_|refine Qf ?_|refine Qg ?_)
  refine Q7 (.inr rfl) rfl (.tmp rfl) (fun w hw=>QI ?_ hw);rw[← HC.out]
  simp [X1,hk1,hk7,hk8,h1,h2,h3]
 repeat(first|refine Q1 zA ?_|refine Q1 (zD 0) ?_|refine Q1 (Qb (f:=148) rfl rfl (by decide) rfl rfl (fun w hw=>Vi w)) ?_|refine Q8 ?_|refine Q9 ?_|refine Q3 ?_|refine Q1 zO ?_)
 refine Xf rfl (fun h4=>?_) (fun h4=>?_)
 ·skip
  repeat(first|refine Q1 zA ?_|refine Q8 ?_|refine Q9 ?_|refine Q3 ?_|refine Qr ?_|refine Qf ?_|refine Qg ?_)
  refine Q7 (.inr rfl) rfl (.tmp rfl) (fun w hw=>QI ?_ hw);rw[← HC.out]
  simp [X1,hk1,hk7,hk8,h1,h2,h3,h4]
 repeat(first|refine Q1 zM ?_|refine Q1 zA ?_|refine Q1 zF ?_|refine Q1 (zB 0) ?_|refine Q8 ?_|refine Q9 ?_|refine Q3 ?_|refine Q1 zL ?_|refine Q1 (Zu rfl rfl (by decide) rfl rfl rfl (by first|assumption|rfl)) ?_|refine Q1 zY ?_)
 refine Xf rfl (fun h5=>?_) (fun h5=>?_)
 ·skip
  repeat(first|refine Q1 zA ?_|refine Q8 ?_|refine Q9 ?_|refine Q3 ?_|refine Qr ?_|refine Qf ?_|refine Qg ?_)
  refine Q7 (.inr rfl) rfl (.tmp rfl) (fun w hw=>QI ?_ hw);rw[← HC.out]
  simp [X1,hk1,hk7,hk8,h1,h2,h3,h4,h5]
 repeat(first|refine Q1 zA ?_|refine Q1 zF ?_|refine Q1 (zB 0) ?_|refine Q8 ?_|refine Q9 ?_|refine Q3 ?_|refine Q1 zL ?_|refine Q1 zgr ?_)
 refine Xf rfl (fun h6=>?_) (fun h6=>?_)
 ·skip
  repeat(first|refine Q1 zA ?_|refine Q8 ?_|refine Q9 ?_|refine Q3 ?_|refine Qr ?_|refine Qf ?_|refine Qg ?_)
  refine Q7 (.inr rfl) rfl (.tmp rfl) (fun w hw=>QI ?_ hw);rw[← HC.out]
  simp [X1,hk1,hk7,hk8,h1,h2,h3,h4,h5,h6]
 repeat(first|refine Q1 zM ?_|refine Q1 zA ?_|refine Q1 zF ?_|refine Q1 (zB 0) ?_|refine Q8 ?_|refine Q9 ?_|refine Q3 ?_|refine Q6 rfl ?_|refine Q1 zL ?_|refine Q1 zea ?_|refine Q1 (Q16 rfl rfl (by decide) rfl rfl rfl (by first|assumption|rfl)) ?_|refine Q1 zN ?_|refine Q1 zS ?_)
 refine Xf rfl (fun h10=>?_) (fun h10=>?_)
 ·skip
  repeat(first|refine Q1 zA ?_|refine Q8 ?_|refine Q9 ?_|refine Q3 ?_|refine Qr ?_|refine Qf ?_|refine Qg ?_)
  refine Q7 (.inr rfl) rfl (.tmp rfl) (fun w hw=>QI ?_ hw);rw[← HC.out]
  simp [X1,hk1,hk7,hk8,h1,h2,h3,h4,h5,h6,h10]
 repeat(first|refine Q1 zM ?_|refine Q1 zA ?_|refine Q1 (zD 0) ?_|refine Q1 (Qb (f:=149) rfl rfl (by decide) rfl rfl (fun w hw=>Vk (by simpa using h3) hn (HL.out.on hw.k.below).p HS.out.parts)) ?_|refine Q8 ?_|refine Q9 ?_|refine Q3 ?_|refine Q1 zO ?_)
 refine Xf rfl (fun h11=>?_) (fun h11=>?_)
 ·skip
  repeat(first|refine Q1 zA ?_|refine Q8 ?_|refine Q9 ?_|refine Q3 ?_|refine Qr ?_|refine Qf ?_|refine Qg ?_)
  refine Q7 (.inr rfl) rfl (.tmp rfl) (fun w hw=>QI ?_ hw);rw[← HC.out]
  simp [X1,hk1,hk7,hk8,h1,h2,h3,h4,h5,h6,h10,h11]
 repeat(first|refine Q1 zA ?_|refine Q8 ?_|refine Q9 ?_|refine Q3 ?_|refine Qt ?_|refine Qr ?_)
 refine Q7 (.inr rfl) rfl (.tmp rfl) (fun w hw=>QI ?_ hw);rw[← HC.out]
 simp [X1,hk1,hk7,hk8,h1,h2,h3,h4,h5,h6,h10,h11]
set_option maxRecDepth 100000 in
set_option maxHeartbeats 8000000 in
theorem Q7i{r:Rl}{early:List Rl}{A Ab An Ap:Option Addr}{m c n cb cn cp:Nat}{W:World}(he:Xm W W.heap.size A m early)(hl:RuL W r Ab cb An cn Ap cp)(hs:RSm r)(hm:m≤1048576)(hn:n≤1048576)(hk1:(r.kind==1)=false)(hk7:(r.kind==7)=true)(hk8:(r.kind==8)=false):
  Calls Tryz.prog 115 #[.agg (ruC r (.slice Ab r.bs.length cb) (.slice An r.names.length cn) (.slice Ap r.parts.length cp)).toArray,.slice A m c,.int .i64 (n:Int)] W (Yc W (X1 r early n)):=by
 have HE:=Lib.hid he;have HL:=Lib.hid hl;have HS:=Lib.hid hs
 have hnm:(⟨r.name.toArray⟩:ByteArray).size≤9223372036854775807:=by
  have:=hs.name
  show r.name.toArray.size≤_
  rw[List.size_toArray]
  omega
 obtain⟨C,hC⟩:∃C,X1 r early n=C:=⟨_,rfl⟩;have HC:=Lib.hid hC;rw[hC];clear hC he hl hs
 go_enter Tryz.func115,Tryz.ntmps115
 refine QE (M:=[]) (W:=W) (N:=84) (E:=[(0,.agg (ruC r (.slice Ab r.bs.length cb) (.slice An r.names.length cn) (.slice Ap r.parts.length cp)).toArray),(1,.slice A m c),(2,.int .i64 (n:Int))]) (O:=[]) ?_ (Ag.cons (Ag.cons (Ag.cons (Ag.nil rfl rfl) rfl) rfl) rfl) (Wd.start [] W)
 repeat(first|refine Q1 zA ?_|refine Q1 zF ?_|refine Q1 (zB 0) ?_|refine yB fun br=>?_|refine Q1 (Qb (f:=133) rfl rfl (by decide) rfl rfl (fun w hw=>JI _ w hnm)) ?_|refine Q8 ?_|refine Q9 ?_|refine Q3 ?_|refine Qi ?_|refine Q1 zO ?_)
 refine Xf rfl (fun h1=>?_) (fun h1=>?_)
 ·skip
  repeat(first|refine Q1 zA ?_|refine Q8 ?_|refine Q9 ?_|refine Q3 ?_|refine Qr ?_|refine Qf ?_|refine Qg ?_)
  refine Q7 (.inr rfl) rfl (.tmp rfl) (fun w hw=>QI ?_ hw);rw[← HC.out]
  simp [X1,hk1,hk7,hk8,h1]
 repeat(first|refine Q1 zM ?_|refine Q1 zA ?_|refine Q1 zF ?_|refine Q1 (zB 0) ?_|refine Q1 (Qb (f:=140) rfl rfl (by decide) rfl rfl (fun w hw=>(Ja (HE.out.on hw.k.below) hm).mono (fun _ _ h=>h))) ?_|refine Q8 ?_|refine Q9 ?_|refine Q3 ?_|refine Q1 zhr ?_)
 refine Xf rfl (fun h2=>?_) (fun h2=>?_)
 ·skip
  repeat(first|refine Q1 zA ?_|refine Q8 ?_|refine Q9 ?_|refine Q3 ?_|refine Qr ?_|refine Qf ?_|refine Qg ?_)
  refine Q7 (.inr rfl) rfl (.tmp rfl) (fun w hw=>QI ?_ hw);rw[← HC.out]
  simp [X1,hk1,hk7,hk8,h1,h2]
 repeat(first|refine Q1 zA ?_|refine Q1 zF ?_|refine Q1 (zB 0) ?_|refine Q1 (Qb (f:=95) rfl rfl (by decide) rfl rfl (fun w hw=>Calls.stay (X5 _ _ _ w))) ?_|refine Q8 ?_|refine Q9 ?_|refine Q3 ?_|refine Q1 zO ?_)
 refine Xf rfl (fun h3=>?_) (fun h3=>?_)
 ·skip
  repeat(first|refine Q1 zA ?_|refine Q8 ?_|refine Q9 ?_|refine Q3 ?_|refine Qr ?_|refine Qf ?_|refine Qg ?_)
  refine Q7 (.inr rfl) rfl (.tmp rfl) (fun w hw=>QI ?_ hw);rw[← HC.out]
  simp [X1,hk1,hk7,hk8,h1,h2,h3]
 repeat(first|refine Q1 zA ?_|refine Q1 (zD 0) ?_|refine Q1 (Qb (f:=148) rfl rfl (by decide) rfl rfl (fun w hw=>Vi w)) ?_|refine Q8 ?_|refine Q9 ?_|refine Q3 ?_|refine Q1 zO ?_)
 refine Xf rfl (fun h4=>?_) (fun h4=>?_)
 ·skip
  repeat(first|refine Q1 zA ?_|refine Q8 ?_|refine Q9 ?_|refine Q3 ?_|refine Qr ?_|refine Qf ?_|refine Qg ?_)
  refine Q7 (.inr rfl) rfl (.tmp rfl) (fun w hw=>QI ?_ hw);rw[← HC.out]
  simp [X1,hk1,hk7,hk8,h1,h2,h3,h4]
 repeat(first|refine Q1 zM ?_|refine Q1 zA ?_|refine Q1 zF ?_|refine Q1 (zB 0) ?_|refine Q8 ?_|refine Q9 ?_|refine Q3 ?_|refine Q6 rfl ?_|refine Q1 zL ?_|refine Q1 (Zu rfl rfl (by decide) rfl rfl rfl (by first|assumption|rfl)) ?_|refine Q1 zgr ?_|refine Q1 zN ?_|refine Q1 zS ?_)
 refine Xf rfl (fun h6=>?_) (fun h6=>?_)
 ·skip
  repeat(first|refine Q1 zA ?_|refine Q8 ?_|refine Q9 ?_|refine Q3 ?_|refine Qr ?_|refine Qf ?_|refine Qg ?_)
  refine Q7 (.inr rfl) rfl (.tmp rfl) (fun w hw=>QI ?_ hw);rw[← HC.out]
  simp [X1,hk1,hk7,hk8,h1,h2,h3,h4,h6]
 repeat(first|refine Q1 zM ?_|refine Q1 zA ?_|refine Q1 zF ?_|refine Q1 (zB 0) ?_|refine Q8 ?_|refine Q9 ?_|refine Q3 ?_|refine Q1 zL ?_|refine Q1 zea ?_|refine Q1 znr ?_|refine Q1 zY ?_)
 refine Xf rfl (fun h7=>?_) (fun h7=>?_)
 ·skip
  repeat(first|refine Q1 zA ?_|refine Q8 ?_|refine Q9 ?_|refine Q3 ?_|refine Qr ?_|refine Qf ?_|refine Qg ?_)
  refine Q7 (.inr rfl) rfl (.tmp rfl) (fun w hw=>QI ?_ hw);rw[← HC.out]
  simp [X1,hk1,hk7,hk8,h1,h2,h3,h4,h6,h7]
 repeat(first|refine Q1 zM ?_|refine Q1 zA ?_|refine Q1 zF ?_|refine Q1 (zB 0) ?_|refine Q8 ?_|refine Q9 ?_|refine Q3 ?_|refine Q1 zL ?_|refine Q1 (Zu rfl rfl (by decide) rfl rfl rfl (by first|assumption|rfl)) ?_|refine Q1 zY ?_)
 refine Xf rfl (fun h8=>?_) (fun h8=>?_)
 ·rw[h8]
  repeat(first|refine Q1 zA ?_|refine Q8 ?_|refine Q9 ?_|refine Q3 ?_|refine Qt ?_|refine Qa rfl ?_|refine Qr ?_|refine Qf ?_|refine Qg ?_)
  refine Q7 (.inr rfl) rfl (.tmp rfl) (fun w hw=>QI ?_ hw);rw[← HC.out]
  simp [X1,hk1,hk7,hk8,h1,h2,h3,h4,h6,h7,h8]
 repeat(first|refine Q1 zM ?_|refine Q1 zA ?_|refine Q1 zF ?_|refine Q1 (zB 0) ?_|refine Q8 ?_|refine Q9 ?_|refine Q3 ?_|refine Q6 rfl ?_|refine Q1 zL ?_|refine Q1 zea ?_|refine Q1 (Q16 rfl rfl (by decide) rfl rfl rfl (by first|assumption|rfl)) ?_|refine Q1 zN ?_|refine Q1 zS ?_)
 refine Xf rfl (fun h10=>?_) (fun h10=>?_)
 ·skip
  repeat(first|refine Q1 zA ?_|refine Q8 ?_|refine Q9 ?_|refine Q3 ?_|refine Qr ?_|refine Qf ?_|refine Qg ?_)
  refine Q7 (.inr rfl) rfl (.tmp rfl) (fun w hw=>QI ?_ hw);rw[← HC.out]
  simp [X1,hk1,hk7,hk8,h1,h2,h3,h4,h6,h7,h8,h10]
 repeat(first|refine Q1 zM ?_|refine Q1 zA ?_|refine Q1 (zD 0) ?_|refine Q1 (Qb (f:=149) rfl rfl (by decide) rfl rfl (fun w hw=>Vk (by simpa using h3) hn (HL.out.on hw.k.below).p HS.out.parts)) ?_|refine Q8 ?_|refine Q9 ?_|refine Q3 ?_|refine Q1 zO ?_)
 refine Xf rfl (fun h11=>?_) (fun h11=>?_)
 ·skip
  repeat(first|refine Q1 zA ?_|refine Q8 ?_|refine Q9 ?_|refine Q3 ?_|refine Qr ?_|refine Qf ?_|refine Qg ?_)
  refine Q7 (.inr rfl) rfl (.tmp rfl) (fun w hw=>QI ?_ hw);rw[← HC.out]
  simp [X1,hk1,hk7,hk8,h1,h2,h3,h4,h6,h7,h8,h10,h11]
 repeat(first|refine Q1 zA ?_|refine Q8 ?_|refine Q9 ?_|refine Q3 ?_|refine Qt ?_|refine Qr ?_)
 refine Q7 (.inr rfl) rfl (.tmp rfl) (fun w hw=>QI ?_ hw);rw[← HC.out]
 simp [X1,hk1,hk7,hk8,h1,h2,h3,h4,h6,h7,h8,h10,h11]
set_option maxRecDepth 100000 in
set_option maxHeartbeats 8000000 in
theorem Q6u{r:Rl}{early:List Rl}{A Ab An Ap:Option Addr}{m c n cb cn cp:Nat}{W:World}(he:Xm W W.heap.size A m early)(hl:RuL W r Ab cb An cn Ap cp)(hs:RSm r)(hm:m≤1048576)(hn:n≤1048576)(hk1:(r.kind==1)=false)(hk7:(r.kind==7)=false)(hk8:(r.kind==8)=true):
  Calls Tryz.prog 115 #[.agg (ruC r (.slice Ab r.bs.length cb) (.slice An r.names.length cn) (.slice Ap r.parts.length cp)).toArray,.slice A m c,.int .i64 (n:Int)] W (Yc W (X1 r early n)):=by
 have HE:=Lib.hid he;have HL:=Lib.hid hl;have HS:=Lib.hid hs
 have hnm:(⟨r.name.toArray⟩:ByteArray).size≤9223372036854775807:=by
  have:=hs.name
  show r.name.toArray.size≤_
  rw[List.size_toArray]
  omega
 obtain⟨C,hC⟩:∃C,X1 r early n=C:=⟨_,rfl⟩;have HC:=Lib.hid hC;rw[hC];clear hC he hl hs
 go_enter Tryz.func115,Tryz.ntmps115
 refine QE (M:=[]) (W:=W) (N:=84) (E:=[(0,.agg (ruC r (.slice Ab r.bs.length cb) (.slice An r.names.length cn) (.slice Ap r.parts.length cp)).toArray),(1,.slice A m c),(2,.int .i64 (n:Int))]) (O:=[]) ?_ (Ag.cons (Ag.cons (Ag.cons (Ag.nil rfl rfl) rfl) rfl) rfl) (Wd.start [] W)
 repeat(first|refine Q1 zA ?_|refine Q1 zF ?_|refine Q1 (zB 0) ?_|refine yB fun br=>?_|refine Q1 (Qb (f:=133) rfl rfl (by decide) rfl rfl (fun w hw=>JI _ w hnm)) ?_|refine Q8 ?_|refine Q9 ?_|refine Q3 ?_|refine Qi ?_|refine Q1 zO ?_)
 refine Xf rfl (fun h1=>?_) (fun h1=>?_)
 ·skip
  repeat(first|refine Q1 zA ?_|refine Q8 ?_|refine Q9 ?_|refine Q3 ?_|refine Qr ?_|refine Qf ?_|refine Qg ?_)
  refine Q7 (.inr rfl) rfl (.tmp rfl) (fun w hw=>QI ?_ hw);rw[← HC.out]
  simp [X1,hk1,hk7,hk8,h1]
 repeat(first|refine Q1 zM ?_|refine Q1 zA ?_|refine Q1 zF ?_|refine Q1 (zB 0) ?_|refine Q1 (Qb (f:=140) rfl rfl (by decide) rfl rfl (fun w hw=>(Ja (HE.out.on hw.k.below) hm).mono (fun _ _ h=>h))) ?_|refine Q8 ?_|refine Q9 ?_|refine Q3 ?_|refine Q1 zhr ?_)
 refine Xf rfl (fun h2=>?_) (fun h2=>?_)
 ·skip
  repeat(first|refine Q1 zA ?_|refine Q8 ?_|refine Q9 ?_|refine Q3 ?_|refine Qr ?_|refine Qf ?_|refine Qg ?_)
  refine Q7 (.inr rfl) rfl (.tmp rfl) (fun w hw=>QI ?_ hw);rw[← HC.out]
  simp [X1,hk1,hk7,hk8,h1,h2]
 repeat(first|refine Q1 zA ?_|refine Q1 zF ?_|refine Q1 (zB 0) ?_|refine Q1 (Qb (f:=95) rfl rfl (by decide) rfl rfl (fun w hw=>Calls.stay (X5 _ _ _ w))) ?_|refine Q8 ?_|refine Q9 ?_|refine Q3 ?_|refine Q1 zO ?_)
 refine Xf rfl (fun h3=>?_) (fun h3=>?_)
 ·skip
  repeat(first|refine Q1 zA ?_|refine Q8 ?_|refine Q9 ?_|refine Q3 ?_|refine Qr ?_|refine Qf ?_|refine Qg ?_)
  refine Q7 (.inr rfl) rfl (.tmp rfl) (fun w hw=>QI ?_ hw);rw[← HC.out]
  simp [X1,hk1,hk7,hk8,h1,h2,h3]
 repeat(first|refine Q1 zA ?_|refine Q1 (zD 0) ?_|refine Q1 (Qb (f:=148) rfl rfl (by decide) rfl rfl (fun w hw=>Vi w)) ?_|refine Q8 ?_|refine Q9 ?_|refine Q3 ?_|refine Q1 zO ?_)
 refine Xf rfl (fun h4=>?_) (fun h4=>?_)
 ·skip
  repeat(first|refine Q1 zA ?_|refine Q8 ?_|refine Q9 ?_|refine Q3 ?_|refine Qr ?_|refine Qf ?_|refine Qg ?_)
  refine Q7 (.inr rfl) rfl (.tmp rfl) (fun w hw=>QI ?_ hw);rw[← HC.out]
  simp [X1,hk1,hk7,hk8,h1,h2,h3,h4]
 repeat(first|refine Q1 zM ?_|refine Q1 zA ?_|refine Q1 zF ?_|refine Q1 (zB 0) ?_|refine Q8 ?_|refine Q9 ?_|refine Q3 ?_|refine Q6 rfl ?_|refine Q1 zL ?_|refine Q1 (Zu rfl rfl (by decide) rfl rfl rfl (by first|assumption|rfl)) ?_|refine Q1 zgr ?_|refine Q1 zN ?_|refine Q1 zS ?_)
 refine Xf rfl (fun h6=>?_) (fun h6=>?_)
 ·skip
  repeat(first|refine Q1 zA ?_|refine Q8 ?_|refine Q9 ?_|refine Q3 ?_|refine Qr ?_|refine Qf ?_|refine Qg ?_)
  refine Q7 (.inr rfl) rfl (.tmp rfl) (fun w hw=>QI ?_ hw);rw[← HC.out]
  simp [X1,hk1,hk7,hk8,h1,h2,h3,h4,h6]
 repeat(first|refine Q1 zM ?_|refine Q1 zA ?_|refine Q1 zF ?_|refine Q1 (zB 0) ?_|refine Q8 ?_|refine Q9 ?_|refine Q3 ?_|refine Q6 rfl ?_|refine Q1 zL ?_|refine Q1 (Zu rfl rfl (by decide) rfl rfl rfl (by first|assumption|rfl)) ?_|refine Q1 (XS rfl rfl (by decide) rfl rfl rfl (by first|assumption|rfl)) ?_|refine Q1 zY ?_|refine Q1 zN ?_|refine Q1 zS ?_)
 refine Xf rfl (fun h9=>?_) (fun h9=>?_)
 ·rw[h9]
  repeat(first|refine Q1 zA ?_|refine Q8 ?_|refine Q9 ?_|refine Q3 ?_|refine Qr ?_|refine Qf ?_|refine Qg ?_)
  refine Q7 (.inr rfl) rfl (.tmp rfl) (fun w hw=>QI ?_ hw);rw[← HC.out]
  simp [X1,hk1,hk7,hk8,h1,h2,h3,h4,h6,h9]
 repeat(first|refine Q1 zA ?_|refine Q1 zF ?_|refine Q1 (zB 0) ?_|refine Q8 ?_|refine Q9 ?_|refine Q3 ?_|refine Q1 zL ?_|refine Q1 zgr ?_)
 refine Xf rfl (fun h10=>?_) (fun h10=>?_)
 ·skip
  repeat(first|refine Q1 zA ?_|refine Q8 ?_|refine Q9 ?_|refine Q3 ?_|refine Qr ?_|refine Qf ?_|refine Qg ?_)
  refine Q7 (.inr rfl) rfl (.tmp rfl) (fun w hw=>QI ?_ hw);rw[← HC.out]
  simp [X1,hk1,hk7,hk8,h1,h2,h3,h4,h6,h9,h10]
 repeat(first|refine Q1 zM ?_|refine Q1 zA ?_|refine Q1 (zD 0) ?_|refine Q1 (Qb (f:=149) rfl rfl (by decide) rfl rfl (fun w hw=>Vk (by simpa using h3) hn (HL.out.on hw.k.below).p HS.out.parts)) ?_|refine Q8 ?_|refine Q9 ?_|refine Q3 ?_|refine Q1 zO ?_)
 refine Xf rfl (fun h11=>?_) (fun h11=>?_)
 ·skip
  repeat(first|refine Q1 zA ?_|refine Q8 ?_|refine Q9 ?_|refine Q3 ?_|refine Qr ?_|refine Qf ?_|refine Qg ?_)
  refine Q7 (.inr rfl) rfl (.tmp rfl) (fun w hw=>QI ?_ hw);rw[← HC.out]
  simp [X1,hk1,hk7,hk8,h1,h2,h3,h4,h6,h9,h10,h11]
 repeat(first|refine Q1 zA ?_|refine Q8 ?_|refine Q9 ?_|refine Q3 ?_|refine Qt ?_|refine Qr ?_)
 refine Q7 (.inr rfl) rfl (.tmp rfl) (fun w hw=>QI ?_ hw);rw[← HC.out]
 simp [X1,hk1,hk7,hk8,h1,h2,h3,h4,h6,h9,h10,h11]
set_option maxRecDepth 100000 in
set_option maxHeartbeats 8000000 in
theorem Q6r{r:Rl}{early:List Rl}{A Ab An Ap:Option Addr}{m c n cb cn cp:Nat}{W:World}(he:Xm W W.heap.size A m early)(hl:RuL W r Ab cb An cn Ap cp)(hs:RSm r)(hm:m≤1048576)(hn:n≤1048576)(hk1:(r.kind==1)=false)(hk7:(r.kind==7)=false)(hk8:(r.kind==8)=false):
  Calls Tryz.prog 115 #[.agg (ruC r (.slice Ab r.bs.length cb) (.slice An r.names.length cn) (.slice Ap r.parts.length cp)).toArray,.slice A m c,.int .i64 (n:Int)] W (Yc W (X1 r early n)):=by
 have HE:=Lib.hid he;have HL:=Lib.hid hl;have HS:=Lib.hid hs
 have hnm:(⟨r.name.toArray⟩:ByteArray).size≤9223372036854775807:=by
  have:=hs.name
  show r.name.toArray.size≤_
  rw[List.size_toArray]
  omega
 obtain⟨C,hC⟩:∃C,X1 r early n=C:=⟨_,rfl⟩;have HC:=Lib.hid hC;rw[hC];clear hC he hl hs
 go_enter Tryz.func115,Tryz.ntmps115
 refine QE (M:=[]) (W:=W) (N:=84) (E:=[(0,.agg (ruC r (.slice Ab r.bs.length cb) (.slice An r.names.length cn) (.slice Ap r.parts.length cp)).toArray),(1,.slice A m c),(2,.int .i64 (n:Int))]) (O:=[]) ?_ (Ag.cons (Ag.cons (Ag.cons (Ag.nil rfl rfl) rfl) rfl) rfl) (Wd.start [] W)
 repeat(first|refine Q1 zA ?_|refine Q1 zF ?_|refine Q1 (zB 0) ?_|refine yB fun br=>?_|refine Q1 (Qb (f:=133) rfl rfl (by decide) rfl rfl (fun w hw=>JI _ w hnm)) ?_|refine Q8 ?_|refine Q9 ?_|refine Q3 ?_|refine Qi ?_|refine Q1 zO ?_)
 refine Xf rfl (fun h1=>?_) (fun h1=>?_)
 ·skip
  repeat(first|refine Q1 zA ?_|refine Q8 ?_|refine Q9 ?_|refine Q3 ?_|refine Qr ?_|refine Qf ?_|refine Qg ?_)
  refine Q7 (.inr rfl) rfl (.tmp rfl) (fun w hw=>QI ?_ hw);rw[← HC.out]
  simp [X1,hk1,hk7,hk8,h1]
 repeat(first|refine Q1 zM ?_|refine Q1 zA ?_|refine Q1 zF ?_|refine Q1 (zB 0) ?_|refine Q1 (Qb (f:=140) rfl rfl (by decide) rfl rfl (fun w hw=>(Ja (HE.out.on hw.k.below) hm).mono (fun _ _ h=>h))) ?_|refine Q8 ?_|refine Q9 ?_|refine Q3 ?_|refine Q1 zhr ?_)
 refine Xf rfl (fun h2=>?_) (fun h2=>?_)
 ·skip
  repeat(first|refine Q1 zA ?_|refine Q8 ?_|refine Q9 ?_|refine Q3 ?_|refine Qr ?_|refine Qf ?_|refine Qg ?_)
  refine Q7 (.inr rfl) rfl (.tmp rfl) (fun w hw=>QI ?_ hw);rw[← HC.out]
  simp [X1,hk1,hk7,hk8,h1,h2]
 repeat(first|refine Q1 zA ?_|refine Q1 zF ?_|refine Q1 (zB 0) ?_|refine Q1 (Qb (f:=95) rfl rfl (by decide) rfl rfl (fun w hw=>Calls.stay (X5 _ _ _ w))) ?_|refine Q8 ?_|refine Q9 ?_|refine Q3 ?_|refine Q1 zO ?_)
 refine Xf rfl (fun h3=>?_) (fun h3=>?_)
 ·skip
  repeat(first|refine Q1 zA ?_|refine Q8 ?_|refine Q9 ?_|refine Q3 ?_|refine Qr ?_|refine Qf ?_|refine Qg ?_)
  refine Q7 (.inr rfl) rfl (.tmp rfl) (fun w hw=>QI ?_ hw);rw[← HC.out]
  simp [X1,hk1,hk7,hk8,h1,h2,h3]
 repeat(first|refine Q1 zA ?_|refine Q1 (zD 0) ?_|refine Q1 (Qb (f:=148) rfl rfl (by decide) rfl rfl (fun w hw=>Vi w)) ?_|refine Q8 ?_|refine Q9 ?_|refine Q3 ?_|refine Q1 zO ?_)
 refine Xf rfl (fun h4=>?_) (fun h4=>?_)
 ·skip
  repeat(first|refine Q1 zA ?_|refine Q8 ?_|refine Q9 ?_|refine Q3 ?_|refine Qr ?_|refine Qf ?_|refine Qg ?_)
  refine Q7 (.inr rfl) rfl (.tmp rfl) (fun w hw=>QI ?_ hw);rw[← HC.out]
  simp [X1,hk1,hk7,hk8,h1,h2,h3,h4]
 repeat(first|refine Q1 zM ?_|refine Q1 zA ?_|refine Q1 zF ?_|refine Q1 (zB 0) ?_|refine Q8 ?_|refine Q9 ?_|refine Q3 ?_|refine Q6 rfl ?_|refine Q1 zL ?_|refine Q1 (Zu rfl rfl (by decide) rfl rfl rfl (by first|assumption|rfl)) ?_|refine Q1 zgr ?_|refine Q1 zN ?_|refine Q1 zS ?_)
 refine Xf rfl (fun h6=>?_) (fun h6=>?_)
 ·skip
  repeat(first|refine Q1 zA ?_|refine Q8 ?_|refine Q9 ?_|refine Q3 ?_|refine Qr ?_|refine Qf ?_|refine Qg ?_)
  refine Q7 (.inr rfl) rfl (.tmp rfl) (fun w hw=>QI ?_ hw);rw[← HC.out]
  simp [X1,hk1,hk7,hk8,h1,h2,h3,h4,h6]
 repeat(first|refine Q1 zM ?_|refine Q1 zA ?_|refine Q1 zF ?_|refine Q1 (zB 0) ?_|refine Q8 ?_|refine Q9 ?_|refine Q3 ?_|refine Q6 rfl ?_|refine Q1 zL ?_|refine Q1 (Zu rfl rfl (by decide) rfl rfl rfl (by first|assumption|rfl)) ?_|refine Q1 (Q16 rfl rfl (by decide) rfl rfl rfl (by first|assumption|rfl)) ?_|refine Q1 zN ?_|refine Q1 zS ?_)
 refine Xf rfl (fun h10=>?_) (fun h10=>?_)
 ·skip
  repeat(first|refine Q1 zA ?_|refine Q8 ?_|refine Q9 ?_|refine Q3 ?_|refine Qr ?_|refine Qf ?_|refine Qg ?_)
  refine Q7 (.inr rfl) rfl (.tmp rfl) (fun w hw=>QI ?_ hw);rw[← HC.out]
  simp [X1,hk1,hk7,hk8,h1,h2,h3,h4,h6,h10]
 repeat(first|refine Q1 zM ?_|refine Q1 zA ?_|refine Q1 (zD 0) ?_|refine Q1 (Qb (f:=149) rfl rfl (by decide) rfl rfl (fun w hw=>Vk (by simpa using h3) hn (HL.out.on hw.k.below).p HS.out.parts)) ?_|refine Q8 ?_|refine Q9 ?_|refine Q3 ?_|refine Q1 zO ?_)
 refine Xf rfl (fun h11=>?_) (fun h11=>?_)
 ·skip
  repeat(first|refine Q1 zA ?_|refine Q8 ?_|refine Q9 ?_|refine Q3 ?_|refine Qr ?_|refine Qf ?_|refine Qg ?_)
  refine Q7 (.inr rfl) rfl (.tmp rfl) (fun w hw=>QI ?_ hw);rw[← HC.out]
  simp [X1,hk1,hk7,hk8,h1,h2,h3,h4,h6,h10,h11]
 repeat(first|refine Q1 zA ?_|refine Q8 ?_|refine Q9 ?_|refine Q3 ?_|refine Qt ?_|refine Qr ?_)
 refine Q7 (.inr rfl) rfl (.tmp rfl) (fun w hw=>QI ?_ hw);rw[← HC.out]
 simp [X1,hk1,hk7,hk8,h1,h2,h3,h4,h6,h10,h11]
theorem YZ{r:Rl}{early:List Rl}{A Ab An Ap:Option Addr}{m c n cb cn cp:Nat}{W:World}(he:Xm W W.heap.size A m early)(hl:RuL W r Ab cb An cn Ap cp)(hs:RSm r)(hm:m≤1048576)(hn:n≤1048576):
  Calls Tryz.prog 115 #[.agg (ruC r (.slice Ab r.bs.length cb) (.slice An r.names.length cn) (.slice Ap r.parts.length cp)).toArray,.slice A m c,.int .i64 (n:Int)] W (Yc W (X1 r early n)):=by
 by_cases h1:r.kind=1
 ·exact Q6L he hl hs hm hn (beq_iff_eq.2 h1) (beq_eq_false_iff_ne.2 (by omega)) (beq_eq_false_iff_ne.2 (by omega))
 ·by_cases h7:r.kind=7
  ·exact Q7i he hl hs hm hn (beq_eq_false_iff_ne.2 (by omega)) (beq_iff_eq.2 h7) (beq_eq_false_iff_ne.2 (by omega))
  ·by_cases h8:r.kind=8
   ·exact Q6u he hl hs hm hn (beq_eq_false_iff_ne.2 (by omega)) (beq_eq_false_iff_ne.2 (by omega)) (beq_iff_eq.2 h8)
   ·exact Q6r he hl hs hm hn (beq_eq_false_iff_ne.2 h1) (beq_eq_false_iff_ne.2 h7) (beq_eq_false_iff_ne.2 h8)
end Go.Proofs.YtphkhfdmlcnoeaaGreatDoor
