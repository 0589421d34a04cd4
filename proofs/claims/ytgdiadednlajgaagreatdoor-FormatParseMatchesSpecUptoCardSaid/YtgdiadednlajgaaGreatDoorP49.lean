import Derived.Test.YtgdiadednlajgaaGreatDoorP36
namespace Go.Proofs.YtgdiadednlajgaaGreatDoor
set_option linter.unusedVariables false
set_option linter.unusedSimpArgs false
open Go.RowKit
section
variable {P:Program}{ops:Array Oper}{C:World→Prop}{N:Nat}{E:Env}{o:Oper}{d:Nat}
theorem Qe6{x y:Operand}{t t':TypeId}{a:Bool}(hT:P.underlying t=some .bool)(ho:o.op=.binOp .neq t x y t')(hd:o.dst=some d)(hN:d<N)(hw:Qm ops E o=some true)(hx:ev E x=some (.bool a))(hy:ev E y=some (.bool a)):oE P ops C N E ((d,.bool false)::E) o:=
 XL hd hN hw fun ρ w ha _=>by
  have h:(binOp .neq t (Value.bool a) (Value.bool a)).run P w=.ok (Value.bool false) w:=by
   unfold binOp
   simp [Sem.run_bind,run_equal_bool w t a a hT]
  simp [execOp,ho,ha.eval hx,ha.eval hy,go_sem,eqGuard,h]
end
section
variable {w:World}{B B':Nat}{A A':Option Addr}{n n' c c':Nat}
theorem Qeu{a:List UInt8}(ha:Rd w B 1 A n (bv a))(hb:Rd w B' 1 A' n' (bv a)):Calls Tryz.prog 87 #[.slice A n c,.slice A' n' c'] w fun e w'=>e=.returned (.bool true)∧Below w.heap.size w w':=
 (Q6E ha hb).mono fun _ _ h=>⟨by rw[h.1,show (a==a)=true from beq_self_eq_true a],h.2▸Below.refl _ _⟩
theorem QaK{a:List (List UInt8)}(ha:Rd w B 1 A n (sv a))(hb:Rd w B' 1 A' n' (sv a))(hn:n≤140737488355328):Calls Tryz.prog 88 #[.slice A n c,.slice A' n' c'] w fun e w'=>e=.returned (.bool true)∧Below w.heap.size w w':=
 (Q4f ha hb hn).mono fun _ _ h=>by
  have:=Q1j.below h;rwa [show (a==a)=true from beq_self_eq_true a] at this
theorem QeN{a:List Int}(ha:Rd w B 1 A n (iv a))(hb:Rd w B' 1 A' n' (iv a))(hn:n≤140737488355328):Calls Tryz.prog 17 #[.slice A n c,.slice A' n' c'] w fun e w'=>e=.returned (.bool true)∧Below w.heap.size w w':=
 (Ki ha hb hn).mono fun _ _ h=>by
  have:=Q1j.below h;rwa [show (a==a)=true from beq_self_eq_true a] at this
end
section
variable {Ab An Ap Ab' An' Ap':Option Addr}{cb cn cp cb' cn' cp':Nat}{W:World}
set_option maxRecDepth 100000 in
set_option maxHeartbeats 8000000 in
theorem Q3N{r:Rl}(hl:RuL W r Ab cb An cn Ap cp)(hl':RuL W r Ab' cb' An' cn' Ap' cp')(hs:RSm r):
  Calls Tryz.prog 47 #[.agg (ruC r (.slice Ab r.bs.length cb) (.slice An r.names.length cn) (.slice Ap r.parts.length cp)).toArray,.agg (ruC r (.slice Ab' r.bs.length cb') (.slice An' r.names.length cn') (.slice Ap' r.parts.length cp')).toArray] W (QT W true):=by
 have HL:=Lib.hid hl;have HL':=Lib.hid hl'
 have hnn:r.names.length≤140737488355328:=by have:=hs.names;omega
 have hnp:r.parts.length≤140737488355328:=by have:=hs.parts;omega
 clear hl hl' hs
 go_enter Tryz.func47,Tryz.ntmps47
 refine QE (M:=[]) (W:=W) (N:=86) (E:=[(0,.agg (ruC r (.slice Ab r.bs.length cb) (.slice An r.names.length cn) (.slice Ap r.parts.length cp)).toArray),(1,.agg (ruC r (.slice Ab' r.bs.length cb') (.slice An' r.names.length cn') (.slice Ap' r.parts.length cp')).toArray)]) (O:=[]) ?_ (Ag.cons (Ag.cons (Ag.nil rfl rfl) rfl) rfl) (Wd.start [] W);have hsn:((⟨r.name.toArray⟩:ByteArray).data.toList != (⟨r.name.toArray⟩:ByteArray).data.toList)=false:=bne_eq_false_iff_eq.2 rfl;refine yq<|yr ?_;refine yB fun b2=>?_;refine yB fun b3=>?_;refine yo zA<|yl<|yn<|yq<|yq<|yr<|yo zF<|yo (zB 1)<|yo zF<|yo (zB 0) ?_;refine Q1 (Jy rfl rfl (by decide) rfl rfl rfl (by assumption)) ?_;refine yo zM<|yo zF<|yo (zB 1)<|yo zF<|yo (zB 0)<|yo znf<|yo zN<|yo zM<|yo zF<|yo (zB 1)<|yo zF<|yo (zB 0) ?_;refine Q1 (Q4 (f:=87) rfl rfl (by decide) rfl rfl (fun w hw=>Qeu (HL.out.b.below hw.k.below) (HL'.out.b.below hw.k.below))) ?_;refine yo zO<|yo zN<|yo zM<|yo zF<|yo (zB 1)<|yo zF<|yo (zB 0)<|yo znf<|yo zN<|yo zM<|yo zF<|yo (zB 1)<|yo zF<|yo (zB 0) ?_;refine Q1 (Qe6 Tryz.underlying4 rfl rfl (by decide) rfl rfl rfl) ?_;refine yo zN<|yo zM<|yo zF<|yo (zB 1)<|yo zF<|yo (zB 0)<|yo znf<|yo zN<|yo zM<|yo zF<|yo (zB 1)<|yo zF<|yo (zB 0)<|yo znf<|yo zN<|yl<|yn<|y0<|ys<|yn<|yq<|yr<|yo zF<|yo (zB 1)<|yo zF<|yo (zB 0)<|yo zet<|yo zM<|yo zF<|yo (zB 1)<|yo zF<|yo (zB 0)<|yo zet<|yo zY<|yo zM<|yo zF<|yo (zB 1)<|yo zF<|yo (zB 0)<|yo zet<|yo zY<|yo zM<|yo zF<|yo (zB 1)<|yo zF<|yo (zB 0) ?_;refine Q1 (Q4 (f:=88) rfl rfl (by decide) rfl rfl (fun w hw=>QaK (HL.out.n.below hw.k.below) (HL'.out.n.below hw.k.below) hnn)) ?_;refine yo zY<|yo zM<|yo zF<|yo (zB 1)<|yo zF<|yo (zB 0) ?_;refine Q1 (Q4 (f:=17) rfl rfl (by decide) rfl rfl (fun w hw=>QeN (HL.out.p.below hw.k.below) (HL'.out.p.below hw.k.below) hnp)) ?_;refine yo zY<|yo zA<|yl<|yn<|yt ?_;exact Q9 (by exact .inr rfl) rfl (.tmp rfl) (fun w hw=>QB rfl hw)
end
section
variable {A A':Option Addr}{n c c':Nat}{W:World}{F:List Rl}
set_option maxRecDepth 100000 in
set_option maxHeartbeats 8000000 in
theorem YE(hf:Xq W W.heap.size A n F)(hf':Xq W W.heap.size A' n F)(hs:FSm F):
  Calls Tryz.prog 23 #[.agg #[.slice A n c],.agg #[.slice A' n c']] W (QT W true):=by
 have hlen:F.length=n:=hf.1
 have hn1:n≤1048576:=by rw[← hlen];exact hs.1
 have HF:=Lib.hid hf;have HF':=Lib.hid hf';have HS:=Lib.hid hs;clear hf hf' hs hlen
 go_enter Tryz.func23,Tryz.ntmps23
 refine QE (M:=[]) (W:=W) (N:=32) (E:=[(0,.agg #[.slice A n c]),(1,.agg #[.slice A' n c'])]) (O:=[]) ?_ (Ag.cons (Ag.cons (Ag.nil rfl rfl) rfl) rfl) (Wd.start [] W);refine yq<|yr ?_;refine yB fun b2=>?_;refine yB fun b3=>?_;refine yo zA<|yl<|yn<|yq<|yq<|yr<|yo zF<|yo (zB 1)<|yo zL<|yo zF<|yo (zB 0)<|yo zL<|yo znf<|yl<|yn<|y0<|ys<|yn<|yq<|yq<|yr<|yo zA<|yl<|yn<|yb ?_;refine X0 (ι:=Nat) (fun i=>i≤n) (fun i=>n - i) (fun i=>[(2,.pointer (some ⟨b2,0,none⟩)),(3,.pointer (some ⟨b3,0,none⟩)),(5,.int .i64 (i:Int))]) (fun i=>[.blk b3 (.cells ([.slice A' n c']:List Value).toArray 24 (0,0)),.blk b2 (.cells ([.slice A n c]:List Value).toArray 24 (0,0))]) 0 [0,1] (by decide) (Nat.zero_le _) (.cons rfl rfl (.cons rfl rfl (.cons rfl rfl .nil))) rfl ?_;intro i hi
 by_cases hin:i<n
 ·obtain⟨b,o,rfl⟩:=HF.out.addr (by omega);obtain⟨b',o',rfl⟩:=HF'.out.addr (by omega);obtain⟨r,Ab,cb,An,cn,Ap,cp,hr,hrg,hl⟩:=HF.out.rl hin;obtain⟨r',Ab',cb',An',cn',Ap',cp',hr',hrg',hl'⟩:=HF'.out.rl hin;obtain rfl:r'=r:=Option.some.inj (hr'.symm.trans hr);have HL:=Lib.hid hl;have HL':=Lib.hid hl';have HRS:=Lib.hid (HS.out.2 r' (List.mem_of_getElem? hr));clear hr hr' hl hl';refine yq<|yq<|yr<|yo zM<|yo zF<|yo (zB 1)<|yo zL<|yo zlt<|yl<|yn<|y1<|ys<|yn<|yq<|yb<|yq<|Xm (by kernel_rfl) (by kernel_rfl) ?_;refine Qd zF ?_;refine Qd (zB 1) ?_;refine Qd zM ?_;refine Qd (zi (hj:=hin)) ?_;refine Qd (X8 rfl rfl (by decide) rfl rfl (fun w hw=>hw.range_old hrg (by simp)) (by rfl)) ?_;refine Qd zF ?_;refine Qd (zB 0) ?_;refine Qd zM ?_;refine Qd (zi (hj:=hin)) ?_;refine Qd (X8 rfl rfl (by decide) rfl rfl (fun w hw=>hw.range_old hrg' (by simp)) (by rfl)) ?_;refine Qd (Q4 (f:=47) rfl rfl (by decide) rfl rfl (fun w hw=>Q3N (HL.out.on hw.k.below) (HL'.out.on hw.k.below) HRS.out)) ?_;refine Qd zO ?_;refine XS ?_;refine yn<|y0<|ys<|yn<|yr<|yo zM<|yo zP<|yo zA<|yl ?_;exact QA (i+1) [0,1] (by decide) hin (by omega) (.cons rfl rfl (.cons rfl rfl (.cons rfl (by go_num) .nil))) rfl
 ·refine yq<|yq<|yr<|yo zM<|yo zF<|yo (zB 1)<|yo zL<|yo zlf<|yl<|yn<|y0<|ye<|yn<|yq<|yr<|yo zA<|yl<|yn<|yt ?_;exact Q9 (by exact .inr rfl) rfl (.tmp rfl) (fun w hw=>QB rfl hw)
end
end Go.Proofs.YtgdiadednlajgaaGreatDoor
