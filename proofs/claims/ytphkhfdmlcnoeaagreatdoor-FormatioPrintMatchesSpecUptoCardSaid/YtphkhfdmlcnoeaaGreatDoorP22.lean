import Derived.Test.YtphkhfdmlcnoeaaGreatDoorP18
namespace Go.Proofs.YtphkhfdmlcnoeaaGreatDoor
set_option linter.unusedVariables false
set_option linter.unusedSimpArgs false
set_option maxRecDepth 1000000
set_option maxHeartbeats 32000000
open Go.RowKit
section
variable {b:Nat}{big:Bool}{bs name:List UInt8}{count elem m mn mx size stop:Int}{names:List (List UInt8)}{parts:List Int}{t t':TypeId}{x y:Operand}
section
variable {P:Program}{ops:Array Oper}{C:World->Prop}{N:Nat}{E:Env}{o:Oper}{d:Nat}
theorem KC{n:Int}(hm:0<=m/\m<=9223372036854775807)(hn:1<=n)(ho:o.op=.binOp .quo t x y t')(hd:o.dst=some d)(hN:d<N)(hw:Qo ops E o=some true)(hx:ev E x=some (.int .i64 m))(hy:ev E y=some (.int .i64 n)):oE P ops C N E ((d,.int .i64 (m / n))::E) o:=
 Q0n ho hd hN hw hx hy fun w=>by
  have h0:n≠0:=by omega
  rw[binOp_quo];simp [Op.intDiv,go_sem,h0];exact IntWalk.i64_quo m n ⟨hm.1,hm.2,hn⟩
theorem Qfp{n:Int}(hm:0<=m/\m<=9223372036854775807)(hn:1<=n)(ho:o.op=.binOp .rem t x y t')(hd:o.dst=some d)(hN:d<N)(hw:Qo ops E o=some true)(hx:ev E x=some (.int .i64 m))(hy:ev E y=some (.int .i64 n)):oE P ops C N E ((d,.int .i64 (m % n))::E) o:=
 Q0n ho hd hN hw hx hy fun w=>by
  have h0:n≠0:=by omega
  rw[binOp_rem];simp [Op.intDiv,go_sem,h0];exact IntWalk.rem_in m n hm.1
end
theorem QvH(w:World):Calls Tryz.prog 104 #[.int .i64 0] w fun e w'=>e=.returned (.int .i64 1)/\Below w.heap.size w w':=Jz (n:=0) Q1 w
theorem QvP(w:World):Calls Tryz.prog 104 #[.int .i64 1] w fun e w'=>e=.returned (.int .i64 256)/\Below w.heap.size w w':=Jz (n:=1) Q1 w
theorem QvJ(w:World):Calls Tryz.prog 104 #[.int .i64 2] w fun e w'=>e=.returned (.int .i64 65536)/\Below w.heap.size w w':=Jz (n:=2) Q1 w
theorem QvA(w:World):Calls Tryz.prog 104 #[.int .i64 3] w fun e w'=>e=.returned (.int .i64 16777216)/\Below w.heap.size w w':=Jz (n:=3) Q1 w
section
variable {A Ab An Ap:Option Addr}{n c cb cn cp:Nat}{W:World}
theorem QvZ(hb:b<256):
  Calls Tryz.prog 76 #[.agg ([.string ⟨name.toArray⟩,.int .i64 3,.slice Ab bs.length cb,.int .i64 size,.bool big,.int .i64 mn,.int .i64 mx,.int .i64 stop,.int .i64 count,.int .i64 elem,.slice An names.length cn,.slice Ap parts.length cp]:List Value).toArray,.int .i64 (b:Int)] W (QU W (Kc ⟨name,3,bs,size,big,mn,mx,stop,count,elem,names,parts⟩ (b:Int))):=by
 go_enter Tryz.func76,Tryz.ntmps76;refine Qz (M:=[]) (W:=W) (N:=97) (E:=[(0,.agg ([.string Q0u,.int .i64 3,.slice Ab bs.length cb,.int .i64 size,.bool big,.int .i64 mn,.int .i64 mx,.int .i64 stop,.int .i64 count,.int .i64 elem,.slice An names.length cn,.slice Ap parts.length cp]:List Value).toArray),Q3M]) (O:=[]) ?_ mc3 QR;by_cases h1:48<=(b:Int)/\(b:Int)<=57
 ·refine yq<|yr ?_;refine yB fun b2=>?_;refine Qrs ?_;refine Q4 (Ql (f:=71) rfl rfl Q1 rfl rfl (fun w hw=>(QZ _ _ _ w).mono (fun _ _ h=>by rw[QaP h1] at h;exact h))) ?_;refine yo zM<|yo zM<|yo zQ<|yo zF<|yo (zB 0)<|yo zqr<|yo zY<|yo zA<|yl<|yn<|yt<|yc ?_;exact Q7 mc4 rfl (.tmp rfl) (fun w hw=>QN (by show _=(inB (b:Int) 48 57&&_);rw[QaP h1,Bool.true_and]) hw)
 ·refine yq<|yr ?_;refine yB fun b2=>?_;refine Qrs ?_;refine Q4 (Ql (f:=71) rfl rfl Q1 rfl rfl (fun w hw=>(QZ _ _ _ w).mono (fun _ _ h=>by rw[Qb9 h1] at h;exact h))) ?_;refine yo zM<|yo zS<|yo zS<|yo zS<|yo zS<|yo zS<|yo zN<|yo zA<|yl<|yn<|yt<|yc ?_;exact Q7 mc4 rfl (.tmp rfl) (fun w hw=>QN (by show _=(inB (b:Int) 48 57&&_);rw[Qb9 h1];rfl) hw)
theorem QvW:
  Calls Tryz.prog 76 #[.agg ([.string ⟨name.toArray⟩,.int .i64 5,.slice Ab bs.length cb,.int .i64 size,.bool big,.int .i64 mn,.int .i64 mx,.int .i64 stop,.int .i64 count,.int .i64 elem,.slice An names.length cn,.slice Ap parts.length cp]:List Value).toArray,.int .i64 (b:Int)] W (QU W (Kc ⟨name,5,bs,size,big,mn,mx,stop,count,elem,names,parts⟩ (b:Int))):=by
 go_enter Tryz.func76,Tryz.ntmps76;refine Qz (M:=[]) (W:=W) (N:=97) (E:=[(0,.agg (Qs2:List Value).toArray),Q3M]) (O:=[]) ?_ mc3 QR;by_cases h1:0<size
 ·refine yq<|yr ?_;refine yB fun b2=>?_;refine yo zA<|yl<|yn<|yq<|yq<|yr<|yo zF<|yo (zB 0)<|yo zef<|yl<|yn<|y0<|ys<|yn<|yq<|yq<|yr<|yo zF<|yo (zB 0)<|yo zef<|yo zM<|yo zS<|yo zS<|yo zN<|yl<|yn<|y0<|ys<|yn<|yq<|yq<|yr<|yo zF<|yo (zB 0)<|yo zef<|yl<|yn<|y0<|ys<|yn<|yq<|yq<|yr<|yo zF<|yo (zB 0)<|yo zef<|yl<|yn<|y0<|ys<|yn<|yq<|yq<|yr<|yo zF<|yo (zB 0)<|yo zet<|yl<|yn<|y1<|yq<|yr<|yo zF<|yo (zB 0)<|yo zgt<|yo zM<|yo zS<|yo zS<|yo zS<|yo zS<|yo zY<|yo zA<|yl<|yn<|yt<|yc ?_;exact Q7 mc4 rfl (.tmp rfl) (fun w hw=>QN (by show _=(decide (0<size)||_);rw[decide_eq_true h1];rfl) hw)
 ·refine yq<|yr ?_;refine yB fun b2=>?_;refine yo zA<|yl<|yn<|yq<|yq<|yr<|yo zF<|yo (zB 0)<|yo zef<|yl<|yn<|y0<|ys<|yn<|yq<|yq<|yr<|yo zF<|yo (zB 0)<|yo zef<|yo zM<|yo zS<|yo zS<|yo zN<|yl<|yn<|y0<|ys<|yn<|yq<|yq<|yr<|yo zF<|yo (zB 0)<|yo zef<|yl<|yn<|y0<|ys<|yn<|yq<|yq<|yr<|yo zF<|yo (zB 0)<|yo zef<|yl<|yn<|y0<|ys<|yn<|yq<|yq<|yr<|yo zF<|yo (zB 0)<|yo zet<|yl<|yn<|y1<|yq<|yr<|yo zF<|yo (zB 0)<|yo zgf<|yo zM<|yo zM<|yo zF<|yo (zB 0)<|yo zer<|yo zN<|yo zA<|yl<|yn<|yt<|yc ?_;exact Q7 mc4 rfl (.tmp rfl) (fun w hw=>QN (by show _=(decide (0<size)||_);rw[decide_eq_false h1];rfl) hw)
theorem QvR:
  Calls Tryz.prog 76 #[.agg ([.string ⟨name.toArray⟩,.int .i64 9,.slice Ab bs.length cb,.int .i64 size,.bool big,.int .i64 mn,.int .i64 mx,.int .i64 stop,.int .i64 count,.int .i64 elem,.slice An names.length cn,.slice Ap parts.length cp]:List Value).toArray,.int .i64 (b:Int)] W (QU W (Kc ⟨name,9,bs,size,big,mn,mx,stop,count,elem,names,parts⟩ (b:Int))):=by
 go_enter Tryz.func76,Tryz.ntmps76;refine Qz (M:=[]) (W:=W) (N:=97) (E:=[(0,.agg (QuO:List Value).toArray),Q3M]) (O:=[]) ?_ mc3 QR;refine yq<|yr ?_;refine yB fun b2=>?_;refine yo zA<|yl<|yn<|yq<|yq<|yr<|yo zF<|yo (zB 0)<|yo zef<|yl<|yn<|y0<|ys<|yn<|yq<|yq<|yr<|yo zF<|yo (zB 0)<|yo zef<|yo zM<|yo zS<|yo zS<|yo zN<|yl<|yn<|y0<|ys<|yn<|yq<|yq<|yr<|yo zF<|yo (zB 0)<|yo zef<|yl<|yn<|y0<|ys<|yn<|yq<|yq<|yr<|yo zF<|yo (zB 0)<|yo zef<|yl<|yn<|y0<|ys<|yn<|yq<|yq<|yr<|yo zF<|yo (zB 0)<|yo zef<|yl<|yn<|y0<|ys<|yn<|yq<|yq<|yr<|yo zF<|yo (zB 0)<|yo zet<|yl<|yn<|y1<|yq<|yr<|yo zM<|yo zF<|yo (zB 0)<|yo zer<|yo zA<|yl<|yn<|yt<|yc ?_;exact Q4A
theorem QvD:
  Calls Tryz.prog 76 #[.agg ([.string ⟨name.toArray⟩,.int .i64 4,.slice Ab bs.length cb,.int .i64 size,.bool big,.int .i64 mn,.int .i64 mx,.int .i64 stop,.int .i64 count,.int .i64 elem,.slice An names.length cn,.slice Ap parts.length cp]:List Value).toArray,.int .i64 (b:Int)] W (QU W (Kc ⟨name,4,bs,size,big,mn,mx,stop,count,elem,names,parts⟩ (b:Int))):=by
 go_enter Tryz.func76,Tryz.ntmps76;refine Qz (M:=[]) (W:=W) (N:=97) (E:=[(0,.agg ([.string Q0u,.int .i64 4,.slice Ab bs.length cb,.int .i64 size,.bool big,.int .i64 mn,.int .i64 mx,.int .i64 stop,.int .i64 count,.int .i64 elem,.slice An names.length cn,.slice Ap parts.length cp]:List Value).toArray),Q3M]) (O:=[]) ?_ mc3 QR;refine yq<|yr ?_;refine yB fun b2=>?_;refine yo zA<|yl<|yn<|yq<|yq<|yr<|yo zF<|yo (zB 0)<|yo zef<|yl<|yn<|y0<|ys<|yn<|yq<|yq<|yr<|yo zF<|yo (zB 0)<|yo zef<|yo zM<|yo zS<|yo zS<|yo zN<|yl<|yn<|y0<|ys<|yn<|yq<|yq<|yr<|yo zF<|yo (zB 0)<|yo zef<|yl<|yn<|y0<|ys<|yn<|yq<|yq<|yr<|yo zF<|yo (zB 0)<|yo zef<|yl<|yn<|y0<|ys<|yn<|yq<|yq<|yr<|yo zF<|yo (zB 0)<|yo zef<|yl<|yn<|y0<|ys<|yn<|yq<|yq<|yr<|yo zF<|yo (zB 0)<|yo zef<|yl<|yn<|y0<|ys<|yn<|yq<|yr<|yo zF<|yo (zB 0)<|yo zet<|yo zA<|yl<|yn<|yt ?_;exact Q4A
theorem QvC:
  Calls Tryz.prog 76 #[.agg ([.string ⟨name.toArray⟩,.int .i64 6,.slice Ab bs.length cb,.int .i64 size,.bool big,.int .i64 mn,.int .i64 mx,.int .i64 stop,.int .i64 count,.int .i64 elem,.slice An names.length cn,.slice Ap parts.length cp]:List Value).toArray,.int .i64 (b:Int)] W (QU W (Kc ⟨name,6,bs,size,big,mn,mx,stop,count,elem,names,parts⟩ (b:Int))):=by
 go_enter Tryz.func76,Tryz.ntmps76;refine Qz (M:=[]) (W:=W) (N:=97) (E:=[(0,.agg (QuB:List Value).toArray),Q3M]) (O:=[]) ?_ mc3 QR;refine yq<|yr ?_;refine yB fun b2=>?_;refine Qpq ?_;exact Q4A
theorem QvS:
  Calls Tryz.prog 76 #[.agg ([.string ⟨name.toArray⟩,.int .i64 7,.slice Ab bs.length cb,.int .i64 size,.bool big,.int .i64 mn,.int .i64 mx,.int .i64 stop,.int .i64 count,.int .i64 elem,.slice An names.length cn,.slice Ap parts.length cp]:List Value).toArray,.int .i64 (b:Int)] W (QU W (Kc ⟨name,7,bs,size,big,mn,mx,stop,count,elem,names,parts⟩ (b:Int))):=by
 go_enter Tryz.func76,Tryz.ntmps76;refine Qz (M:=[]) (W:=W) (N:=97) (E:=[(0,.agg (Q7Z:List Value).toArray),Q3M]) (O:=[]) ?_ mc3 QR;refine yq<|yr ?_;refine yB fun b2=>?_;refine Qpq ?_;exact Q4A
theorem QvX:
  Calls Tryz.prog 76 #[.agg ([.string ⟨name.toArray⟩,.int .i64 8,.slice Ab bs.length cb,.int .i64 size,.bool big,.int .i64 mn,.int .i64 mx,.int .i64 stop,.int .i64 count,.int .i64 elem,.slice An names.length cn,.slice Ap parts.length cp]:List Value).toArray,.int .i64 (b:Int)] W (QU W (Kc ⟨name,8,bs,size,big,mn,mx,stop,count,elem,names,parts⟩ (b:Int))):=by
 go_enter Tryz.func76,Tryz.ntmps76;refine Qz (M:=[]) (W:=W) (N:=97) (E:=[(0,.agg (Qr8:List Value).toArray),Q3M]) (O:=[]) ?_ mc3 QR;refine yq<|yr ?_;refine yB fun b2=>?_;refine Qpq ?_;exact Q4A
theorem QuK:
  Calls Tryz.prog 76 #[.agg ([.string ⟨name.toArray⟩,.int .i64 10,.slice Ab bs.length cb,.int .i64 size,.bool big,.int .i64 mn,.int .i64 mx,.int .i64 stop,.int .i64 count,.int .i64 elem,.slice An names.length cn,.slice Ap parts.length cp]:List Value).toArray,.int .i64 (b:Int)] W (QU W (Kc ⟨name,10,bs,size,big,mn,mx,stop,count,elem,names,parts⟩ (b:Int))):=by
 go_enter Tryz.func76,Tryz.ntmps76;refine Qz (M:=[]) (W:=W) (N:=97) (E:=[(0,.agg (QoI:List Value).toArray),Q3M]) (O:=[]) ?_ mc3 QR;refine yq<|yr ?_;refine yB fun b2=>?_;refine Qpq ?_;exact Q4A
theorem Qv0(hb:b<256)(hm:0<=mn/\mn<=4294967295)(hx:mx<=4294967295)(hbig:big=false):
  Calls Tryz.prog 76 #[.agg ([.string ⟨name.toArray⟩,.int .i64 2,.slice Ab bs.length cb,.int .i64 size,.bool big,.int .i64 mn,.int .i64 mx,.int .i64 stop,.int .i64 count,.int .i64 elem,.slice An names.length cn,.slice Ap parts.length cp]:List Value).toArray,.int .i64 (b:Int)] W (QU W (Kc ⟨name,2,bs,size,big,mn,mx,stop,count,elem,names,parts⟩ (b:Int))):=by
 go_enter Tryz.func76,Tryz.ntmps76;refine Qz (M:=[]) (W:=W) (N:=97) (E:=[(0,.agg ([.string ⟨name.toArray⟩,.int .i64 2,.slice Ab bs.length cb,.int .i64 size,.bool big,.int .i64 mn,.int .i64 mx,.int .i64 stop,.int .i64 count,.int .i64 elem,.slice An names.length cn,.slice Ap parts.length cp]:List Value).toArray),(1,.int .i64 (b:Int))]) (O:=[]) ?_ mc3 (Wd.start [] W);subst hbig;have hm1:0<=mn/\mn<=9223372036854775807:=by omega
 have hrm:=Int.emod_nonneg mn (show (256:Int)≠0 by decide);have hrm2:=Int.emod_lt_of_pos mn (show (0:Int)<256 by decide);by_cases h1:mn - mn % 256+(b:Int)<mn
 ·refine yq<|yr ?_;refine yB fun b2=>?_;refine Qr7 ?_;refine yo zQ<|yo zM<|yo zP<|yo zA<|yl<|yn<|yq<|yq<|yr<|yo zM<|yo zF<|yo (zB 0)<|yo zlt<|yl<|yn<|y1<|yr<|yo zM<|yo zP<|yo zA<|yl<|yn<|yq<|yr<|yo zM<|yo zF<|yo (zB 0)<|yo zqr<|yo zA<|yl<|yn<|yt<|yc ?_;exact Q7 mc4 rfl (.tmp rfl) (fun w hw=>QN (by show _=decide ((if mn - mn % 256+(b:Int)<mn then _ else _)<=mx);rw[if_pos h1]) hw)
 ·refine yq<|yr ?_;refine yB fun b2=>?_;refine Qr7 ?_;refine yo zQ<|yo zM<|yo zP<|yo zA<|yl<|yn<|yq<|yq<|yr<|yo zM<|yo zF<|yo (zB 0)<|yo zlf<|yl<|yn<|y0<|ys<|yn<|yq<|yr<|yo zM<|yo zF<|yo (zB 0)<|yo zqr<|yo zA<|yl<|yn<|yt<|yc ?_;exact Q7 mc4 rfl (.tmp rfl) (fun w hw=>QN (by show _=decide ((if mn - mn % 256+(b:Int)<mn then _ else _)<=mx);rw[if_neg h1]) hw)
theorem Qtp(hm:0<=mn/\mn<=4294967295)(hx:0<=mx/\mx<=4294967295)(hbig:big=true)(hz:size=1):
  Calls Tryz.prog 76 #[.agg ([.string ⟨name.toArray⟩,.int .i64 2,.slice Ab bs.length cb,.int .i64 size,.bool big,.int .i64 mn,.int .i64 mx,.int .i64 stop,.int .i64 count,.int .i64 elem,.slice An names.length cn,.slice Ap parts.length cp]:List Value).toArray,.int .i64 (b:Int)] W (QU W (Kc ⟨name,2,bs,size,big,mn,mx,stop,count,elem,names,parts⟩ (b:Int))):=by
 go_enter Tryz.func76,Tryz.ntmps76;refine Qz (M:=[]) (W:=W) (N:=97) (E:=Qpy) (O:=[]) ?_ mc3 QR;subst hbig hz;have hm1:0<=mn/\mn<=9223372036854775807:=by omega
 have hm2:0<=mx/\mx<=9223372036854775807:=by omega
 by_cases h1:mn / 1<=(b:Int)
 ·refine yq<|yr ?_;refine yB fun b2=>?_;refine Qsr ?_;refine Qhq ?_;refine Q4 (KC (n:=1) hm2 Q1 rfl rfl Q1 rfl rfl rfl) ?_;refine QaC ?_;exact Q7 mc4 rfl (.tmp rfl) (fun w hw=>QN (by show _=(decide (mn / 1<=(b:Int))&&decide ((b:Int)<=mx / 1));rw[decide_eq_true h1,Bool.true_and]) hw)
 ·refine yq<|yr ?_;refine yB fun b2=>?_;refine Qsr ?_;refine QfZ ?_;exact Q7 mc4 rfl (.tmp rfl) (fun w hw=>QN (by show _=(decide (mn / 1<=(b:Int))&&decide ((b:Int)<=mx / 1));rw[decide_eq_false h1];rfl) hw)
theorem QtK(hm:0<=mn/\mn<=4294967295)(hx:0<=mx/\mx<=4294967295)(hbig:big=true)(hz:size=2):
  Calls Tryz.prog 76 #[.agg ([.string ⟨name.toArray⟩,.int .i64 2,.slice Ab bs.length cb,.int .i64 size,.bool big,.int .i64 mn,.int .i64 mx,.int .i64 stop,.int .i64 count,.int .i64 elem,.slice An names.length cn,.slice Ap parts.length cp]:List Value).toArray,.int .i64 (b:Int)] W (QU W (Kc ⟨name,2,bs,size,big,mn,mx,stop,count,elem,names,parts⟩ (b:Int))):=by
 go_enter Tryz.func76,Tryz.ntmps76;refine Qz (M:=[]) (W:=W) (N:=97) (E:=Qpy) (O:=[]) ?_ mc3 QR;subst hbig hz;have hm1:0<=mn/\mn<=9223372036854775807:=by omega
 have hm2:0<=mx/\mx<=9223372036854775807:=by omega
 by_cases h1:mn / 256<=(b:Int)
 ·refine yq<|yr ?_;refine yB fun b2=>?_;refine QsO ?_;refine Qhq ?_;refine Q4 (KC (n:=256) hm2 Q1 rfl rfl Q1 rfl rfl rfl) ?_;refine QaC ?_;exact Q7 mc4 rfl (.tmp rfl) (fun w hw=>QN (by show _=(decide (mn / 256<=(b:Int))&&decide ((b:Int)<=mx / 256));rw[decide_eq_true h1,Bool.true_and]) hw)
 ·refine yq<|yr ?_;refine yB fun b2=>?_;refine QsO ?_;refine QfZ ?_;exact Q7 mc4 rfl (.tmp rfl) (fun w hw=>QN (by show _=(decide (mn / 256<=(b:Int))&&decide ((b:Int)<=mx / 256));rw[decide_eq_false h1];rfl) hw)
theorem Qu6(hm:0<=mn/\mn<=4294967295)(hx:0<=mx/\mx<=4294967295)(hbig:big=true)(hz:size=3):
  Calls Tryz.prog 76 #[.agg ([.string ⟨name.toArray⟩,.int .i64 2,.slice Ab bs.length cb,.int .i64 size,.bool big,.int .i64 mn,.int .i64 mx,.int .i64 stop,.int .i64 count,.int .i64 elem,.slice An names.length cn,.slice Ap parts.length cp]:List Value).toArray,.int .i64 (b:Int)] W (QU W (Kc ⟨name,2,bs,size,big,mn,mx,stop,count,elem,names,parts⟩ (b:Int))):=by
 go_enter Tryz.func76,Tryz.ntmps76;refine Qz (M:=[]) (W:=W) (N:=97) (E:=Qpy) (O:=[]) ?_ mc3 QR;subst hbig hz;have hm1:0<=mn/\mn<=9223372036854775807:=by omega
 have hm2:0<=mx/\mx<=9223372036854775807:=by omega
 by_cases h1:mn / 65536<=(b:Int)
 ·refine yq<|yr ?_;refine yB fun b2=>?_;refine Qrl ?_;refine Qhq ?_;refine Q4 (KC (n:=65536) hm2 Q1 rfl rfl Q1 rfl rfl rfl) ?_;refine QaC ?_;exact Q7 mc4 rfl (.tmp rfl) (fun w hw=>QN (by show _=(decide (mn / 65536<=(b:Int))&&decide ((b:Int)<=mx / 65536));rw[decide_eq_true h1,Bool.true_and]) hw)
 ·refine yq<|yr ?_;refine yB fun b2=>?_;refine Qrl ?_;refine QfZ ?_;exact Q7 mc4 rfl (.tmp rfl) (fun w hw=>QN (by show _=(decide (mn / 65536<=(b:Int))&&decide ((b:Int)<=mx / 65536));rw[decide_eq_false h1];rfl) hw)
theorem Qun(hm:0<=mn/\mn<=4294967295)(hx:0<=mx/\mx<=4294967295)(hbig:big=true)(hz:size=4):
  Calls Tryz.prog 76 #[.agg ([.string ⟨name.toArray⟩,.int .i64 2,.slice Ab bs.length cb,.int .i64 size,.bool big,.int .i64 mn,.int .i64 mx,.int .i64 stop,.int .i64 count,.int .i64 elem,.slice An names.length cn,.slice Ap parts.length cp]:List Value).toArray,.int .i64 (b:Int)] W (QU W (Kc ⟨name,2,bs,size,big,mn,mx,stop,count,elem,names,parts⟩ (b:Int))):=by
 go_enter Tryz.func76,Tryz.ntmps76;refine Qz (M:=[]) (W:=W) (N:=97) (E:=Qpy) (O:=[]) ?_ mc3 QR;subst hbig hz;have hm1:0<=mn/\mn<=9223372036854775807:=by omega
 have hm2:0<=mx/\mx<=9223372036854775807:=by omega
 by_cases h1:mn / 16777216<=(b:Int)
 ·refine yq<|yr ?_;refine yB fun b2=>?_;refine QqW ?_;refine Qhq ?_;refine Q4 (KC (n:=16777216) hm2 Q1 rfl rfl Q1 rfl rfl rfl) ?_;refine QaC ?_;exact Q7 mc4 rfl (.tmp rfl) (fun w hw=>QN (by show _=(decide (mn / 16777216<=(b:Int))&&decide ((b:Int)<=mx / 16777216));rw[decide_eq_true h1,Bool.true_and]) hw)
 ·refine yq<|yr ?_;refine yB fun b2=>?_;refine QqW ?_;refine QfZ ?_;exact Q7 mc4 rfl (.tmp rfl) (fun w hw=>QN (by show _=(decide (mn / 16777216<=(b:Int))&&decide ((b:Int)<=mx / 16777216));rw[decide_eq_false h1];rfl) hw)
theorem QvN{x:UInt8}{t:List UInt8}{bp op:Nat}(hc0:W.cell? ⟨bp,op+0,none⟩=some (.int .u8 (x.toNat:Int))):
  Calls Tryz.prog 76 #[.agg ([.string ⟨name.toArray⟩,.int .i64 1,.slice (some ⟨bp,op,none⟩) (x::t).length cb,.int .i64 size,.bool big,.int .i64 mn,.int .i64 mx,.int .i64 stop,.int .i64 count,.int .i64 elem,.slice An names.length cn,.slice Ap parts.length cp]:List Value).toArray,.int .i64 (b:Int)] W (QU W (Kc ⟨name,1,x::t,size,big,mn,mx,stop,count,elem,names,parts⟩ (b:Int))):=by
 have hxw:=IntWalk.i64_in (x.toNat:Int) (by have:=x.toNat_lt;omega);have h0p:0<(x::t).length:=by simp
 go_enter Tryz.func76,Tryz.ntmps76;refine Qz (M:=[]) (W:=W) (N:=97) (E:=[(0,.agg ([.string Q0u,.int .i64 1,.slice QjF (x::t).length cb,.int .i64 size,.bool big,.int .i64 mn,.int .i64 mx,.int .i64 stop,.int .i64 count,.int .i64 elem,.slice An names.length cn,.slice Ap parts.length cp]:List Value).toArray),Q3M]) (O:=[]) ?_ mc3 QR;refine yq<|yr ?_;refine yB fun b2=>?_;refine yo zA<|yl<|yn<|yq<|yq<|yr<|yo zF<|yo (zB 0)<|yo zet<|yl<|yn<|y1<|yq<|yr<|yo zF<|yo (zB 0)<|yo (zi1 (j:=0) (hj:=h0p))<|yo (zG hc0) ?_;refine Q4 (Q4n rfl rfl Q1 rfl rfl (by rw[Tryz.underlying5];rfl) Tryz.underlying3 hxw) ?_;refine yo zM<|yo zer<|yo zA<|yl<|yn<|yt<|yc ?_;exact Q4A
theorem Q83{r:Rl}(hl:RuL W r Ab cb An cn Ap cp)(hr:ROk n r)(hb:b<256):
  Calls Tryz.prog 76 #[.agg (ruC r (.slice Ab r.bs.length cb) (.slice An r.names.length cn) (.slice Ap r.parts.length cp)).toArray,.int .i64 (b:Int)] W (QU W (Kc r (b:Int))):=by
 have hk:=hr.kind;have h1:=hr.bs1;have h2:=hr.num;have hbs:=hl.b;obtain⟨name,kind,bs,size,big,mn,mx,stop,count,elem,names,parts⟩:=r;simp only at hk h1 h2 hbs;clear hl hr;rcases (show kind=1\/kind=2\/kind=3\/kind=4\/kind=5\/kind=6\/kind=7\/kind=8\/kind=9\/kind=10 by omega) with rfl|rfl|rfl|rfl|rfl|rfl|rfl|rfl|rfl|rfl
 ·have h0p:=h1 rfl;obtain⟨bp,op,rfl,_,hcell⟩:=hbs.2 h0p
  obtain⟨x,t,rfl⟩:∃x t,bs=x::t:=by
   cases bs with
   |nil=>cases h0p
   |cons x t=>exact⟨x,t,rfl⟩
  exact QvN (hcell 0 _ rfl)
 ·obtain⟨a1,a2,a3,a4,a5⟩:=h2 rfl
  have h24:(256:Int) ^ size.toNat<=4294967296:=by
   rcases (show size=1\/size=2\/size=3\/size=4 by omega) with rfl|rfl|rfl|rfl<;>decide
  have b5:mx<=4294967295:=by omega
  have c1:0<=mn/\mn<=4294967295:=by omega
  have c2:0<=mx/\mx<=4294967295:=by omega
  clear a5 h24;cases big with
  |true=>
   rcases (show size=1\/size=2\/size=3\/size=4 by omega) with rfl|rfl|rfl|rfl
   ·exact Qtp c1 c2 rfl rfl
   ·exact QtK c1 c2 rfl rfl
   ·exact Qu6 c1 c2 rfl rfl
   ·exact Qun c1 c2 rfl rfl
  |false=>exact Qv0 hb c1 c2.2 rfl
 ·exact QvZ hb
 ·exact QvD
 ·exact QvW
 ·exact QvC
 ·exact QvS
 ·exact QvX
 ·exact QvR
 ·exact QuK
end
end
end Go.Proofs.YtphkhfdmlcnoeaaGreatDoor
