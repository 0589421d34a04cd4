import Derived.Test.YtphkhfdmlcnoeaaGreatDoorP14
import Derived.Lib.ItoaLen
namespace Go.Proofs.YtphkhfdmlcnoeaaGreatDoor
set_option linter.unusedVariables false
set_option linter.unusedSimpArgs false
set_option maxRecDepth 1000000
set_option maxHeartbeats 32000000
open Go.RowKit
section
variable {A Ab An Ap:Option Addr}{W:World}{c cb cn cp m n:Nat}{early:List Rl}{r:Rl}
theorem QbP(he:QX W W.heap.size A m early)(hl:RuL W r Ab cb An cn Ap cp)(hs:RSm r)(hm:m<=1048576)(hn:n<=1048576)(hk1:(r.kind==1)=true)(hk7:(r.kind==7)=false)(hk8:(r.kind==8)=false):
  Calls Tryz.prog 115 #[.agg (ruC r (.slice Ab r.bs.length cb) (.slice An r.names.length cn) (.slice Ap r.parts.length cp)).toArray,.slice A m c,.int .i64 (n:Int)] W (Jj W (Xr r early n)):=by
 have HE:=Q2 he;have HL:=Q2 hl;have HS:=Q2 hs;have hnm:(⟨r.name.toArray⟩:ByteArray).size<=9223372036854775807:=by
  exact Qh3
 obtain⟨C,hC⟩:∃C,Xr r early n=C:=⟨_,rfl⟩;have HC:=Q2 hC;rw[hC];clear hC he hl hs;go_enter Tryz.func115,Tryz.ntmps115;refine Qs (M:=[]) (W:=W) (N:=84) (E:=Qh0) (O:=[]) ?_ Z0 QV;repeat(first|refine Q4 zA ?_|refine Q4 zF ?_|refine Q4 (zB 0) ?_|refine yB fun br=>?_|refine Q4 Qgk ?_|refine Qe ?_|refine Qa ?_|refine Q6 ?_|refine Qh ?_|refine Q4 zO ?_)
 refine X0 rfl (fun h1=>?_) (fun h1=>?_)
 ·skip
  refine mc7 ?_
  refine Q7 (.inr rfl) rfl (.tmp rfl) (fun w hw=>Qo ?_ hw);exact Qi5
 refine Qhb ?_
 refine X0 rfl (fun h2=>?_) (fun h2=>?_)
 ·skip
  refine mc7 ?_
  refine Q7 (.inr rfl) rfl (.tmp rfl) (fun w hw=>Qo ?_ hw);exact Qgt
 refine QgA ?_
 refine X0 rfl (fun h3=>?_) (fun h3=>?_)
 ·skip
  refine mc7 ?_
  refine Q7 (.inr rfl) rfl (.tmp rfl) (fun w hw=>Qo ?_ hw);exact Qhe
 refine QhJ ?_
 refine X0 rfl (fun h4=>?_) (fun h4=>?_)
 ·skip
  refine mc7 ?_
  refine Q7 (.inr rfl) rfl (.tmp rfl) (fun w hw=>Qo ?_ hw);exact Qhj
 refine Qsw ?_
 refine X0 rfl (fun h5=>?_) (fun h5=>?_)
 ·skip
  refine mc7 ?_
  refine Q7 (.inr rfl) rfl (.tmp rfl) (fun w hw=>Qo ?_ hw);rw[<- HC.out];simp [Xr,hk1,hk7,hk8,h1,h2,h3,h4,h5]
 refine QsE ?_
 refine X0 rfl (fun h6=>?_) (fun h6=>?_)
 ·skip
  refine mc7 ?_
  refine Q7 (.inr rfl) rfl (.tmp rfl) (fun w hw=>Qo ?_ hw);rw[<- HC.out];simp [Xr,hk1,hk7,hk8,h1,h2,h3,h4,h5,h6]
 refine Qt4 ?_
 refine X0 rfl (fun h10=>?_) (fun h10=>?_)
 ·skip
  refine mc7 ?_
  refine Q7 (.inr rfl) rfl (.tmp rfl) (fun w hw=>Qo ?_ hw);rw[<- HC.out];simp [Xr,hk1,hk7,hk8,h1,h2,h3,h4,h5,h6,h10]
 refine Qhx ?_
 refine X0 rfl (fun h11=>?_) (fun h11=>?_)
 ·skip
  refine mc7 ?_
  refine Q7 (.inr rfl) rfl (.tmp rfl) (fun w hw=>Qo ?_ hw);exact Qp7
 refine Qht ?_
 refine Q7 (.inr rfl) rfl (.tmp rfl) (fun w hw=>Qo ?_ hw);exact Qp7
theorem QdO(he:QX W W.heap.size A m early)(hl:RuL W r Ab cb An cn Ap cp)(hs:RSm r)(hm:m<=1048576)(hn:n<=1048576)(hk1:(r.kind==1)=false)(hk7:(r.kind==7)=true)(hk8:(r.kind==8)=false):
  Calls Tryz.prog 115 #[.agg (ruC r (.slice Ab r.bs.length cb) (.slice An r.names.length cn) (.slice Ap r.parts.length cp)).toArray,.slice A m c,.int .i64 (n:Int)] W (Jj W (Xr r early n)):=by
 have HE:=Q2 he;have HL:=Q2 hl;have HS:=Q2 hs;have hnm:(⟨r.name.toArray⟩:ByteArray).size<=9223372036854775807:=by
  exact Qh3
 obtain⟨C,hC⟩:∃C,Xr r early n=C:=⟨_,rfl⟩;have HC:=Q2 hC;rw[hC];clear hC he hl hs;go_enter Tryz.func115,Tryz.ntmps115;refine Qs (M:=[]) (W:=W) (N:=84) (E:=Qh0) (O:=[]) ?_ Z0 QV;repeat(first|refine Q4 zA ?_|refine Q4 zF ?_|refine Q4 (zB 0) ?_|refine yB fun br=>?_|refine Q4 Qgk ?_|refine Qe ?_|refine Qa ?_|refine Q6 ?_|refine Qh ?_|refine Q4 zO ?_)
 refine X0 rfl (fun h1=>?_) (fun h1=>?_)
 ·skip
  refine mc7 ?_
  refine Q7 (.inr rfl) rfl (.tmp rfl) (fun w hw=>Qo ?_ hw);exact Qi5
 refine Qhb ?_
 refine X0 rfl (fun h2=>?_) (fun h2=>?_)
 ·skip
  refine mc7 ?_
  refine Q7 (.inr rfl) rfl (.tmp rfl) (fun w hw=>Qo ?_ hw);exact Qgt
 refine QgA ?_
 refine X0 rfl (fun h3=>?_) (fun h3=>?_)
 ·skip
  refine mc7 ?_
  refine Q7 (.inr rfl) rfl (.tmp rfl) (fun w hw=>Qo ?_ hw);exact Qhe
 refine QhJ ?_
 refine X0 rfl (fun h4=>?_) (fun h4=>?_)
 ·skip
  refine mc7 ?_
  refine Q7 (.inr rfl) rfl (.tmp rfl) (fun w hw=>Qo ?_ hw);exact Qhj
 refine QkW ?_
 refine X0 rfl (fun h6=>?_) (fun h6=>?_)
 ·skip
  refine mc7 ?_
  refine Q7 (.inr rfl) rfl (.tmp rfl) (fun w hw=>Qo ?_ hw);exact Qoy
 repeat(first|refine Q4 zM ?_|refine Q4 zA ?_|refine Q4 zF ?_|refine Q4 (zB 0) ?_|refine Qe ?_|refine Qa ?_|refine Q6 ?_|refine Q4 zL ?_|refine Q4 zea ?_|refine Q4 znr ?_|refine Q4 zY ?_)
 refine X0 rfl (fun h7=>?_) (fun h7=>?_)
 ·skip
  refine mc7 ?_
  refine Q7 (.inr rfl) rfl (.tmp rfl) (fun w hw=>Qo ?_ hw);rw[<- HC.out];simp [Xr,hk1,hk7,hk8,h1,h2,h3,h4,h6,h7]
 refine Qsw ?_
 refine X0 rfl (fun h8=>?_) (fun h8=>?_)
 ·rw[h8]
  repeat(first|refine Q4 zA ?_|refine Qe ?_|refine Qa ?_|refine Q6 ?_|refine Qq ?_|refine Q9 rfl ?_|refine QB ?_|refine Qm ?_|refine Qu ?_)
  refine Q7 (.inr rfl) rfl (.tmp rfl) (fun w hw=>Qo ?_ hw);rw[<- HC.out];simp [Xr,hk1,hk7,hk8,h1,h2,h3,h4,h6,h7,h8]
 refine Qt4 ?_
 refine X0 rfl (fun h10=>?_) (fun h10=>?_)
 ·skip
  refine mc7 ?_
  refine Q7 (.inr rfl) rfl (.tmp rfl) (fun w hw=>Qo ?_ hw);rw[<- HC.out];simp [Xr,hk1,hk7,hk8,h1,h2,h3,h4,h6,h7,h8,h10]
 refine Qhx ?_
 refine X0 rfl (fun h11=>?_) (fun h11=>?_)
 ·skip
  refine mc7 ?_
  refine Q7 (.inr rfl) rfl (.tmp rfl) (fun w hw=>Qo ?_ hw);exact Qmp
 refine Qht ?_
 refine Q7 (.inr rfl) rfl (.tmp rfl) (fun w hw=>Qo ?_ hw);exact Qmp
theorem QdY(he:QX W W.heap.size A m early)(hl:RuL W r Ab cb An cn Ap cp)(hs:RSm r)(hm:m<=1048576)(hn:n<=1048576)(hk1:(r.kind==1)=false)(hk7:(r.kind==7)=false)(hk8:(r.kind==8)=true):
  Calls Tryz.prog 115 #[.agg (ruC r (.slice Ab r.bs.length cb) (.slice An r.names.length cn) (.slice Ap r.parts.length cp)).toArray,.slice A m c,.int .i64 (n:Int)] W (Jj W (Xr r early n)):=by
 have HE:=Q2 he;have HL:=Q2 hl;have HS:=Q2 hs;have hnm:(⟨r.name.toArray⟩:ByteArray).size<=9223372036854775807:=by
  exact Qh3
 obtain⟨C,hC⟩:∃C,Xr r early n=C:=⟨_,rfl⟩;have HC:=Q2 hC;rw[hC];clear hC he hl hs;go_enter Tryz.func115,Tryz.ntmps115;refine Qs (M:=[]) (W:=W) (N:=84) (E:=Qh0) (O:=[]) ?_ Z0 QV;repeat(first|refine Q4 zA ?_|refine Q4 zF ?_|refine Q4 (zB 0) ?_|refine yB fun br=>?_|refine Q4 Qgk ?_|refine Qe ?_|refine Qa ?_|refine Q6 ?_|refine Qh ?_|refine Q4 zO ?_)
 refine X0 rfl (fun h1=>?_) (fun h1=>?_)
 ·skip
  refine mc7 ?_
  refine Q7 (.inr rfl) rfl (.tmp rfl) (fun w hw=>Qo ?_ hw);exact Qi5
 refine Qhb ?_
 refine X0 rfl (fun h2=>?_) (fun h2=>?_)
 ·skip
  refine mc7 ?_
  refine Q7 (.inr rfl) rfl (.tmp rfl) (fun w hw=>Qo ?_ hw);exact Qgt
 refine QgA ?_
 refine X0 rfl (fun h3=>?_) (fun h3=>?_)
 ·skip
  refine mc7 ?_
  refine Q7 (.inr rfl) rfl (.tmp rfl) (fun w hw=>Qo ?_ hw);exact Qhe
 refine QhJ ?_
 refine X0 rfl (fun h4=>?_) (fun h4=>?_)
 ·skip
  refine mc7 ?_
  refine Q7 (.inr rfl) rfl (.tmp rfl) (fun w hw=>Qo ?_ hw);exact Qhj
 refine QkW ?_
 refine X0 rfl (fun h6=>?_) (fun h6=>?_)
 ·skip
  refine mc7 ?_
  refine Q7 (.inr rfl) rfl (.tmp rfl) (fun w hw=>Qo ?_ hw);exact Qoy
 repeat(first|refine Q4 zM ?_|refine Q4 zA ?_|refine Q4 zF ?_|refine Q4 (zB 0) ?_|refine Qe ?_|refine Qa ?_|refine Q6 ?_|refine Q8 rfl ?_|refine Q4 zL ?_|refine Q4 Q3r ?_|refine Q4 (KK rfl rfl Q1 rfl rfl rfl (by first|assumption|rfl)) ?_|refine Q4 zY ?_|refine Q4 zN ?_|refine Q4 zS ?_)
 refine X0 rfl (fun h9=>?_) (fun h9=>?_)
 ·rw[h9]
  refine mc7 ?_
  refine Q7 (.inr rfl) rfl (.tmp rfl) (fun w hw=>Qo ?_ hw);rw[<- HC.out];simp [Xr,hk1,hk7,hk8,h1,h2,h3,h4,h6,h9]
 refine QsE ?_
 refine X0 rfl (fun h10=>?_) (fun h10=>?_)
 ·skip
  refine mc7 ?_
  refine Q7 (.inr rfl) rfl (.tmp rfl) (fun w hw=>Qo ?_ hw);rw[<- HC.out];simp [Xr,hk1,hk7,hk8,h1,h2,h3,h4,h6,h9,h10]
 refine Qhx ?_
 refine X0 rfl (fun h11=>?_) (fun h11=>?_)
 ·skip
  refine mc7 ?_
  refine Q7 (.inr rfl) rfl (.tmp rfl) (fun w hw=>Qo ?_ hw);exact QkM
 refine Qht ?_
 refine Q7 (.inr rfl) rfl (.tmp rfl) (fun w hw=>Qo ?_ hw);exact QkM
theorem QdS(he:QX W W.heap.size A m early)(hl:RuL W r Ab cb An cn Ap cp)(hs:RSm r)(hm:m<=1048576)(hn:n<=1048576)(hk1:(r.kind==1)=false)(hk7:(r.kind==7)=false)(hk8:(r.kind==8)=false):
  Calls Tryz.prog 115 #[.agg (ruC r (.slice Ab r.bs.length cb) (.slice An r.names.length cn) (.slice Ap r.parts.length cp)).toArray,.slice A m c,.int .i64 (n:Int)] W (Jj W (Xr r early n)):=by
 have HE:=Q2 he;have HL:=Q2 hl;have HS:=Q2 hs;have hnm:(⟨r.name.toArray⟩:ByteArray).size<=9223372036854775807:=by
  exact Qh3
 obtain⟨C,hC⟩:∃C,Xr r early n=C:=⟨_,rfl⟩;have HC:=Q2 hC;rw[hC];clear hC he hl hs;go_enter Tryz.func115,Tryz.ntmps115;refine Qs (M:=[]) (W:=W) (N:=84) (E:=Qh0) (O:=[]) ?_ Z0 QV;repeat(first|refine Q4 zA ?_|refine Q4 zF ?_|refine Q4 (zB 0) ?_|refine yB fun br=>?_|refine Q4 Qgk ?_|refine Qe ?_|refine Qa ?_|refine Q6 ?_|refine Qh ?_|refine Q4 zO ?_)
 refine X0 rfl (fun h1=>?_) (fun h1=>?_)
 ·skip
  refine mc7 ?_
  refine Q7 (.inr rfl) rfl (.tmp rfl) (fun w hw=>Qo ?_ hw);exact Qi5
 refine Qhb ?_
 refine X0 rfl (fun h2=>?_) (fun h2=>?_)
 ·skip
  refine mc7 ?_
  refine Q7 (.inr rfl) rfl (.tmp rfl) (fun w hw=>Qo ?_ hw);exact Qgt
 refine QgA ?_
 refine X0 rfl (fun h3=>?_) (fun h3=>?_)
 ·skip
  refine mc7 ?_
  refine Q7 (.inr rfl) rfl (.tmp rfl) (fun w hw=>Qo ?_ hw);exact Qhe
 refine QhJ ?_
 refine X0 rfl (fun h4=>?_) (fun h4=>?_)
 ·skip
  refine mc7 ?_
  refine Q7 (.inr rfl) rfl (.tmp rfl) (fun w hw=>Qo ?_ hw);exact Qhj
 refine QkW ?_
 refine X0 rfl (fun h6=>?_) (fun h6=>?_)
 ·skip
  refine mc7 ?_
  refine Q7 (.inr rfl) rfl (.tmp rfl) (fun w hw=>Qo ?_ hw);exact Qoy
 repeat(first|refine Q4 zM ?_|refine Q4 zA ?_|refine Q4 zF ?_|refine Q4 (zB 0) ?_|refine Qe ?_|refine Qa ?_|refine Q6 ?_|refine Q8 rfl ?_|refine Q4 zL ?_|refine Q4 Q3r ?_|refine Q4 (YY rfl rfl Q1 rfl rfl rfl (by first|assumption|rfl)) ?_|refine Q4 zN ?_|refine Q4 zS ?_)
 refine X0 rfl (fun h10=>?_) (fun h10=>?_)
 ·skip
  refine mc7 ?_
  refine Q7 (.inr rfl) rfl (.tmp rfl) (fun w hw=>Qo ?_ hw);rw[<- HC.out];simp [Xr,hk1,hk7,hk8,h1,h2,h3,h4,h6,h10]
 refine Qhx ?_
 refine X0 rfl (fun h11=>?_) (fun h11=>?_)
 ·skip
  refine mc7 ?_
  refine Q7 (.inr rfl) rfl (.tmp rfl) (fun w hw=>Qo ?_ hw);exact Qp0
 refine Qht ?_
 refine Q7 (.inr rfl) rfl (.tmp rfl) (fun w hw=>Qo ?_ hw);exact Qp0
theorem Q5k(he:QX W W.heap.size A m early)(hl:RuL W r Ab cb An cn Ap cp)(hs:RSm r)(hm:m<=1048576)(hn:n<=1048576):
  Calls Tryz.prog 115 #[.agg (ruC r (.slice Ab r.bs.length cb) (.slice An r.names.length cn) (.slice Ap r.parts.length cp)).toArray,.slice A m c,.int .i64 (n:Int)] W (Jj W (Xr r early n)):=by
 by_cases h1:r.kind=1
 ·exact QbP he hl hs hm hn (beq_iff_eq.2 h1) Q9t Q9t
 ·by_cases h7:r.kind=7
  ·exact QdO he hl hs hm hn Q9t (beq_iff_eq.2 h7) Q9t
  ·by_cases h8:r.kind=8
   ·exact QdY he hl hs hm hn Q9t Q9t (beq_iff_eq.2 h8)
   ·exact QdS he hl hs hm hn (beq_eq_false_iff_ne.2 h1) (beq_eq_false_iff_ne.2 h7) (beq_eq_false_iff_ne.2 h8)
end
section
variable {A:Option Addr}{F:List Rl}{O:List Qb}{W w:World}{c n:Nat}
theorem QcT(c i:Int)(w:World):Calls Tryz.prog 91 #[.int .i64 c,.int .i64 i] w fun e w'=>e=.returned (.agg #[.int .i64 c,.int .i64 i])/\Below w.heap.size w w':=by
 go_enter Tryz.func91,Tryz.ntmps91;refine Qs (M:=[]) (W:=w) (N:=8) (E:=[(0,.int .i64 c),(1,.int .i64 i)]) (O:=[]) ?_ mc3 (Wd.start [] w);repeat(first|refine Q4 zM ?_|refine yA (t:=32) fun b2=>?_|refine Q4 (ZW (xs:=[(0,.tmp 5),(1,.tmp 6)]) (vs:=[(0,.int .i64 c),(1,.int .i64 i)]) (v:=.agg #[.int .i64 c,.int .i64 i]) rfl rfl Q1 rfl rfl Q7I) ?_|refine yW 0 ?_|refine Qe ?_|refine Qa ?_|refine Q6 ?_|refine QB ?_)
 exact Q7 mc4 rfl Q0F Qof
section
variable {P:Program}{ops:Array Oper}{C:World->Prop}{N:Nat}{E:Env}{o:Oper}{d:Nat}
theorem Qm3{x y:Operand}{t t':TypeId}{a b c:Bool}(ht:P.underlying t=some .bool)(ho:o.op=.binOp .eql t x y t')(hd:o.dst=some d)(hN:d<N)(hw:Qi ops E o=some true)(hx:ev E x=some (.bool a))(hy:ev E y=some (.bool b))(hb:(a==b)=c):oE P ops C N E ((d,.bool c)::E) o:=
 Xd hd hN hw fun ρ w ha _=>by
  subst hb;simp [execOp,ho,ha.eval hx,ha.eval hy,run_eql_bool _ _ _ _ ht,go_sem]
end
def Qw8(W:World)(c:Int)(e:Ending)(w':World):Prop:=e=.returned (.int .i64 c)/\Below W.heap.size W w'
theorem Qfh{l:List Bool}{b:Nat}(hr:Rd W W.heap.size 1 (some ⟨b,0,none⟩) n (XM l))(hl:l.length=n)(hn:n<=1048576):
  Calls Tryz.prog 118 #[.slice (some ⟨b,0,none⟩) n c,.bool false] W (Qw8 W (Q43 l)):=by
 have HR:=Q2 hr;clear hr;go_enter Tryz.func118,Tryz.ntmps118;refine Qs (M:=[]) (W:=W) (N:=19) (E:=[(0,.slice Q09 n c),(1,.bool false)]) (O:=[]) ?_ mc3 (Wd.start [] W);repeat(first|refine Q4 zM ?_|refine Q4 zA ?_|refine Qe ?_|refine Qa ?_|refine Q6 ?_|refine Qh ?_|refine Q4 zL ?_)
 refine QN (ι:=Nat) (fun k=>k<=n/\∀j,j<k->l.getD j false=true) (fun k=>n - k) (fun k=>[(0,.slice Q09 n c),(1,.bool false),(7,.int .i64 (n:Int)),(8,.int .i64 (k:Int))]) (fun _=>[]) 0 [] Q1 Q0G mc1 rfl ?_;rintro k ⟨hk,hall⟩;have HA:=Q2 hall;clear hall;by_cases hkn:k<n
 ·obtain⟨v,hv⟩:∃v,l.getD k false=v:=⟨_,rfl⟩
  have hcell:W.cell? ⟨b,0+k,none⟩=some (.bool v):=by
   rw[<- hv];exact HR.out.cellAt Q3 (Y0 Q3)
  have HV:=Q2 hv;clear hv;cases v with
  |true=>
   repeat(first|refine Q4 zM ?_|refine Q4 zA ?_|refine Q4 zC ?_|refine Q4 (zi1 (hj:=hkn)) ?_|refine Q4 Qn4 ?_|refine Qe ?_|refine Qa ?_|refine Q6 ?_|refine Qq ?_|refine Q9 rfl ?_|refine Q8 rfl ?_|refine Qh ?_|refine Q4 Q4f ?_|refine Q4 zP ?_)
   refine Qt (k+1) [] Q1 ⟨hkn,fun j hj=>?_⟩ Q3 mc2 rfl;rcases Nat.lt_or_ge j k with h|h
   ·exact HA.out j h
   ·obtain rfl:j=k:=by omega
    exact HV.out
  |false=>
   repeat(first|refine Q4 zM ?_|refine Q4 zA ?_|refine Q4 zC ?_|refine Q4 (zi1 (hj:=hkn)) ?_|refine Q4 Qn4 ?_|refine Qe ?_|refine Qa ?_|refine Q6 ?_|refine Qq ?_|refine Q9 rfl ?_|refine QB ?_|refine Qh ?_|refine Qm ?_|refine Qu ?_|refine Q4 zlt ?_)
   refine Q7 mc4 rfl (.tmp rfl) (fun w hw=>⟨?_,hw.k.below⟩);unfold Q43;rw[Jo (k:=k) Q3 (by rw[HV.out];rfl) (fun j hj=>by rw[HA.out j hj];rfl)]
 ·skip
  refine Qsd ?_
  refine Q7 mc4 rfl (.tmp rfl) (fun w hw=>⟨?_,hw.k.below⟩);unfold Q43;rw[Xn (fun j hj=>by rw[HA.out j Q3];rfl)]
theorem QX.take{B:Nat}{i:Nat}(h:QX W B A n F)(hi:i<=n)(hc:n<=c):QX W B (ZX A c 0 12) i (F.take i):=by
 refine⟨by rw[List.length_take,h.1];omega,fun h0=>?_⟩;obtain⟨b,o,rfl,hB,hr⟩:=h.2 Q3;refine⟨b,o,?_,hB,fun j r hj=>?_⟩
 ·rw[ZX,if_neg Q3,Option.map_some,Addr.add_mid,Nat.zero_mul,Nat.add_zero]
 ·rw[List.getElem?_take] at hj
  split at hj
  ·exact hr j r hj
  ·cases hj
theorem QjB(hf:QX W W.heap.size A n F)(hF:FOk F)(hn:n<=40)(hn0:0<n)(hw:Wd [] W O w):
  Calls Tryz.prog 119 #[.agg #[.slice A n c]] w (Xo (fun b:Nat=>.slice (some ⟨b,0,none⟩) n n) (fun _=>True) [] W (fun b=>.rd (some ⟨b,0,none⟩) n 1 (XM (Zn F))::O)):=by
 refine(QaR (hf.on hw.k.below) hF hn hn0).mono ?_;rintro e w' ⟨b,rfl,h1,h2,h3⟩;rw[ZN,hf.1] at h2 ⊢;exact⟨b,rfl,trivial,hw.push h3 h2 QqY⟩
theorem Qje(hf:QX W W.heap.size A n F)(hF:FOk F)(hn:n<=40)(hn0:0<n)(hw:Wd [] W O w):
  Calls Tryz.prog 55 #[.agg #[.slice A n c]] w (Xo (fun y:Nat×Nat=>.slice (some ⟨y.1,0,none⟩) n y.2) (fun _=>True) [] W (fun y=>.rd (some ⟨y.1,0,none⟩) n 256 (QW (Vz F))::O)):=by
 refine(QaA (hf.on hw.k.below) hF hn hn0).mono ?_;rintro e w' ⟨b,c',rfl,h1,h2,h3⟩;exact⟨(b,c'),rfl,trivial,hw.push h3 h2 QqY⟩
def Qdw(W:World)(p:Int×Int)(e:Ending)(w':World):Prop:=e=.returned (.agg #[.int .i64 p.1,.int .i64 p.2])/\Below W.heap.size W w'
theorem Zd{p:Int×Int}{a b:Int}(h:p=(a,b))(hw:Wd [] W O w):Qdw W p (.returned (.agg [.int .i64 a,.int .i64 b].toArray)) w:=⟨by rw[h],hw.k.below⟩
theorem YR{p:Nat->Prop}{k:Nat}(h:∀j,j<k->p j)(hk:p k):∀j,j<k+1->p j:=fun j hj=>by
 rcases Nat.lt_or_ge j k with h1|h1
 ·exact h j h1
 ·obtain rfl:j=k:=by omega
  exact hk
theorem Q7r(F:List Rl):(Vz F).length=F.length:=by
 unfold Vz;rw[Yp,List.length_map]
theorem QbD(hf:QX W W.heap.size A n F)(hs:FSm F)(hc:n<=c):
  Calls Tryz.prog 89 #[.agg #[.slice A n c]] W (Qdw W (Xf F)):=by
 have hlen:F.length=n:=hf.1;have hsz:n<=1048576:=by rw[<- hlen];exact hs.1
 have HFM:=Q2 hf;have HS:=Q2 hs;have HLEN:=Q2 hlen;clear hf hs hlen;go_enter Tryz.func89,Tryz.ntmps89;refine Qs (M:=[]) (W:=W) (N:=100) (E:=[(0,.agg #[.slice A n c])]) (O:=[]) ?_ Zj (Wd.start [] W);by_cases h0:n=0
 ·skip
  repeat(first|refine Q4 zM ?_|refine Q4 zA ?_|refine Q4 zF ?_|refine Q4 (zB 1) ?_|refine yB fun bf=>?_|refine yA (t:=32) fun b2=>?_|refine Q4 Q3u ?_|refine yW 0 ?_|refine Qe ?_|refine Qa ?_|refine Q6 ?_|refine Q9 rfl ?_|refine QB ?_|refine Qh ?_|refine Qm ?_|refine Qu ?_|refine Q4 zL ?_|refine Q4 zet ?_)
  exact Q7 mc4 rfl Q0F (fun w hw=>Zd (Q2Z (by rw[HLEN.out];exact h0)) hw)
 by_cases h40:40<n
 ·skip
  repeat(first|refine Q4 zM ?_|refine Q4 zA ?_|refine Q4 zF ?_|refine Q4 (zB 1) ?_|refine yB fun bf=>?_|refine yA (t:=32) fun b2=>?_|refine Q4 Q3u ?_|refine yW 0 ?_|refine Qe ?_|refine Qa ?_|refine Q6 ?_|refine Q9 rfl ?_|refine Q8 rfl ?_|refine QB ?_|refine Qh ?_|refine Qm ?_|refine Qu ?_|refine Q4 zL ?_|refine Q4 Q7g ?_|refine Q4 zgt ?_)
  exact Q7 mc4 rfl Q0F (fun w hw=>Zd (Q4z (by rw[HLEN.out];exact h40)) hw)
 have hn0:0<n:=by omega
 have hn40:n<=40:=by omega
 obtain⟨b,o,rfl⟩:=HFM.out.addr hn0;repeat(first|refine Q4 zM ?_|refine Q4 zA ?_|refine Q4 zF ?_|refine Q4 (zB 1) ?_|refine yB fun bf=>?_|refine yA (t:=32) fun b2=>?_|refine Qe ?_|refine Qa ?_|refine Q6 ?_|refine Qq ?_|refine Q8 rfl ?_|refine Qh ?_|refine Q4 zL ?_|refine Q4 Q7g ?_|refine Q4 zgf ?_)
 refine QN (ι:=Nat) (fun k=>k<=n/\∀j,j<k->Zg F j=0) (fun k=>n - k) (fun k=>[(1,.pointer KF),(2,.pointer (some ⟨b2,0,none⟩)),(3,.int .i64 (n:Int)),(27,.slice (some ⟨b,o,none⟩) n c),(28,.int .i64 (n:Int)),(29,.int .i64 (k:Int))]) (fun _=>[.blk b2 (.cells [.int .i64 0,.int .i64 0].toArray 32 (0,0)),.blk bf (.cells [.slice (some ⟨b,o,none⟩) n c].toArray 24 (0,0))]) 0 [0,1] Q1 Q0G Qdu rfl ?_;rintro k ⟨hk,hall⟩;have HA:=Q2 hall;clear hall;by_cases hkn:k<n
 ·obtain⟨rk,Ab,cb,An,cn,Ap,cp,hrk,hrg,hlk⟩:=HFM.out.rl hkn;have HRK:=Q2 (show Zg F k=Xr rk (F.take k) n by rw[Q19 hrk,HLEN.out]);have HLK:=Q2 hlk;have HSM:=Q2 (HS.out.2 rk Qdq);clear hrk hlk
  have hkc:k<=c:=by omega
  by_cases hz:Xr rk (F.take k) n=0
  ·have hzb:(Xr rk (F.take k) n != 0)=false:=bne_eq_false_iff_eq.2 hz
   repeat(first|refine Q4 zM ?_|refine Q4 zA ?_|refine Q4 (zD 0) ?_|refine Q4 zE ?_|refine Q4 (zi (hj:=hkn)) ?_|refine yA (t:=65) fun b7=>?_|refine yW 0 ?_|refine Qe ?_|refine Qa ?_|refine Q6 ?_|refine Qq ?_|refine Q9 rfl ?_|refine Qh ?_|refine Q4 zlt ?_)
   refine Qr6 ?_
   repeat(first|refine Q4 zM ?_|refine Qe ?_|refine Qa ?_|refine Q6 ?_|refine Qq ?_|refine Q8 rfl ?_|refine Q4 zna ?_|refine Q4 zP ?_)
   exact Qt (k+1) [1,2] Q1 ⟨hkn,YR HA.out (HRK.out.trans hz)⟩ Q3 QbU rfl
  ·have hzb:(Xr rk (F.take k) n != 0)=true:=bne_iff_ne.2 hz
   repeat(first|refine Q4 zM ?_|refine Q4 zA ?_|refine Q4 (zD 0) ?_|refine Q4 zE ?_|refine Q4 (zi (hj:=hkn)) ?_|refine yA (t:=65) fun b7=>?_|refine yW 0 ?_|refine Qe ?_|refine Qa ?_|refine Q6 ?_|refine Qq ?_|refine Q9 rfl ?_|refine Qh ?_|refine Q4 zlt ?_)
   refine Qr6 ?_
   repeat(first|refine Q4 zM ?_|refine Q4 Q3u ?_|refine yW 1 ?_|refine Qe ?_|refine Qa ?_|refine Q6 ?_|refine Q9 rfl ?_|refine QB ?_|refine Qm ?_|refine Qu ?_|refine Q4 zna ?_)
   exact Q7 mc4 rfl JY (fun w hw=>Zd ((Q4V Q4i Q4B Q1C (by rw[HRK.out];exact hz) HA.out).trans (by rw[HRK.out])) hw)
 have HR:=Q2 (show ∀j,j<F.length->Zg F j=0 from fun j hj=>HA.out j Q4p);have HF:=Q2 (Qfr HR.out);clear HA;refine Qla ?_
 refine QN (ι:=Nat) (fun k=>k<=n/\∀j,j<k->JG F j=0) (fun k=>n - k) (fun k=>[(1,.pointer KF),(2,.pointer (some ⟨b2,0,none⟩)),(48,.slice (some ⟨b,o,none⟩) n c),(49,.int .i64 (n:Int)),(50,.int .i64 (k:Int))]) (fun _=>[.blk b2 (.cells [.int .i64 0,.int .i64 0].toArray 32 (0,0)),.blk bf (.cells [.slice (some ⟨b,o,none⟩) n c].toArray 24 (0,0))]) 0 [0,1] Q1 Q0G Q0J rfl ?_;rintro k ⟨hk,hall⟩;have HA:=Q2 hall;clear hall;by_cases hkn:k<n
 ·obtain⟨rk,Ab,cb,An,cn,Ap,cp,hrk,hrg,hlk⟩:=HFM.out.rl hkn;have HRK:=Q2 (show JG F k=J4 F rk from Q0d hrk);have HLK:=Q2 hlk;have HSM:=Q2 (HS.out.2 rk Qdq);have HOK:=Q2 (show ROk n rk by have:=HF.out k rk hrk;rwa [HLEN.out] at this);clear hrk hlk
  by_cases hz:J4 F rk=0
  ·have hzb:(J4 F rk != 0)=false:=bne_eq_false_iff_eq.2 hz
   repeat(first|refine Q4 zM ?_|refine Q4 zA ?_|refine Q4 (zD 0) ?_|refine Q4 (zD 2) ?_|refine Q4 zE ?_|refine Q4 (zi (hj:=hkn)) ?_|refine yA (t:=65) fun b7=>?_|refine yW 0 ?_|refine Q4 Qs9 ?_|refine Qe ?_|refine Qa ?_|refine Q6 ?_|refine Qq ?_|refine Q9 rfl ?_|refine Q8 rfl ?_|refine Qh ?_|refine Q4 zna ?_|refine Q4 Q4f ?_|refine Q4 zP ?_)
   exact Qt (k+1) [1,2] Q1 ⟨hkn,YR HA.out (HRK.out.trans hz)⟩ Q3 Yc rfl
  ·have hzb:(J4 F rk != 0)=true:=bne_iff_ne.2 hz
   repeat(first|refine Q4 zM ?_|refine Q4 zA ?_|refine Q4 (zD 0) ?_|refine Q4 (zD 2) ?_|refine Q4 zE ?_|refine Q4 (zi (hj:=hkn)) ?_|refine yA (t:=65) fun b7=>?_|refine yW 0 ?_|refine Q4 Qs9 ?_|refine Q4 Q3u ?_|refine yW 1 ?_|refine Qe ?_|refine Qa ?_|refine Q6 ?_|refine Qq ?_|refine Q9 rfl ?_|refine QB ?_|refine Qh ?_|refine Qm ?_|refine Qu ?_|refine Q4 zna ?_|refine Q4 zlt ?_)
   exact Q7 mc4 rfl JY (fun w hw=>Zd ((Q5D Q4i Q4B HR.out Q1C (by rw[HRK.out];exact hz) HA.out).trans (by rw[HRK.out])) hw)
 have HU:=Q2 (show ∀j,j<F.length->JG F j=0 from fun j hj=>HA.out j Q4p);clear HA;refine Qla ?_
 refine QN (ι:=Nat) (fun k=>k<=n/\∀j,j<k->Q1l F j=false) (fun k=>n - k) (fun k=>[(1,.pointer KF),(2,.pointer (some ⟨b2,0,none⟩)),(66,.int .i64 (n:Int)),(67,.int .i64 (k:Int))]) (fun _=>[.blk b2 (.cells [.int .i64 0,.int .i64 0].toArray 32 (0,0)),.blk bf (.cells [.slice (some ⟨b,o,none⟩) n c].toArray 24 (0,0))]) 0 [0,1] Q1 Q0G mc1 rfl ?_;rintro k ⟨hk,hall⟩;have HA:=Q2 hall;clear hall;by_cases hkn:k<n
 ·obtain⟨cy,hcy⟩:∃cy,Q1l F k=cy:=⟨_,rfl⟩;have HCY:=Q2 hcy;clear hcy
  cases cy with
  |false=>
   repeat(first|refine Q4 zM ?_|refine Q4 zA ?_|refine Q4 (zD 0) ?_|refine Q4 (zD 1) ?_|(refine Q4 Qsv ?_;rw[HCY.out])|refine Qe ?_|refine Qa ?_|refine Q6 ?_|refine Qq ?_|refine Q9 rfl ?_|refine Q8 rfl ?_|refine Qh ?_|refine Q4 Q4f ?_|refine Q4 zP ?_)
   exact Qt (k+1) [0,1] Q1 ⟨hkn,YR HA.out HCY.out⟩ Q3 mc2 rfl
  |true=>
   repeat(first|refine Q4 zM ?_|refine Q4 zA ?_|refine Q4 (zD 0) ?_|refine Q4 (zD 1) ?_|(refine Q4 Qsv ?_;rw[HCY.out])|refine Q4 Q3u ?_|refine yW 0 ?_|refine Qe ?_|refine Qa ?_|refine Q6 ?_|refine Qq ?_|refine Q9 rfl ?_|refine QB ?_|refine Qh ?_|refine Qm ?_|refine Qu ?_|refine Q4 zlt ?_)
   exact Q7 mc4 rfl Q0F (fun w hw=>Zd (Q6Q Q4i Q4B HR.out HU.out Q1C HCY.out HA.out) hw)
 have HT:=Q2 (Q4I Q4i Q4B HR.out HU.out (fun j hj=>HA.out j Q4p));clear HA;by_cases hfi:0<=Q43 (Zn F)
 ·skip
  repeat(first|refine Q4 zM ?_|refine Q4 zA ?_|refine Q4 (zD 0) ?_|refine Q4 (zD 1) ?_|refine Qc Qsj rfl Q1 (fun bz _=>?_)|refine Q4 QrU ?_|refine Q4 Q3u ?_|refine yW 1 ?_|refine Qe ?_|refine Qa ?_|refine Q6 ?_|refine Q9 rfl ?_|refine Q8 rfl ?_|refine XS ?_|refine QB ?_|refine Qm ?_|refine Q4 Qdh ?_|refine Q4 zht ?_)
  exact Q7 mc4 rfl JY (fun w hw=>Zd (HT.out.trans (Qeg (ZN F) hfi)) hw)
 repeat(first|refine Q4 zM ?_|refine Q4 zA ?_|refine Q4 zF ?_|refine Q4 (zB 3) ?_|refine Q4 (zD 0) ?_|refine Q4 (zD 1) ?_|refine Q4 (zD 2) ?_|refine Qc Qsj rfl Q1 (fun bz _=>?_)|refine Q4 QrU ?_|refine Qc QtI rfl Q1 (fun y _=>?_)|refine Qe ?_|refine Qa ?_|refine Q6 ?_|refine Qq ?_|refine Q8 rfl ?_|refine XS ?_|refine Qh ?_|refine Q4 zL ?_|refine Q4 Qdh ?_|refine Q4 zhf ?_)
 obtain⟨bs,cs⟩:=y;refine QN (ι:=Nat) (fun k=>k<=n/\∀j,j<k->ZE F j=false) (fun k=>n - k) (fun k=>[(1,.pointer KF),(2,.pointer (some ⟨b2,0,none⟩)),(12,.slice (some ⟨bs,0,none⟩) n cs),(86,.slice (some ⟨b,o,none⟩) n c),(87,.int .i64 (n:Int)),(88,.int .i64 (k:Int))]) (fun _=>[.rd (some ⟨bs,0,none⟩) n 256 (QW (Vz F)),.blk b2 (.cells [.int .i64 0,.int .i64 0].toArray 32 (0,0)),.blk bf (.cells [.slice (some ⟨b,o,none⟩) n c].toArray 24 (0,0))]) 0 [0,2,3] Q1 Q0G Qdu rfl ?_;rintro k ⟨hk,hall⟩;have HA:=Q2 hall;clear hall;by_cases hkn:k<n
 ·obtain⟨rk,Ab,cb,An,cn,Ap,cp,hrk,hrg,hlk⟩:=HFM.out.rl hkn;have HLK:=Q2 hlk;have HOK:=Q2 (show ROk n rk by have:=HF.out k rk hrk;rwa [HLEN.out] at this);obtain⟨cf,hcf⟩:∃cf,Zf (Vz F) rk=cf:=⟨_,rfl⟩;have HCF:=Q2 hcf;have HRK:=Q2 (show ZE F k=cf from (Q6R hrk).trans hcf);clear hrk hlk hcf
  cases cf with
  |false=>
   repeat(first|refine Q4 zM ?_|refine Q4 zA ?_|refine Q4 (zD 0) ?_|refine Q4 (zD 1) ?_|refine Q4 zE ?_|refine Q4 (zi (hj:=hkn)) ?_|refine yA (t:=65) fun b7=>?_|refine yW 0 ?_|(refine Q4 Qt6 ?_;rw[HCF.out])|refine Qe ?_|refine Qa ?_|refine Q6 ?_|refine Qq ?_|refine Q9 rfl ?_|refine Q8 rfl ?_|refine Qh ?_|refine Q4 Q4f ?_|refine Q4 zP ?_)
   exact Qt (k+1) [1,2,3] Q1 QhE Q3 QbU rfl
  |true=>
   repeat(first|refine Q4 zM ?_|refine Q4 zA ?_|refine Q4 (zD 0) ?_|refine Q4 (zD 1) ?_|refine Q4 zE ?_|refine Q4 (zi (hj:=hkn)) ?_|refine yA (t:=65) fun b7=>?_|refine yW 0 ?_|(refine Q4 Qt6 ?_;rw[HCF.out])|refine Q4 Q3u ?_|refine yW 2 ?_|refine Qe ?_|refine Qa ?_|refine Q6 ?_|refine Qq ?_|refine Q9 rfl ?_|refine QB ?_|refine Qh ?_|refine Qm ?_|refine Qu ?_|refine Q4 zlt ?_)
   exact Q7 mc4 rfl Q3i (fun w hw=>Zd (HT.out.trans (Q2X (ZN F) hfi Q1C HRK.out HA.out)) hw)
 ·skip
  repeat(first|refine Q4 mc6 ?_|refine yW 1 ?_|refine Qe ?_|refine Qa ?_|refine Q6 ?_|refine Q8 rfl ?_|refine XS ?_|refine QB ?_|refine Q4 zlf ?_)
  exact Q7 mc4 rfl JY (fun w hw=>Zd (HT.out.trans (Q8G (ZN F) hfi (fun j hj=>HA.out j Q4p))) hw)
end
section
variable {A:Option Addr}{F:List Rl}{W:World}{c k n:Nat}{r:Rl}
section
variable {ops:Array Oper}{C:World->Prop}{N:Nat}{E:Env}{o:Oper}{d:Nat}
theorem Q71{x y:Operand}{t':TypeId}{a b a' b':Int}{v:Bool}(ho:o.op=.binOp .neq 32 x y t')(hd:o.dst=some d)(hN:d<N)(hw:Qi ops E o=some true)(hx:ev E x=some (.agg #[.int .i64 a,.int .i64 b]))(hy:ev E y=some (.agg #[.int .i64 a',.int .i64 b']))(hb:(!(a==a'&&b==b'))=v):oE Tryz.prog ops C N E ((d,.bool v)::E) o:=
 Xd hd hN hw fun ρ w ha _=>by
  subst hb;by_cases h1:a=a'<;>by_cases h2:b=b'<;>simp [execOp,ho,ha.eval hx,ha.eval hy,h1,h2,go_sem]
end
theorem Qgi(m:Nat):∀ws:List (List UInt8),(∀w∈ws,w.length<=m)->(Lib.join ws [32]).length<=ws.length*(m+1)
 |[],_=>by simp [Lib.join]
 |[x],h=>by
  rw[Lib.join_one];have:=h x List.mem_cons_self
  exact Qg2
 |x::y::l,h=>by
  have ih:=Qgi m (y::l) fun w hw=>h w (List.mem_cons_of_mem _ hw);rw[Lib.join_cons,Jc,<- Lib.join_cons];have:=h x List.mem_cons_self;simp only[List.length_append,List.length_cons,List.length_nil] at ih ⊢;rw[Nat.add_mul] at ih ⊢;rw[Nat.add_mul];omega
theorem Q3l{v:Int}(h:0<=v/\v<=4294967295):(Lib.itoa v).length<=100:=by
 have:=Lib.itoa_length_le v Q3 Q3;omega
theorem Yo{u:Bool}{s w:List UInt8}(h:w∈ifW u s):w=s:=by
 unfold ifW at h;split at h
 ·exact List.mem_singleton.1 h
 ·cases h
theorem Yx(u:Bool)(s:List UInt8):(ifW u s).length<=1:=by
 unfold ifW;split<;>simp
theorem Qg3(h:LOk F r)(h0:0<F.length):(Lib.join (Yl F r) [32]).length<=1000000:=by
 have hN:=QlL h.ok h0;have hnm:∀x:Int,0<=x/\x<F.length->(YP F x).length<=100:=fun x hx=>by have:=YL (h.all x hx);omega
 have hlen:(Yl F r).length<=24:=by
  unfold Yl Q3T;simp only[List.length_append,List.length_map,List.length_range,List.length_cons,List.length_nil];have:=h.ok.p12;have:=Yx (r.kind==1) (Vt r.bs);have:=Yx (XZ r.kind) (Lib.itoa r.stop);have:=Yx (XY r.kind) (Lib.itoa r.size);have:=Yx (r.kind==2) (if r.big then Qc4 else Ys);have:=Yx (r.kind==2) (Lib.itoa r.mn);have:=Yx (Z9 r.kind) (Lib.itoa r.mx);have:=Yx (Qz r.kind) (YP F r.count);have:=Yx (JP r.kind) (YP F r.elem);omega
 have hw:∀w∈Yl F r,w.length<=100:=by
  intro w hw;unfold Yl Q3T at hw;simp only[List.mem_append] at hw;rcases hw with (((((((((hw|hw)|hw)|hw)|hw)|hw)|hw)|hw)|hw))|hw
  ·rcases List.mem_cons.1 hw with rfl|hw
   ·have:=YL h.name;omega
   ·rw[List.mem_singleton.1 hw];have hk:=h.ok.kind
    rcases (show r.kind=1\/r.kind=2\/r.kind=3\/r.kind=4\/r.kind=5\/r.kind=6\/r.kind=7\/r.kind=8\/r.kind=9\/r.kind=10 by omega) with e|e|e|e|e|e|e|e|e|e<;>rw[e]<;>decide
  ·rw[Yo hw,Q7d];have:=h.ok.bs16;omega
  ·rw[Yo hw];exact Q3l hN.stop
  ·rw[Yo hw];exact Q3l hN.size
  ·rw[Yo hw];split<;>decide
  ·rw[Yo hw];exact Q3l hN.mn
  ·rw[Yo hw];exact Q3l hN.mx
  ·rw[Yo hw];exact hnm _ hN.count
  ·rw[Yo hw];exact hnm _ hN.elem
  ·rw[List.mem_map] at hw;obtain⟨i,hi,rfl⟩:=hw;rw[List.mem_range] at hi
   have hp:(YP F (r.parts.getD i 0)).length<=32:=by
    by_cases h78:r.kind=7\/r.kind=8
    ·exact YL (h.all _ (h.ok.parts h78 _ (by rw[List.getD_eq_getElem?_getD,List.getElem?_eq_getElem hi];exact List.getElem_mem hi)))
    ·rw[(Qol h.ok).parts Q3 Q3] at hi;exact absurd hi Ql
   unfold XL;rw[List.length_append];split
   ·next h7=>
    have h7':r.kind=7:=by simpa using h7
    have hs:=(h.ok.seven h7').1;rw[List.length_append];split
    ·exact Qg2
    ·next hne=>
     have hg:r.names.getD i []=r.names[i]:=by rw[List.getD_eq_getElem?_getD,List.getElem?_eq_getElem Q3];rfl
     have hi2:i<r.names.length:=by omega
     have:(r.names.getD i []).length<=32:=by
      rw[hg];rcases h.part h7' r.names[i] (List.getElem_mem hi2) with e|e
      ·rw[e];decide
      ·exact YL e
     exact Qg2
   ·simp only[List.length_nil];omega
 have:=Qgi 100 (Yl F r) hw;have h2:(Yl F r).length*(100+1)<=24*(100+1):=Nat.mul_le_mul_right _ hlen;omega
def Q2O(F:List Rl)(k:Nat):List UInt8:=((F.take k).map (Q32 F)).flatten
theorem Qf9(h:F[k]? =some r):Q2O F k++Q32 F r=Q2O F (k+1):=by
 unfold Q2O;rw[List.take_add_one,h];simp
theorem Qj3(h:F.length<=k):Q2O F k=YT F:=by
 unfold Q2O YT;rw[List.take_of_length_le h]
def Qao(F:List Rl):List UInt8:=if Qy F=(0,0) then YT F else []
def Qvu(W:World)(l:List UInt8)(p:Int×Int)(e:Ending)(w':World):Prop:=e=.returned (.tuple #[.string ⟨l.toArray⟩,.agg #[.int .i64 p.1,.int .i64 p.2]])/\Below W.heap.size W w'
theorem Qdo(hf:QX W W.heap.size A n F)(hs:FSm F)(hc:n<=c)(hg:GV W):
  Calls Tryz.prog 51 #[.agg #[.slice A n c]] W (Qvu W (Qao F) (Qy F)):=by
 have hlen:F.length=n:=hf.1;have HFM:=Q2 hf;have HS:=Q2 hs;have HG:=Q2 hg;have HLEN:=Q2 hlen;clear hf hs hg hlen;obtain⟨⟨a,b⟩,hab⟩:∃p,Xf F=p:=⟨_,rfl⟩;have HC:=Q2 hab;clear hab;go_enter Tryz.func51,Tryz.ntmps51;refine Qs (M:=[]) (W:=W) (N:=33) (E:=[(0,.agg #[.slice A n c])]) (O:=[]) ?_ Zj (Wd.start [] W);by_cases hz:a=0/\b=0
 case neg=>
  have hne:(!(a==0&&b==0))=true:=by
   refine Q99 ?_;omega
  repeat(first|refine Q4 zA ?_|refine Q4 (zD 0) ?_|refine Q4 (zD 1) ?_|refine Qc YK rfl Q1 (fun bf _=>?_)|refine Qc Q4y rfl Q1 (fun b2 _=>?_)|(refine Q4 Qtd ?_)|(refine QA Q4a rfl (fun _ _=>?_);rw[QF (by rfl)])|refine Q4 mc6 ?_|refine Q4 Qgg ?_|refine Qe ?_|refine Qa ?_|refine Q6 ?_|refine Q9 rfl ?_)
  refine Qty ?_;refine QI 2 Q5 rfl rfl KH (fun _=>.inl Q1) rfl (fun _ _=>?_);rw[QF (by rfl)];refine Xu ?_ Q5;refine QB (Qm ?_);refine Jd mc4 rfl (.tmp rfl) JY (fun w hw=>⟨?_,hw.k.below⟩);have hff:Qy F=(a,b):=by
   unfold Qy;rw[HC.out,if_pos];intro h;exact hz (by simpa using h)
  unfold Qao;rw[hff,if_neg (fun h=>hz (by simpa using h))]
 case pos=>
  obtain⟨rfl,rfl⟩:=hz;have hlo:=Qf7 HC.out;have hlon:=hlo.1;have hlox:=hlo.2;rw[HLEN.out] at hlon hlox;clear hlo;obtain⟨b,o,rfl⟩:=HFM.out.addr hlon;have hpok:=Q5N HC.out;have HP:=Q2 hpok;clear hpok;repeat(first|refine Q4 zM ?_|refine Q4 zA ?_|refine Q4 zF ?_|refine Q4 (zB 2) ?_|refine Q4 (zD 0) ?_|refine Q4 (zD 1) ?_|refine Qc YK rfl Q1 (fun bf _=>?_)|refine Qc Q4y rfl Q1 (fun b2 _=>?_)|(refine Q4 Qtd ?_)|(refine QA Q4a rfl (fun _ _=>?_);rw[QF (by rfl)])|refine Q4 mc6 ?_|refine Q4 Qhr ?_|refine Qe ?_|refine Qa ?_|refine Q6 ?_|refine Qq ?_|refine Q8 rfl ?_|refine Qh ?_|refine Q4 zL ?_)
  rename_i b3 _ _ _ _;refine QN (ι:=Nat) (fun k=>k<=n/\(Q2O F k).length<=k*1000001) (fun k=>n - k) (fun k=>[(1,.pointer KF),(3,.pointer (some ⟨b3,0,none⟩)),(5,.string ⟨(Q2O F k).toArray⟩),(15,.slice (some ⟨b,o,none⟩) n c),(16,.int .i64 (n:Int)),(17,.int .i64 (k:Int))]) (fun _=>[.blk b3 (.cells [.int .i64 0,.int .i64 0].toArray 32 (0,0)),.blk bf (.cells [.slice (some ⟨b,o,none⟩) n c].toArray 24 (0,0))]) 0 [1,2] Q1 ⟨Nat.zero_le _,by unfold Q2O;simp⟩ Qdu rfl ?_;rintro k ⟨hk,htx⟩;by_cases hkn:k<n
  ·obtain⟨rk,Ab,cb,An,cn,Ap,cp,hrk,hrg,hlk⟩:=HFM.out.rl hkn;have HLK:=Q2 hlk;have HLO:=Q2 (HP.out.line hrk);have HST:=Q2 (Qf9 hrk);have hsm:=Qg3 HLO.out (by rw[HLEN.out];exact hlon)
   have hll:(Q32 F rk).length<=1000001:=by unfold Q32;rw[List.length_append];simp only[List.length_cons,List.length_nil];omega
   clear hrk hlk;repeat(first|refine Q4 zM ?_|refine Q4 zA ?_|refine Q4 (zD 0) ?_|refine Q4 (zD 2) ?_|refine Q4 zE ?_|refine Q4 QoK ?_|refine Qc Qmc rfl Q1 (fun b7 _=>?_)|(refine QA Q4a rfl (fun _ _=>?_);rw[QF (by rfl)])|refine Q4 (Qj (f:=90) rfl rfl Q1 rfl rfl (fun w hw=>(Qfd KJ Q9z HLO.out hlon KU hsm).mono (fun _ _ h=>h))) ?_|(refine Q4 (Qe9 rfl rfl Q1 rfl rfl rfl (by rw[VQ,VQ];omega)) ?_;rw[Q2v,HST.out])|refine Qe ?_|refine Qa ?_|refine Q6 ?_|refine Qq ?_|refine Q9 rfl ?_|refine Qh ?_|refine Q4 Q4f ?_|refine Q4 zP ?_)
   refine Qt (k+1) [1,2] Q1 ⟨hkn,?_⟩ Q3 QbU rfl;rw[<- HST.out,List.length_append,Nat.add_mul];omega
  ·have hall:Q2O F k=YT F:=Qj3 (by rw[HLEN.out];omega);rw[hall] at htx ⊢;have hsz:=VQ (YT F)
   by_cases hbig:2000<(YT F).length
   ·skip
    repeat(first|refine Q4 zM ?_|refine Q4 zA ?_|refine Q4 Q3u ?_|(refine QA Q4a rfl (fun _ _=>?_);rw[QF (by rfl)])|refine Qe ?_|refine Qa ?_|refine Q6 ?_|refine Q9 rfl ?_|refine Q8 rfl ?_|refine XS ?_|refine QB ?_|refine Qm ?_|refine Q4 Qtg ?_|refine Q4 Qdh ?_|refine Q4 zgt ?_)
    refine Jd mc4 rfl (.tmp rfl) Q0F (fun w hw=>⟨?_,hw.k.below⟩);have hff:Qy F=(14,-1):=by
     unfold Qy;rw[HC.out,if_neg (fun h=>h rfl),if_pos hbig]
    unfold Qao;rw[hff,if_neg Q1]
   ·skip
    repeat(first|refine Q4 zM ?_|refine Q4 zA ?_|refine Q4 mc6 ?_|(refine QA Q4a rfl (fun _ _=>?_);rw[QF (by rfl)])|refine Qe ?_|refine Qa ?_|refine Q6 ?_|refine Qq ?_|refine Q8 rfl ?_|refine XS ?_|refine QB ?_|refine Q4 Qtg ?_|refine Q4 Qdh ?_|refine Q4 zgf ?_)
    refine Jd mc4 rfl (.tmp rfl) Q0F (fun w hw=>⟨?_,hw.k.below⟩);have hff:Qy F=(0,0):=by
     unfold Qy;rw[HC.out,if_neg (fun h=>h rfl),if_neg hbig]
    unfold Qao;rw[hff,if_pos rfl]
theorem Vp(hf:QX W W.heap.size A n F)(hs:FSm F)(hc:n<=c)(hg:GV W):
  Calls Tryz.prog 28 #[.agg #[.slice A n c]] W (Qdw W (Qy F)):=by
 have HFM:=Q2 hf;have HS:=Q2 hs;have HG:=Q2 hg;clear hf hs hg;go_enter Tryz.func28,Tryz.ntmps28;refine Qs (M:=[]) (W:=W) (N:=11) (E:=[Vh]) (O:=[]) ?_ Zj QV;repeat(first|refine Q4 zM ?_|refine Q4 zA ?_|refine Q4 (zD 0) ?_|refine Q4 (zD 1) ?_|refine Qc YK rfl Q1 (fun bf _=>?_)|refine Qc Q4y rfl Q1 (fun b2 _=>?_)|refine Q4 (Qj (f:=51) rfl rfl Q1 rfl rfl (fun w hw=>(Qdo KJ HS.out hc KU).mono (fun _ _ h=>h))) ?_|(refine QA Q4a rfl (fun _ _=>?_);rw[QF (by rfl)])|(refine QA KH rfl (fun _ _=>?_);rw[QF (by rfl)])|refine Qe ?_|refine Qa ?_|refine Q6 ?_|refine QB ?_|refine Q4 zX ?_)
 exact Q7 mc4 rfl JY Qof
def Q57(F:List Rl)(k:Int):Int×Int:=if Qy F≠(0,0) then Qy F else if inB k 0 ((F.length:Int) - 1) then (0,0) else (4,-2)
theorem Q3E{k:Int}(hf:QX W W.heap.size A n F)(hs:FSm F)(hc:n<=c)(hg:GV W):
  Calls Tryz.prog 54 #[.agg #[.slice A n c],.int .i64 k] W (Qdw W (Q57 F k)):=by
 have hlen:F.length=n:=hf.1;have hsz:n<=1048576:=by rw[<- hlen];exact hs.1
 have HFM:=Q2 hf;have HS:=Q2 hs;have HG:=Q2 hg;have HLEN:=Q2 hlen;clear hf hs hg hlen;obtain⟨⟨a,b⟩,hab⟩:∃p,Qy F=p:=⟨_,rfl⟩;have HC:=Q2 hab;clear hab;go_enter Tryz.func54,Tryz.ntmps54;refine Qs (M:=[]) (W:=W) (N:=21) (E:=[Vh,Q5Q]) (O:=[]) ?_ mc3 QV;by_cases hz:a=0/\b=0
 case neg=>
  have hne:(!(a==0&&b==0))=true:=by
   refine Q99 ?_;omega
  repeat(first|refine Q4 (zD 0) ?_|refine Q4 (zD 1) ?_|refine Qc YK rfl Q1 (fun bf _=>?_)|refine Qc Q4y rfl Q1 (fun b2 _=>?_)|(refine Q4 Qka ?_)|refine Q4 mc6 ?_|refine Q4 Qgg ?_|(refine QA Q4a rfl (fun _ _=>?_);rw[QF (by rfl)])|(refine QA KH rfl (fun _ _=>?_);rw[QF (by rfl)])|refine Qe ?_|refine Qa ?_|refine Q6 ?_|refine Q9 rfl ?_|refine QB ?_|refine Qm ?_)
  refine Q7 mc4 rfl JY (fun w hw=>Zd ?_ hw);unfold Q57;rw[HC.out,if_pos (fun h=>hz (by simpa using h))]
 case pos=>
  obtain⟨rfl,rfl⟩:=hz;obtain⟨u,hu⟩:∃u,inB k 0 ((n:Int) - 1)=u:=⟨_,rfl⟩;have HU:=Q2 hu;clear hu;cases u with
  |true=>
   repeat(first|refine Q4 zM ?_|refine Q4 zF ?_|refine Q4 (zB 2) ?_|refine Q4 (zD 0) ?_|refine Q4 (zD 1) ?_|refine Qc YK rfl Q1 (fun bf _=>?_)|refine Qc Q4y rfl Q1 (fun b2 _=>?_)|(refine Q4 Qka ?_)|(refine Q4 Qp6 ?_;rw[HU.out])|refine Q4 mc6 ?_|refine Q4 Qhr ?_|(refine QA Q4a rfl (fun _ _=>?_);rw[QF (by rfl)])|(refine QA KH rfl (fun _ _=>?_);rw[QF (by rfl)])|refine Qe ?_|refine Qa ?_|refine Q6 ?_|refine Qq ?_|refine Q8 rfl ?_|refine QB ?_|refine Q4 zL ?_|refine Q4 zO ?_|refine Q4 zQ ?_)
   refine Q7 mc4 rfl JY (fun w hw=>Zd ?_ hw);unfold Q57;rw[HC.out,if_neg (fun h=>h rfl),HLEN.out,HU.out,if_pos rfl]
  |false=>
   repeat(first|refine Q4 zM ?_|refine Q4 zF ?_|refine Q4 (zB 2) ?_|refine Q4 (zD 0) ?_|refine Q4 (zD 1) ?_|refine Qc YK rfl Q1 (fun bf _=>?_)|refine Qc Q4y rfl Q1 (fun b2 _=>?_)|(refine Q4 Qka ?_)|(refine Q4 Qp6 ?_;rw[HU.out])|refine Q4 Q3u ?_|refine Q4 mc6 ?_|refine Q4 Qhr ?_|(refine QA Q4a rfl (fun _ _=>?_);rw[QF (by rfl)])|(refine QA KH rfl (fun _ _=>?_);rw[QF (by rfl)])|refine Qe ?_|refine Qa ?_|refine Q6 ?_|refine Qq ?_|refine Q9 rfl ?_|refine Q8 rfl ?_|refine QB ?_|refine Qm ?_|refine Q4 zL ?_|refine Q4 zO ?_|refine Q4 zQ ?_)
   refine Q7 mc4 rfl JY (fun w hw=>Zd ?_ hw);unfold Q57;rw[HC.out,if_neg (fun h=>h rfl),HLEN.out,HU.out,if_neg Bool.false_ne_true]
end
section
variable {F:List Rl}{c n:Nat}{k:Int}{st:Nat->Bool}
def Vw(st:Nat->Bool)(c:Nat):List Int:=((List.range c).filter st).map fun(j:Nat)=>(j:Int)
theorem Qdg(h:st c=true):Vw st c++[(c:Int)]=Vw st (c+1):=by
 unfold Vw;rw[List.range_succ,List.filter_append,List.map_append,List.filter_cons_of_pos h];rfl
theorem QpY(h:st c=false):Vw st c=Vw st (c+1):=by
 unfold Vw;rw[List.range_succ,List.filter_append,List.map_append,List.filter_cons_of_neg (by rw[h];exact Bool.false_ne_true),List.filter_nil,List.map_nil,List.append_nil]
theorem QlW(st:Nat->Bool)(c:Nat):(Vw st c).length<=c:=by
 unfold Vw;rw[List.length_map];exact Nat.le_trans (List.length_filter_le _ _) Ql
def V0(F:List Rl)(k:Int):List Int:=Vw ((Vz F).getD k.toNat XH) 256
theorem QuE{w:World}{B b k:Nat}{S:List (Nat->Bool)}(h:Rd w B 256 (some ⟨b,0,none⟩) n (QW S))(hS:S.length=n)(hk:k<n):w.rangeAt b (0+k*256) (QM (S.getD k XH)):=fun q u hu=>by
 rw[Nat.add_assoc];exact h.cellAt Q3 (Q1Z S k Q3 q u hu)
def Q2s(F:List Rl)(k:Int):List Int:=if Q57 F k=(0,0) then V0 F k else []
theorem QtW(h:Q57 F k=(0,0)):Qy F=(0,0)/\0<=k/\k<F.length:=by
 unfold Q57 at h;split at h
 ·next hn=>exact absurd h hn
 ·next hn=>
  split at h
  ·next hi=>
   have:=QY.1 hi;exact⟨Classical.byContradiction hn,by omega,by omega⟩
  ·cases h
theorem QiU(h:Qy F=(0,0)):Xf F=(0,0):=by
 unfold Qy at h;split at h
 ·next hn=>exact absurd h hn
 ·next hn=>exact Classical.byContradiction hn
end
section
variable {B n:Nat}{F:List Rl}{k:Int}{w:World}
theorem QX.below{w w':World}{B:Nat}{A:Option Addr}{n:Nat}{F:List Rl}(h:QX w B A n F)(hb:Below B w w'):QX w' B A n F:=
 ⟨h.1,fun h0=>by
  obtain⟨b,o,e,hB,hc⟩:=h.2 h0;refine⟨b,o,e,hB,fun i r hr=>?_⟩;obtain⟨sb,sn,sp,h1,h2⟩:=hc i r hr
  exact⟨sb,sn,sp,h1.below hb hB,h2.below hb⟩⟩
theorem QX.more{w:World}{B B':Nat}{A:Option Addr}{n:Nat}{F:List Rl}(h:QX w B A n F)(hB:B<=B'):QX w B' A n F:=
 ⟨h.1,fun h0=>by
  obtain⟨b,o,e,hb,hc⟩:=h.2 h0;refine⟨b,o,e,by omega,fun i r hr=>?_⟩;obtain⟨sb,sn,sp,h1,h2⟩:=hc i r hr
  exact⟨sb,sn,sp,h1,h2.more hB⟩⟩
structure RuB(W:World)(B:Nat)(r:Rl)(Ab:Option Addr)(cb:Nat)(An:Option Addr)(cn:Nat)(Ap:Option Addr)(cp:Nat):Prop where
 cb:r.bs.length<=cb
 cn:r.names.length<=cn
 cp:r.parts.length<=cp
 b:Rd W B 1 Ab r.bs.length (bv r.bs)
 n:Rd W B 1 An r.names.length (sv r.names)
 p:Rd W B 1 Ap r.parts.length (iv r.parts)
theorem RuB.below{w w':World}{B:Nat}{r:Rl}{Ab An Ap:Option Addr}{cb cn cp:Nat}(h:RuB w B r Ab cb An cn Ap cp)(hb:Below B w w'):RuB w' B r Ab cb An cn Ap cp:=⟨h.cb,h.cn,h.cp,h.b.below hb,h.n.below hb,h.p.below hb⟩
theorem Kj.listsB{r:Rl}{sb sn sp:Value}(h:Kj w B r sb sn sp):∃Ab cb An cn Ap cp,sb=.slice Ab r.bs.length cb/\sn=.slice An r.names.length cn/\sp=.slice Ap r.parts.length cp/\RuB w B r Ab cb An cn Ap cp:=by
 obtain⟨Ab,nb,cb,An,nn,cn,Ap,np,cp,rfl,rfl,rfl,h1,h2,h3,h4,h5,h6⟩:=h;have e1:r.bs.length=nb:=by have:=h4.len;rw[X5] at this;exact this
 have e2:r.names.length=nn:=by have:=h5.len;unfold sv at this;rw[List.length_map] at this;exact this
 have e3:r.parts.length=np:=by have:=h6.len;rw[Q0B] at this;exact this
 subst e1 e2 e3;exact QkD
theorem QX.ruleB{W:World}{b o:Nat}(h:QX W B (some ⟨b,o,none⟩) n F)(hk:0<=k/\k<n):b<B/\∃Ab cb An cn Ap cp,W.rangeAt b (o+k.toNat*12) (ruC (Qg F k) (.slice Ab (Qg F k).bs.length cb) (.slice An (Qg F k).names.length cn) (.slice Ap (Qg F k).parts.length cp))/\RuB W B (Qg F k) Ab cb An cn Ap cp:=by
 obtain⟨b',o',r,sb,sn,sp,e,hb,hr,hc,hs⟩:=h.at_ (i:=k.toNat) Q3;cases e;rw[Qbk hr];obtain⟨Ab,cb,An,cn,Ap,cp,rfl,rfl,rfl,hl⟩:=hs.listsB;exact⟨hb,Ab,cb,An,cn,Ap,cp,hc.range,hl⟩
def QcN(w:World)(B:Nat)(F:List Rl)(A:Option Addr)(n:Nat):Prop:=∃b o,A=some ⟨b,o,none⟩/\b<B/\∀k,k<n->∃Ak ck,w.cell? ⟨b,o+k,none⟩=some (.slice Ak (V0 F k).length ck)/\Rd w B 1 Ak (V0 F k).length (iv (V0 F k))/\(V0 F k).length<=ck
theorem QcN.below{w w':World}{B n:Nat}{F:List Rl}{A:Option Addr}(h:QcN w B F A n)(hb:Below B w w'):QcN w' B F A n:=by
 obtain⟨b,o,e,hB,hc⟩:=h;refine⟨b,o,e,hB,fun k hk=>?_⟩;obtain⟨Ak,ck,h1,h2,h3⟩:=hc k hk;exact⟨Ak,ck,(hb.cell YS).trans h1,h2.below hb,h3⟩
theorem QcN.more{w:World}{B B' n:Nat}{F:List Rl}{A:Option Addr}(h:QcN w B F A n)(hB:B<=B'):QcN w B' F A n:=by
 obtain⟨b,o,e,hb,hc⟩:=h;refine⟨b,o,e,by omega,fun k hk=>?_⟩;obtain⟨Ak,ck,h1,h2,h3⟩:=hc k hk;exact⟨Ak,ck,h1,h2.more hB,h3⟩
theorem Qpc{c:UInt8}:XI (V0 F k) (c.toNat:Int)=fir F k c:=by
 unfold XI fir V0 Vw;rw[Bool.eq_iff_iff,List.contains_iff_mem,List.mem_map];constructor
 ·rintro⟨j,hj,e⟩
  rw[List.mem_filter] at hj;have:j=c.toNat:=by omega
  rw[<- this];exact hj.2
 ·intro h;exact⟨c.toNat,List.mem_filter.2 ⟨List.mem_range.2 c.toNat_lt,h⟩,rfl⟩
structure Q2P(w:World)(B:Nat)(F:List Rl)(D:List UInt8)(Af As Ad:Option Addr)(n nd:Nat):Prop where
 fm:QX w B Af n F
 fr:QcN w B F As n
 dt:Rd w B 1 Ad nd (bv D)
theorem Q2P.below{w w':World}{B n nd:Nat}{F:List Rl}{D:List UInt8}{Af As Ad:Option Addr}(h:Q2P w B F D Af As Ad n nd)(hb:Below B w w'):Q2P w' B F D Af As Ad n nd:=⟨h.fm.below hb,h.fr.below hb,h.dt.below hb⟩
theorem Q2P.keep{w':World}{g nd:Nat}{D:List UInt8}{Af As Ad:Option Addr}(h:Q2P w B F D Af As Ad n nd)(hB:B<=g)(hg:g<w.heap.size)(hk:Xz [g] w w'):Q2P w' B F D Af As Ad n nd:=
 h.below ⟨hk.os,hk.tape,hk.output,hk.size,fun k hk'=>hk.block k Q3 Q4W⟩
theorem Q2P.len{w:World}{B n nd:Nat}{F:List Rl}{D:List UInt8}{Af As Ad:Option Addr}(h:Q2P w B F D Af As Ad n nd):D.length=nd/\F.length=n:=⟨by have:=h.dt.len;rw[X5] at this;exact this,h.fm.1⟩
end
section
variable {a b m r:Int}{t t':TypeId}{x y:Operand}
theorem QdX(a b:Nat)(ha:a<4611686018427387904)(hb:b<4611686018427387904):bits .or .i64 (a:Int) (b:Int)=((a|||b:Nat):Int):=by
 have hx:a|||b<2 ^ 62:=Nat.or_lt_two_pow Q3 Q3;have h1:(BitVec.ofInt 64 (a:Int)).toNat=a:=by
  rw[BitVec.ofInt_natCast,BitVec.toNat_ofNat];exact QaI
 have h2:(BitVec.ofInt 64 (b:Int)).toNat=b:=by
  rw[BitVec.ofInt_natCast,BitVec.toNat_ofNat];exact QaI
 show IntKind.i64.wrap ((BitVec.ofInt 64 (a:Int)|||BitVec.ofInt 64 (b:Int)).toNat:Int)=_;rw[BitVec.toNat_or,h1,h2];exact Q1X
theorem QkJ(i:Nat)(hi:i<=60)(ha:a=2 ^ i*m)(hm:0<=m)(hb:0<=b/\b<2 ^ i)(h:a<4611686018427387904):bits .or .i64 a b=a+b:=by
 obtain⟨k,rfl⟩:∃k:Nat,m=(k:Int):=⟨m.toNat,by omega⟩;obtain⟨c,rfl⟩:∃c:Nat,b=(c:Int):=⟨b.toNat,by omega⟩;have hc:c<2 ^ i:=by have:=hb.2;exact_mod_cast this
 have e:a=((2 ^ i*k:Nat):Int):=by rw[ha];push_cast;rfl
 have hp:(2:Nat) ^ i<=2 ^ 60:=Nat.pow_le_pow_right Q3 hi;rw[e] at h ⊢;rw[QdX _ _ Q3 Q3,<- Nat.two_pow_add_eq_or_of_lt hc];push_cast;rfl
theorem QqN(i:Nat)(hi:i<=60)(hb:b=2 ^ i*m)(hm:0<=m)(ha:0<=a/\a<2 ^ i)(h:b<4611686018427387904):bits .or .i64 a b=a+b:=by
 have:=QkJ i hi hb hm ha h;have e:bits .or .i64 a b=bits .or .i64 b a:=by
  unfold bits;simp only;rw[BitVec.or_comm]
 rw[e,this,Int.add_comm]
section
variable {P:Program}{ops:Array Oper}{C:World->Prop}{N:Nat}{E:Env}{o:Oper}{d:Nat}
theorem Qth{k:IntKind}{n:Int}(ho:o.op=.binOp .shl t x y t')(hd:o.dst=some d)(hN:d<N)(hw:Qi ops E o=some true)(hx:ev E x=some (.int .i64 m))(hy:ev E y=some (.int k n))(h0:0<=n/\n<=64)(hr:m*2 ^ n.toNat=r)(hb:-9223372036854775808<=r/\r<=9223372036854775807):oE P ops C N E ((d,.int .i64 r)::E) o:=
 Q0K ho hd hN hw hx hy fun w=>by
  rw[binOp_shl,shift_shl_i64 (h₀:=h0.1) (h₁:=h0.2),hr,IntWalk.i64_in _ hb];rfl
theorem QvM(ho:o.op=.binOp .or t x y t')(hd:o.dst=some d)(hN:d<N)(hw:Qi ops E o=some true)(hx:ev E x=some (.int .i64 a))(hy:ev E y=some (.int .i64 b))(hr:bits .or .i64 a b=r):oE P ops C N E ((d,.int .i64 r)::E) o:=
 Q0K ho hd hN hw hx hy fun w=>by
  rw[binOp_or,intBits_or,hr];rfl
end
end
section
variable {c:UInt8}{l:List UInt8}
theorem QdH(c:UInt8):∀l:List UInt8,leN (l++[c])=leN l+(c.toNat:Int)*256 ^ l.length
 |[]=>by simp [leN]
 |x::l=>by
  show (x.toNat:Int)+256*leN (l++[c])=(x.toNat:Int)+256*leN l+(c.toNat:Int)*256 ^ (l.length+1)
  rw[QdH c l,Int.pow_succ,Int.mul_add,<- Int.mul_assoc,<- Int.mul_assoc,Int.mul_comm 256 (c.toNat:Int),Int.mul_assoc,Int.mul_comm 256 (256 ^ l.length),Int.mul_assoc]
  omega
theorem Qew(l:List UInt8)(c:UInt8):X1 true (l++[c])=X1 true l*256+(c.toNat:Int):=by
 unfold X1;rw[if_pos rfl,if_pos rfl,List.reverse_append];show (c.toNat:Int)+256*leN l.reverse=_;omega
theorem Q7K(l:List UInt8)(c:UInt8):X1 false (l++[c])=X1 false l+(c.toNat:Int)*256 ^ l.length:=by
 unfold X1;exact QdH c l
theorem Q93(b:Bool)(l:List UInt8):X1 b l<256 ^ l.length:=by
 unfold X1;split
 ·have:=QeM l.reverse;rwa [List.length_reverse] at this
 ·exact QeM l
theorem QfA(i:Nat):(256:Int) ^ i=2 ^ (8*i):=by rw[Int.pow_mul];rfl
theorem QlH(h:l.length<4):X1 true l*2 ^ (8:Int).toNat=X1 true l*256/\bits .or .i64 (X1 true l*256) (c.toNat:Int)=X1 true (l++[c])/\0<=X1 true l*256/\X1 true l*256<4294967296:=by
 have h0:=Q3M true l;have h1:=Q93 true l;have hc:=c.toNat_lt;have h2:X1 true l<16777216:=by
  rcases (show l.length=0\/l.length=1\/l.length=2\/l.length=3 by omega) with e|e|e|e<;>rw[e] at h1<;>simp at h1<;>omega
 refine⟨rfl,?_,by omega,by omega⟩;rw[Qew];exact QkJ 8 Q3 (m:=X1 true l) Q3 h0 ⟨by omega,by simp;omega⟩ Q3
theorem QcM(h:l.length<4):(c.toNat:Int)*2 ^ (8*(l.length:Int)).toNat=(c.toNat:Int)*256 ^ l.length/\bits .or .i64 (X1 false l) ((c.toNat:Int)*256 ^ l.length)=X1 false (l++[c])/\0<=(c.toNat:Int)*256 ^ l.length/\(c.toNat:Int)*256 ^ l.length<4294967296:=by
 have h0:=Q3M false l;have h1:=Q93 false l;have hc:=c.toNat_lt;have e8:(8*(l.length:Int)).toNat=8*l.length:=by omega
 have hb:0<=(c.toNat:Int)*256 ^ l.length/\(c.toNat:Int)*256 ^ l.length<4294967296:=by
  rcases (show l.length=0\/l.length=1\/l.length=2\/l.length=3 by omega) with e|e|e|e<;>rw[e]<;>simp<;>omega
 refine⟨by rw[e8,QfA],?_,hb⟩;rw[Q7K];refine QqN (8*l.length) Q3 (m:=(c.toNat:Int)) (by rw[QfA,Int.mul_comm]) Q3 ⟨h0,by rw[<- QfA];exact h1⟩ Q3
end
section
variable {c:UInt8}{e:Nat}{y:Nd×VF×Nat}
section
variable {F:List Rl}{D:List UInt8}{f p:Nat}{k:Int}
theorem Qpq(h:(Qg F k).kind=1):QE F D (f+1) k p=rb (Q0x (Qg F k).bs (D.drop p) p) fun q=>okR (ndL,.nil,q):=by
 rw[QE];rw[if_pos h]
theorem QnL(h:(Qg F k).kind=2\/(Qg F k).kind=3):QE F D (f+1) k p=rb (Q0a (Qg F k) D p) fun y=>okR (ndN y.1,.nil,y.2):=by
 rw[QE];rw[if_neg Q3,if_pos h]
theorem Qqq(h:(Qg F k).kind=4):QE F D (f+1) k p=rb (VE D p (Qg F k).size) fun y=>okR (ndB y.1,.nil,y.2):=by
 rw[QE];rw[if_neg Q3,if_neg Q3,if_pos h]
theorem QmL(h:(Qg F k).kind=10):QE F D (f+1) k p=rb (Q0a (Qg F (Qg F k).count) D p) fun x=>rb (VE D x.2 x.1) fun y=>okR (ndB y.1,.nil,y.2):=by
 rw[QE];exact QqS
theorem QqF(h:(Qg F k).kind=5):QE F D (f+1) k p=rb (Kn (Qg F k).stop (Qg F k).size (D.drop p) 0 p) fun q=>okR (ndB ((D.drop p).take (q - p)),.nil,q+1):=by
 rw[QE];exact Qnx
theorem Qqg(h:(Qg F k).kind=6):QE F D (f+1) k p=rb (Q0a (Qg F (Qg F k).count) D p) fun x=>rb (JK (QE F D f (Qg F k).elem) x.1.toNat x.2) fun z=>okR (ndL,z.1,z.2):=by
 rw[QE];exact Qox
theorem QpN(h:(Qg F k).kind=9):QE F D (f+1) k p=rb (Ve (QE F D f (Qg F k).elem) D (Qg F k).stop (D.length+1) p) fun z=>okR (ndL,z.1,z.2):=by
 rw[QE];exact Qk3
theorem Qk0(h:(Qg F k).kind=8)(hc:D[p]? =none):QE F D (f+1) k p=erR p:=by
 rw[QE];rw[if_neg Q3,if_neg Q3,if_neg Q3,if_neg Q3,if_neg Q3,if_neg Q3,if_neg Q3,if_pos h,hc]
theorem QnI(h:(Qg F k).kind=8)(hc:D[p]? =some c)(hi:VU F (Qg F k).parts c=none):QE F D (f+1) k p=erR p:=by
 exact QrF
theorem Qqe{i:Nat}(h:(Qg F k).kind=8)(hc:D[p]? =some c)(hi:VU F (Qg F k).parts c=some i):QE F D (f+1) k p=rb (QE F D f ((Qg F k).parts.getD i 0) p) fun y=>okR (ndL,.cons (ndN (i:Int)) .nil (.cons y.1 y.2.1 .nil),y.2.2):=by
 exact QrF
theorem Qqs(h:(Qg F k).kind=7):QE F D (f+1) k p=rb (Vg (QE F D f) (Qg F k).names (Qg F k).parts p) fun z=>okR (ndR z.1,z.2.1,z.2.2):=by
 rw[QE];exact Qrr
def VF.cat:VF->VF->VF
 |.nil,G=>G
 |.cons d p r,G=>.cons d p (VF.cat r G)
theorem VF.cat_nil:∀A:VF,A.cat .nil=A
 |.nil=>rfl
 |.cons d p r=>by show VF.cons d p (r.cat .nil)=_;rw[VF.cat_nil r]
theorem VF.snoc_cat(d:Nd)(p:VF):∀A B:VF,(A.snoc d p).cat B=A.cat (.cons d p B)
 |.nil,B=>rfl
 |.cons d' p' r,B=>by show VF.cons d' p' ((r.snoc d p).cat B)=VF.cons d' p' (r.cat (.cons d p B));rw[VF.snoc_cat d p r B]
end
section
variable {α β γ:Type}
theorem Q3z(x:Rdg α)(g:α->Rdg β)(h:β->Rdg γ):rb (rb x g) h=rb x fun a=>rb (g a) h:=by
 cases x with
 |none=>rfl
 |some x=>cases x<;>rfl
theorem Q2o(a:α)(g:α->Rdg β):rb (okR a) g=g a:=rfl
end
section
variable {one:Nat->Rdg (Nd×VF×Nat)}{D:List UInt8}{A:VF}{n f p:Nat}{stop:Int}
def JX(one:Nat->Rdg (Nd×VF×Nat))(A:VF)(n p:Nat):Rdg (VF×Nat):=rb (JK one n p) fun z=>okR (A.cat z.1,z.2)
theorem QaU:JX one .nil n p=JK one n p:=by
 unfold JX;cases JK one n p with
 |none=>rfl
 |some y=>cases y<;>rfl
theorem Qe4:JX one A 0 p=okR (A,p):=by
 unfold JX JK;rw[Q2o,VF.cat_nil]
theorem Qia(h:one p=some (.error e)):JX one A (n+1) p=some (.error e):=by
 unfold JX JK;rw[h];rfl
theorem Qjb(h:one p=some (.ok y)):JX one A (n+1) p=JX one (A.snoc y.1 y.2.1) n y.2.2:=by
 unfold JX;rw[JK,Q4U h,Q3z];congr 1;funext z;rw[Q2o,VF.snoc_cat]
def Y2(one:Nat->Rdg (Nd×VF×Nat))(D:List UInt8)(stop:Int)(A:VF)(f p:Nat):Rdg (VF×Nat):=rb (Ve one D stop f p) fun z=>okR (A.cat z.1,z.2)
theorem Qdx:Y2 one D stop .nil f p=Ve one D stop f p:=by
 unfold Y2;cases Ve one D stop f p with
 |none=>rfl
 |some y=>cases y<;>rfl
theorem QjD(h:D[p]? =none):Y2 one D stop A (f+1) p=some (.error p):=by
 unfold Y2;rw[Ve,h];rfl
theorem Qif(h:D[p]? =some c)(hs:(c.toNat:Int)=stop):Y2 one D stop A (f+1) p=okR (A,p+1):=by
 unfold Y2;rw[Ve,h];simp only;rw[if_pos hs,Q2o,VF.cat_nil]
theorem QmP(h:D[p]? =some c)(hs:¬(c.toNat:Int)=stop)(h1:one p=some (.error e)):Y2 one D stop A (f+1) p=some (.error e):=by
 unfold Y2;rw[Ve,h];simp only;rw[if_neg hs,h1];rfl
theorem Qkf(h:D[p]? =some c)(hs:¬(c.toNat:Int)=stop)(h1:one p=some (.ok y)):Y2 one D stop A (f+1) p=Y2 one D stop (A.snoc y.1 y.2.1) f y.2.2:=by
 unfold Y2;rw[Ve,h];simp only;rw[if_neg hs,Q4U h1,Q3z];congr 1;funext z;rw[Q2o,VF.snoc_cat]
def Vm(one:Int->Nat->Rdg (Nd×VF×Nat))(N:List (List UInt8))(A:VF)(ns:List (List UInt8))(ks:List Int)(p:Nat):Rdg (List (List UInt8)×VF×Nat):=rb (Vg one ns ks p) fun z=>okR (N++z.1,A.cat z.2.1,z.2.2)
section
variable {one:Int->Nat->Rdg (Nd×VF×Nat)}{N ns:List (List UInt8)}{ks:List Int}{nm:List UInt8}{k:Int}
theorem QdQ:Vm one [] .nil ns ks p=Vg one ns ks p:=by
 unfold Vm;cases Vg one ns ks p with
 |none=>rfl
 |some y=>cases y<;>rfl
theorem Qiq:Vm one N A ns [] p=okR (N,A,p):=by
 unfold Vm;have e:Vg one ns [] p=okR ([],.nil,p):=by cases ns<;>rfl
 rw[e,Q2o,VF.cat_nil,List.append_nil]
theorem QmC(h:one k p=some (.error e)):Vm one N A (nm::ns) (k::ks) p=some (.error e):=by
 unfold Vm;rw[Vg,h];rfl
theorem QkO(hn:nm=[])(h:one k p=some (.ok y)):Vm one N A (nm::ns) (k::ks) p=Vm one N A ns ks y.2.2:=by
 unfold Vm;rw[Vg,Q4U h,Q3z];congr 1;funext z;rw[if_pos hn,Q2o]
theorem Qi8(hn:nm≠[])(h:one k p=some (.ok y)):Vm one N A (nm::ns) (k::ks) p=Vm one (N++[nm]) (A.snoc y.1 y.2.1) ns ks y.2.2:=by
 unfold Vm;rw[Vg,Q4U h,Q3z];congr 1;funext z;rw[if_neg hn,Q2o,VF.snoc_cat,List.append_assoc];rfl
end
end
end
section
variable {B g p:Nat}{D:List UInt8}{F:List Rl}{W:World}
def JM(c x:Int):List PanicEntry:=[{ v:=.iface 32 (.agg #[.int .i64 c,.int .i64 x]),recovered:=false }]
structure Rv where
 Af:Option Addr
 As:Option Addr
 Ad:Option Addr
 n:Nat
 nd:Nat
 cf:Nat
 cs:Nat
 cd:Nat
def Rv.cells(z:Rv)(p:Nat):List Value:=[.slice z.Af z.n z.cf,.slice z.As z.n z.cs,.slice z.Ad z.nd z.cd,.int .i64 (p:Int)]
abbrev Rv.obj(z:Rv)(p:Nat):Obj:=.cells (z.cells p).toArray 60 (0,0)
structure J2(W:World)(z:Rv)(B g:Nat)(F:List Rl)(D:List UInt8)(p:Nat):Prop where
 env:Q2P W B F D z.Af z.As z.Ad z.n z.nd
 hB:B<=g
 cur:W.heap[g]? =some (z.obj p)
 hn:z.n<=z.cf
 hnd:z.nd<=z.cd
 hcd:z.cd<=maxLen
 hp:p<=D.length
 hD:D.length<=1048576
theorem J2.lt{z:Rv}(h:J2 W z B g F D p):g<W.heap.size:=(Array.getElem?_eq_some_iff.1 h.cur).1
theorem J2.next{w:World}{z:Rv}{q:Nat}(h:J2 W z B g F D p)(hk:Xz [g] W w)(hq:q<=D.length)(hc:w.heap[g]? =some (z.obj q)):J2 w z B g F D q:=
 ⟨h.env.keep h.hB h.lt hk,h.hB,hc,h.hn,h.hnd,h.hcd,hq,h.hD⟩
theorem J2.len{W:World}{z:Rv}{B g p:Nat}{F:List Rl}{D:List UInt8}(h:J2 W z B g F D p):D.length=z.nd/\F.length=z.n:=h.env.len
theorem J2.wd{z:Rv}(h:J2 W z B g F D p):Wd [g] W [.blk g (z.obj p)] W:=Wd.startB h.cur
theorem J2.byte{z:Rv}{i:Nat}{c:UInt8}(h:J2 W z B g F D p)(hc:D[i]? =some c):∃b o,z.Ad=some ⟨b,o,none⟩/\b<B/\W.cell? ⟨b,o+i,none⟩=some (.int .u8 (c.toNat:Int)):=by
 have hi:i<D.length:=(List.getElem?_eq_some_iff.1 hc).1;have hl:=h.len.1;obtain⟨b,o,e,hb,hcc⟩:=h.env.dt.2 Q3;refine⟨b,o,e,hb,hcc i _ ?_⟩;unfold bv;rw[List.getElem?_map,hc];rfl
def NmE(z:Rv)(g:Nat)(W:World)(res:Rdg (Int×Nat))(e:Ending)(w':World):Prop:=Xz [g] W w'/\((∃x:Nat,res=some (.error x)/\e=.panicked (JM 1 x))\/∃n q,res=some (.ok (n,q))/\e=.returned (.int .i64 n)/\w'.heap[g]? =some (z.obj q))
def ByE(z:Rv)(B g:Nat)(W:World)(res:Rdg (List UInt8×Nat))(e:Ending)(w':World):Prop:=Xz [g] W w'/\((∃x:Nat,res=some (.error x)/\e=.panicked (JM 1 x))\/∃l q A c,res=some (.ok (l,q))/\e=.returned (.slice A l.length c)/\w'.heap[g]? =some (z.obj q)/\Rd w' B 1 A l.length (bv l)/\l.length<=c)
def VlE(z:Rv)(g:Nat)(W:World)(res:Rdg (Nd×VF×Nat))(e:Ending)(w':World):Prop:=Xz [g] W w'/\((∃x:Nat,res=some (.error x)/\e=.panicked (JM 1 x))\/∃d l q v L,res=some (.ok (d,l,q))/\e=.returned v/\w'.heap[g]? =some (z.obj q)/\XA L v d l/\New L W.heap.size w')
end
abbrev Wtg:Type:=Except Nat (List UInt8×Nat)
def apW(b:List UInt8):Wtg->Wtg
 |.error e=>.error e
 |.ok (b',m)=>.ok (b++b',m)
def bnW(x:Wtg)(f:Nat->Wtg):Wtg:=match x with|.error e=>.error e|.ok (b,m)=>apW b (f m)
theorem V7(x:Wtg):apW [] x=x:=by rcases x with e|⟨b,m⟩<;>rfl
theorem Q3j(a b:List UInt8)(x:Wtg):apW a (apW b x)=apW (a++b) x:=by
 rcases x with e|⟨c,m⟩
 ·rfl
 ·show Except.ok (a++(b++c),m)=Except.ok (a++b++c,m)
  rw[List.append_assoc]
theorem Qqm(a:List UInt8)(x:Wtg)(f:Nat->Wtg):apW a (bnW x f)=bnW (apW a x) f:=by
 rcases x with e|⟨c,m⟩
 ·rfl
 ·exact Q3j _ _ _
theorem QpT(x:Wtg)(f g:Nat->Wtg):bnW (bnW x f) g=bnW x fun m=>bnW (f m) g:=by
 rcases x with e|⟨c,m⟩
 ·rfl
 ·show bnW (apW c (f m)) g=apW c (bnW (f m) g)
  rw[Qqm]
theorem Qln(b:List UInt8)(m:Nat)(f:Nat->Wtg):bnW (.ok (b,m)) f=apW b (f m):=rfl
def QD(F:List Rl)(k:Int)(d:Nd)(p:VF)(n:Nat):Wtg:=
 if Xm F (Qg F k) d p=true then apW (ZG F (Qg F k) d p) (Xw F p (Vs F (Qg F k) p) (Q1R F (Qg F k)) (n+1)) else .error n
def Q1f(F:List Rl)(k:Int):VF->Nat->Wtg
 |.nil,n=>.ok ([],n)
 |.cons d p r,n=>bnW (QD F k d p n) fun m=>Q1f F k r m
def Q1d(F:List Rl):List (List UInt8)->List Int->VF->Nat->Wtg
 |nm::nms,k::ks,l,n=>if nm=[] then apW (Qg F k).bs (Q1d F nms ks l n) else match l with
  |.cons d p r=>bnW (QD F k d p n) fun m=>Q1d F nms ks r m
  |.nil=>.ok ([],n)
 |_,_,_,n=>.ok ([],n)
theorem Q3Q(F:List Rl)(nm:List UInt8)(nms:List (List UInt8))(k:Int)(ks:List Int)(l:VF)(n:Nat):Q1d F (nm::nms) (k::ks) l n=if nm=[] then apW (Qg F k).bs (Q1d F nms ks l n) else match l with
  |.cons d p r=>bnW (QD F k d p n) fun m=>Q1d F nms ks r m
  |.nil=>.ok ([],n):=by
 cases l<;>rfl
section
variable {F:List Rl}{suf b b' pre:List UInt8}{ps:List (List UInt8×Option Int)}{d:Nd}{p r:VF}{k:Int}{n:Nat}
theorem Q0v:Xw F (.cons d p r) ((pre,some k)::ps) suf n=apW pre (bnW (QD F k d p n) fun m=>Xw F r ps suf m):=by
 rw[Xw];unfold QD;split
 ·generalize Xw F p (Vs F (Qg F k) p) (Q1R F (Qg F k)) (n+1)=x
  rcases x with e|⟨b,m⟩
  ·rfl
  ·show (match Xw F r ps suf m with|.error e=>.error e|.ok (b',m')=>.ok (pre++(ZG F (Qg F k) d p++b)++b',m'))=apW pre (apW (ZG F (Qg F k) d p++b) (Xw F r ps suf m))
   generalize Xw F r ps suf m=y;rcases y with e|⟨b',m'⟩
   ·rfl
   ·simp [apW]
 ·rfl
theorem Ki:Xw F (.cons d p .nil) [([],some k)] [] n=QD F k d p n:=by
 rw[Q0v,V7];generalize QD F k d p n=x;rcases x with e|⟨b,m⟩
 ·rfl
 ·show apW b (Xw F .nil [] [] m)=_
  simp [Xw,apW]
theorem Q2b(suf:List UInt8):∀(l:VF) (n:Nat),Xw F l (List.replicate l.len ([],some k)) suf n=bnW (Q1f F k l n) fun m=>.ok (suf,m)
 |.nil,n=>by
  show Xw F .nil _ suf n=apW [] (.ok (suf,n))
  rw[V7]
  simp [Xw]
 |.cons d p r,n=>by
  show Xw F (.cons d p r) (([],some k)::List.replicate r.len ([],some k)) suf n=bnW (bnW (QD F k d p n) fun m=>Q1f F k r m) _
  rw[Q0v,V7,QpT]
  congr 1
  funext m
  exact Q2b suf r m
theorem Qqv(x:Wtg):(bnW x fun m=>.ok ([],m))=x:=by
 rcases x with e|⟨b,m⟩
 ·rfl
 ·show Except.ok (b++[],m)=_
  rw[List.append_nil]
theorem Q2c:∀(ns:List (List UInt8)) (ks:List Int) (l:VF) (n:Nat) (acc:List UInt8),ns.length=ks.length->l.len=(Xa ns).length->Xw F l (Q61 F ns ks acc).1 (Q61 F ns ks acc).2 n=apW acc (Q1d F ns ks l n)
 |[],[],l,n,acc,_,hl=>by
  have:l=.nil:=by cases l with|nil=>rfl|cons d p r=>simp [VF.len,Xa] at hl
  subst this;simp [Q61,Q1d,Xw,apW]
 |nm::ns,k::ks,l,n,acc,h1,h2=>by
  have h1':ns.length=ks.length:=by simpa using h1
  rw[Q61,Q3Q];by_cases hn:nm=[]
  ·rw[if_pos hn,if_pos hn,Q3j];refine Q2c ns ks l n _ h1' ?_;rw[h2,hn]
   rfl
  ·rw[if_neg hn,if_neg hn]
   have e:Xa (nm::ns)=nm::Xa ns:=by unfold Xa;rw[List.filter_cons_of_pos (by simpa using hn)]
   rw[e] at h2;cases l with
   |nil=>simp [VF.len] at h2
   |cons d p r=>
    simp only;rw[Q0v];congr 1;congr 1;funext m;have:=Q2c ns ks r m [] h1' (by simpa [VF.len] using h2);rw[V7] at this;exact this
def QU:VF->Nat
 |.nil=>0
 |.cons d p r=>300+d.bs.length+QU p+QU r
abbrev QH(d:Nd)(p:VF):Nat:=300+d.bs.length+QU p
theorem Qep(h:Xm F (Qg F k) d p=false):QD F k d p n=.error n:=by unfold QD;rw[h];rfl
theorem Qbr(h:Xm F (Qg F k) d p=true)(hi:Vs F (Qg F k) p=[])(ht:Q1R F (Qg F k)=[]):QD F k d p n=.ok (ZG F (Qg F k) d p,n+1):=by
 unfold QD;rw[if_pos h,hi,ht];cases p<;>simp [Xw,apW]
theorem QjS(h:Xm F (Qg F k) d p=true)(hk:(Qg F k).kind=6):QD F k d p n=apW (YO (Qg F (Qg F k).count) (p.len:Int)) (Q1f F (Qg F k).elem p (n+1)):=by
 unfold QD;rw[if_pos h,Q78 (.inl hk),Q3Y Q3 Q3,Q2b,Qqv];unfold ZG;rw[if_neg Q3,if_neg Q3,if_neg Q3,if_neg Q3,if_neg Q3,if_pos hk]
theorem Qpb(h:Xm F (Qg F k) d p=true)(hk:(Qg F k).kind=9):QD F k d p n=bnW (Q1f F (Qg F k).elem p (n+1)) fun m=>.ok ([Yq (Qg F k)],m):=by
 unfold QD;rw[if_pos h,Q78 (.inr hk),Q2b];unfold ZG Q1R;rw[if_neg Q3,if_neg Q3,if_neg Q3,if_neg Q3,if_neg Q3,if_neg Q3,if_pos hk,V7]
theorem QoQ{d1 d2:Nd}{p1 p2:VF}(h:Xm F (Qg F k) d (.cons d1 p1 (.cons d2 p2 .nil))=true)(hk:(Qg F k).kind=8):QD F k d (.cons d1 p1 (.cons d2 p2 .nil)) n=QD F ((Qg F k).parts.getD d1.n.toNat 0) d2 p2 (n+2):=by
 have e1:Vs F (Qg F k) (.cons d1 p1 (.cons d2 p2 .nil))=[([],none),([],some ((Qg F k).parts.getD d1.n.toNat 0))]:=by
  unfold Vs;rw[if_neg Q3,if_pos hk];rfl
 have e2:ZG F (Qg F k) d (.cons d1 p1 (.cons d2 p2 .nil))=[]:=by
  exact Qro
 unfold QD;rw[if_pos h,e1,e2,Q3Y Q3 Q3,V7];rw[Xw];have:=Ki (F:=F) (d:=d2) (p:=p2) (k:=(Qg F k).parts.getD d1.n.toNat 0) (n:=n+1+1);rw[this];show _=QD F _ d2 p2 (n+1+1);generalize QD F _ d2 p2 (n+1+1)=x;rcases x with e|⟨b,m⟩<;>rfl
theorem QkB(h:Xm F (Qg F k) d p=true)(hk:(Qg F k).kind=7)(h1:(Qg F k).names.length=(Qg F k).parts.length)(h2:p.len=(Xa (Qg F k).names).length):QD F k d p n=Q1d F (Qg F k).names (Qg F k).parts p (n+1):=by
 have e1:Vs F (Qg F k) p=(Q61 F (Qg F k).names (Qg F k).parts []).1:=by
  unfold Vs;rw[if_neg Q3,if_neg Q3,if_pos hk]
 have e2:Q1R F (Qg F k)=(Q61 F (Qg F k).names (Qg F k).parts []).2:=by
  unfold Q1R;rw[if_neg Q3,if_pos hk]
 have e3:ZG F (Qg F k) d p=[]:=by
  exact Qro
 unfold QD;rw[if_pos h,e1,e2,e3,V7,Q2c _ _ _ _ _ h1 h2,V7]
end
section
variable {M:List Nat}{W w w':World}{O:List Qb}
theorem Wd.upd2{i j:Nat}{x x' y y':Qb}{ks:List Nat}(hij:i≠j)(h:Wd M W O w)(hx:O[i]? =some x)(hy:O[j]? =some y)(hxw:x.w=true)(hyw:y.w=true)(hxw':x'.w=true)(hyw':y'.w=true)(hk:Xz ks w w')(hks:∀b∈ks,x.foot=some b\/y.foot=some b)(hx':x'.on w')(hy':y'.on w')(hfx:∀b,x'.foot=some b->x.foot=some b)(hfy:∀b,y'.foot=some b->y.foot=some b\/w.heap.size<=b):Wd M W ((O.set i x').set j y') w':=by
 have hi:i<O.length:=(List.getElem?_eq_some_iff.1 hx).1;have hj:j<O.length:=(List.getElem?_eq_some_iff.1 hy).1;have hset:∀(l:Nat) (z:Qb),((O.set i x').set j y')[l]? =some z->(l=j/\z=y')\/(l=i/\z=x')\/(l≠i/\l≠j/\O[l]? =some z):=by
  intro l z hz;rw[List.getElem?_set] at hz;by_cases hjl:j=l
  ·subst hjl;rw[if_pos rfl,if_pos (by rw[List.length_set];exact hj)] at hz
   cases hz
   exact .inl ⟨rfl,rfl⟩
  ·rw[if_neg hjl,List.getElem?_set] at hz
   by_cases hil:i=l
   ·subst hil;rw[if_pos rfl,if_pos hi] at hz
    cases hz
    exact .inr (.inl ⟨rfl,rfl⟩)
   ·rw[if_neg hil] at hz;exact .inr (.inr ⟨fun e=>hil e.symm,fun e=>hjl e.symm,hz⟩)
 have hap:∀(l:Nat) (z:Qb) (b:Nat),l≠i->l≠j->O[l]? =some z->z.foot=some b->x.foot≠some b/\y.foot≠some b:=fun l z b h1 h2 hz hf=>
  ⟨fun hfx=>h1 (h.nd l i z x b hz hx hf hfx (by rw[hxw,Bool.or_true])),fun hfy=>h2 (h.nd l j z y b hz hy hf hfy (by rw[hyw,Bool.or_true]))⟩
 have hsz:=h.k.size;refine⟨⟨hk.os.trans h.k.os,hk.tape.trans h.k.tape,hk.output.trans h.k.output,Nat.le_trans h.k.size hk.size,fun k hk1 hn=>?_⟩,?_,?_,?_⟩
 ·rw[hk.block k Q3 (fun hm=>hn (by
   rcases hks k hm with hf|hf
   ·have:=h.new i x k hx hf hk1;rwa [hxw] at this
   ·have:=h.new j y k hy hf hk1
    rwa [hyw] at this))]
  exact h.k.block k hk1 hn
 ·intro l z hz
  rcases hset l z hz with ⟨_,rfl⟩|⟨_,rfl⟩|⟨h1,h2,hz'⟩
  ·exact hy'
  ·exact hx'
  ·refine(h.own l z hz').keep hk.size fun b hf=>hk.block b ((h.own l z hz').lt hf) fun hm=>?_
   rcases hks b hm with h3|h3
   ·exact(hap l z b h1 h2 hz' hf).1 h3
   ·exact(hap l z b h1 h2 hz' hf).2 h3
 ·intro l z b hz hf hlt
  rcases hset l z hz with ⟨_,rfl⟩|⟨_,rfl⟩|⟨h1,h2,hz'⟩
  ·rcases hfy b hf with h3|h3
   ·have:=h.new j y b hy h3 hlt;rw[hyw] at this;rwa [hyw']
   ·omega
  ·have:=h.new i x b hx (hfx b hf) hlt;rw[hxw] at this;rwa [hxw']
  ·exact h.new l z b hz' hf hlt
 ·intro l l' z z' b hz hz' hf hf' hww;have hlx:=(h.own i x hx)
  rcases hset l z hz with ⟨rfl,rfl⟩|⟨rfl,rfl⟩|⟨h1,h2,hz1⟩
  ·rcases hset l' z' hz' with ⟨rfl,rfl⟩|⟨rfl,rfl⟩|⟨h1',h2',hz1'⟩
   ·rfl
   ·have h5:=hfx b hf'
    rcases hfy b hf with h3|h3
    ·exact absurd (h.nd l' l x y b hx hy h5 h3 (by rw[hxw];rfl)) hij
    ·have:=hlx.lt h5;omega
   ·rcases hfy b hf with h3|h3
    ·exact absurd h3 (hap l' z' b h1' h2' hz1' hf').2
    ·have:=(h.own l' z' hz1').lt hf';omega
  ·rcases hset l' z' hz' with ⟨rfl,rfl⟩|⟨rfl,rfl⟩|⟨h1',h2',hz1'⟩
   ·have h5:=hfx b hf
    rcases hfy b hf' with h3|h3
    ·exact absurd (h.nd l l' x y b hx hy h5 h3 (by rw[hxw];rfl)) hij
    ·have:=hlx.lt h5;omega
   ·rfl
   ·exact absurd (hfx b hf) (hap l' z' b h1' h2' hz1' hf').1
  ·rcases hset l' z' hz' with ⟨rfl,rfl⟩|⟨rfl,rfl⟩|⟨h1',h2',hz1'⟩
   ·rcases hfy b hf' with h3|h3
    ·exact absurd h3 (hap l z b h1 h2 hz1 hf).2
    ·have:=(h.own l z hz1).lt hf;omega
   ·exact absurd (hfx b hf') (hap l z b h1 h2 hz1 hf).1
   ·exact h.nd l l' z z' b hz1 hz1' hf hf' hww
end
structure Wz where
 Af:Option Addr
 n:Nat
 cf:Nat
abbrev Wz.obj(z:Wz)(A:Option Addr)(m c n:Nat):Obj:=.cells ([.slice z.Af z.n z.cf,.slice A m c,.int .i64 (n:Int)]:List Value).toArray 77 (0,0)
abbrev Kt(A:Option Addr)(c:Nat)(xs:List UInt8):Qb:=.row A xs.length c 5 1 (bv xs)
abbrev wM(g:Nat)(A:Option Addr)(m c:Nat):List Nat:=g::(Value.slice A m c).ownBlock.toList
theorem Z1{g:Nat}{A:Option Addr}{c b:Nat}{xs:List UInt8}:b∈wM g A xs.length c↔b=g\/(Kt A c xs).foot=some b:=by
 unfold wM;rw[List.mem_cons];show b=g\/b∈(Kt A c xs).foot.toList↔_;rw[Option.mem_toList]
structure XV(W:World)(z:Wz)(B g:Nat)(F:List Rl)(A:Option Addr)(c:Nat)(xs:List UInt8)(n:Nat):Prop where
 fm:QX W B z.Af z.n F
 hB:B<=g
 cur:W.heap[g]? =some (z.obj A xs.length c n)
 row:(Kt A c xs).on W
 far:∀b,(Kt A c xs).foot=some b->B<=b/\b≠g
 hn:z.n<=z.cf
 gv:∀w,Below B W w->GV w
section
variable {M:List Nat}{W w w':World}{O:List Qb}{z:Wz}{B g c c' n m i j cost:Nat}{F:List Rl}{A A':Option Addr}{xs ys_v:List UInt8}{res RES:Wtg}{e:Ending}
theorem XV.lt(h:XV W z B g F A c xs n):g<W.heap.size:=(Array.getElem?_eq_some_iff.1 h.cur).1
theorem XV.len(h:XV W z B g F A c xs n):F.length=z.n:=h.fm.1
theorem XV.wd(h:XV W z B g F A c xs n):Wd (wM g A xs.length c) W [.blk g (z.obj A xs.length c n),Kt A c xs] W:=by
 refine .of_pairs (Xz.refl _ _) ?_ ?_ ?_
 ·intro x hx
  simp only[List.mem_cons,List.not_mem_nil,or_false] at hx;rcases hx with rfl|rfl
  ·exact h.cur
  ·exact h.row
 ·intro x hx b hb _
  simp only[List.mem_cons,List.not_mem_nil,or_false] at hx;rcases hx with rfl|rfl
  ·cases hb;exact Z1.2 (.inl rfl)
  ·exact Z1.2 (.inr hb)
 ·refine List.Pairwise.cons ?_ (List.Pairwise.cons Ql List.Pairwise.nil);intro y hy b hb hb';rw[List.mem_singleton] at hy;subst hy
  cases hb
  exact absurd rfl (h.far _ hb').2
theorem XV.below(h:XV W z B g F A c xs n)(hk:Xz (wM g A xs.length c) W w):Below B W w:=
 ⟨hk.os,hk.tape,hk.output,hk.size,fun k hk1=>hk.block k (by have:=h.lt;have:=h.hB;omega) fun hm=>by
  rcases Z1.1 hm with rfl|hm
  ·exact Vu
  ·have:=(h.far k hm).1;omega⟩
theorem XV.next(h:XV W z B g F A c xs n)(hk:Xz (wM g A xs.length c) W w)(hc:w.heap[g]? =some (z.obj A' ys_v.length c' m))(hr:(Kt A' c' ys_v).on w)(hf:∀b,(Kt A' c' ys_v).foot=some b->(Kt A c xs).foot=some b\/W.heap.size<=b):XV w z B g F A' c' ys_v m:=
 ⟨h.fm.below (h.below hk),h.hB,hc,hr,fun b hb=>by
  rcases hf b hb with h1|h1
  ·exact h.far b h1
  ·have:=h.lt;have:=h.hB;omega,h.hn,fun w' hb=>h.gv w' ((h.below hk).trans hb)⟩
theorem XV.nextW(h:XV W z B g F A c xs n)(hw:Wd (wM g A xs.length c) W O w)(i j:Nat)(hO:O[i]? =some (.blk g (z.obj A' ys_v.length c' m)))(hP:O[j]? =some (Kt A' c' ys_v)):XV w z B g F A' c' ys_v m:=
 h.next hw.k Q9y (hw.own j _ hP) fun b hb=>by
  rcases Nat.lt_or_ge b W.heap.size with hl|hl
  ·have h1:=hw.new j _ b hP hb hl;have h1:b∈wM g A xs.length c:=h1
   rcases Z1.1 h1 with rfl|h2
   ·have:=hw.nd i j _ _ _ hO hP rfl hb rfl;subst this;rw[hO] at hP
    cases hP
   ·exact .inl h2
  ·exact .inr hl
def WrE(z:Wz)(g:Nat)(W:World)(A:Option Addr)(c:Nat)(xs:List UInt8)(res:Wtg)(n cost:Nat)(e:Ending)(w':World):Prop:=
 Xz (wM g A xs.length c) W w'/\((∃x,res=.error x/\e=.panicked (JM 13 (x:Int)))\/∃b m A' c',res=.ok (b,m)/\e=.returned (.tuple #[])/\b.length<=cost/\m<=n+cost/\w'.heap[g]? =some (z.obj A' (xs++b).length c' m)/\(Kt A' c' (xs++b)).on w'/\∀q,(Kt A' c' (xs++b)).foot=some q->(Kt A c xs).foot=some q\/W.heap.size<=q)
def VJ(RES:Wtg)(M:List Nat)(W:World)(ch:List PanicEntry)(w':World):Prop:=∃x,RES=.error x/\ch=JM 13 (x:Int)/\Xz M W w'
structure Wy where
 b:List UInt8
 m:Nat
 A:Option Addr
 c:Nat
theorem Qun(i j:Nat)(hw:Wd M W O w)(hO:O[i]? =some (.blk g (z.obj A xs.length c n)))(hP:O[j]? =some (Kt A c xs))(hk:Xz (wM g A xs.length c) w w'):Xz M W w':=
 hw.k.trans hk fun b hb hlt=>by
  rcases Z1.1 hb with rfl|hb
  ·exact hw.new i _ _ hO rfl hlt
  ·exact hw.new j _ b hP hb hlt
theorem Q9v(i j:Nat)(hij:i≠j)(hw:Wd M W O w)(hO:O[i]? =some (.blk g (z.obj A xs.length c n)))(hP:O[j]? =some (Kt A c xs))(hx:∀x:Nat,res=.error x->RES=.error x)(h:WrE z g w A c xs res m cost e w'):Zu (fun y:Wy=>.tuple #[]) (fun y=>res=.ok (y.b,y.m)/\y.b.length<=cost/\y.m<=m+cost) M W (fun y=>(O.set i (.blk g (z.obj y.A (xs++y.b).length y.c y.m))).set j (Kt y.A y.c (xs++y.b))) (VJ RES M W) e w':=by
 obtain⟨hk,⟨x,h1,h2⟩|⟨b,m',A',c',h1,h2,h3,h4,h5,h6,h7⟩⟩:=h
 ·exact .inr ⟨_,h2,x,hx x h1,rfl,Qun i j hw hO hP hk⟩
 ·exact .inl ⟨⟨b,m',A',c'⟩,h2,⟨h1,h3,h4⟩,hw.upd2 hij hO hP rfl rfl rfl rfl hk (fun q hq=>by
   rcases Z1.1 hq with rfl|hq
   ·exact .inl rfl
   ·exact .inr hq) h5 h6 (fun _ h=>h) h7⟩
theorem Yd(h:XV W z B g F A c xs n)(i j:Nat){b:List UInt8}(hw:Wd (wM g A xs.length c) W O w)(hO:O[i]? =some (.blk g (z.obj A' (xs++b).length c' m)))(hP:O[j]? =some (Kt A' c' (xs++b)))(hr:res=.ok (b,m))(hb:b.length<=cost)(hm:m<=n+cost):WrE z g W A c xs res n cost (.returned (.tuple #[])) w:=
 ⟨hw.k,.inr ⟨b,m,A',c',hr,rfl,hb,hm,hw.own i _ hO,hw.own j _ hP,fun q hq=>by
  rcases Nat.lt_or_ge q W.heap.size with hl|hl
  ·have h1:=hw.new j _ q hP hq hl;have h1:q∈wM g A xs.length c:=h1
   rcases Z1.1 h1 with rfl|h2
   ·have:=hw.nd i j _ _ _ hO hP rfl hq rfl;subst this;rw[hO] at hP
    cases hP
   ·exact .inl h2
  ·exact .inr hl⟩⟩
end
section
variable {b:Bool}{p:Prop}
section
variable {P:Program}{ops:Array Oper}{Q0:Act->Prop}{Q:Exit->Act->World->Prop}{N:Nat}{E:Env}{o:Oper}{rest:List Oper}{M:List Nat}{W:World}{O:List Qb}{d:Nat}
theorem V8[dq:DQ](hp:b=true↔p)(h1:oE P ops (Wd M W O) N E ((d,.bool b)::E) o)(ht:p->lE P ops Q N M W ((d,.bool true)::E) O rest)(hf:¬p->lE P ops Q N M W ((d,.bool false)::E) O rest):lE P ops Q N M W E O (o::rest):=by
 cases b with
 |true=>exact Q4 h1 (ht (hp.1 rfl))
 |false=>exact Q4 h1 (hf fun h=>by have:=hp.2 h;cases this)
theorem Q5r[dq:DQ](hp:b=true↔p)(h1:oE P ops (Wd M W O) N E ((d,.bool b)::E) o)(ht:p->qE P ops (Wd M W O) Q0 N ((d,.bool true)::E) rest)(hf:¬p->qE P ops (Wd M W O) Q0 N ((d,.bool false)::E) rest):qE P ops (Wd M W O) Q0 N E (o::rest):=by
 cases b with
 |true=>exact Qd h1 (ht (hp.1 rfl))
 |false=>exact Qd h1 (hf fun h=>by have:=hp.2 h;cases this)
theorem Q12[Decidable p]:decide p=true↔p:=decide_eq_true_iff
theorem Qb9:b=true↔b=true:=Iff.rfl
theorem Qk[dq:DQ]{y:Code}(h:sE P Q N M W E O y):xE (Exit.then (fun a w=>y.wp P Q a w) Q) N M W E O .normal:=fun a w ha hw=>h a w ha hw
end
end
section
variable {w:World}{x:Qb}{ι:Type}
section
variable {P:Program}{Q:Exit->Act->World->Prop}{N:Nat}{M:List Nat}{W:World}{E:Env}{O:List Qb}
theorem X8{c:Code}(p:ι->Prop)(m:ι->Nat)(F:ι->Env)(G:ι->List Qb)(i0:ι)(h0:p i0)(hE:Q7Z E (F i0))(hG:∀w,Wd M W O w->Wd M W (G i0) w)
  (hr:∀i,p i->sE P (Exit.then (Qh1 p m (m i) N M W F G) Q) N M W (F i) (G i) c):sE P Q N M W E O (.loop c):=fun a w ha hw=>by
 refine wp_loop_ghost (fun n a w=>∃i,p i/\m i=n/\Ag N (F i) a/\Wd M W (G i) w) (m i0) ⟨i0,h0,rfl,hE.ag ha,hG w hw⟩ ?_;rintro n a w ⟨i,hp,rfl,ha,hw⟩;refine wp_mono (hr i hp a w ha hw) ?_;intro e a' w' hq;cases e with
 |normal=>
  exact Qrm
 |exit id=>exact hq
 |goto l=>exact hq
 |ret=>exact hq
 |panic ch=>exact hq
 |outgrown=>exact hq
theorem Qr{p:ι->Prop}{m:ι->Nat}{n:Nat}{F:ι->Env}{G:ι->List Qb}(j:ι)(hp:p j)(hm:m j<n)(hE:Q7Z E (F j))(hG:∀w,Wd M W O w->Wd M W (G j) w):xE (Exit.then (Qh1 p m n N M W F G) Q) N M W E O .normal:=fun a w ha hw=>
 ⟨j,hp,hm,hE.ag ha,hG w hw⟩
end
theorem Wd.tl{M:List Nat}{W:World}{O:List Qb}(h:Wd M W (x::O) w):Wd M W O w:=
 ⟨h.k,fun i y hy=>h.own (i+1) y hy,fun i y b hy hb hl=>h.new (i+1) y b hy hb hl,fun i j y z b hy hz hb hb' hw=>by have:=h.nd (i+1) (j+1) y z b hy hz hb hb' hw;omega⟩
theorem Wd.no2{M:List Nat}{W:World}{y:Qb}{O:List Qb}(h:Wd M W (x::y::O) w):Wd M W (x::O) w:=
 ⟨h.k,fun i z hz=>by
  cases i with
  |zero=>exact h.own 0 z hz
  |succ i=>exact h.own (i+2) z hz,fun i z b hz hb hl=>by
  cases i with
  |zero=>exact h.new 0 z b hz hb hl
  |succ i=>exact h.new (i+2) z b hz hb hl,fun i j z u b hz hu hb hb' hw=>by
  cases i with
  |zero=>
   cases j with
   |zero=>rfl
   |succ j=>have:=h.nd 0 (j+2) z u b hz hu hb hb' hw;omega
  |succ i=>
   cases j with
   |zero=>have:=h.nd (i+2) 0 z u b hz hu hb hb' hw;omega
   |succ j=>have:=h.nd (i+2) (j+2) z u b hz hu hb hb' hw;omega⟩
end
section
variable {t t':TypeId}{x:Operand}
instance iXFzH_1:TN Tryz.prog 155 3:=⟨_,Tryz.underlying155,rfl,by kernel_rfl⟩
instance iXFzH_2:Fld Tryz.prog 155 0 0:=⟨_,_,1,Tryz.underlying155,rfl,rfl,by kernel_rfl,by decide⟩
instance iXFzH_3:Fld Tryz.prog 155 1 1:=⟨_,_,1,Tryz.underlying155,rfl,rfl,by kernel_rfl,by decide⟩
instance iXFzH_4:Fld Tryz.prog 155 2 2:=⟨_,_,1,Tryz.underlying155,rfl,rfl,by kernel_rfl,by decide⟩
section
variable {P:Program}{ops:Array Oper}{C:World->Prop}{N:Nat}{E:Env}{o:Oper}{d:Nat}
theorem QtH{p:Addr}(ho:o.op=.nilCheck x)(hd:o.dst=some d)(hN:d<N)(hw:Qi ops E o=some true)(hx:ev E x=some (.pointer (some p))):oE P ops C N E ((d,.pointer (some p))::E) o:=
 Xd hd hN hw fun ρ w ha _=>by simp [execOp,ho,ha.eval hx,go_sem]
end
section
variable {M:List Nat}{W w:World}{O:List Qb}{br bw q N k c:Nat}{bad:Bool}{ws ns:List (List UInt8)}{A:Option Addr}
end
end
theorem Q1I(c i:Int)(w:World):Calls Tryz.prog 29 #[.int .i64 c,.int .i64 i] w fun e w'=>e=.returned (.agg #[.int .i64 c,.int .i64 i])/\w.alloc (.cells #[.int .i64 c,.int .i64 i] 32)=w':=by
 go_enter Tryz.func29,Tryz.ntmps29;go_wp2
 exact bodyPost_ret (v:=.agg #[.int .i64 c,.int .i64 i]) (by simp [results,Tryz.results29,go_sem]) rfl ⟨rfl,rfl⟩
theorem Qcm(x:Int)(w:World):Calls Tryz.prog 33 #[.int .i64 x] w fun e w'=>e=.panicked (JM 1 x)/\Below w.heap.size w w':=by
 go_enter Tryz.func33,Tryz.ntmps33;go_wp2_with fail
 refine(Q1I _ _ _).mono ?_;rintro e w' ⟨rfl,rfl⟩;go_wp2_with fail
 exact⟨rfl,rfl,Jr _ _⟩
theorem Q0c{M:List Nat}{W w:World}{O:List Qb}{B:List PanicEntry->World->Prop}{x:Int}(hw:Wd M W O w)(hB:∀w',Wd M W O w'->B (JM 1 x) w'):Calls Tryz.prog 33 #[.int .i64 x] w (Zu (ι:=Empty) (fun i=>i.elim) (fun _=>True) M W (fun i=>i.elim) B):=
 (Qcm x w).mono fun e w' h=>.inr ⟨_,h.1,hB w' (hw.on h.2)⟩
theorem J2.cell{W:World}{z:Rv}{B g p:Nat}{F:List Rl}{D:List UInt8}(h:J2 W z B g F D p):W.cell? ⟨g,0,none⟩=some (.slice z.Af z.n z.cf)/\W.cell? ⟨g,1,none⟩=some (.slice z.As z.n z.cs)/\W.cell? ⟨g,2,none⟩=some (.slice z.Ad z.nd z.cd)/\W.cell? ⟨g,3,none⟩=some (.int .i64 (p:Int)):=by
 have hc:=h.cur;refine⟨?_,?_,?_,?_⟩<;>(rw[cell_of_row W g _ _ _ _ hc];rfl)
section
variable {W:World}{z:Rv}{B g p:Nat}{F:List Rl}{D:List UInt8}
def PkE(D:List UInt8)(p:Nat)(W:World)(e:Ending)(w':World):Prop:=Below W.heap.size W w'/\((D[p]? =none/\e=.panicked (JM 1 (p:Int)))\/∃c,D[p]? =some c/\e=.returned (.int .u8 (c.toNat:Int)))
theorem Q6c(h:J2 W z B g F D p):Calls Tryz.prog 65 #[.pointer (some ⟨g,0,none⟩)] W (PkE D p W):=by
 obtain⟨_,_,hc2,hc3⟩:=h.cell;have hl:=h.len.1;have hp:=h.hp;have hD:=h.hD;have hby:=fun c hc=>h.byte (i:=p) (c:=c) hc;clear h;obtain⟨Af,As,Ad,n,nd,cf,cs,cd⟩:=z;simp only at hc2 hc3 hl hby;subst hl;cases hcp:D[p]? with
 |none=>
  have hpe:p=D.length:=by
   rcases Nat.lt_or_ge p D.length with hlt|hge
   ·rw[List.getElem?_eq_getElem hlt] at hcp;cases hcp
   ·omega
  subst hpe;clear hby;have HN:=Q2 hcp;clear hcp;go_enter Tryz.func65,Tryz.ntmps65;haveI:Pan (bodyPost Tryz.prog Tryz.f65 (PkE D D.length W)) (fun ch w'=>ch=JM 1 (D.length:Int)/\Below W.heap.size W w'):=Pan.body fun ch w' hb=>⟨hb.2,.inl ⟨HN.out,by rw[hb.1]⟩⟩;refine Qs (M:=[]) (W:=W) (N:=28) (E:=[ZR]) (O:=[]) ?_ Zj QV;refine Qha ?_;refine Q6z ?_;refine Q6z ?_;refine Qd zL ?_;refine Qd zet ?_;refine ZJ ?_;refine yn<|y1<|yr<|yo zM ?_;refine Q4 mc5 ?_;refine yo zF<|yo zC ?_;exact Qtx
 |some c=>
  have hlt:p<D.length:=(List.getElem?_eq_some_iff.1 hcp).1;obtain⟨b,o,rfl,_,hcell⟩:=hby c hcp;clear hby;have HN:=Q2 hcp;clear hcp;have hne:((p:Int)==(D.length:Int))=false:=beq_eq_false_iff_ne.2 Q3;go_enter Tryz.func65,Tryz.ntmps65;refine Qs (M:=[]) (W:=W) (N:=28) (E:=[ZR]) (O:=[]) ?_ Zj QV;refine Qha ?_;refine Q6z ?_;refine Q6z ?_;refine Qd zL ?_;refine Qd zea ?_;refine ZJ ?_;refine yn<|y0<|ys<|yn<|yq<|Xt Q5 Q5 ?_;refine Q6z ?_;refine Q6z ?_;refine Qd zi1 ?_;refine Qd zC ?_;refine Q6I ?_;exact Q7 mc4 rfl (.tmp rfl) (fun w hw=>⟨hw.k.below,.inr ⟨c,HN.out,rfl⟩⟩)
end
theorem Q3G{w:World}{B n c p m:Nat}{A:Option Addr}{D:List UInt8}(h:Rd w B 1 A n (bv D))(hk:p+m<=n)(hc:n<=c):((D.drop p).take m).length=m/\Rd w B 1 (ZX A c p 1) ((D.drop p).take m).length (bv ((D.drop p).take m)):=by
 have hl:D.length=n:=by have:=h.len;rw[X5] at this;exact this
 have e:((D.drop p).take m).length=m:=by rw[List.length_take,List.length_drop];omega
 refine⟨e,?_⟩;have:=h.cut (k:=p) (m:=m) (c:=c) hk hc;rw[Nat.mul_one,Nat.mul_one] at this;rw[e];have e2:bv ((D.drop p).take m)=((bv D).drop p).take m:=by unfold bv;rw[List.map_take,List.map_drop]
 rw[e2];exact this
section
variable {W:World}{z:Rv}{B g p:Nat}{F:List Rl}{D:List UInt8}
theorem Q2f(h:J2 W z B g F D p){n:Int}(h0:0<=n)(hn:n<=9223372036854775807):Calls Tryz.prog 63 #[.pointer (some ⟨g,0,none⟩),.int .i64 n] W (ByE z B g W (VE D p n)):=by
 have H:=Q2 h;obtain⟨_,_,hc2,hc3⟩:=h.cell;have hwd:=h.wd;have hl:=h.len.1;have hp:=h.hp;have hD:=h.hD;have hcd:=h.hnd;clear h;by_cases hlong:(D.length:Int) - p<n
 ·have HT:=Q2 (show VE D p n=some (.error D.length) by unfold VE;rw[if_pos hlong];rfl);rw[hl] at hlong;clear hwd;obtain⟨Af,As,Ad,nn,nd,cf,cs,cd⟩:=z
  simp only at hc2 hc3 hl hlong;go_enter Tryz.func63,Tryz.ntmps63;haveI:Pan (bodyPost Tryz.prog Tryz.f63 (ByE ⟨Af,As,Ad,nn,nd,cf,cs,cd⟩ B g W (VE D p n))) (fun ch w'=>ch=JM 1 (nd:Int)/\Below W.heap.size W w'):=Pan.body fun ch w' hb=>⟨(Xz.of_below hb.2),.inl ⟨D.length,HT.out,by rw[hb.1,hl]⟩⟩;refine Qs (M:=[]) (W:=W) (N:=48) (E:=[ZR,(1,.int .i64 n)]) (O:=[]) ?_ mc3 QV;refine Qha ?_;refine Q92 ?_;refine Qd mc5 ?_;refine Qd zF ?_;refine Qd zC ?_;refine Qd zL ?_;refine Q6z ?_;refine Qd zQ ?_;refine Qd zgt ?_;refine ZJ ?_;refine yn<|y1<|yr<|yo zM ?_;refine Q4 mc5 ?_;refine yo zF<|yo zC<|yo zL ?_;exact Qtx
 ·obtain⟨m,rfl⟩:∃m:Nat,n=(m:Int):=Qfl;have HT:=Q2 (show VE D p (m:Int)=some (.ok ((D.drop p).take m,p+m)) by unfold VE;rw[if_neg hlong];rfl);rw[hl] at hlong
  have hm:p+m<=z.nd:=by omega
  obtain⟨Af,As,Ad,nn,nd,cf,cs,cd⟩:=z;simp only at hl hlong hm hcd;go_enter Tryz.func63,Tryz.ntmps63;refine Qs (M:=[g]) (W:=W) (N:=48) (E:=[ZR,(1,.int .i64 (m:Int))]) (O:=QdG) ?_ mc3 hwd;clear hwd hc2 hc3;refine Qha ?_;refine Q92 ?_;refine Qd mc5 ?_;refine Q7P ?_;refine Qd zL ?_;refine Q4X ?_;refine Qd (zB 0) ?_;refine Qd zQ ?_;refine Qd zgf ?_;refine ZJ ?_;refine yn<|y0<|ys<|yn<|yq<|Xt Q5 Q5 ?_;refine Q4X ?_;refine Qd (zB 0) ?_;refine Q4X ?_;refine Qd (zB 0) ?_;refine Q4X ?_;refine Qd (zB 0) ?_;refine Qd zM ?_;refine Qd zP ?_;refine Qd (Qi0 (l:=p) (h:=p+m) rfl rfl Q1 rfl rfl rfl rfl Q3 Q3) ?_;refine Q0i ?_;refine yn<|yq<|yr<|yo zM ?_;refine Q4 mc5 ?_;refine yo zF<|yo (zB 0)<|yo zM<|yo zP ?_;refine Q4 mc5 ?_;refine yo zF ?_;refine yS 0 ?_;refine yl<|yn<|yq<|yr<|yo zM<|yo zA<|yl<|yn<|yt ?_;refine Q7 mc4 rfl (.tmp rfl) (fun w hw=>⟨hw.k,.inr ⟨(D.drop p).take m,p+m,ZX Ad cd p 1,cd - p,HT.out,?_,hw.blkH,?_,?_⟩⟩)
  ·have hd:=H.out.env.dt;rw[(Q3G (c:=cd) hd hm hcd).1]
   show Ending.returned (.slice (ZX Ad cd p 1) (p+m - p) (cd - p))=_;rw[show p+m - p=m by omega]
  ·have hd:=(H.out.env.keep H.out.hB H.out.lt hw.k).dt;exact(Q3G hd hm hcd).2
  ·rw[(Q3G (c:=cd) H.out.env.dt hm hcd).1]
   omega
end
section
variable {b c:UInt8}{bs l:List UInt8}{i:Nat}{w:World}
def LtE(z:Rv)(g:Nat)(W:World)(res:Rdg Nat)(e:Ending)(w':World):Prop:=Xz [g] W w'/\((∃x:Nat,res=some (.error x)/\e=.panicked (JM 1 x))\/∃q,res=some (.ok q)/\e=.returned (.tuple #[])/\w'.heap[g]? =some (z.obj q))
section
variable {W:World}{z:Rv}{B g p:Nat}{F:List Rl}{D:List UInt8}
theorem Q38(h:J2 w z B g F D p)(hc:D[p]? =some c):Calls Tryz.prog 65 #[.pointer (some ⟨g,0,none⟩)] w fun e w'=>e=.returned (.int .u8 (c.toNat:Int))/\Below w.heap.size w w':=
 (Q6c h).mono fun e w' ⟨hb,h⟩=>by
  rcases h with ⟨hn,_⟩|⟨c',hc',he⟩
  ·rw[hc] at hn;cases hn
  ·rw[hc] at hc';cases hc';exact⟨he,hb⟩
theorem Q5v{M:List Nat}{O:List Qb}{Bp:List PanicEntry->World->Prop}(h:J2 w z B g F D p)(hc:D[p]? =none)(hw:Wd M W O w)(hB:∀w',Wd M W O w'->Bp (JM 1 (p:Int)) w'):Calls Tryz.prog 65 #[.pointer (some ⟨g,0,none⟩)] w (Zu (ι:=Empty) (fun i=>i.elim) (fun _=>True) M W (fun i=>i.elim) Bp):=
 (Q6c h).mono fun e w' ⟨hb,h⟩=>by
  rcases h with ⟨_,he⟩|⟨c',hc',_⟩
  ·exact .inr ⟨_,he,hB w' (hw.on hb)⟩
  ·rw[hc] at hc';cases hc'
theorem Qiz{p:Nat}(h:l[0]? =none)(hb:bs≠[]):Q0x bs l p=some (.error p):=by
 cases bs with
 |nil=>exact absurd rfl hb
 |cons b bs=>
  cases l with
  |nil=>rfl
  |cons c l=>cases h
theorem Qqc{p:Nat}(h:¬c=b):Q0x (b::bs) (c::l) p=some (.error p):=by
 unfold Q0x;rw[if_neg h];rfl
theorem QpM{p:Nat}:Q0x (b::bs) (b::l) p=Q0x bs l (p+1):=by
 rw[Q0x,if_pos rfl]
theorem Qql(h:bs[i]? =some b):bs.drop i=b::bs.drop (i+1):=ZM h
theorem QgX{B n:Nat}{A:Option Addr}(h:Rd w B 1 A n (bv bs))(hb:bs[i]? =some b):∃q o,A=some ⟨q,o,none⟩/\q<B/\w.cell? ⟨q,o+i,none⟩=some (.int .u8 (b.toNat:Int)):=by
 have hi:i<bs.length:=(List.getElem?_eq_some_iff.1 hb).1;have hl:bs.length=n:=by have:=h.len;rw[X5] at this;exact this
 obtain⟨q,o,e,hq,hc⟩:=h.2 Q3;refine⟨q,o,e,hq,hc i _ ?_⟩;unfold bv;rw[List.getElem?_map,hb];rfl
theorem Q7M(h:J2 W z B g F D p){Ab:Option Addr}{nb cb:Nat}(hb:Rd W B 1 Ab nb (bv bs))(hnb:nb<=1048576):Calls Tryz.prog 58 #[.pointer (some ⟨g,0,none⟩),.slice Ab nb cb] W (LtE z g W (Q0x bs (D.drop p) p)):=by
 have H:=Q2 h;have HB:=Q2 hb;have hwd:=h.wd;have hlb:bs.length=nb:=by have:=hb.len;rw[X5] at this;exact this
 have hp:=h.hp;have hD:=h.hD;obtain⟨RES,hres⟩:∃r,Q0x bs (D.drop p) p=r:=⟨_,rfl⟩;have HR0:=Q2 hres;rw[hres];clear h hb hres;subst hlb;obtain⟨Af,As,Ad,nn,nd,cf,cs,cd⟩:=z;go_enter Tryz.func58,Tryz.ntmps58;haveI:Pan (bodyPost Tryz.prog Tryz.f58 (LtE ⟨Af,As,Ad,nn,nd,cf,cs,cd⟩ g W RES)) (fun ch w'=>∃x:Nat,RES=some (.error x)/\ch=JM 1 x/\Xz [g] W w'):=Pan.body fun ch w' ⟨x,h1,h2,h3⟩=>J6
 refine Qs (M:=[g]) (W:=W) (N:=29) (E:=[ZR,(1,.slice Ab bs.length cb)]) (O:=QdG) ?_ mc3 hwd;clear hwd;refine yq<|yr<|yo zM<|yo zL<|yo zM<|yl<|yn<|yb ?_;refine X8 (ι:=Nat) (fun i=>i<=bs.length/\p+i<=D.length/\RES=Q0x (bs.drop i) (D.drop (p+i)) (p+i)) (fun i=>bs.length - i) (fun i=>Qrh) (fun i=>Qst) 0 ⟨Nat.zero_le _,hp,HR0.out.symm⟩ mc1 Zk ?_;rintro i ⟨hi,hpi,hres⟩;have HRES:=Q2 hres;clear hres;show sE _ _ _ _ _ Qrh Qst _;by_cases hin:i<bs.length
 ·obtain⟨b,hbi⟩:∃b,bs[i]? =some b:=⟨_,List.getElem?_eq_getElem hin⟩;obtain⟨q,o,rfl,hqB,hcell⟩:=QgX HB.out hbi
  have hqg:¬q=g:=by have:=H.out.hB;omega
  have hdr:=Qql hbi;cases hc:D[p+i]? with
  |none=>
   have HE:=Q2 (show RES=some Q2I by rw[HRES.out];exact Qiz (by rw[List.getElem?_drop];exact hc) (by rw[hdr];exact List.cons_ne_nil _ _));have HC:=Q2 hc;clear hc;refine Qkn ?_;exact ZP (Xp _ _ _ rfl rfl rfl (fun w hw=>Q5v (H.out.next hw.k hpi hw.blkH) HC.out hw (fun w' hw'=>⟨p+i,HE.out,rfl,hw'.k⟩))) rfl Q1 Q0e
  |some c=>
   have hlt:p+i<D.length:=(List.getElem?_eq_some_iff.1 hc).1;have hdD:=ZM hc;have HC:=Q2 hc;clear hc;by_cases hcb:c=b
   ·subst hcb;have HN:=Q2 (show RES=Q0x (bs.drop (i+1)) (D.drop (p+(i+1))) (p+(i+1)) by rw[HRES.out,hdr,hdD,QpM];rfl);have hne:((c.toNat:Int) != (c.toNat:Int))=false:=bne_eq_false_iff_eq.2 rfl;clear hdD;refine Qkn ?_;refine Q4 QsW ?_;refine yo zM<|yo zna<|yl<|yn<|y0<|ys<|yn<|yr<|yo zM ?_;refine Q4 mc5 ?_;refine yo zF<|yo (zB 0)<|yo zP ?_;refine Q4 mc5 ?_;refine yo zF ?_;refine yS 0 ?_;refine yl<|yn<|yr<|yo zP<|yo zM<|yl ?_;refine Qr (i+1) ⟨hin,hlt,HN.out⟩ (by show bs.length - (i+1)<bs.length - i;omega) mc2 Zk
   ·have HE:=Q2 (show RES=some Q2I by rw[HRES.out,hdr,hdD];exact Qqc hcb);have hne:((c.toNat:Int) != (b.toNat:Int))=true:=bne_iff_ne.2 (fun h=>hcb (UInt8.toNat_inj.1 Q3));clear hdD;refine Qkn ?_;refine Q4 QsW ?_;refine yo zM<|yo zna<|yl<|yn<|y1<|yr<|yo zM ?_;refine Q4 mc5 ?_;refine yo zF<|yo (zB 0) ?_;exact Q5I
 ·obtain rfl:i=bs.length:=by omega
  have HE:=Q2 (show RES=some (.ok (p+bs.length)) by rw[HRES.out,List.drop_length];cases D.drop (p+bs.length)<;>rfl);refine Qe0 ?_;exact Zc Yu rfl (fun w hw=>⟨hw.k,.inr ⟨p+bs.length,HE.out,rfl,hw.blkH⟩⟩)
end
end
end Go.Proofs.YtphkhfdmlcnoeaaGreatDoor
