import Derived.Test.YtphkhfdmlcnoeaaGreatDoorP3
namespace Go.Proofs.YtphkhfdmlcnoeaaGreatDoor
set_option linter.unusedVariables false
set_option linter.unusedSimpArgs false
set_option maxRecDepth 1000000
set_option maxHeartbeats 32000000
open Go.RowKit
section
variable {A:Option Addr}{args cap:Array Value}{b:Bool}{bytes c h i j l q:Nat}{e t t':TypeId}{f:FuncId}{hi lo x y:Operand}{k:IntKind}{m n r:Int}{op:BinOp}{s u:ByteArray}{ts:Array TypeId}{v:Value}{vs:List Value}{xs:List Operand}{ρ:Operand->Value}
class T1(P:Program)(t:TypeId):Prop where
 h:∃d,P.underlying t=some d/\d.isRow=false/\(P.info? t).map (·.size)=some 1
class TN(P:Program)(t:TypeId)(n:outParam Nat):Prop where
 h:∃d,P.underlying t=some d/\d.isRow=true/\(P.info? t).map (·.size)=some n
class Fld(P:Program)(t:TypeId)(i:Nat)(off:outParam Nat):Prop where
 h:∃fs f sz,P.underlying t=some (.struct fs)/\fs[i]? =some f/\f.offset=off/\(P.info? f.type).map (·.size)=some sz/\0<sz
class Sl(P:Program)(t:TypeId)(e:outParam TypeId)(s:outParam Nat)(bytes:outParam Nat):Prop where
 h:SlT P t e s bytes
class Ar(P:Program)(t:TypeId)(n:outParam Nat)(e:outParam TypeId)(s:outParam Nat):Prop where
 u:P.underlying t=some (.array n e)
 i:(P.info? e).map (·.size)=some s
class En(P:Program)(f:FuncId):Prop where
 h:∀(args:Array Value) (w:World),(callFunc f args).run P w=.ok (.enter f args) w
def evs(E:Env):List Operand->Option (List Value)
 |[]=>some []
 |x::r=>match ev E x,evs E r with
  |some v,some l=>some (v::l)
  |_,_=>none
def Ev(E:Env)(ρ:Operand->Value):Prop:=(∀x v,ev E x=some v->ρ x=v)/\∀f,ρ (.func f)=.func (.func f) #[] #[]
theorem Ag.ev[dq:DQ]{a:Act}{N:Nat}{E:Env}(ha:Ag N E a):Ev E a.eval:=⟨fun _ _ h=>ha.eval h,fun _=>rfl⟩
theorem Ev.eval{E:Env}(ha:Ev E ρ)(h:Go.Proofs.YtphkhfdmlcnoeaaGreatDoor.ev E x=some v):ρ x=v:=ha.1 x v h
theorem Ev.evals{E:Env}(ha:Ev E ρ):∀(l:List Operand) (vs:List Value),evs E l=some vs->l.map ρ=vs:=by
 intro l;induction l with
 |nil=>intro vs h;cases h;rfl
 |cons x r ih=>
  intro vs h;unfold evs at h;split at h
  ·next v l' hv hl=>
   cases h
   rw[List.map_cons,ha.eval hv,ih l' hl]
  ·cases h
def evp(E:Env):List (Nat×Operand)->Option (List (Nat×Value))
 |[]=>some []
 |(i,x)::r=>match ev E x,evp E r with
  |some v,some l=>some ((i,v)::l)
  |_,_=>none
theorem Ev.evalp{E:Env}(ha:Ev E ρ):∀(l:List (Nat×Operand)) (vs:List (Nat×Value)),evp E l=some vs->(l.map fun(i,x)=>(i,ρ x))=vs:=by
 intro l;induction l with
 |nil=>intro vs h;cases h;rfl
 |cons p r ih=>
  intro vs h;obtain⟨i,x⟩:=p;unfold evp at h;split at h
  ·next v l' hv hl=>
   cases h
   rw[List.map_cons,ih l' hl];show (i,ρ x)::l'=_;rw[ha.eval hv]
  ·cases h
section
variable {P:Program}{ops:Array Oper}{C:World->Prop}{N:Nat}{E:Env}{o:Oper}{d:Nat}
theorem Xi[dq:DQ](hd:o.dst=some d)(hN:d<N)(hw:Qo ops E o=some true)(hv:∀ρ w,Ev E ρ->C w->(execOp ρ o).run P w=.ok (.value v) w):oE P ops C N E ((d,v)::E) o:=fun a ha=>by
 rw[if_pos (ha.want hw)];exact⟨v,fun w hC=>by rw[hv a.eval w ha.ev hC];exact⟨rfl,rfl⟩,by rw[hd];exact ha.put v hN⟩
theorem Qko[dq:DQ](hd:o.dst=some d)(hN:d<N)(hw:Qo ops E o=some false):oE P ops C N E ((d,undef)::E) o:=fun a ha=>by
 have h:=ha.want hw;rw[if_neg (by rw[h];decide),hd];exact ha.put _ hN
theorem Qh1[dq:DQ](hd:o.dst=some d)(hN:d<N)(hw:Qo ops E o=some true)(hv:∀ρ w,Ev E ρ->C w->(execOp ρ o).run P w=.ok (.enter f args) w)(hc:∀w,C w->Calls P f args w fun e w''=>e=.returned v/\Below w.heap.size w w''):oE P ops C N E ((d,v)::E) o:=fun a ha=>by
 rw[if_pos (ha.want hw)];exact⟨v,fun w hC=>by rw[hv a.eval w ha.ev hC];exact⟨rfl,hc w hC⟩,by rw[hd];exact ha.put v hN⟩
theorem Qjs[dq:DQ](ho:o.op=.move x)(hd:o.dst=some d)(hN:d<N)(hw:Qo ops E o=some true)(hx:ev E x=some v):oE P ops C N E ((d,v)::E) o:=
 Xi hd hN hw fun ρ w ha _=>QhJ ho ZP w
theorem QcQ[dq:DQ](ho:o.op=.assign x)(hd:o.dst=some d)(hN:d<N)(hw:Qo ops E o=some true)(hx:ev E x=some v):oE P ops C N E ((d,v)::E) o:=
 Xi hd hN hw fun ρ w ha _=>Q8L ho ZP w
theorem Q6l[dq:DQ]{c:Operand}(ho:o.op=.pick c x y)(hd:o.dst=some d)(hN:d<N)(hw:Qo ops E o=some true)(hc:ev E c=some (.bool true))(hx:ev E x=some v):oE P ops C N E ((d,v)::E) o:=
 Xi hd hN hw fun ρ w ha _=>Q4G ho Q2j ZP w
theorem Q9q[dq:DQ]{c:Operand}(ho:o.op=.pick c x y)(hd:o.dst=some d)(hN:d<N)(hw:Qo ops E o=some true)(hc:ev E c=some (.bool false))(hx:ev E y=some v):oE P ops C N E ((d,v)::E) o:=
 Xi hd hN hw fun ρ w ha _=>Q7D ho Q2j ZP w
theorem Qsi[dq:DQ]{b':Bool}(ho:o.op=.unOp .not t x)(hd:o.dst=some d)(hN:d<N)(hw:Qo ops E o=some true)(hx:ev E x=some (.bool b))(hb:(!b)=b'):oE P ops C N E ((d,.bool b')::E) o:=
 Xi hd hN hw fun ρ w ha _=>QlE ho ZP hb w
theorem Q0n[dq:DQ]{u:Value}(ho:o.op=.binOp op t x y t')(hd:o.dst=some d)(hN:d<N)(hw:Qo ops E o=some true)(hx:ev E x=some (.int k m))(hy:ev E y=some u)(hb:∀w,(binOp op t (.int k m) u).run P w=.ok v w):oE P ops C N E ((d,v)::E) o:=
 Xi hd hN hw fun ρ w ha _=>by
  simp only[execOp,ho,ha.eval hx,ha.eval hy,eqGuard_at_int,Sem.run_bind,Sem.run_pure,Result.andThen_ok,hb w]
theorem Qtw[dq:DQ]{u:Value}(ho:o.op=.binOp op t x y t')(hd:o.dst=some d)(hN:d<N)(hw:Qo ops E o=some true)(hx:ev E x=some (.string s))(hy:ev E y=some u)(hb:∀w,(binOp op t (.string s) u).run P w=.ok v w):oE P ops C N E ((d,v)::E) o:=
 Xi hd hN hw fun ρ w ha _=>by
  simp only[execOp,ho,ha.eval hx,ha.eval hy,eqGuard_at_string,Sem.run_bind,Sem.run_pure,Result.andThen_ok,hb w]
theorem Yz[dq:DQ](ho:o.op=.binOp .eql t x y t')(hd:o.dst=some d)(hN:d<N)(hw:Qo ops E o=some true)(hx:ev E x=some (.int k m))(hy:ev E y=some (.int k n))(hb:(m==n)=b):oE P ops C N E ((d,.bool b)::E) o:=
 Xi hd hN hw fun ρ w ha _=>Qnk ho ZP (ha.eval hy) hb w
theorem Q0B[dq:DQ](ho:o.op=.binOp .neq t x y t')(hd:o.dst=some d)(hN:d<N)(hw:Qo ops E o=some true)(hx:ev E x=some (.int k m))(hy:ev E y=some (.int k n))(hb:(m != n)=b):oE P ops C N E ((d,.bool b)::E) o:=
 Xi hd hN hw fun ρ w ha _=>Qts ho ZP (ha.eval hy) hb w
theorem YV[dq:DQ](ho:o.op=.binOp .gtr t x y t')(hd:o.dst=some d)(hN:d<N)(hw:Qo ops E o=some true)(hx:ev E x=some (.int k m))(hy:ev E y=some (.int k n))(hb:decide (n<m)=b):oE P ops C N E ((d,.bool b)::E) o:=
 Xi hd hN hw fun ρ w ha _=>QtY ho ZP (ha.eval hy) hb w
theorem Q06[dq:DQ](ho:o.op=.binOp .lss t x y t')(hd:o.dst=some d)(hN:d<N)(hw:Qo ops E o=some true)(hx:ev E x=some (.int k m))(hy:ev E y=some (.int k n))(hb:decide (m<n)=b):oE P ops C N E ((d,.bool b)::E) o:=
 Xi hd hN hw fun ρ w ha _=>by subst hb;simp [execOp,ho,ha.eval hx,ha.eval hy,go_sem]
theorem Q5j[dq:DQ](ho:o.op=.binOp .leq t x y t')(hd:o.dst=some d)(hN:d<N)(hw:Qo ops E o=some true)(hx:ev E x=some (.int k m))(hy:ev E y=some (.int k n))(hb:decide (m<=n)=b):oE P ops C N E ((d,.bool b)::E) o:=
 Xi hd hN hw fun ρ w ha _=>by subst hb;simp [execOp,ho,ha.eval hx,ha.eval hy,go_sem]
theorem Qdk[dq:DQ](ho:o.op=.binOp .geq t x y t')(hd:o.dst=some d)(hN:d<N)(hw:Qo ops E o=some true)(hx:ev E x=some (.int k m))(hy:ev E y=some (.int k n))(hb:decide (n<=m)=b):oE P ops C N E ((d,.bool b)::E) o:=
 Xi hd hN hw fun ρ w ha _=>by subst hb;simp [execOp,ho,ha.eval hx,ha.eval hy,go_sem]
theorem Qhf[dq:DQ](ho:o.op=.binOp .add t x y t')(hd:o.dst=some d)(hN:d<N)(hw:Qo ops E o=some true)(hx:ev E x=some (.int k m))(hy:ev E y=some (.int k n))(hr:k.wrap (m+n)=r):oE P ops C N E ((d,.int k r)::E) o:=
 Q0n ho hd hN hw hx hy fun w=>by subst hr;rw[binOp_add];simp [Op.intArith]
theorem QrE[dq:DQ](ho:o.op=.binOp .sub t x y t')(hd:o.dst=some d)(hN:d<N)(hw:Qo ops E o=some true)(hx:ev E x=some (.int k m))(hy:ev E y=some (.int k n))(hr:k.wrap (m - n)=r):oE P ops C N E ((d,.int k r)::E) o:=
 Q0n ho hd hN hw hx hy fun w=>by subst hr;rw[binOp_sub];simp [Op.intArith]
theorem Qrc[dq:DQ](ho:o.op=.binOp .mul t x y t')(hd:o.dst=some d)(hN:d<N)(hw:Qo ops E o=some true)(hx:ev E x=some (.int k m))(hy:ev E y=some (.int k n))(hr:k.wrap (m*n)=r):oE P ops C N E ((d,.int k r)::E) o:=
 Q0n ho hd hN hw hx hy fun w=>by subst hr;rw[binOp_mul];simp [Op.intArith]
theorem Q4h[dq:DQ](ho:o.op=.binOp .eql t x y t')(hd:o.dst=some d)(hN:d<N)(hw:Qo ops E o=some true)(hx:ev E x=some (.string s))(hy:ev E y=some (.string u))(hb:(s.data.toList==u.data.toList)=b):oE P ops C N E ((d,.bool b)::E) o:=
 Xi hd hN hw fun ρ w ha _=>by
  subst hb;rw[<- Lib.toList_data,<- Lib.toList_data];simp [execOp,ho,ha.eval hx,ha.eval hy,go_sem]
theorem Q9W[dq:DQ](ho:o.op=.binOp .neq t x y t')(hd:o.dst=some d)(hN:d<N)(hw:Qo ops E o=some true)(hx:ev E x=some (.string s))(hy:ev E y=some (.string u))(hb:(s.data.toList != u.data.toList)=b):oE P ops C N E ((d,.bool b)::E) o:=
 Xi hd hN hw fun ρ w ha _=>by
  subst hb;rw[<- Lib.toList_data,<- Lib.toList_data];simp [execOp,ho,ha.eval hx,ha.eval hy,go_sem,bne]
theorem Q4n[dq:DQ]{src dst:TypeId}{k':IntKind}(ho:o.op=.convert src dst x)(hd:o.dst=some d)(hN:d<N)(hw:Qo ops E o=some true)(hx:ev E x=some (.int k n))(h1:(P.underlying src).isSome=true)(h2:P.underlying dst=some (.int k'))(hr:k'.wrap n=r):oE P ops C N E ((d,.int k' r)::E) o:=
 Xi hd hN hw fun ρ w ha _=>by
  obtain⟨d',hd'⟩:=Option.isSome_iff_exists.mp h1;subst hr;simp [execOp,ho,ha.eval hx,convert,run_underlying hd',run_underlying h2,Conv.intToInt]
theorem QqC[dq:DQ]{n s:Nat}[Sl P t e s bytes](ho:o.op=.call { callee:=.builtin .len,args:=#[x],argTypes:=#[t] })(hd:o.dst=some d)(hN:d<N)(hw:Qo ops E o=some true)(hx:ev E x=some (.slice A n c)):oE P ops C N E ((d,.int .i64 (n:Int))::E) o:=
 Xi hd hN hw fun ρ w ha _=>Qkk ho ⟨e,(Sl.h (P:=P) (t:=t)).und⟩ ZP w
theorem Qns[dq:DQ](ht:P.underlying t=some .string)(ho:o.op=.call { callee:=.builtin .len,args:=#[x],argTypes:=#[t] })(hd:o.dst=some d)(hN:d<N)(hw:Qo ops E o=some true)(hx:ev E x=some (.string s)):oE P ops C N E ((d,.int .i64 (s.size:Int))::E) o:=
 Xi hd hN hw fun ρ w ha _=>by simp [execOp,ho,ha.eval hx,ht,go_sem]
theorem Q4T[dq:DQ]{b off:Nat}[hf:Fld P t i off](ho:o.op=.fieldAddr t x i)(hd:o.dst=some d)(hN:d<N)(hw:Qo ops E o=some true)(hx:ev E x=some (.pointer (some ⟨b,q,none⟩))):oE P ops C N E ((d,.pointer (some ⟨b,q+off,none⟩))::E) o:=
 Xi hd hN hw fun ρ w ha _=>by
  obtain⟨fs,f,sz,h1,h2,h3,h4,h5⟩:=hf.h;subst h3;have hs:∃j,P.info? f.type=some j/\j.size=sz:=by
   cases hq:P.info? f.type with
   |none=>rw[hq] at h4;cases h4
   |some j=>rw[hq] at h4;simp at h4;exact⟨j,rfl,h4⟩
  obtain⟨j,hj,hz⟩:=hs;have hne:¬j.size=0:=by omega
  simp [execOp,ho,ha.eval hx,Instr.fieldAt,Instr.sureAddr,run_underlying h1,h2,fieldPlace,sizeOf,typeInfo,hj,hne,Addr.add_mid]
theorem Xc[dq:DQ]{b n s:Nat}[hT:Sl P t e s bytes](ho:o.op=.indexAddr t x y)(hd:o.dst=some d)(hN:d<N)(hw:Qo ops E o=some true)(hx:ev E x=some (.slice (some ⟨b,q,none⟩) n c))(hy:ev E y=some (.int k (j:Int)))(hj:j<n):oE P ops C N E ((d,.pointer (some ⟨b,q+j*s,none⟩))::E) o:=
 Xi hd hN hw fun ρ w ha _=>by
  obtain⟨i,z,hi,hz,hs,hby,hzs⟩:=hT.h.info;have hu:=hT.h.und;simp [execOp,ho,ha.eval hx,ha.eval hy,Instr.indexAt,asIntOf,run_underlying hu,sizeOf,typeInfo,hi,hs,Addr.add_mid,hj]
theorem Z5[dq:DQ]{b n:Nat}[hT:Sl P t e 1 bytes](ho:o.op=.indexAddr t x y)(hd:o.dst=some d)(hN:d<N)(hw:Qo ops E o=some true)(hx:ev E x=some (.slice (some ⟨b,q,none⟩) n c))(hy:ev E y=some (.int k (j:Int)))(hj:j<n):oE P ops C N E ((d,.pointer (some ⟨b,q+j,none⟩))::E) o:=by
 have:=Xc (P:=P) (C:=C) ho hd hN hw hx hy hj;rwa [Nat.mul_one] at this
theorem Jc[dq:DQ]{b n s:Nat}[hT:Ar P t n e s](ho:o.op=.indexAddr t x y)(hd:o.dst=some d)(hN:d<N)(hw:Qo ops E o=some true)(hx:ev E x=some (.pointer (some ⟨b,q,none⟩)))(hy:ev E y=some (.int k (j:Int)))(hj:j<n):oE P ops C N E ((d,.pointer (some ⟨b,q+j*s,none⟩))::E) o:=
 Xi hd hN hw fun ρ w ha _=>by
  have hu:=hT.u;have hs:∃i,P.info? e=some i/\i.size=s:=by
   have h4:=hT.i;cases hq:P.info? e with
   |none=>rw[hq] at h4;cases h4
   |some i=>rw[hq] at h4;simp at h4;exact⟨i,rfl,h4⟩
  obtain⟨i,hi,hs⟩:=hs;simp [execOp,ho,ha.eval hx,ha.eval hy,Instr.indexAt,Instr.sureAddr,asIntOf,run_underlying hu,sizeOf,typeInfo,hi,hs,Addr.add_mid,hj]
theorem Xz[dq:DQ]{p:Addr}[hT:T1 P t](ho:o.op=.load t x)(hd:o.dst=some d)(hN:d<N)(hw:Qo ops E o=some true)(hx:ev E x=some (.pointer (some p)))(hc:∀w,C w->w.cell? p=some v):oE P ops C N E ((d,v)::E) o:=
 Xi hd hN hw fun ρ w ha hC=>by
  obtain⟨ds,hu,hr,hi⟩:=hT.h;have hagg:(isAgg t).run P w=.ok false w:=by
   unfold isAgg;rw[Sem.run_bind,run_underlying hu w];cases ds<;>simp_all
  simp [execOp,ho,ha.eval hx,Instr.loadAt,Instr.sureAddr,loadVar,Sem.run_bind,hagg,hc w hC,go_sem]
theorem X4[dq:DQ]{b n:Nat}{cs:List Value}[hT:TN P t n](ho:o.op=.load t x)(hd:o.dst=some d)(hN:d<N)(hw:Qo ops E o=some true)(hx:ev E x=some (.pointer (some ⟨b,q,none⟩)))(hc:∀w,C w->w.rangeAt b q cs)(hl:cs.length=n):oE P ops C N E ((d,.agg cs.toArray)::E) o:=
 Xi hd hN hw fun ρ w ha hC=>by
  obtain⟨ds,hu,hr,hi⟩:=hT.h;subst hl;have:=run_loadAt_mid (P:=P) w b q t cs ds (hc w hC) hu hr hi;simp [execOp,ho,ha.eval hx,this]
theorem Qia[dq:DQ]{vs:Array Value}(ho:o.op=.extract x i)(hd:o.dst=some d)(hN:d<N)(hw:Qo ops E o=some true)(hx:ev E x=some (.tuple vs))(hv:vs[i]? =some v):oE P ops C N E ((d,v)::E) o:=
 Xi hd hN hw fun ρ w ha _=>by simp [execOp,ho,ha.eval hx,Instr.extract,hv]
theorem QjG[dq:DQ]{f:Fn}(ho:o.op=.makeFunc f #[] xs.toArray)(hd:o.dst=some d)(hN:d<N)(hw:Qo ops E o=some true)(hx:evs E xs=some vs):oE P ops C N E ((d,.func f #[] vs.toArray)::E) o:=
 Xi hd hN hw fun ρ w ha _=>by
  have:=ha.evals _ _ hx;simp [execOp,ho,Instr.makeFunc,<- this]
theorem Jv[dq:DQ]{xs:List (Nat×Operand)}{vs:List (Nat×Value)}(ho:o.op=.build t xs.toArray)(hd:o.dst=some d)(hN:d<N)(hw:Qo ops E o=some true)(hx:evp E xs=some vs)(hb:∀w,(Instr.build t vs.toArray).run P w=.ok v w):oE P ops C N E ((d,v)::E) o:=
 Xi hd hN hw fun ρ w ha _=>by
  have h:=ha.evalp _ _ hx;have e:(xs.toArray.map fun(i,x)=>(i,ρ x))=vs.toArray:=by rw[<- h];simp
  simp only[execOp,ho,e,Sem.run_bind,hb w,Result.andThen_ok];rfl
theorem Qp3[dq:DQ]{n s:Nat}[hT:Sl P t e s bytes](ho:o.op=.slice t x (some lo) (some hi) none)(hd:o.dst=some d)(hN:d<N)(hw:Qo ops E o=some true)(hx:ev E x=some (.slice A n c))(hl:ev E lo=some (.int .i64 (l:Int)))(hh:ev E hi=some (.int .i64 (h:Int)))(h1:l<=h)(h2:h<=c):oE P ops C N E ((d,.slice (ZY A c l s) (h - l) (c - l))::E) o:=
 Xi hd hN hw fun ρ w ha _=>by simp [execOp,ho,ha.eval hx,ha.eval hl,ha.eval hh,Qp2 hT.h A n c l h h1 h2 w]
theorem Q1g[dq:DQ]{n s:Nat}[hT:Sl P t e s bytes](ho:o.op=.slice t x none (some hi) none)(hd:o.dst=some d)(hN:d<N)(hw:Qo ops E o=some true)(hx:ev E x=some (.slice A n c))(hh:ev E hi=some (.int .i64 (h:Int)))(h2:h<=c):oE P ops C N E ((d,.slice (ZY A c 0 s) h c)::E) o:=
 Xi hd hN hw fun ρ w ha _=>by simp [execOp,ho,ha.eval hx,ha.eval hh,Q3W hT.h A n c h h2 w]
theorem Q4j[dq:DQ]{n s:Nat}[hT:Sl P t e s bytes](ho:o.op=.slice t x (some lo) none none)(hd:o.dst=some d)(hN:d<N)(hw:Qo ops E o=some true)(hx:ev E x=some (.slice A n c))(hl:ev E lo=some (.int .i64 (l:Int)))(h1:l<=n):oE P ops C N E ((d,.slice (ZY A c l s) (n - l) (c - l))::E) o:=
 Xi hd hN hw fun ρ w ha _=>by simp [execOp,ho,ha.eval hx,ha.eval hl,Qi9 hT.h A n c l h1 w]
theorem QeO[he:En P f](ho:o.op=.call { callee:=.value (.func f),args:=xs.toArray,argTypes:=ts })(hx:evs E xs=some vs)(ρ:Operand->Value)(w:World)(ha:Ev E ρ):(execOp ρ o).run P w=.ok (.enter f vs.toArray) w:=by
 have h:=ha.evals _ _ hx;have e:xs.toArray.map ρ=vs.toArray:=by rw[<- h];simp
 have hf:=ha.2 f;have hh:=he.h;simp only[execOp,ho,resolve,hf,e,Deferred.ofValue,invoke,Sem.run_bind,Sem.run_pure,Result.andThen_ok,Array.append_empty,Array.empty_append,hh]
theorem Qoh{x:Tmp}[he:En P f](ho:o.op=.call { callee:=.value (.tmp x),args:=xs.toArray,argTypes:=ts })(hf:ev E (.tmp x)=some (.func (.func f) #[] cap))(hx:evs E xs=some vs)(ρ:Operand->Value)(w:World)(ha:Ev E ρ):(execOp ρ o).run P w=.ok (.enter f (vs.toArray++cap)) w:=by
 have h:=ha.evals _ _ hx;have e:xs.toArray.map ρ=vs.toArray:=by rw[<- h];simp
 have hf:=ha.eval hf;have hh:=he.h;simp only[execOp,ho,resolve,hf,e,Deferred.ofValue,invoke,Sem.run_bind,Sem.run_pure,Result.andThen_ok,Array.append_empty,Array.empty_append,hh]
theorem Ql[dq:DQ][he:En P f](ho:o.op=.call { callee:=.value (.func f),args:=xs.toArray,argTypes:=ts })(hd:o.dst=some d)(hN:d<N)(hw:Qo ops E o=some true)(hx:evs E xs=some vs)(hc:∀w,C w->Calls P f vs.toArray w fun e w''=>e=.returned v/\Below w.heap.size w w''):oE P ops C N E ((d,v)::E) o:=
 Qh1 hd hN hw (fun ρ w ha _=>QeO ho hx ρ w ha) hc
theorem VN[dq:DQ]{x:Tmp}[he:En P f](ho:o.op=.call { callee:=.value (.tmp x),args:=xs.toArray,argTypes:=ts })(hd:o.dst=some d)(hN:d<N)(hw:Qo ops E o=some true)(hf:ev E (.tmp x)=some (.func (.func f) #[] cap))(hx:evs E xs=some vs)(hc:∀w,C w->Calls P f (vs.toArray++cap) w fun e w''=>e=.returned v/\Below w.heap.size w w''):oE P ops C N E ((d,v)::E) o:=
 Qh1 hd hN hw (fun ρ w ha _=>Qoh ho hf hx ρ w ha) hc
end
theorem Calls.stay{P:Program}{w:World}(h:Calls P f args w fun e w'=>e=.returned v/\w=w'):Calls P f args w fun e w'=>e=.returned v/\Below w.heap.size w w':=
 h.mono fun _ w' ⟨he,hb⟩=>⟨he,hb▸Below.refl _ _⟩
end
end Go.Proofs.YtphkhfdmlcnoeaaGreatDoor
