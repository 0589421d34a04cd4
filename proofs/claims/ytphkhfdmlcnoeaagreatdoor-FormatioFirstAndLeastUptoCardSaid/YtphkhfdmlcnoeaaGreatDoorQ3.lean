import Derived.Test.YtphkhfdmlcnoeaaGreatDoorQ2
namespace Go.Proofs.YtphkhfdmlcnoeaaGreatDoor
set_option linter.unusedVariables false
set_option linter.unusedSimpArgs false
set_option maxRecDepth 1000000
set_option maxHeartbeats 32000000
open Go.RowKit
section
variable {A:Option Addr}{b i:Nat}{b':Bool}{c x y:Operand}{f:FuncId}{k:IntKind}{m n:Int}{p:Addr}{t t':TypeId}{v v0 v1 v10 v11 v2 v3 v4 v5 v6 v7 v8 v9:Value}{ρ:Operand->Value}
section
variable {P:Program}{ops:Array Oper}{C:World->Prop}{Q:Act->Prop}{o:Oper}{rest:List Oper}{a:Act}
theorem Qu6(hw:Region.wanted o (yielded ops a.tmps)=false)(h:wpQuiet P ops C Q rest (a.put o.dst undef)):wpQuiet P ops C Q (o::rest) a:=by
 unfold wpQuiet;rw[hw];exact h
theorem YC(hw:Region.wanted o (yielded ops a.tmps)=true)(hv:∀w,C w->(execOp a.eval o).run P w=.ok (.value v) w)(h:wpQuiet P ops C Q rest (a.put o.dst v)):wpQuiet P ops C Q (o::rest) a:=by
 unfold wpQuiet;rw[if_pos hw];exact⟨v,fun w hC=>by unfold Oper.quietAt;rw[hv w hC];exact⟨rfl,rfl⟩,h⟩
theorem Qts{args:Array Value}(hw:Region.wanted o (yielded ops a.tmps)=true)(hv:∀w,C w->(execOp a.eval o).run P w=.ok (.enter f args) w)(hc:∀w,C w->Calls P f args w fun e w''=>e=.returned v/\C w'')(h:wpQuiet P ops C Q rest (a.put o.dst v)):wpQuiet P ops C Q (o::rest) a:=by
 unfold wpQuiet;rw[if_pos hw];exact⟨v,fun w hC=>by unfold Oper.quietAt;rw[hv w hC];exact⟨rfl,hc w hC⟩,h⟩
theorem Qi2(ho:o.op=.move x)(hx:ρ x=v)(w:World):(execOp ρ o).run P w=.ok (.value (v)) w:=by
 simp only[execOp,ho,hx];rfl
theorem QsU(ho:o.op=.move x)(hw:Region.wanted o (yielded ops a.tmps)=true)(hx:a.eval x=v)(h:wpQuiet P ops C Q rest (a.put o.dst v)):wpQuiet P ops C Q (o::rest) a:=
 YC hw (fun w _=>Qi2 ho hx w) h
theorem Q8r(ho:o.op=.assign x)(hx:ρ x=v)(w:World):(execOp ρ o).run P w=.ok (.value (v)) w:=by
 simp only[execOp,ho,hx];rfl
theorem Qlg(ho:o.op=.assign x)(hw:Region.wanted o (yielded ops a.tmps)=true)(hx:a.eval x=v)(h:wpQuiet P ops C Q rest (a.put o.dst v)):wpQuiet P ops C Q (o::rest) a:=
 YC hw (fun w _=>Q8r ho hx w) h
theorem Q4s(ho:o.op=.pick c x y)(hc:ρ c=.bool true)(hx:ρ x=v)(w:World):(execOp ρ o).run P w=.ok (.value (v)) w:=by
 simp [execOp,ho,hx,hc,go_sem]
theorem QdO(ho:o.op=.pick c x y)(hw:Region.wanted o (yielded ops a.tmps)=true)(hc:a.eval c=.bool true)(hx:a.eval x=v)(h:wpQuiet P ops C Q rest (a.put o.dst v)):wpQuiet P ops C Q (o::rest) a:=
 YC hw (fun w _=>Q4s ho hc hx w) h
theorem Q6v(ho:o.op=.pick c x y)(hc:ρ c=.bool false)(hx:ρ y=v)(w:World):(execOp ρ o).run P w=.ok (.value (v)) w:=by
 simp [execOp,ho,hx,hc,go_sem]
theorem Qj4(ho:o.op=.pick c x y)(hw:Region.wanted o (yielded ops a.tmps)=true)(hc:a.eval c=.bool false)(hx:a.eval y=v)(h:wpQuiet P ops C Q rest (a.put o.dst v)):wpQuiet P ops C Q (o::rest) a:=
 YC hw (fun w _=>Q6v ho hc hx w) h
theorem Qlt{b:Bool}(ho:o.op=.unOp .not t x)(hx:ρ x=.bool b)(hb:(!b)=b')(w:World):(execOp ρ o).run P w=.ok (.value ((.bool b'))) w:=by
 subst hb;simp [execOp,ho,hx,go_sem]
theorem Quv{b:Bool}(ho:o.op=.unOp .not t x)(hw:Region.wanted o (yielded ops a.tmps)=true)(hx:a.eval x=.bool b)(hb:(!b)=b')(h:wpQuiet P ops C Q rest (a.put o.dst (.bool b'))):wpQuiet P ops C Q (o::rest) a:=
 YC hw (fun w _=>Qlt ho hx hb w) h
theorem Qlj{b:Bool}(ho:o.op=.binOp .eql t x y t')(hx:ρ x=.int k m)(hy:ρ y=.int k n)(hb:(m==n)=b)(w:World):(execOp ρ o).run P w=.ok (.value ((.bool b))) w:=by
 exact QfE
theorem Qv4{b:Bool}(ho:o.op=.binOp .eql t x y t')(hw:Region.wanted o (yielded ops a.tmps)=true)(hx:a.eval x=.int k m)(hy:a.eval y=.int k n)(hb:(m==n)=b)(h:wpQuiet P ops C Q rest (a.put o.dst (.bool b))):wpQuiet P ops C Q (o::rest) a:=
 YC hw (fun w _=>Qlj ho hx hy hb w) h
theorem QtL{b:Bool}(ho:o.op=.binOp .neq t x y t')(hx:ρ x=.int k m)(hy:ρ y=.int k n)(hb:(m != n)=b)(w:World):(execOp ρ o).run P w=.ok (.value ((.bool b))) w:=by
 exact QfE
theorem Qu1{b:Bool}(ho:o.op=.binOp .gtr t x y t')(hx:ρ x=.int k m)(hy:ρ y=.int k n)(hb:decide (n<m)=b)(w:World):(execOp ρ o).run P w=.ok (.value ((.bool b))) w:=by
 exact QfE
theorem Qoq{n c:Nat}(ho:o.op=.call { callee:=.builtin .len,args:=#[x],argTypes:=#[t] })(ht:∃e,P.underlying t=some (.slice e))(hx:ρ x=.slice A n c)(w:World):(execOp ρ o).run P w=.ok (.value ((.int .i64 (n:Int)))) w:=by
 obtain⟨e,he⟩:=ht;simp [execOp,ho,hx,he,go_sem]
theorem Qvz{n c:Nat}(ho:o.op=.call { callee:=.builtin .len,args:=#[x],argTypes:=#[t] })(ht:∃e,P.underlying t=some (.slice e))(hw:Region.wanted o (yielded ops a.tmps)=true)(hx:a.eval x=.slice A n c)(h:wpQuiet P ops C Q rest (a.put o.dst (.int .i64 (n:Int)))):wpQuiet P ops C Q (o::rest) a:=
 YC hw (fun w _=>Qoq ho ht hx w) h
end
section
variable {ops:Array Oper}{C:World->Prop}{Q:Act->Prop}{o:Oper}{rest:List Oper}{a:Act}
theorem QnS(ho:o.op=.fieldAddr 65 x i)(hi:i<12)(hx:ρ x=.pointer (some ⟨b,0,none⟩))(w:World):(execOp ρ o).run Tryz.prog w=.ok (.value ((.pointer (some ⟨b,i,none⟩)))) w:=by
 rcases (show i=0\/i=1\/i=2\/i=3\/i=4\/i=5\/i=6\/i=7\/i=8\/i=9\/i=10\/i=11 by omega) with rfl|rfl|rfl|rfl|rfl|rfl|rfl|rfl|rfl|rfl|rfl|rfl<;>simp [execOp,ho,hx,go_sem]
theorem Qpl(ho:o.op=.fieldAddr 65 x i)(hi:i<12)(hw:Region.wanted o (yielded ops a.tmps)=true)(hx:a.eval x=.pointer (some ⟨b,0,none⟩))(h:wpQuiet Tryz.prog ops C Q rest (a.put o.dst (.pointer (some ⟨b,i,none⟩)))):wpQuiet Tryz.prog ops C Q (o::rest) a:=
 YC hw (fun w _=>QnS ho hi hx w) h
theorem Qdc(ho:o.op=.load 3 x)(hx:ρ x=.pointer (some p))(w:World)(hc:w.cell? p=some v):(execOp ρ o).run Tryz.prog w=.ok (.value v) w:=by
 exact Qdb
theorem QfO(ho:o.op=.load 3 x)(hw:Region.wanted o (yielded ops a.tmps)=true)(hx:a.eval x=.pointer (some p))(hc:∀w,C w->w.cell? p=some v)(h:wpQuiet Tryz.prog ops C Q rest (a.put o.dst v)):wpQuiet Tryz.prog ops C Q (o::rest) a:=
 YC hw (fun w hC=>Qdc ho hx w (hc w hC)) h
theorem Q9W(ho:o.op=.load 4 x)(hx:ρ x=.pointer (some p))(w:World)(hc:w.cell? p=some v):(execOp ρ o).run Tryz.prog w=.ok (.value v) w:=by
 exact Qdb
theorem QcF(ho:o.op=.load 4 x)(hw:Region.wanted o (yielded ops a.tmps)=true)(hx:a.eval x=.pointer (some p))(hc:∀w,C w->w.cell? p=some v)(h:wpQuiet Tryz.prog ops C Q rest (a.put o.dst v)):wpQuiet Tryz.prog ops C Q (o::rest) a:=
 YC hw (fun w hC=>Q9W ho hx w (hc w hC)) h
theorem Q7w(ho:o.op=.load 25 x)(hx:ρ x=.pointer (some p))(w:World)(hc:w.cell? p=some v):(execOp ρ o).run Tryz.prog w=.ok (.value v) w:=by
 exact Qdb
theorem Q9y(ho:o.op=.load 25 x)(hw:Region.wanted o (yielded ops a.tmps)=true)(hx:a.eval x=.pointer (some p))(hc:∀w,C w->w.cell? p=some v)(h:wpQuiet Tryz.prog ops C Q rest (a.put o.dst v)):wpQuiet Tryz.prog ops C Q (o::rest) a:=
 YC hw (fun w hC=>Q7w ho hx w (hc w hC)) h
theorem Q58(ho:o.op=.load 27 x)(hx:ρ x=.pointer (some p))(w:World)(hc:w.cell? p=some v):(execOp ρ o).run Tryz.prog w=.ok (.value v) w:=by
 exact Qdb
theorem Q5z(ho:o.op=.load 27 x)(hw:Region.wanted o (yielded ops a.tmps)=true)(hx:a.eval x=.pointer (some p))(hc:∀w,C w->w.cell? p=some v)(h:wpQuiet Tryz.prog ops C Q rest (a.put o.dst v)):wpQuiet Tryz.prog ops C Q (o::rest) a:=
 YC hw (fun w hC=>Q58 ho hx w (hc w hC)) h
theorem Q9l(ho:o.op=.load 48 x)(hx:ρ x=.pointer (some p))(w:World)(hc:w.cell? p=some v):(execOp ρ o).run Tryz.prog w=.ok (.value v) w:=by
 exact Qdb
theorem Qdv(ho:o.op=.load 48 x)(hw:Region.wanted o (yielded ops a.tmps)=true)(hx:a.eval x=.pointer (some p))(hc:∀w,C w->w.cell? p=some v)(h:wpQuiet Tryz.prog ops C Q rest (a.put o.dst v)):wpQuiet Tryz.prog ops C Q (o::rest) a:=
 YC hw (fun w hC=>Q9l ho hx w (hc w hC)) h
theorem Qag(ho:o.op=.load 65 x)(hx:ρ x=.pointer (some ⟨b,0,none⟩))(w:World)(h0:w.cell? ⟨b,0,none⟩=some v0)(h1:w.cell? ⟨b,1,none⟩=some v1)(h2:w.cell? ⟨b,2,none⟩=some v2)(h3:w.cell? ⟨b,3,none⟩=some v3)(h4:w.cell? ⟨b,4,none⟩=some v4)(h5:w.cell? ⟨b,5,none⟩=some v5)(h6:w.cell? ⟨b,6,none⟩=some v6)(h7:w.cell? ⟨b,7,none⟩=some v7)(h8:w.cell? ⟨b,8,none⟩=some v8)(h9:w.cell? ⟨b,9,none⟩=some v9)(h10:w.cell? ⟨b,10,none⟩=some v10)(h11:w.cell? ⟨b,11,none⟩=some v11):
  (execOp ρ o).run Tryz.prog w=.ok (.value (.agg #[v0,v1,v2,v3,v4,v5,v6,v7,v8,v9,v10,v11])) w:=by
 simp [execOp,ho,hx,h0,h1,h2,h3,h4,h5,h6,h7,h8,h9,h10,h11,go_sem]
def Kq(C:World->Prop)(b:Nat)(v0 v1 v2 v3 v4 v5 v6 v7 v8 v9 v10 v11:Value):Prop:=∀w,C w->∀(j:Nat) (u:Value),[v0,v1,v2,v3,v4,v5,v6,v7,v8,v9,v10,v11][j]? =some u->w.cell? ⟨b,j,none⟩=some u
theorem Qcd(hr:Kq C b v0 v1 v2 v3 v4 v5 v6 v7 v8 v9 v10 v11)(ho:o.op=.load 65 x)(hw:Region.wanted o (yielded ops a.tmps)=true)(hx:a.eval x=.pointer (some ⟨b,0,none⟩))(h:wpQuiet Tryz.prog ops C Q rest (a.put o.dst (.agg #[v0,v1,v2,v3,v4,v5,v6,v7,v8,v9,v10,v11]))):wpQuiet Tryz.prog ops C Q (o::rest) a:=
 YC hw (fun w hC=>Qag ho hx w (hr w hC 0 _ rfl) (hr w hC 1 _ rfl) (hr w hC 2 _ rfl) (hr w hC 3 _ rfl) (hr w hC 4 _ rfl) (hr w hC 5 _ rfl) (hr w hC 6 _ rfl) (hr w hC 7 _ rfl) (hr w hC 8 _ rfl) (hr w hC 9 _ rfl) (hr w hC 10 _ rfl) (hr w hC 11 _ rfl)) h
theorem Qez(hr:Kq C b v0 v1 v2 v3 v4 v5 v6 v7 v8 v9 v10 v11)(ho:o.op=.load 3 x)(hw:Region.wanted o (yielded ops a.tmps)=true)(hx:a.eval x=.pointer (some ⟨b,i,none⟩))(hv:[v0,v1,v2,v3,v4,v5,v6,v7,v8,v9,v10,v11][i]? =some v)(h:wpQuiet Tryz.prog ops C Q rest (a.put o.dst v)):wpQuiet Tryz.prog ops C Q (o::rest) a:=
 QfO ho hw hx Qbz h
theorem QcA(hr:Kq C b v0 v1 v2 v3 v4 v5 v6 v7 v8 v9 v10 v11)(ho:o.op=.load 4 x)(hw:Region.wanted o (yielded ops a.tmps)=true)(hx:a.eval x=.pointer (some ⟨b,i,none⟩))(hv:[v0,v1,v2,v3,v4,v5,v6,v7,v8,v9,v10,v11][i]? =some v)(h:wpQuiet Tryz.prog ops C Q rest (a.put o.dst v)):wpQuiet Tryz.prog ops C Q (o::rest) a:=
 QcF ho hw hx Qbz h
theorem QaB(hr:Kq C b v0 v1 v2 v3 v4 v5 v6 v7 v8 v9 v10 v11)(ho:o.op=.load 25 x)(hw:Region.wanted o (yielded ops a.tmps)=true)(hx:a.eval x=.pointer (some ⟨b,i,none⟩))(hv:[v0,v1,v2,v3,v4,v5,v6,v7,v8,v9,v10,v11][i]? =some v)(h:wpQuiet Tryz.prog ops C Q rest (a.put o.dst v)):wpQuiet Tryz.prog ops C Q (o::rest) a:=
 Q9y ho hw hx Qbz h
theorem Q7d(hr:Kq C b v0 v1 v2 v3 v4 v5 v6 v7 v8 v9 v10 v11)(ho:o.op=.load 27 x)(hw:Region.wanted o (yielded ops a.tmps)=true)(hx:a.eval x=.pointer (some ⟨b,i,none⟩))(hv:[v0,v1,v2,v3,v4,v5,v6,v7,v8,v9,v10,v11][i]? =some v)(h:wpQuiet Tryz.prog ops C Q rest (a.put o.dst v)):wpQuiet Tryz.prog ops C Q (o::rest) a:=
 Q5z ho hw hx Qbz h
theorem QcT(hr:Kq C b v0 v1 v2 v3 v4 v5 v6 v7 v8 v9 v10 v11)(ho:o.op=.load 48 x)(hw:Region.wanted o (yielded ops a.tmps)=true)(hx:a.eval x=.pointer (some ⟨b,i,none⟩))(hv:[v0,v1,v2,v3,v4,v5,v6,v7,v8,v9,v10,v11][i]? =some v)(h:wpQuiet Tryz.prog ops C Q rest (a.put o.dst v)):wpQuiet Tryz.prog ops C Q (o::rest) a:=
 Qdv ho hw hx Qbz h
theorem QuD{x:Array Operand}{ts:Array TypeId}(ho:o.op=.call { callee:=.value (.func f),args:=x,argTypes:=ts })(he:∀(args:Array Value) (w:World),(callFunc f args).run Tryz.prog w=.ok (.enter f args) w)(hw:Region.wanted o (yielded ops a.tmps)=true)(args:Array Value)(hx:x.map a.eval=args)(hc:∀w,C w->Calls Tryz.prog f args w fun e w''=>e=.returned v/\C w'')(h:wpQuiet Tryz.prog ops C Q rest (a.put o.dst v)):wpQuiet Tryz.prog ops C Q (o::rest) a:=
 Qts hw (fun w _=>by
  revert hx
  generalize hρ:a.eval=ρ
  have hf:ρ (.func f)=.func (.func f) #[] #[]:=by rw[<- hρ];rfl
  intro hx;subst hx
  simp [execOp,ho,hf,he,go_sem]) hc h
end
end
section
variable {a:Act}{b i:Nat}{c x y:Operand}{l:List Oper}{t:TypeId}{v v0 v1 v10 v11 v2 v3 v4 v5 v6 v7 v8 v9:Value}
abbrev Env:=List (Nat×Value)
class DQ where
 D:List Deferred
instance (priority:=low) dq0:DQ:=⟨[]⟩
structure Ag[dq:DQ](N:Nat)(E:Env)(a:Act):Prop where
 sz:a.tmps.size=N
 df:a.defers=DQ.D
 has:∀i v,E.lookup i=some v->a.tmps[i]? =some v
theorem Ag.nil[dq:DQ]{N:Nat}(h:a.tmps.size=N)(hd:a.defers=DQ.D):Ag N [] a:=⟨h,hd,fun i v h=>by cases h⟩
theorem Ag.cons[dq:DQ]{N:Nat}{E:Env}(h:Ag N E a)(hv:a.tmps[i]? =some v):Ag N ((i,v)::E) a:=
 ⟨h.sz,h.df,fun j u hu=>by
  rw[List.lookup_cons] at hu
  split at hu
  ·next hj=>
   cases hu
   rw[beq_iff_eq] at hj
   rw[hj];exact hv
  ·exact h.has j u hu⟩
theorem Ag.put[dq:DQ]{N d:Nat}{E:Env}(h:Ag N E a)(v:Value)(hd:d<N):Ag N ((d,v)::E) (a.put (some d) v):=by
 refine⟨by show (a.tmps.setIfInBounds d v).size=N;rw[Array.size_setIfInBounds];exact h.sz,h.df,fun j u hu=>?_⟩;show (a.tmps.setIfInBounds d v)[j]? =some u;rw[List.lookup_cons] at hu;split at hu
 ·next hj=>
  cases hu
  rw[beq_iff_eq] at hj;subst hj;rw[Array.getElem?_setIfInBounds];simp [h.sz,hd]
 ·next hj=>
  have hne:¬j=d:=by simpa using hj
  rw[Array.getElem?_setIfInBounds,if_neg (fun e=>hne e.symm)];exact h.has j u hu
def ev(E:Env):Operand->Option Value
 |.tmp i=>E.lookup i
 |.const v=>some v
 |_=>none
theorem Ag.eval[dq:DQ]{N:Nat}{E:Env}(h:Ag N E a)(hx:ev E x=some v):a.eval x=v:=by
 cases x with
 |tmp i=>
  show a.tmps.getD i undef=v;rw[Array.getD_eq_getD_getElem?,h.has i v hx];rfl
 |const u=>cases hx;rfl
 |global g=>cases hx
 |func f=>cases hx
def Qm(ops:Array Oper)(E:Env)(o:Oper):Option Bool:=
 match o.guard with
 |none=>some true
 |some (j,b)=>match (ops[j]?).bind (·.dst) with
  |some s=>match E.lookup s with
   |some (.bool c)=>some (c==b)
   |some (.tuple _)=>some false
   |_=>none
  |none=>none
theorem Ag.want[dq:DQ]{N:Nat}{E:Env}{ops:Array Oper}{o:Oper}{b:Bool}(h:Ag N E a)(hw:Qm ops E o=some b):Region.wanted o (yielded ops a.tmps)=b:=by
 unfold Qm at hw;unfold Region.wanted;cases hg:o.guard with
 |none=>rw[hg] at hw;cases hw;rfl
 |some p=>
  obtain⟨j,c⟩:=p;rw[hg] at hw;simp only at hw ⊢;split at hw
  ·next s hs=>
   split at hw
   ·next u hu=>
    have:=h.has s _ hu;unfold yielded;rw[hs];simp only[Option.bind_some,this];cases hw;cases u<;>cases c<;>rfl
   ·next u hu=>
    have:=h.has s _ hu;unfold yielded;rw[hs];simp only[Option.bind_some,this];cases hw;rfl
   ·cases hw
  ·cases hw
section
variable {P:Program}{ops:Array Oper}{C:World->Prop}{Q:Act->Prop}{N:Nat}{E:Env}{o:Oper}{rest:List Oper}{d:Nat}
def qE[dq:DQ](P:Program)(ops:Array Oper)(C:World->Prop)(Q:Act->Prop)(N:Nat)(E:Env)(l:List Oper):Prop:=∀a,Ag N E a->wpQuiet P ops C Q l a
theorem qE.start[dq:DQ](h:qE P ops C Q N E l)(ha:Ag N E a):wpQuiet P ops C Q l a:=h a ha
theorem qE.nil[dq:DQ](h:∀a,Ag N E a->Q a):qE P ops C Q N E []:=fun a ha=>wpQuiet_nil (h a ha)
theorem qE.cut[dq:DQ](E':Env)(n:Nat)(h1:qE P ops C (fun a=>Ag N E' a) N E (l.take n))(h2:qE P ops C Q N E' (l.drop n)):qE P ops C Q N E l:=fun a ha=>
 QiI (fun a'=>Ag N E' a') n l a (h1 a ha) (fun a' ha'=>h2 a' ha')
theorem Ag.at_[dq:DQ](h:Ag N E a)(hi:E.lookup i=some v):a.tmps[i]? =some v:=h.has i v hi
theorem Q0d[dq:DQ](hd:o.dst=some d)(hN:d<N)(hw:Qm ops E o=some false)(h:qE P ops C Q N ((d,undef)::E) rest):qE P ops C Q N E (o::rest):=fun a ha=>
 Qu6 Jq VT
theorem Zg[dq:DQ](ho:o.op=.move x)(hd:o.dst=some d)(hN:d<N)(hw:Qm ops E o=some true)(hx:ev E x=some v)(h:qE P ops C Q N ((d,v)::E) rest):qE P ops C Q N E (o::rest):=fun a ha=>
 QsU ho Jq J2 VT
theorem Q3A[dq:DQ](ho:o.op=.assign x)(hd:o.dst=some d)(hN:d<N)(hw:Qm ops E o=some true)(hx:ev E x=some v)(h:qE P ops C Q N ((d,v)::E) rest):qE P ops C Q N E (o::rest):=fun a ha=>
 Qlg ho Jq J2 VT
theorem X1[dq:DQ](ho:o.op=.pick c x y)(hd:o.dst=some d)(hN:d<N)(hw:Qm ops E o=some true)(hc:ev E c=some (.bool true))(hx:ev E x=some v)(h:qE P ops C Q N ((d,v)::E) rest):qE P ops C Q N E (o::rest):=fun a ha=>
 QdO ho Jq Q2s J2 VT
theorem Xt[dq:DQ](ho:o.op=.pick c x y)(hd:o.dst=some d)(hN:d<N)(hw:Qm ops E o=some true)(hc:ev E c=some (.bool false))(hx:ev E y=some v)(h:qE P ops C Q N ((d,v)::E) rest):qE P ops C Q N E (o::rest):=fun a ha=>
 Qj4 ho Jq Q2s J2 VT
theorem Qmm[dq:DQ]{b:Bool}(ho:o.op=.unOp .not t x)(hd:o.dst=some d)(hN:d<N)(hw:Qm ops E o=some true)(hx:ev E x=some (.bool b))(h:qE P ops C Q N ((d,.bool (!b))::E) rest):qE P ops C Q N E (o::rest):=fun a ha=>
 Quv ho Jq J2 rfl VT
theorem JJ[dq:DQ]{t':TypeId}{k:IntKind}{m n:Int}{b:Bool}(ho:o.op=.binOp .eql t x y t')(hd:o.dst=some d)(hN:d<N)(hw:Qm ops E o=some true)(hx:ev E x=some (.int k m))(hy:ev E y=some (.int k n))(hb:(m==n)=b)(h:qE P ops C Q N ((d,.bool b)::E) rest):qE P ops C Q N E (o::rest):=fun a ha=>
 Qv4 ho Jq J2 (ha.eval hy) hb VT
theorem Q5X[dq:DQ]{e:TypeId}{A:Option Addr}{n c:Nat}(ho:o.op=.call { callee:=.builtin .len,args:=#[x],argTypes:=#[t] })(ht:P.underlying t=some (.slice e))(hd:o.dst=some d)(hN:d<N)(hw:Qm ops E o=some true)(hx:ev E x=some (.slice A n c))(h:qE P ops C Q N ((d,.int .i64 (n:Int))::E) rest):qE P ops C Q N E (o::rest):=fun a ha=>
 Qvz ho ⟨e,ht⟩ Jq J2 VT
end
section
variable {ops:Array Oper}{C:World->Prop}{Q:Act->Prop}{N:Nat}{E:Env}{o:Oper}{rest:List Oper}{d:Nat}
theorem XW[dq:DQ](ho:o.op=.fieldAddr 65 x i)(hi:i<12)(hd:o.dst=some d)(hN:d<N)(hw:Qm ops E o=some true)(hx:ev E x=some (.pointer (some ⟨b,0,none⟩)))(h:qE Tryz.prog ops C Q N ((d,.pointer (some ⟨b,i,none⟩))::E) rest):qE Tryz.prog ops C Q N E (o::rest):=fun a ha=>
 Qpl ho hi Jq J2 VT
theorem XL[dq:DQ](hr:Kq C b v0 v1 v2 v3 v4 v5 v6 v7 v8 v9 v10 v11)(ho:o.op=.load 65 x)(hd:o.dst=some d)(hN:d<N)(hw:Qm ops E o=some true)(hx:ev E x=some (.pointer (some ⟨b,0,none⟩)))(h:qE Tryz.prog ops C Q N ((d,.agg #[v0,v1,v2,v3,v4,v5,v6,v7,v8,v9,v10,v11])::E) rest):qE Tryz.prog ops C Q N E (o::rest):=fun a ha=>
 Qcd hr ho Jq J2 VT
theorem Xz[dq:DQ](hr:Kq C b v0 v1 v2 v3 v4 v5 v6 v7 v8 v9 v10 v11)(ho:o.op=.load 3 x)(hd:o.dst=some d)(hN:d<N)(hw:Qm ops E o=some true)(hx:ev E x=some (.pointer (some ⟨b,i,none⟩)))(hv:[v0,v1,v2,v3,v4,v5,v6,v7,v8,v9,v10,v11][i]? =some v)(h:qE Tryz.prog ops C Q N ((d,v)::E) rest):qE Tryz.prog ops C Q N E (o::rest):=fun a ha=>
 Qez hr ho Jq J2 hv VT
theorem Q0J[dq:DQ](hr:Kq C b v0 v1 v2 v3 v4 v5 v6 v7 v8 v9 v10 v11)(ho:o.op=.load 4 x)(hd:o.dst=some d)(hN:d<N)(hw:Qm ops E o=some true)(hx:ev E x=some (.pointer (some ⟨b,i,none⟩)))(hv:[v0,v1,v2,v3,v4,v5,v6,v7,v8,v9,v10,v11][i]? =some v)(h:qE Tryz.prog ops C Q N ((d,v)::E) rest):qE Tryz.prog ops C Q N E (o::rest):=fun a ha=>
 QcA hr ho Jq J2 hv VT
theorem Q3x[dq:DQ](hr:Kq C b v0 v1 v2 v3 v4 v5 v6 v7 v8 v9 v10 v11)(ho:o.op=.load 25 x)(hd:o.dst=some d)(hN:d<N)(hw:Qm ops E o=some true)(hx:ev E x=some (.pointer (some ⟨b,i,none⟩)))(hv:[v0,v1,v2,v3,v4,v5,v6,v7,v8,v9,v10,v11][i]? =some v)(h:qE Tryz.prog ops C Q N ((d,v)::E) rest):qE Tryz.prog ops C Q N E (o::rest):=fun a ha=>
 QaB hr ho Jq J2 hv VT
theorem Q0P[dq:DQ](hr:Kq C b v0 v1 v2 v3 v4 v5 v6 v7 v8 v9 v10 v11)(ho:o.op=.load 27 x)(hd:o.dst=some d)(hN:d<N)(hw:Qm ops E o=some true)(hx:ev E x=some (.pointer (some ⟨b,i,none⟩)))(hv:[v0,v1,v2,v3,v4,v5,v6,v7,v8,v9,v10,v11][i]? =some v)(h:qE Tryz.prog ops C Q N ((d,v)::E) rest):qE Tryz.prog ops C Q N E (o::rest):=fun a ha=>
 Q7d hr ho Jq J2 hv VT
theorem Q0C[dq:DQ](hr:Kq C b v0 v1 v2 v3 v4 v5 v6 v7 v8 v9 v10 v11)(ho:o.op=.load 48 x)(hd:o.dst=some d)(hN:d<N)(hw:Qm ops E o=some true)(hx:ev E x=some (.pointer (some ⟨b,i,none⟩)))(hv:[v0,v1,v2,v3,v4,v5,v6,v7,v8,v9,v10,v11][i]? =some v)(h:qE Tryz.prog ops C Q N ((d,v)::E) rest):qE Tryz.prog ops C Q N E (o::rest):=fun a ha=>
 QcT hr ho Jq J2 hv VT
theorem VP[dq:DQ]{f:FuncId}{ts:Array TypeId}{u:Value}(ho:o.op=.call { callee:=.value (.func f),args:=#[x],argTypes:=ts })(he:∀(args:Array Value) (w:World),(callFunc f args).run Tryz.prog w=.ok (.enter f args) w)(hd:o.dst=some d)(hN:d<N)(hw:Qm ops E o=some true)(hx:ev E x=some u)(hc:∀w,C w->Calls Tryz.prog f #[u] w fun e w''=>e=.returned v/\C w'')(h:qE Tryz.prog ops C Q N ((d,v)::E) rest):qE Tryz.prog ops C Q N E (o::rest):=fun a ha=>
 QuD ho he Jq #[u] (by simp [ha.eval hx]) hc VT
end
end
section
variable {P:Program}{W:World}{Q Q0:Exit->Act->World->Prop}{N:Nat}{E:Env}
def cE(P:Program)(W:World)(Q:Exit->Act->World->Prop)(N:Nat)(E:Env)(c:Code):Prop:=∀a,Ag N E a->∀x:Up W,c.wp P Q a x.w
theorem cE.go{a:Act}{c:Code}(h:cE P W Q N E c)(ha:Ag N E a)(x:Up W):c.wp P Q a x.w:=h a ha x
end
section
variable {Q:Exit->Act->World->Prop}{a:Act}{bytes size:Nat}{e t:TypeId}{o:Oper}
section
variable {P:Program}(w:World)
theorem Q6O(hT:SlT P t e size bytes)(ty:TypeId)(base:Nat)(A:Option Addr)(n c:Nat)(xs:List Value)(hown:w.ownsRow base e size (.slice A n c) n xs)
  (B:Nat) (A2:Option Addr) (m c2:Nat) (news:List Value) (hr:Rd w B size A2 m news) (h1:∀u∈news,u.oneCell'=true) (hbytes:(n+m)*bytes<=140737488355328) (hbase:base<=w.heap.size):
  ∃A' c' w',(Builtin.append_ #[t,t] ty #[.slice A n c,.slice A2 m c2]).run P w=.ok (.slice A' (n+m) c') w'/\w'.ownsRow base e size (.slice A' (n+m) c') (n+m) (xs++news)/\w.grownBy w' (Value.slice A n c).ownBlock/\Below base w w':=by
 obtain⟨i,z,hi,hz,hs,hby,hzs⟩:=hT.info;have h63:n+m<=maxLen:=by
  exact Qkg
 have hfar:∀k,(Value.slice A n c).ownBlock=some k->base<=k:=fun k hk=>(hown.lt k hk).1;rcases A2 with _|ad
 ·have hm:m=0:=by
   rcases Nat.eq_zero_or_pos m with h0|h0
   ·exact h0
   ·obtain⟨b,o,h,_⟩:=hr.2 h0
    cases h
  subst hm;have hn:=hr.empty;subst hn;refine⟨A,c,w,?_,by simpa using hown,World.grownBy.refl _ _,Below.refl _ _⟩;rcases hown.2 with ⟨hv,rfl⟩|⟨g,cap,cur,hv,_,_,hnc,_⟩
  ·simp only[Value.slice.injEq] at hv
   exact Qr4
  ·simp only[Value.slice.injEq] at hv
   obtain⟨rfl,_,rfl⟩:=hv;exact QkH
 ·have hcells:∀j u,news[j]? =some u->w.cell? (ad.add j)=some u:=by
   intro j u hu;rcases Nat.eq_zero_or_pos m with h0|h0
   ·subst h0
    have hn:=hr.empty;subst hn;simp at hu
   ·obtain⟨b,o,h,_,hc⟩:=hr.2 h0
    injection h with h;subst h;have e:(⟨b,o,none⟩:Addr).add j=⟨b,o+j,none⟩:=by unfold Addr.add;split<;>simp_all
    rw[e];exact hc j u hu
  obtain⟨v',w',hrun,h2,h3,_⟩:=run_append_own (P:=P) w base t ty e i z size bytes hT.und hi hz hs hby hzs hT.pos _ n xs hown ad m c2 news hr.1 hcells h1 h63 hbytes hbase;obtain⟨A',c',rfl⟩:=Q8b h2;exact⟨A',c',w',hrun,h2,h3,(Below.refl _ _).grown h3 hbase hfar⟩
theorem Qpz{K:Act->World->Prop}(hT:SlT P t e size bytes)(s x:Operand)
  (ho:o.op=.call { callee:=.builtin .append,args:=#[s,x],argTypes:=#[t,t] })
  (base:Nat) (A:Option Addr) (n c:Nat) (xs:List Value) (hs:a.eval s=.slice A n c) (hown:w.ownsRow base e size (.slice A n c) n xs)
  (B:Nat) (A2:Option Addr) (m c2:Nat) (news:List Value) (hx:a.eval x=.slice A2 m c2) (hr:Rd w B size A2 m news) (h1:∀u∈news,u.oneCell'=true)
  (hbytes:(n+m)*bytes<=140737488355328) (hbase:base<=w.heap.size)
  (h:∀A' c' w',w'.ownsRow base e size (.slice A' (n+m) c') (n+m) (xs++news)->w.grownBy w' (Value.slice A n c).ownBlock->Below base w w'->K (a.put o.dst (.slice A' (n+m) c')) w'):o.wp P a w K Q:=by
 obtain⟨A',c',w',hrun,h2,h3,h4⟩:=Q6O (P:=P) w hT o.type base A n c xs hown B A2 m c2 news hr h1 hbytes hbase;refine QrW ?_;exact h A' c' w' h2 h3 h4
theorem QbM{ops:Array Oper}{rest:List Oper}(hT:SlT P t e size bytes)(hgd:o.guard=none)(s x:Operand)
  (ho:o.op=.call { callee:=.builtin .append,args:=#[s,x],argTypes:=#[t,t] })
  (base:Nat) (A:Option Addr) (n c:Nat) (xs:List Value) (hs:a.eval s=.slice A n c) (hown:w.ownsRow base e size (.slice A n c) n xs)
  (B:Nat) (A2:Option Addr) (m c2:Nat) (news:List Value) (hx:a.eval x=.slice A2 m c2) (hr:Rd w B size A2 m news) (h1:∀u∈news,u.oneCell'=true)
  (hbytes:(n+m)*bytes<=140737488355328) (hbase:base<=w.heap.size)
  (h:∀A' c' w',w'.ownsRow base e size (.slice A' (n+m) c') (n+m) (xs++news)->w.grownBy w' (Value.slice A n c).ownBlock->Below base w w'->wpList P ops Q rest (a.put o.dst (.slice A' (n+m) c')) w'):wpList P ops Q (o::rest) a w:=
 wpList_plain hgd fun _ hK=>Qpz w hT s x ho base A n c xs hs hown B A2 m c2 news hx hr h1 hbytes hbase fun A' c' w' h2 h3 h4=>hK _ _ (h A' c' w' h2 h3 h4)
end
end
end Go.Proofs.YtphkhfdmlcnoeaaGreatDoor
