import Derived.Test.YtphkhfdmlcnoeaaGreatDoorP4
import Derived.Great.BuildSlice
namespace Go.Proofs.YtphkhfdmlcnoeaaGreatDoor
set_option linter.unusedVariables false
set_option linter.unusedSimpArgs false
set_option maxRecDepth 1000000
set_option maxHeartbeats 32000000
open Go.RowKit
section
variable {b bytes c n q s size:Nat}{cs vs xs:List Value}{e t tb:TypeId}{f:FuncId}{ts:Array TypeId}{u v:Value}{w:World}{x y:Operand}{ι:Type}
def ZL(cs:List Value)(q:Nat):List Value->List Value
 |[]=>cs
 |u::r=>ZL (cs.set q u) (q+1) r
theorem VV(us:List Value):∀(cs:List Value) (q:Nat),(ZL cs q us).length=cs.length:=by
 induction us with
 |nil=>intro cs q;rfl
 |cons u r ih=>intro cs q;rw[ZL,ih,List.length_set]
theorem Q0M(us:List Value):∀(cs:List Value) (q j:Nat),(ZL cs q us)[j]? =if q<=j/\j<q+us.length/\j<cs.length then us[j - q]? else cs[j]?:=by
 induction us with
 |nil=>intro cs q j;rw[if_neg (by simp;omega)];rfl
 |cons u r ih=>
  intro cs q j;rw[ZL,ih,List.length_set,List.getElem?_set];simp only[List.length_cons];by_cases h1:q=j
  ·subst h1
   rw[if_neg Q3,if_pos rfl];by_cases h2:q<cs.length
   ·rw[if_pos h2,if_pos Q3];simp
   ·rw[if_neg h2,if_neg Q3,List.getElem?_eq_none Q3]
  ·rw[if_neg h1]
   by_cases h2:q+1<=j/\j<q+1+r.length/\j<cs.length
   ·rw[if_pos h2,if_pos Q3,show j - q=(j - (q+1))+1 by omega,List.getElem?_cons_succ]
   ·rw[if_neg h2,if_neg Q3]
theorem Jq(v:Value)(hb:w.heap[b]? =some (.cells cs.toArray t (0,0))):(w.setCell ⟨b,q,none⟩ v).heap[b]? =some (.cells (cs.set q v).toArray t (0,0)):=by
 simp only[World.setCell,Array.getElem?_modify,if_true,hb];simp
theorem Ja:∀(us:List Value) (w:World) (q:Nat) (cs:List Value),w.heap[b]? =some (.cells cs.toArray t (0,0))->(w.setCells b q us).heap[b]? =some (.cells (ZL cs q us).toArray t (0,0)):=by
 intro us;induction us with
 |nil=>intro w q cs h;exact h
 |cons u r ih=>intro w q cs h;exact ih _ (q+1) _ (Jq u h)
theorem YE(w:World)(p:Addr)(v:Value):w.grownBy (w.setCell p v) (some p.block):=
 ⟨rfl,rfl,rfl,by simp [World.setCell],fun k hk hne=>Below.heap_setCell w _ _ _ (fun e=>hne (by rw[e]))⟩
theorem QcO{w1 w2:World}{b:Option Nat}(h:w.grownBy w1 b)(k:w1.grownBy w2 b):w.grownBy w2 b:=
 ⟨k.os.trans h.os,k.tape.trans h.tape,k.output.trans h.output,Nat.le_trans h.size k.size,fun i hi hne=>(k.block i (Nat.lt_of_lt_of_le hi h.size) hne).trans (h.block i hi hne)⟩
theorem Yn(b:Nat):∀(us:List Value) (w:World) (q:Nat),w.grownBy (w.setCells b q us) (some b):=by
 intro us;induction us with
 |nil=>intro w q;exact Qgt
 |cons u r ih=>intro w q;exact QcO (YE w ⟨b,q,none⟩ u) (ih _ (q+1))
theorem QaQ(h:w.ownsRow 0 e s (.slice (some ⟨b,0,none⟩) n c) n xs):∃cur:List Value,w.heap[b]? =some (.cells cur.toArray e (0,0))/\n<=c/\c<=maxLen/\cur.length=c*s/\cur.take (n*s)=xs:=by
 rcases h.2 with ⟨hv,_⟩|⟨g,cap,cur,hv,_,hg,h1,h2,h3,h4⟩
 ·cases hv
 ·cases hv
  exact⟨cur.toList,by simpa using hg,h1,h2,by simpa using h3,h4⟩
theorem Y5{cur:List Value}(hb:w.heap[b]? =some (.cells cur.toArray e (0,0)))(h1:n<=c)(h2:c<=maxLen)(h3:cur.length=c*s)(h4:cur.take (n*s)=xs):w.ownsRow 0 e s (.slice (some ⟨b,0,none⟩) n c) n xs:=
 ⟨by rw[<- h4,List.length_take,h3];exact Nat.min_eq_left (Nat.mul_le_mul_right _ h1),.inr ⟨b,c,cur.toArray,rfl,Nat.zero_le _,hb,h1,h2,by simpa using h3,by simpa using h4⟩⟩
theorem QiN(us:List Value):∀(cs:List Value) (q m:Nat),q+us.length<=m->(ZL cs q us).take m=ZL (cs.take m) q us:=by
 induction us with
 |nil=>intro cs q m _;rfl
 |cons u r ih=>
  intro cs q m h;simp only[List.length_cons] at h;rw[ZL,ZL,ih _ _ _ Q3,List.take_set]
def ZN(P:Program)(R:Value->World->Prop):Result Next->Prop
 |.ok (.value u) w'=>R u w'
 |.ok .skip w'=>R undef w'
 |.ok (.enter f args) w'=>Calls P f args w' (fun e w''=>∃v,e=.returned v/\R v w'')
 |_=>False
def uE[dq:DQ](P:Program)(ops:Array Oper)(N:Nat)(M:List Nat)(W:World)(E:Env)(O:List Qf)(o:Oper)(ι:Type)(V:ι->Value)(G:ι->List Qf)(p:ι->Prop):Prop:=
 ∀a w,Ag N E a->Wd M W O w->Region.wanted o (yielded ops a.tmps)=true/\ZN P (fun v w'=>∃i,v=V i/\p i/\Wd M W (G i) w') ((execOp a.eval o).run P w)
theorem Oper.wp_of_loud{P:Program}{o:Oper}{a:Act}{R:Value->World->Prop}{K:Act->World->Prop}{Q:Exit->Act->World->Prop}(h:ZN P R ((execOp a.eval o).run P w))(hk:∀v w',R v w'->K (a.put o.dst v) w'):o.wp P a w K Q:=by
 unfold Oper.wp;generalize (execOp a.eval o).run P w=r at h;cases r with
 |ok n w'=>
  cases n<;>simp only[ZN] at h<;>simp only[Oper.upon]
  case value u=>exact hk _ _ h
  case skip=>exact hk _ _ h
  case enter f args=>exact h.mono fun e w'' ⟨v,he,hr⟩=>by subst he;exact hk _ _ hr
 |halt x w'=>simp only[ZN] at h
section
variable {P:Program}{ops:Array Oper}{Q:Exit->Act->World->Prop}{N:Nat}{E:Env}{o:Oper}{rest:List Oper}{M:List Nat}{W:World}{O:List Qf}{d:Nat}
theorem Qd[dq:DQ]{V:ι->Value}{G:ι->List Qf}{p:ι->Prop}(h1:uE P ops N M W E O o ι V G p)(hd:o.dst=some d)(hN:d<N)(h:∀i,p i->lE P ops Q N M W ((d,V i)::E) (G i) rest):lE P ops Q N M W E O (o::rest):=fun a w ha hW=>by
 obtain⟨hw,hl⟩:=h1 a w ha hW;refine wpList_step fun K hK=>?_;rw[if_pos hw];refine Oper.wp_of_loud hl ?_;exact QjX
theorem QD[dq:DQ]{V:ι->Value}{G:ι->List Qf}{p:ι->Prop}(h1:uE P ops N M W E O o ι V G p)(hd:o.dst=none)(h:∀i,p i->lE P ops Q N M W E (G i) rest):lE P ops Q N M W E O (o::rest):=fun a w ha hW=>by
 obtain⟨hw,hl⟩:=h1 a w ha hW;refine wpList_step fun K hK=>?_;rw[if_pos hw];refine Oper.wp_of_loud hl ?_;rintro v w' ⟨i,rfl,hp,hW'⟩;rw[hd];exact hK _ _ (h i hp _ w' ha hW')
theorem Qf2[hT:T1 P t](h1:v.oneCell'=true)(hcell:w.cell? ⟨b,q,none⟩=some u)(hfr:w.frozen? ⟨b,q,none⟩=false):(Instr.storeAt t (.pointer (some ⟨b,q,none⟩)) v).run P w=.ok () (w.setCell ⟨b,q,none⟩ v):=by
 obtain⟨ds,hu,hr,hi⟩:=hT.h;have hvc:v.cells=#[v]:=by cases v<;>first|rfl|cases h1
 have hs:∃j,P.info? t=some j/\j.size=1:=by
  cases hq:P.info? t with
  |none=>rw[hq] at hi;cases hi
  |some j=>rw[hq] at hi;simp at hi;exact⟨j,rfl,hi⟩
 obtain⟨j,hj,hz⟩:=hs;have hst:(store (⟨b,q,none⟩:Addr) v).run P w=.ok () (w.setCell ⟨b,q,none⟩ v):=by
  rw[run_store P w _ v _ h1,hcell,hfr];rfl
 simp [Instr.storeAt,Instr.sureAddr,storeVar,sizeOf,typeInfo,hj,hz,hvc,storeCells,Addr.add_mid,hst]
theorem Q00[dq:DQ]{V:ι->Value}{G:ι->List Qf}{p:ι->Prop}(hw:Qo ops E o=some true)(hv:∀ρ w,Ev E ρ->Wd M W O w->∃i w',(execOp ρ o).run P w=.ok (.value (V i)) w'/\p i/\Wd M W (G i) w'):uE P ops N M W E O o ι V G p:=fun a w ha hW=>by
 refine⟨ha.want hw,?_⟩;obtain⟨i,w',hr,hp,h2⟩:=hv a.eval w ha.ev hW;rw[hr];exact⟨i,rfl,hp,h2⟩
theorem Qfo[dq:DQ]{G:List Qf}(hw:Qo ops E o=some true)(hv:∀ρ w,Ev E ρ->Wd M W O w->∃w',(execOp ρ o).run P w=.ok .skip w'/\Wd M W G w'):uE P ops N M W E O o Unit (fun _=>undef) (fun _=>G) (fun _=>True):=fun a w ha hW=>by
 refine⟨ha.want hw,?_⟩;obtain⟨w',hr,h2⟩:=hv a.eval w ha.ev hW;rw[hr];exact⟨(),rfl,trivial,h2⟩
theorem Qqq[dq:DQ](ho:o.op=.box t x)(hw:Qo ops E o=some true)(hx:ev E x=some v)(hc:v.cells=cs.toArray):uE P ops N M W E O o Nat (fun b=>.pointer (some ⟨b,0,none⟩)) (fun b=>.blk b (.cells cs.toArray t (0,0))::O) (fun _=>True):=
 Q00 hw fun ρ w ha hW=>
  ⟨w.heap.size,w.alloc (.cells cs.toArray t (0,0)),by
   simp [execOp,ho,ha.eval hx,Instr.box,newVar,newRow,go_sem]
   show w.alloc (Obj.cells v.cells t)=_
   rw[hc],trivial,hW.push ((Below.refl _ _).alloc (Nat.le_refl _) _) (heap_alloc_new w _) (fun b hb=>by cases hb;exact Nat.le_refl _)⟩
class VL(P:Program)(t:TypeId)(cs:outParam (List Value)):Prop where
 h:∃z,(P.info? t).bind (·.zero)=some z/\z.cells=cs.toArray
theorem Q1b[dq:DQ][hz:VL P t cs](ho:o.op=.alloc t)(hw:Qo ops E o=some true):uE P ops N M W E O o Nat (fun b=>.pointer (some ⟨b,0,none⟩)) (fun b=>.blk b (.cells cs.toArray t (0,0))::O) (fun _=>True):=
 Q00 hw fun ρ w ha hW=>
  ⟨w.heap.size,w.alloc (.cells cs.toArray t (0,0)),by
   obtain⟨z,hz,hc⟩:=hz.h
   cases hq:P.info? t with
   |none=>rw[hq] at hz;cases hz
   |some i=>
    rw[hq] at hz
    simp only[Option.bind_some] at hz
    simp [execOp,ho,Instr.alloc,zeroValue,typeInfo,hq,hz,newVar,newRow,go_sem]
    show w.alloc (Obj.cells z.cells t)=_
    rw[hc],trivial,hW.push ((Below.refl _ _).alloc (Nat.le_refl _) _) (heap_alloc_new w _) (fun b hb=>by cases hb;exact Nat.le_refl _)⟩
theorem VI[dq:DQ](i:Nat)[hT:T1 P t](ho:o.op=.store t x y)(hw:Qo ops E o=some true)(hx:ev E x=some (.pointer (some ⟨b,q,none⟩)))(hy:ev E y=some v)(h1:v.oneCell'=true)(hO:O[i]? =some (.blk b (.cells cs.toArray tb (0,0))))(hq:cs[q]? =some u):
  uE P ops N M W E O o Unit (fun _=>undef) (fun _=>O.set i (.blk b (.cells (cs.set q v).toArray tb (0,0)))) (fun _=>True):=
 Qfo hw fun ρ w ha hW=>by
  have hb:w.heap[b]? =some (.cells cs.toArray tb (0,0)):=hW.own i _ hO;have hcell:w.cell? ⟨b,q,none⟩=some u:=by rw[cell_of_row w b q cs.toArray tb (0,0) hb];simpa using hq
  have hfr:w.frozen? ⟨b,q,none⟩=false:=by simp [World.frozen?,hb]
  refine⟨w.setCell ⟨b,q,none⟩ v,?_,hW.upd hO rfl rfl (YE w ⟨b,q,none⟩ v) (Jq v hb) Q56⟩;exact Qnj
theorem Q0U[dq:DQ](i:Nat){us:List Value}[hT:TN P t n](ho:o.op=.store t x y)(hw:Qo ops E o=some true)(hx:ev E x=some (.pointer (some ⟨b,q,none⟩)))(hy:ev E y=some (.agg us.toArray))(h1:us.all (·.oneCell')=true)(hl:us.length=n)(hO:O[i]? =some (.blk b (.cells cs.toArray tb (0,0))))(hq:q+us.length<=cs.length):
  uE P ops N M W E O o Unit (fun _=>undef) (fun _=>O.set i (.blk b (.cells (ZL cs q us).toArray tb (0,0)))) (fun _=>True):=
 Qfo hw fun ρ w ha hW=>by
  obtain⟨ds,hu,hr,hi⟩:=hT.h;have hb:w.heap[b]? =some (.cells cs.toArray tb (0,0)):=hW.own i _ hO;have ht:w.there b q us.toArray.size:=fun j hj=>by
   have hj':j<us.length:=by simpa using hj
   refine⟨?_,by simp [World.frozen?,hb]⟩;rw[cell_of_row w b (q+j) cs.toArray tb (0,0) hb];simp;omega
  have hrun:=run_storeAt_mid (P:=P) w b q t us.toArray ht (by rw[hi];simp [hl]) Qe1;refine⟨w.setCells b q us,?_,hW.upd hO rfl rfl (Yn b us w q) (Ja us w q cs hb) Q56⟩;have hrun':(Instr.storeAt t (.pointer (some ⟨b,q,none⟩)) (.agg us.toArray)).run P w=.ok () (w.setCells b q us):=by simpa using hrun
  simp [execOp,ho,ha.eval hx,ha.eval hy,hrun']
theorem Z3[dq:DQ](i:Nat)[hT:T1 P t](ho:o.op=.store t x y)(hw:Qo ops E o=some true)(hx:ev E x=some (.pointer (some ⟨b,q,none⟩)))(hy:ev E y=some v)(h1:v.oneCell'=true)(hO:O[i]? =some (.row (some ⟨b,0,none⟩) n c e s xs))(hq:q<n*s):
  uE P ops N M W E O o Unit (fun _=>undef) (fun _=>O.set i (.row (some ⟨b,0,none⟩) n c e s (xs.set q v))) (fun _=>True):=
 Qfo hw fun ρ w ha hW=>by
  obtain⟨cur,hb,h2,h3,h4,h5⟩:=QaQ Q7A;have hqc:q<cur.length:=by rw[h4];exact Nat.lt_of_lt_of_le hq QeR
  have hcell:w.cell? ⟨b,q,none⟩=some cur[q]:=by rw[cell_of_row w b q cur.toArray e (0,0) hb];simp [hqc]
  have hfr:w.frozen? ⟨b,q,none⟩=false:=by simp [World.frozen?,hb]
  refine⟨w.setCell ⟨b,q,none⟩ v,?_,hW.upd hO rfl rfl (YE w ⟨b,q,none⟩ v) (Y5 (Jq v hb) h2 h3 (by rw[List.length_set];exact h4) (by rw[<- h5,List.take_set])) Q56⟩;exact Qnj
theorem Qd7(hT:SlT P t e size bytes)(ty:TypeId)(w:World)(A:Option Addr)(n c:Nat)(xs:List Value)(hown:w.ownsRow 0 e size (.slice A n c) n xs)
  (B:Nat) (A2:Option Addr) (m c2:Nat) (news:List Value) (hr:Rd w B size A2 m news) (h1:∀u∈news,u.oneCell'=true) (hbytes:(n+m)*bytes<=140737488355328):
  ∃A' c' w',(Builtin.append_ #[t,t] ty #[.slice A n c,.slice A2 m c2]).run P w=.ok (.slice A' (n+m) c') w'/\w'.ownsRow 0 e size (.slice A' (n+m) c') (n+m) (xs++news)/\w.grownBy w' (Value.slice A n c).ownBlock/\(∀b,(Value.slice A' (n+m) c').ownBlock=some b->(Value.slice A n c).ownBlock=some b\/w.heap.size<=b):=by
 obtain⟨A',c',w',hrun,h2,h3,_⟩:=Q6e w hT ty 0 A n c xs hown B A2 m c2 news hr h1 hbytes Z4;refine⟨A',c',w',hrun,h2,h3,fun b hb=>?_⟩;rcases hown.2 with ⟨hv,rfl⟩|⟨g,cap,cur,hv,_,hg,hnc,_⟩
 ·simp only[Value.slice.injEq] at hv
  obtain⟨rfl,_,rfl⟩:=hv;have hx:xs=[]:=Qmo;subst hx;obtain⟨A'',c'',w'',hrun',h2',_⟩:=Q6e (P:=P) w hT ty w.heap.size none 0 0 [] (World.ownsRow_nil w _ _ _) B A2 m c2 news hr h1 hbytes Xr;rw[hrun] at hrun';injection hrun' with e1 e2;rw[e1] at hb;exact .inr (h2'.lt b hb).1
 ·simp only[Value.slice.injEq] at hv
  obtain⟨rfl,_,rfl⟩:=hv;by_cases hroom:n+m<=c
  ·left
   obtain⟨i,z,hi,hz,hs,hby,hzs⟩:=hT.info;rcases A2 with _|ad
   ·have hm:m=0:=by
     rcases Nat.eq_zero_or_pos m with h0|h0
     ·exact h0
     ·obtain⟨b',o',h,_⟩:=hr.2 h0
      cases h
    subst hm;have hre:(Builtin.append_ #[t,t] ty #[.slice (some ⟨g,0,none⟩) n c,.slice none 0 c2]).run P w=.ok (.slice (some ⟨g,0,none⟩) (n+0) c) w:=by
     exact Qmq
    exact Qlr
   ·have hcells:∀j u,news[j]? =some u->w.cell? (ad.add j)=some u:=by
     intro j u hu;rcases Nat.eq_zero_or_pos m with h0|h0
     ·subst h0
      rw[hr.empty] at hu;cases hu
     ·obtain⟨b',o',h,_,hc⟩:=hr.2 h0
      exact Qh7
    obtain⟨curl,hb',h5,h6,h7,h8⟩:=QaQ hown;have hcur:w.heap[g]? =some (.cells curl.toArray e (0,0)):=hb'
    have hre:=run_append_room (P:=P) w t ty e i hT.und hi g n c curl.toArray hcur ad m c2 news (by rw[hs];exact hr.1) hcells h1 hroom (by
     rw[hs,hr.1,List.size_toArray,h7,<- Nat.add_mul]
     exact Nat.mul_le_mul_right _ hroom)
    exact Qlr
  ·right
   obtain⟨i,z,hi,hz,hs,hby,hzs⟩:=hT.info;rcases A2 with _|ad
   ·have hm:m=0:=by
     rcases Nat.eq_zero_or_pos m with h0|h0
     ·exact h0
     ·obtain⟨b',o',h,_⟩:=hr.2 h0
      cases h
    subst hm;omega
   ·have hcells:∀j u,news[j]? =some u->w.cell? (ad.add j)=some u:=by
     intro j u hu;rcases Nat.eq_zero_or_pos m with h0|h0
     ·subst h0
      rw[hr.empty] at hu;cases hu
     ·obtain⟨b',o',h,_,hc⟩:=hr.2 h0
      exact Qh7
    have h63:n+m<=maxLen:=by
     exact Qkz
    have hsmall:n+m<=9223372036854775807:=by simp only[maxLen] at h63;omega
    have hre:=run_append_grow (P:=P) w t ty e i z hT.und hi hz ⟨g,0,none⟩ n c xs (by rw[hs];exact hown.1) (hown.cells (g:=g) rfl) ad m c2 news (by rw[hs];exact hr.1) hcells Q3 Q3 (growslice_fits Q3 (by rw[hby];exact hbytes));rw[hrun] at hre;injection hre with e1 e2;rw[e1] at hb;cases hb;exact Nat.le_refl _
theorem Zt[dq:DQ](i:Nat){s:Operand}{A A2:Option Addr}{m c2:Nat}{news:List Value}[hT:Sl P t e size bytes](ho:o.op=.call { callee:=.builtin .append,args:=#[s,x],argTypes:=#[t,t] })(hw:Qo ops E o=some true)(hs:ev E s=some (.slice A n c))(hx:ev E x=some (.slice A2 m c2))
  (hO:O[i]? =some (.row A n c e size xs)) (hr:∀w,Wd M W O w->Rd w w.heap.size size A2 m news) (h1:∀u∈news,u.oneCell'=true) (hbytes:(n+m)*bytes<=140737488355328):
  uE P ops N M W E O o (Option Addr×Nat) (fun q=>.slice q.1 (n+m) q.2) (fun q=>O.set i (.row q.1 (n+m) q.2 e size (xs++news))) (fun q=>True):=
 Q00 hw fun ρ w ha hW=>by
  obtain⟨A',c',w',hrun,h2,h3,h4⟩:=Qd7 (P:=P) hT.h o.type w A n c xs Q7A _ A2 m c2 news (hr w hW) h1 hbytes;refine⟨(A',c'),w',?_,trivial,hW.upd hO rfl rfl h3 h2 h4⟩;unfold execOp;simp only[ho,resolve,invoke,builtin,Sem.run_bind,Sem.run_pure,Result.andThen_ok,List.map_toArray,List.map_cons,List.map_nil,ha.eval hs,ha.eval hx,hrun]
theorem Wd.row(e:TypeId)(size:Nat)(hW:Wd M W O w):Wd M W (.row none 0 0 e size []::O) w:=
 hW.add (World.ownsRow_nil w 0 e size) (fun b hb=>by cases hb) (fun i x b _ _ hb=>by cases hb)
theorem Q16[dq:DQ](e:TypeId)(size:Nat){c:Code}(h:sE P Q N M W E (.row none 0 0 e size []::O) c):sE P Q N M W E O c:=fun a w ha hW=>h a w ha (hW.row e size)
theorem Wd.blk_row{i:Nat}(hW:Wd M W O w)(hO:O[i]? =some (.blk b (.cells cs.toArray e (0,0))))(hl:cs.length=n*s)(hn:n<=maxLen):Wd M W (O.set i (.row (some ⟨b,0,none⟩) n n e s cs)) w:=
 hW.upd hO rfl rfl Qgt (Y5 Q7A Xr hn hl (List.take_of_length_le Q3)) Q56
theorem VJ[dq:DQ]{len:Nat}{xs:List (Nat×Operand)}{vs:List (Nat×Value)}{cells:List Value}[hT:Sl P t e size bytes](ho:o.op=.buildSlice t len xs.toArray)(hw:Qo ops E o=some true)(hx:evp E xs=some vs)
  (hb:∀w,(Instr.buildSlice t len vs.toArray).run P w=.ok (.slice (some ⟨w.heap.size,0,none⟩) len len) (w.alloc (.cells cells.toArray e))):
  uE P ops N M W E O o Nat (fun b=>.slice (some ⟨b,0,none⟩) len len) (fun b=>.blk b (.cells cells.toArray e (0,0))::O) (fun _=>True):=
 Q00 hw fun ρ w ha hW=>by
  refine⟨w.heap.size,w.alloc (.cells cells.toArray e),?_,trivial,hW.push QrL (heap_alloc_new w _) (fun b hb=>by cases hb;exact Nat.le_refl _)⟩;have hp:=ha.evalp _ _ hx;have e1:(xs.toArray.map fun(i,x)=>(i,ρ x))=vs.toArray:=by rw[<- hp];simp
  simp only[execOp,ho,e1,Sem.run_bind,hb w,Result.andThen_ok];rfl
theorem Qf0[dq:DQ]{k k':IntKind}[hT:Sl P t e size bytes][hz:VL P e cs](ho:o.op=.makeSlice t x y)(hw:Qo ops E o=some true)(hx:ev E x=some (.int k (n:Int)))(hy:ev E y=some (.int k' (n:Int)))(hn:bytes*n<=140737488355328):
  uE P ops N M W E O o Nat (fun b=>.slice (some ⟨b,0,none⟩) n n) (fun b=>.row (some ⟨b,0,none⟩) n n e size (Go.madeCells cs.toArray (n*size)).toList::O) (fun _=>True):=
 Q00 hw fun ρ w ha hW=>by
  obtain⟨i,z',hi,hz',hs,hby,hzs⟩:=hT.h.info;obtain⟨z,hz,hc⟩:=hz.h;rw[hi] at hz;simp only[Option.bind_some] at hz;rw[hz'] at hz;cases hz;subst hby;subst hs;have hn0:n<=140737488355328:=Nat.le_trans (Nat.le_mul_of_pos_left n hT.h.bpos) hn;have hb':(i.bytes:Int)*(n:Int)<=281474976710656:=by
   rw[<- Int.natCast_mul];omega
  have hrun:=run_make (P:=P) w t e i z' hT.h.und hi hz' k k' (n:Int) (n:Int) Q3 Q3 hb' Q3;simp only[Int.toNat_natCast,hc] at hrun;refine⟨w.heap.size,_,?_,trivial,hW.push ((Below.refl _ _).alloc Xr _) (Y5 (by rw[Array.toArray_toList];exact heap_alloc_new w _) Xr (by unfold maxLen;omega) (by rw[Array.length_toList,size_madeCells]) (List.take_of_length_le (by rw[Array.length_toList,size_madeCells];exact Nat.le_refl _))) (fun b hb=>by cases hb;exact Nat.le_refl _)⟩;simp only[execOp,ho,ha.eval hx,ha.eval hy,hrun,Sem.run_bind,Sem.run_pure,Result.andThen_ok]
def X7{ι:Type}(V:ι->Value)(p:ι->Prop)(M:List Nat)(W:World)(G:ι->List Qf)(e:Ending)(w':World):Prop:=∃i,e=.returned (V i)/\p i/\Wd M W (G i) w'
theorem Qop[dq:DQ]{V:ι->Value}{p:ι->Prop}{G:ι->List Qf}{args:Array Value}(hw:Qo ops E o=some true)(hv:∀ρ w,Ev E ρ->(execOp ρ o).run P w=.ok (.enter f args) w)
  (hc:∀w,Wd M W O w->Calls P f args w (X7 V p M W G)):uE P ops N M W E O o ι V G p:=fun a w ha hW=>by
 refine⟨ha.want hw,?_⟩;rw[hv a.eval w ha.ev];refine(hc w hW).mono ?_;rintro e w' ⟨i,rfl,hp,hW'⟩;exact⟨_,rfl,i,rfl,hp,hW'⟩
theorem QY[dq:DQ](V:ι->Value)(p:ι->Prop)(G:ι->List Qf){xs:List Operand}[he:En P f](ho:o.op=.call { callee:=.value (.func f),args:=xs.toArray,argTypes:=ts })(hw:Qo ops E o=some true)(hx:evs E xs=some vs)
  (hc:∀w,Wd M W O w->Calls P f vs.toArray w (X7 V p M W G)):uE P ops N M W E O o ι V G p:=
 Qop hw (fun ρ w ha=>QeO ho hx ρ w ha) hc
theorem Qab[dq:DQ](V:ι->Value)(p:ι->Prop)(G:ι->List Qf){x:Tmp}{xs:List Operand}{cap:Array Value}[he:En P f](ho:o.op=.call { callee:=.value (.tmp x),args:=xs.toArray,argTypes:=ts })(hw:Qo ops E o=some true)(hf:ev E (.tmp x)=some (.func (.func f) #[] cap))(hx:evs E xs=some vs)
  (hc:∀w,Wd M W O w->Calls P f (vs.toArray++cap) w (X7 V p M W G)):uE P ops N M W E O o ι V G p:=
 Qop hw (fun ρ w ha=>Qoh ho hf hx ρ w ha) hc
end
end
end Go.Proofs.YtphkhfdmlcnoeaaGreatDoor
