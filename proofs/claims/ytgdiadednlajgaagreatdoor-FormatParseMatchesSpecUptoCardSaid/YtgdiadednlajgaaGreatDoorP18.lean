import Derived.Test.YtgdiadednlajgaaGreatDoorP17
namespace Go.Proofs.YtgdiadednlajgaaGreatDoor
set_option linter.unusedVariables false
set_option linter.unusedSimpArgs false
open Go.RowKit
def Xk:List (Nat→Bool)→List Value
 |[]=>[]
 |s::l=>X2 s++Xk l
theorem Q4A:∀l:List (Nat→Bool),(Xk l).length=l.length*256
 |[]=>rfl
 |s::l=>by rw[Xk,List.length_append,Qn,Q4A l,List.length_cons];omega
theorem Q4S:∀(l m:List (Nat→Bool)),Xk (l++m)=Xk l++Xk m
 |[],m=>rfl
 |s::l,m=>by rw[List.cons_append,Xk,Xk,Q4S l m,List.append_assoc]
def Z2:Nat→Bool:=fun _=>false
theorem Q16:∀(l:List (Nat→Bool)) (k c:Nat),k<l.length→c<256→(Xk l)[k*256+c]? =some (.bool ((l.getD k Z2) c))
 |[],k,c,h,_=>absurd h (by simp)
 |s::l,0,c,_,hc=>by
  rw[Xk,List.getElem?_append_left (by rw[Qn];omega),Nat.zero_mul,Nat.zero_add,ZN s hc]
  rfl
 |s::l,k+1,c,h,hc=>by
  rw[Xk,List.getElem?_append_right (by rw[Qn];omega),Qn,show (k+1)*256+c - 256=k*256+c by omega,Q16 l k c (by simpa using h) hc]
  rfl
theorem Q4u:∀(l:List (Nat→Bool)) (k c:Nat) (b:Bool),k<l.length→c<256→(Xk l).set (k*256+c) (.bool b)=Xk (l.set k (fun j=>if j=c then b else (l.getD k Z2) j))
 |[],k,c,b,h,_=>absurd h (by simp)
 |s::l,0,c,b,_,hc=>by
  rw[Xk,List.set_append_left _ _ (by rw[Qn];omega),Nat.zero_mul,Nat.zero_add,Y2]
  rfl
 |s::l,k+1,c,b,h,hc=>by
  rw[Xk,List.set_append_right _ _ (by rw[Qn];omega),Qn,show (k+1)*256+c - 256=k*256+c by omega,Q4u l k c b (by simpa using h) hc]
  rfl
theorem Q0E(l:List (Nat→Bool))(k:Nat)(h:k<l.length):∀j u,(X2 (l.getD k Z2))[j]? =some u→(Xk l)[k*256+j]? =some u:=by
 intro j u hu
 have hj:j<256:=by
  rcases Nat.lt_or_ge j 256 with hj|hj
  ·exact hj
  ·rw[List.getElem?_eq_none (by rw[Qn];omega)] at hu;cases hu
 rw[Q16 l k j h hj];rw[ZN _ hj] at hu;exact hu
def Yq(r:Rl):Nat→Bool:=Q0A r.kind r.bs r.size r.big r.mn r.mx r.stop
def orS(s t:Nat→Bool):Nat→Bool:=fun j=>s j||t j
def Vz(Ss:List (Nat→Bool))(k i:Nat):List (Nat→Bool):=Ss.set k (orS (Ss.getD k Z2) (Ss.getD i Z2))
def JU(F:List Rl)(Ss:List (Nat→Bool))(k:Nat):List (Nat→Bool):=(bg F k).foldl (fun S i=>Vz S k i) Ss
def ZQ(F:List Rl)(Ss:List (Nat→Bool)):List (Nat→Bool):=(List.range F.length).foldl (JU F) Ss
def JS(F:List Rl):List (Nat→Bool):=iter (ZQ F) F.length (F.map Yq)
theorem Q9Y{r:Rl}{Ab An Ap:Option Addr}{n cb cn cp:Nat}{W:World}(hl:RuL W r Ab cb An cn Ap cp)(hr:ROk n r):
  Calls Tryz.prog 53 #[.agg (ruC r (.slice Ab r.bs.length cb) (.slice An r.names.length cn) (.slice Ap r.parts.length cp)).toArray] W (JR W (Yq r)):=by
 obtain⟨name,kind,bs,size,big,mn,mx,stop,count,elem,names,parts⟩:=r;have hk:=hr.kind;have hb:=hl.b;have h1:=hr.bs1;have h2:=hr.num;have h3:=hr.dec;have h5:=hr.size5;have hs:=hr.stop
 unfold Yq
 simp only at hk hb h1 h2 h3 h5 hs ⊢
 rcases (show kind=1∨kind=2∨kind=3∨kind=4∨kind=5∨kind=6∨kind=7∨kind=8∨kind=9∨kind=10 by omega) with rfl|rfl|rfl|rfl|rfl|rfl|rfl|rfl|rfl|rfl
 ·exact QeS W hb (h1 rfl)
 ·obtain⟨a1,a2,a3,a4,a5⟩:=h2 rfl
  have a6:mx≤4294967295:=by
   have b1:1≤size:=a1;have b2:size≤4:=a2;have b5:mx<256 ^ size.toNat:=a5;clear h1 h2 h3 h5 hs hr hl hb a1 a2 a3 a4 a5
   rcases (show size=1∨size=2∨size=3∨size=4 by omega) with rfl|rfl|rfl|rfl<;>simp at b5<;>omega
  cases big with
  |true=>exact QdX (big:=true) W ⟨a1,a2⟩ ⟨a3,a4,a6⟩
  |false=>exact Qe1 (big:=true) W ⟨a3,a4,a6⟩
 ·exact Qf8 W ⟨(h3 rfl).1,(h3 rfl).2.1⟩
 ·exact QeR W
 ·by_cases h0:0<size
  ·exact QdO W h0
  ·have h50:0≤size:=(h5 rfl).1
   have h51:size=0:=by omega
   exact QdU W h51 (hs (.inr (.inl rfl)))
 ·exact QeW W
 ·exact Qf1 W
 ·exact QeE W
 ·exact Qf4 W (hs (.inr (.inr rfl)))
 ·exact Qe7 W
section
variable {P:Program}{ops:Array Oper}{C:World→Prop}{N:Nat}{E:Env}{o:Oper}{d:Nat}
theorem Q6z{t e:TypeId}{x y:Operand}{b q n s:Nat}{k:IntKind}{m:Int}[hT:Ar P t n e s](ho:o.op=.indexAddr t x y)(hd:o.dst=some d)(hN:d<N)(hw:Qm ops E o=some true)(hx:ev E x=some (.pointer (some ⟨b,q,none⟩)))(hy:ev E y=some (.int k m))(hj:0≤m∧m<n):oE P ops C N E ((d,.pointer (some ⟨b,q+m.toNat*s,none⟩))::E) o:=by
 obtain⟨j,rfl⟩:∃j:Nat,m=(j:Int):=⟨m.toNat,by omega⟩;exact XY ho hd hN hw hx hy (by omega)
end
theorem Rd.cellAt{w:World}{B s b n j:Nat}{xs:List Value}{u:Value}(h:Rd w B s (some ⟨b,0,none⟩) n xs)(hn:0<n)(hu:xs[j]? =some u):w.cell? ⟨b,0+j,none⟩=some u:=by
 obtain⟨b',o,e,_,hc⟩:=h.2 hn
 cases e
 exact hc j u hu
def Y0(S:List (Nat→Bool)):(Nat→Bool)→List Int→Bool
 |_,[]=>false
 |seen,x::l=>(List.range 256).any (fun c=>(S.getD x.toNat Z2) c&&seen c)||Y0 S (orS seen (S.getD x.toNat Z2)) l
def ZU(S:List (Nat→Bool))(r:Rl):Bool:=
 if r.kind=9 then (S.getD r.elem.toNat Z2) r.stop.toNat else if r.kind=8 then Y0 S noS r.parts else false
def Q4Z(S:List (Nat→Bool))(l:List Int):Nat→Bool:=l.foldl (fun s x=>orS s (S.getD x.toNat Z2)) noS
theorem Q03(S:List (Nat→Bool)):∀(l m:List Int) (s:Nat→Bool),Y0 S s (l++m)=(Y0 S s l||Y0 S (l.foldl (fun s x=>orS s (S.getD x.toNat Z2)) s) m)
 |[],m,s=>rfl
 |x::l,m,s=>by
  rw[List.cons_append,Y0,Y0,Q03 S l m,List.foldl_cons,Bool.or_assoc]
def Jj(s t:Nat→Bool)(c:Nat):Nat→Bool:=fun j=>if j<c then s j||t j else s j
theorem Q66(s t:Nat→Bool):Jj s t 0=s:=by funext j;simp [Jj]
theorem Q7E(s t:Nat→Bool):X2 (Jj s t 256)=X2 (orS s t):=Jm fun j hj=>by simp [Jj,hj,orS]
theorem KC(s t:Nat→Bool)(c:Nat):(X2 (Jj s t c)).set c (.bool (s c||t c))=X2 (Jj s t (c+1)):=by
 rw[Y2]
 congr 1
 funext j
 unfold Jj
 by_cases h1:j=c
 ·subst h1;simp
 ·by_cases h2:j<c
  ·have:j<c+1:=by omega
   simp [h1,h2,this]
  ·have:¬j<c+1:=by omega
   simp [h1,h2,this]
theorem Q9I(s t:Nat→Bool){c:Nat}(hc:c<256):(X2 (Jj s t c))[c]? =some (.bool (s c)):=by
 rw[ZN _ hc]
 simp [Jj]
set_option maxRecDepth 100000 in
set_option maxHeartbeats 8000000 in
theorem Q8n{S:List (Nat→Bool)}{r:Rl}{Ab An Ap:Option Addr}{b n c cb cn cp:Nat}{W:World}(hr:ROk n r)(hS:S.length=n)(hrd:Rd W W.heap.size 256 (some ⟨b,0,none⟩) n (Xk S))(hk:r.kind=9):
  Calls Tryz.prog 63 #[.agg (ruC r (.slice Ab r.bs.length cb) (.slice An r.names.length cn) (.slice Ap r.parts.length cp)).toArray,.slice (some ⟨b,0,none⟩) n c] W (QT W (ZU S r)):=by
 obtain⟨name,kind,bs,size,big,mn,mx,stop,count,elem,names,parts⟩:=r;have he:=hr.elem (.inr hk);have hs:=hr.stop (.inr (.inr hk))
 simp only at he hs hk
 subst hk
 have hs':0≤stop∧stop<(256:Nat):=by omega
 have hcell:W.cell? ⟨b,0+elem.toNat*256+stop.toNat*1,none⟩=some (.bool ((S.getD elem.toNat Z2) stop.toNat)):=by
  rw[Nat.mul_one,Nat.add_assoc];exact hrd.cellAt (by omega) (Q16 S _ _ (by omega) (by omega))
 go_enter Tryz.func63,Tryz.ntmps63
 refine QE (M:=[]) (W:=W) (N:=55) (E:=[(0,.agg (ruC ⟨name,9,bs,size,big,mn,mx,stop,count,elem,names,parts⟩ (.slice Ab bs.length cb) (.slice An names.length cn) (.slice Ap parts.length cp)).toArray),(1,.slice (some ⟨b,0,none⟩) n c)]) (O:=[]) ?_ (Ag.cons (Ag.cons (Ag.nil rfl rfl) rfl) rfl) (Wd.start [] W)
 repeat(first|refine Q1 zA ?_|refine Q1 zF ?_|refine Q1 (zB 0) ?_|refine Q1 zC ?_|refine yB fun br=>?_|refine Q8 ?_|refine Q6 ?_|refine Q2 ?_|refine Q5 rfl ?_|refine Qe ?_|refine Q1 zer ?_)
 repeat(first|refine Qd zM ?_|refine Qd zA ?_|refine Qd zF ?_|refine Qd (zB 0) ?_|refine Qd zC ?_|refine Qd (Qv rfl rfl (by decide) rfl rfl rfl he) ?_|refine Qd (Q6z rfl rfl (by decide) rfl rfl rfl hs') ?_|refine XS ?_|refine Xm (by kernel_rfl) (by kernel_rfl) ?_)
 refine yt<|yk<|yc ?_;refine Q9 (by exact .inr rfl) rfl (.tmp rfl) (fun w hw=>QB rfl hw)
set_option maxRecDepth 100000 in
set_option maxHeartbeats 8000000 in
theorem Q8V{S:List (Nat→Bool)}{r:Rl}{A Ab An Ap:Option Addr}{n c cb cn cp:Nat}{W:World}(h9:(r.kind==9)=false)(h8:(r.kind==8)=false):
  Calls Tryz.prog 63 #[.agg (ruC r (.slice Ab r.bs.length cb) (.slice An r.names.length cn) (.slice Ap r.parts.length cp)).toArray,.slice A n c] W (QT W (ZU S r)):=by
 go_enter Tryz.func63,Tryz.ntmps63
 refine QE (M:=[]) (W:=W) (N:=55) (E:=[(0,.agg (ruC r (.slice Ab r.bs.length cb) (.slice An r.names.length cn) (.slice Ap r.parts.length cp)).toArray),(1,.slice A n c)]) (O:=[]) ?_ (Ag.cons (Ag.cons (Ag.nil rfl rfl) rfl) rfl) (Wd.start [] W)
 repeat(first|refine Q1 zA ?_|refine Q1 zF ?_|refine Q1 (zB 0) ?_|refine yB fun br=>?_|refine Q8 ?_|refine Q6 ?_|refine Q2 ?_|refine Qh ?_|refine Q3 rfl ?_|refine Ql ?_|refine Qe ?_|refine Q1 zea ?_)
 refine Q9 (by exact .inr rfl) rfl (.tmp rfl) (fun w hw=>QB ?_ hw)
 unfold ZU
 rw[if_neg (by simpa using h9),if_neg (by simpa using h8)]
set_option maxRecDepth 100000 in
set_option maxHeartbeats 8000000 in
theorem Q86{S:List (Nat→Bool)}{r:Rl}{Ab An Ap:Option Addr}{b n c cb cn cp:Nat}{W:World}(hl:RuL W r Ab cb An cn Ap cp)(hr:ROk n r)(hS:S.length=n)(hrd:Rd W W.heap.size 256 (some ⟨b,0,none⟩) n (Xk S))(hk:r.kind=8):
  Calls Tryz.prog 63 #[.agg (ruC r (.slice Ab r.bs.length cb) (.slice An r.names.length cn) (.slice Ap r.parts.length cp)).toArray,.slice (some ⟨b,0,none⟩) n c] W (QT W (ZU S r)):=by
 have h12:=hr.p12;have h2:=hr.eight hk;have hin:=hr.parts (.inr hk);have hp:=hl.p;obtain⟨name,kind,bs,size,big,mn,mx,stop,count,elem,names,parts⟩:=r
 simp only at h12 h2 hin hp hk
 subst hk;have HIN:=Lib.hid hin;have HRD:=Lib.hid hrd;clear hin hrd hl hr;obtain⟨bp,op,hA,hpb,hpc⟩:=hp.2 (by omega);subst hA;have HPC:=Lib.hid hpc;clear hp hpc;have hconf:ZU S ⟨name,8,bs,size,big,mn,mx,stop,count,elem,names,parts⟩=Y0 S noS parts:=rfl;rw[hconf];clear hconf
 go_enter Tryz.func63,Tryz.ntmps63
 refine QE (M:=[]) (W:=W) (N:=55) (E:=[(0,.agg (ruC ⟨name,8,bs,size,big,mn,mx,stop,count,elem,names,parts⟩ (.slice Ab bs.length cb) (.slice An names.length cn) (.slice (some ⟨bp,op,none⟩) parts.length cp)).toArray),(1,.slice (some ⟨b,0,none⟩) n c)]) (O:=[]) ?_ (Ag.cons (Ag.cons (Ag.nil rfl rfl) rfl) rfl) (Wd.start [] W)
 repeat(first|refine Q1 zM ?_|refine Q1 zA ?_|refine Q1 zF ?_|refine Q1 (zB 0) ?_|refine Q1 (zB 1) ?_|refine yB fun br=>?_|refine yA (t:=63) fun b7=>?_|refine Q8 ?_|refine Q6 ?_|refine Q2 ?_|refine Q5 rfl ?_|refine Q3 rfl ?_|refine Qe ?_|refine Q1 zL ?_|refine Q1 zer ?_)
 refine X0 (ι:=Nat) (fun j=>j≤parts.length∧Y0 S noS (parts.take j)=false) (fun j=>parts.length - j) (fun j=>[(1,.slice (some ⟨b,0,none⟩) n c),(5,.pointer (some ⟨b7,0,none⟩)),(25,.slice (some ⟨bp,op,none⟩) parts.length cp),(26,.int .i64 (parts.length:Int)),(27,.int .i64 (j:Int))]) (fun j=>[.blk b7 (.cells (X2 (Q4Z S (parts.take j))).toArray 63 (0,0))]) 0 [0] (by decide) ⟨Nat.zero_le _,rfl⟩ (.cons rfl rfl (.cons rfl rfl (.cons rfl rfl (.cons rfl rfl (.cons rfl rfl .nil))))) rfl ?_
 rintro j ⟨hj,hno⟩
 have HNO:=Lib.hid hno;clear hno
 by_cases hjn:j<parts.length
 ·obtain⟨x,hx⟩:∃x,parts[j]? =some x:=⟨_,List.getElem?_eq_getElem hjn⟩;have hxn:=HIN.out x (List.mem_of_getElem? hx);have hcj:W.cell? ⟨bp,op+j,none⟩=some (.int .i64 x):=HPC.out j _ (by unfold iv;rw[List.getElem?_map,hx];rfl);have HX:=Lib.hid hx;clear hx;obtain⟨st,hst⟩:∃st,st=S.getD x.toNat Z2:=⟨_,rfl⟩;obtain⟨s,hs⟩:∃s,s=Q4Z S (parts.take j):=⟨_,rfl⟩
  have hset:W.rangeAt b (0+x.toNat*256) (X2 st):=fun q u hu=>by
   rw[Nat.add_assoc];rw[hst] at hu;exact HRD.out.cellAt (by omega) (Q0E S x.toNat (by omega) q u hu)
  rw[← hs];have HST:=Lib.hid hst;have HS:=Lib.hid hs;clear hst hs
  repeat(first|refine Q1 zM ?_|refine Q1 zA ?_|refine Q1 zC ?_|refine Q1 (zD 0) ?_|refine Q1 zE ?_|refine Q1 (zi1 (hj:=hjn)) ?_|refine Q1 (Qv rfl rfl (by decide) rfl rfl rfl hxn) ?_|refine Q8 ?_|refine Q6 ?_|refine Q2 ?_|refine Qh ?_|refine Q5 rfl ?_|refine Qe ?_|refine Q1 zlt ?_)
  refine X0 (ι:=Nat) (fun q=>q≤256∧∀i,i<q→(st i&&s i)=false) (fun q=>256 - q) (fun q=>[(1,.slice (some ⟨b,0,none⟩) n c),(5,.pointer (some ⟨b7,0,none⟩)),(25,.slice (some ⟨bp,op,none⟩) parts.length cp),(26,.int .i64 (parts.length:Int)),(27,.int .i64 (j:Int)),(34,.agg (X2 st).toArray),(35,.int .i64 (q:Int))]) (fun q=>[.blk b7 (.cells (X2 (Jj s st q)).toArray 63 (0,0))]) 0 [0] (by decide) ⟨Nat.zero_le _,fun i hi=>absurd hi (Nat.not_lt_zero _)⟩ (.cons rfl rfl (.cons rfl rfl (.cons rfl rfl (.cons rfl rfl (.cons rfl rfl (.cons rfl rfl (.cons rfl rfl .nil))))))) (by rw[Q66];rfl) ?_
  rintro q ⟨hq,hmn⟩
  have HMN:=Lib.hid hmn;clear hmn
  by_cases hqn:q<256
  ·have hc0:(X2 (Jj s st q))[0+q*1]? =some (.bool (s q)):=by rw[Nat.zero_add,Nat.mul_one];exact Q9I s st hqn
   obtain⟨sq,hsq⟩:∃sq,s q=sq:=⟨_,rfl⟩;obtain⟨tq,htq⟩:∃tq,st q=tq:=⟨_,rfl⟩
   have htc:(X2 st)[q]? =some (.bool tq):=by rw[ZN st hqn,htq]
   rw[hsq] at hc0;have HSQ:=Lib.hid hsq;have HTQ:=Lib.hid htq;clear hsq htq
   cases tq with
   |true=>
    cases sq with
    |true=>
     repeat(first|refine Q1 zM ?_|refine Q1 zA ?_|refine Q1 (Yl (v:=.bool true) rfl rfl (by decide) rfl rfl rfl hqn htc) ?_|refine Q1 (XY rfl rfl (by decide) rfl rfl rfl hqn) ?_|refine Q1 (zV 0 hc0) ?_|refine Q8 ?_|refine Q6 ?_|refine Q2 ?_|refine Qh ?_|refine Q5 rfl ?_|refine Ql ?_|refine Qe ?_|refine Qc ?_|refine Qf ?_|refine Q1 (Xu rfl rfl (by decide) rfl rfl rfl (by first|exact decide_eq_true (by omega)|rfl)) ?_|refine Q1 zY ?_)
     refine Q9 (by exact .inr rfl) rfl (.tmp rfl) (fun w hw=>QB ?_ hw)
     have e1:Y0 S noS (parts.take (j+1))=true:=by
      rw[List.take_add_one,HX.out,Option.toList_some,Q03,HNO.out,Bool.false_or,Y0,Bool.or_eq_true];refine .inl (List.any_eq_true.2 ⟨q,List.mem_range.2 hqn,?_⟩);rw[← HST.out,HTQ.out]
      show (true&&Q4Z S (parts.take j) q)=true
      rw[← HS.out,HSQ.out]
      rfl
     have e2:=Q03 S (parts.take (j+1)) (parts.drop (j+1)) noS;rw[List.take_append_drop,e1,Bool.true_or] at e2;exact e2.symm
    |false=>
     repeat(first|refine Q1 zM ?_|refine Q1 zA ?_|refine Q1 (Yl (v:=.bool true) rfl rfl (by decide) rfl rfl rfl hqn htc) ?_|refine Q1 (XY rfl rfl (by decide) rfl rfl rfl hqn) ?_|refine Q1 (zV 0 hc0) ?_|refine Qq (Zp 0 rfl rfl rfl rfl rfl rfl hc0) rfl (fun _ _=>?_)|refine Q8 ?_|refine Q6 ?_|refine Q2 ?_|refine Qh ?_|refine Q5 rfl ?_|refine Q3 rfl ?_|refine Qe ?_|refine Q1 (Xu rfl rfl (by decide) rfl rfl rfl (by first|exact decide_eq_true (by omega)|rfl)) ?_|refine Q1 zY ?_|refine Q1 zN ?_|refine Q1 zP ?_)
     refine QA (q+1) [0] (by decide) ⟨hqn,fun i hi=>?_⟩ (by show 256 - (q+1)<256 - q;omega) (.cons rfl rfl (.cons rfl rfl (.cons rfl rfl (.cons rfl rfl (.cons rfl rfl (.cons rfl rfl (.cons rfl (by go_num) .nil))))))) ?_
     ·rcases Nat.lt_or_ge i q with h|h
      ·exact HMN.out i h
      ·obtain rfl:i=q:=by omega
       rw[HTQ.out,HSQ.out];rfl
     ·show [Qg.blk b7 (.cells ((X2 (Jj s st q)).set (0+q*1) (.bool true)).toArray _ _)]=[Qg.blk b7 (.cells (X2 (Jj s st (q+1))).toArray _ _)]
      rw[← KC,HTQ.out,HSQ.out,Nat.zero_add,Nat.mul_one]
      rfl
   |false=>
    cases sq with
    |true=>
     repeat(first|refine Q1 zM ?_|refine Q1 zA ?_|refine Q1 zS ?_|refine Q1 (Yl (v:=.bool false) rfl rfl (by decide) rfl rfl rfl hqn htc) ?_|refine Q1 (XY rfl rfl (by decide) rfl rfl rfl hqn) ?_|refine Q1 (zV 0 hc0) ?_|refine Qq (Zp 0 rfl rfl rfl rfl rfl rfl hc0) rfl (fun _ _=>?_)|refine Q8 ?_|refine Q6 ?_|refine Q2 ?_|refine Qh ?_|refine Q5 rfl ?_|refine Q3 rfl ?_|refine Qe ?_|refine Q1 (Xu rfl rfl (by decide) rfl rfl rfl (by first|exact decide_eq_true (by omega)|rfl)) ?_|refine Q1 zY ?_|refine Q1 zN ?_|refine Q1 zP ?_)
     refine QA (q+1) [0] (by decide) ⟨hqn,fun i hi=>?_⟩ (by show 256 - (q+1)<256 - q;omega) (.cons rfl rfl (.cons rfl rfl (.cons rfl rfl (.cons rfl rfl (.cons rfl rfl (.cons rfl rfl (.cons rfl (by go_num) .nil))))))) ?_
     ·rcases Nat.lt_or_ge i q with h|h
      ·exact HMN.out i h
      ·obtain rfl:i=q:=by omega
       rw[HTQ.out,HSQ.out];rfl
     ·show [Qg.blk b7 (.cells ((X2 (Jj s st q)).set (0+q*1) (.bool true)).toArray _ _)]=[Qg.blk b7 (.cells (X2 (Jj s st (q+1))).toArray _ _)]
      rw[← KC,HTQ.out,HSQ.out,Nat.zero_add,Nat.mul_one]
      rfl
    |false=>
     repeat(first|refine Q1 zM ?_|refine Q1 zA ?_|refine Q1 zS ?_|refine Q1 (Yl (v:=.bool false) rfl rfl (by decide) rfl rfl rfl hqn htc) ?_|refine Q1 (XY rfl rfl (by decide) rfl rfl rfl hqn) ?_|refine Q1 (zV 0 hc0) ?_|refine Qq (Zp 0 rfl rfl rfl rfl rfl rfl hc0) rfl (fun _ _=>?_)|refine Q8 ?_|refine Q6 ?_|refine Q2 ?_|refine Qh ?_|refine Q5 rfl ?_|refine Q3 rfl ?_|refine Qe ?_|refine Q1 (Xu rfl rfl (by decide) rfl rfl rfl (by first|exact decide_eq_true (by omega)|rfl)) ?_|refine Q1 zN ?_|refine Q1 zP ?_)
     refine QA (q+1) [0] (by decide) ⟨hqn,fun i hi=>?_⟩ (by show 256 - (q+1)<256 - q;omega) (.cons rfl rfl (.cons rfl rfl (.cons rfl rfl (.cons rfl rfl (.cons rfl rfl (.cons rfl rfl (.cons rfl (by go_num) .nil))))))) ?_
     ·rcases Nat.lt_or_ge i q with h|h
      ·exact HMN.out i h
      ·obtain rfl:i=q:=by omega
       rw[HTQ.out,HSQ.out];rfl
     ·show [Qg.blk b7 (.cells ((X2 (Jj s st q)).set (0+q*1) (.bool false)).toArray _ _)]=[Qg.blk b7 (.cells (X2 (Jj s st (q+1))).toArray _ _)]
      rw[← KC,HTQ.out,HSQ.out,Nat.zero_add,Nat.mul_one]
      rfl
  ·skip
   repeat(first|refine Q1 zM ?_|refine Q8 ?_|refine Q6 ?_|refine Q2 ?_|refine Q3 rfl ?_|refine QX ?_|refine Q1 (Xu rfl rfl (by decide) rfl rfl rfl (by first|exact decide_eq_false (by omega)|rfl)) ?_|refine Q1 zP ?_)
   obtain rfl:q=256:=by omega
   refine QA (j+1) [0] (by decide) ⟨hjn,?_⟩ (by show parts.length - (j+1)<parts.length - j;omega) (.cons rfl rfl (.cons rfl rfl (.cons rfl rfl (.cons rfl rfl (.cons rfl (by go_num) .nil))))) ?_
   ·rw[List.take_add_one,HX.out,Option.toList_some,Q03,HNO.out,Bool.false_or,Y0]
    show (_||false)=false
    rw[Bool.or_false,List.any_eq_false];intro i hi;rw[← HST.out];have:=HMN.out i (List.mem_range.1 hi)
    show ¬(st i&&Q4Z S (parts.take j) i)=true
    rw[← HS.out,this];exact Bool.false_ne_true
   ·show [Qg.blk b7 (.cells (X2 (Jj s st 256)).toArray _ _)]=[Qg.blk b7 (.cells (X2 (Q4Z S (parts.take (j+1)))).toArray _ _)]
    rw[Q7E,List.take_add_one,HX.out,Option.toList_some]
    unfold Q4Z
    rw[List.foldl_append,HST.out,HS.out]
    rfl
 ·skip
  repeat(first|refine Q1 zA ?_|refine Q8 ?_|refine Q6 ?_|refine Q2 ?_|refine Q3 rfl ?_|refine QX ?_|refine Ql ?_|refine Q1 zlf ?_)
  refine Q9 (by exact .inr rfl) rfl (.tmp rfl) (fun w hw=>QB ?_ hw);have:=HNO.out;rw[List.take_of_length_le (by omega)] at this;exact this.symm
theorem KH{S:List (Nat→Bool)}{r:Rl}{Ab An Ap:Option Addr}{b n c cb cn cp:Nat}{W:World}(hl:RuL W r Ab cb An cn Ap cp)(hr:ROk n r)(hS:S.length=n)(hrd:Rd W W.heap.size 256 (some ⟨b,0,none⟩) n (Xk S)):
  Calls Tryz.prog 63 #[.agg (ruC r (.slice Ab r.bs.length cb) (.slice An r.names.length cn) (.slice Ap r.parts.length cp)).toArray,.slice (some ⟨b,0,none⟩) n c] W (QT W (ZU S r)):=by
 by_cases h9:r.kind=9
 ·exact Q8n hr hS hrd h9
 ·by_cases h8:r.kind=8
  ·exact Q86 hl hr hS hrd h8
  ·exact Q8V (beq_eq_false_iff_ne.2 h9) (beq_eq_false_iff_ne.2 h8)
def XC(n:Nat)(p:Nat→Bool):Option Nat:=(List.range n).find? p
theorem JL{n k:Nat}{p:Nat→Bool}(hk:k<n)(hp:p k=true)(hl:∀j,j<k→p j=false):XC n p=some k:=by
 unfold XC
 rw[List.find?_range_eq_some];exact⟨hp,List.mem_range.2 hk,fun j hj=>by rw[hl j hj];rfl⟩
theorem Xy{n:Nat}{p:Nat→Bool}(hl:∀j,j<n→p j=false):XC n p=none:=by
 unfold XC
 rw[List.find?_eq_none];intro j hj;rw[hl j (List.mem_range.1 hj)];exact Bool.false_ne_true
theorem Q0f{n:Nat}{p:Nat→Bool}(h:XC n p=none):∀j,j<n→p j=false:=fun j hj=>by
 unfold XC at h
 rw[List.find?_eq_none] at h;have:=h j (List.mem_range.2 hj)
 cases hp:p j with
 |false=>rfl
 |true=>exact absurd hp this
theorem VS{n k:Nat}{p:Nat→Bool}(h:XC n p=some k):k<n∧p k=true∧∀j,j<k→p j=false:=by
 unfold XC at h
 rw[List.find?_range_eq_some] at h;exact⟨List.mem_range.1 h.2.1,h.1,fun j hj=>by simpa using h.2.2 j hj⟩
def Zt(F:List Rl)(k:Nat):Int:=match F[k]? with|some r=>X5 r (F.take k) F.length|none=>0
def JM(F:List Rl)(k:Nat):Int:=match F[k]? with|some r=>Jv F r|none=>0
def ZM(F:List Rl)(k:Nat):Bool:=match F[k]? with|some r=>ZU (JS F) r|none=>false
theorem VT{F:List Rl}{k:Nat}{r:Rl}(h:F[k]? =some r):Zt F k=X5 r (F.take k) F.length:=by unfold Zt;rw[h]
theorem YP{F:List Rl}{k:Nat}{r:Rl}(h:F[k]? =some r):JM F k=Jv F r:=by unfold JM;rw[h]
theorem Q3L{F:List Rl}{k:Nat}{r:Rl}(h:F[k]? =some r):ZM F k=ZU (JS F) r:=by unfold ZM;rw[h]
def Xb(F:List Rl):Int×Int:=
 if F.length=0 then (10,-1) else if 40<F.length then (2,-1) else
 match XC F.length (fun k=>Zt F k != 0) with
 |some k=>(Zt F k,k)
 |none=>match XC F.length (fun k=>JM F k != 0) with
  |some k=>(JM F k,k)
  |none=>match XC F.length (Km F) with
   |some k=>(22,k)
   |none=>match XC F.length (fun k=>!((ZC F).getD k false)) with
    |some k=>(24,k)
    |none=>match XC F.length (ZM F) with
     |some k=>(23,k)
     |none=>(0,0)
section
variable {F:List Rl}
theorem Q12(h:F.length=0):Xb F=(10,-1):=by unfold Xb;rw[if_pos h]
theorem Q2f(h:40<F.length):Xb F=(2,-1):=by unfold Xb;rw[if_neg (by omega),if_pos h]
theorem Q2t{k:Nat}(h0:0<F.length)(h1:F.length≤40)(hk:k<F.length)(hp:Zt F k≠0)(hl:∀j,j<k→Zt F j=0):Xb F=(Zt F k,(k:Int)):=by
 unfold Xb
 rw[if_neg (by omega),if_neg (by omega),JL hk (by simpa using hp) (fun j hj=>by simpa using hl j hj)]
theorem Q3b{k:Nat}(h0:0<F.length)(h1:F.length≤40)(ha:∀j,j<F.length→Zt F j=0)(hk:k<F.length)(hp:JM F k≠0)(hl:∀j,j<k→JM F j=0):Xb F=(JM F k,(k:Int)):=by
 unfold Xb
 rw[if_neg (by omega),if_neg (by omega),Xy (fun j hj=>by simpa using ha j hj),JL hk (by simpa using hp) (fun j hj=>by simpa using hl j hj)]
theorem Q45{k:Nat}(h0:0<F.length)(h1:F.length≤40)(ha:∀j,j<F.length→Zt F j=0)(hb:∀j,j<F.length→JM F j=0)(hk:k<F.length)(hp:Km F k=true)(hl:∀j,j<k→Km F j=false):Xb F=(22,(k:Int)):=by
 unfold Xb
 rw[if_neg (by omega),if_neg (by omega),Xy (fun j hj=>by simpa using ha j hj),Xy (fun j hj=>by simpa using hb j hj),JL hk hp hl]
def YY(F:List Rl):Int×Int:=
 match XC F.length (fun k=>!((ZC F).getD k false)) with
 |some k=>(24,k)
 |none=>match XC F.length (ZM F) with
  |some k=>(23,k)
  |none=>(0,0)
theorem Q2d(h0:0<F.length)(h1:F.length≤40)(ha:∀j,j<F.length→Zt F j=0)(hb:∀j,j<F.length→JM F j=0)(hc:∀j,j<F.length→Km F j=false):Xb F=YY F:=by
 unfold Xb
 rw[if_neg (by omega),if_neg (by omega),Xy (fun j hj=>by simpa using ha j hj),Xy (fun j hj=>by simpa using hb j hj),Xy hc]
 rfl
def Q1G(l:List Bool):Int:=match XC l.length (fun k=>!(l.getD k false)) with|some k=>(k:Int)|none=>-1
theorem Q80(hl:(ZC F).length=F.length)(h:0≤Q1G (ZC F)):YY F=(24,Q1G (ZC F)):=by
 unfold Q1G at h ⊢
 rw[hl] at h ⊢
 unfold YY
 cases hf:XC F.length (fun k=>!((ZC F).getD k false)) with
 |none=>rw[hf] at h;exact absurd h (by decide)
 |some k=>rfl
theorem Q0Z{k:Nat}(hl:(ZC F).length=F.length)(h:¬0≤Q1G (ZC F))(hk:k<F.length)(hp:ZM F k=true)(hj:∀j,j<k→ZM F j=false):YY F=(23,(k:Int)):=by
 unfold Q1G at h
 rw[hl] at h
 unfold YY
 cases hf:XC F.length (fun k=>!((ZC F).getD k false)) with
 |some k=>rw[hf] at h;exact absurd (Int.natCast_nonneg k) h
 |none=>rw[JL hk hp hj]
theorem Q4J(hl:(ZC F).length=F.length)(h:¬0≤Q1G (ZC F))(hj:∀j,j<F.length→ZM F j=false):YY F=(0,0):=by
 unfold Q1G at h
 rw[hl] at h
 unfold YY
 cases hf:XC F.length (fun k=>!((ZC F).getD k false)) with
 |some k=>rw[hf] at h;exact absurd (Int.natCast_nonneg k) h
 |none=>rw[Xy hj]
theorem Q82(h:∀j,j<F.length→Zt F j=0):FOk F:=fun i r hr=>by
 have hi:i<F.length:=(List.getElem?_eq_some_iff.1 hr).1;have:=h i hi;rw[VT hr] at this;exact QdK this
theorem QaP{n:Nat}{r:Rl}(h:ROk n r):Q8Y n r:=⟨fun hc=>h.count (by
  unfold Qp Zu at hc
  simp at hc
  omega),fun h7=>⟨(h.seven h7).1.symm,h.parts (.inl h7)⟩⟩
end
def Z9(x:List UInt8):Option Int:=if Z0 x=true then some (XF x) else none
def kwK(w:List UInt8):Int:=match JA.findIdx? (·==w) with|some i=>(i:Int)+1|none=>0
def Yb(w:List UInt8):Option (List UInt8×List UInt8):=if ((Xp 58 w).2.2&&((Xp 58 w).1==[45]||Qi (Xp 58 w).1))&&Qi (Xp 58 w).2.1 then some (if (Xp 58 w).1==[45] then [] else (Xp 58 w).1,(Xp 58 w).2.1) else none
def Jl:List (List UInt8)→Option (List (List UInt8)×List (List UInt8))
 |[]=>some ([],[])
 |w::l=>match Yb w,Jl l with|some (n,r),some (ns,rs)=>some (n::ns,r::rs)|_,_=>none
def QN(name:List UInt8)(k:Int):Rl:=⟨name,k,[],0,false,0,0,0,0,0,[],[]⟩
def QD(name:List UInt8)(k:Int)(ws:List (List UInt8)):Option (Rl×List (List UInt8)):=
 if k=1 then (match ws with|[x]=>if x=[] then none else (X3 x).map fun b=>({ QN name k with bs:=b },[])|_=>none)
 else if k=2 then (match ws with|[a,o,m,x]=>(match Z9 a,Z9 m,Z9 x with|some a,some m,some x=>if o=V3∨o=Ze then some ({ QN name k with size:=a,big:=o==V3,mn:=m,mx:=x },[]) else none|_,_,_=>none)|_=>none)
 else if k=3 then (match ws with|[a,b]=>(match Z9 a,Z9 b with|some a,some b=>some ({ QN name k with stop:=a,mx:=b },[])|_,_=>none)|_=>none)
 else if k=4 then (match ws with|[a]=>(Z9 a).map fun a=>({ QN name k with size:=a },[])|_=>none)
 else if k=5 then (match ws with|[a,b]=>(match Z9 a,Z9 b with|some a,some b=>some ({ QN name k with stop:=a,size:=b },[])|_,_=>none)|_=>none)
 else if k=6 then (match ws with|[a,b]=>if Qi a&&Qi b then some (QN name k,[a,b]) else none|_=>none)
 else if k=9 then (match ws with|[a,b]=>(match Z9 a with|some a=>if Qi b then some ({ QN name k with stop:=a },[b]) else none|none=>none)|_=>none)
 else if k=10 then (match ws with|[a]=>if Qi a then some (QN name k,[a]) else none|_=>none)
 else if k=7 then (Jl ws).map fun p=>({ QN name k with names:=p.1 },p.2)
 else if k=8 then (if ws.all Qi then some (QN name k,ws) else none)
 else none
def V5:List (List UInt8)→Option (Rl×List (List UInt8))
 |name::kw::ws=>if Qi name then QD name (kwK kw) ws else none
 |_=>none
def Zo(l:List UInt8):Option (Rl×List (List UInt8)):=V5 (spl 32 l)
def QS:Int→List (List UInt8)→Except Int (List (Rl×List (List UInt8)))
 |_,[]=>.ok []
 |k,[l]=>if l=[] then .ok [] else .error k
 |k,l::m::t=>match Zo l with
  |none=>.error k
  |some x=>(match QS (k+1) (m::t) with|.ok xs=>.ok (x::xs)|.error e=>.error e)
def Xe(F:List Rl):List (List UInt8)→Option (List Int)
 |[]=>some []
 |s::l=>if Xa F s<0 then none else (Xe F l).map (Xa F s::·)
def XD(x:Rl)(ns:List Int):Rl:=
 { x with count:=if Qp x.kind then ns.headD 0 else x.count,elem:=if XJ x.kind then (if Qp x.kind then ns.tail else ns).headD 0 else x.elem,parts:=if XJ x.kind then (if Qp x.kind then ns.tail else ns).tail else (if Qp x.kind then ns.tail else ns) }
def Xf(F:List Rl)(x:Rl×List (List UInt8)):Option Rl:=(Xe F x.2).map (XD x.1)
def QF(F:List Rl):Int→List (Rl×List (List UInt8))→Except Int (List Rl)
 |_,[]=>.ok []
 |k,x::l=>match Xf F x with
  |none=>.error k
  |some r=>(match QF F (k+1) l with|.ok rs=>.ok (r::rs)|.error e=>.error e)
def QO(F:List Rl):Int×Int:=if Xb F≠(0,0) then Xb F else if 2000<(J1 F).length then (14,-1) else (0,0)
def Zn(s:List UInt8):List Rl×Int×Int:=
 if 2000<s.length then ([],3,-1) else
 match QS 0 (spl 10 s) with
 |.error k=>([],1,k)
 |.ok xs=>match QF (xs.map (·.1)) 0 xs with
  |.error k=>([],12,k)
  |.ok F=>if QO F≠(0,0) then ([],QO F) else (F,0,0)
theorem Kc:∀(k u:Nat),u<10 ^ (k+1)→Lib.nDigits u≤k+1
 |0,u,h=>by rw[Lib.nDigits_small (by simpa using h)];omega
 |k+1,u,h=>by
  by_cases h1:u<10
  ·rw[Lib.nDigits_small h1];omega
  ·rw[Lib.nDigits_big h1];have:=Kc k (u / 10) (by rw[Nat.pow_succ] at h;omega)
   omega
theorem JC(u:Nat):∀c∈Lib.decDigits u,48≤c.toNat∧c.toNat≤57:=by
 induction u using Nat.strongRecOn with
 |_ u ih=>
  intro c hc;rw[Lib.decDigits] at hc
  split at hc
  ·next h=>
   rw[List.mem_singleton.1 hc]
   simp only[UInt8.toNat_ofNat']
   omega
  ·next h=>
   rcases List.mem_append.1 hc with hc|hc
   ·exact ih (u / 10) (by omega) c hc
   ·rw[List.mem_singleton.1 hc]
    simp only[UInt8.toNat_ofNat']
    omega
theorem YX(u:Nat):Lib.decDigits u≠[]:=by
 intro h;have h1:=Lib.decDigits_length u;have h2:=Lib.nDigits_pos u;rw[h] at h1
 simp at h1
 omega
theorem Q52(d:UInt8):∀(l:List UInt8) (acc v:Nat),Lib.parseUint10 acc l=.ok v→Lib.parseUint10 acc (l++[d])=Lib.parseUint10 v [d]
 |[],acc,v,h=>by
  simp only[Lib.parseUint10] at h
  injection h with h
  rw[← h]
  rfl
 |c::l,acc,v,h=>by
  rw[List.cons_append];rw[Lib.parseUint10] at h ⊢
  split at h
  ·next h1=>
   rw[if_pos h1]
   split at h
   ·cases h
   ·next h2=>
    rw[if_neg h2]
    split at h
    ·cases h
    ·next h3=>
     rw[if_neg h3];exact Q52 d l _ v h
  ·cases h
theorem Qau(u:Nat):u<9223372036854775808→Lib.parseUint10 0 (Lib.decDigits u)=.ok u:=by
 induction u using Nat.strongRecOn with
 |_ u ih=>
  intro hu;rw[Lib.decDigits]
  have hd:(UInt8.ofNat (48+u % 10)).toNat=48+u % 10:=by simp only[UInt8.toNat_ofNat'];omega
  split
  ·next h=>
   have hd':(UInt8.ofNat (48+u)).toNat=48+u:=by simp only[UInt8.toNat_ofNat'];omega
   rw[Lib.parseUint10,hd',if_pos (by omega),if_neg (by omega),if_neg (by omega),Lib.parseUint10]
   congr 1
   omega
  ·next h=>
   rw[Q52 _ _ _ _ (ih (u / 10) (by omega) (by omega)),Lib.parseUint10,hd,if_pos (by omega),if_neg (by omega),if_neg (by omega),Lib.parseUint10]
   congr 1
   omega
theorem Q3U{u:Nat}(hu:u<9223372036854775808):Lib.atoiAll (Lib.decDigits u)=.ok (u:Int):=by
 cases hl:Lib.decDigits u with
 |nil=>exact absurd hl (YX u)
 |cons c r=>
  have hc:=JC u c (by rw[hl];exact List.mem_cons_self);have hp:=Qau u hu;rw[hl] at hp
  have hm:Lib.parseMag (c::r)=.ok u:=by
   unfold Lib.parseMag
   rw[if_neg (by simp)];exact hp
  show Lib.atoiAll (c::r)=_
  unfold Lib.atoiAll
  simp only
  rw[if_neg (by omega),hm]
  simp only
  rw[if_neg (by omega),if_neg (by omega),if_neg (by omega)]
theorem Vl{v:Int}(h:0≤v):Lib.itoa v=Lib.decDigits v.toNat:=by unfold Lib.itoa;rw[if_neg (by omega)]
theorem Ji{v:Int}(h0:0≤v)(h1:v≤9999999999):Z9 (Lib.itoa v)=some v:=by
 have ha:Lib.atoiAll (Lib.itoa v)=.ok v:=by
  rw[Vl h0,Q3U (by omega)]
  congr 1
  omega
 have hl:(Lib.itoa v).length≤10:=by
  rw[Vl h0,Lib.decDigits_length];exact Kc 9 _ (by omega)
 have hok:Z0 (Lib.itoa v)=true:=by
  unfold Z0
  rw[ha]
  simp
  omega
 unfold Z9
 rw[if_pos hok]
 unfold XF
 rw[ha]
theorem Jg{x:List UInt8}{v:Int}(h:Z9 x=some v):x=Lib.itoa v∧0≤v:=by
 unfold Z9 at h
 split at h
 ·next hok=>
  unfold Z0 at hok
  unfold XF at h
  cases ha:Lib.atoiAll x with
  |ok u=>
   rw[ha] at hok h
   simp only[Option.some.injEq] at h
   subst h
   simp only[Bool.and_eq_true,Bool.not_eq_true',decide_eq_false_iff_not,beq_iff_eq] at hok
   exact⟨hok.2.2.symm,by omega⟩
  |_=>rw[ha] at hok;cases hok
 ·cases h
def Wok(w:List UInt8):Prop:=(32:UInt8)∉w∧(10:UInt8)∉w
theorem Q1d{v:Int}(h:0≤v):Wok (Lib.itoa v):=by
 rw[Vl h];exact⟨fun hm=>absurd (JC _ _ hm) (by decide),fun hm=>absurd (JC _ _ hm) (by decide)⟩
theorem Q0a{l:List UInt8}(h:Qi l=true):Wok l∧(58:UInt8)∉l∧l≠[]∧l≠[45]:=by
 unfold Qi at h
 rw[Bool.and_eq_true,Bool.and_eq_true,List.all_eq_true] at h;have ho:=h.2;refine⟨⟨fun hm=>absurd (ho _ hm) (by decide),fun hm=>absurd (ho _ hm) (by decide)⟩,fun hm=>absurd (ho _ hm) (by decide),?_,?_⟩
 ·rintro rfl
  have:=h.1.2
  cases this
 ·rintro rfl
  have:=h.1.2;exact absurd this (by decide)
theorem Q4B{k:Int}(h:1≤k∧k≤10):kwK (Xz k)=k:=by
 rcases (show k=1∨k=2∨k=3∨k=4∨k=5∨k=6∨k=7∨k=8∨k=9∨k=10 by omega) with rfl|rfl|rfl|rfl|rfl|rfl|rfl|rfl|rfl|rfl<;>decide
theorem Q6B{w:List UInt8}(h:kwK w≠0):(1≤kwK w∧kwK w≤10)∧w=Xz (kwK w):=by
 unfold kwK at h ⊢
 cases hf:JA.findIdx? (·==w) with
 |none=>rw[hf] at h;exact absurd rfl h
 |some i=>
  rw[List.findIdx?_eq_some_iff_getElem] at hf;obtain⟨h1,h2,_⟩:=hf;have h10:i<10:=h1;have h3:JA[i]'h1=w:=eq_of_beq h2;refine⟨by simp only;omega,?_⟩
  simp only
  unfold Xz
  rw[show ((i:Int)+1 - 1).toNat=i by omega,List.getD_eq_getElem?_getD,List.getElem?_eq_getElem h1,h3]
  rfl
theorem Q9G{k:Int}(h:1≤k∧k≤10):Wok (Xz k):=by
 rcases (show k=1∨k=2∨k=3∨k=4∨k=5∨k=6∨k=7∨k=8∨k=9∨k=10 by omega) with rfl|rfl|rfl|rfl|rfl|rfl|rfl|rfl|rfl|rfl<;>exact⟨by decide,by decide⟩
theorem Q2Z{n:Nat}(h:n<16):(hx n).toNat=if n<10 then 48+n else 87+n:=by
 unfold hx
 simp only[UInt8.toNat_ofNat']
 split<;>omega
theorem Q0b{n:Nat}(h:n<16):Xc (hx n)=n:=by
 have:=Q2Z h
 unfold Xc
 split at this
 ·rw[if_pos (by omega)];omega
 ·rw[if_neg (by omega),if_pos (by omega)];omega
theorem Q2J{c:UInt8}(h:¬Xc c<0):Xc c<16∧hx (Xc c).toNat=c:=by
 unfold Xc at h ⊢
 have hlt:c.toNat<256:=c.toNat_lt
 split
 ·refine⟨by omega,UInt8.toNat.inj ?_⟩;rw[Q2Z (by omega),if_pos (by omega)]
  omega
 ·split
  ·refine⟨by omega,UInt8.toNat.inj ?_⟩;rw[Q2Z (by omega),if_neg (by omega)]
   omega
  ·next h1 h2=>
   rw[if_neg h1,if_neg h2] at h;exact absurd (by decide) h
theorem Q7J{a b:UInt8}(ha:¬Xc a<0)(hb:¬Xc b<0):((JH a b).toNat:Int)=Xc a*16+Xc b:=by
 have h1:=(Q2J ha).1;have h2:=(Q2J hb).1
 unfold JH
 simp only[UInt8.toNat_ofNat']
 omega
theorem Q4K{a b:UInt8}(ha:¬Xc a<0)(hb:¬Xc b<0):Kx (JH a b)=[a,b]:=by
 have h1:=Q2J ha;have h2:=Q2J hb;have h3:=Q7J ha hb
 unfold Kx
 rw[show (JH a b).toNat / 16=(Xc a).toNat by omega,show (JH a b).toNat % 16=(Xc b).toNat by omega,h1.2,h2.2]
theorem Q3l(c:UInt8):JH (hx (c.toNat / 16)) (hx (c.toNat % 16))=c:=by
 have hlt:c.toNat<256:=c.toNat_lt;refine UInt8.toNat.inj ?_
 unfold JH
 rw[Q0b (by omega),Q0b (by omega)]
 simp only[UInt8.toNat_ofNat']
 omega
theorem Q4a:∀bs:List UInt8,X3 (Jr bs)=some bs
 |[]=>rfl
 |c::l=>by
  have hlt:c.toNat<256:=c.toNat_lt
  show X3 (hx (c.toNat / 16)::hx (c.toNat % 16)::Jr l)=_
  rw[X3,Q0b (by omega),Q0b (by omega),if_neg (by omega),Q4a l,Q3l]
  rfl
theorem Q43:∀{x bs:List UInt8},X3 x=some bs→Jr bs=x
 |[],bs,h=>by cases h;rfl
 |[_],bs,h=>by cases h
 |a::b::l,bs,h=>by
  rw[X3] at h
  split at h
  ·cases h
  ·next hn=>
   have ha:¬Xc a<0:=fun h'=>hn (.inl h')
   have hb:¬Xc b<0:=fun h'=>hn (.inr h')
   cases hu:X3 l with
   |none=>rw[hu] at h;cases h
   |some t=>
    rw[hu] at h
    cases h
    show Kx (JH a b)++Jr t=_
    rw[Q4K ha hb,Q43 hu]
    rfl
theorem Qdj{bs:List UInt8}(h:bs≠[]):Jr bs≠[]:=by
 cases bs with
 |nil=>exact absurd rfl h
 |cons c l=>intro he;cases he
theorem QaU(bs:List UInt8):Wok (Jr bs):=by
 have key:∀c∈Jr bs,(48≤c.toNat∧c.toNat≤57)∨(97≤c.toNat∧c.toNat≤102):=by
  intro c hc
  unfold Jr at hc
  rw[List.mem_flatten] at hc;obtain⟨l,hl,hc⟩:=hc;rw[List.mem_map] at hl;obtain⟨b,_,rfl⟩:=hl;have hlt:b.toNat<256:=b.toNat_lt
  unfold Kx at hc
  rcases List.mem_cons.1 hc with rfl|hc
  ·have:=Q2Z (n:=b.toNat / 16) (by omega)
   split at this<;>omega
  ·rw[List.mem_singleton.1 hc];have:=Q2Z (n:=b.toNat % 16) (by omega)
   split at this<;>omega
 exact⟨fun hm=>absurd (key _ hm) (by decide),fun hm=>absurd (key _ hm) (by decide)⟩
theorem Q46{c:UInt8}:∀{x:List UInt8} (s:List UInt8),c∉x→Xp c (x++c::s)=(x,s,true)
 |[],s,_=>by
  show Xp c (c::s)=_
  rw[Xp,if_pos rfl]
 |b::l,s,h=>by
  show Xp c (b::(l++c::s))=_
  rw[Xp,if_neg (fun e=>h (by rw[e];exact List.mem_cons_self)),Q46 s fun hm=>h (List.mem_cons_of_mem _ hm)]
def Ks(n r:List UInt8):List UInt8:=(if n==[] then [45] else n)++[58]++r
theorem Q6c{n r:List UInt8}(hn:n=[]∨Qi n=true)(hr:Qi r=true):Yb (Ks n r)=some (n,r):=by
 unfold Yb Ks
 rw[List.append_assoc,List.singleton_append]
 rcases hn with rfl|hn
 ·rw[show Xp 58 ((if (([]:List UInt8)==[])=true then [45] else [])++58::r)=([45],r,true) from Q46 (x:=[45]) r (by decide)]
  simp only
  rw[if_pos (by rw[hr];rfl)]
  rfl
 ·have h:=Q0a hn;have h1:(n==([]:List UInt8))=false:=beq_eq_false_iff_ne.2 h.2.2.1;have h2:(n==([45]:List UInt8))=false:=beq_eq_false_iff_ne.2 h.2.2.2
  have e:Xp 58 ((if (n==([]:List UInt8))=true then [45] else n)++58::r)=(n,r,true):=by
   rw[h1,if_neg Bool.false_ne_true];exact Q46 r h.2.1
  rw[e]
  simp only
  rw[h2,if_pos (by rw[hn,hr];rfl),if_neg Bool.false_ne_true]
theorem Q73{w n r:List UInt8}(h:Yb w=some (n,r)):w=Ks n r∧(n=[]∨Qi n=true)∧Qi r=true:=by
 unfold Yb at h
 obtain⟨t,r',b,hc⟩:∃t r' b,Xp 58 w=(t,r',b):=⟨_,_,_,rfl⟩;rw[hc] at h
 simp only at h
 split at h
 ·next hb=>
  rw[Bool.and_eq_true,Bool.and_eq_true,Bool.or_eq_true] at hb;obtain⟨⟨rfl,ht⟩,hr⟩:=hb;have hw:=(Vo hc).2.1;rw[Option.some.injEq,Prod.mk.injEq] at h;obtain⟨h1,rfl⟩:=h
  by_cases ht45:t=[45]
  ·rw[ht45] at h1 hw
   have:n=[]:=by rw[← h1];rfl
   subst this;exact⟨hw,.inl rfl,hr⟩
  ·have h2:(t==([45]:List UInt8))=false:=beq_eq_false_iff_ne.2 ht45;rw[h2] at h1 ht
   have:n=t:=by rw[← h1];rfl
   subst this;have hn:Qi n=true:=ht.resolve_left (by decide);refine⟨?_,.inr hn,hr⟩
   unfold Ks
   have h3:(n==([]:List UInt8))=false:=beq_eq_false_iff_ne.2 (Q0a hn).2.2.1;rw[h3,hw]
   simp
 ·cases h
theorem Q0p{g:Int→List UInt8}:∀(ns:List (List UInt8)) (ps:List Int),ns.length=ps.length→(∀n∈ns,n=[]∨Qi n=true)→(∀p∈ps,Qi (g p)=true)→Jl (List.zipWith (fun n p=>Ks n (g p)) ns ps)=some (ns,ps.map g)
 |[],[],_,_,_=>rfl
 |[],_::_,h,_,_=>by cases h
 |_::_,[],h,_,_=>by cases h
 |n::ns,p::ps,h,hn,hp=>by
  rw[List.zipWith_cons_cons,Jl,Q6c (hn n List.mem_cons_self) (hp p List.mem_cons_self),Q0p ns ps (by simpa using h) (fun x hx=>hn x (List.mem_cons_of_mem _ hx)) (fun x hx=>hp x (List.mem_cons_of_mem _ hx))]
  rfl
theorem Q0q:∀{ws ns rs:List (List UInt8)},Jl ws=some (ns,rs)→ws=List.zipWith Ks ns rs∧ns.length=rs.length∧(∀r∈rs,Qi r=true)
 |[],ns,rs,h=>by cases h;exact⟨rfl,rfl,by simp⟩
 |w::l,ns,rs,h=>by
  rw[Jl] at h
  cases h1:Yb w with
  |none=>rw[h1] at h;cases h
  |some nr=>
   obtain⟨n,r⟩:=nr
   cases h2:Jl l with
   |none=>rw[h1,h2] at h;cases h
   |some nrs=>
    obtain⟨ns',rs'⟩:=nrs;rw[h1,h2] at h
    cases h
    have a:=Q73 h1;have b:=Q0q h2;refine⟨?_,?_,?_⟩
    ·rw[List.zipWith_cons_cons,← a.1,← b.1]
    ·rw[List.length_cons,List.length_cons,b.2.1]
    ·intro x hx
     rcases List.mem_cons.1 hx with rfl|hx
     ·exact a.2.2
     ·exact b.2.2 x hx
theorem Qap{α β:Type}(f:α→β)(d:α)(l:List α):(List.range l.length).map (fun i=>f (l.getD i d))=l.map f:=by
 refine List.ext_getElem (by simp) fun i h1 h2=>?_
 have hi:i<l.length:=by simpa using h1
 simp [List.getD_eq_getElem?_getD,List.getElem?_eq_getElem hi]
theorem Q9D{α β γ:Type}(f:α→β→γ)(d:α)(e:β)(l:List α)(m:List β)(h:l.length=m.length):(List.range m.length).map (fun i=>f (l.getD i d) (m.getD i e))=List.zipWith f l m:=by
 refine List.ext_getElem (by simp [h]) fun i h1 h2=>?_
 have hi:i<m.length:=by simpa using h1
 have hi':i<l.length:=by omega
 simp [List.getD_eq_getElem?_getD,List.getElem?_eq_getElem hi,List.getElem?_eq_getElem hi']
theorem Q5Y(F:List Rl){r:Rl}(hk:r.kind=7)(hl:r.names.length=r.parts.length):(List.range r.parts.length).map (XW F r)=List.zipWith (fun n p=>Ks n (Zv F p)) r.names r.parts:=by
 rw[← Q9D (fun n p=>Ks n (Zv F p)) [] 0 r.names r.parts hl]
 refine List.map_congr_left fun i _=>?_
 unfold XW Ks
 rw[hk]
 simp
theorem Q5h(F:List Rl){r:Rl}(hk:r.kind≠7):(List.range r.parts.length).map (XW F r)=r.parts.map (Zv F):=by
 rw[← Qap (Zv F) 0 r.parts]
 refine List.map_congr_left fun i _=>?_
 unfold XW
 rw[beq_eq_false_iff_ne.2 hk]
 simp
end Go.Proofs.YtgdiadednlajgaaGreatDoor
