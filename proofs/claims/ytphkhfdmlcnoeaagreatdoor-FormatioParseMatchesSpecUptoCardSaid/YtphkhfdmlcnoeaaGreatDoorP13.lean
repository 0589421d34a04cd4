import Derived.Test.YtphkhfdmlcnoeaaGreatDoorP12
namespace Go.Proofs.YtphkhfdmlcnoeaaGreatDoor
set_option linter.unusedVariables false
set_option linter.unusedSimpArgs false
set_option maxRecDepth 1000000
set_option maxHeartbeats 32000000
open Go.RowKit
section
variable {Ab An Ap:Option Addr}{S:List (Nat->Bool)}{W:World}{b c cb cn cp n s:Nat}{r:Rl}
section
variable {P:Program}{ops:Array Oper}{C:World->Prop}{N:Nat}{E:Env}{o:Oper}{d:Nat}
theorem Qd1{t e:TypeId}{x y:Operand}{q:Nat}{k:IntKind}{m:Int}[hT:Ar P t n e s](ho:o.op=.indexAddr t x y)(hd:o.dst=some d)(hN:d<N)(hw:Qi ops E o=some true)(hx:ev E x=some (.pointer (some ⟨b,q,none⟩)))(hy:ev E y=some (.int k m))(hj:0<=m/\m<n):oE P ops C N E ((d,.pointer (some ⟨b,q+m.toNat*s,none⟩))::E) o:=by
 obtain⟨j,rfl⟩:∃j:Nat,m=(j:Int):=⟨m.toNat,by omega⟩;exact Jd ho hd hN hw hx hy Q3
end
theorem Rd.cellAt{w:World}{B j:Nat}{xs:List Value}{u:Value}(h:Rd w B s (some ⟨b,0,none⟩) n xs)(hn:0<n)(hu:xs[j]? =some u):w.cell? ⟨b,0+j,none⟩=some u:=by
 obtain⟨b',o,e,_,hc⟩:=h.2 hn;cases e;exact hc j u hu
def VS(S:List (Nat->Bool)):(Nat->Bool)->List Int->Bool
 |_,[]=>false
 |seen,x::l=>(List.range 256).any (fun c=>(S.getD x.toNat Xu) c&&seen c)||VS S (orS seen (S.getD x.toNat Xu)) l
def Zd(S:List (Nat->Bool))(r:Rl):Bool:=
 if r.kind=9 then (S.getD r.elem.toNat Xu) r.stop.toNat else if r.kind=8 then VS S noS r.parts else false
def Q8t(S:List (Nat->Bool))(l:List Int):Nat->Bool:=l.foldl (fun s x=>orS s (S.getD x.toNat Xu)) noS
theorem Q12(S:List (Nat->Bool)):∀(l m:List Int) (s:Nat->Bool),VS S s (l++m)=(VS S s l||VS S (l.foldl (fun s x=>orS s (S.getD x.toNat Xu)) s) m)
 |[],m,s=>rfl
 |x::l,m,s=>by
  rw[List.cons_append,VS,VS,Q12 S l m,List.foldl_cons,Bool.or_assoc]
def ZA(s t:Nat->Bool)(c:Nat):Nat->Bool:=fun j=>if j<c then s j||t j else s j
theorem QdI(s t:Nat->Bool):ZA s t 0=s:=by funext j;simp [ZA]
theorem QeC(s t:Nat->Bool):QJ (ZA s t 256)=QJ (orS s t):=ZL fun j hj=>by simp [ZA,hj,orS]
theorem Qbk(s t:Nat->Bool)(c:Nat):(QJ (ZA s t c)).set c (.bool (s c||t c))=QJ (ZA s t (c+1)):=by
 rw[Q06];congr 1;funext j;unfold ZA;by_cases h1:j=c
 ·subst h1;simp
 ·by_cases h2:j<c
  ·have:j<c+1:=by omega
   simp [h1,h2,this]
  ·have:¬j<c+1:=by omega
   simp [h1,h2,this]
theorem Qj7(s t:Nat->Bool)(hc:c<256):(QJ (ZA s t c))[c]? =some (.bool (s c)):=by
 rw[ZF _ hc];simp [ZA]
theorem QfJ(hr:ROk n r)(hS:S.length=n)(hrd:Rd W W.heap.size 256 (some ⟨b,0,none⟩) n (QV S))(hk:r.kind=9):
  Calls Tryz.prog 120 #[.agg (ruC r (.slice Ab r.bs.length cb) (.slice An r.names.length cn) (.slice Ap r.parts.length cp)).toArray,.slice (some ⟨b,0,none⟩) n c] W (QL W (Zd S r)):=by
 obtain⟨name,kind,bs,size,big,mn,mx,stop,count,elem,names,parts⟩:=r;have he:=hr.elem (.inr hk);have hs:=hr.stop (.inr (.inr hk));simp only at he hs hk;subst hk;have hs':0<=stop/\stop<(256:Nat):=by omega
 have hcell:W.cell? ⟨b,0+elem.toNat*256+stop.toNat*1,none⟩=some (.bool ((S.getD elem.toNat Xu) stop.toNat)):=by
  rw[Nat.mul_one,Nat.add_assoc];exact hrd.cellAt Q3 (Q38 S _ _ Q3 Q3)
 go_enter Tryz.func120,Tryz.ntmps120;refine Qv (M:=[]) (W:=W) (N:=55) (E:=[(0,.agg (ruC ⟨name,9,bs,size,big,mn,mx,stop,count,elem,names,parts⟩ (.slice Ab bs.length cb) (.slice An names.length cn) (.slice Ap parts.length cp)).toArray),(1,.slice Q0H n c)]) (O:=[]) ?_ mc3 QT;repeat(first|refine Q4 zA ?_|refine Q4 zF ?_|refine Q4 (zB 0) ?_|refine Q4 zC ?_|refine yB fun br=>?_|refine Qd ?_|refine Qa ?_|refine Q6 ?_|refine Q9 rfl ?_|refine Qh ?_|refine Q4 zer ?_)
 repeat(first|refine Qe zM ?_|refine Qe zA ?_|refine Qe zF ?_|refine Qe (zB 0) ?_|refine Qe zC ?_|refine Qe (Qz rfl rfl Q1 rfl rfl rfl he) ?_|refine Qe (Qd1 rfl rfl Q1 rfl rfl rfl hs') ?_|refine Z3 ?_|refine Xb Q5 Q5 ?_)
 refine yt<|yk<|yc ?_;refine Q8 mc4 rfl (.tmp rfl) (fun w hw=>QG rfl hw)
theorem Qg8{A:Option Addr}(h9:(r.kind==9)=false)(h8:(r.kind==8)=false):
  Calls Tryz.prog 120 #[.agg (ruC r (.slice Ab r.bs.length cb) (.slice An r.names.length cn) (.slice Ap r.parts.length cp)).toArray,.slice A n c] W (QL W (Zd S r)):=by
 go_enter Tryz.func120,Tryz.ntmps120;refine Qv (M:=[]) (W:=W) (N:=55) (E:=[QuJ,(1,.slice A n c)]) (O:=[]) ?_ mc3 QT;repeat(first|refine Q4 zA ?_|refine Q4 zF ?_|refine Q4 (zB 0) ?_|refine yB fun br=>?_|refine Qd ?_|refine Qa ?_|refine Q6 ?_|refine Qt ?_|refine Q7 rfl ?_|refine QB ?_|refine Qh ?_|refine Q4 zea ?_)
 refine Q8 mc4 rfl (.tmp rfl) (fun w hw=>QG ?_ hw);unfold Zd;rw[if_neg (by simpa using h9),if_neg (by simpa using h8)]
theorem QfU(hl:RuL W r Ab cb An cn Ap cp)(hr:ROk n r)(hS:S.length=n)(hrd:Rd W W.heap.size 256 (some ⟨b,0,none⟩) n (QV S))(hk:r.kind=8):
  Calls Tryz.prog 120 #[.agg (ruC r (.slice Ab r.bs.length cb) (.slice An r.names.length cn) (.slice Ap r.parts.length cp)).toArray,.slice (some ⟨b,0,none⟩) n c] W (QL W (Zd S r)):=by
 have h12:=hr.p12;have h2:=hr.eight hk;have hin:=hr.parts (.inr hk);have hp:=hl.p;obtain⟨name,kind,bs,size,big,mn,mx,stop,count,elem,names,parts⟩:=r;simp only at h12 h2 hin hp hk;subst hk;have HIN:=Q2 hin;have HRD:=Q2 hrd;clear hin hrd hl hr;obtain⟨bp,op,hA,hpb,hpc⟩:=hp.2 Q3;subst hA;have HPC:=Q2 hpc;clear hp hpc;have hconf:Zd S ⟨name,8,bs,size,big,mn,mx,stop,count,elem,names,parts⟩=VS S noS parts:=rfl;rw[hconf];clear hconf;go_enter Tryz.func120,Tryz.ntmps120;refine Qv (M:=[]) (W:=W) (N:=55) (E:=[(0,.agg (ruC ⟨name,8,bs,size,big,mn,mx,stop,count,elem,names,parts⟩ (.slice Ab bs.length cb) (.slice An names.length cn) (.slice (some ⟨bp,op,none⟩) parts.length cp)).toArray),(1,.slice Q0H n c)]) (O:=[]) ?_ mc3 (Wd.start [] W);repeat(first|refine Q4 zM ?_|refine Q4 zA ?_|refine Q4 zF ?_|refine Q4 (zB 0) ?_|refine Q4 (zB 1) ?_|refine yB fun br=>?_|refine yA (t:=92) fun b7=>?_|refine Qd ?_|refine Qa ?_|refine Q6 ?_|refine Q9 rfl ?_|refine Q7 rfl ?_|refine Qh ?_|refine Q4 zL ?_|refine Q4 zer ?_)
 refine QH (ι:=Nat) (fun j=>j<=parts.length/\VS S noS (parts.take j)=false) (fun j=>parts.length - j) (fun j=>[(1,.slice Q0H n c),(5,.pointer (some ⟨b7,0,none⟩)),(25,.slice (some ⟨bp,op,none⟩) parts.length cp),(26,.int .i64 (parts.length:Int)),(27,.int .i64 (j:Int))]) (fun j=>[.blk b7 (.cells (QJ (Q8t S (parts.take j))).toArray 92 (0,0))]) 0 [0] Q1 ⟨Nat.zero_le _,rfl⟩ Yj rfl ?_;rintro j ⟨hj,hno⟩;have HNO:=Q2 hno;clear hno;by_cases hjn:j<parts.length
 ·obtain⟨x,hx⟩:∃x,parts[j]? =some x:=⟨_,List.getElem?_eq_getElem hjn⟩;have hxn:=HIN.out x YS;have hcj:W.cell? ⟨bp,op+j,none⟩=some (.int .i64 x):=HPC.out j _ (by unfold iv;rw[List.getElem?_map,hx];rfl);have HX:=Q2 hx;clear hx;obtain⟨st,hst⟩:∃st,st=S.getD x.toNat Xu:=⟨_,rfl⟩;obtain⟨s,hs⟩:∃s,s=Q8t S (parts.take j):=⟨_,rfl⟩
  have hset:W.rangeAt b (0+x.toNat*256) (QJ st):=fun q u hu=>by
   rw[Nat.add_assoc];rw[hst] at hu;exact HRD.out.cellAt Q3 (Q22 S x.toNat Q3 q u hu)
  rw[<- hs];have HST:=Q2 hst;have HS:=Q2 hs;clear hst hs;repeat(first|refine Q4 zM ?_|refine Q4 zA ?_|refine Q4 zC ?_|refine Q4 (zD 0) ?_|refine Q4 zE ?_|refine Q4 (zi1 (hj:=hjn)) ?_|refine Q4 Qci ?_|refine Qd ?_|refine Qa ?_|refine Q6 ?_|refine Qt ?_|refine Q9 rfl ?_|refine Qh ?_|refine Q4 zlt ?_)
  refine QH (ι:=Nat) (fun q=>q<=256/\∀i,i<q->(st i&&s i)=false) (fun q=>256 - q) (fun q=>[(1,.slice Q0H n c),(5,.pointer (some ⟨b7,0,none⟩)),(25,.slice (some ⟨bp,op,none⟩) parts.length cp),(26,.int .i64 (parts.length:Int)),(27,.int .i64 (j:Int)),(34,.agg (QJ st).toArray),(35,.int .i64 (q:Int))]) (fun q=>[.blk b7 (.cells (QJ (ZA s st q)).toArray 92 (0,0))]) 0 [0] Q1 ⟨Nat.zero_le _,fun i hi=>absurd hi (Nat.not_lt_zero _)⟩ Q0I (by rw[QdI];rfl) ?_;rintro q ⟨hq,hmn⟩;have HMN:=Q2 hmn;clear hmn;by_cases hqn:q<256
  ·have hc0:(QJ (ZA s st q))[0+q*1]? =some (.bool (s q)):=by rw[Nat.zero_add,Nat.mul_one];exact Qj7 s st hqn
   obtain⟨sq,hsq⟩:∃sq,s q=sq:=⟨_,rfl⟩;obtain⟨tq,htq⟩:∃tq,st q=tq:=⟨_,rfl⟩;have htc:(QJ st)[q]? =some (.bool tq):=by rw[ZF st hqn,htq]
   rw[hsq] at hc0;have HSQ:=Q2 hsq;have HTQ:=Q2 htq;clear hsq htq;cases tq with
   |true=>
    cases sq with
    |true=>
     repeat(first|refine Q4 zM ?_|refine Q4 zA ?_|refine Q4 Ql7 ?_|refine Q4 QhC ?_|refine Q4 (zV 0 hc0) ?_|refine Qd ?_|refine Qa ?_|refine Q6 ?_|refine Qt ?_|refine Q9 rfl ?_|refine QB ?_|refine Qh ?_|refine Qk ?_|refine Qs ?_|refine Q4 Q4e ?_|refine Q4 zY ?_)
     refine Q8 mc4 rfl (.tmp rfl) (fun w hw=>QG ?_ hw);have e1:VS S noS (parts.take (j+1))=true:=by
      rw[List.take_add_one,HX.out,Option.toList_some,Q12,HNO.out,Bool.false_or,VS,Bool.or_eq_true];refine .inl (List.any_eq_true.2 ⟨q,List.mem_range.2 hqn,?_⟩);rw[<- HST.out,HTQ.out];show (true&&Q8t S (parts.take j) q)=true;rw[<- HS.out,HSQ.out];rfl
     have e2:=Q12 S (parts.take (j+1)) (parts.drop (j+1)) noS;rw[List.take_append_drop,e1,Bool.true_or] at e2;exact e2.symm
    |false=>
     repeat(first|refine Q4 zM ?_|refine Q4 zA ?_|refine Q4 Ql7 ?_|refine Q4 QhC ?_|refine Q4 (zV 0 hc0) ?_|refine QD Qf3 rfl (fun _ _=>?_)|refine Qd ?_|refine Qa ?_|refine Q6 ?_|refine Qt ?_|refine Q9 rfl ?_|refine Q7 rfl ?_|refine Qh ?_|refine Q4 Q4e ?_|refine Q4 zY ?_|refine Q4 zN ?_|refine Q4 zP ?_)
     refine Qr (q+1) [0] Q1 ⟨hqn,fun i hi=>?_⟩ QeP Q0g ?_
     ·rcases Nat.lt_or_ge i q with h|h
      ·exact HMN.out i h
      ·obtain rfl:i=q:=by omega
       rw[HTQ.out,HSQ.out];rfl
     ·show [Qb.blk b7 (.cells ((QJ (ZA s st q)).set (0+q*1) (.bool true)).toArray _ _)]=[Qb.blk b7 (.cells (QJ (ZA s st (q+1))).toArray _ _)]
      exact QlO
   |false=>
    cases sq with
    |true=>
     repeat(first|refine Q4 zM ?_|refine Q4 zA ?_|refine Q4 zS ?_|refine Q4 Qms ?_|refine Q4 QhC ?_|refine Q4 (zV 0 hc0) ?_|refine QD Qf3 rfl (fun _ _=>?_)|refine Qd ?_|refine Qa ?_|refine Q6 ?_|refine Qt ?_|refine Q9 rfl ?_|refine Q7 rfl ?_|refine Qh ?_|refine Q4 Q4e ?_|refine Q4 zY ?_|refine Q4 zN ?_|refine Q4 zP ?_)
     refine Qr (q+1) [0] Q1 ⟨hqn,fun i hi=>?_⟩ QeP Q0g ?_
     ·rcases Nat.lt_or_ge i q with h|h
      ·exact HMN.out i h
      ·obtain rfl:i=q:=by omega
       rw[HTQ.out,HSQ.out];rfl
     ·show [Qb.blk b7 (.cells ((QJ (ZA s st q)).set (0+q*1) (.bool true)).toArray _ _)]=[Qb.blk b7 (.cells (QJ (ZA s st (q+1))).toArray _ _)]
      exact QlO
    |false=>
     repeat(first|refine Q4 zM ?_|refine Q4 zA ?_|refine Q4 zS ?_|refine Q4 Qms ?_|refine Q4 QhC ?_|refine Q4 (zV 0 hc0) ?_|refine QD Qf3 rfl (fun _ _=>?_)|refine Qd ?_|refine Qa ?_|refine Q6 ?_|refine Qt ?_|refine Q9 rfl ?_|refine Q7 rfl ?_|refine Qh ?_|refine Q4 Q4e ?_|refine Q4 zN ?_|refine Q4 zP ?_)
     refine Qr (q+1) [0] Q1 ⟨hqn,fun i hi=>?_⟩ QeP Q0g ?_
     ·rcases Nat.lt_or_ge i q with h|h
      ·exact HMN.out i h
      ·obtain rfl:i=q:=by omega
       rw[HTQ.out,HSQ.out];rfl
     ·show [Qb.blk b7 (.cells ((QJ (ZA s st q)).set (0+q*1) (.bool false)).toArray _ _)]=[Qb.blk b7 (.cells (QJ (ZA s st (q+1))).toArray _ _)]
      exact QlO
  ·skip
   refine Qgz ?_
   obtain rfl:q=256:=by omega
   refine Qr (j+1) [0] Q1 ⟨hjn,?_⟩ Q2V J9 ?_
   ·rw[List.take_add_one,HX.out,Option.toList_some,Q12,HNO.out,Bool.false_or,VS]
    show (_||false)=false;rw[Bool.or_false,List.any_eq_false];intro i hi;rw[<- HST.out];have:=HMN.out i (List.mem_range.1 hi);show ¬(st i&&Q8t S (parts.take j) i)=true;rw[<- HS.out,this];exact Bool.false_ne_true
   ·show [Qb.blk b7 (.cells (QJ (ZA s st 256)).toArray _ _)]=[Qb.blk b7 (.cells (QJ (Q8t S (parts.take (j+1)))).toArray _ _)]
    rw[QeC,List.take_add_one,HX.out,Option.toList_some];unfold Q8t;rw[List.foldl_append,HST.out,HS.out];rfl
 ·skip
  refine Qrj ?_
  refine Q8 mc4 rfl (.tmp rfl) (fun w hw=>QG ?_ hw);have:=HNO.out;rw[List.take_of_length_le Q3] at this;exact this.symm
theorem Q6f(hl:RuL W r Ab cb An cn Ap cp)(hr:ROk n r)(hS:S.length=n)(hrd:Rd W W.heap.size 256 (some ⟨b,0,none⟩) n (QV S)):
  Calls Tryz.prog 120 #[.agg (ruC r (.slice Ab r.bs.length cb) (.slice An r.names.length cn) (.slice Ap r.parts.length cp)).toArray,.slice (some ⟨b,0,none⟩) n c] W (QL W (Zd S r)):=by
 by_cases h9:r.kind=9
 ·exact QfJ hr hS hrd h9
 ·by_cases h8:r.kind=8
  ·exact QfU hl hr hS hrd h8
  ·exact Qg8 (beq_eq_false_iff_ne.2 h9) (beq_eq_false_iff_ne.2 h8)
end
section
variable {k n:Nat}{p:Nat->Bool}{r:Rl}
def Xh(n:Nat)(p:Nat->Bool):Option Nat:=(List.range n).find? p
theorem Jk(hk:k<n)(hp:p k=true)(hl:∀j,j<k->p j=false):Xh n p=some k:=by
 unfold Xh;rw[List.find?_range_eq_some];exact⟨hp,List.mem_range.2 hk,fun j hj=>by rw[hl j hj];rfl⟩
theorem Xl(hl:∀j,j<n->p j=false):Xh n p=none:=by
 unfold Xh;rw[List.find?_eq_none];intro j hj;rw[hl j (List.mem_range.1 hj)];exact Bool.false_ne_true
theorem K9(h:Xh n p=none):∀j,j<n->p j=false:=fun j hj=>by
 unfold Xh at h;rw[List.find?_eq_none] at h;have:=h j (List.mem_range.2 hj);cases hp:p j with
 |false=>rfl
 |true=>exact absurd hp this
theorem Q13(h:Xh n p=some k):k<n/\p k=true/\∀j,j<k->p j=false:=by
 unfold Xh at h;rw[List.find?_range_eq_some] at h;exact⟨List.mem_range.1 h.2.1,h.1,fun j hj=>by simpa using h.2.2 j hj⟩
def Zc(F:List Rl)(k:Nat):Int:=match F[k]? with|some r=>Xm r (F.take k) F.length|none=>0
def Jy(F:List Rl)(k:Nat):Int:=match F[k]? with|some r=>J2 F r|none=>0
def ZB(F:List Rl)(k:Nat):Bool:=match F[k]? with|some r=>Zd (V4 F) r|none=>false
theorem Q0W{F:List Rl}(h:F[k]? =some r):Zc F k=Xm r (F.take k) F.length:=by unfold Zc;rw[h]
theorem Q0d{F:List Rl}(h:F[k]? =some r):Jy F k=J2 F r:=by unfold Jy;rw[h]
theorem Q6Z{F:List Rl}(h:F[k]? =some r):ZB F k=Zd (V4 F) r:=by unfold ZB;rw[h]
def Xa(F:List Rl):Int×Int:=
 if F.length=0 then (10,-1) else if 40<F.length then (2,-1) else
 match Xh F.length (fun k=>Zc F k != 0) with
 |some k=>(Zc F k,k)
 |none=>match Xh F.length (fun k=>Jy F k != 0) with
  |some k=>(Jy F k,k)
  |none=>match Xh F.length (Q1c F) with
   |some k=>(22,k)
   |none=>match Xh F.length (fun k=>!((Zg F).getD k false)) with
    |some k=>(24,k)
    |none=>match Xh F.length (ZB F) with
     |some k=>(23,k)
     |none=>(0,0)
section
variable {F:List Rl}
theorem Q3p(h:F.length=0):Xa F=(10,-1):=by unfold Xa;rw[if_pos h]
theorem Q4w(h:40<F.length):Xa F=(2,-1):=by unfold Xa;rw[if_neg Q3,if_pos h]
theorem Q4L(h0:0<F.length)(h1:F.length<=40)(hk:k<F.length)(hp:Zc F k≠0)(hl:∀j,j<k->Zc F j=0):Xa F=(Zc F k,(k:Int)):=by
 unfold Xa;rw[if_neg Q3,if_neg Q3,Jk hk (by simpa using hp) (fun j hj=>by simpa using hl j hj)]
theorem Q7q(h0:0<F.length)(h1:F.length<=40)(ha:∀j,j<F.length->Zc F j=0)(hk:k<F.length)(hp:Jy F k≠0)(hl:∀j,j<k->Jy F j=0):Xa F=(Jy F k,(k:Int)):=by
 unfold Xa;rw[if_neg Q3,if_neg Q3,Xl (fun j hj=>by simpa using ha j hj),Jk hk (by simpa using hp) (fun j hj=>by simpa using hl j hj)]
theorem Q6y(h0:0<F.length)(h1:F.length<=40)(ha:∀j,j<F.length->Zc F j=0)(hb:∀j,j<F.length->Jy F j=0)(hk:k<F.length)(hp:Q1c F k=true)(hl:∀j,j<k->Q1c F j=false):Xa F=(22,(k:Int)):=by
 unfold Xa;rw[if_neg Q3,if_neg Q3,Xl (fun j hj=>by simpa using ha j hj),Xl (fun j hj=>by simpa using hb j hj),Jk hk hp hl]
def Kh(F:List Rl):Int×Int:=
 match Xh F.length (fun k=>!((Zg F).getD k false)) with
 |some k=>(24,k)
 |none=>match Xh F.length (ZB F) with
  |some k=>(23,k)
  |none=>(0,0)
theorem Q50(h0:0<F.length)(h1:F.length<=40)(ha:∀j,j<F.length->Zc F j=0)(hb:∀j,j<F.length->Jy F j=0)(hc:∀j,j<F.length->Q1c F j=false):Xa F=Kh F:=by
 unfold Xa;rw[if_neg Q3,if_neg Q3,Xl (fun j hj=>by simpa using ha j hj),Xl (fun j hj=>by simpa using hb j hj),Xl hc];rfl
def Q47(l:List Bool):Int:=match Xh l.length (fun k=>!(l.getD k false)) with|some k=>(k:Int)|none=>-1
theorem Qga(hl:(Zg F).length=F.length)(h:0<=Q47 (Zg F)):Kh F=(24,Q47 (Zg F)):=by
 unfold Q47 at h ⊢;rw[hl] at h ⊢;unfold Kh;cases hf:Xh F.length (fun k=>!((Zg F).getD k false)) with
 |none=>rw[hf] at h;exact Q54
 |some k=>rfl
theorem Q3r(hl:(Zg F).length=F.length)(h:¬0<=Q47 (Zg F))(hk:k<F.length)(hp:ZB F k=true)(hj:∀j,j<k->ZB F j=false):Kh F=(23,(k:Int)):=by
 unfold Q47 at h;rw[hl] at h;unfold Kh;cases hf:Xh F.length (fun k=>!((Zg F).getD k false)) with
 |some k=>rw[hf] at h;exact absurd (Int.natCast_nonneg k) h
 |none=>rw[Jk hk hp hj]
theorem Q8p(hl:(Zg F).length=F.length)(h:¬0<=Q47 (Zg F))(hj:∀j,j<F.length->ZB F j=false):Kh F=(0,0):=by
 unfold Q47 at h;rw[hl] at h;unfold Kh;cases hf:Xh F.length (fun k=>!((Zg F).getD k false)) with
 |some k=>rw[hf] at h;exact absurd (Int.natCast_nonneg k) h
 |none=>rw[Xl hj]
theorem QfI(h:∀j,j<F.length->Zc F j=0):FOk F:=fun i r hr=>by
 have hi:i<F.length:=(List.getElem?_eq_some_iff.1 hr).1;have:=h i hi;rw[Q0W hr] at this;exact Qv4 this
theorem QuI(h:ROk n r):Qh8 n r:=⟨fun hc=>h.count (by
  unfold Qy XF at hc
  simp at hc
  omega),fun h7=>⟨(h.seven h7).1.symm,h.parts (.inl h7)⟩⟩
end
end
def QnG(name:List UInt8)(k:Int):Rl:=⟨name,k,[],0,false,0,0,0,0,0,[],[]⟩
def QaF(F:List Rl):List (List UInt8)->Option (List Int)
 |[]=>some []
 |s::l=>if Vl F s<0 then none else (QaF F l).map (Vl F s::·)
def QF(F:List Rl):Int×Int:=if Xa F≠(0,0) then Xa F else if 2000<(YA F).length then (14,-1) else (0,0)
section
variable {k v:Int}{n:Nat}{r:Rl}{α β:Type}
theorem Qqw(h:0<=v):Lib.itoa v=Lib.decDigits v.toNat:=by unfold Lib.itoa;rw[if_neg Q3]
end
section
variable {n:Nat}{r:Rl}
structure Zr(r:Rl):Prop where
 bs:r.kind≠1->r.bs=[]
 stop:r.kind≠3->r.kind≠5->r.kind≠9->r.stop=0
 size:r.kind≠2->r.kind≠4->r.kind≠5->r.size=0
 big:r.kind≠2->r.big=false
 mn:r.kind≠2->r.mn=0
 mx:r.kind≠2->r.kind≠3->r.mx=0
 count:r.kind≠6->r.kind≠10->r.count=0
 elem:r.kind≠6->r.kind≠9->r.elem=0
 names:r.kind≠7->r.names=[]
 parts:r.kind≠7->r.kind≠8->r.parts=[]
theorem QoU(h:ROk n r):Zr r:=by
 have hf:=h.formed;unfold X6 XO XP Z0 Qy JV JG XF at hf;simp only[Bool.and_eq_true,Bool.or_eq_true,beq_iff_eq,List.contains_iff_mem,List.mem_cons,List.not_mem_nil,or_false,Bool.not_eq_true'] at hf;obtain⟨⟨⟨⟨⟨⟨⟨⟨h1,h2⟩,h3⟩,h4⟩,h5⟩,h6⟩,h7⟩,h8⟩,h9⟩:=hf;refine⟨fun h=>?_,fun _ _ _=>by omega,fun _ _ _=>by omega,fun h=>?_,fun h=>?_,fun _ _=>by omega,fun _ _=>by omega,fun _ _=>by omega,fun h=>?_,fun h h'=>?_⟩
 ·exact QgO
 ·exact(h4.resolve_right h).1
 ·exact(h4.resolve_right h).2
 ·exact QgO
 ·exact QgO
structure LOk(F:List Rl)(r:Rl):Prop where
 ok:ROk F.length r
 name:Qw r.name=true
 all:∀x:Int,0<=x/\x<F.length->Qw (YQ F x)=true
 part:r.kind=7->∀s∈r.names,s=[]\/Qw s=true
end
section
variable {i n:Nat}{r:Rl}
theorem QeV{F:List Rl}{s:List UInt8}(h:Vl F s<0):∀(j:Nat) (r:Rl),F[j]? =some r->¬r.name=s:=by
 unfold Vl at h;cases hf:F.findIdx? (fun r=>r.name==s) with
 |some i=>rw[hf] at h;simp only at h;omega
 |none=>
  rw[List.findIdx?_eq_none_iff] at hf;intro j r hr hn;have:=hf r (List.mem_of_getElem? hr);rw[hn] at this;simp at this
theorem QeB{early:List Rl}(h:Xm r early n=0):Qw r.name=true/\Vl early r.name<0:=by
 unfold Xm at h;split at h
 ·cases h
 next h1=>
 split at h
 ·cases h
 next h2=>
 refine⟨by simpa using h1,?_⟩;simpa using h2
theorem Q4y{g:Nat->Int}:∀(n i:Nat),ZX g i n=0->∀j,i<=j->j<i+n->g j=0
 |0,i,_,j,h1,h2=>absurd h1 Q3
 |n+1,i,h,j,h1,h2=>by
  rw[ZX] at h
  split at h
  ·next h0=>
   rcases Nat.eq_or_lt_of_le h1 with rfl|h3
   ·exact h0
   ·exact Q4y n (i+1) h j h3 Q3
  ·next h0=>exact absurd h h0
theorem Qea{F:List Rl}(h:J2 F r=0)(hk:r.kind=7):∀s∈r.names,s=[]\/Qw s=true:=by
 have hc:Qy r.kind=false:=by rw[hk];rfl
 unfold J2 at h;rw[hc,hk] at h;have h:ZX (Zu F r.names r.parts) 0 r.names.length=0:=h;intro s hs;obtain⟨j,hj,e⟩:=List.mem_iff_getElem.1 hs;have h0:=Q4y _ _ h j Q3 Q3;unfold Zu at h0;rw[List.getD_eq_getElem?_getD,List.getElem?_eq_getElem hj,e] at h0;simp only[Option.getD_some] at h0;split at h0
 ·next h1=>exact .inl (by simpa using h1)
 ·split at h0
  ·cases h0
  ·next h2=>exact .inr (by simpa using h2)
structure POk(F:List Rl):Prop where
 rule:∀j,j<F.length->Zc F j=0
 use:∀j,j<F.length->Jy F j=0
theorem Q6Q{F:List Rl}(h:Xa F=(0,0)):POk F:=by
 unfold Xa at h;split at h
 ·cases h
 split at h
 ·cases h
 cases h1:Xh F.length (fun k=>Zc F k != 0) with
 |some k=>rw[h1] at h;have:=(Q13 h1).2.1;simp only[Prod.mk.injEq] at h;rw[h.1] at this;cases this
 |none=>
  rw[h1] at h;simp only at h;cases h2:Xh F.length (fun k=>Jy F k != 0) with
  |some k=>rw[h2] at h;have:=(Q13 h2).2.1;simp only[Prod.mk.injEq] at h;rw[h.1] at this;cases this
  |none=>exact⟨fun j hj=>by simpa using K9 h1 j hj,fun j hj=>by simpa using K9 h2 j hj⟩
section
variable {F:List Rl}
theorem POk.name(h:POk F)(hr:F[i]? =some r):Qw r.name=true/\Vl (F.take i) r.name<0:=by
 have:=h.rule i (List.getElem?_eq_some_iff.1 hr).1;rw[Q0W hr] at this;exact QeB this
theorem POk.fok(h:POk F):FOk F:=QfI h.rule
theorem POk.self(h:POk F)(hr:F[i]? =some r):Vl F r.name=(i:Int):=
 Q3L hr rfl fun j r' hj hr'=>QeV (h.name hr).2 j r' (by rw[List.getElem?_take,if_pos hj];exact hr')
theorem POk.find(h:POk F){x:Int}(hx:0<=x/\x<F.length):Qw (YQ F x)=true/\Vl F (YQ F x)=x:=by
 have hr:F[x.toNat]? =some F[x.toNat]:=List.getElem?_eq_getElem Q3;rw[Q2w hr];refine⟨(h.name hr).1,?_⟩;rw[h.self hr];omega
theorem POk.line(h:POk F)(hr:F[i]? =some r):LOk F r:=
 ⟨h.fok i r hr,(h.name hr).1,fun x hx=>(h.find hx).1,fun hk=>Qea (by
  have:=h.use i (List.getElem?_eq_some_iff.1 hr).1
  rwa [Q0d hr] at this) hk⟩
end
end
section
variable {F:List Rl}{a b:List Bool}
theorem LeB.antisymm(h:LeB a b)(k:LeB b a):a=b:=Zy h.1 fun i hi=>by
 cases ha:a.getD i false with
 |true=>exact(h.2 i ha).symm
 |false=>
  cases hb:b.getD i false with
  |false=>rfl
  |true=>rw[k.2 i hb] at ha;cases ha
theorem LeB.of_false(n:Nat)(h:b.length=n):LeB (List.replicate n false) b:=⟨by rw[List.length_replicate,h],fun i hi=>by
 simp only[List.getD_eq_getElem?_getD,List.getElem?_replicate] at hi
 split at hi<;>simp at hi⟩
theorem Qbv(h:LeB a b){x:Int}(hx:mk a x=true):mk b x=true:=h.2 _ hx
theorem Q3W{r:Rl}(h:LeB a b)(ho:JR F a r=true):JR F b r=true:=by
 unfold JR at ho ⊢;by_cases h10:r.kind=10
 ·rw[if_pos h10] at ho ⊢;exact Qbv h ho
 rw[if_neg h10] at ho ⊢;by_cases h6:r.kind=6
 ·rw[if_pos h6] at ho ⊢;rw[Bool.and_eq_true,Bool.or_eq_true] at ho ⊢;exact⟨Qbv h ho.1,ho.2.imp id (Qbv h)⟩
 rw[if_neg h6] at ho ⊢;by_cases h7:r.kind=7
 ·rw[if_pos h7] at ho ⊢;rw[Bool.not_eq_true',List.any_eq_false] at ho ⊢;intro x hx hb;refine ho x hx ?_;rw[Bool.not_eq_true'] at hb ⊢
  cases e:mk a x with
  |false=>rfl
  |true=>rw[Qbv h e] at hb;cases hb
 rw[if_neg h7] at ho ⊢;by_cases h8:r.kind=8
 ·rw[if_pos h8] at ho ⊢;rw[List.any_eq_true] at ho ⊢;obtain⟨x,hx,hb⟩:=ho;exact⟨x,hx,Qbv h hb⟩
 ·rw[if_neg h8]
def KL(F:List Rl)(out:List Bool):List Bool:=F.map (JR F out)
def VD(F:List Rl)(t:Nat):List Bool:=iter (KL F) t (List.replicate F.length false)
theorem Q1a(F:List Rl)(out:List Bool):(KL F out).length=F.length:=by unfold KL;rw[List.length_map]
theorem Jx(F:List Rl):∀t,(VD F t).length=F.length
 |0=>List.length_replicate
 |t+1=>Q1a F _
theorem Q0Q(F:List Rl)(out:List Bool)(i:Nat):(KL F out).getD i false=match F[i]? with|some r=>JR F out r|none=>false:=by
 unfold KL;rw[List.getD_eq_getElem?_getD,List.getElem?_map];cases F[i]?<;>rfl
theorem Q6l(h:LeB a b):LeB (KL F a) (KL F b):=⟨by rw[Q1a,Q1a],fun i hi=>by
 rw[Q0Q] at hi ⊢
 cases hr:F[i]? with
 |none=>rw[hr] at hi;cases hi
 |some r=>rw[hr] at hi;exact Q3W h hi⟩
theorem Qhg(F:List Rl):∀t,LeB (VD F t) (VD F (t+1))
 |0=>LeB.of_false _ (Jx F 1)
 |t+1=>Q6l (Qhg F t)
theorem Q9q(F:List Rl):VD F (F.length+1)=VD F F.length:=by
 refine Zy (by rw[Jx,Jx]) fun i hi=>?_;rw[Jx] at hi;exact Q4K (n:=F.length) (s:=fun t i=>(VD F t).getD i false) (fun t i _=>(Qhg F t).2 i)
  (fun t ht i hi=>by
   have e:VD F (t+1)=VD F t:=Zy (by rw[Jx,Jx]) fun j hj=>ht j (by rw[Jx] at hj;exact hj)
   show (KL F (VD F (t+1))).getD i false=(VD F (t+1)).getD i false
   rw[e]
   show (VD F (t+1)).getD i false=_
   rw[e]) i hi
theorem Q8d(F:List Rl):∀k,VD F (F.length+k)=VD F F.length
 |0=>rfl
 |k+1=>by
  show KL F (VD F (F.length+k))=_
  rw[Q8d F k];exact Q9q F
theorem Q5K(F:List Rl)(out:List Bool)(k:Nat):LeB out (Z5 F out k):=LeB.set out k _ fun h=>by rw[h];rfl
theorem Q4P(F:List Rl)(out:List Bool):LeB out (Zs F out):=Vf (Q5K F) _ _
theorem ZK(F:List Rl):(Zg F).length=F.length:=by
 have:=(Q0X (Q4P F) Q8b F.length).1;exact Qg0
theorem Qjj(F:List Rl):Zs F (Zg F)=Zg F:=by
 have:=Q0S (Q4P F) Q8b;rw[List.length_replicate] at this;exact this
theorem Qcu(F:List Rl):LeB (KL F (Zg F)) (Zg F):=⟨by rw[Q1a,ZK],fun i hi=>by
 rw[Q0Q] at hi
 cases hr:F[i]? with
 |none=>rw[hr] at hi;cases hi
 |some r=>
  rw[hr] at hi;have hin:i<F.length:=(List.getElem?_eq_some_iff.1 hr).1;obtain⟨a',h1,h2⟩:=VL (Q5K F) (List.range F.length) (Zg F) i (List.mem_range.2 hin)
  have h3:(Z5 F a' i).getD i false=true:=by
   unfold Z5
   rw[XB _ _ _ _ (by rw[<- h1.1,ZK];exact hin),if_pos rfl,hr]
   show (_||JR F a' r)=true
   rw[Q3W h1 hi,Bool.or_true]
  have h4:=h2.2 i h3;have h5:(Zs F (Zg F)).getD i false=true:=h4
  rwa [Qjj] at h5⟩
theorem QgJ(F:List Rl):∀t,LeB (VD F t) (Zg F)
 |0=>LeB.of_false _ (ZK F)
 |t+1=>(Q6l (QgJ F t)).trans (Qcu F)
theorem Qqz(F:List Rl):LeB (Zg F) (VD F F.length):=by
 refine Q2C (f:=Zs F) (p:=fun out=>LeB out (VD F F.length)) (fun a ha=>Q11 (p:=fun out=>LeB out (VD F F.length)) (fun out k ho=>?_) _ _ ha) (a:=List.replicate F.length false) (LeB.of_false _ (Jx F _)) F.length;refine⟨by rw[<- ho.1];unfold Z5;rw[List.length_set],fun i hi=>?_⟩;unfold Z5 at hi;by_cases hk:k<out.length
 ·rw[XB _ _ _ _ hk] at hi
  split at hi
  ·next e=>
   subst e;rw[Bool.or_eq_true] at hi;rcases hi with hi|hi
   ·exact ho.2 _ hi
   ·have h1:(KL F (VD F F.length)).getD i false=true:=by
     rw[Q0Q];cases hr:F[i]? with
     |none=>rw[hr] at hi;cases hi
     |some r=>rw[hr] at hi;exact Q3W ho hi
    have h2:(VD F (F.length+1)).getD i false=true:=h1;rwa [Q9q] at h2
  ·exact ho.2 _ hi
 ·rw[List.set_eq_of_length_le Q3] at hi;exact ho.2 _ hi
theorem QuU(F:List Rl)(k:Nat):VD F (F.length+k)=Zg F:=by
 rw[Q8d];exact(QgJ F _).antisymm (Qqz F)
end
def VN(n:Int):Int:=if 1001<n then 1001 else n
theorem Q3l(n:Int)(w:World):Calls Tryz.prog 106 #[.int .i64 n] w fun e w'=>e=.returned (.int .i64 (VN n))/\w=w':=by
 by_cases h:1001<n
 ·have he:=Q2 (show VN n=1001 by unfold VN;rw[if_pos h]);rw[he.out]
  go_enter Tryz.func106,Tryz.ntmps106;go_wp2_with fail
  exact JI
 ·have he:=Q2 (show VN n=n by unfold VN;rw[if_neg h]);rw[he.out]
  go_enter Tryz.func106,Tryz.ntmps106;go_wp2_with fail
  exact JI
def Jw(k mn:Int):Int:=if k=2 then VN mn else 0
theorem QaU{a0 a2 a3 a4 a6 a7 a8 a9 a10 a11:Value}(k mn:Int)(w:World):
  Calls Tryz.prog 105 #[.agg #[a0,.int .i64 k,a2,a3,a4,.int .i64 mn,a6,a7,a8,a9,a10,a11]] w fun e w'=>e=.returned (.int .i64 (Jw k mn))/\Below w.heap.size w w':=by
 by_cases h:k=2
 ·subst h
  go_enter Tryz.func105,Tryz.ntmps105;go_wp2_with (go_at_call 106;refine(Q3l _ _).mono ?_;rintro e w' ⟨rfl,rfl⟩)
  exact Q1Z
 ·have hk:(k==2)=false:=by simpa using h
  have he:=Q2 (show Jw k mn=0 by unfold Jw;rw[if_neg h]);rw[he.out];clear h;go_enter Tryz.func105,Tryz.ntmps105;go_wp2_with fail
  exact Q1Z
def Qwm(n:Nat)(o k:Value):Prop:=∃i:Nat,i<=n/\k=.int .i64 (i:Int)/\o=.int .i64 ((256:Int) ^ i)
theorem Qmp{i n:Nat}(hi:i<n)(hn:n<=4):IntKind.i64.wrap ((256:Int) ^ i*256)=(256:Int) ^ (i+1):=by
 rcases (show i=0\/i=1\/i=2\/i=3 by omega) with rfl|rfl|rfl|rfl<;>exact IntWalk.i64_in _ Q3
theorem Qby(n:Nat)(hn:n<=4)(w:World):Calls Tryz.prog 104 #[.int .i64 (n:Int)] w fun e w'=>e=.returned (.int .i64 ((256:Int) ^ n))/\w=w':=by
 go_enter Tryz.func104,Tryz.ntmps104;go_wp2_with fail
 go_loop [3,4] (Qwm n) (fun _ k=>n - (intOf k).toNat)
 case atStart=>exact⟨0,Nat.zero_le _,rfl,rfl⟩
 case round=>
  obtain⟨i,hi,rfl,rfl⟩:=hrel;by_cases hlt:i<n
  ·have hw:=Qmp hlt hn
   have hli:(i:Int)<(n:Int):=by omega
   obtain⟨P,hP⟩:∃P,(256:Int) ^ i=P:=⟨_,rfl⟩;obtain⟨P2,hP2⟩:∃P,(256:Int) ^ (i+1)=P:=⟨_,rfl⟩;rw[hP,hP2] at hw;rw[hP];have HP2:=Q2 hP2;clear hP hP2;go_wp2_with fail
   go_round
   case rel=>exact⟨i+1,by omega,by go_num,by rw[HP2.out]⟩
   case measure=>simp [intOf];omega
  ·have he:=Q2 (show i=n by omega)
   go_wp2_with fail
   go_ret;exact⟨by rw[<- he.out];rfl,rfl⟩
section
variable {i n:Nat}{old:List Int}{r:Rl}{x:Int}
def lk(old:List Int)(x:Int):Int:=old.getD x.toNat 0
def Kl(F:List Rl)(x:Int):Int:=match F[x.toNat]? with|some r=>Jw r.kind r.mn|none=>0
def Q37(old:List Int):Int->List Int->Int
 |n,[]=>n
 |n,x::l=>Q37 old (if 0<=(if lk old x<0 then -1 else n) then VN ((if lk old x<0 then -1 else n)+lk old x) else (if lk old x<0 then -1 else n)) l
def Q5v(old:List Int):Int->List Int->Int
 |n,[]=>n
 |n,x::l=>Q5v old (if 0<=lk old x/\(n<0\/lk old x<n) then lk old x else n) l
def Yx(F:List Rl)(old:List Int)(r:Rl):Int:=
 if r.kind=1 then (r.bs.length:Int)
 else if r.kind=2\/r.kind=4 then r.size
 else if r.kind=3 then 2
 else if r.kind=5\/r.kind=9 then 1
 else if r.kind=6 then (if 0<=lk old r.count/\Kl F r.count=0 then lk old r.count else if 0<=lk old r.count/\0<=lk old r.elem then VN (lk old r.count+Kl F r.count*lk old r.elem) else -1)
 else if r.kind=10 then (if 0<=lk old r.count then VN (lk old r.count+Kl F r.count) else -1)
 else if r.kind=7 then Q37 old 0 r.parts
 else if r.kind=8 then Q5v old (-1) r.parts
 else -1
def VP(F:List Rl)(old:List Int):List Int:=F.map (Yx F old)
def V5(F:List Rl)(t:Nat):List Int:=iter (VP F) t (List.replicate F.length (-1))
def JZ(F:List Rl):List Int:=V5 F (2*F.length+1)
def QvN(out:List Int)(l:List Int):Int:=l.foldl (fun s x=>s+lk out x) 0
def Qwn(out:List Int)(l:List Int):Int:=l.foldl (fun s x=>min s (lk out x)) 1001
def Q5N(F:List Rl)(out:List Int)(r:Rl):Int:=
 if r.kind=1 then (r.bs.length:Int)
 else if r.kind=2\/r.kind=4 then r.size
 else if r.kind=3 then 2
 else if r.kind=10 then lk out r.count+QaA F r.count
 else if r.kind=6 then lk out r.count+QaA F r.count*lk out r.elem
 else if r.kind=7 then QvN out r.parts
 else if r.kind=8 then Qwn out r.parts
 else 1
structure Q3g(F:List Rl)(a:List Int):Prop where
 len:a.length=F.length
 eq:∀(i:Nat) (r:Rl),F[i]? =some r->a.getD i 0=min (Q5N F a r) 1001
 nn:∀i:Nat,0<=a.getD i 0
structure Usd(F:List Rl):Prop where
 ok:FOk F
 use:∀(i:Nat) (r:Rl),F[i]? =some r->(r.kind=6\/r.kind=10)->∃c,F[r.count.toNat]? =some c/\(c.kind=2\/c.kind=3)
structure Vld(F:List Rl):Prop extends Usd F where
 cyc:∀i,i<F.length->¬Rch F i i
 fin:∀i,i<F.length->(Zg F).getD i false=true
theorem Qqk(n:Int):VN n<=1001:=by unfold VN;split<;>omega
theorem Vd(n:Int):VN n=min n 1001:=by unfold VN;split<;>omega
theorem Q1X(F:List Rl)(old:List Int):(VP F old).length=F.length:=by unfold VP;rw[List.length_map]
theorem Jc(F:List Rl):∀t,(V5 F t).length=F.length
 |0=>List.length_replicate
 |t+1=>Q1X F _
theorem Q7y{F:List Rl}(h:F[i]? =some r)(old:List Int):(VP F old).getD i 0=Yx F old r:=by
 unfold VP;rw[List.getD_eq_getElem?_getD,List.getElem?_map,h];rfl
theorem Qfu{F:List Rl}(h:F[i]? =some r)(t:Nat):(V5 F (t+1)).getD i 0=Yx F (V5 F t) r:=Q7y h _
theorem Usd.least{F:List Rl}(hv:Usd F)(h:F[i]? =some r)(hk:r.kind=6\/r.kind=10):0<=QaA F r.count/\Kl F r.count=min (QaA F r.count) 1001:=by
 obtain⟨c,hc,h23⟩:=hv.use i r h hk;have hok:=hv.ok _ _ hc;rw[QgM hc];unfold Kl;rw[hc];show _/\Jw c.kind c.mn=_;unfold Jw;rcases h23 with h2|h3
 ·rw[if_pos h2,Vd];exact⟨(hok.num h2).2.2.1,rfl⟩
 ·rw[if_neg Q3];have hf:=hok.formed
  unfold X6 at hf;simp only[Bool.and_eq_true,Bool.or_eq_true,beq_iff_eq] at hf;have:=hf.1.1.1.1.1.2;have h0:c.mn=0:=by
   rcases this with h|h
   ·exact h.2
   ·omega
  rw[h0];exact⟨by omega,rfl⟩
section
variable {F:List Rl}
def sg(old:List Int):List Bool:=old.map fun n=>decide (0<=n)
theorem Q7k(hx:0<=x/\x<old.length):mk (sg old) x=decide (0<=lk old x):=by
 unfold mk sg lk;rw[List.getD_eq_getElem?_getD,List.getElem?_map,List.getD_eq_getElem?_getD];have:x.toNat<old.length:=by omega
 rw[List.getElem?_eq_getElem this];rfl
structure Rnd(F:List Rl)(a old:List Int):Prop where
 len:old.length=F.length
 up:∀j:Nat,j<F.length->old.getD j 0<0\/a.getD j 0<=old.getD j 0
 top:∀j:Nat,old.getD j 0<=1001
theorem QdF(old:List Int):∀(l:List Int) (n:Int),n<0->Q37 old n l<0
 |[],n,h=>h
 |x::l,n,h=>by
  unfold Q37
  refine QdF old l _ ?_
  split<;>split<;>omega
theorem Q94(old:List Int):∀(l:List Int) (n:Int),0<=n->((∀x∈l,0<=lk old x)↔0<=Q37 old n l)
 |[],n,h=>⟨fun _=>h,fun _=>by simp⟩
 |x::l,n,h=>by
  unfold Q37
  by_cases hx:lk old x<0
  ·rw[if_pos hx,if_neg Q3];refine⟨fun hl=>absurd (hl x List.mem_cons_self) Q3,fun hs=>?_⟩;have:=QdF old l (-1) Q3
   omega
  ·rw[if_neg hx,if_pos h]
   have hc:0<=VN (n+lk old x):=by rw[Vd];omega
   rw[<- Q94 old l _ hc]
   exact⟨fun hl y hy=>hl y Qne,fun hl y hy=>by
    rcases List.mem_cons.1 hy with rfl|hy
    ·omega
    ·exact hl y hy⟩
theorem Q9p(old:List Int):∀(l:List Int) (n:Int),(0<=n\/∃x∈l,0<=lk old x)↔0<=Q5v old n l
 |[],n=>⟨fun h=>h.elim id (fun⟨x,hx,_⟩=>absurd hx Qm),fun h=>.inl h⟩
 |x::l,n=>by
  unfold Q5v
  rw[<- Q9p old l]
  constructor
  ·rintro(h|⟨y,hy,h⟩)
   ·left;split<;>omega
   ·rcases List.mem_cons.1 hy with rfl|hy
    ·left
     split
     ·exact h
     ·next hn=>omega
    ·exact .inr ⟨y,hy,h⟩
  ·rintro(h|⟨y,hy,h⟩)
   ·split at h
    ·next hc=>exact .inr ⟨x,List.mem_cons_self,hc.1⟩
    ·exact .inl h
   ·exact .inr ⟨y,List.mem_cons_of_mem _ hy,h⟩
theorem Q3x(out:List Int):∀(l:List Int) (n:Int),l.foldl (fun s x=>min s (lk out x)) n=n\/∃x∈l,l.foldl (fun s x=>min s (lk out x)) n=lk out x
 |[],n=>.inl rfl
 |x::l,n=>by
  rw[List.foldl_cons]
  rcases Q3x out l (min n (lk out x)) with h|⟨y,hy,h⟩
  ·by_cases hc:n<=lk out x
   ·left;omega
   ·right;exact⟨x,List.mem_cons_self,by omega⟩
  ·exact .inr ⟨y,List.mem_cons_of_mem _ hy,h⟩
theorem Q3b(old a:List Int):∀(l:List Int) (n m:Int),m<=n->(∀x∈l,lk a x<=lk old x)->l.foldl (fun s x=>s+lk a x) m<=l.foldl (fun s x=>s+lk old x) n
 |[],n,m,h,_=>h
 |x::l,n,m,h,hl=>by
  rw[List.foldl_cons,List.foldl_cons]
  refine Q3b old a l _ _ ?_ fun y hy=>hl y (List.mem_cons_of_mem _ hy)
  have:=hl x List.mem_cons_self
  omega
theorem Q1M(a:List Int):∀(l:List Int) (n:Int),(∀x∈l,0<=lk a x)->n<=l.foldl (fun s x=>s+lk a x) n/\∀x∈l,n+lk a x<=l.foldl (fun s x=>s+lk a x) n
 |[],n,_=>⟨Int.le_refl _,fun x hx=>by cases hx⟩
 |x::l,n,hl=>by
  rw[List.foldl_cons]
  have h:=Q1M a l (n+lk a x) fun y hy=>hl y Qne
  have h0:=hl x List.mem_cons_self;refine⟨by omega,fun y hy=>?_⟩;rcases List.mem_cons.1 hy with rfl|hy
  ·omega
  ·have:=h.2 y hy;omega
end
section
variable {F:List Rl}{a:List Int}
theorem Q3g.top(h:Q3g F a)(i:Nat):a.getD i 0<=1001:=by
 by_cases hi:i<F.length
 ·rw[h.eq i F[i] (List.getElem?_eq_getElem hi)];omega
 ·rw[List.getD_eq_getElem?_getD,List.getElem?_eq_none (by rw[h.len];omega)];decide
noncomputable def rk(F:List Rl)(i:Nat):Nat:=by
 classical exact cnt (fun j=>decide (Rch F i j)) F.length
theorem QvC(hv:Vld F){j:Nat}(hj:j∈bg F i):rk F j<rk F i:=by
 classical
 have hjn:j<F.length:=hv.ok.bd i j hj;unfold rk;refine Q76 F.length (fun x _ hx=>?_) ⟨j,hjn,?_,?_⟩
 ·rw[decide_eq_true_eq] at hx ⊢;exact Rch.trans (.one hj) hx
 ·rw[decide_eq_false_iff_not];exact hv.cyc j hjn
 ·rw[decide_eq_true_eq];exact .one hj
theorem QvV(hr:F[i]? =some r)(hx:x∈bl r):x.toNat∈bg F i:=by
 rw[Q2X hr];exact List.mem_map_of_mem hx
theorem Qsl(h:Q3g F a)(x:Int):0<=lk a x:=h.nn _
theorem Q3g.pos(hv:Vld F)(h:Q3g F a):∀(m i:Nat),rk F i<m->i<F.length->1<=a.getD i 0
 |0,i,hm,_=>absurd hm Q3
 |m+1,i,hm,hi=>by
  have hr:F[i]? =some F[i]:=List.getElem?_eq_getElem hi;obtain⟨r,hrr⟩:∃r,r=F[i]:=⟨_,rfl⟩;rw[<- hrr] at hr;have hok:=hv.ok i r hr
  have hbeg:∀x∈bl r,1<=lk a x:=fun x hx=>by
   have hb:=QvV hr hx;exact Q3g.pos hv h m x.toNat (by have:=QvC hv hb;omega) (hv.ok.bd i _ hb)
  rw[h.eq i r hr];unfold Q5N;by_cases h1:r.kind=1
  ·rw[if_pos h1];have:=hok.bs1 h1;omega
  rw[if_neg h1];by_cases h2:r.kind=2\/r.kind=4
  ·rw[if_pos h2]
   rcases h2 with h2|h4
   ·have:=(hok.num h2).1;omega
   ·have:=(hok.size4 h4).1;omega
  rw[if_neg h2];by_cases h3:r.kind=3
  ·rw[if_pos h3];omega
  rw[if_neg h3];by_cases h10:r.kind=10
  ·rw[if_pos h10];have:=hbeg r.count (by unfold bl Xs;rw[if_pos (.inr h10)];exact List.mem_singleton.2 rfl);have:=(hv.least hr (.inr h10)).1
   omega
  rw[if_neg h10];by_cases h6:r.kind=6
  ·rw[if_pos h6];have:=hbeg r.count (by unfold bl Xs;rw[if_pos (.inl h6)];exact List.mem_singleton.2 rfl);have:=Int.mul_nonneg (hv.least hr (.inl h6)).1 (Qsl h r.elem)
   omega
  rw[if_neg h6];by_cases h7:r.kind=7
  ·rw[if_pos h7];have hne:=(hok.seven h7).2;obtain⟨x,hx⟩:∃x,r.parts[0]? =some x:=⟨_,List.getElem?_eq_getElem hne⟩
   have hxb:x∈bl r:=by
    unfold bl Xs;rw[if_neg Q3,if_pos h7];cases hp:r.parts with
    |nil=>rw[hp] at hx;cases hx
    |cons y l=>rw[hp] at hx;cases hx;exact List.mem_cons_self
   have h1':=hbeg x hxb;have:=(Q1M a r.parts 0 (fun y _=>Qsl h y)).2 x YS;unfold QvN;omega
  rw[if_neg h7];by_cases h8:r.kind=8
  ·rw[if_pos h8]
   unfold Qwn;rcases Q3x a r.parts 1001 with e|⟨x,hx,e⟩
   ·rw[e];omega
   ·rw[e];have:=hbeg x (by unfold bl Xs;rw[if_neg Q3,if_neg h7,if_pos h8];exact hx)
    omega
  rw[if_neg h8];omega
theorem Q3g.one(hv:Vld F)(h:Q3g F a)(hx:0<=x/\x<F.length):1<=lk a x:=Q3g.pos hv h (rk F x.toNat+1) _ Q3 Q3
theorem Usd.inn(hv:Usd F)(hr:F[i]? =some r)(hk:r.kind=7\/r.kind=8):∀x∈r.parts,0<=x/\x<F.length:=(hv.ok i r hr).parts hk
theorem Qqg(h:ROk n r):r.kind=1\/(r.kind=2\/r.kind=4)\/r.kind=3\/(r.kind=5\/r.kind=9)\/r.kind=6\/r.kind=10\/r.kind=7\/r.kind=8:=by
 have:=h.kind;omega
theorem QjZ(old:List Int)(h:r.kind=6):Yx F old r=if 0<=lk old r.count/\Kl F r.count=0 then lk old r.count else if 0<=lk old r.count/\0<=lk old r.elem then VN (lk old r.count+Kl F r.count*lk old r.elem) else -1:=by
 unfold Yx;exact Qro
theorem QgW(old:List Int)(h:r.kind=10):Yx F old r=if 0<=lk old r.count then VN (lk old r.count+Kl F r.count) else -1:=by
 unfold Yx;exact QmZ
theorem QmN(old:List Int)(h:r.kind=7):Yx F old r=Q37 old 0 r.parts:=by
 unfold Yx;exact QsX
theorem Qnr(old:List Int)(h:r.kind=8):Yx F old r=Q5v old (-1) r.parts:=by
 unfold Yx;rw[if_neg Q3,if_neg Q3,if_neg Q3,if_neg Q3,if_neg Q3,if_neg Q3,if_neg Q3,if_pos h]
theorem Qqj(old out:List Int)(ho:ROk n r)(h:r.kind=1\/(r.kind=2\/r.kind=4)\/r.kind=3\/(r.kind=5\/r.kind=9)):1<=Yx F old r/\Yx F old r<=1001/\Yx F old r=Q5N F out r:=by
 unfold Yx Q5N;rcases h with h|h|h|h
 ·rw[if_pos h,if_pos h];have:=ho.bs1 h;have:=ho.bs16;omega
 ·rw[if_neg Q3,if_pos h,if_neg Q3,if_pos h]
  rcases h with h2|h4
  ·have:=ho.num h2;omega
  ·have:=ho.size4 h4;omega
 ·rw[if_neg Q3,if_neg Q3,if_pos h,if_neg Q3,if_neg Q3,if_pos h];omega
 ·rw[if_neg Q3,if_neg Q3,if_neg Q3,if_pos h,if_neg Q3,if_neg Q3,if_neg Q3,if_neg Q3,if_neg Q3,if_neg Q3,if_neg Q3];omega
theorem QuG(hv:Usd F)(hl:old.length=F.length)(hr:F[i]? =some r):JR F (sg old) r=decide (0<=Yx F old r):=by
 have hok:=hv.ok i r hr;rcases (by have:=Qqg hok;omega:(r.kind=1\/(r.kind=2\/r.kind=4)\/r.kind=3\/(r.kind=5\/r.kind=9))\/r.kind=6\/r.kind=10\/r.kind=7\/r.kind=8) with hk|h6|h10|h7|h8
 ·have:=Qqj (F:=F) old old hok hk;rw[decide_eq_true Q3]
  unfold JR;rw[if_neg Q3,if_neg Q3,if_neg Q3,if_neg Q3]
 ·have hc:=hok.count (.inl h6);have he:=hok.elem (.inl h6);have hln:=hv.least hr (.inl h6)
  unfold JR;rw[if_neg Q3,if_pos h6,Q7k Q3,Q7k Q3,QjZ old h6];by_cases hz:QaA F r.count=0
  ·have hz':Kl F r.count=0:=by omega
   rw[hz,hz'];by_cases hp:0<=lk old r.count
   ·rw[if_pos ⟨hp,rfl⟩];simp [hp]
   ·rw[if_neg (fun h=>hp h.1),if_neg (fun h=>hp h.1)];simp [hp]
  ·have hz':¬Kl F r.count=0:=by omega
   rw[if_neg (fun h=>hz' h.2)];by_cases hp:0<=lk old r.count/\0<=lk old r.elem
   ·rw[if_pos hp];have h1:=Int.mul_nonneg (show 0<=Kl F r.count by omega) hp.2
    have:0<=VN (lk old r.count+Kl F r.count*lk old r.elem):=by rw[Vd];omega
    simp [hp.1,hp.2,this]
   ·rw[if_neg hp]
    by_cases hq:0<=lk old r.count
    ·have:¬0<=lk old r.elem:=fun h=>hp ⟨hq,h⟩
     simp [this,hz]
    ·simp [hq]
 ·have hc:=hok.count (.inr h10);have hln:=hv.least hr (.inr h10)
  unfold JR;rw[if_pos h10,Q7k Q3,QgW old h10];by_cases hp:0<=lk old r.count
  ·rw[if_pos hp]
   have:0<=VN (lk old r.count+Kl F r.count):=by rw[Vd];omega
   simp [hp,this]
  ·rw[if_neg hp];simp [hp]
 ·have hin:=hv.inn hr (.inl h7)
  unfold JR;rw[if_neg Q3,if_neg Q3,if_pos h7,QmN old h7];have hs:=Q94 old r.parts 0 Q3;by_cases hall:∀x∈r.parts,0<=lk old x
  ·rw[decide_eq_true (hs.1 hall),Bool.not_eq_true',List.any_eq_false];intro x hx;rw[Q7k (by have:=hin x hx;omega)]
   simp [hall x hx]
  ·rw[decide_eq_false (fun h=>hall (hs.2 h)),Bool.not_eq_false',List.any_eq_true]
   refine Classical.byContradiction fun hn=>hall fun x hx=>?_;refine Classical.byContradiction fun hx0=>hn ⟨x,hx,?_⟩;rw[Q7k (by have:=hin x hx;omega)];simp [hx0]
 ·have hin:=hv.inn hr (.inr h8)
  unfold JR;rw[if_neg Q3,if_neg Q3,if_neg Q3,if_pos h8,Qnr old h8];have hs:=Q9p old r.parts (-1);by_cases hex:∃x∈r.parts,0<=lk old x
  ·rw[decide_eq_true (hs.1 (.inr hex)),List.any_eq_true];obtain⟨x,hx,h0⟩:=hex;exact⟨x,hx,by rw[Q7k (by have:=hin x hx;omega)];simp [h0]⟩
  ·rw[decide_eq_false (fun h=>(hs.2 h).elim Q3 hex),List.any_eq_false];intro x hx;rw[Q7k (by have:=hin x hx;omega)]
   simp only[decide_eq_true_eq];exact fun h=>hex ⟨x,hx,h⟩
end
end
section
variable {i:Nat}
section
variable {F:List Rl}{a:List Int}
theorem Qop(n:Nat):sg (List.replicate n (-1))=List.replicate n false:=by
 unfold sg;rw[List.map_replicate];rfl
theorem Qna(old:List Int):(sg old).length=old.length:=by unfold sg;rw[List.length_map]
theorem QkT(old:List Int)(hi:i<old.length):(sg old).getD i false=decide (0<=old.getD i 0):=by
 unfold sg;rw[List.getD_eq_getElem?_getD,List.getElem?_map,List.getD_eq_getElem?_getD,List.getElem?_eq_getElem hi];rfl
theorem Q8a(hv:Usd F):∀t,sg (V5 F t)=VD F t
 |0=>Qop _
 |t+1=>by
  refine Zy (by rw[Qna,Jc,Jx]) fun i hi=>?_
  rw[Qna,Jc] at hi;have hr:F[i]? =some F[i]:=List.getElem?_eq_getElem hi;rw[QkT _ (by rw[Jc];exact hi),Qfu hr]
  show _=(KL F (VD F t)).getD i false;rw[Q0Q,hr];show _=JR F (VD F t) _;rw[<- Q8a hv t,QuG hv (Jc F t) hr]
theorem QeX(hv:Usd F)(hi:i<F.length):decide (0<=(JZ F).getD i 0)=(Zg F).getD i false:=by
 unfold JZ;rw[<- QkT _ (by rw[Jc];exact hi),Q8a hv,show 2*F.length+1=F.length+(F.length+1) by omega,QuU]
end
end
section
variable {F:List Rl}{b k:Nat}
def col(c:Nat)(S:List (Nat->Bool)):List Bool:=S.map fun s=>s c
theorem Q5A(c:Nat)(S:List (Nat->Bool))(k:Nat):(col c S).getD k false=(S.getD k Xu) c:=by
 unfold col;rw[List.getD_eq_getElem?_getD,List.getElem?_map,List.getD_eq_getElem?_getD];cases S[k]?<;>rfl
def Qd5(b:List Bool)(k i:Nat):List Bool:=b.set k (b.getD k false||b.getD i false)
theorem Qpi(c:Nat)(S:List (Nat->Bool))(k i:Nat):col c (Vo S k i)=Qd5 (col c S) k i:=by
 unfold Vo Qd5;rw[Q5A,Q5A];unfold col;rw[List.map_set];rfl
def Qkm(F:List Rl)(b:List Bool)(k:Nat):List Bool:=(bg F k).foldl (fun b i=>Qd5 b k i) b
def Yn(F:List Rl)(b:List Bool):List Bool:=(List.range F.length).foldl (Qkm F) b
theorem Q6O{α:Type}(c:Nat){f:List (Nat->Bool)->α->List (Nat->Bool)}{g:List Bool->α->List Bool}(h:∀S x,col c (f S x)=g (col c S) x):∀(l:List α) (S:List (Nat->Bool)),col c (l.foldl f S)=l.foldl g (col c S)
 |[],S=>rfl
 |x::l,S=>by rw[List.foldl_cons,List.foldl_cons,Q6O c h l,h]
theorem QoJ(F:List Rl)(c:Nat)(S:List (Nat->Bool))(k:Nat):col c (Yd F S k)=Qkm F (col c S) k:=Q6O c (fun S i=>Qpi c S k i) _ S
theorem Qic(F:List Rl)(c:Nat)(S:List (Nat->Bool)):col c (J8 F S)=Yn F (col c S):=Q6O c (QoJ F c) _ S
theorem Qdm(F:List Rl)(c:Nat)(S:List (Nat->Bool)):∀t,col c (iter (J8 F) t S)=iter (Yn F) t (col c S)
 |0=>rfl
 |t+1=>by
  show col c (J8 F _)=Yn F _
  rw[Qic,Qdm F c S t]
theorem QhU(b:List Bool)(k i:Nat):LeB b (Qd5 b k i):=LeB.set b k _ fun h=>by rw[h];rfl
theorem Qcb(F:List Rl)(b:List Bool)(k:Nat):LeB b (Qkm F b k):=Vf (fun b i=>QhU b k i) _ _
theorem Q9f(F:List Rl)(b:List Bool):LeB b (Yn F b):=Vf (Qcb F) _ _
theorem Q1C{α β:Type}{f:α->β->α}{p:α->Prop}:∀(l:List β),(∀a,∀b∈l,p a->p (f a b))->∀a,p a->p (l.foldl f a)
 |[],_,a,ha=>ha
 |b::l,h,a,ha=>Q1C l (fun a x hx=>h a x (List.mem_cons_of_mem _ hx)) (f a b) (h a b List.mem_cons_self ha)
def Q0j(F:List Rl)(k c:Nat):Bool:=match F[k]? with|some r=>Ko r c|none=>false
theorem Qpw(F:List Rl)(c k:Nat):(col c (F.map Ko)).getD k false=Q0j F k c:=by
 rw[Q5A,List.getD_eq_getElem?_getD,List.getElem?_map];unfold Q0j;cases F[k]?<;>rfl
theorem QdO(hb:Bd F)(hk:k<F.length)(c:Nat):(V4 F).getD k Xu c=true↔∃j,(j=k\/Rch F k j)/\Q0j F j c=true:=by
 rw[<- Q5A];unfold V4;rw[Qdm];obtain⟨B,hB⟩:∃B,B=col c (F.map Ko):=⟨_,rfl⟩;have hBl:B.length=F.length:=by rw[hB];unfold col;rw[List.length_map,List.length_map]
 have hown:∀j:Nat,B.getD j false=Q0j F j c:=fun j=>by rw[hB];exact Qpw F c j
 rw[<- hB];constructor
 ·intro h;refine Q2C (f:=Yn F) (p:=fun b:List Bool=>∀k:Nat,b.getD k false=true->∃j,(j=k\/Rch F k j)/\Q0j F j c=true) (fun b hb'=>Q11 (p:=fun b:List Bool=>∀k:Nat,b.getD k false=true->∃j,(j=k\/Rch F k j)/\Q0j F j c=true) (fun b k hb'=>?_) _ _ hb') (a:=B) (fun k hk=>⟨k,.inl rfl,by rw[<- hown];exact hk⟩) F.length k h;refine Q1C (p:=fun b:List Bool=>∀k:Nat,b.getD k false=true->∃j,(j=k\/Rch F k j)/\Q0j F j c=true) (bg F k) (fun b i hi hb' k' hk'=>?_) b hb'
  unfold Qd5 at hk';by_cases hkl:k<b.length
  ·rw[XB _ _ _ _ hkl] at hk'
   split at hk'
   ·next e=>
    subst e;rw[Bool.or_eq_true] at hk';rcases hk' with h1|h1
    ·exact hb' _ h1
    ·obtain⟨j,hj,ho⟩:=hb' _ h1;refine⟨j,.inr ?_,ho⟩
     rcases hj with rfl|hj
     ·exact .one hi
     ·exact Rch.trans (.one hi) hj
   ·exact hb' _ hk'
  ·rw[List.set_eq_of_length_le Q3] at hk';exact hb' _ hk'
 ·have hrest:Yn F (iter (Yn F) F.length B)=iter (Yn F) F.length B:=by
   have:=Q0S (Q9f F) B;rwa [hBl] at this
  obtain⟨R,hR⟩:∃R,R=iter (Yn F) F.length B:=⟨_,rfl⟩;have hle:LeB B R:=by rw[hR];exact Q0X (Q9f F) B _
  rw[<- hR] at hrest ⊢;have hclosed:∀k i:Nat,k<F.length->i∈bg F k->R.getD i false=true->R.getD k false=true:=by
   intro k i hk hi h;obtain⟨a',h1,h2⟩:=VL (Qcb F) (List.range F.length) R k (List.mem_range.2 hk);obtain⟨a'',h3,h4⟩:=VL (f:=fun b i=>Qd5 b k i) (fun b i=>QhU b k i) (bg F k) a' i hi;have h5:(Qd5 a'' k i).getD k false=true:=by
    unfold Qd5;rw[XB _ _ _ _ (by rw[<- h3.1,<- h1.1,<- hle.1,hBl];exact hk),if_pos rfl,h3.2 i (h1.2 i h),Bool.or_true]
   have h6:=h2.2 k (h4.2 k h5);have h7:(Yn F R).getD k false=true:=h6;rwa [hrest] at h7
  rintro⟨j,hj,ho⟩;have hjR:R.getD j false=true:=hle.2 j (by rw[hown];exact ho);rcases hj with rfl|hj
  ·exact hjR
  ·have hall:∀j,Rch F k j->R.getD j false=true->R.getD k false=true:=by
    intro j hj;induction hj with
    |one h=>exact hclosed _ _ hk h
    |more h hm ih=>exact fun hx=>ih (hclosed _ _ (h.lt hb) hm hx)
   exact hall j hj hjR
def VH(r:Rl)(b:Int):Bool:=
 if r.kind=1 then ((r.bs.headD 0).toNat:Int)==b
 else if r.kind=2/\r.big=true then decide (r.mn / 256 ^ (r.size - 1).toNat<=b)&&decide (b<=r.mx / 256 ^ (r.size - 1).toNat)
 else if r.kind=2 then decide ((if r.mn - r.mn % 256+b<r.mn then r.mn - r.mn % 256+b+256 else r.mn - r.mn % 256+b)<=r.mx)
 else if r.kind=3 then inB b 48 57&&decide (b - 48<=r.mx)
 else if r.kind=5 then decide (0<r.size)||b==r.stop
 else if r.kind=9 then b==r.stop
 else r.kind==4
theorem Q0f(lo hi:Int)(j:Nat):Ze noS lo hi j=decide (lo+((j:Int) - lo) % 256<=hi):=by
 unfold Ze noS;rw[Bool.false_or]
theorem Qa6{n:Nat}{r:Rl}(h:ROk n r)(hb:b<256):Ko r b=VH r (b:Int):=by
 obtain⟨name,kind,bs,size,big,mn,mx,stop,count,elem,names,parts⟩:=r;have hk:=h.kind;have h2:=h.num;have h3:=h.dec;have h5:=h.size5;have hs:=h.stop;unfold Ko Q2m VH;simp only at hk h2 h3 h5 hs ⊢;clear h;rcases (show kind=1\/kind=2\/kind=3\/kind=4\/kind=5\/kind=6\/kind=7\/kind=8\/kind=9\/kind=10 by omega) with rfl|rfl|rfl|rfl|rfl|rfl|rfl|rfl|rfl|rfl
 ·show (b==(bs.headD 0).toNat)=(((bs.headD 0).toNat:Int)==(b:Int))
  rw[Bool.eq_iff_iff,beq_iff_eq,beq_iff_eq];omega
 ·obtain⟨a1,a2,a3,a4,a5⟩:=h2 rfl
  cases big with
  |true=>
   show Ze noS (mn / 2 ^ (8*(size - 1)).toNat) (mx / 2 ^ (8*(size - 1)).toNat) b=(decide (mn / 256 ^ (size - 1).toNat<=(b:Int))&&decide ((b:Int)<=mx / 256 ^ (size - 1).toNat));rw[Q0f];rcases (show size=1\/size=2\/size=3\/size=4 by omega) with rfl|rfl|rfl|rfl<;>
   ·simp at a5 ⊢
    exact QkL
  |false=>
   show Ze noS mn (min mx (mn+256 - 1)) b=decide ((if mn - mn % 256+(b:Int)<mn then mn - mn % 256+b+256 else mn - mn % 256+b)<=mx);rw[Q0f];rw[Bool.eq_iff_iff,decide_eq_true_eq,decide_eq_true_eq];clear a5 h2 h3 h5 hs;split<;>omega
 ·obtain⟨a1,a2,a3⟩:=h3 rfl
  show Ze noS 48 (48+min mx 9) b=(inB (b:Int) 48 57&&decide ((b:Int) - 48<=mx));rw[Q0f];unfold inB;exact QkL
 ·show Ze noS 0 255 b=true
  rw[Q0f,decide_eq_true_eq];omega
 ·show (if 0<size then Ze noS 0 255 else fun j=>decide ((j:Int)=stop)) b=(decide (0<size)||((b:Int)==stop))
  split
  ·next h0=>
   rw[Q0f,Bool.eq_iff_iff];simp only[Bool.or_eq_true,decide_eq_true_eq,beq_iff_eq];omega
  ·next h0=>
   rw[Bool.eq_iff_iff];simp only[Bool.or_eq_true,decide_eq_true_eq,beq_iff_eq];omega
 ·rfl
 ·rfl
 ·rfl
 ·show decide ((b:Int)=stop)=((b:Int)==stop)
  rw[Bool.eq_iff_iff,decide_eq_true_eq,beq_iff_eq]
 ·rfl
def QmL(F:List Rl)(k b:Nat):Bool:=(List.range F.length).any fun i=>((XD F k).set k true).getD i false&&(match F[i]? with|some r=>VH r (b:Int)|none=>false)
theorem Qj6(hF:FOk F)(hk:k<F.length)(hb:b<256):QmL F k b=(V4 F).getD k Xu b:=by
 rw[Bool.eq_iff_iff,QdO hF.bd hk];unfold QmL;rw[List.any_eq_true];have hset:∀i:Nat,((XD F k).set k true).getD i false=true↔(i=k\/Rch F k i):=fun i=>by
  rw[XB _ _ _ _ (by rw[VT];exact hk)];split
  ·next e=>exact⟨fun _=>.inl e,fun _=>rfl⟩
  ·next e=>rw[ZN hF.bd hk];exact⟨.inr,fun h=>h.resolve_left e⟩
 constructor
 ·rintro⟨i,hi,h⟩
  rw[Bool.and_eq_true,hset] at h;refine⟨i,h.1,?_⟩;unfold Q0j;have h2:=h.2;cases hr:F[i]? with
  |none=>rw[hr] at h2;cases h2
  |some r=>rw[hr] at h2;rw[<- h2];exact Qa6 (hF i r hr) hb
 ·rintro⟨j,hj,ho⟩
  have hjn:j<F.length:=by
   rcases hj with rfl|hj
   ·exact hk
   ·exact hj.lt hF.bd
  refine⟨j,List.mem_range.2 hjn,?_⟩;rw[Bool.and_eq_true,hset];refine⟨hj,?_⟩;unfold Q0j at ho;cases hr:F[j]? with
  |none=>rw[hr] at ho;cases ho
  |some r=>rw[hr] at ho;rw[<- ho];exact(Qa6 (hF j r hr) hb).symm
end
section
variable {F:List Rl}
theorem QfY{r:Rl}(h:J2 F r=0)(hk:r.kind=6\/r.kind=10):Q1Q F r.count=2\/Q1Q F r.count=3:=by
 unfold J2 at h;split at h
 ·cases h
 ·next h1=>
  have hu:Qy r.kind=true:=by rcases hk with e|e<;>rw[e]<;>rfl
  rw[hu,Bool.true_and,Bool.not_eq_true',Bool.not_eq_false] at h1;unfold Z0 XF at h1;simpa using h1
theorem QmB(h:POk F):Usd F:=⟨h.fok,fun i r hr hk=>by
 have hi:i<F.length:=(List.getElem?_eq_some_iff.1 hr).1;have hu:=h.use i hi;rw[Q0d hr] at hu;have hc:=(h.fok i r hr).count hk;have hg:F[r.count.toNat]? =some F[r.count.toNat]:=List.getElem?_eq_getElem Q3;have:=QfY hu hk;rw[VJ hg] at this
 exact⟨_,hg,this⟩⟩
theorem QuO(h:Xa F=(0,0)):Vld F:=by
 have hp:=Q6Q h;have hu:=QmB hp;unfold Xa at h;split at h
 ·cases h
 split at h
 ·cases h
 rw[Xl (fun j hj=>by simpa using hp.rule j hj)] at h;simp only at h;rw[Xl (fun j hj=>by simpa using hp.use j hj)] at h;simp only at h;cases h3:Xh F.length (Q1c F) with
 |some k=>rw[h3] at h;simp only[Prod.mk.injEq] at h;exact Q6e
 |none=>
  rw[h3] at h;simp only at h;cases h4:Xh F.length (fun k=>!((Zg F).getD k false)) with
  |some k=>rw[h4] at h;simp only[Prod.mk.injEq] at h;exact Q6e
  |none=>
   refine⟨hu,fun i hi hr=>?_,fun i hi=>by simpa using K9 h4 i hi⟩;have:=K9 h3 i hi;rw[(Q36 hu.ok.bd hi).2 hr] at this;cases this
theorem Qep(h:Xa F=(0,0)):0<F.length/\F.length<=40:=by
 unfold Xa at h;split at h
 ·cases h
 split at h
 ·cases h
 omega
end
abbrev Rdg(α:Type):Type:=Option (Except Nat α)
def rb{α β:Type}(x:Rdg α)(g:α->Rdg β):Rdg β:=match x with|none=>none|some (.error e)=>some (.error e)|some (.ok a)=>g a
def okR{α:Type}(a:α):Rdg α:=some (.ok a)
def erR{α:Type}(e:Nat):Rdg α:=some (.error e)
abbrev ndN(n:Int):Nd:=⟨1,n,[],[]⟩
abbrev ndB(bs:List UInt8):Nd:=⟨2,0,bs,[]⟩
abbrev ndL:Nd:=⟨3,0,[],[]⟩
abbrev ndR(ns:List (List UInt8)):Nd:=⟨4,0,[],ns⟩
def JM(stop mx:Int):List UInt8->Bool->Int->Nat->Rdg (Int×Nat)
 |[],_,_,p=>erR p
 |c::l,later,n,p=>
  if (later&&decide ((c.toNat:Int)=stop))=true then okR (n,p+1)
  else if (!(decide (48<=c.toNat/\c.toNat<=57))||(later&&decide (n=0))||decide (mx<10*n+((c.toNat:Int) - 48)))=true then erR p
  else JM stop mx l true (10*n+((c.toNat:Int) - 48)) (p+1)
def leN:List UInt8->Int
 |[]=>0
 |c::l=>(c.toNat:Int)+256*leN l
def QI(big:Bool)(l:List UInt8):Int:=if big then leN l.reverse else leN l
def ZG(D:List UInt8)(at_:Nat)(n:Int):Rdg (List UInt8×Nat):=if (D.length:Int) - at_<n then erR D.length else okR ((D.drop at_).take n.toNat,at_+n.toNat)
def YD(r:Rl)(D:List UInt8)(at_:Nat):Rdg (Int×Nat):=
 if r.kind=3 then JM r.stop r.mx (D.drop at_) false 0 at_
 else rb (ZG D at_ r.size) fun y=>if QI r.big y.1<r.mn\/r.mx<QI r.big y.1 then erR at_ else okR (QI r.big y.1,y.2)
def Ks:List UInt8->List UInt8->Nat->Rdg Nat
 |[],_,p=>okR p
 |_::_,[],p=>erR p
 |b::bs,c::l,p=>if c=b then Ks bs l (p+1) else erR p
def Ys(stop size:Int):List UInt8->Nat->Nat->Rdg Nat
 |[],_,p=>erR p
 |c::l,k,p=>if (c.toNat:Int)=stop then okR p else if (k:Int)=size then erR p else Ys stop size l (k+1) (p+1)
def Jv(one:Nat->Rdg (Nd×VF×Nat)):Nat->Nat->Rdg (VF×Nat)
 |0,p=>okR (.nil,p)
 |n+1,p=>rb (one p) fun y=>rb (Jv one n y.2.2) fun z=>okR (.cons y.1 y.2.1 z.1,z.2)
def Vh(one:Nat->Rdg (Nd×VF×Nat))(D:List UInt8)(stop:Int):Nat->Nat->Rdg (VF×Nat)
 |0,_=>none
 |f+1,p=>match D[p]? with
  |none=>erR p
  |some c=>if (c.toNat:Int)=stop then okR (.nil,p+1) else rb (one p) fun y=>rb (Vh one D stop f y.2.2) fun z=>okR (.cons y.1 y.2.1 z.1,z.2)
def Vc(one:Int->Nat->Rdg (Nd×VF×Nat)):List (List UInt8)->List Int->Nat->Rdg (List (List UInt8)×VF×Nat)
 |nm::nms,k::ks,p=>rb (one k p) fun y=>rb (Vc one nms ks y.2.2) fun z=>if nm=[] then okR z else okR (nm::z.1,.cons y.1 y.2.1 z.2.1,z.2.2)
 |_,_,p=>okR ([],.nil,p)
def Ql(F:List Rl)(k:Int):Rl:=(F[k.toNat]?).getD (QnG [] 0)
def ZS(F:List Rl)(ks:List Int)(c:UInt8):Option Nat:=ks.findIdx? fun k=>((V4 F).getD k.toNat Xu) c.toNat
def Qq(F:List Rl)(D:List UInt8):Nat->Int->Nat->Rdg (Nd×VF×Nat)
 |0,_,_=>none
 |f+1,k,p=>
  let r:=Ql F k
  if r.kind=1 then rb (Ks r.bs (D.drop p) p) fun q=>okR (ndL,.nil,q)
  else if r.kind=2\/r.kind=3 then rb (YD r D p) fun y=>okR (ndN y.1,.nil,y.2)
  else if r.kind=4 then rb (ZG D p r.size) fun y=>okR (ndB y.1,.nil,y.2)
  else if r.kind=10 then rb (YD (Ql F r.count) D p) fun x=>rb (ZG D x.2 x.1) fun y=>okR (ndB y.1,.nil,y.2)
  else if r.kind=5 then rb (Ys r.stop r.size (D.drop p) 0 p) fun q=>okR (ndB ((D.drop p).take (q - p)),.nil,q+1)
  else if r.kind=6 then rb (YD (Ql F r.count) D p) fun x=>rb (Jv (Qq F D f r.elem) x.1.toNat x.2) fun z=>okR (ndL,z.1,z.2)
  else if r.kind=9 then rb (Vh (Qq F D f r.elem) D r.stop (D.length+1) p) fun z=>okR (ndL,z.1,z.2)
  else if r.kind=8 then match D[p]? with
   |none=>erR p
   |some c=>match ZS F r.parts c with
    |none=>erR p
    |some i=>rb (Qq F D f (r.parts.getD i 0) p) fun y=>okR (ndL,.cons (ndN (i:Int)) .nil (.cons y.1 y.2.1 .nil),y.2.2)
  else rb (Vc (Qq F D f) r.names r.parts p) fun z=>okR (ndR z.1,z.2.1,z.2.2)
section
variable {α β:Type}
theorem Xy{x:Rdg α}{g:α->Rdg β}{b:β}(h:rb x g=some (.ok b)):∃a,x=some (.ok a)/\g a=some (.ok b):=by
 unfold rb at h;split at h
 ·cases h
 ·cases h
 ·exact⟨_,rfl,h⟩
theorem XQ{x:Rdg α}{g:α->Rdg β}(hx:∃y,x=some y)(hg:∀a,x=some (.ok a)->∃y,g a=some y):∃y,rb x g=some y:=by
 obtain⟨y,rfl⟩:=hx;cases y with
 |error e=>exact⟨_,rfl⟩
 |ok a=>exact hg a rfl
theorem Q55{x:Rdg α}{g:α->Rdg β}{a:α}(h:x=some (.ok a)):rb x g=g a:=by rw[h];rfl
theorem Qvk{x:Rdg α}{g:α->Rdg β}{e:Nat}(h:x=some (.error e)):rb x g=some (.error e):=by rw[h];rfl
theorem QN{a b:α}(h:okR a=some (.ok b)):a=b:=by unfold okR at h;injection h with h;injection h
theorem Yv{e:Nat}{b:α}(h:(erR e:Rdg α)=some (.ok b)):False:=by unfold erR at h;injection h with h;cases h
end
theorem Q9m(stop mx:Int):∀(l:List UInt8) (b:Bool) (n:Int) (p:Nat),∃y,JM stop mx l b n p=some y
 |[],_,_,p=>⟨_,rfl⟩
 |c::l,later,n,p=>by
  unfold JM
  split
  ·exact⟨_,rfl⟩
  split
  ·exact⟨_,rfl⟩
  ·exact Q9m stop mx l true _ _
theorem QbC{stop mx:Int}:∀{l:List UInt8} {b:Bool} {n:Int} {p:Nat} {m:Int} {q:Nat},JM stop mx l b n p=some (.ok (m,q))->p<q/\q<=p+l.length
 |[],_,_,p,m,q,h=>(Yv h).elim
 |c::l,later,n,p,m,q,h=>by
  unfold JM at h
  split at h
  ·have:=QN h
   injection this with h1 h2;exact Q6G
  split at h
  ·exact Q1x
  ·have:=QbC h;exact Q6G
theorem Q28(D:List UInt8)(p:Nat)(n:Int):∃y,ZG D p n=some y:=by unfold ZG;split<;>exact⟨_,rfl⟩
theorem Vk{D:List UInt8}{p:Nat}{n:Int}{y:List UInt8×Nat}(h:ZG D p n=some (.ok y)):y=((D.drop p).take n.toNat,p+n.toNat)/\n<=(D.length:Int) - p:=by
 unfold ZG at h;split at h
 ·exact Q1x
 ·next hn=>exact⟨(QN h).symm,by omega⟩
theorem V6(r:Rl)(D:List UInt8)(p:Nat):∃y,YD r D p=some y:=by
 unfold YD;split
 ·exact Q9m _ _ _ _ _ _
 ·refine XQ (Q28 _ _ _) fun a _=>?_
  split<;>exact⟨_,rfl⟩
def Qqu(r:Rl):Prop:=r.kind=3\/(r.kind=2/\1<=r.size)
theorem J5{r:Rl}{D:List UInt8}{p q:Nat}{n:Int}(hr:Qqu r)(hp:p<=D.length)(h:YD r D p=some (.ok (n,q))):p<q/\q<=D.length:=by
 unfold YD at h;split at h
 ·have:=QbC h;rw[List.length_drop] at this
  omega
 ·next h3=>
  obtain⟨y,hy,hg⟩:=Xy h;obtain⟨rfl,hn⟩:=Vk hy;split at hg
  ·exact(Yv hg).elim
  ·have:=QN hg
   injection this with h1 h2;have:r.kind=2/\1<=r.size:=hr.resolve_left h3;simp only at h2;omega
theorem Q8h:∀(bs l:List UInt8) (p:Nat),∃y,Ks bs l p=some y
 |[],l,p=>by cases l<;>exact⟨_,rfl⟩
 |_::_,[],p=>⟨_,rfl⟩
 |b::bs,c::l,p=>by
  unfold Ks
  split
  ·exact Q8h bs l (p+1)
  ·exact⟨_,rfl⟩
theorem Qgn:∀{bs l:List UInt8} {p q:Nat},Ks bs l p=some (.ok q)->q=p+bs.length/\bs=l.take bs.length/\bs.length<=l.length
 |[],l,p,q,h=>by
  have:q=p:=by cases l<;>exact(QN h).symm
  simp [this]
 |_::_,[],p,q,h=>(Yv h).elim
 |b::bs,c::l,p,q,h=>by
  unfold Ks at h;split at h
  ·next e=>
   subst e;obtain⟨h1,h2,h3⟩:=Qgn h;refine⟨?_,?_,?_⟩
   ·exact Q6G
   ·rw[List.length_cons,List.take_succ_cons,<- h2]
   ·rw[List.length_cons,List.length_cons];omega
  ·exact Q1x
theorem Q9s(stop size:Int):∀(l:List UInt8) (k p:Nat),∃y,Ys stop size l k p=some y
 |[],_,p=>⟨_,rfl⟩
 |c::l,k,p=>by
  unfold Ys
  split
  ·exact⟨_,rfl⟩
  split
  ·exact⟨_,rfl⟩
  ·exact Q9s stop size l _ _
theorem QcJ{stop size:Int}:∀{l:List UInt8} {k p q:Nat},Ys stop size l k p=some (.ok q)->p<=q/\q<p+l.length
 |[],_,p,q,h=>(Yv h).elim
 |c::l,k,p,q,h=>by
  unfold Ys at h
  split at h
  ·have:=QN h;rw[List.length_cons];omega
  split at h
  ·exact Q1x
  ·have:=QcJ h;exact Q6G
section
variable {one:Nat->Rdg (Nd×VF×Nat)}{D:List UInt8}
def Far(one:Nat->Rdg (Nd×VF×Nat))(m:Nat):Prop:=∀(p:Nat) (y:Nd×VF×Nat),p<=m->one p=some (.ok y)->p<y.2.2/\y.2.2<=m
theorem Kf{m:Nat}(h1:Far one m):∀{n p:Nat} {z:VF×Nat},p<=m->Jv one n p=some (.ok z)->p<=z.2/\z.2<=m/\p+n<=z.2
 |0,p,z,hp,h=>by rw[<- QN h];exact⟨Nat.le_refl _,hp,Nat.le_refl _⟩
 |n+1,p,z,hp,h=>by
  obtain⟨y,hy,hg⟩:=Xy h;obtain⟨z',hz,hg⟩:=Xy hg;have a:=h1 p y hp hy;have b:=Kf h1 a.2 hz;rw[<- QN hg]
  simp only;omega
theorem Q14{stop:Int}(h1:Far one D.length):∀{f p:Nat} {z:VF×Nat},p<=D.length->Vh one D stop f p=some (.ok z)->p<z.2/\z.2<=D.length
 |0,p,z,hp,h=>by cases h
 |f+1,p,z,hp,h=>by
  unfold Vh at h
  split at h
  ·exact(Yv h).elim
  ·next c hc=>
   have hl:p<D.length:=(List.getElem?_eq_some_iff.1 hc).1
   split at h
   ·rw[<- QN h];exact⟨Nat.lt_succ_self _,hl⟩
   ·obtain⟨y,hy,hg⟩:=Xy h;obtain⟨z',hz,hg⟩:=Xy hg;have a:=h1 p y hp hy;have b:=Q14 h1 a.2 hz;rw[<- QN hg]
    simp only;omega
theorem Q8D{one:Int->Nat->Rdg (Nd×VF×Nat)}{m:Nat}:∀{ns:List (List UInt8)} {ks:List Int} {p:Nat} {z:List (List UInt8)×VF×Nat},(∀k∈ks,Far (one k) m)->ns.length=ks.length->p<=m->Vc one ns ks p=some (.ok z)->p+ks.length<=z.2.2/\z.2.2<=m
 |[],[],p,z,h1,hl,hp,h=>by rw[<- QN h];exact⟨Nat.le_refl _,hp⟩
 |[],_::_,p,z,h1,hl,hp,h=>by cases hl
 |_::_,[],p,z,h1,hl,hp,h=>by cases hl
 |nm::ns,k::ks,p,z,h1,hl,hp,h=>by
  unfold Vc at h
  obtain⟨y,hy,hg⟩:=Xy h;obtain⟨z',hz,hg⟩:=Xy hg;have a:=h1 k List.mem_cons_self p y hp hy;have b:=Q8D QeK (by simpa using hl) a.2 hz
  have:z.2.2=z'.2.2:=by
   split at hg
   ·rw[<- QN hg]
   ·rw[<- QN hg]
  rw[this,List.length_cons];omega
def Tot(one:Nat->Rdg (Nd×VF×Nat))(p m:Nat):Prop:=∀q,p<=q->q<=m->∃y,one q=some y
theorem Q4O{m:Nat}(h1:Far one m):∀{n p:Nat},p<=m->Tot one p m->∃y,Jv one n p=some y
 |0,p,hp,ht=>⟨_,rfl⟩
 |n+1,p,hp,ht=>by
  unfold Jv
  refine XQ (ht p (Nat.le_refl _) hp) fun y hy=>?_
  have a:=h1 p y hp hy
  refine XQ (Q4O h1 a.2 fun q h h'=>ht q Q3 h') fun z hz=>⟨_,rfl⟩
theorem Q5S{stop:Int}(h1:Far one D.length):∀{f p:Nat},p<=D.length->D.length<f+p->Tot one p D.length->∃y,Vh one D stop f p=some y
 |0,p,hp,hf,ht=>absurd hf Q3
 |f+1,p,hp,hf,ht=>by
  unfold Vh
  split
  ·exact⟨_,rfl⟩
  split
  ·exact⟨_,rfl⟩
  refine XQ (ht p (Nat.le_refl _) hp) fun y hy=>?_
  have a:=h1 p y hp hy
  refine XQ (Q5S h1 a.2 Q3 fun q h h'=>ht q Q3 h') fun z hz=>⟨_,rfl⟩
theorem Q6n{one:Int->Nat->Rdg (Nd×VF×Nat)}{m:Nat}:∀{ns:List (List UInt8)} {ks:List Int} {p:Nat},(∀k∈ks,Far (one k) m)->p<=m->(∀k∈ks,Tot (one k) (p+1) m)->(∀k∈ks.take 1,∃y,one k p=some y)->∃y,Vc one ns ks p=some y
 |[],ks,p,h1,hp,ht,h0=>by cases ks<;>exact⟨_,rfl⟩
 |_::_,[],p,h1,hp,ht,h0=>⟨_,rfl⟩
 |nm::ns,k::ks,p,h1,hp,ht,h0=>by
  unfold Vc
  refine XQ (h0 k Qm) fun y hy=>?_
  have a:=h1 k List.mem_cons_self p y hp hy
  refine XQ (Q6n QeK a.2 (fun k hk q h h'=>ht k QjJ q Q3 h') fun k hk=>ht k (List.mem_cons_of_mem _ (List.mem_of_mem_take hk)) _ Q3 a.2) fun z hz=>?_;split<;>exact⟨_,rfl⟩
end
section
variable {c:UInt8}{i p:Nat}{k:Int}{ks:List Int}
section
variable {F:List Rl}{D:List UInt8}
theorem Qak{r:Rl}(h:F[k.toNat]? =some r):Ql F k=r:=by unfold Ql;rw[h];rfl
theorem Q2g(h:0<=k/\k<F.length):F[k.toNat]? =some (Ql F k):=by
 unfold Ql;rw[List.getElem?_eq_getElem (show k.toNat<F.length by omega)];rfl
theorem Usd.rok(hv:Usd F)(h:0<=k/\k<F.length):ROk F.length (Ql F k):=hv.ok _ _ (Q2g h)
theorem Usd.numK(hv:Usd F)(h:0<=k/\k<F.length)(hk:(Ql F k).kind=6\/(Ql F k).kind=10):Qqu (Ql F (Ql F k).count):=by
 obtain⟨c,hc,h23⟩:=hv.use _ _ (Q2g h) hk;rw[Qak hc];have:=hv.ok _ _ hc;rcases h23 with h2|h3
 ·exact .inr ⟨h2,(this.num h2).1⟩
 ·exact .inl h3
theorem Q17{l:List Int}(h:i<l.length):l.getD i 0∈l:=by
 refine Qe0 ?_;exact List.getElem_mem _
theorem Q2d(h:ZS F ks c=some i):i<ks.length:=by
 unfold ZS at h;rw[List.findIdx?_eq_some_iff_getElem] at h;exact h.1
theorem Xv(hv:Usd F):∀(f:Nat) {k:Int},0<=k/\k<F.length->Far (Qq F D f k) D.length
 |0,k,hk,p,y,hp,h=>by cases h
 |f+1,k,hk,p,y,hp,h=>by
  have hr:=hv.rok hk;have hnk:=hv.numK hk
  unfold Qq at h;obtain⟨r,e⟩:∃r,Ql F k=r:=⟨_,rfl⟩;simp only[e] at h hr hnk;split at h
  ·next h1=>
   obtain⟨q,hq,hg⟩:=Xy h;obtain⟨a,_,c⟩:=Qgn hq;have:=hr.bs1 h1;rw[List.length_drop] at c;exact Q89
  split at h
  ·next h23=>
   obtain⟨z,hz,hg⟩:=Xy h
   have:=J5 (q:=z.2) (n:=z.1) (by
    rcases h23 with h2|h3
    ·exact .inr ⟨h2,(hr.num h2).1⟩
    ·exact .inl h3) hp hz
   rw[<- QN hg];exact this
  split at h
  ·next h4=>
   obtain⟨z,hz,hg⟩:=Xy h;obtain⟨rfl,hn⟩:=Vk hz;have:=hr.size4 h4;exact Q89
  split at h
  ·next h10=>
   obtain⟨z,hz,hg⟩:=Xy h;have a:=J5 (q:=z.2) (n:=z.1) (hnk (.inr h10)) hp hz;obtain⟨z',hz',hg⟩:=Xy hg;obtain⟨rfl,hn⟩:=Vk hz';exact Q89
  split at h
  ·next h5=>
   obtain⟨q,hq,hg⟩:=Xy h;have a:=QcJ hq;rw[List.length_drop] at a;exact Q89
  split at h
  ·next h6=>
   obtain⟨z,hz,hg⟩:=Xy h;have a:=J5 (q:=z.2) (n:=z.1) (hnk (.inl h6)) hp hz;obtain⟨z',hz',hg⟩:=Xy hg;have b:=Kf (Xv hv f Qbs) a.2 hz';exact Q89
  split at h
  ·next h9=>
   obtain⟨z',hz',hg⟩:=Xy h;have b:=Q14 (Xv hv f Qd8) hp hz';rw[<- QN hg];exact b
  split at h
  ·next h8=>
   split at h
   ·exact Q1x
   ·next c hc=>
    split at h
    ·exact Q1x
    ·next i hi=>
     obtain⟨z,hz,hg⟩:=Xy h;have b:=Xv hv f (hr.parts (.inr h8) _ (Q17 (Q2d hi))) p z hp hz;rw[<- QN hg];exact b
  ·next h1 h23 h4 h10 h5 h6 h9 h8=>
   have h7:r.kind=7:=by
    have:=hr.kind;omega
   obtain⟨z,hz,hg⟩:=Xy h;have b:=Q8D (fun k hk=>Xv hv f Qnw) (hr.seven h7).1 hp hz;have:=(hr.seven h7).2;exact Q89
def QhK(F:List Rl)(k:Nat):Nat:=cnt (fun j=>(XD F k).getD j false) F.length
theorem QnD(hv:Vld F){k:Nat}(hk:k<F.length)(hi:i∈bg F k):QhK F i<QhK F k:=by
 have hbd:=hv.ok.bd;have hil:i<F.length:=hbd k i hi;refine Q76 _ (fun j _ h=>?_) ⟨i,hil,?_,?_⟩
 ·rw[ZN hbd hk];exact Rch.trans (.one hi) ((ZN hbd hil j).1 h)
 ·cases hh:(XD F i).getD i false with
  |false=>rfl
  |true=>exact absurd ((ZN hbd hil _).1 hh) (hv.cyc i hil)
 ·rw[ZN hbd hk];exact .one hi
theorem Qe1(F:List Rl)(k:Nat):QhK F k<=F.length:=QaH _ _
theorem Qul(hk:0<=k/\k<F.length){x:Int}(hx:x∈bl (Ql F k)):x.toNat∈bg F k.toNat:=by
 rw[Q2X (Q2g hk)];exact List.mem_map_of_mem hx
def Q1j(F:List Rl)(D:List UInt8)(k:Int)(p:Nat):Nat:=(D.length - p)*(F.length+1)+QhK F k.toNat+1
theorem Qlj{i:Int}{q:Nat}(hpq:p<q)(hq:q<=D.length):Q1j F D i q<Q1j F D k p:=by
 have h1:=Qe1 F i.toNat;unfold Q1j;have h2:(D.length - q)*(F.length+1)+(F.length+1)<=(D.length - p)*(F.length+1):=by
  rw[<- Nat.succ_mul];exact Nat.mul_le_mul_right _ Q3
 omega
theorem Qpy(hv:Vld F){i:Int}(hk:0<=k/\k<F.length)(hi:i∈bl (Ql F k)):Q1j F D i p<Q1j F D k p:=by
 have:=QnD hv Q3 (Qul hk hi);unfold Q1j;omega
theorem Q29(hv:Vld F):∀(f:Nat) {k:Int} {p:Nat},0<=k/\k<F.length->p<=D.length->Q1j F D k p<=f->∃y,Qq F D f k p=some y
 |0,k,p,hk,hp,hf=>by unfold Q1j at hf;omega
 |f+1,k,p,hk,hp,hf=>by
  have hr:=hv.toUsd.rok hk;have hnk:=hv.toUsd.numK hk
  have hbg:∀x∈bl (Ql F k),∃y,Qq F D f x p=some y:=fun x hx=>
   Q29 hv f (Q6z hr x hx) hp (by have:=Qpy (D:=D) (p:=p) hv hk hx;omega)
  have htot:∀{x:Int} {q:Nat},0<=x/\x<F.length->p<q->Tot (Qq F D f x) q D.length:=fun {x q} hx hq q' h h'=>
   Q29 hv f hx h' (by have:=Qlj (F:=F) (D:=D) (k:=k) (i:=x) (p:=p) (q:=q') Q3 h';omega)
  unfold Qq;obtain⟨r,e⟩:∃r,Ql F k=r:=⟨_,rfl⟩;simp only[e] at hr hnk hbg ⊢;split
  ·exact XQ (Q8h _ _ _) fun _ _=>⟨_,rfl⟩
  split
  ·exact XQ (V6 _ _ _) fun _ _=>⟨_,rfl⟩
  split
  ·exact XQ (Q28 _ _ _) fun _ _=>⟨_,rfl⟩
  split
  ·exact XQ (V6 _ _ _) fun _ _=>XQ (Q28 _ _ _) fun _ _=>⟨_,rfl⟩
  split
  ·exact XQ (Q9s _ _ _ _ _) fun _ _=>⟨_,rfl⟩
  split
  ·next h6=>
   refine XQ (V6 _ _ _) fun x hx=>?_;have a:=J5 (q:=x.2) (n:=x.1) (hnk (.inl h6)) hp hx;exact XQ (Q4O (Xv hv.toUsd f Qbs) a.2 (htot Qbs a.1)) fun _ _=>⟨_,rfl⟩
  split
  ·next h9=>
   refine XQ (Q5S (Xv hv.toUsd f Qd8) hp Q3 fun q h h'=>?_) fun _ _=>⟨_,rfl⟩;rcases Nat.lt_or_ge p q with hq|hq
   ·exact htot Qd8 hq q Xo h'
   ·obtain rfl:p=q:=by omega
    refine hbg _ ?_;unfold bl Xs;rw[if_neg Q3,if_neg Q3,if_neg Q3,if_pos h9];exact Q6U
  split
  ·next h8=>
   split
   ·exact⟨_,rfl⟩
   ·split
    ·exact⟨_,rfl⟩
    ·next c hc i hi=>
     refine XQ (hbg _ ?_) fun _ _=>⟨_,rfl⟩;unfold bl Xs;rw[if_neg Q3,if_neg Q3,if_pos h8];exact Q17 (Q2d hi)
  ·next h1 h23 h4 h10 h5 h6 h9 h8=>
   have h7:r.kind=7:=by
    have:=hr.kind;omega
   refine XQ (Q6n QkW hp (fun x hx=>htot (hr.parts (.inl h7) x hx) (Nat.lt_succ_self _)) fun x hx=>hbg x ?_) fun _ _=>⟨_,rfl⟩;unfold bl Xs;rw[if_neg Q3,if_pos h7];exact hx
end
end
section
variable {r:Rl}
def VB(S:List (Nat->Bool)):List Int->Nat->Nat
 |[],_=>0
 |x::l,b=>(if (S.getD x.toNat Xu) b then 1 else 0)+VB S l b
theorem QbM(S:List (Nat->Bool)):∀(l m:List Int) (b:Nat),VB S (l++m) b=VB S l b+VB S m b
 |[],m,b=>by simp [VB]
 |x::l,m,b=>by
  rw[List.cons_append,VB,VB,QbM S l m b]
  omega
theorem QgP(S:List (Nat->Bool)):∀(l:List Int) (b:Nat),VB S l b<=l.length
 |[],b=>Nat.le_refl _
 |x::l,b=>by
  rw[VB,List.length_cons];have:=QgP S l b
  split<;>omega
theorem Q92(S:List (Nat->Bool)):∀(l:List Int) (seen:Nat->Bool),VS S seen l=true↔∃b,b<256/\(1<VB S l b\/(seen b=true/\1<=VB S l b))
 |[],seen=>by
  unfold VS
  simp [VB]
 |x::l,seen=>by
  rw[VS,Bool.or_eq_true,Q92 S l,List.any_eq_true]
  constructor
  ·rintro(⟨c,hc,h⟩|⟨b,hb,h⟩)
   ·rw[Bool.and_eq_true] at h;refine⟨c,List.mem_range.1 hc,.inr ⟨h.2,?_⟩⟩;rw[VB,if_pos h.1]
    omega
   ·refine⟨b,hb,?_⟩;rw[VB]
    rcases h with h|⟨h1,h2⟩
    ·left;split<;>omega
    ·unfold orS at h1
     rw[Bool.or_eq_true] at h1
     rcases h1 with h1|h1
     ·right;exact⟨h1,by split<;>omega⟩
     ·left;rw[if_pos h1];omega
  ·rintro⟨b,hb,h⟩
   rw[VB] at h
   by_cases hx:(S.getD x.toNat Xu) b=true
   ·rw[if_pos hx] at h
    rcases h with h|⟨h1,h2⟩
    ·right
     refine⟨b,hb,.inr ⟨?_,by omega⟩⟩
     unfold orS
     rw[hx,Bool.or_true]
    ·left
     exact⟨b,List.mem_range.2 hb,by rw[hx,h1];rfl⟩
   ·rw[if_neg hx] at h
    right
    refine⟨b,hb,?_⟩
    rcases h with h|⟨h1,h2⟩
    ·left;omega
    ·right
     refine⟨?_,by omega⟩
     unfold orS
     rw[h1]
     rfl
def Q9u(S:List (Nat->Bool))(r:Rl)(b:Nat):Bool:=
 (r.kind==9&&((b:Int)==r.stop&&(S.getD r.elem.toNat Xu) b))||(r.kind==8&&decide (1<VB S r.parts b))
theorem Q8Y{n:Nat}{S:List (Nat->Bool)}(h:ROk n r):Zd S r=true↔∃b,b<256/\Q9u S r b=true:=by
 unfold Zd Q9u;by_cases h9:r.kind=9
 ·have hs:=h.stop (.inr (.inr h9));rw[if_pos h9]
  constructor
  ·intro hc;refine⟨r.stop.toNat,by omega,?_⟩;rw[hc,h9,show (((r.stop.toNat:Nat):Int)==r.stop)=true from beq_iff_eq.2 Q3]
   rfl
  ·rintro⟨b,hb,hc⟩
   rw[h9] at hc;simp only[Bool.or_eq_true,Bool.and_eq_true,beq_iff_eq] at hc;rcases hc with ⟨_,h1,h2⟩|⟨h1,_⟩
   ·rw[<- h1];exact h2
   ·exact absurd h1 Q1
 ·rw[if_neg h9]
  by_cases h8:r.kind=8
  ·rw[if_pos h8,Q92]
   constructor
   ·rintro⟨b,hb,hc⟩
    refine⟨b,hb,?_⟩;rcases hc with hc|⟨hc,_⟩
    ·rw[h8]
     simp [hc]
    ·cases hc
   ·rintro⟨b,hb,hc⟩
    refine⟨b,hb,.inl ?_⟩;rw[h8] at hc;simp only[Bool.or_eq_true,Bool.and_eq_true,beq_iff_eq,decide_eq_true_eq] at hc;rcases hc with ⟨h1,_⟩|⟨_,h1⟩
    ·exact absurd h1 Q1
    ·exact h1
  ·rw[if_neg h8]
   constructor
   ·intro hc;cases hc
   ·rintro⟨b,hb,hc⟩
    simp only[Bool.or_eq_true,Bool.and_eq_true,beq_iff_eq] at hc;rcases hc with ⟨h1,_⟩|⟨h1,_⟩
    ·exact absurd h1 h9
    ·exact absurd h1 h8
theorem Q3S(sep b:List UInt8):∀ws:List (List UInt8),ws≠[]->Lib.join (ws++[b]) sep=Lib.join ws sep++(sep++b)
 |[],h=>absurd rfl h
 |[x],_=>by
  show Lib.join (x::[b]) sep=_
  rw[Lib.join_cons,Lib.join_one,J6]
  show x++(sep++(b++Lib.joinTail sep []))=_
  rw[show Lib.joinTail sep []=[] from rfl,List.append_nil]
 |x::y::l,_=>by
  have ih:=Q3S sep b (y::l) Qm;rw[Lib.join_cons y,List.cons_append,Lib.join_cons] at ih
  show Lib.join (x::(y::(l++[b]))) sep=_;rw[Lib.join_cons,Lib.join_cons,J6,J6,ih];simp only[List.append_assoc]
def spW(u:Bool)(s:List UInt8):List UInt8:=if u then 32::s else []
theorem Y9(u:Bool)(s:List UInt8){ws:List (List UInt8)}(h:ws≠[]):Lib.join (ws++ifW u s) [32]=Lib.join ws [32]++spW u s:=by
 unfold ifW spW;cases u with
 |true=>exact Q3S [32] s ws h
 |false=>simp
theorem QdN{α:Type}(f:α->List UInt8):∀(l:List α) {ws:List (List UInt8)},ws≠[]->Lib.join (ws++l.map f) [32]=Lib.join ws [32]++(l.map fun i=>32::f i).flatten
 |[],ws,h=>by simp
 |x::l,ws,h=>by
  have ih:=QdN f l (ws:=ws++[f x]) Qm;rw[List.append_assoc] at ih
  show Lib.join (ws++([f x]++l.map f)) [32]=_;rw[ih,Q3S _ _ _ h,List.map_cons,List.flatten_cons];simp
def Q2Y(F:List Rl)(r:Rl):List UInt8:=
 r.name++[32]++JW r.kind++(if r.kind==1 then [32] else [])++Vm r.bs++spW (XO r.kind) (Lib.itoa r.stop)++spW (XP r.kind) (Lib.itoa r.size)++spW (r.kind==2) (if r.big then Qdt else Yb)++spW (r.kind==2) (Lib.itoa r.mn)++spW (Z0 r.kind) (Lib.itoa r.mx)++spW (Qy r.kind) (YQ F r.count)++spW (JV r.kind) (YQ F r.elem)++((List.range r.parts.length).map fun i=>32::XH F r i).flatten++[10]
theorem Qei{F:List Rl}(h:r.kind≠1->r.bs=[]):Q2Y F r=Q3i F r:=by
 unfold Q2Y Q3i VZ Q3O;have hb:(if r.kind==1 then [32] else [])++Vm r.bs=spW (r.kind==1) (Vm r.bs):=by
  unfold spW;by_cases h1:r.kind=1
  ·rw[h1];rfl
  ·rw[h h1,show (r.kind==1)=false from beq_eq_false_iff_ne.2 h1];rfl
 rw[QdN _ _ Qm,Y9 _ _ Qm,Y9 _ _ Qm,Y9 _ _ Qm,Y9 _ _ Qm,Y9 _ _ Qm,Y9 _ _ Qm,Y9 _ _ Qm,Y9 _ _ Qm,<- hb];have h2:Lib.join [r.name,JW r.kind] [32]=r.name++[32]++JW r.kind:=by
  rw[Lib.join_cons,J6];show r.name++([32]++(JW r.kind++[]))=_;simp
 rw[h2];simp only[List.append_assoc]
end
def Qkp(c:UInt8):Bool:=decide (48<=c.toNat/\c.toNat<=57)
def Q3D:Nat->List UInt8->Nat
 |n,[]=>n
 |n,c::r=>Q3D (10*n+(c.toNat - 48)) r
theorem QcT:∀(x:List UInt8) (n:Nat) (c:UInt8),Q3D n (x++[c])=10*Q3D n x+(c.toNat - 48)
 |[],n,c=>rfl
 |b::x,n,c=>QcT x _ c
theorem Qbq:∀(x:List UInt8) (n:Nat),0<n->0<Q3D n x
 |[],n,h=>h
 |c::r,n,h=>Qbq r _ Q3
theorem QkU(m:Nat):∀(x:List UInt8),x.length=m+1->x.all Qkp=true->(1<x.length->x.head?≠some 48)->Lib.decDigits (Q3D 0 x)=x:=by
 induction m using Nat.strongRecOn with
 |_ m ihm=>
  intro x hl ha hh;rcases List.eq_nil_or_concat x with rfl|⟨y,c,rfl⟩
  ·cases hl
  ·rw[List.concat_eq_append] at*;rw[List.all_append,Bool.and_eq_true] at ha
   have hc:48<=c.toNat/\c.toNat<=57:=by
    have h:=ha.2;simp only[List.all_cons,List.all_nil,Bool.and_true] at h;exact of_decide_eq_true h
   rw[QcT];cases y with
   |nil=>
    rw[Lib.decDigits,dif_pos (by show 10*Q3D 0 []+(c.toNat - 48)<10;show 10*0+(c.toNat - 48)<10;omega)];show [_]=[c];congr 1;refine UInt8.toNat.inj ?_;show (UInt8.ofNat (48+(10*0+(c.toNat - 48)))).toNat=c.toNat;simp only[UInt8.toNat_ofNat'];omega
   |cons b t=>
    have hb:b≠48:=fun e=>hh Qm (by rw[e];rfl);have hbd:48<=b.toNat/\b.toNat<=57:=by
     have h:=ha.1;rw[List.all_cons,Bool.and_eq_true] at h;exact of_decide_eq_true h.1
    have hb48:b.toNat≠48:=fun e=>hb (UInt8.toNat.inj (by rw[e];rfl));have hp:0<Q3D 0 (b::t):=Qbq t _ (by show 0<10*0+(b.toNat - 48);omega);have ih:=ihm t.length (by simp at hl;omega) (b::t) rfl ha.1 (fun _ h=>hb (by simpa using h));rw[Lib.decDigits,dif_neg Q3,show (10*Q3D 0 (b::t)+(c.toNat - 48)) / 10=Q3D 0 (b::t) by omega,ih];congr 1;congr 1;refine UInt8.toNat.inj ?_;simp only[UInt8.toNat_ofNat'];omega
section
variable {c:UInt8}
def leW:Nat->Int->List UInt8
 |0,_=>[]
 |k+1,n=>UInt8.ofNat (n % 256).toNat::leW k (n / 256)
def Q0D(big:Bool)(k:Nat)(n:Int):List UInt8:=if big then (leW k n).reverse else leW k n
def Q9t(r:Rl):UInt8:=UInt8.ofNat (r.stop % 256).toNat
def Q2l(r:Rl)(n:Int):List UInt8:=if r.kind=3 then Lib.itoa n++[Q9t r] else Q0D r.big r.size.toNat n
theorem Q2L:∀(k:Nat) (n:Int),(leW k n).length=k
 |0,n=>rfl
 |k+1,n=>by show (leW k _).length+1=_;rw[Q2L k]
theorem Q5X(b:Bool)(k:Nat)(n:Int):(Q0D b k n).length=k:=by
 unfold Q0D;split
 ·rw[List.length_reverse,Q2L]
 ·exact Q2L k n
theorem Qfl:∀l:List UInt8,0<=leN l
 |[]=>Int.le_refl _
 |c::l=>by have:=Qfl l;unfold leN;omega
theorem Qew:∀l:List UInt8,leN l<256 ^ l.length
 |[]=>by decide
 |c::l=>by
  have:=Qew l;have hc:=c.toNat_lt
  unfold leN;rw[List.length_cons,Int.pow_succ];omega
theorem Qm4:∀l:List UInt8,leW l.length (leN l)=l
 |[]=>rfl
 |c::l=>by
  have hc:=c.toNat_lt;have h0:=Qfl l
  show leW (l.length+1) _=_;unfold leW leN;have h1:((c.toNat:Int)+256*leN l) % 256=(c.toNat:Int):=by omega
  have h2:((c.toNat:Int)+256*leN l) / 256=leN l:=by omega
  rw[h1,h2,Qm4 l];simp
theorem Kb(b:Bool)(l:List UInt8):0<=QI b l:=by unfold QI;split<;>exact Qfl _
theorem QoI(b:Bool)(l:List UInt8):Q0D b l.length (QI b l)=l:=by
 unfold QI Q0D;split
 ·have:=Qm4 l.reverse;rw[List.length_reverse] at this;rw[this,List.reverse_reverse]
 ·exact Qm4 l
theorem Qjl{r:Rl}(h:(c.toNat:Int)=r.stop):Q9t r=c:=by
 unfold Q9t;have:=c.toNat_lt;rw[<- h,show (c.toNat:Int) % 256=c.toNat by omega];simp
theorem Qdk:Qkp c=true↔48<=c.toNat/\c.toNat<=57:=by unfold Qkp;simp
theorem Q7t{stop mx:Int}:∀{l:List UInt8} {n p:Nat} {m:Int} {q:Nat},JM stop mx l true (n:Int) p=some (.ok (m,q))->∃x c rest,l=x++c::rest/\x.all Qkp=true/\m=(Q3D n x:Nat)/\q=p+x.length+1/\(c.toNat:Int)=stop/\(n=0->x=[])/\((n:Int)<=mx->m<=mx)
 |[],n,p,m,q,h=>(Yv h).elim
 |c::l,n,p,m,q,h=>by
  unfold JM at h
  split at h
  ·next hs=>
   have:=QN h
   injection this with h1 h2;simp only[Bool.true_and,decide_eq_true_eq] at hs;exact⟨[],c,l,rfl,rfl,h1.symm,h2.symm,hs,fun _=>rfl,fun h=>by omega⟩
  split at h
  ·exact Q1x
  ·next hs hd=>
   simp only[Bool.true_and,Bool.or_eq_true,Bool.not_eq_true',decide_eq_false_iff_not,decide_eq_true_eq,not_or,Decidable.not_not] at hd;have e:(10*(n:Int)+((c.toNat:Int) - 48))=((10*n+(c.toNat - 48):Nat):Int):=by omega
   rw[e] at h;obtain⟨x,c',rest,hl,ha,hm,hq,hc,hz,hb⟩:=Q7t h;refine⟨c::x,c',rest,by rw[hl];rfl,?_,hm,?_,hc,fun h0=>absurd h0 Q3,fun _=>hb Q3⟩
   ·rw[List.all_cons,ha,Qdk.2 hd.1.1];rfl
   ·exact Q6G
theorem QiH{stop mx:Int}{l:List UInt8}{p:Nat}{m:Int}{q:Nat}(h:JM stop mx l false 0 p=some (.ok (m,q))):∃c rest,l=Lib.itoa m++c::rest/\q=p+(Lib.itoa m).length+1/\(c.toNat:Int)=stop/\0<=m/\m<=mx/\∃d,(Lib.itoa m).head? =some d/\48<=d.toNat/\d.toNat<=57/\(d.toNat:Int) - 48<=mx:=by
 cases l with
 |nil=>exact(Yv h).elim
 |cons c l=>
  unfold JM at h;rw[if_neg Qm] at h;split at h
  ·exact Q1x
  ·next hd=>
   simp only[Bool.false_and,Bool.or_false,Bool.or_eq_true,Bool.not_eq_true',decide_eq_false_iff_not,decide_eq_true_eq,not_or,Decidable.not_not] at hd;have e:(10*(0:Int)+((c.toNat:Int) - 48))=((c.toNat - 48:Nat):Int):=by omega
   rw[e] at h;obtain⟨x,c',rest,hl,ha,hm,hq,hc,hz,hb⟩:=Q7t h;have hx:(c::x).all Qkp=true:=by rw[List.all_cons,ha,Qdk.2 hd.1];rfl
   have hv:Q3D 0 (c::x)=Q3D (c.toNat - 48) x:=by show Q3D (10*0+_) x=_;rw[Nat.mul_zero,Nat.zero_add]
   have hdec:Lib.itoa m=c::x:=by
    rw[Qqw Q3,hm,Int.toNat_natCast,<- hv];refine QkU x.length (c::x) rfl hx fun h1 h2=>?_;have hc48:c=48:=by simpa using h2
    subst hc48;have:=hz rfl;rw[this] at h1;simp at h1
   refine⟨c',rest,by rw[hdec,hl];rfl,by rw[hdec,List.length_cons];omega,hc,by omega,hb Q3,c,by rw[hdec];rfl,hd.1.1,hd.1.2,by omega⟩
section
variable {r:Rl}{D:List UInt8}{p q:Nat}{n:Int}
def seg(D:List UInt8)(p q:Nat):List UInt8:=(D.drop p).take (q - p)
theorem Quj{x rest:List UInt8}(h:D.drop p=x++rest):seg D p (p+x.length)=x:=by
 unfold seg;rw[h,show p+x.length - p=x.length by omega,List.take_left]
theorem Qj9(hr:Qqu r)(hp:p<=D.length)(h:YD r D p=some (.ok (n,q))):Q2l r n=seg D p q/\(r.kind=3->0<=n/\n<=r.mx)/\(r.kind≠3->r.mn<=n/\n<=r.mx)/\0<=n:=by
 have hfar:=J5 hr hp h;unfold YD at h;unfold Q2l;split at h
 ·next h3=>
  obtain⟨c,rest,hl,hq,hc,h0,h1,_⟩:=QiH h;rw[if_pos h3,Qjl hc];refine⟨?_,fun _=>⟨h0,h1⟩,fun h=>absurd h3 h,h0⟩;have:=Quj (D:=D) (p:=p) (x:=Lib.itoa n++[c]) (rest:=rest) (by rw[hl];simp);rw[<- this];congr 1;rw[List.length_append,hq];rfl
 ·next h3=>
  obtain⟨y,hy,hg⟩:=Xy h;obtain⟨rfl,hn⟩:=Vk hy;split at hg
  ·exact(Yv hg).elim
  ·next hb=>
   have:=QN hg;injection this with h1 h2;simp only at h1 h2 hb;rw[if_neg h3,<- h1];have hl:((D.drop p).take r.size.toNat).length=r.size.toNat:=by rw[List.length_take,List.length_drop];omega
   refine⟨?_,fun h=>absurd h h3,fun _=>by omega,Kb _ _⟩;have:=QoI r.big ((D.drop p).take r.size.toNat);rw[hl] at this;rw[this,<- h2];unfold seg;congr 1;omega
structure JX(r:Rl):Prop where
 kind:r.kind=2\/r.kind=3
 num:r.kind=2->1<=r.size/\r.size<=4/\0<=r.mn/\r.mn<=r.mx/\r.mx<256 ^ r.size.toNat
 dec:r.kind=3->0<=r.mx/\r.mx<=999999999/\¬(48<=r.stop/\r.stop<=57)
 stop:r.kind=3->0<=r.stop/\r.stop<=255
 mn3:r.kind=3->r.mn=0
theorem JX.numK(h:JX r):Qqu r:=by
 rcases h.kind with h2|h3
 ·exact .inr ⟨h2,(h.num h2).1⟩
 ·exact .inl h3
theorem JX.of{m:Nat}(h:ROk m r)(hk:r.kind=2\/r.kind=3):JX r:=by
 refine⟨hk,h.num,h.dec,fun h3=>h.stop (.inl h3),fun h3=>?_⟩;have hf:=h.formed;unfold X6 at hf;simp only[Bool.and_eq_true,Bool.or_eq_true,beq_iff_eq] at hf;have:=hf.1.1.1.1.1.2;rcases this with h|h
 ·exact h.2
 ·omega
def YI(r:Rl)(n:Int):Bool:=decide (r.mn<=n)&&decide (n<=r.mx)
theorem Qcx:YI r n=true↔r.mn<=n/\n<=r.mx:=by unfold YI;simp
end
end
def VF.hdN:VF->Nd
 |.cons d _ _=>d
 |.nil=>⟨0,0,[],[]⟩
def Qwi(ns:List (List UInt8)):List (List UInt8):=ns.filter fun s=>s != []
def Vu(F:List Rl)(r:Rl)(d:Nd)(p:VF):Bool:=
 if r.kind=1 then d.k==3&&p.len==0
 else if r.kind=2\/r.kind=3 then d.k==1&&YI r d.n
 else if r.kind=4 then d.k==2&&decide ((d.bs.length:Int)=r.size)
 else if r.kind=10 then d.k==2&&YI (Ql F r.count) (d.bs.length:Int)
 else if r.kind=5 then d.k==2&&decide ((d.bs.length:Int)<=r.size)&&!(d.bs.contains (Q9t r))
 else if r.kind=6 then d.k==3&&YI (Ql F r.count) (p.len:Int)
 else if r.kind=9 then d.k==3
 else if r.kind=8 then d.k==3&&p.len==2&&p.hdN.k==1&&decide (0<=p.hdN.n)&&decide (p.hdN.n<(r.parts.length:Int))
 else d.k==4&&d.ns==Qwi r.names
def Q1w(F:List Rl)(r:Rl)(d:Nd)(p:VF):List UInt8:=
 if r.kind=1 then r.bs
 else if r.kind=2\/r.kind=3 then Q2l r d.n
 else if r.kind=4 then d.bs
 else if r.kind=10 then Q2l (Ql F r.count) (d.bs.length:Int)++d.bs
 else if r.kind=5 then d.bs++[Q9t r]
 else if r.kind=6 then Q2l (Ql F r.count) (p.len:Int)
 else []
def Qoz(F:List Rl):List (List UInt8)->List Int->List UInt8->List (List UInt8×Option Int)×List UInt8
 |nm::nms,k::ks,acc=>if nm=[] then Qoz F nms ks (acc++(Ql F k).bs) else ((acc,some k)::(Qoz F nms ks []).1,(Qoz F nms ks []).2)
 |_,_,acc=>([],acc)
def KZ(F:List Rl)(r:Rl)(p:VF):List (List UInt8×Option Int):=
 if r.kind=6\/r.kind=9 then List.replicate p.len ([],some r.elem)
 else if r.kind=8 then [([],none),([],some (r.parts.getD p.hdN.n.toNat 0))]
 else if r.kind=7 then (Qoz F r.names r.parts []).1
 else []
def Q7o(F:List Rl)(r:Rl):List UInt8:=if r.kind=9 then [Q9t r] else if r.kind=7 then (Qoz F r.names r.parts []).2 else []
def XL(F:List Rl):VF->List (List UInt8×Option Int)->List UInt8->Nat->Except Nat (List UInt8×Nat)
 |.cons d p r,(pre,some k)::ps,suf,n=>
  if Vu F (Ql F k) d p=true then
   match XL F p (KZ F (Ql F k) p) (Q7o F (Ql F k)) (n+1) with
   |.error e=>.error e
   |.ok (b,m)=>match XL F r ps suf m with
    |.error e=>.error e
    |.ok (b',m')=>.ok (pre++(Q1w F (Ql F k) d p++b)++b',m')
  else .error n
 |.cons d p r,(pre,none)::ps,suf,n=>match XL F r ps suf (n+1) with
  |.error e=>.error e
  |.ok (b',m')=>.ok (pre++b',m')
 |.cons d p r,[],suf,n=>.ok (suf,n)
 |.nil,ps,suf,n=>.ok (suf,n)
def WrL(F:List Rl)(l:VF)(ps:List (List UInt8×Option Int))(suf b:List UInt8):Prop:=∀n,∃m,XL F l ps suf n=.ok (b,m)
def Wr(F:List Rl)(k:Int)(d:Nd)(p:VF)(b:List UInt8):Prop:=Vu F (Ql F k) d p=true/\∃b',b=Q1w F (Ql F k) d p++b'/\WrL F p (KZ F (Ql F k) p) (Q7o F (Ql F k)) b'
section
variable {F:List Rl}{D:List UInt8}{suf b b' pre:List UInt8}{ps:List (List UInt8×Option Int)}{d:Nd}{p r:VF}{k:Int}
theorem WrL.nil:WrL F .nil ps suf suf:=fun n=>⟨n,by unfold XL;rfl⟩
theorem WrL.cons(h:Wr F k d p b)(h':WrL F r ps suf b'):WrL F (.cons d p r) ((pre,some k)::ps) suf (pre++b++b'):=fun n=>by
 obtain⟨hf,b1,rfl,hw⟩:=h;obtain⟨m,hm⟩:=hw (n+1);obtain⟨m',hm'⟩:=h' m;refine⟨m',?_⟩;unfold XL;rw[if_pos hf,hm];simp only;rw[hm']
theorem WrL.skip(h':WrL F r ps suf b'):WrL F (.cons d p r) ((pre,none)::ps) suf (pre++b'):=fun n=>by
 obtain⟨m',hm'⟩:=h' (n+1);refine⟨m',?_⟩;unfold XL;rw[hm']
end
section
variable {k:Int}{r:Rl}
section
variable {F:List Rl}{D:List UInt8}
theorem Q6q{g:Nat->Int}:∀(n i:Nat),ZX g i n=0->∀j,i<=j->j<i+n->g j=0
 |0,i,h,j,h1,h2=>by omega
 |n+1,i,h,j,h1,h2=>by
  unfold ZX at h
  split at h
  ·next h0=>
   rcases Nat.lt_or_ge i j with hj|hj
   ·exact Q6q n (i+1) h j hj Q3
   ·obtain rfl:i=j:=by omega
    exact h0
  ·next h0=>exact absurd h h0
structure Fm(F:List Rl):Prop extends Vld F where
 len:0<F.length/\F.length<=40
 uses:∀i,i<F.length->Jy F i=0
 confl:∀i,i<F.length->ZB F i=false
theorem Qv0(h:Xa F=(0,0)):Fm F:=by
 refine⟨QuO h,Qep h,(Q6Q h).use,?_⟩;have hp:=Q6Q h;unfold Xa at h;split at h
 ·cases h
 split at h
 ·cases h
 rw[Xl (fun j hj=>by simpa using hp.rule j hj)] at h;simp only at h;rw[Xl (fun j hj=>by simpa using hp.use j hj)] at h;simp only at h;cases h3:Xh F.length (Q1c F) with
 |some k=>rw[h3] at h;simp only[Prod.mk.injEq] at h;exact Q6e
 |none=>
  rw[h3] at h;simp only at h;cases h4:Xh F.length (fun k=>!((Zg F).getD k false)) with
  |some k=>rw[h4] at h;simp only[Prod.mk.injEq] at h;exact Q6e
  |none=>
   rw[h4] at h;simp only at h;cases h5:Xh F.length (ZB F) with
   |some k=>rw[h5] at h;simp only[Prod.mk.injEq] at h;exact Q6e
   |none=>exact K9 h5
theorem Fm.seq(hv:Fm F)(hk:0<=k/\k<F.length)(h7:(Ql F k).kind=7):∀i:Nat,i<(Ql F k).parts.length->(Ql F k).names.getD i []=[]->(Ql F ((Ql F k).parts.getD i 0)).kind=1:=by
 intro i hi hn;have hr:=hv.toUsd.rok hk;have hg:=Q2g hk;have hu:=hv.uses k.toNat Q3;rw[Q0d hg] at hu;obtain⟨r,e⟩:∃r,Ql F k=r:=⟨_,rfl⟩;rw[e] at hr hu h7 hi hn ⊢;unfold J2 at hu;rw[if_neg (by rw[h7];simp [Qy,XF]),if_neg (by rw[h7];decide)] at hu;have h:=Q6q _ 0 hu i Q3 (by rw[(hr.seven h7).1];omega);unfold Zu at h;rw[if_pos (by rw[hn];rfl)] at h;have hp:=hr.parts (.inl h7) _ (Q17 hi);rw[VJ (Q2g hp)] at h;by_cases h1:(Ql F (r.parts.getD i 0)).kind=1
 ·exact h1
 ·rw[if_pos (by simpa using h1)] at h
  cases h
theorem Fm.numOk(hv:Fm F)(hk:0<=k/\k<F.length)(h:(Ql F k).kind=6\/(Ql F k).kind=10):JX (Ql F (Ql F k).count):=by
 obtain⟨c,hc,h23⟩:=hv.toUsd.use _ _ (Q2g hk) h;rw[Qak hc];exact JX.of (hv.toUsd.ok _ _ hc) h23
theorem Q95(h9:r.kind≠9)(h7:r.kind≠7):Q7o F r=[]:=by unfold Q7o;rw[if_neg h9,if_neg h7]
theorem Qg4{p:VF}(h:r.kind=6\/r.kind=9):KZ F r p=List.replicate p.len ([],some r.elem):=by unfold KZ;rw[if_pos h]
end
end
section
variable {c:UInt8}{k:Int}{p:Nat}{r:Rl}
section
variable {F:List Rl}{D:List UInt8}
def fir(F:List Rl)(k:Int)(c:UInt8):Bool:=((V4 F).getD k.toNat Xu) c.toNat
theorem Zh(h:D[p]? =some c):D.drop p=c::D.drop (p+1):=by
 obtain⟨hl,hc⟩:=List.getElem?_eq_some_iff.1 h;rw[List.drop_eq_getElem_cons hl,hc]
end
end
def QaT:VF->Prop
 |.nil=>True
 |.cons d p r=>QP d p.len=0/\QaT p/\QaT r
section
variable {F:List Rl}{D:List UInt8}
end
end Go.Proofs.YtphkhfdmlcnoeaaGreatDoor
