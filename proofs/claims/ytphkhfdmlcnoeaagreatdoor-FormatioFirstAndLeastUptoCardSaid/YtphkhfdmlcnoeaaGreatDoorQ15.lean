import Derived.Test.YtphkhfdmlcnoeaaGreatDoorQ14
namespace Go.Proofs.YtphkhfdmlcnoeaaGreatDoor
set_option linter.unusedVariables false
set_option linter.unusedSimpArgs false
set_option maxRecDepth 1000000
set_option maxHeartbeats 32000000
open Go.RowKit
section
variable {Ab An Ap:Option Addr}{S:List (Nat->Bool)}{W:World}{b c cb cn cp n s:Nat}{r:Rl}
section
variable {P:Program}{ops:Array Oper}{C:World->Prop}{N:Nat}{E:Env}{o:Oper}{d:Nat}
theorem Qcw{t e:TypeId}{x y:Operand}{q:Nat}{k:IntKind}{m:Int}[hT:Ar P t n e s](ho:o.op=.indexAddr t x y)(hd:o.dst=some d)(hN:d<N)(hw:Qm ops E o=some true)(hx:ev E x=some (.pointer (some ⟨b,q,none⟩)))(hy:ev E y=some (.int k m))(hj:0<=m/\m<n):oE P ops C N E ((d,.pointer (some ⟨b,q+m.toNat*s,none⟩))::E) o:=by
 obtain⟨j,rfl⟩:∃j:Nat,m=(j:Int):=⟨m.toNat,by omega⟩;exact Zu ho hd hN hw hx hy Q2
end
theorem Rd.cellAt{w:World}{B j:Nat}{xs:List Value}{u:Value}(h:Rd w B s (some ⟨b,0,none⟩) n xs)(hn:0<n)(hu:xs[j]? =some u):w.cell? ⟨b,0+j,none⟩=some u:=by
 obtain⟨b',o,e,_,hc⟩:=h.2 hn;cases e;exact hc j u hu
def KW(S:List (Nat->Bool)):(Nat->Bool)->List Int->Bool
 |_,[]=>false
 |seen,x::l=>(List.range 256).any (fun c=>(S.getD x.toNat ZL) c&&seen c)||KW S (orS seen (S.getD x.toNat ZL)) l
def KD(S:List (Nat->Bool))(r:Rl):Bool:=
 if r.kind=9 then (S.getD r.elem.toNat ZL) r.stop.toNat else if r.kind=8 then KW S noS r.parts else false
def Q8G(S:List (Nat->Bool))(l:List Int):Nat->Bool:=l.foldl (fun s x=>orS s (S.getD x.toNat ZL)) noS
theorem Q15(S:List (Nat->Bool)):∀(l m:List Int) (s:Nat->Bool),KW S s (l++m)=(KW S s l||KW S (l.foldl (fun s x=>orS s (S.getD x.toNat ZL)) s) m)
 |[],m,s=>rfl
 |x::l,m,s=>by
  rw[List.cons_append,KW,KW,Q15 S l m,List.foldl_cons,Bool.or_assoc]
def ZW(s t:Nat->Bool)(c:Nat):Nat->Bool:=fun j=>if j<c then s j||t j else s j
theorem Qcz(s t:Nat->Bool):ZW s t 0=s:=by funext j;simp [ZW]
theorem Qfc(s t:Nat->Bool):Xc (ZW s t 256)=Xc (orS s t):=Vt fun j hj=>by simp [ZW,hj,orS]
theorem Q0f(s t:Nat->Bool)(c:Nat):(Xc (ZW s t c)).set c (.bool (s c||t c))=Xc (ZW s t (c+1)):=by
 rw[Q2I];congr 1;funext j;unfold ZW;by_cases h1:j=c
 ·subst h1;simp
 ·by_cases h2:j<c
  ·have:j<c+1:=by omega
   simp [h1,h2,this]
  ·have:¬j<c+1:=by omega
   simp [h1,h2,this]
theorem Qid(s t:Nat->Bool)(hc:c<256):(Xc (ZW s t c))[c]? =some (.bool (s c)):=by
 rw[Jc _ hc];simp [ZW]
theorem Qej(hr:ROk n r)(hS:S.length=n)(hrd:Rd W W.heap.size 256 (some ⟨b,0,none⟩) n (X5 S))(hk:r.kind=9):
  Calls Tryz.prog 120 #[.agg (ruC r (.slice Ab r.bs.length cb) (.slice An r.names.length cn) (.slice Ap r.parts.length cp)).toArray,.slice (some ⟨b,0,none⟩) n c] W (Q17 W (KD S r)):=by
 obtain⟨name,kind,bs,size,big,mn,mx,stop,count,elem,names,parts⟩:=r;have he:=hr.elem (.inr hk);have hs:=hr.stop (.inr (.inr hk));simp only at he hs hk;subst hk;have hs':0<=stop/\stop<(256:Nat):=by omega
 have hcell:W.cell? ⟨b,0+elem.toNat*256+stop.toNat*1,none⟩=some (.bool ((S.getD elem.toNat ZL) stop.toNat)):=by
  rw[Nat.mul_one,Nat.add_assoc];exact hrd.cellAt Q2 (Q2S S _ _ Q2 Q2)
 go_enter Tryz.func120,Tryz.ntmps120;refine Qy (M:=[]) (W:=W) (N:=55) (E:=[(0,.agg (ruC Qum (.slice Ab bs.length cb) Qo6 Qeg).toArray),Qu8]) (O:=[]) ?_ mc3 Xs;repeat(first|refine Q4 zA ?_|refine Q4 zF ?_|refine Q4 (zB 0) ?_|refine Q4 zC ?_|refine yB fun br=>?_|refine Qc ?_|refine Qa ?_|refine Q6 ?_|refine Q8 rfl ?_|refine Qh ?_|refine Q4 zer ?_)
 repeat(first|refine Q9 zM ?_|refine Q9 zA ?_|refine Q9 zF ?_|refine Q9 (zB 0) ?_|refine Q9 zC ?_|refine Q9 (QF rfl rfl Q1 rfl rfl rfl he) ?_|refine Q9 (Qcw rfl rfl Q1 rfl rfl rfl hs') ?_|refine XV ?_|refine Xh Q5 Q5 ?_)
 refine yt<|yk<|yc ?_;refine Qb mc4 rfl (.tmp rfl) (fun w hw=>Ys rfl hw)
theorem Qe3{A:Option Addr}(h9:(r.kind==9)=false)(h8:(r.kind==8)=false):
  Calls Tryz.prog 120 #[.agg (ruC r (.slice Ab r.bs.length cb) (.slice An r.names.length cn) (.slice Ap r.parts.length cp)).toArray,.slice A n c] W (Q17 W (KD S r)):=by
 go_enter Tryz.func120,Tryz.ntmps120;refine Qy (M:=[]) (W:=W) (N:=55) (E:=[Qt4,(1,.slice A n c)]) (O:=[]) ?_ mc3 Xs;repeat(first|refine Q4 zA ?_|refine Q4 zF ?_|refine Q4 (zB 0) ?_|refine yB fun br=>?_|refine Qc ?_|refine Qa ?_|refine Q6 ?_|refine Qp ?_|refine Q7 rfl ?_|refine Qu ?_|refine Qh ?_|refine Q4 zea ?_)
 refine Qb mc4 rfl (.tmp rfl) (fun w hw=>Ys ?_ hw);unfold KD;rw[if_neg (by simpa using h9),if_neg (by simpa using h8)]
theorem Qeo(hl:RuL W r Ab cb An cn Ap cp)(hr:ROk n r)(hS:S.length=n)(hrd:Rd W W.heap.size 256 (some ⟨b,0,none⟩) n (X5 S))(hk:r.kind=8):
  Calls Tryz.prog 120 #[.agg (ruC r (.slice Ab r.bs.length cb) (.slice An r.names.length cn) (.slice Ap r.parts.length cp)).toArray,.slice (some ⟨b,0,none⟩) n c] W (Q17 W (KD S r)):=by
 have h12:=hr.p12;have h2:=hr.eight hk;have hin:=hr.parts (.inr hk);have hp:=hl.p;obtain⟨name,kind,bs,size,big,mn,mx,stop,count,elem,names,parts⟩:=r;simp only at h12 h2 hin hp hk;subst hk;have HIN:=Q3 hin;have HRD:=Q3 hrd;clear hin hrd hl hr;obtain⟨bp,op,hA,hpb,hpc⟩:=hp.2 Q2;subst hA;have HPC:=Q3 hpc;clear hp hpc;have hconf:KD S ⟨name,8,bs,size,big,mn,mx,stop,count,elem,names,parts⟩=KW S noS parts:=rfl;rw[hconf];clear hconf;go_enter Tryz.func120,Tryz.ntmps120;refine Qy (M:=[]) (W:=W) (N:=55) (E:=[(0,.agg (ruC ⟨name,8,bs,size,big,mn,mx,stop,count,elem,names,parts⟩ (.slice Ab bs.length cb) (.slice An names.length cn) (.slice (some ⟨bp,op,none⟩) parts.length cp)).toArray),(1,.slice (some ⟨b,0,none⟩) n c)]) (O:=[]) ?_ (Ag.cons (Ag.cons (Ag.nil rfl rfl) rfl) rfl) (Wd.start [] W);repeat(first|refine Q4 zM ?_|refine Q4 zA ?_|refine Q4 zF ?_|refine Q4 (zB 0) ?_|refine Q4 (zB 1) ?_|refine yB fun br=>?_|refine yA (t:=92) fun b7=>?_|refine Qc ?_|refine Qa ?_|refine Q6 ?_|refine Q8 rfl ?_|refine Q7 rfl ?_|refine Qh ?_|refine Q4 zL ?_|refine Q4 zer ?_)
 refine Z0 (ι:=Nat) (fun j=>j<=parts.length/\KW S noS (parts.take j)=false) (fun j=>parts.length - j) (fun j=>[(1,.slice (some ⟨b,0,none⟩) n c),(5,.pointer (some ⟨b7,0,none⟩)),(25,.slice (some ⟨bp,op,none⟩) parts.length cp),(26,.int .i64 (parts.length:Int)),(27,.int .i64 (j:Int))]) (fun j=>[.blk b7 (.cells (Xc (Q8G S (parts.take j))).toArray 92 (0,0))]) 0 [0] Q1 ⟨Nat.zero_le _,rfl⟩ (.cons rfl rfl (.cons rfl rfl (.cons rfl rfl (.cons rfl rfl (.cons rfl rfl .nil))))) rfl ?_;rintro j ⟨hj,hno⟩;have HNO:=Q3 hno;clear hno;by_cases hjn:j<parts.length
 ·obtain⟨x,hx⟩:∃x,parts[j]? =some x:=⟨_,List.getElem?_eq_getElem hjn⟩;have hxn:=HIN.out x (List.mem_of_getElem? hx);have hcj:W.cell? ⟨bp,op+j,none⟩=some (.int .i64 x):=HPC.out j _ (by unfold iv;rw[List.getElem?_map,hx];rfl);have HX:=Q3 hx;clear hx;obtain⟨st,hst⟩:∃st,st=S.getD x.toNat ZL:=⟨_,rfl⟩;obtain⟨s,hs⟩:∃s,s=Q8G S (parts.take j):=⟨_,rfl⟩
  have hset:W.rangeAt b (0+x.toNat*256) (Xc st):=fun q u hu=>by
   rw[Nat.add_assoc];rw[hst] at hu;exact HRD.out.cellAt Q2 (Q2g S x.toNat Q2 q u hu)
  rw[<- hs];have HST:=Q3 hst;have HS:=Q3 hs;clear hst hs;repeat(first|refine Q4 zM ?_|refine Q4 zA ?_|refine Q4 zC ?_|refine Q4 (zD 0) ?_|refine Q4 zE ?_|refine Q4 (zi1 (hj:=hjn)) ?_|refine Q4 (QF rfl rfl Q1 rfl rfl rfl hxn) ?_|refine Qc ?_|refine Qa ?_|refine Q6 ?_|refine Qp ?_|refine Q8 rfl ?_|refine Qh ?_|refine Q4 zlt ?_)
  refine Z0 (ι:=Nat) (fun q=>q<=256/\∀i,i<q->(st i&&s i)=false) (fun q=>256 - q) (fun q=>[(1,.slice (some ⟨b,0,none⟩) n c),(5,.pointer (some ⟨b7,0,none⟩)),(25,.slice (some ⟨bp,op,none⟩) parts.length cp),(26,.int .i64 (parts.length:Int)),(27,.int .i64 (j:Int)),(34,.agg (Xc st).toArray),(35,.int .i64 (q:Int))]) (fun q=>[.blk b7 (.cells (Xc (ZW s st q)).toArray 92 (0,0))]) 0 [0] Q1 ⟨Nat.zero_le _,fun i hi=>absurd hi (Nat.not_lt_zero _)⟩ (.cons rfl rfl (.cons rfl rfl (.cons rfl rfl (.cons rfl rfl (.cons rfl rfl (.cons rfl rfl (.cons rfl rfl .nil))))))) (by rw[Qcz];rfl) ?_;rintro q ⟨hq,hmn⟩;have HMN:=Q3 hmn;clear hmn;by_cases hqn:q<256
  ·have hc0:(Xc (ZW s st q))[0+q*1]? =some (.bool (s q)):=by rw[Nat.zero_add,Nat.mul_one];exact Qid s st hqn
   obtain⟨sq,hsq⟩:∃sq,s q=sq:=⟨_,rfl⟩;obtain⟨tq,htq⟩:∃tq,st q=tq:=⟨_,rfl⟩;have htc:(Xc st)[q]? =some (.bool tq):=by rw[Jc st hqn,htq]
   rw[hsq] at hc0;have HSQ:=Q3 hsq;have HTQ:=Q3 htq;clear hsq htq;cases tq with
   |true=>
    cases sq with
    |true=>
     repeat(first|refine Q4 zM ?_|refine Q4 zA ?_|refine Q4 (KP (v:=.bool true) rfl rfl Q1 rfl rfl rfl hqn htc) ?_|refine Q4 (Zu rfl rfl Q1 rfl rfl rfl hqn) ?_|refine Q4 (zV 0 hc0) ?_|refine Qc ?_|refine Qa ?_|refine Q6 ?_|refine Qp ?_|refine Q8 rfl ?_|refine Qu ?_|refine Qh ?_|refine Qo ?_|refine Qt ?_|refine Q4 (XZ rfl rfl Q1 rfl rfl rfl (by first|exact decide_eq_true Q2|rfl)) ?_|refine Q4 zY ?_)
     refine Qb (by exact .inr rfl) rfl (.tmp rfl) (fun w hw=>Ys ?_ hw);have e1:KW S noS (parts.take (j+1))=true:=by
      rw[List.take_add_one,HX.out,Option.toList_some,Q15,HNO.out,Bool.false_or,KW,Bool.or_eq_true];refine .inl (List.any_eq_true.2 ⟨q,List.mem_range.2 hqn,?_⟩);rw[<- HST.out,HTQ.out];show (true&&Q8G S (parts.take j) q)=true;rw[<- HS.out,HSQ.out];rfl
     have e2:=Q15 S (parts.take (j+1)) (parts.drop (j+1)) noS;rw[List.take_append_drop,e1,Bool.true_or] at e2;exact e2.symm
    |false=>
     repeat(first|refine Q4 zM ?_|refine Q4 zA ?_|refine Q4 (KP (v:=.bool true) rfl rfl Q1 rfl rfl rfl hqn htc) ?_|refine Q4 (Zu rfl rfl Q1 rfl rfl rfl hqn) ?_|refine Q4 (zV 0 hc0) ?_|refine Qr (ZJ 0 rfl rfl rfl rfl rfl rfl hc0) rfl (fun _ _=>?_)|refine Qc ?_|refine Qa ?_|refine Q6 ?_|refine Qp ?_|refine Q8 rfl ?_|refine Q7 rfl ?_|refine Qh ?_|refine Q4 (XZ rfl rfl Q1 rfl rfl rfl (by first|exact decide_eq_true Q2|rfl)) ?_|refine Q4 zY ?_|refine Q4 zN ?_|refine Q4 zP ?_)
     refine QT (q+1) [0] Q1 ⟨hqn,fun i hi=>?_⟩ (by show 256 - (q+1)<256 - q;omega) (.cons rfl rfl (.cons rfl rfl (.cons rfl rfl (.cons rfl rfl (.cons rfl rfl (.cons rfl rfl (.cons rfl (by go_num) .nil))))))) ?_
     ·rcases Nat.lt_or_ge i q with h|h
      ·exact HMN.out i h
      ·obtain rfl:i=q:=by omega
       rw[HTQ.out,HSQ.out];rfl
     ·show [Qf.blk b7 (.cells ((Xc (ZW s st q)).set (0+q*1) (.bool true)).toArray _ _)]=[Qf.blk b7 (.cells (Xc (ZW s st (q+1))).toArray _ _)]
      rw[<- Q0f,HTQ.out,HSQ.out,Nat.zero_add,Nat.mul_one];rfl
   |false=>
    cases sq with
    |true=>
     repeat(first|refine Q4 zM ?_|refine Q4 zA ?_|refine Q4 zS ?_|refine Q4 (KP (v:=.bool false) rfl rfl Q1 rfl rfl rfl hqn htc) ?_|refine Q4 (Zu rfl rfl Q1 rfl rfl rfl hqn) ?_|refine Q4 (zV 0 hc0) ?_|refine Qr (ZJ 0 rfl rfl rfl rfl rfl rfl hc0) rfl (fun _ _=>?_)|refine Qc ?_|refine Qa ?_|refine Q6 ?_|refine Qp ?_|refine Q8 rfl ?_|refine Q7 rfl ?_|refine Qh ?_|refine Q4 (XZ rfl rfl Q1 rfl rfl rfl (by first|exact decide_eq_true Q2|rfl)) ?_|refine Q4 zY ?_|refine Q4 zN ?_|refine Q4 zP ?_)
     refine QT (q+1) [0] Q1 ⟨hqn,fun i hi=>?_⟩ (by show 256 - (q+1)<256 - q;omega) (.cons rfl rfl (.cons rfl rfl (.cons rfl rfl (.cons rfl rfl (.cons rfl rfl (.cons rfl rfl (.cons rfl (by go_num) .nil))))))) ?_
     ·rcases Nat.lt_or_ge i q with h|h
      ·exact HMN.out i h
      ·obtain rfl:i=q:=by omega
       rw[HTQ.out,HSQ.out];rfl
     ·show [Qf.blk b7 (.cells ((Xc (ZW s st q)).set (0+q*1) (.bool true)).toArray _ _)]=[Qf.blk b7 (.cells (Xc (ZW s st (q+1))).toArray _ _)]
      rw[<- Q0f,HTQ.out,HSQ.out,Nat.zero_add,Nat.mul_one];rfl
    |false=>
     repeat(first|refine Q4 zM ?_|refine Q4 zA ?_|refine Q4 zS ?_|refine Q4 (KP (v:=.bool false) rfl rfl Q1 rfl rfl rfl hqn htc) ?_|refine Q4 (Zu rfl rfl Q1 rfl rfl rfl hqn) ?_|refine Q4 (zV 0 hc0) ?_|refine Qr (ZJ 0 rfl rfl rfl rfl rfl rfl hc0) rfl (fun _ _=>?_)|refine Qc ?_|refine Qa ?_|refine Q6 ?_|refine Qp ?_|refine Q8 rfl ?_|refine Q7 rfl ?_|refine Qh ?_|refine Q4 (XZ rfl rfl Q1 rfl rfl rfl (by first|exact decide_eq_true Q2|rfl)) ?_|refine Q4 zN ?_|refine Q4 zP ?_)
     refine QT (q+1) [0] Q1 ⟨hqn,fun i hi=>?_⟩ (by show 256 - (q+1)<256 - q;omega) (.cons rfl rfl (.cons rfl rfl (.cons rfl rfl (.cons rfl rfl (.cons rfl rfl (.cons rfl rfl (.cons rfl (by go_num) .nil))))))) ?_
     ·rcases Nat.lt_or_ge i q with h|h
      ·exact HMN.out i h
      ·obtain rfl:i=q:=by omega
       rw[HTQ.out,HSQ.out];rfl
     ·show [Qf.blk b7 (.cells ((Xc (ZW s st q)).set (0+q*1) (.bool false)).toArray _ _)]=[Qf.blk b7 (.cells (Xc (ZW s st (q+1))).toArray _ _)]
      rw[<- Q0f,HTQ.out,HSQ.out,Nat.zero_add,Nat.mul_one];rfl
  ·skip
   repeat(first|refine Q4 zM ?_|refine Qc ?_|refine Qa ?_|refine Q6 ?_|refine Q7 rfl ?_|refine Xe ?_|refine Q4 (XZ rfl rfl Q1 rfl rfl rfl (by first|exact decide_eq_false Q2|rfl)) ?_|refine Q4 zP ?_)
   obtain rfl:q=256:=by omega
   refine QT (j+1) [0] Q1 ⟨hjn,?_⟩ (by show parts.length - (j+1)<parts.length - j;omega) (.cons rfl rfl (.cons rfl rfl (.cons rfl rfl (.cons rfl rfl (.cons rfl (by go_num) .nil))))) ?_
   ·rw[List.take_add_one,HX.out,Option.toList_some,Q15,HNO.out,Bool.false_or,KW]
    show (_||false)=false;rw[Bool.or_false,List.any_eq_false];intro i hi;rw[<- HST.out];have:=HMN.out i (List.mem_range.1 hi);show ¬(st i&&Q8G S (parts.take j) i)=true;rw[<- HS.out,this];exact Bool.false_ne_true
   ·show [Qf.blk b7 (.cells (Xc (ZW s st 256)).toArray _ _)]=[Qf.blk b7 (.cells (Xc (Q8G S (parts.take (j+1)))).toArray _ _)]
    rw[Qfc,List.take_add_one,HX.out,Option.toList_some];unfold Q8G;rw[List.foldl_append,HST.out,HS.out];rfl
 ·skip
  repeat(first|refine Q4 zA ?_|refine Qc ?_|refine Qa ?_|refine Q6 ?_|refine Q7 rfl ?_|refine Xe ?_|refine Qu ?_|refine Q4 zlf ?_)
  refine Qb (by exact .inr rfl) rfl (.tmp rfl) (fun w hw=>Ys ?_ hw);have:=HNO.out;rw[List.take_of_length_le Q2] at this;exact this.symm
theorem Q0x(hl:RuL W r Ab cb An cn Ap cp)(hr:ROk n r)(hS:S.length=n)(hrd:Rd W W.heap.size 256 (some ⟨b,0,none⟩) n (X5 S)):
  Calls Tryz.prog 120 #[.agg (ruC r (.slice Ab r.bs.length cb) (.slice An r.names.length cn) (.slice Ap r.parts.length cp)).toArray,.slice (some ⟨b,0,none⟩) n c] W (Q17 W (KD S r)):=by
 by_cases h9:r.kind=9
 ·exact Qej hr hS hrd h9
 ·by_cases h8:r.kind=8
  ·exact Qeo hl hr hS hrd h8
  ·exact Qe3 (beq_eq_false_iff_ne.2 h9) (beq_eq_false_iff_ne.2 h8)
end
section
variable {k n:Nat}{p:Nat->Bool}{r:Rl}
def Xy(n:Nat)(p:Nat->Bool):Option Nat:=(List.range n).find? p
theorem VA(hk:k<n)(hp:p k=true)(hl:∀j,j<k->p j=false):Xy n p=some k:=by
 unfold Xy;rw[List.find?_range_eq_some];exact⟨hp,List.mem_range.2 hk,fun j hj=>by rw[hl j hj];rfl⟩
theorem XK(hl:∀j,j<n->p j=false):Xy n p=none:=by
 unfold Xy;rw[List.find?_eq_none];intro j hj;rw[hl j (List.mem_range.1 hj)];exact Bool.false_ne_true
theorem Ko(h:Xy n p=none):∀j,j<n->p j=false:=fun j hj=>by
 unfold Xy at h;rw[List.find?_eq_none] at h;have:=h j (List.mem_range.2 hj);cases hp:p j with
 |false=>rfl
 |true=>exact absurd hp this
theorem Q14(h:Xy n p=some k):k<n/\p k=true/\∀j,j<k->p j=false:=by
 unfold Xy at h;rw[List.find?_range_eq_some] at h;exact⟨List.mem_range.1 h.2.1,h.1,fun j hj=>by simpa using h.2.2 j hj⟩
def J8(F:List Rl)(k:Nat):Int:=match F[k]? with|some r=>XM r (F.take k) F.length|none=>0
def VW(F:List Rl)(k:Nat):Int:=match F[k]? with|some r=>K9 F r|none=>0
def Jy(F:List Rl)(k:Nat):Bool:=match F[k]? with|some r=>KD (Q07 F) r|none=>false
theorem Q4k{F:List Rl}(h:F[k]? =some r):J8 F k=XM r (F.take k) F.length:=by unfold J8;rw[h]
theorem Q2x{F:List Rl}(h:F[k]? =some r):VW F k=K9 F r:=by unfold VW;rw[h]
theorem QdP{F:List Rl}(h:F[k]? =some r):Jy F k=KD (Q07 F) r:=by unfold Jy;rw[h]
def Xr(F:List Rl):Int×Int:=
 if F.length=0 then (10,-1) else if 40<F.length then (2,-1) else
 match Xy F.length (fun k=>J8 F k != 0) with
 |some k=>(J8 F k,k)
 |none=>match Xy F.length (fun k=>VW F k != 0) with
  |some k=>(VW F k,k)
  |none=>match Xy F.length (Q31 F) with
   |some k=>(22,k)
   |none=>match Xy F.length (fun k=>!((Jg F).getD k false)) with
    |some k=>(24,k)
    |none=>match Xy F.length (Jy F) with
     |some k=>(23,k)
     |none=>(0,0)
section
variable {F:List Rl}
theorem Q9o(h:F.length=0):Xr F=(10,-1):=by unfold Xr;rw[if_pos h]
theorem QbJ(h:40<F.length):Xr F=(2,-1):=by unfold Xr;rw[if_neg Q2,if_pos h]
theorem QbL(h0:0<F.length)(h1:F.length<=40)(hk:k<F.length)(hp:J8 F k≠0)(hl:∀j,j<k->J8 F j=0):Xr F=(J8 F k,(k:Int)):=by
 unfold Xr;rw[if_neg Q2,if_neg Q2,VA hk (by simpa using hp) (fun j hj=>by simpa using hl j hj)]
theorem Qe4(h0:0<F.length)(h1:F.length<=40)(ha:∀j,j<F.length->J8 F j=0)(hk:k<F.length)(hp:VW F k≠0)(hl:∀j,j<k->VW F j=0):Xr F=(VW F k,(k:Int)):=by
 unfold Xr;rw[if_neg Q2,if_neg Q2,XK (fun j hj=>by simpa using ha j hj),VA hk (by simpa using hp) (fun j hj=>by simpa using hl j hj)]
theorem QdY(h0:0<F.length)(h1:F.length<=40)(ha:∀j,j<F.length->J8 F j=0)(hb:∀j,j<F.length->VW F j=0)(hk:k<F.length)(hp:Q31 F k=true)(hl:∀j,j<k->Q31 F j=false):Xr F=(22,(k:Int)):=by
 unfold Xr;rw[if_neg Q2,if_neg Q2,XK (fun j hj=>by simpa using ha j hj),XK (fun j hj=>by simpa using hb j hj),VA hk hp hl]
def Q2m(F:List Rl):Int×Int:=
 match Xy F.length (fun k=>!((Jg F).getD k false)) with
 |some k=>(24,k)
 |none=>match Xy F.length (Jy F) with
  |some k=>(23,k)
  |none=>(0,0)
theorem Qd5(h0:0<F.length)(h1:F.length<=40)(ha:∀j,j<F.length->J8 F j=0)(hb:∀j,j<F.length->VW F j=0)(hc:∀j,j<F.length->Q31 F j=false):Xr F=Q2m F:=by
 unfold Xr;rw[if_neg Q2,if_neg Q2,XK (fun j hj=>by simpa using ha j hj),XK (fun j hj=>by simpa using hb j hj),XK hc];rfl
def Q6z(l:List Bool):Int:=match Xy l.length (fun k=>!(l.getD k false)) with|some k=>(k:Int)|none=>-1
theorem Qe6(hl:(Jg F).length=F.length)(h:0<=Q6z (Jg F)):Q2m F=(24,Q6z (Jg F)):=by
 unfold Q6z at h ⊢;rw[hl] at h ⊢;unfold Q2m;cases hf:Xy F.length (fun k=>!((Jg F).getD k false)) with
 |none=>rw[hf] at h;exact Q6w
 |some k=>rfl
theorem QaI(hl:(Jg F).length=F.length)(h:¬0<=Q6z (Jg F))(hk:k<F.length)(hp:Jy F k=true)(hj:∀j,j<k->Jy F j=false):Q2m F=(23,(k:Int)):=by
 unfold Q6z at h;rw[hl] at h;unfold Q2m;cases hf:Xy F.length (fun k=>!((Jg F).getD k false)) with
 |some k=>rw[hf] at h;exact absurd (Int.natCast_nonneg k) h
 |none=>rw[VA hk hp hj]
theorem QiN(hl:(Jg F).length=F.length)(h:¬0<=Q6z (Jg F))(hj:∀j,j<F.length->Jy F j=false):Q2m F=(0,0):=by
 unfold Q6z at h;rw[hl] at h;unfold Q2m;cases hf:Xy F.length (fun k=>!((Jg F).getD k false)) with
 |some k=>rw[hf] at h;exact absurd (Int.natCast_nonneg k) h
 |none=>rw[XK hj]
theorem Ql7(h:∀j,j<F.length->J8 F j=0):FOk F:=fun i r hr=>by
 have hi:i<F.length:=(List.getElem?_eq_some_iff.1 hr).1;have:=h i hi;rw[Q4k hr] at this;exact Qto this
theorem QoC(h:ROk n r):QhZ n r:=⟨fun hc=>h.count (by
  unfold Qv Z9 at hc
  simp at hc
  omega),fun h7=>⟨(h.seven h7).1.symm,h.parts (.inl h7)⟩⟩
end
end
def VR(x:List UInt8):Option Int:=if numOk x=true then some (Xx x) else none
def kwK(w:List UInt8):Int:=match JV.findIdx? (·==w) with|some i=>(i:Int)+1|none=>0
def Q6q(w:List UInt8):Option (List UInt8×List UInt8):=if ((Xf 58 w).2.2&&((Xf 58 w).1==[45]||Qk (Xf 58 w).1))&&Qk (Xf 58 w).2.1 then some (if (Xf 58 w).1==[45] then [] else (Xf 58 w).1,(Xf 58 w).2.1) else none
def Kw:List (List UInt8)->Option (List (List UInt8)×List (List UInt8))
 |[]=>some ([],[])
 |w::l=>match Q6q w,Kw l with|some (n,r),some (ns,rs)=>some (n::ns,r::rs)|_,_=>none
def Xo(name:List UInt8)(k:Int):Rl:=⟨name,k,[],0,false,0,0,0,0,0,[],[]⟩
def XQ(name:List UInt8)(k:Int)(ws:List (List UInt8)):Option (Rl×List (List UInt8)):=
 if k=1 then (match ws with|[x]=>if x=[] then none else (XI x).map fun b=>({ Xo name k with bs:=b },[])|_=>none)
 else if k=2 then (match ws with|[a,o,m,x]=>(match VR a,VR m,VR x with|some a,some m,some x=>if o=Q08\/o=JW then some ({ Xo name k with size:=a,big:=o==Q08,mn:=m,mx:=x },[]) else none|_,_,_=>none)|_=>none)
 else if k=3 then (match ws with|[a,b]=>(match VR a,VR b with|some a,some b=>some ({ Xo name k with stop:=a,mx:=b },[])|_,_=>none)|_=>none)
 else if k=4 then (match ws with|[a]=>(VR a).map fun a=>({ Xo name k with size:=a },[])|_=>none)
 else if k=5 then (match ws with|[a,b]=>(match VR a,VR b with|some a,some b=>some ({ Xo name k with stop:=a,size:=b },[])|_,_=>none)|_=>none)
 else if k=6 then (match ws with|[a,b]=>if Qk a&&Qk b then some (Xo name k,[a,b]) else none|_=>none)
 else if k=9 then (match ws with|[a,b]=>(match VR a with|some a=>if Qk b then some ({ Xo name k with stop:=a },[b]) else none|none=>none)|_=>none)
 else if k=10 then (match ws with|[a]=>if Qk a then some (Xo name k,[a]) else none|_=>none)
 else if k=7 then (Kw ws).map fun p=>({ Xo name k with names:=p.1 },p.2)
 else if k=8 then (if ws.all Qk then some (Xo name k,ws) else none)
 else none
def Yj:List (List UInt8)->Option (Rl×List (List UInt8))
 |name::kw::ws=>if Qk name then XQ name (kwK kw) ws else none
 |_=>none
def Vx(l:List UInt8):Option (Rl×List (List UInt8)):=Yj (spl 32 l)
def XC:Int->List (List UInt8)->Except Int (List (Rl×List (List UInt8)))
 |_,[]=>.ok []
 |k,[l]=>if l=[] then .ok [] else .error k
 |k,l::m::t=>match Vx l with
  |none=>.error k
  |some x=>(match XC (k+1) (m::t) with|.ok xs=>.ok (x::xs)|.error e=>.error e)
def Zs(F:List Rl):List (List UInt8)->Option (List Int)
 |[]=>some []
 |s::l=>if XN F s<0 then none else (Zs F l).map (XN F s::·)
def JO(x:Rl)(ns:List Int):Rl:=
 { x with count:=if Qv x.kind then ns.headD 0 else x.count,elem:=if Zy x.kind then (if Qv x.kind then ns.tail else ns).headD 0 else x.elem,parts:=if Zy x.kind then (if Qv x.kind then ns.tail else ns).tail else (if Qv x.kind then ns.tail else ns) }
def XX(F:List Rl)(x:Rl×List (List UInt8)):Option Rl:=(Zs F x.2).map (JO x.1)
def QO(F:List Rl):Int->List (Rl×List (List UInt8))->Except Int (List Rl)
 |_,[]=>.ok []
 |k,x::l=>match XX F x with
  |none=>.error k
  |some r=>(match QO F (k+1) l with|.ok rs=>.ok (r::rs)|.error e=>.error e)
def Qz(F:List Rl):Int×Int:=if Xr F≠(0,0) then Xr F else if 2000<(YP F).length then (14,-1) else (0,0)
def ZY(s:List UInt8):List Rl×Int×Int:=
 if 2000<s.length then ([],3,-1) else
 match XC 0 (spl 10 s) with
 |.error k=>([],1,k)
 |.ok xs=>match QO (xs.map (·.1)) 0 xs with
  |.error k=>([],12,k)
  |.ok F=>if Qz F≠(0,0) then ([],Qz F) else (F,0,0)
section
variable {k v:Int}{n:Nat}{r:Rl}{α β:Type}
theorem Q5y:∀(k u:Nat),u<10 ^ (k+1)->Lib.nDigits u<=k+1
 |0,u,h=>by rw[Lib.nDigits_small (by simpa using h)];omega
 |k+1,u,h=>by
  by_cases h1:u<10
  ·rw[Lib.nDigits_small h1];omega
  ·rw[Lib.nDigits_big h1];have:=Q5y k (u / 10) QlD
   omega
theorem YS(u:Nat):∀c∈Lib.decDigits u,48<=c.toNat/\c.toNat<=57:=by
 induction u using Nat.strongRecOn with
 |_ u ih=>
  intro c hc;rw[Lib.decDigits] at hc;split at hc
  ·next h=>
   rw[List.mem_singleton.1 hc];exact QbC
  ·next h=>
   rcases List.mem_append.1 hc with hc|hc
   ·exact ih (u / 10) Q2 c hc
   ·rw[List.mem_singleton.1 hc]
    exact QbC
theorem Q9n(u:Nat):Lib.decDigits u≠[]:=by
 intro h;have h1:=Lib.decDigits_length u;have h2:=Lib.nDigits_pos u;rw[h] at h1;simp at h1;omega
theorem Q8R(d:UInt8):∀(l:List UInt8) (acc v:Nat),Lib.parseUint10 acc l=.ok v->Lib.parseUint10 acc (l++[d])=Lib.parseUint10 v [d]
 |[],acc,v,h=>by
  simp only[Lib.parseUint10] at h
  injection h with h
  rw[<- h]
  rfl
 |c::l,acc,v,h=>by
  rw[List.cons_append];rw[Lib.parseUint10] at h ⊢
  split at h
  ·next h1=>
   rw[if_pos h1]
   split at h
   ·cases h
   ·next h2=>
    rw[if_neg h2]
    split at h
    ·cases h
    ·next h3=>
     rw[if_neg h3];exact Q8R d l _ v h
  ·cases h
theorem Qjg(u:Nat):u<9223372036854775808->Lib.parseUint10 0 (Lib.decDigits u)=.ok u:=by
 induction u using Nat.strongRecOn with
 |_ u ih=>
  intro hu;rw[Lib.decDigits];have hd:(UInt8.ofNat (48+u % 10)).toNat=48+u % 10:=by simp only[UInt8.toNat_ofNat'];omega
  split
  ·next h=>
   have hd':(UInt8.ofNat (48+u)).toNat=48+u:=by simp only[UInt8.toNat_ofNat'];omega
   rw[Lib.parseUint10,hd',if_pos Q2,if_neg Q2,if_neg Q2,Lib.parseUint10];congr 1;omega
  ·next h=>
   rw[Q8R _ _ _ _ (ih (u / 10) Q2 Q2),Lib.parseUint10,hd,if_pos Q2,if_neg Q2,if_neg Q2,Lib.parseUint10];congr 1;omega
theorem Qlx{u:Nat}(hu:u<9223372036854775808):Lib.atoiAll (Lib.decDigits u)=.ok (u:Int):=by
 cases hl:Lib.decDigits u with
 |nil=>exact absurd hl (Q9n u)
 |cons c r=>
  have hc:=YS u c (by rw[hl];exact List.mem_cons_self);have hp:=Qjg u hu;rw[hl] at hp;have hm:Lib.parseMag (c::r)=.ok u:=by
   unfold Lib.parseMag;rw[if_neg Qn];exact hp
  show Lib.atoiAll (c::r)=_;unfold Lib.atoiAll;simp only;rw[if_neg Q2,hm];simp only;rw[if_neg Q2,if_neg Q2,if_neg Q2]
theorem Q5o(h:0<=v):Lib.itoa v=Lib.decDigits v.toNat:=by unfold Lib.itoa;rw[if_neg Q2]
theorem Vm(h0:0<=v)(h1:v<=9999999999):VR (Lib.itoa v)=some v:=by
 have ha:Lib.atoiAll (Lib.itoa v)=.ok v:=by
  rw[Q5o h0,Qlx Q2];congr 1;omega
 have hl:(Lib.itoa v).length<=10:=by
  rw[Q5o h0,Lib.decDigits_length];exact Q5y 9 _ Q2
 have hok:numOk (Lib.itoa v)=true:=by
  unfold numOk;rw[ha];simp;omega
 unfold VR;rw[if_pos hok];unfold Xx;rw[ha]
def Wok(w:List UInt8):Prop:=(32:UInt8)∉w/\(10:UInt8)∉w
theorem Q3r(h:0<=v):Wok (Lib.itoa v):=by
 rw[Q5o h];exact⟨fun hm=>absurd (YS _ _ hm) Q1,fun hm=>absurd (YS _ _ hm) Q1⟩
theorem Q5u{l:List UInt8}(h:Qk l=true):Wok l/\(58:UInt8)∉l/\l≠[]/\l≠[45]:=by
 unfold Qk at h;rw[Bool.and_eq_true,Bool.and_eq_true,List.all_eq_true] at h;have ho:=h.2;refine⟨⟨fun hm=>absurd (ho _ hm) Q1,fun hm=>absurd (ho _ hm) Q1⟩,fun hm=>absurd (ho _ hm) Q1,?_,?_⟩
 ·rintro rfl
  have:=h.1.2;cases this
 ·rintro rfl
  have:=h.1.2;exact absurd this Q1
theorem QiS(h:1<=k/\k<=10):kwK (Jm k)=k:=by
 rcases (show k=1\/k=2\/k=3\/k=4\/k=5\/k=6\/k=7\/k=8\/k=9\/k=10 by omega) with rfl|rfl|rfl|rfl|rfl|rfl|rfl|rfl|rfl|rfl<;>decide
theorem QiP(h:1<=k/\k<=10):Wok (Jm k):=by
 rcases (show k=1\/k=2\/k=3\/k=4\/k=5\/k=6\/k=7\/k=8\/k=9\/k=10 by omega) with rfl|rfl|rfl|rfl|rfl|rfl|rfl|rfl|rfl|rfl<;>exact⟨by decide,by decide⟩
theorem QfF(h:n<16):(hx n).toNat=if n<10 then 48+n else 87+n:=by
 unfold hx;simp only[UInt8.toNat_ofNat'];split<;>omega
theorem Q5l(h:n<16):XG (hx n)=n:=by
 have:=QfF h;unfold XG;split at this
 ·rw[if_pos Q2];omega
 ·rw[if_neg Q2,if_pos Q2];omega
theorem QfL(c:UInt8):Q4d (hx (c.toNat / 16)) (hx (c.toNat % 16))=c:=by
 have hlt:c.toNat<256:=c.toNat_lt;refine UInt8.toNat.inj ?_;unfold Q4d;rw[Q5l Q2,Q5l Q2];exact QbC
theorem Q6P:∀bs:List UInt8,XI (Q0u bs)=some bs
 |[]=>rfl
 |c::l=>by
  have hlt:c.toNat<256:=c.toNat_lt
  show XI (hx (c.toNat / 16)::hx (c.toNat % 16)::Q0u l)=_;rw[XI,Q5l Q2,Q5l Q2,if_neg Q2,Q6P l,QfL];rfl
theorem QpZ{bs:List UInt8}(h:bs≠[]):Q0u bs≠[]:=by
 cases bs with
 |nil=>exact absurd rfl h
 |cons c l=>intro he;cases he
theorem Qk0(bs:List UInt8):Wok (Q0u bs):=by
 have key:∀c∈Q0u bs,(48<=c.toNat/\c.toNat<=57)\/(97<=c.toNat/\c.toNat<=102):=by
  intro c hc;unfold Q0u at hc;rw[List.mem_flatten] at hc;obtain⟨l,hl,hc⟩:=hc;rw[List.mem_map] at hl;obtain⟨b,_,rfl⟩:=hl;have hlt:b.toNat<256:=b.toNat_lt;unfold Qpo at hc;rcases List.mem_cons.1 hc with rfl|hc
  ·have:=QfF (n:=b.toNat / 16) Q2
   split at this<;>omega
  ·rw[List.mem_singleton.1 hc];have:=QfF (n:=b.toNat % 16) Q2
   split at this<;>omega
 exact⟨fun hm=>absurd (key _ hm) Q1,fun hm=>absurd (key _ hm) Q1⟩
theorem Q6C{c:UInt8}:∀{x:List UInt8} (s:List UInt8),c∉x->Xf c (x++c::s)=(x,s,true)
 |[],s,_=>by
  show Xf c (c::s)=_
  rw[Xf,if_pos rfl]
 |b::l,s,h=>by
  show Xf c (b::(l++c::s))=_
  rw[Xf,if_neg (fun e=>h (by rw[e];exact List.mem_cons_self)),Q6C s fun hm=>h (List.mem_cons_of_mem _ hm)]
def Q4o(n r:List UInt8):List UInt8:=(if n==[] then [45] else n)++[58]++r
theorem Qcf{n r:List UInt8}(hn:n=[]\/Qk n=true)(hr:Qk r=true):Q6q (Q4o n r)=some (n,r):=by
 unfold Q6q Q4o;rw[List.append_assoc,List.singleton_append];rcases hn with rfl|hn
 ·rw[show Xf 58 ((if (([]:List UInt8)==[])=true then [45] else [])++58::r)=([45],r,true) from Q6C (x:=[45]) r Q1]
  simp only;rw[if_pos (by rw[hr];rfl)];rfl
 ·have h:=Q5u hn;have h1:(n==([]:List UInt8))=false:=beq_eq_false_iff_ne.2 h.2.2.1;have h2:(n==([45]:List UInt8))=false:=beq_eq_false_iff_ne.2 h.2.2.2
  have e:Xf 58 ((if (n==([]:List UInt8))=true then [45] else n)++58::r)=(n,r,true):=by
   rw[h1,if_neg Bool.false_ne_true];exact Q6C r h.2.1
  rw[e];simp only;rw[h2,if_pos (by rw[hn,hr];rfl),if_neg Bool.false_ne_true]
theorem Q1h{g:Int->List UInt8}:∀(ns:List (List UInt8)) (ps:List Int),ns.length=ps.length->(∀n∈ns,n=[]\/Qk n=true)->(∀p∈ps,Qk (g p)=true)->Kw (List.zipWith (fun n p=>Q4o n (g p)) ns ps)=some (ns,ps.map g)
 |[],[],_,_,_=>rfl
 |[],_::_,h,_,_=>by cases h
 |_::_,[],h,_,_=>by cases h
 |n::ns,p::ps,h,hn,hp=>by
  rw[List.zipWith_cons_cons,Kw,Qcf (hn n List.mem_cons_self) (hp p List.mem_cons_self),Q1h ns ps (by simpa using h) (fun x hx=>hn x (List.mem_cons_of_mem _ hx)) (fun x hx=>hp x (List.mem_cons_of_mem _ hx))]
  rfl
theorem Qie(f:α->β)(d:α)(l:List α):(List.range l.length).map (fun i=>f (l.getD i d))=l.map f:=by
 refine List.ext_getElem Qn fun i h1 h2=>?_;have hi:i<l.length:=by simpa using h1
 simp [List.getD_eq_getElem?_getD,List.getElem?_eq_getElem hi]
theorem Qjm{γ:Type}(f:α->β->γ)(d:α)(e:β)(l:List α)(m:List β)(h:l.length=m.length):(List.range m.length).map (fun i=>f (l.getD i d) (m.getD i e))=List.zipWith f l m:=by
 refine List.ext_getElem (by simp [h]) fun i h1 h2=>?_;have hi:i<m.length:=by simpa using h1
 have hi':i<l.length:=by omega
 simp [List.getD_eq_getElem?_getD,List.getElem?_eq_getElem hi,List.getElem?_eq_getElem hi']
theorem Qh2(F:List Rl)(hk:r.kind=7)(hl:r.names.length=r.parts.length):(List.range r.parts.length).map (Z7 F r)=List.zipWith (fun n p=>Q4o n (JM F p)) r.names r.parts:=by
 rw[<- Qjm (fun n p=>Q4o n (JM F p)) [] 0 r.names r.parts hl];refine List.map_congr_left fun i _=>?_;unfold Z7 Q4o;rw[hk];simp
theorem Qgu(F:List Rl)(hk:r.kind≠7):(List.range r.parts.length).map (Z7 F r)=r.parts.map (JM F):=by
 rw[<- Qie (JM F) 0 r.parts];refine List.map_congr_left fun i _=>?_;unfold Z7;rw[beq_eq_false_iff_ne.2 hk];simp
end
section
variable {n:Nat}{r:Rl}
structure Zr(r:Rl):Prop where
 bs:r.kind≠1->r.bs=[]
 stop:r.kind≠3->r.kind≠5->r.kind≠9->r.stop=0
 size:r.kind≠2->r.kind≠4->r.kind≠5->r.size=0
 big:r.kind≠2->r.big=false
 mn:r.kind≠2->r.mn=0
 mx:r.kind≠2->r.kind≠3->r.mx=0
 count:r.kind≠6->r.kind≠10->r.count=0
 elem:r.kind≠6->r.kind≠9->r.elem=0
 names:r.kind≠7->r.names=[]
 parts:r.kind≠7->r.kind≠8->r.parts=[]
theorem Q5R(h:ROk n r):Zr r:=by
 have hf:=h.formed;unfold Y4 Jh Je JC Qv Zy Vs Z9 at hf;simp only[Bool.and_eq_true,Bool.or_eq_true,beq_iff_eq,List.contains_iff_mem,List.mem_cons,List.not_mem_nil,or_false,Bool.not_eq_true'] at hf;obtain⟨⟨⟨⟨⟨⟨⟨⟨h1,h2⟩,h3⟩,h4⟩,h5⟩,h6⟩,h7⟩,h8⟩,h9⟩:=hf;refine⟨fun h=>?_,fun _ _ _=>by omega,fun _ _ _=>by omega,fun h=>?_,fun h=>?_,fun _ _=>by omega,fun _ _=>by omega,fun _ _=>by omega,fun h=>?_,fun h h'=>?_⟩
 ·exact Qnf
 ·exact(h4.resolve_right h).1
 ·exact(h4.resolve_right h).2
 ·exact Qnf
 ·exact Qnf
def Q96(r:Rl):Rl:={ r with count:=0,elem:=0,parts:=[] }
def Q20(F:List Rl)(r:Rl):List (List UInt8):=(if Qv r.kind then [JM F r.count] else [])++(if Zy r.kind then [JM F r.elem] else [])++r.parts.map (JM F)
def Q3F(r:Rl):List Int:=(if Qv r.kind then [r.count] else [])++(if Zy r.kind then [r.elem] else [])++r.parts
structure LOk(F:List Rl)(r:Rl):Prop where
 ok:ROk F.length r
 name:Qk r.name=true
 all:∀x:Int,0<=x/\x<F.length->Qk (JM F x)=true
 part:r.kind=7->∀s∈r.names,s=[]\/Qk s=true
theorem QfN{name:List UInt8}(h:Qk name=true){k:Int}(hk:1<=k/\k<=10)(ws:List (List UInt8)):Yj (name::Jm k::ws)=XQ name k ws:=by
 show (if Qk name=true then XQ name (kwK (Jm k)) ws else none)=_;rw[if_pos h,QiS hk]
theorem Qe5{F:List Rl}(h:LOk F r):Yj (Zt F r)=some (Q96 r,Q20 F r):=by
 have hz:=Q5R h.ok;have hok:=h.ok;have hall:=h.all;have hname:=h.name;have hpart:=h.part;obtain⟨name,kind,bs,size,big,mn,mx,stop,count,elem,names,parts⟩:=r;obtain⟨z1,z2,z3,z4,z5,z6,z7,z8,z9,z10⟩:=hz;have hk:=hok.kind;have k1:=hok.bs1;have k7:=hok.seven;have kp:=hok.parts;have kc:=hok.count;have ke:=hok.elem;have k2:=hok.num;have k3:=hok.dec;have ks:=hok.stop;have k4:=hok.size4;have k5:=hok.size5;clear hok h;simp only at z1 z2 z3 z4 z5 z6 z7 z8 z9 z10 hk k1 k7 kp kc ke k2 k3 ks k4 k5 hname hpart;rcases (show kind=1\/kind=2\/kind=3\/kind=4\/kind=5\/kind=6\/kind=7\/kind=8\/kind=9\/kind=10 by omega) with rfl|rfl|rfl|rfl|rfl|rfl|rfl|rfl|rfl|rfl
 ·obtain rfl:=z2 Q1 Q1 Q1;obtain rfl:=z3 Q1 Q1 Q1;obtain rfl:=z4 Q1;obtain rfl:=z5 Q1;obtain rfl:=z6 Q1 Q1;obtain rfl:=z7 Q1 Q1;obtain rfl:=z8 Q1 Q1;obtain rfl:=z9 Q1;obtain rfl:=z10 Q1 Q1;have hb:=k1 rfl
  have hne:bs≠[]:=fun e=>by rw[e] at hb;exact absurd hb Q1
  show Yj (name::Jm 1::[Q0u bs])=_;refine Q1j ?_;rw[if_pos rfl];simp only;rw[if_neg (QpZ hne),Q6P];rfl
 ·obtain rfl:=z1 Q1;obtain rfl:=z2 Q1 Q1 Q1;obtain rfl:=z7 Q1 Q1;obtain rfl:=z8 Q1 Q1;obtain rfl:=z9 Q1;obtain rfl:=z10 Q1 Q1;obtain⟨a1,a2,a3,a4,a5⟩:=k2 rfl
  have a6:mx<=4294967295:=by
   clear k3 ks k4 k5 k1 k7 kp kc ke k2;rcases (show size=1\/size=2\/size=3\/size=4 by omega) with rfl|rfl|rfl|rfl<;>simp at a5<;>omega
  show Yj (name::Jm 2::[Lib.itoa size,if big then Q08 else JW,Lib.itoa mn,Lib.itoa mx])=_;refine Q1j ?_;rw[if_neg Q1,if_pos rfl];simp only;rw[Vm Q2 Q2,Vm Q2 Q2,Vm Q2 Q2];cases big<;>rfl
 ·obtain rfl:=z1 Q1;obtain rfl:=z3 Q1 Q1 Q1;obtain rfl:=z4 Q1;obtain rfl:=z5 Q1;obtain rfl:=z7 Q1 Q1;obtain rfl:=z8 Q1 Q1;obtain rfl:=z9 Q1;obtain rfl:=z10 Q1 Q1;have a1:=k3 rfl;have a2:=ks (.inl rfl)
  show Yj (name::Jm 3::[Lib.itoa stop,Lib.itoa mx])=_;refine Q1j ?_;rw[if_neg Q1,if_neg Q1,if_pos rfl];exact Qo1
 ·obtain rfl:=z1 Q1;obtain rfl:=z2 Q1 Q1 Q1;obtain rfl:=z4 Q1;obtain rfl:=z5 Q1;obtain rfl:=z6 Q1 Q1;obtain rfl:=z7 Q1 Q1;obtain rfl:=z8 Q1 Q1;obtain rfl:=z9 Q1;obtain rfl:=z10 Q1 Q1;have a1:=k4 rfl
  show Yj (name::Jm 4::[Lib.itoa size])=_;refine Q1j ?_;rw[if_neg Q1,if_neg Q1,if_neg Q1,if_pos rfl];simp only;rw[Vm Q2 Q2];rfl
 ·obtain rfl:=z1 Q1;obtain rfl:=z4 Q1;obtain rfl:=z5 Q1;obtain rfl:=z6 Q1 Q1;obtain rfl:=z7 Q1 Q1;obtain rfl:=z8 Q1 Q1;obtain rfl:=z9 Q1;obtain rfl:=z10 Q1 Q1;have a1:=k5 rfl;have a2:=ks (.inr (.inl rfl))
  show Yj (name::Jm 5::[Lib.itoa stop,Lib.itoa size])=_;refine Q1j ?_;rw[if_neg Q1,if_neg Q1,if_neg Q1,if_neg Q1,if_pos rfl];exact Qo1
 ·obtain rfl:=z1 Q1;obtain rfl:=z2 Q1 Q1 Q1;obtain rfl:=z3 Q1 Q1 Q1;obtain rfl:=z4 Q1;obtain rfl:=z5 Q1;obtain rfl:=z6 Q1 Q1;obtain rfl:=z9 Q1;obtain rfl:=z10 Q1 Q1;have a1:=hall _ (kc (.inl rfl));have a2:=hall _ (ke (.inl rfl))
  show Yj (name::Jm 6::[JM F count,JM F elem])=_;refine Q1j ?_;rw[if_neg Q1,if_neg Q1,if_neg Q1,if_neg Q1,if_neg Q1,if_pos rfl];simp only;rw[a1,a2];rfl
 ·obtain rfl:=z1 Q1;obtain rfl:=z2 Q1 Q1 Q1;obtain rfl:=z3 Q1 Q1 Q1;obtain rfl:=z4 Q1;obtain rfl:=z5 Q1;obtain rfl:=z6 Q1 Q1;obtain rfl:=z7 Q1 Q1;obtain rfl:=z8 Q1 Q1;have hl:names.length=parts.length:=(k7 rfl).1;have e:=Qh2 F (r:=⟨name,7,[],0,false,0,0,0,0,0,names,parts⟩) rfl hl
  unfold Zt;rw[e];show Yj (name::Jm 7::List.zipWith (fun n p=>Q4o n (JM F p)) names parts)=_;refine Q1j ?_;rw[if_neg Q1,if_neg Q1,if_neg Q1,if_neg Q1,if_neg Q1,if_neg Q1,if_neg Q1,if_neg Q1,if_pos rfl];rw[Q1h names parts hl (hpart rfl) (fun p hp=>hall p (kp (.inl rfl) p hp))];rfl
 ·obtain rfl:=z1 Q1;obtain rfl:=z2 Q1 Q1 Q1;obtain rfl:=z3 Q1 Q1 Q1;obtain rfl:=z4 Q1;obtain rfl:=z5 Q1;obtain rfl:=z6 Q1 Q1;obtain rfl:=z7 Q1 Q1;obtain rfl:=z8 Q1 Q1;obtain rfl:=z9 Q1;have e:=Qgu F (r:=⟨name,8,[],0,false,0,0,0,0,0,[],parts⟩) (show (8:Int)≠7 by decide)
  unfold Zt;rw[e];show Yj (name::Jm 8::parts.map (JM F))=_;refine Q1j ?_;rw[if_neg Q1,if_neg Q1,if_neg Q1,if_neg Q1,if_neg Q1,if_neg Q1,if_neg Q1,if_neg Q1,if_neg Q1,if_pos rfl,if_pos]
  ·rfl
  ·rw[List.all_eq_true];intro x hx;rw[List.mem_map] at hx;obtain⟨p,hp,rfl⟩:=hx;exact hall p (kp (.inr rfl) p hp)
 ·obtain rfl:=z1 Q1;obtain rfl:=z3 Q1 Q1 Q1;obtain rfl:=z4 Q1;obtain rfl:=z5 Q1;obtain rfl:=z6 Q1 Q1;obtain rfl:=z7 Q1 Q1;obtain rfl:=z9 Q1;obtain rfl:=z10 Q1 Q1;have a1:=ks (.inr (.inr rfl));have a2:=hall _ (ke (.inr rfl))
  show Yj (name::Jm 9::[Lib.itoa stop,JM F elem])=_;refine Q1j ?_;rw[if_neg Q1,if_neg Q1,if_neg Q1,if_neg Q1,if_neg Q1,if_neg Q1,if_pos rfl];simp only;rw[Vm Q2 Q2];simp only;rw[if_pos a2];rfl
 ·obtain rfl:=z1 Q1;obtain rfl:=z2 Q1 Q1 Q1;obtain rfl:=z3 Q1 Q1 Q1;obtain rfl:=z4 Q1;obtain rfl:=z5 Q1;obtain rfl:=z6 Q1 Q1;obtain rfl:=z8 Q1 Q1;obtain rfl:=z9 Q1;obtain rfl:=z10 Q1 Q1;have a1:=hall _ (kc (.inr rfl))
  show Yj (name::Jm 10::[JM F count])=_;refine Q1j ?_;rw[if_neg Q1,if_neg Q1,if_neg Q1,if_neg Q1,if_neg Q1,if_neg Q1,if_neg Q1,if_pos rfl];simp only;rw[if_pos a1];rfl
theorem Q9u(h:ROk n r):JO (Q96 r) (Q3F r)=r:=by
 have hz:=Q5R h;have hk:=h.kind;obtain⟨name,kind,bs,size,big,mn,mx,stop,count,elem,names,parts⟩:=r;obtain⟨z1,z2,z3,z4,z5,z6,z7,z8,z9,z10⟩:=hz;clear h;simp only at z7 z8 z10 hk;rcases (show kind=1\/kind=2\/kind=3\/kind=4\/kind=5\/kind=6\/kind=7\/kind=8\/kind=9\/kind=10 by omega) with rfl|rfl|rfl|rfl|rfl|rfl|rfl|rfl|rfl|rfl
 ·exact Qct
 ·exact Qct
 ·exact Qct
 ·exact Qct
 ·exact Qct
 ·rw[z10 Q1 Q1];rfl
 ·rw[z7 Q1 Q1,z8 Q1 Q1];rfl
 ·rw[z7 Q1 Q1,z8 Q1 Q1];rfl
 ·rw[z7 Q1 Q1,z10 Q1 Q1];rfl
 ·rw[z8 Q1 Q1,z10 Q1 Q1];rfl
end
section
variable {i n:Nat}{r:Rl}
theorem Q8k(F:List Rl)(s:List UInt8):XN F s=match (F.map (·.name)).findIdx? (·==s) with|some i=>(i:Int)|none=>-1:=by
 unfold XN;rw[List.findIdx?_map];rfl
theorem Qbu{F G:List Rl}(h:F.map (·.name)=G.map (·.name))(s:List UInt8):XN F s=XN G s:=by rw[Q8k,Q8k,h]
theorem Qff{F:List Rl}{s:List UInt8}(h:XN F s<0):∀(j:Nat) (r:Rl),F[j]? =some r->¬r.name=s:=by
 unfold XN at h;cases hf:F.findIdx? (fun r=>r.name==s) with
 |some i=>rw[hf] at h;simp only at h;omega
 |none=>
  rw[List.findIdx?_eq_none_iff] at hf;intro j r hr hn;have:=hf r (List.mem_of_getElem? hr);rw[hn] at this;simp at this
theorem Qf2{early:List Rl}(h:XM r early n=0):Qk r.name=true/\XN early r.name<0:=by
 unfold XM at h;split at h
 ·cases h
 next h1=>
 split at h
 ·cases h
 next h2=>
 refine⟨by simpa using h1,?_⟩;simpa using h2
theorem Q4O{g:Nat->Int}:∀(n i:Nat),V0 g i n=0->∀j,i<=j->j<i+n->g j=0
 |0,i,_,j,h1,h2=>absurd h1 Q2
 |n+1,i,h,j,h1,h2=>by
  rw[V0] at h
  split at h
  ·next h0=>
   rcases Nat.eq_or_lt_of_le h1 with rfl|h3
   ·exact h0
   ·exact Q4O n (i+1) h j h3 Q2
  ·next h0=>exact absurd h h0
theorem Qfr{F:List Rl}(h:K9 F r=0)(hk:r.kind=7):∀s∈r.names,s=[]\/Qk s=true:=by
 have hc:Qv r.kind=false:=by rw[hk];rfl
 unfold K9 at h;rw[hc,hk] at h;have h:V0 (VY F r.names r.parts) 0 r.names.length=0:=h;intro s hs;obtain⟨j,hj,e⟩:=List.mem_iff_getElem.1 hs;have h0:=Q4O _ _ h j Q2 Q2;unfold VY at h0;rw[List.getD_eq_getElem?_getD,List.getElem?_eq_getElem hj,e] at h0;simp only[Option.getD_some] at h0;split at h0
 ·next h1=>exact .inl (by simpa using h1)
 ·split at h0
  ·cases h0
  ·next h2=>exact .inr (by simpa using h2)
structure POk(F:List Rl):Prop where
 rule:∀j,j<F.length->J8 F j=0
 use:∀j,j<F.length->VW F j=0
theorem Q2l{F:List Rl}(h:Xr F=(0,0)):POk F:=by
 unfold Xr at h;split at h
 ·cases h
 split at h
 ·cases h
 cases h1:Xy F.length (fun k=>J8 F k != 0) with
 |some k=>rw[h1] at h;have:=(Q14 h1).2.1;simp only[Prod.mk.injEq] at h;rw[h.1] at this;cases this
 |none=>
  rw[h1] at h;simp only at h;cases h2:Xy F.length (fun k=>VW F k != 0) with
  |some k=>rw[h2] at h;have:=(Q14 h2).2.1;simp only[Prod.mk.injEq] at h;rw[h.1] at this;cases this
  |none=>exact⟨fun j hj=>by simpa using Ko h1 j hj,fun j hj=>by simpa using Ko h2 j hj⟩
section
variable {F:List Rl}
theorem POk.name(h:POk F)(hr:F[i]? =some r):Qk r.name=true/\XN (F.take i) r.name<0:=by
 have:=h.rule i (List.getElem?_eq_some_iff.1 hr).1;rw[Q4k hr] at this;exact Qf2 this
theorem POk.fok(h:POk F):FOk F:=Ql7 h.rule
theorem POk.self(h:POk F)(hr:F[i]? =some r):XN F r.name=(i:Int):=
 Q7X hr rfl fun j r' hj hr'=>Qff (h.name hr).2 j r' (by rw[List.getElem?_take,if_pos hj];exact hr')
theorem POk.find(h:POk F){x:Int}(hx:0<=x/\x<F.length):Qk (JM F x)=true/\XN F (JM F x)=x:=by
 have hr:F[x.toNat]? =some F[x.toNat]:=List.getElem?_eq_getElem Q2;rw[Q5q hr];refine⟨(h.name hr).1,?_⟩;rw[h.self hr];omega
theorem POk.line(h:POk F)(hr:F[i]? =some r):LOk F r:=
 ⟨h.fok i r hr,(h.name hr).1,fun x hx=>(h.find hx).1,fun hk=>Qfr (by
  have:=h.use i (List.getElem?_eq_some_iff.1 hr).1
  rwa [Q2x hr] at this) hk⟩
theorem Qik(F:List Rl)(r:Rl):Q20 F r=(Q3F r).map (JM F):=by
 unfold Q20 Q3F;rw[List.map_append,List.map_append];cases Qv r.kind<;>cases Zy r.kind<;>rfl
theorem QgR(h:ROk n r):∀x∈Q3F r,0<=x/\x<n:=by
 intro x hx;unfold Q3F at hx;rw[List.mem_append,List.mem_append] at hx;rcases hx with (hx|hx)|hx
 ·split at hx
  ·next hu=>
   rw[List.mem_singleton.1 hx];refine h.count ?_;unfold Qv Z9 at hu;simp at hu;omega
  ·cases hx
 ·split at hx
  ·next hu=>
   rw[List.mem_singleton.1 hx];refine h.elem ?_;unfold Zy Z9 at hu;simp at hu;omega
  ·cases hx
 ·by_cases hk:r.kind=7\/r.kind=8
  ·exact h.parts hk x hx
  ·rw[(Q5R h).parts Q2 Q2] at hx
   cases hx
theorem Qdq{c:UInt8}{sep:List UInt8}:∀{ws:List (List UInt8)},c∈Lib.join ws sep->c∈sep\/∃w∈ws,c∈w
 |[],h=>by cases h
 |[x],h=>by rw[Lib.join_one] at h;exact .inr ⟨x,List.mem_cons_self,h⟩
 |x::y::r,h=>by
  rw[Lib.join_cons,ZT,List.mem_append,List.mem_append] at h
  rcases h with h|h|h
  ·exact .inr ⟨x,List.mem_cons_self,h⟩
  ·exact .inl h
  ·have h':c∈Lib.join (y::r) sep:=by rw[Lib.join_cons];exact h
   rcases Qdq h' with h|⟨w,hw,h⟩
   ·exact .inl h
   ·exact .inr ⟨w,List.mem_cons_of_mem _ hw,h⟩
theorem QbY(h:LOk F r):∀w∈Zt F r,Wok w:=by
 have hz:=Q5R h.ok;have hk:=h.ok.kind;have hnm:∀x:Int,0<=x/\x<F.length->Wok (JM F x):=fun x hx=>(Q5u (h.all x hx)).1;have hifw:∀(u:Bool) (s w:List UInt8),(u=true->Wok s)->w∈ifW u s->Wok w:=by
  intro u s w hs hw;unfold ifW at hw;split at hw
  ·next hu=>rw[List.mem_singleton.1 hw];exact hs hu
  ·cases hw
 have u3:∀{k:Int},Jh k=true->k=3\/k=5\/k=9:=fun {k} hu=>by unfold Jh Z9 at hu;simpa using hu
 have u4:∀{k:Int},Je k=true->k=2\/k=4\/k=5:=fun {k} hu=>by unfold Je Z9 at hu;simpa using hu
 have u5:∀{k:Int},JC k=true->k=2\/k=3:=fun {k} hu=>by unfold JC Z9 at hu;simpa using hu
 have u6:∀{k:Int},Qv k=true->k=6\/k=10:=fun {k} hu=>by unfold Qv Z9 at hu;simpa using hu
 have u7:∀{k:Int},Zy k=true->k=6\/k=9:=fun {k} hu=>by unfold Zy Z9 at hu;simpa using hu
 intro w hw;unfold Zt Q28 at hw;simp only[List.mem_append] at hw;rcases hw with (((((((((hw|hw)|hw)|hw)|hw)|hw)|hw)|hw)|hw))|hw
 ·rcases List.mem_cons.1 hw with rfl|hw
  ·exact(Q5u h.name).1
  ·rw[List.mem_singleton.1 hw];exact QiP hk
 ·exact hifw _ _ _ (fun _=>Qk0 _) hw
 ·exact hifw _ _ _ (fun hu=>Q3r (h.ok.stop (u3 hu)).1) hw
 ·refine hifw _ _ _ (fun hu=>Q3r ?_) hw
  rcases u4 hu with h2|h4|h5
  ·have:=(h.ok.num h2).1;omega
  ·have:=(h.ok.size4 h4).1;omega
  ·exact(h.ok.size5 h5).1
 ·refine hifw _ _ _ (fun _=>?_) hw
  split
  ·exact⟨by decide,by decide⟩
  ·exact⟨by decide,by decide⟩
 ·refine hifw _ _ _ (fun hu=>Q3r ?_) hw
  have h2:r.kind=2:=by simpa using hu
  exact(h.ok.num h2).2.2.1
 ·refine hifw _ _ _ (fun hu=>Q3r ?_) hw
  rcases u5 hu with h2|h3
  ·have:=h.ok.num h2;omega
  ·exact(h.ok.dec h3).1
 ·exact hifw _ _ _ (fun hu=>hnm _ (h.ok.count (u6 hu))) hw
 ·exact hifw _ _ _ (fun hu=>hnm _ (h.ok.elem (u7 hu))) hw
 ·by_cases h7:r.kind=7
  ·rw[Qh2 F h7 (h.ok.seven h7).1,List.mem_iff_getElem] at hw;obtain⟨i,hi,e⟩:=hw;rw[List.getElem_zipWith] at e
   have hi':i<r.names.length/\i<r.parts.length:=by rw[List.length_zipWith] at hi;omega
   have hn:=h.part h7 _ (List.getElem_mem hi'.1);have hp:=hnm _ (h.ok.parts (.inl h7) _ (List.getElem_mem hi'.2));rw[<- e];unfold Q4o;obtain⟨n,hne⟩:∃n,n=r.names[i]:=⟨_,rfl⟩;rw[<- hne] at hn ⊢;have hN:Wok (if n==[] then [45] else n):=by
    split
    ·exact⟨by decide,by decide⟩
    ·next hne=>
     rcases hn with rfl|hn
     ·exact absurd rfl hne
     ·exact(Q5u hn).1
   refine⟨fun hm=>?_,fun hm=>?_⟩
   ·rw[List.mem_append,List.mem_append] at hm
    rcases hm with (hm|hm)|hm
    ·exact hN.1 hm
    ·exact absurd hm Q1
    ·exact hp.1 hm
   ·rw[List.mem_append,List.mem_append] at hm
    rcases hm with (hm|hm)|hm
    ·exact hN.2 hm
    ·exact absurd hm Q1
    ·exact hp.2 hm
  ·rw[Qgu F h7,List.mem_map] at hw;obtain⟨p,hp,rfl⟩:=hw
   by_cases h8:r.kind=8
   ·exact hnm _ (h.ok.parts (.inr h8) p hp)
   ·rw[hz.parts h7 h8] at hp;cases hp
theorem Qbb(F:List Rl)(r:Rl):∃ws,Zt F r=r.name::ws:=by
 unfold Zt Q28;exact⟨_,by simp only[List.cons_append,List.nil_append,List.append_assoc];rfl⟩
theorem QeO(h:LOk F r):Vx (Lib.join (Zt F r) [32])=some (Q96 r,Q20 F r):=by
 unfold Vx;obtain⟨ws,e⟩:=Qbb F r;have hw:=QbY h;rw[e] at hw;rw[e,Qbh _ _ (fun w hw'=>(hw w hw').1),<- e];exact Qe5 h
theorem Qbj:∀G:List Rl,(∀r∈G,LOk F r)->spl 10 ((G.map (Q2K F)).flatten)=G.map (fun r=>Lib.join (Zt F r) [32])++[[]]
 |[],_=>rfl
 |r::G,h=>by
  rw[List.map_cons,List.flatten_cons,Q2K,List.append_assoc,List.singleton_append,Qb2,Qbj G fun r hr=>h r (List.mem_cons_of_mem _ hr)]
  ·rfl
  ·intro hm
   rcases Qdq hm with hm|⟨w,hw,hm⟩
   ·exact absurd hm Q1
   ·exact(QbY (h r List.mem_cons_self) w hw).2 hm
theorem Q39:∀(G:List Rl) (k:Int),(∀r∈G,LOk F r)->XC k (G.map (fun r=>Lib.join (Zt F r) [32])++[[]])=.ok (G.map fun r=>(Q96 r,Q20 F r))
 |[],k,_=>rfl
 |r::G,k,h=>by
  have ih:=Q39 G (k+1) fun r hr=>h r (List.mem_cons_of_mem _ hr)
  rw[List.map_cons,List.cons_append];cases hL:G.map (fun r=>Lib.join (Zt F r) [32])++[[]] with
  |nil=>simp at hL
  |cons m t=>
   rw[hL] at ih;rw[XC,QeO (h r List.mem_cons_self)];simp only;rw[ih];rfl
theorem Q76{G F:List Rl}:∀l:List Int,(∀x∈l,XN G (JM F x)=x/\0<=x)->Zs G (l.map (JM F))=some l
 |[],_=>rfl
 |x::l,h=>by
  have hx:=h x List.mem_cons_self;rw[List.map_cons,Zs,hx.1,if_neg Q2,Q76 l fun y hy=>h y Qhy]
  rfl
theorem KY(h:POk F){F0:List Rl}(hF:∀s,XN F0 s=XN F s):∀(G:List Rl) (k:Int),(∀r∈G,LOk F r)->QO F0 k (G.map fun r=>(Q96 r,Q20 F r))=.ok G
 |[],k,_=>rfl
 |r::G,k,hG=>by
  have hr:=hG r List.mem_cons_self;rw[List.map_cons,QO]
  have e:XX F0 (Q96 r,Q20 F r)=some r:=by
   unfold XX;simp only;rw[Qik,Q76 (Q3F r) fun x hx=>⟨by rw[hF];exact(h.find (QgR hr.ok x hx)).2,(QgR hr.ok x hx).1⟩,Option.map_some,Q9u hr.ok]
  rw[e,KY h hF G (k+1) fun r hr=>hG r (List.mem_cons_of_mem _ hr)]
theorem QeK(hf:Qz F=(0,0)):ZY (YP F)=(F,0,0):=by
 have hc:Xr F=(0,0):=by
  unfold Qz at hf;split at hf
  ·next h=>exact absurd hf h
  ·next h=>exact Classical.byContradiction h
 have hlen:¬2000<(YP F).length:=by
  intro h;unfold Qz at hf;rw[if_neg (by rw[hc];simp),if_pos h] at hf;cases hf
 have h:=Q2l hc;have hG:∀r∈F,LOk F r:=fun r hr=>by
  obtain⟨i,hi,e⟩:=List.mem_iff_getElem.1 hr;exact h.line (i:=i) (by rw[List.getElem?_eq_getElem hi,e])
 unfold ZY;rw[if_neg hlen];have e1:spl 10 (YP F)=_:=Qbj F hG;rw[e1,Q39 F 0 hG];simp only;rw[List.map_map,KY h (fun s=>Qbu (by rw[List.map_map];rfl) s) F 0 hG];simp only;rw[hf];rfl
end
end
section
variable {F:List Rl}{a b:List Bool}
theorem LeB.antisymm(h:LeB a b)(k:LeB b a):a=b:=ZU h.1 fun i hi=>by
 cases ha:a.getD i false with
 |true=>exact(h.2 i ha).symm
 |false=>
  cases hb:b.getD i false with
  |false=>rfl
  |true=>rw[k.2 i hb] at ha;cases ha
theorem LeB.of_false(n:Nat)(h:b.length=n):LeB (List.replicate n false) b:=⟨by rw[List.length_replicate,h],fun i hi=>by
 simp only[List.getD_eq_getElem?_getD,List.getElem?_replicate] at hi
 split at hi<;>simp at hi⟩
theorem QcH(h:LeB a b){x:Int}(hx:mk a x=true):mk b x=true:=h.2 _ hx
theorem Q3V{r:Rl}(h:LeB a b)(ho:JU F a r=true):JU F b r=true:=by
 unfold JU at ho ⊢;by_cases h10:r.kind=10
 ·rw[if_pos h10] at ho ⊢;exact QcH h ho
 rw[if_neg h10] at ho ⊢;by_cases h6:r.kind=6
 ·rw[if_pos h6] at ho ⊢;rw[Bool.and_eq_true,Bool.or_eq_true] at ho ⊢;exact⟨QcH h ho.1,ho.2.imp id (QcH h)⟩
 rw[if_neg h6] at ho ⊢;by_cases h7:r.kind=7
 ·rw[if_pos h7] at ho ⊢;rw[Bool.not_eq_true',List.any_eq_false] at ho ⊢;intro x hx hb;refine ho x hx ?_;rw[Bool.not_eq_true'] at hb ⊢
  cases e:mk a x with
  |false=>rfl
  |true=>rw[QcH h e] at hb;cases hb
 rw[if_neg h7] at ho ⊢;by_cases h8:r.kind=8
 ·rw[if_pos h8] at ho ⊢;rw[List.any_eq_true] at ho ⊢;obtain⟨x,hx,hb⟩:=ho;exact⟨x,hx,QcH h hb⟩
 ·rw[if_neg h8]
def Kf(F:List Rl)(out:List Bool):List Bool:=F.map (JU F out)
def VH(F:List Rl)(t:Nat):List Bool:=iter (Kf F) t (List.replicate F.length false)
theorem Q0S(F:List Rl)(out:List Bool):(Kf F out).length=F.length:=by unfold Kf;rw[List.length_map]
theorem JY(F:List Rl):∀t,(VH F t).length=F.length
 |0=>List.length_replicate
 |t+1=>Q0S F _
theorem Kb(F:List Rl)(out:List Bool)(i:Nat):(Kf F out).getD i false=match F[i]? with|some r=>JU F out r|none=>false:=by
 unfold Kf;rw[List.getD_eq_getElem?_getD,List.getElem?_map];cases F[i]?<;>rfl
theorem Q6K(h:LeB a b):LeB (Kf F a) (Kf F b):=⟨by rw[Q0S,Q0S],fun i hi=>by
 rw[Kb] at hi ⊢
 cases hr:F[i]? with
 |none=>rw[hr] at hi;cases hi
 |some r=>rw[hr] at hi;exact Q3V h hi⟩
theorem QhB(F:List Rl):∀t,LeB (VH F t) (VH F (t+1))
 |0=>LeB.of_false _ (JY F 1)
 |t+1=>Q6K (QhB F t)
theorem Q9h(F:List Rl):VH F (F.length+1)=VH F F.length:=by
 refine ZU (by rw[JY,JY]) fun i hi=>?_;rw[JY] at hi;exact Q4U (n:=F.length) (s:=fun t i=>(VH F t).getD i false) (fun t i _=>(QhB F t).2 i)
  (fun t ht i hi=>by
   have e:VH F (t+1)=VH F t:=ZU (by rw[JY,JY]) fun j hj=>ht j (by rw[JY] at hj;exact hj)
   show (Kf F (VH F (t+1))).getD i false=(VH F (t+1)).getD i false
   rw[e]
   show (VH F (t+1)).getD i false=_
   rw[e]) i hi
theorem Q8K(F:List Rl):∀k,VH F (F.length+k)=VH F F.length
 |0=>rfl
 |k+1=>by
  show Kf F (VH F (F.length+k))=_
  rw[Q8K F k];exact Q9h F
theorem Q77(F:List Rl)(out:List Bool)(k:Nat):LeB out (Zo F out k):=LeB.set out k _ fun h=>by rw[h];rfl
theorem Q4P(F:List Rl)(out:List Bool):LeB out (ZN F out):=Yi (Q77 F) _ _
theorem V3(F:List Rl):(Jg F).length=F.length:=by
 have:=(Q3o (Q4P F) Qdm F.length).1;exact QlJ
theorem Qio(F:List Rl):ZN F (Jg F)=Jg F:=by
 have:=Q13 (Q4P F) Qdm;rw[List.length_replicate] at this;exact this
theorem Q4x(F:List Rl):LeB (Kf F (Jg F)) (Jg F):=⟨by rw[Q0S,V3],fun i hi=>by
 rw[Kb] at hi
 cases hr:F[i]? with
 |none=>rw[hr] at hi;cases hi
 |some r=>
  rw[hr] at hi;have hin:i<F.length:=(List.getElem?_eq_some_iff.1 hr).1;obtain⟨a',h1,h2⟩:=Y9 (Q77 F) (List.range F.length) (Jg F) i (List.mem_range.2 hin)
  have h3:(Zo F a' i).getD i false=true:=by
   unfold Zo
   rw[Z3 _ _ _ _ (by rw[<- h1.1,V3];exact hin),if_pos rfl,hr]
   show (_||JU F a' r)=true
   rw[Q3V h1 hi,Bool.or_true]
  have h4:=h2.2 i h3;have h5:(ZN F (Jg F)).getD i false=true:=h4
  rwa [Qio] at h5⟩
theorem QgW(F:List Rl):∀t,LeB (VH F t) (Jg F)
 |0=>LeB.of_false _ (V3 F)
 |t+1=>(Q6K (QgW F t)).trans (Q4x F)
theorem QpS(F:List Rl):LeB (Jg F) (VH F F.length):=by
 refine Q37 (f:=ZN F) (p:=fun out=>LeB out (VH F F.length)) (fun a ha=>Q16 (p:=fun out=>LeB out (VH F F.length)) (fun out k ho=>?_) _ _ ha) (a:=List.replicate F.length false) (LeB.of_false _ (JY F _)) F.length;refine⟨by rw[<- ho.1];unfold Zo;rw[List.length_set],fun i hi=>?_⟩;unfold Zo at hi;by_cases hk:k<out.length
 ·rw[Z3 _ _ _ _ hk] at hi
  split at hi
  ·next e=>
   subst e;rw[Bool.or_eq_true] at hi;rcases hi with hi|hi
   ·exact ho.2 _ hi
   ·have h1:(Kf F (VH F F.length)).getD i false=true:=by
     rw[Kb];cases hr:F[i]? with
     |none=>rw[hr] at hi;cases hi
     |some r=>rw[hr] at hi;exact Q3V ho hi
    have h2:(VH F (F.length+1)).getD i false=true:=h1;rwa [Q9h] at h2
  ·exact ho.2 _ hi
 ·rw[List.set_eq_of_length_le Q2] at hi;exact ho.2 _ hi
theorem Q9s(F:List Rl)(k:Nat):VH F (F.length+k)=Jg F:=by
 rw[Q8K];exact(QgW F _).antisymm (QpS F)
end
def Q3T(n:Int):Int:=if 1001<n then 1001 else n
def Qel(k mn:Int):Int:=if k=2 then Q3T mn else 0
section
variable {Ab An Ap:Option Addr}{cb cn cp nb nn np:Nat}{n:Int}{ns:List (List UInt8)}{w:World}
theorem Q2o(hr:Rd w w.heap.size 1 An nn (sv ns))(hncap:nn<=cn)(hnn:nn<=9223372036854775807)(hx:Small ns)(hn0:(n != 0)=false)(hb0:nb=0)(hs1:0<nn)(hp1:0<np)(heq:nn=np):
  Calls Tryz.prog 142 #[.agg #[.int .i64 4,.int .i64 n,.slice Ab nb cb,.slice An nn cn,.slice Ap np cp]] w fun e w'=>e=.returned (.int .i64 (V8 ns np))/\Below w.heap.size w w':=by
 have hmf:=Zx;have HL:=Q4B;have HR:=Q3 hr;have HX:=Q3 hx;clear hr hx;have hne':((nn:Int) != (np:Int))=false:=by rw[bne_eq_false_iff_eq];omega
 have hle:=Nat.le_of_eq heq;clear heq;have hb0':¬(0:Int)<(nb:Int):=by omega
 have hb0'':¬0<nb:=by omega
 clear hb0;have hs1':(0:Int)<(nn:Int):=by omega
 have hp1':(0:Int)<(np:Int):=by omega
 go_enter Tryz.func142,Tryz.ntmps142;go_wp2_with fail
 refine(Qs (t:=true) [1,2,3,4] 4 Xk rfl rfl (by repeat(first|exact Xm _ _ _ _ _ _ _|refine Ql ?_)) Q1 Q1).mono ?_;rintro e w' ⟨rfl,rfl⟩;go_wp2_with fail
 refine(Qs (t:=true) [4] 4 Xk rfl rfl (by repeat(first|exact Xm _ _ _ _ _ _ _|refine Ql ?_)) Q1 Q1).mono ?_;rintro e w' ⟨rfl,rfl⟩;go_wp2_with fail
 refine(Qs (t:=true) [3,4] 4 Xk rfl rfl (by repeat(first|exact Xm _ _ _ _ _ _ _|refine Ql ?_)) Q1 Q1).mono ?_;rintro e w' ⟨rfl,rfl⟩;go_wp2_with fail
 refine(Qs (t:=true) [4] 4 Xk rfl rfl (by repeat(first|exact Xm _ _ _ _ _ _ _|refine Ql ?_)) Q1 Q1).mono ?_;rintro e w' ⟨rfl,rfl⟩;by_cases h600:600<np
 ·have HT:=Q3 (Q9N (ns:=ns) h600)
  have h600':(600:Int)<(np:Int):=by omega
  go_wp2_with fail
  go_ret;exact⟨by rw[HT.out];rfl,(by repeat(first|exact Below.refl _ _|(refine Below.alloc ?_ ZP _)))⟩
 ·have h600':¬(600:Int)<(np:Int):=by omega
  have HN6:=Q3 h600;go_wp2_with fail
  refine(Xa (xs:=ns) ((HR.out.below (by repeat(first|exact Below.refl _ _|(refine Below.alloc ?_ ZP _)))).more ZR) hnn HX.out).mono ?_;rintro e w2 ⟨rfl,hb2⟩;have HB2:=Q3 (show Below w.heap.size w w2 from XF (by repeat(first|exact Below.refl _ _|(refine Below.alloc ?_ ZP _))) hb2);have hbox:w2.cell? ⟨w.heap.size,3,none⟩=some (.slice An nn cn):=(hb2.cell ZR).trans (by repeat(first|exact Qbe _ _ _ _ _ _ _|refine Ql ?_));clear hb2;by_cases hall:ns.all Qk=true
  ·have HALL:=Q3 hall
   rw[HALL.out];clear hall;go_wp2_with fail
   go_loop [76] (Q0k ns) (fun k=>nn - (intOf k).toNat)
   case atStart=>exact⟨0,Nat.zero_le _,rfl,by simp⟩
   case round=>
    obtain⟨i,hi,rfl,hd⟩:=hrel;rw[HL.out] at hi;have HD:=Q3 hd;clear hd;by_cases hlt:i<nn
    ·obtain⟨b,o,s,rfl,hb,hy,hc⟩:=KZ HR.out hlt
     have HY:=Q3 hy;have hc':w2.cell? ⟨b,o+i,none⟩=some (.string s):=(HB2.out.cell Vb).trans hc;have HRW:=Q3 ((HR.out.below HB2.out).cut (k:=0) (m:=i) (c:=cn) Q2 hncap);have hcut:=Q9f (P:=Tryz.prog) slS (some ⟨b,o,none⟩) nn cn i Q2;have hli:(i:Int)<(nn:Int):=by omega
     have h0:(0:Int)<=(i:Int):=by omega
     clear hy hc;go_wp2_with fail
     refine(Yn (xs:=ns.take i) (by have:=HRW.out;rwa [Qtf] at this) Q2).mono ?_;rintro e w3 ⟨rfl,rfl⟩;clear hcut;by_cases hdup:Z9 (ns.take i) s.data.toList=true
     ·have HDUP:=Q3 hdup
      have HT:=Q3 (Qkv HN6.out HALL.out (QpI HY.out hdup));rw[HDUP.out];clear hdup;go_wp2_with fail
      exact VB
     ·have HDUP:=Q3 (show Z9 (ns.take i) s.data.toList=false by simpa using hdup)
      rw[HDUP.out];clear hdup;go_wp2_with fail
      go_round
      case rel=>exact⟨i+1,by rw[HL.out];omega,by go_num,Qkm HY.out HD.out HDUP.out⟩
      case measure=>simp [intOf];omega
    ·have HT:=Q51
     go_wp2_with fail
     exact VB
  ·have HALL:=Q4w
   have HT:=Q52;rw[HALL.out];clear hall;go_wp2_with fail
   exact VB
theorem Q27(hr:Rd w w.heap.size 1 An nn (sv ns))(hncap:nn<=cn)(hnn:nn<=9223372036854775807)(hx:Small ns)(hn0:(n != 0)=false)(hb0:nb=0)(hs0:nn=0)(hp0:np=0)(heq:nn=np):
  Calls Tryz.prog 142 #[.agg #[.int .i64 4,.int .i64 n,.slice Ab nb cb,.slice An nn cn,.slice Ap np cp]] w fun e w'=>e=.returned (.int .i64 (V8 ns np))/\Below w.heap.size w w':=by
 have hmf:=Zx;have HL:=Q4B;have HR:=Q3 hr;have HX:=Q3 hx;clear hr hx;have hne':((nn:Int) != (np:Int))=false:=by rw[bne_eq_false_iff_eq];omega
 have hle:=Nat.le_of_eq heq;clear heq;have hb0':¬(0:Int)<(nb:Int):=by omega
 have hb0'':¬0<nb:=by omega
 clear hb0;have hs0':¬(0:Int)<(nn:Int):=by omega
 have hs0'':¬0<nn:=by omega
 clear hs0;have hp0':¬(0:Int)<(np:Int):=by omega
 have hp0'':¬0<np:=by omega
 clear hp0;go_enter Tryz.func142,Tryz.ntmps142;go_wp2_with fail
 refine(Qs (t:=true) [1,2,3,4] 4 Xk rfl rfl (by repeat(first|exact Xm _ _ _ _ _ _ _|refine Ql ?_)) Q1 Q1).mono ?_;rintro e w' ⟨rfl,rfl⟩;go_wp2_with fail
 refine(Qs (t:=true) [4] 4 Xk rfl rfl (by repeat(first|exact Xm _ _ _ _ _ _ _|refine Ql ?_)) Q1 Q1).mono ?_;rintro e w' ⟨rfl,rfl⟩;have h600:¬600<np:=by omega
 have h600':¬(600:Int)<(np:Int):=by omega
 have HN6:=Q3 h600;go_wp2_with fail
 refine(Xa (xs:=ns) ((HR.out.below (by repeat(first|exact Below.refl _ _|(refine Below.alloc ?_ ZP _)))).more ZR) hnn HX.out).mono ?_;rintro e w2 ⟨rfl,hb2⟩;have HB2:=Q3 (show Below w.heap.size w w2 from XF (by repeat(first|exact Below.refl _ _|(refine Below.alloc ?_ ZP _))) hb2);have hbox:w2.cell? ⟨w.heap.size,3,none⟩=some (.slice An nn cn):=(hb2.cell ZR).trans (by repeat(first|exact Qbe _ _ _ _ _ _ _|refine Ql ?_));clear hb2;by_cases hall:ns.all Qk=true
 ·have HALL:=Q3 hall
  rw[HALL.out];clear hall;go_wp2_with fail
  go_loop [76] (Q0k ns) (fun k=>nn - (intOf k).toNat)
  case atStart=>exact⟨0,Nat.zero_le _,rfl,by simp⟩
  case round=>
   obtain⟨i,hi,rfl,hd⟩:=hrel;rw[HL.out] at hi;have HD:=Q3 hd;clear hd;by_cases hlt:i<nn
   ·omega
   ·have HT:=Q51
    go_wp2_with fail
    exact VB
 ·have HALL:=Q4w
  have HT:=Q52;rw[HALL.out];clear hall;go_wp2_with fail
  exact VB
end
end Go.Proofs.YtphkhfdmlcnoeaaGreatDoor
