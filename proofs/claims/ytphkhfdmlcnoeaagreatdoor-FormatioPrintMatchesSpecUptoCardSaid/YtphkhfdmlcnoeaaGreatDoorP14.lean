import Derived.Test.YtphkhfdmlcnoeaaGreatDoorP13
namespace Go.Proofs.YtphkhfdmlcnoeaaGreatDoor
set_option linter.unusedVariables false
set_option linter.unusedSimpArgs false
set_option maxRecDepth 1000000
set_option maxHeartbeats 32000000
open Go.RowKit
section
variable {v:Value}
section
variable {M:List Nat}{W w w':World}{O:List Qf}{b n c s m:Nat}{e:TypeId}{xs ys:List Value}
theorem Wd.row_rd(h:Wd M W (.row (some ⟨b,0,none⟩) n c e s xs::O) w)(hM:M=[])(hk:XM [b] w w')(hr:Rd w' w'.heap.size s (some ⟨b,0,none⟩) m ys):Wd M W (.rd (some ⟨b,0,none⟩) m s ys::O) w':=by
 subst hM;have hb:W.heap.size<=b:=by
  rcases Nat.lt_or_ge b W.heap.size with hl|hl
  ·have h1:b∈[]:=h.new 0 _ b rfl rfl hl
   cases h1
  ·exact hl
 have hp:=List.pairwise_cons.1 h.pairs;have hne:∀x∈O,∀q,x.foot=some q->q≠b:=fun x hx q hq hqb=>by
  subst hqb;have:=hp.1 x hx q rfl hq;cases this
 refine .of_pairs (h.k.trans hk fun q hq hlt=>?_) ?_ ?_ ?_
 ·rw[List.mem_singleton] at hq
  omega
 ·intro x hx
  rcases List.mem_cons.1 hx with rfl|hx
  ·exact hr
  ·exact(h.onAll x Q1M).keep hk.size fun q hq=>hk.block q ((h.onAll x Q1M).lt hq) (by rw[List.mem_singleton];exact hne x hx q hq)
 ·intro x hx q hq hlt
  rcases List.mem_cons.1 hx with rfl|hx
  ·have:q=b:=by
    simp only[Qf.foot] at hq;split at hq
    ·cases hq
    ·cases hq;rfl
   omega
  ·exact h.newAll x Q1M q hq hlt
 ·refine List.pairwise_cons.2 ⟨fun x hx q hq hq'=>?_,hp.2⟩
  have:q=b:=by
   simp only[Qf.foot] at hq;split at hq
   ·cases hq
   ·cases hq;rfl
  exact absurd this (hne x hx q hq')
end
theorem Qm8{P:Program}{ops:Array Oper}{N:Nat}{E:Env}{o:Oper}{M:List Nat}{W:World}{O:List Qf}{ι:Type}(V:ι->Value)(p:ι->Prop)(G:ι->List Qf){f f2:FuncId}{x:Operand}{ts:Array TypeId}[he:En P f](ho:o.op=.call { callee:=.value (.func f),args:=#[x,.func f2],argTypes:=ts })(hw:Qo ops E o=some true)(hx:ev E x=some v)
  (hc:∀w,Wd M W O w->Calls P f #[v,.func (.func f2) #[] #[]] w (X7 V p M W G)):uE P ops N M W E O o ι V G p:=
 Qop hw (fun ρ w ha=>by
  have hf:=ha.2 f;have hf2:=ha.2 f2;have hh:=he.h
  simp only[execOp,ho,resolve,hf,hf2,ha.eval hx,List.map_toArray,List.map_cons,List.map_nil,Deferred.ofValue,invoke,Sem.run_bind,Sem.run_pure,Result.andThen_ok,Array.append_empty,Array.empty_append,hh]) hc
theorem Qib{W w w':World}{M:List Nat}{O:List Qf}{n:Nat}{ns:List (List UInt8)}{e:Ending}(h0:0<n)(hw:Wd M W O w)(h:Q8H w n ns e w'):X7 (fun y:Nat×Nat=>.slice (some ⟨y.1,0,none⟩) n y.2) (fun _=>True) M W (fun y=>.row (some ⟨y.1,0,none⟩) n y.2 9 1 (sv ns)::O) e w':=by
 obtain⟨A,c,rfl,hown,hb⟩:=h;rcases hown.2 with ⟨hv,hn⟩|⟨g,cap,cur,hv,hg0,r⟩
 ·omega
 ·simp only[Value.slice.injEq] at hv
  obtain⟨rfl,_,rfl⟩:=hv;refine⟨(g,c),rfl,trivial,hw.push hb (y:=.row Q6S n c 9 1 (sv ns)) ⟨hown.1,.inr ⟨g,c,cur,rfl,Nat.zero_le _,r⟩⟩ (fun b hb'=>?_)⟩;cases hb';exact hg0
section
variable {F:List Rl}{r:Rl}{d:Nd}{p:VF}
theorem Q5T(h:r.kind=1):X0 F r d p=(d.k==3&&p.len==0):=by unfold X0;rw[if_pos h]
theorem J5(h:r.kind=2\/r.kind=3):X0 F r d p=(d.k==1&&XP r d.n):=by unfold X0;rw[if_neg Q3,if_pos h]
theorem Q5W(h:r.kind=4):X0 F r d p=(d.k==2&&decide ((d.bs.length:Int)=r.size)):=by unfold X0;rw[if_neg Q3,if_neg Q3,if_pos h]
theorem Q12(h:r.kind=10):X0 F r d p=(d.k==2&&XP (Qh F r.count) (d.bs.length:Int)):=by unfold X0;rw[if_neg Q3,if_neg Q3,if_neg Q3,if_pos h]
theorem Q3c(h:r.kind=5):X0 F r d p=(d.k==2&&decide ((d.bs.length:Int)<=r.size)&&!(d.bs.contains (ZJ r))):=by unfold X0;exact Qqp
theorem Q33(h:r.kind=6):X0 F r d p=(d.k==3&&XP (Qh F r.count) (p.len:Int)):=by unfold X0;exact QmF
theorem Qaj(h:r.kind=9):X0 F r d p=(d.k==3):=by unfold X0;exact Qro
theorem Q1d(h:r.kind=8):X0 F r d p=(d.k==3&&p.len==2&&p.hdN.k==1&&decide (0<=p.hdN.n)&&decide (p.hdN.n<(r.parts.length:Int))):=by unfold X0;exact Qqg
theorem Q3I(h:r.kind=7):X0 F r d p=(d.k==4&&d.ns==QF r.names):=by unfold X0;rw[if_neg Q3,if_neg Q3,if_neg Q3,if_neg Q3,if_neg Q3,if_neg Q3,if_neg Q3,if_neg Q3]
theorem QvG(m n:Nat):((m:Int)==(n:Int))=(m==n):=by
 rw[Bool.eq_iff_iff,beq_iff_eq,beq_iff_eq];omega
end
section
variable {W w w':World}{z:Wz}{B g c n:Nat}{F:List Rl}{A:Option Addr}{xs:List UInt8}
theorem QbJ{b3 b4 nn cf:Nat}{Af:Option Addr}{x cnt:Int}(hf:QS w B Af nn F)(hB:B<=w.heap.size)(h3:w.cell? ⟨b3,0,none⟩=some (.pointer (some ⟨g,0,none⟩)))(h4:w.cell? ⟨b4,8,none⟩=some (.int .i64 cnt))(hg:w.cell? ⟨g,0,none⟩=some (.slice Af nn cf))(hc:0<=cnt/\cnt<F.length):
  Calls Tryz.prog 107 ([Value.int .i64 x].toArray++#[.pointer (some ⟨b3,0,none⟩),.pointer (some ⟨b4,0,none⟩)]) w fun e w'=>e=.returned (.bool (XP (Qh F cnt) x))/\Below w.heap.size w w':=by
 have hl:=hf.1;obtain⟨bf,of,haf,_⟩:=hf.2 Q3;subst haf;obtain⟨hbB,Ab,cb,An,cn,Ap,cp,hrg,hru⟩:=hf.ruleB (k:=cnt) Q3;have hcn:0<=cnt/\cnt<(nn:Int):=by omega
 clear hf hru;obtain⟨r,er⟩:∃r,Qh F cnt=r:=⟨_,rfl⟩;rw[er] at hrg ⊢;clear er;have hcc:∀W:World,Calls Tryz.prog 108 #[.agg (ruC r (.slice Ab r.bs.length cb) (.slice An r.names.length cn) (.slice Ap r.parts.length cp)).toArray,.int .i64 x] W fun e w'=>e=.returned (.bool (XP r x))/\Below W.heap.size W w':=fun W=>Vt
 obtain⟨bb,hbb⟩:∃bb,XP r x=bb:=⟨_,rfl⟩;rw[hbb] at hcc ⊢;obtain⟨name,kind,bs,size,big,mn,mx,stop,count,elem,names,parts⟩:=r;simp only[ruC] at hrg hcc;show Calls Tryz.prog 107 #[.int .i64 x,.pointer (some ⟨b3,0,none⟩),.pointer (some ⟨b4,0,none⟩)] w _;go_enter Tryz.func107,Tryz.ntmps107;refine Qz (M:=[]) (W:=w) (N:=16) (E:=[(0,.int .i64 x),(1,.pointer (some ⟨b3,0,none⟩)),(2,.pointer (some ⟨b4,0,none⟩))]) (O:=[]) ?_ XW (Wd.start [] w);refine yq<|yr<|yo zA<|yl<|yn<|yq<|Xm Q5 Q5 ?_;refine Qe (zG h3) ?_;refine Qe mc5 ?_;refine Qe zF ?_;refine Qe zF ?_;refine Qe (zG hg) ?_;refine Qe zF ?_;refine Qe (zG h4) ?_;refine Qe QkY ?_;refine Qe (X4 rfl rfl Q1 rfl rfl (fun w hw=>hw.range_old hrg Qn) rfl) ?_;refine Qe zM ?_;refine Qe QkP ?_;refine Q05 ?_;refine yn<|yt ?_;exact Q5g
def FiE(W:World)(b:Bool)(e:Ending)(w':World):Prop:=e=.returned (.bool b)/\Below W.heap.size W w'
theorem Q7B{k:Int}{d:Nd}{p:VF}(h:XV W z B g F A c xs n)(hv:Fm F)(hk:0<=k/\k<F.length){Ab An Ap:Option Addr}{cb cn cp:Nat}(hru:RuB W B (Qh F k) Ab cb An cn Ap cp)(hval:VIn W B v d p)(hd1:d.bs.length<=1048576)(hd2:d.ns.length<=1048576):
  Calls Tryz.prog 83 #[.pointer (some ⟨g,0,none⟩),.agg (ruC (Qh F k) (.slice Ab (Qh F k).bs.length cb) (.slice An (Qh F k).names.length cn) (.slice Ap (Qh F k).parts.length cp)).toArray,v] W (FiE W (X0 F (Qh F k) d p)):=by
 have hFn:=h.len;have hr:=hv.toUsd.rok hk;have hBW:B<=W.heap.size:=by have:=h.hB;have:=h.lt;omega
 have HFM:=Q2 h.fm;have hcg:W.cell? ⟨g,0,none⟩=some (.slice z.Af z.n z.cf):=by
  rw[cell_of_row W g 0 _ _ _ h.cur];rfl
 clear h;obtain⟨r,er⟩:∃r,Qh F k=r:=⟨_,rfl⟩;rw[er] at hr hru ⊢;clear er;obtain⟨sb,sn,sp,rfl,Abv,nb,cbv,Anv,nnv,cnv,Apv,cpv,rfl,rfl,rfl,hnb,hnn,hpl,hcm,hrb,hrn,hch⟩:=hval;have hnbl:d.bs.length=nb:=by have:=hrb.len;rw[QM] at this;exact this
 have hnnl:d.ns.length=nnv:=by have:=hrn.len;rw[Xw] at this;exact this
 subst hnbl hnnl;have HRB:=Q2 hrb;have HRN:=Q2 hrn;have HCH:=Q2 hch;have HRU:=Q2 hru;have hcnt:=hr.count;have hkind:=hr.kind;have hsev:=hr.seven;have hp12:=hr.p12;obtain⟨dk,dn,dbs,dns⟩:=d;obtain⟨Af,nn,cf⟩:=z;simp only at hFn hcg hd1 hd2 hnb hnn;clear hrb hrn hch hru hr;obtain⟨name,kind,bs,size,big,mn,mx,stop,count,elem,names,parts⟩:=r;simp only at hcnt hkind hsev hp12;simp only[ruC];go_enter Tryz.func83,Tryz.ntmps83;refine Qz (M:=[]) (W:=W) (N:=150) (E:=[(0,.pointer Q6S),(1,.agg [.string ⟨name.toArray⟩,.int .i64 kind,.slice Ab bs.length cb,.int .i64 size,.bool big,.int .i64 mn,.int .i64 mx,.int .i64 stop,.int .i64 count,.int .i64 elem,.slice An names.length cn,.slice Ap parts.length cp].toArray),(2,.agg #[.int .i64 dk,.int .i64 dn,.slice Abv dbs.length cbv,.slice Anv dns.length cnv,.slice Apv p.len cpv])]) (O:=[]) ?_ XW (Wd.start [] W);obtain⟨RES,hres⟩:∃x,X0 F ⟨name,kind,bs,size,big,mn,mx,stop,count,elem,names,parts⟩ ⟨dk,dn,dbs,dns⟩ p=x:=⟨_,rfl⟩;rw[hres];have HRS:=Q2 hres;clear hres;refine yq<|yr ?_;refine yB fun b3=>?_;refine yB fun b4=>?_;refine yB fun b5=>?_;refine yo zA<|yl<|yn<|yq<|yr<|yo zu<|yo zA<|yl<|yn<|yq<|yq<|yr<|yo zF<|yo (zB 1)<|yl ?_;by_cases k1:kind=1
 ·subst k1
  by_cases hdk:dk=3
  ·have e0:((p.len:Int)==0)=(p.len==0):=QvG p.len 0;have HZ:=Q2 (show RES=(p.len==0) by rw[<- HRS.out,Q5T rfl];simp only;rw[hdk];rfl);refine yn<|yb<|yq<|yr<|yo zet<|yo zA<|yl<|yn<|y1<|yq<|yr<|yo zF<|yo (zB 0)<|yo zet<|yo zM<|yo zF<|yo (zB 0)<|yo zL<|yo zea<|yo zY<|yo zA<|yl<|yn<|yt<|yk<|yc ?_;exact Qal
  ·have HZ:=Q2 (show RES=false by rw[<- HRS.out,Q5T rfl];simp only;rw[beq_eq_false_iff_ne.2 hdk];rfl);refine yn<|yb<|yq<|yr<|yo zet<|yo zA<|yl<|yn<|y1<|yq<|yr<|yo zF<|yo (zB 0)<|yo zef<|yo zM<|yo zS<|yo zS<|yo zS<|yo zS<|yo zN<|yo zA<|yl<|yn<|yt<|yk<|yc ?_;exact Qal
 by_cases k2:kind=2
 ·subst k2
  have hcc:∀W:World,Calls Tryz.prog 108 #[.agg [.string ⟨name.toArray⟩,.int .i64 2,.slice Ab bs.length cb,.int .i64 size,.bool big,.int .i64 mn,.int .i64 mx,.int .i64 stop,.int .i64 count,.int .i64 elem,.slice An names.length cn,.slice Ap parts.length cp].toArray,.int .i64 dn] W fun e w'=>e=.returned (.bool (XP ⟨name,2,bs,size,big,mn,mx,stop,count,elem,names,parts⟩ dn))/\Below W.heap.size W w':=fun W=>Vt (r:=⟨name,2,bs,size,big,mn,mx,stop,count,elem,names,parts⟩)
  by_cases hdk:dk=1
  ·have HZ:=Q2 (show RES=XP ⟨name,2,bs,size,big,mn,mx,stop,count,elem,names,parts⟩ dn by rw[<- HRS.out,J5 (.inl rfl)];simp only;rw[hdk];rfl);refine yn<|yb<|yq<|yr<|yo zef<|yo zA<|yl<|yn<|y0<|yq<|yq<|yr<|yo zet<|yo zA<|yl<|yn<|y1<|ys<|yn<|y1<|yq<|yr<|yo zF<|yo (zB 0)<|yo zet<|yo zM<|yo (zD 1)<|yo zF<|yo (zB 0) ?_;refine Q4 QkP ?_;refine Qaf ?_;exact Q7 mc4 rfl (.tmp rfl) Ym
  ·have HZ:=Q2 (show RES=false by rw[<- HRS.out,J5 (.inl rfl)];simp only;rw[beq_eq_false_iff_ne.2 hdk];rfl);refine yn<|yb<|yq<|yr<|yo zef<|yo zA<|yl<|yn<|y0<|yq<|yq<|yr<|yo zet<|yo zA<|yl<|yn<|y1<|ys<|yn<|y1<|yq<|yr<|yo zF<|yo (zB 0)<|yo zef<|yo zM<|yo zS<|yo zS<|yo zS<|yo zS<|yo zN<|yo zA<|yl<|yn<|yt<|yk<|yc ?_;exact Q7 mc4 rfl (.tmp rfl) Ym
 by_cases k3:kind=3
 ·subst k3
  have hcc:∀W:World,Calls Tryz.prog 108 #[.agg [.string ⟨name.toArray⟩,.int .i64 3,.slice Ab bs.length cb,.int .i64 size,.bool big,.int .i64 mn,.int .i64 mx,.int .i64 stop,.int .i64 count,.int .i64 elem,.slice An names.length cn,.slice Ap parts.length cp].toArray,.int .i64 dn] W fun e w'=>e=.returned (.bool (XP ⟨name,3,bs,size,big,mn,mx,stop,count,elem,names,parts⟩ dn))/\Below W.heap.size W w':=fun W=>Vt (r:=⟨name,3,bs,size,big,mn,mx,stop,count,elem,names,parts⟩)
  by_cases hdk:dk=1
  ·have HZ:=Q2 (show RES=XP ⟨name,3,bs,size,big,mn,mx,stop,count,elem,names,parts⟩ dn by rw[<- HRS.out,J5 (.inr rfl)];simp only;rw[hdk];rfl);refine yn<|yb<|yq<|yr<|yo zef<|yo zA<|yl<|yn<|y0<|yq<|yq<|yr<|yo zef<|yo zA<|yl<|yn<|y0<|yr<|yo zet<|yo zA<|yl<|yn<|y1<|yq<|yr<|yo zF<|yo (zB 0)<|yo zet<|yo zM<|yo (zD 1)<|yo zF<|yo (zB 0) ?_;refine Q4 QkP ?_;refine Qaf ?_;exact Q7 mc4 rfl (.tmp rfl) Ym
  ·have HZ:=Q2 (show RES=false by rw[<- HRS.out,J5 (.inr rfl)];simp only;rw[beq_eq_false_iff_ne.2 hdk];rfl);refine yn<|yb<|yq<|yr<|yo zef<|yo zA<|yl<|yn<|y0<|yq<|yq<|yr<|yo zef<|yo zA<|yl<|yn<|y0<|yr<|yo zet<|yo zA<|yl<|yn<|y1<|yq<|yr<|yo zF<|yo (zB 0)<|yo zef<|yo zM<|yo zS<|yo zS<|yo zS<|yo zS<|yo zN<|yo zA<|yl<|yn<|yt<|yk<|yc ?_;exact Q7 mc4 rfl (.tmp rfl) Ym
 by_cases k4:kind=4
 ·subst k4
  by_cases hdk:dk=2
  ·have e0:((dbs.length:Int)==size)=decide ((dbs.length:Int)=size):=by rw[Bool.eq_iff_iff,beq_iff_eq,decide_eq_true_iff]
   have HZ:=Q2 (show RES=decide ((dbs.length:Int)=size) by rw[<- HRS.out,Q5W rfl];simp only;rw[hdk];rfl);refine yn<|yb<|yq<|yr<|yo zef<|yo zA<|yl<|yn<|y0<|yq<|yq<|yr<|yo zef<|yo zA<|yl<|yn<|y0<|yr<|yo zef<|yo zA<|yl<|yn<|y0<|yq<|yr<|yo zet<|yo zA<|yl<|yn<|y1<|yq<|yr<|yo zF<|yo (zB 0)<|yo zet<|yo zM<|yo zF<|yo (zB 0)<|yo zL<|yo zF<|yo (zB 1)<|yo zea<|yo zY<|yo zA<|yl<|yn<|yt<|yk<|yc ?_;exact Q7 mc4 rfl (.tmp rfl) Ym
  ·have HZ:=Q2 (show RES=false by rw[<- HRS.out,Q5W rfl];simp only;rw[beq_eq_false_iff_ne.2 hdk];rfl);refine yn<|yb<|yq<|yr<|yo zef<|yo zA<|yl<|yn<|y0<|yq<|yq<|yr<|yo zef<|yo zA<|yl<|yn<|y0<|yr<|yo zef<|yo zA<|yl<|yn<|y0<|yq<|yr<|yo zet<|yo zA<|yl<|yn<|y1<|yq<|yr<|yo zF<|yo (zB 0)<|yo zef<|yo zM<|yo zS<|yo zS<|yo zS<|yo zS<|yo zS<|yo zS<|yo zN<|yo zA<|yl<|yn<|yt<|yk<|yc ?_;exact Q7 mc4 rfl (.tmp rfl) Ym
 by_cases k10:kind=10
 ·subst k10;have HCT:=Q2 (hcnt (.inr rfl))
  by_cases hdk:dk=2
  ·have HZ:=Q2 (show RES=XP (Qh F count) (dbs.length:Int) by rw[<- HRS.out,Q12 rfl];simp only;rw[hdk];rfl);refine yn<|yb<|yq<|yr<|yo zef<|yo zA<|yl<|yn<|y0<|yq<|yq<|yr<|yo zef<|yo zA<|yl<|yn<|y0<|yr<|yo zef<|yo zA<|yl<|yn<|y0<|yq<|yr<|yo zef<|yo zA<|yl<|yn<|y0<|yq<|yr<|yo zet<|yo zA<|yl<|yn<|y1<|yq<|yr<|yo zF<|yo (zB 0)<|yo zet<|yo zM<|yo zM<|yo zF<|yo (zB 0)<|yo zL ?_;(refine Q4 QsS ?_);refine Qaf ?_;exact Q7 mc4 rfl (.tmp rfl) Ym
  ·have HZ:=Q2 (show RES=false by rw[<- HRS.out,Q12 rfl];simp only;rw[beq_eq_false_iff_ne.2 hdk];rfl);refine yn<|yb<|yq<|yr<|yo zef<|yo zA<|yl<|yn<|y0<|yq<|yq<|yr<|yo zef<|yo zA<|yl<|yn<|y0<|yr<|yo zef<|yo zA<|yl<|yn<|y0<|yq<|yr<|yo zef<|yo zA<|yl<|yn<|y0<|yq<|yr<|yo zet<|yo zA<|yl<|yn<|y1<|yq<|yr<|yo zF<|yo (zB 0)<|yo zef<|yo zM<|yo zS<|yo zS<|yo zS<|yo zS<|yo zS<|yo zN<|yo zA<|yl<|yn<|yt<|yk<|yc ?_;exact Q7 mc4 rfl (.tmp rfl) Ym
 by_cases k5:kind=5
 ·subst k5;obtain⟨sB,hsB⟩:∃b:UInt8,UInt8.ofNat (stop % 256).toNat=b:=⟨_,rfl⟩
  have hcv:IntKind.u8.wrap stop=(sB.toNat:Int):=by rw[Q1X,hsB]
  by_cases hdk:dk=2
  ·by_cases hle:(dbs.length:Int)<=size
   ·have HZ:=Q2 (show RES=!(dbs.contains sB) by rw[<- HRS.out,Q3c rfl];simp only;rw[hdk,decide_eq_true hle];unfold ZJ;simp only;rw[hsB];rfl);refine yn<|yb<|yq<|yr<|yo zef<|yo zA<|yl<|yn<|y0<|yq<|yq<|yr<|yo zef<|yo zA<|yl<|yn<|y0<|yr<|yo zef<|yo zA<|yl<|yn<|y0<|yq<|yr<|yo zef<|yo zA<|yl<|yn<|y0<|yq<|yr<|yo zef<|yo zA<|yl<|yn<|y0<|yq<|yr<|yo zet<|yo zA<|yl<|yn<|y1<|yq<|yr<|yo zF<|yo (zB 0)<|yo zet<|yo zM<|yo zF<|yo (zB 0)<|yo zL<|yo zF<|yo (zB 1)<|yo zqt<|yo zY<|yo zM<|yo zF<|yo (zB 0)<|yo zF<|yo (zB 1) ?_;(refine Q4 Q2b ?_);(refine Q4 (Ql rfl rfl Q1 rfl rfl (fun w hw=>Q1w (((HRB.out.below (hw.k.below.mono hBW))).more Q9b) hd1 sB)) ?_);refine yo zO<|yo zY<|yo zA<|yl<|yn<|yt<|yk<|yc ?_;exact Q7 mc4 rfl (.tmp rfl) Ym
   ·have HZ:=Q2 (show RES=false by rw[<- HRS.out,Q3c rfl];simp only;rw[decide_eq_false hle,Bool.and_false];rfl);refine yn<|yb<|yq<|yr<|yo zef<|yo zA<|yl<|yn<|y0<|yq<|yq<|yr<|yo zef<|yo zA<|yl<|yn<|y0<|yr<|yo zef<|yo zA<|yl<|yn<|y0<|yq<|yr<|yo zef<|yo zA<|yl<|yn<|y0<|yq<|yr<|yo zef<|yo zA<|yl<|yn<|y0<|yq<|yr<|yo zet<|yo zA<|yl<|yn<|y1<|yq<|yr<|yo zF<|yo (zB 0)<|yo zet<|yo zM<|yo zF<|yo (zB 0)<|yo zL<|yo zF<|yo (zB 1)<|yo zqf<|yo zY<|yo zM<|yo zS<|yo zS<|yo zS<|yo zS<|yo zS<|yo zS<|yo zS<|yo zN<|yo zA<|yl<|yn<|yt<|yk<|yc ?_;exact Q7 mc4 rfl (.tmp rfl) Ym
  ·have HZ:=Q2 (show RES=false by rw[<- HRS.out,Q3c rfl];simp only;rw[beq_eq_false_iff_ne.2 hdk];rfl);refine yn<|yb<|yq<|yr<|yo zef<|yo zA<|yl<|yn<|y0<|yq<|yq<|yr<|yo zef<|yo zA<|yl<|yn<|y0<|yr<|yo zef<|yo zA<|yl<|yn<|y0<|yq<|yr<|yo zef<|yo zA<|yl<|yn<|y0<|yq<|yr<|yo zef<|yo zA<|yl<|yn<|y0<|yq<|yr<|yo zet<|yo zA<|yl<|yn<|y1<|yq<|yr<|yo zF<|yo (zB 0)<|yo zef<|yo zM<|yo zS<|yo zS<|yo zS<|yo zS<|yo zS<|yo zS<|yo zN<|yo zM<|yo zS<|yo zS<|yo zS<|yo zS<|yo zS<|yo zS<|yo zS<|yo zN<|yo zA<|yl<|yn<|yt<|yk<|yc ?_;exact Q7 mc4 rfl (.tmp rfl) Ym
 by_cases k6:kind=6
 ·subst k6;have HCT:=Q2 (hcnt (.inl rfl))
  by_cases hdk:dk=3
  ·have HZ:=Q2 (show RES=XP (Qh F count) (p.len:Int) by rw[<- HRS.out,Q33 rfl];simp only;rw[hdk];rfl);refine yn<|yb<|yq<|yr<|yo zef<|yo zA<|yl<|yn<|y0<|yq<|yq<|yr<|yo zef<|yo zA<|yl<|yn<|y0<|yr<|yo zef<|yo zA<|yl<|yn<|y0<|yq<|yr<|yo zef<|yo zA<|yl<|yn<|y0<|yq<|yr<|yo zef<|yo zA<|yl<|yn<|y0<|yq<|yr<|yo zef<|yo zA<|yl<|yn<|y0<|yq<|yr<|yo zet<|yo zA<|yl<|yn<|y1<|yq<|yr<|yo zF<|yo (zB 0)<|yo zet<|yo zM<|yo zM<|yo zF<|yo (zB 0)<|yo zL ?_;(refine Q4 QsS ?_);refine Qaf ?_;exact Q7 mc4 rfl (.tmp rfl) Ym
  ·have HZ:=Q2 (show RES=false by rw[<- HRS.out,Q33 rfl];simp only;rw[beq_eq_false_iff_ne.2 hdk];rfl);refine yn<|yb<|yq<|yr<|yo zef<|yo zA<|yl<|yn<|y0<|yq<|yq<|yr<|yo zef<|yo zA<|yl<|yn<|y0<|yr<|yo zef<|yo zA<|yl<|yn<|y0<|yq<|yr<|yo zef<|yo zA<|yl<|yn<|y0<|yq<|yr<|yo zef<|yo zA<|yl<|yn<|y0<|yq<|yr<|yo zef<|yo zA<|yl<|yn<|y0<|yq<|yr<|yo zet<|yo zA<|yl<|yn<|y1<|yq<|yr<|yo zF<|yo (zB 0)<|yo zef<|yo zM<|yo zS<|yo zS<|yo zS<|yo zS<|yo zS<|yo zN<|yo zA<|yl<|yn<|yt<|yk<|yc ?_;exact Q7 mc4 rfl (.tmp rfl) Ym
 by_cases k9:kind=9
 ·subst k9;have HZ:=Q2 (show RES=(dk==3) by rw[<- HRS.out,Qaj rfl]);obtain⟨bk,hbk⟩:∃bk,(dk==3)=bk:=⟨_,rfl⟩;rw[hbk] at HZ;refine yn<|yb<|yq<|yr<|yo zef<|yo zA<|yl<|yn<|y0<|yq<|yq<|yr<|yo zef<|yo zA<|yl<|yn<|y0<|yr<|yo zef<|yo zA<|yl<|yn<|y0<|yq<|yr<|yo zef<|yo zA<|yl<|yn<|y0<|yq<|yr<|yo zef<|yo zA<|yl<|yn<|y0<|yq<|yr<|yo zef<|yo zA<|yl<|yn<|y0<|yq<|yr<|yo zef<|yo zA<|yl<|yn<|y0<|yq<|yr<|yo zet<|yo zA<|yl<|yn<|y1<|yq<|yr<|yo zF<|yo (zB 0)<|yo zea<|yo zA<|yl<|yn<|yt<|yk<|yc ?_;exact Q7 mc4 rfl (.tmp rfl) Ym
 by_cases k8:kind=8
 ·subst k8
  by_cases hdk:dk=3
  case neg=>
   have HZ:=Q2 (show RES=false by rw[<- HRS.out,Q1d rfl];simp only;rw[beq_eq_false_iff_ne.2 hdk];rfl);refine QtA ?_;refine Qe zef ?_;refine Qe zM ?_;refine Qhg ?_;refine Qe zS ?_;refine Qe zN ?_;refine Qjr ?_;refine Qe zN ?_;refine QkM ?_;exact Q7 mc4 rfl (.tmp rfl) Ym
  by_cases hpl2:p.len=2
  case neg=>
   have HZ:=Q2 (show RES=false by rw[<- HRS.out,Q1d rfl];simp only;rw[beq_eq_false_iff_ne.2 hpl2,Bool.and_false];rfl);refine QtA ?_;refine Qe zet ?_;refine Q4L ?_;refine Qe (zB 0) ?_;refine Qe zL ?_;refine Qe zef ?_;refine Qe zY ?_;refine Qjr ?_;refine Qe zN ?_;refine QkM ?_;exact Q7 mc4 rfl (.tmp rfl) Ym
  cases p with
  |nil=>cases hpl2
  |cons d1 p1 rest=>
   obtain⟨bp,op,rfl,hbp,⟨sb1,sn1,sp1,⟨c0,c1,_⟩,_⟩,_⟩:=HCH.out Q3;have HPL:=Q2 hpl2;obtain⟨pl,hpl0⟩:∃pl,(VF.cons d1 p1 rest).len=pl:=⟨_,rfl⟩;rw[hpl0] at hpl2 hpl ⊢;subst hpl2;have HE:=Q2 (show RES=(d1.k==1&&decide (0<=d1.n)&&decide (d1.n<(parts.length:Int))) by rw[<- HRS.out,Q1d rfl];simp only;rw[hdk,hpl0];rfl);clear hpl0;obtain⟨k1,n1,_,_⟩:=d1;simp only at c0 c1 HE;by_cases hk1:k1=1
   case neg=>
    have HZ:=Q2 (show RES=false by rw[HE.out,beq_eq_false_iff_ne.2 hk1];rfl);refine Qlw ?_;refine Qe zef ?_;refine Qe zY ?_;refine Qjr ?_;refine Qhg ?_;refine Qe zN ?_;refine Q05 ?_;refine yn<|yt<|yk<|yc ?_;exact Q7 mc4 rfl (.tmp rfl) Ym
   by_cases hn0:0<=n1
   case neg=>
    have HZ:=Q2 (show RES=false by rw[HE.out,decide_eq_false hn0,Bool.and_false];rfl);refine Qlw ?_;refine Qe zet ?_;refine Qp0 ?_;refine Qe (zG c1) ?_;refine Qe zhf ?_;refine Qe zY ?_;refine QkM ?_;exact Q7 mc4 rfl (.tmp rfl) Ym
   by_cases hn1:n1<(parts.length:Int)
   case neg=>
    have HZ:=Q2 (show RES=false by rw[HE.out,decide_eq_false hn1,Bool.and_false]);refine QqA ?_;refine Qe zL ?_;refine Qe zlf ?_;refine Qe zY ?_;refine Q05 ?_;refine yn<|yt<|yk<|yc ?_;exact Q7 mc4 rfl (.tmp rfl) Ym
   have HZ:=Q2 (show RES=true by rw[HE.out,hk1,decide_eq_true hn0,decide_eq_true hn1];rfl);refine QqA ?_;refine Qe zL ?_;refine Qe zlt ?_;refine Qe zY ?_;refine Q05 ?_;refine yn<|yt<|yk<|yc ?_;exact Q7 mc4 rfl (.tmp rfl) Ym
 have k7:kind=7:=by omega
 subst k7;obtain⟨hs1,hs2⟩:=hsev rfl;have hnl:names.length<=1048576:=by omega
 refine yn<|yb<|yq<|yr<|yo zef<|yo zA<|yl<|yn<|y0<|yq<|yq<|yr<|yo zef<|yo zA<|yl<|yn<|y0<|yr<|yo zef<|yo zA<|yl<|yn<|y0<|yq<|yr<|yo zef<|yo zA<|yl<|yn<|y0<|yq<|yr<|yo zef<|yo zA<|yl<|yn<|y0<|yq<|yr<|yo zef<|yo zA<|yl<|yn<|y0<|yq<|yr<|yo zef<|yo zA<|yl<|yn<|y0<|yq<|yr<|yo zef<|yo zA<|yl<|yn<|y0<|yq<|yr<|yo zef<|yo zA<|yl<|yn<|y0<|ys<|yn<|yq<|yr<|yo zF<|yo (zB 1) ?_;refine Qd (QY (fun y:Nat×Nat=>.slice (some ⟨y.1,0,none⟩) names.length y.2) (fun _=>True) (fun y=>.row (some ⟨y.1,0,none⟩) names.length y.2 9 1 (sv names)::_) rfl rfl rfl (fun w hw=>(Qag (((HRU.out.n.below (hw.k.below.mono hBW))).more Q9b) hnl).mono (fun e w' h=>Qib (by show 0<names.length;omega) hw h))) rfl Q1 (fun y _=>?_);refine Qd (Qm8 (fun _:Unit=>.slice (some ⟨y.1,0,none⟩) (QF names).length y.2) (fun _=>True) (fun _=>.rd (some ⟨y.1,0,none⟩) (QF names).length 1 (sv (QF names))::_) rfl rfl rfl (fun w hw=>(QiZ Kj hnl).mono (fun e w' h=>⟨(),h.1,trivial,hw.row_rd rfl h.2.1 h.2.2⟩))) rfl Q1 (fun _ _=>?_);refine yo zA<|yl ?_;by_cases hdk:dk=4
 ·have HZ:=Q2 (show RES=(dns==QF names) by rw[<- HRS.out,Q3I rfl];simp only;rw[hdk];rfl);refine yn<|yq<|yr<|yo zF<|yo (zB 1)<|yo zet<|yo zM<|yo zF<|yo (zB 1)<|yo zM ?_;(refine Q4 (Ql rfl rfl Q1 rfl rfl (fun w hw=>Q5H (((HRN.out.below (hw.k.below.mono hBW))).more Q9b) Kj hd2)) ?_);refine yo zY<|yo zA<|yl<|yn<|yt ?_;exact Q7 mc4 rfl (.tmp rfl) Ym
 ·have HZ:=Q2 (show RES=false by rw[<- HRS.out,Q3I rfl];simp only;rw[beq_eq_false_iff_ne.2 hdk];rfl);refine yn<|yq<|yr<|yo zF<|yo (zB 1)<|yo zef<|yo zM<|yo zS<|yo zS<|yo zS<|yo zS<|yo zN<|yo zA<|yl<|yn<|yt ?_;exact Q7 mc4 rfl (.tmp rfl) Ym
end
end
end Go.Proofs.YtphkhfdmlcnoeaaGreatDoor
