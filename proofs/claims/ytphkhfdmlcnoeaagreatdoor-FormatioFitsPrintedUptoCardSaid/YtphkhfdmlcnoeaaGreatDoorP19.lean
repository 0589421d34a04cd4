import Derived.Test.YtphkhfdmlcnoeaaGreatDoorP18
namespace Go.Proofs.YtphkhfdmlcnoeaaGreatDoor
set_option linter.unusedVariables false
set_option linter.unusedSimpArgs false
set_option maxRecDepth 1000000
set_option maxHeartbeats 32000000
open Go.RowKit
section
variable {v:Value}
section
variable {M:List Nat}{W w w':World}{O:List Qb}{b n c s m:Nat}{e:TypeId}{xs ys:List Value}
theorem Wd.row_rd(h:Wd M W (.row (some ⟨b,0,none⟩) n c e s xs::O) w)(hM:M=[])(hk:Xz [b] w w')(hr:Rd w' w'.heap.size s (some ⟨b,0,none⟩) m ys):Wd M W (.rd (some ⟨b,0,none⟩) m s ys::O) w':=by
 subst hM;have hb:W.heap.size<=b:=by
  rcases Nat.lt_or_ge b W.heap.size with hl|hl
  ·have h1:b∈[]:=h.new 0 _ b rfl rfl hl
   cases h1
  ·exact hl
 have hp:=List.pairwise_cons.1 h.pairs;have hne:∀x∈O,∀q,x.foot=some q->q≠b:=fun x hx q hq hqb=>by
  subst hqb;have:=hp.1 x hx q rfl hq;cases this
 refine .of_pairs (h.k.trans hk fun q hq hlt=>?_) ?_ ?_ ?_
 ·rw[List.mem_singleton] at hq
  omega
 ·intro x hx
  rcases List.mem_cons.1 hx with rfl|hx
  ·exact hr
  ·exact(h.onAll x Q1K).keep hk.size fun q hq=>hk.block q ((h.onAll x Q1K).lt hq) (by rw[List.mem_singleton];exact hne x hx q hq)
 ·intro x hx q hq hlt
  rcases List.mem_cons.1 hx with rfl|hx
  ·have:q=b:=by
    simp only[Qb.foot] at hq;split at hq
    ·cases hq
    ·cases hq;rfl
   omega
  ·exact h.newAll x Q1K q hq hlt
 ·refine List.pairwise_cons.2 ⟨fun x hx q hq hq'=>?_,hp.2⟩
  have:q=b:=by
   simp only[Qb.foot] at hq;split at hq
   ·cases hq
   ·cases hq;rfl
  exact absurd this (hne x hx q hq')
end
theorem Qlk{P:Program}{ops:Array Oper}{N:Nat}{E:Env}{o:Oper}{M:List Nat}{W:World}{O:List Qb}{ι:Type}(V:ι->Value)(p:ι->Prop)(G:ι->List Qb){f f2:FuncId}{x:Operand}{ts:Array TypeId}[he:En P f](ho:o.op=.call { callee:=.value (.func f),args:=#[x,.func f2],argTypes:=ts })(hw:Qi ops E o=some true)(hx:ev E x=some v)
  (hc:∀w,Wd M W O w->Calls P f #[v,.func (.func f2) #[] #[]] w (Xo V p M W G)):uE P ops N M W E O o ι V G p:=
 QlT hw (fun ρ w ha=>by
  have hf:=ha.2 f;have hf2:=ha.2 f2;have hh:=he.h
  simp only[execOp,ho,resolve,hf,hf2,ha.eval hx,List.map_toArray,List.map_cons,List.map_nil,Deferred.ofValue,invoke,Sem.run_bind,Sem.run_pure,Result.andThen_ok,Array.append_empty,Array.empty_append,hh]) hc
theorem QiI{W w w':World}{M:List Nat}{O:List Qb}{n:Nat}{ns:List (List UInt8)}{e:Ending}(h0:0<n)(hw:Wd M W O w)(h:Q8Y w n ns e w'):Xo (fun y:Nat×Nat=>.slice (some ⟨y.1,0,none⟩) n y.2) (fun _=>True) M W (fun y=>.row (some ⟨y.1,0,none⟩) n y.2 9 1 (sv ns)::O) e w':=by
 obtain⟨A,c,rfl,hown,hb⟩:=h;rcases hown.2 with ⟨hv,hn⟩|⟨g,cap,cur,hv,hg0,r⟩
 ·omega
 ·simp only[Value.slice.injEq] at hv
  obtain⟨rfl,_,rfl⟩:=hv;refine⟨(g,c),rfl,trivial,hw.push hb (y:=.row (some ⟨g,0,none⟩) n c 9 1 (sv ns)) ⟨hown.1,.inr ⟨g,c,cur,rfl,Nat.zero_le _,r⟩⟩ (fun b hb'=>?_)⟩;cases hb';exact hg0
section
variable {F:List Rl}{r:Rl}{d:Nd}{p:VF}
theorem QhK(h:r.kind=1):Xm F r d p=(d.k==3&&p.len==0):=by unfold Xm;rw[if_pos h]
theorem K9(h:r.kind=2\/r.kind=3):Xm F r d p=(d.k==1&&Vc r d.n):=by unfold Xm;rw[if_neg Q3,if_pos h]
theorem Qhp(h:r.kind=4):Xm F r d p=(d.k==2&&decide ((d.bs.length:Int)=r.size)):=by unfold Xm;rw[if_neg Q3,if_neg Q3,if_pos h]
theorem Q6v(h:r.kind=10):Xm F r d p=(d.k==2&&Vc (Qg F r.count) (d.bs.length:Int)):=by unfold Xm;exact QqS
theorem Qa7(h:r.kind=5):Xm F r d p=(d.k==2&&decide ((d.bs.length:Int)<=r.size)&&!(d.bs.contains (Yq r))):=by unfold Xm;exact Qnx
theorem Qa6(h:r.kind=6):Xm F r d p=(d.k==3&&Vc (Qg F r.count) (p.len:Int)):=by unfold Xm;exact Qox
theorem QpJ(h:r.kind=9):Xm F r d p=(d.k==3):=by unfold Xm;exact Qk3
theorem Q5u(h:r.kind=8):Xm F r d p=(d.k==3&&p.len==2&&p.hdN.k==1&&decide (0<=p.hdN.n)&&decide (p.hdN.n<(r.parts.length:Int))):=by unfold Xm;exact Qs7
theorem Qbb(h:r.kind=7):Xm F r d p=(d.k==4&&d.ns==Xa r.names):=by unfold Xm;exact Qrr
theorem QwB(m n:Nat):((m:Int)==(n:Int))=(m==n):=by
 rw[Bool.eq_iff_iff,beq_iff_eq,beq_iff_eq];omega
end
section
variable {W w w':World}{z:Wz}{B g c n:Nat}{F:List Rl}{A:Option Addr}{xs:List UInt8}
theorem Qbs{b3 b4 nn cf:Nat}{Af:Option Addr}{x cnt:Int}(hf:QX w B Af nn F)(hB:B<=w.heap.size)(h3:w.cell? ⟨b3,0,none⟩=some (.pointer (some ⟨g,0,none⟩)))(h4:w.cell? ⟨b4,8,none⟩=some (.int .i64 cnt))(hg:w.cell? ⟨g,0,none⟩=some (.slice Af nn cf))(hc:0<=cnt/\cnt<F.length):
  Calls Tryz.prog 107 ([Value.int .i64 x].toArray++#[.pointer (some ⟨b3,0,none⟩),.pointer (some ⟨b4,0,none⟩)]) w fun e w'=>e=.returned (.bool (Vc (Qg F cnt) x))/\Below w.heap.size w w':=by
 have hl:=hf.1;obtain⟨bf,of,haf,_⟩:=hf.2 Q3;subst haf;obtain⟨hbB,Ab,cb,An,cn,Ap,cp,hrg,hru⟩:=hf.ruleB (k:=cnt) Q3;have hcn:0<=cnt/\cnt<(nn:Int):=by omega
 clear hf hru;obtain⟨r,er⟩:∃r,Qg F cnt=r:=⟨_,rfl⟩;rw[er] at hrg ⊢;clear er;have hcc:∀W:World,Calls Tryz.prog 108 #[.agg (ruC r (.slice Ab r.bs.length cb) (.slice An r.names.length cn) (.slice Ap r.parts.length cp)).toArray,.int .i64 x] W fun e w'=>e=.returned (.bool (Vc r x))/\Below W.heap.size W w':=fun W=>Vx
 obtain⟨bb,hbb⟩:∃bb,Vc r x=bb:=⟨_,rfl⟩;rw[hbb] at hcc ⊢;obtain⟨name,kind,bs,size,big,mn,mx,stop,count,elem,names,parts⟩:=r;simp only[ruC] at hrg hcc;show Calls Tryz.prog 107 #[.int .i64 x,.pointer (some ⟨b3,0,none⟩),.pointer (some ⟨b4,0,none⟩)] w _;go_enter Tryz.func107,Tryz.ntmps107;refine Qs (M:=[]) (W:=w) (N:=16) (E:=[(0,.int .i64 x),(1,.pointer (some ⟨b3,0,none⟩)),(2,.pointer (some ⟨b4,0,none⟩))]) (O:=[]) ?_ Z0 (Wd.start [] w);refine Qe5 ?_;refine Qd (zG h3) ?_;refine Qd mc5 ?_;refine Qd zF ?_;refine Qd zF ?_;refine Qd (zG hg) ?_;refine Qd zF ?_;refine Qd (zG h4) ?_;refine Qd QmT ?_;refine Qd (Xs rfl rfl Q1 rfl rfl (fun w hw=>hw.range_old hrg Ql) rfl) ?_;refine Qd zM ?_;refine Qd Ql0 ?_;refine Q6I ?_;exact Q7 mc4 rfl (.tmp rfl) (fun w hw=>⟨rfl,hw.k.below⟩)
def FiE(W:World)(b:Bool)(e:Ending)(w':World):Prop:=e=.returned (.bool b)/\Below W.heap.size W w'
theorem Q22{k:Int}{d:Nd}{p:VF}(h:XV W z B g F A c xs n)(hv:Fm F)(hk:0<=k/\k<F.length){Ab An Ap:Option Addr}{cb cn cp:Nat}(hru:RuB W B (Qg F k) Ab cb An cn Ap cp)(hval:VIn W B v d p)(hd1:d.bs.length<=1048576)(hd2:d.ns.length<=1048576):
  Calls Tryz.prog 83 #[.pointer (some ⟨g,0,none⟩),.agg (ruC (Qg F k) (.slice Ab (Qg F k).bs.length cb) (.slice An (Qg F k).names.length cn) (.slice Ap (Qg F k).parts.length cp)).toArray,v] W (FiE W (Xm F (Qg F k) d p)):=by
 have hFn:=h.len;have hr:=hv.toUsd.rok hk;have hBW:B<=W.heap.size:=by have:=h.hB;have:=h.lt;omega
 have HFM:=Q2 h.fm;have hcg:W.cell? ⟨g,0,none⟩=some (.slice z.Af z.n z.cf):=by
  rw[cell_of_row W g 0 _ _ _ h.cur];rfl
 clear h;obtain⟨r,er⟩:∃r,Qg F k=r:=⟨_,rfl⟩;rw[er] at hr hru ⊢;clear er;obtain⟨sb,sn,sp,rfl,Abv,nb,cbv,Anv,nnv,cnv,Apv,cpv,rfl,rfl,rfl,hnb,hnn,hpl,hcm,hrb,hrn,hch⟩:=hval;have hnbl:d.bs.length=nb:=by have:=hrb.len;rw[X5] at this;exact this
 have hnnl:d.ns.length=nnv:=by have:=hrn.len;rw[XQ] at this;exact this
 subst hnbl hnnl;have HRB:=Q2 hrb;have HRN:=Q2 hrn;have HCH:=Q2 hch;have HRU:=Q2 hru;have hcnt:=hr.count;have hkind:=hr.kind;have hsev:=hr.seven;have hp12:=hr.p12;obtain⟨dk,dn,dbs,dns⟩:=d;obtain⟨Af,nn,cf⟩:=z;simp only at hFn hcg hd1 hd2 hnb hnn;clear hrb hrn hch hru hr;obtain⟨name,kind,bs,size,big,mn,mx,stop,count,elem,names,parts⟩:=r;simp only at hcnt hkind hsev hp12;simp only[ruC];go_enter Tryz.func83,Tryz.ntmps83;refine Qs (M:=[]) (W:=W) (N:=150) (E:=[(0,.pointer Q54),(1,.agg [.string ⟨name.toArray⟩,.int .i64 kind,.slice Ab bs.length cb,.int .i64 size,.bool big,.int .i64 mn,.int .i64 mx,.int .i64 stop,.int .i64 count,.int .i64 elem,.slice An names.length cn,.slice Ap parts.length cp].toArray),(2,.agg #[.int .i64 dk,.int .i64 dn,.slice Abv dbs.length cbv,.slice Anv dns.length cnv,.slice Apv p.len cpv])]) (O:=[]) ?_ Z0 (Wd.start [] W);obtain⟨RES,hres⟩:∃x,Xm F ⟨name,kind,bs,size,big,mn,mx,stop,count,elem,names,parts⟩ ⟨dk,dn,dbs,dns⟩ p=x:=⟨_,rfl⟩;rw[hres];have HRS:=Q2 hres;clear hres;refine yq<|yr ?_;refine yB fun b3=>?_;refine yB fun b4=>?_;refine yB fun b5=>?_;refine yo zA<|yl<|yn<|yq<|yr<|yo zu<|yo zA<|yl<|yn<|yq<|yq<|yr<|yo zF<|yo (zB 1)<|yl ?_;by_cases k1:kind=1
 ·subst k1
  by_cases hdk:dk=3
  ·have e0:((p.len:Int)==0)=(p.len==0):=QwB p.len 0;have HZ:=Q2 (show RES=(p.len==0) by rw[<- HRS.out,QhK rfl];simp only;rw[hdk];rfl);refine yn<|yb<|yq<|yr<|yo zet<|yo zA<|yl<|yn<|y1<|yq<|yr<|yo zF<|yo (zB 0)<|yo zet<|yo zM<|yo zF<|yo (zB 0)<|yo zL<|yo zea<|yo zY<|yo zA<|yl<|yn<|yt<|yk<|yc ?_;exact Q7 mc4 rfl (.tmp rfl) VB
  ·have HZ:=Q2 (show RES=false by rw[<- HRS.out,QhK rfl];simp only;rw[beq_eq_false_iff_ne.2 hdk];rfl);refine yn<|yb<|yq<|yr<|yo zet<|yo zA<|yl<|yn<|y1<|yq<|yr<|yo zF<|yo (zB 0)<|yo zef<|yo zM<|yo zS<|yo zS<|yo zS<|yo zS<|yo zN<|yo zA<|yl<|yn<|yt<|yk<|yc ?_;exact Q7 mc4 rfl (.tmp rfl) VB
 by_cases k2:kind=2
 ·subst k2
  have hcc:∀W:World,Calls Tryz.prog 108 #[.agg [.string ⟨name.toArray⟩,.int .i64 2,.slice Ab bs.length cb,.int .i64 size,.bool big,.int .i64 mn,.int .i64 mx,.int .i64 stop,.int .i64 count,.int .i64 elem,.slice An names.length cn,.slice Ap parts.length cp].toArray,.int .i64 dn] W fun e w'=>e=.returned (.bool (Vc ⟨name,2,bs,size,big,mn,mx,stop,count,elem,names,parts⟩ dn))/\Below W.heap.size W w':=fun W=>Vx (r:=⟨name,2,bs,size,big,mn,mx,stop,count,elem,names,parts⟩)
  by_cases hdk:dk=1
  ·have HZ:=Q2 (show RES=Vc ⟨name,2,bs,size,big,mn,mx,stop,count,elem,names,parts⟩ dn by rw[<- HRS.out,K9 (.inl rfl)];simp only;rw[hdk];rfl);refine yn<|yb<|yq<|yr<|yo zef<|yo zA<|yl<|yn<|y0<|yq<|yq<|yr<|yo zet<|yo zA<|yl<|yn<|y1<|ys<|yn<|y1<|yq<|yr<|yo zF<|yo (zB 0)<|yo zet<|yo zM<|yo (zD 1)<|yo zF<|yo (zB 0) ?_;refine Q4 Ql0 ?_;refine Qb7 ?_;exact Q7 mc4 rfl (.tmp rfl) VB
  ·have HZ:=Q2 (show RES=false by rw[<- HRS.out,K9 (.inl rfl)];simp only;rw[beq_eq_false_iff_ne.2 hdk];rfl);refine yn<|yb<|yq<|yr<|yo zef<|yo zA<|yl<|yn<|y0<|yq<|yq<|yr<|yo zet<|yo zA<|yl<|yn<|y1<|ys<|yn<|y1<|yq<|yr<|yo zF<|yo (zB 0)<|yo zef<|yo zM<|yo zS<|yo zS<|yo zS<|yo zS<|yo zN<|yo zA<|yl<|yn<|yt<|yk<|yc ?_;exact Q7 mc4 rfl (.tmp rfl) VB
 by_cases k3:kind=3
 ·subst k3
  have hcc:∀W:World,Calls Tryz.prog 108 #[.agg [.string ⟨name.toArray⟩,.int .i64 3,.slice Ab bs.length cb,.int .i64 size,.bool big,.int .i64 mn,.int .i64 mx,.int .i64 stop,.int .i64 count,.int .i64 elem,.slice An names.length cn,.slice Ap parts.length cp].toArray,.int .i64 dn] W fun e w'=>e=.returned (.bool (Vc ⟨name,3,bs,size,big,mn,mx,stop,count,elem,names,parts⟩ dn))/\Below W.heap.size W w':=fun W=>Vx (r:=⟨name,3,bs,size,big,mn,mx,stop,count,elem,names,parts⟩)
  by_cases hdk:dk=1
  ·have HZ:=Q2 (show RES=Vc ⟨name,3,bs,size,big,mn,mx,stop,count,elem,names,parts⟩ dn by rw[<- HRS.out,K9 (.inr rfl)];simp only;rw[hdk];rfl);refine yn<|yb<|yq<|yr<|yo zef<|yo zA<|yl<|yn<|y0<|yq<|yq<|yr<|yo zef<|yo zA<|yl<|yn<|y0<|yr<|yo zet<|yo zA<|yl<|yn<|y1<|yq<|yr<|yo zF<|yo (zB 0)<|yo zet<|yo zM<|yo (zD 1)<|yo zF<|yo (zB 0) ?_;refine Q4 Ql0 ?_;refine Qb7 ?_;exact Q7 mc4 rfl (.tmp rfl) VB
  ·have HZ:=Q2 (show RES=false by rw[<- HRS.out,K9 (.inr rfl)];simp only;rw[beq_eq_false_iff_ne.2 hdk];rfl);refine yn<|yb<|yq<|yr<|yo zef<|yo zA<|yl<|yn<|y0<|yq<|yq<|yr<|yo zef<|yo zA<|yl<|yn<|y0<|yr<|yo zet<|yo zA<|yl<|yn<|y1<|yq<|yr<|yo zF<|yo (zB 0)<|yo zef<|yo zM<|yo zS<|yo zS<|yo zS<|yo zS<|yo zN<|yo zA<|yl<|yn<|yt<|yk<|yc ?_;exact Q7 mc4 rfl (.tmp rfl) VB
 by_cases k4:kind=4
 ·subst k4
  by_cases hdk:dk=2
  ·have e0:((dbs.length:Int)==size)=decide ((dbs.length:Int)=size):=by rw[Bool.eq_iff_iff,beq_iff_eq,decide_eq_true_iff]
   have HZ:=Q2 (show RES=decide ((dbs.length:Int)=size) by rw[<- HRS.out,Qhp rfl];simp only;rw[hdk];rfl);refine yn<|yb<|yq<|yr<|yo zef<|yo zA<|yl<|yn<|y0<|yq<|yq<|yr<|yo zef<|yo zA<|yl<|yn<|y0<|yr<|yo zef<|yo zA<|yl<|yn<|y0<|yq<|yr<|yo zet<|yo zA<|yl<|yn<|y1<|yq<|yr<|yo zF<|yo (zB 0)<|yo zet<|yo zM<|yo zF<|yo (zB 0)<|yo zL<|yo zF<|yo (zB 1)<|yo zea<|yo zY<|yo zA<|yl<|yn<|yt<|yk<|yc ?_;exact Q7 mc4 rfl (.tmp rfl) VB
  ·have HZ:=Q2 (show RES=false by rw[<- HRS.out,Qhp rfl];simp only;rw[beq_eq_false_iff_ne.2 hdk];rfl);refine yn<|yb<|yq<|yr<|yo zef<|yo zA<|yl<|yn<|y0<|yq<|yq<|yr<|yo zef<|yo zA<|yl<|yn<|y0<|yr<|yo zef<|yo zA<|yl<|yn<|y0<|yq<|yr<|yo zet<|yo zA<|yl<|yn<|y1<|yq<|yr<|yo zF<|yo (zB 0)<|yo zef<|yo zM<|yo zS<|yo zS<|yo zS<|yo zS<|yo zS<|yo zS<|yo zN<|yo zA<|yl<|yn<|yt<|yk<|yc ?_;exact Q7 mc4 rfl (.tmp rfl) VB
 by_cases k10:kind=10
 ·subst k10;have HCT:=Q2 (hcnt (.inr rfl))
  by_cases hdk:dk=2
  ·have HZ:=Q2 (show RES=Vc (Qg F count) (dbs.length:Int) by rw[<- HRS.out,Q6v rfl];simp only;rw[hdk];rfl);refine yn<|yb<|yq<|yr<|yo zef<|yo zA<|yl<|yn<|y0<|yq<|yq<|yr<|yo zef<|yo zA<|yl<|yn<|y0<|yr<|yo zef<|yo zA<|yl<|yn<|y0<|yq<|yr<|yo zef<|yo zA<|yl<|yn<|y0<|yq<|yr<|yo zet<|yo zA<|yl<|yn<|y1<|yq<|yr<|yo zF<|yo (zB 0)<|yo zet<|yo zM<|yo zM<|yo zF<|yo (zB 0)<|yo zL ?_;(refine Q4 Qsy ?_);refine Qb7 ?_;exact Q7 mc4 rfl (.tmp rfl) VB
  ·have HZ:=Q2 (show RES=false by rw[<- HRS.out,Q6v rfl];simp only;rw[beq_eq_false_iff_ne.2 hdk];rfl);refine yn<|yb<|yq<|yr<|yo zef<|yo zA<|yl<|yn<|y0<|yq<|yq<|yr<|yo zef<|yo zA<|yl<|yn<|y0<|yr<|yo zef<|yo zA<|yl<|yn<|y0<|yq<|yr<|yo zef<|yo zA<|yl<|yn<|y0<|yq<|yr<|yo zet<|yo zA<|yl<|yn<|y1<|yq<|yr<|yo zF<|yo (zB 0)<|yo zef<|yo zM<|yo zS<|yo zS<|yo zS<|yo zS<|yo zS<|yo zN<|yo zA<|yl<|yn<|yt<|yk<|yc ?_;exact Q7 mc4 rfl (.tmp rfl) VB
 by_cases k5:kind=5
 ·subst k5;obtain⟨sB,hsB⟩:∃b:UInt8,UInt8.ofNat (stop % 256).toNat=b:=⟨_,rfl⟩
  have hcv:IntKind.u8.wrap stop=(sB.toNat:Int):=by rw[Qcn,hsB]
  by_cases hdk:dk=2
  ·by_cases hle:(dbs.length:Int)<=size
   ·have HZ:=Q2 (show RES=!(dbs.contains sB) by rw[<- HRS.out,Qa7 rfl];simp only;rw[hdk,decide_eq_true hle];unfold Yq;simp only;rw[hsB];rfl);refine yn<|yb<|yq<|yr<|yo zef<|yo zA<|yl<|yn<|y0<|yq<|yq<|yr<|yo zef<|yo zA<|yl<|yn<|y0<|yr<|yo zef<|yo zA<|yl<|yn<|y0<|yq<|yr<|yo zef<|yo zA<|yl<|yn<|y0<|yq<|yr<|yo zef<|yo zA<|yl<|yn<|y0<|yq<|yr<|yo zet<|yo zA<|yl<|yn<|y1<|yq<|yr<|yo zF<|yo (zB 0)<|yo zet<|yo zM<|yo zF<|yo (zB 0)<|yo zL<|yo zF<|yo (zB 1)<|yo zqt<|yo zY<|yo zM<|yo zF<|yo (zB 0)<|yo zF<|yo (zB 1) ?_;(refine Q4 Qcr ?_);(refine Q4 (Qj rfl rfl Q1 rfl rfl (fun w hw=>Q1h (((HRB.out.below (hw.k.below.mono hBW))).more Q96) hd1 sB)) ?_);refine yo zO<|yo zY<|yo zA<|yl<|yn<|yt<|yk<|yc ?_;exact Q7 mc4 rfl (.tmp rfl) VB
   ·have HZ:=Q2 (show RES=false by rw[<- HRS.out,Qa7 rfl];simp only;rw[decide_eq_false hle,Bool.and_false];rfl);refine yn<|yb<|yq<|yr<|yo zef<|yo zA<|yl<|yn<|y0<|yq<|yq<|yr<|yo zef<|yo zA<|yl<|yn<|y0<|yr<|yo zef<|yo zA<|yl<|yn<|y0<|yq<|yr<|yo zef<|yo zA<|yl<|yn<|y0<|yq<|yr<|yo zef<|yo zA<|yl<|yn<|y0<|yq<|yr<|yo zet<|yo zA<|yl<|yn<|y1<|yq<|yr<|yo zF<|yo (zB 0)<|yo zet<|yo zM<|yo zF<|yo (zB 0)<|yo zL<|yo zF<|yo (zB 1)<|yo zqf<|yo zY<|yo zM<|yo zS<|yo zS<|yo zS<|yo zS<|yo zS<|yo zS<|yo zS<|yo zN<|yo zA<|yl<|yn<|yt<|yk<|yc ?_;exact Q7 mc4 rfl (.tmp rfl) VB
  ·have HZ:=Q2 (show RES=false by rw[<- HRS.out,Qa7 rfl];simp only;rw[beq_eq_false_iff_ne.2 hdk];rfl);refine yn<|yb<|yq<|yr<|yo zef<|yo zA<|yl<|yn<|y0<|yq<|yq<|yr<|yo zef<|yo zA<|yl<|yn<|y0<|yr<|yo zef<|yo zA<|yl<|yn<|y0<|yq<|yr<|yo zef<|yo zA<|yl<|yn<|y0<|yq<|yr<|yo zef<|yo zA<|yl<|yn<|y0<|yq<|yr<|yo zet<|yo zA<|yl<|yn<|y1<|yq<|yr<|yo zF<|yo (zB 0)<|yo zef<|yo zM<|yo zS<|yo zS<|yo zS<|yo zS<|yo zS<|yo zS<|yo zN<|yo zM<|yo zS<|yo zS<|yo zS<|yo zS<|yo zS<|yo zS<|yo zS<|yo zN<|yo zA<|yl<|yn<|yt<|yk<|yc ?_;exact Q7 mc4 rfl (.tmp rfl) VB
 by_cases k6:kind=6
 ·subst k6;have HCT:=Q2 (hcnt (.inl rfl))
  by_cases hdk:dk=3
  ·have HZ:=Q2 (show RES=Vc (Qg F count) (p.len:Int) by rw[<- HRS.out,Qa6 rfl];simp only;rw[hdk];rfl);refine yn<|yb<|yq<|yr<|yo zef<|yo zA<|yl<|yn<|y0<|yq<|yq<|yr<|yo zef<|yo zA<|yl<|yn<|y0<|yr<|yo zef<|yo zA<|yl<|yn<|y0<|yq<|yr<|yo zef<|yo zA<|yl<|yn<|y0<|yq<|yr<|yo zef<|yo zA<|yl<|yn<|y0<|yq<|yr<|yo zef<|yo zA<|yl<|yn<|y0<|yq<|yr<|yo zet<|yo zA<|yl<|yn<|y1<|yq<|yr<|yo zF<|yo (zB 0)<|yo zet<|yo zM<|yo zM<|yo zF<|yo (zB 0)<|yo zL ?_;(refine Q4 Qsy ?_);refine Qb7 ?_;exact Q7 mc4 rfl (.tmp rfl) VB
  ·have HZ:=Q2 (show RES=false by rw[<- HRS.out,Qa6 rfl];simp only;rw[beq_eq_false_iff_ne.2 hdk];rfl);refine yn<|yb<|yq<|yr<|yo zef<|yo zA<|yl<|yn<|y0<|yq<|yq<|yr<|yo zef<|yo zA<|yl<|yn<|y0<|yr<|yo zef<|yo zA<|yl<|yn<|y0<|yq<|yr<|yo zef<|yo zA<|yl<|yn<|y0<|yq<|yr<|yo zef<|yo zA<|yl<|yn<|y0<|yq<|yr<|yo zef<|yo zA<|yl<|yn<|y0<|yq<|yr<|yo zet<|yo zA<|yl<|yn<|y1<|yq<|yr<|yo zF<|yo (zB 0)<|yo zef<|yo zM<|yo zS<|yo zS<|yo zS<|yo zS<|yo zS<|yo zN<|yo zA<|yl<|yn<|yt<|yk<|yc ?_;exact Q7 mc4 rfl (.tmp rfl) VB
 by_cases k9:kind=9
 ·subst k9;have HZ:=Q2 (show RES=(dk==3) by rw[<- HRS.out,QpJ rfl]);obtain⟨bk,hbk⟩:∃bk,(dk==3)=bk:=⟨_,rfl⟩;rw[hbk] at HZ;refine yn<|yb<|yq<|yr<|yo zef<|yo zA<|yl<|yn<|y0<|yq<|yq<|yr<|yo zef<|yo zA<|yl<|yn<|y0<|yr<|yo zef<|yo zA<|yl<|yn<|y0<|yq<|yr<|yo zef<|yo zA<|yl<|yn<|y0<|yq<|yr<|yo zef<|yo zA<|yl<|yn<|y0<|yq<|yr<|yo zef<|yo zA<|yl<|yn<|y0<|yq<|yr<|yo zef<|yo zA<|yl<|yn<|y0<|yq<|yr<|yo zet<|yo zA<|yl<|yn<|y1<|yq<|yr<|yo zF<|yo (zB 0)<|yo zea<|yo zA<|yl<|yn<|yt<|yk<|yc ?_;exact Q7 mc4 rfl (.tmp rfl) VB
 by_cases k8:kind=8
 ·subst k8
  by_cases hdk:dk=3
  case neg=>
   have HZ:=Q2 (show RES=false by rw[<- HRS.out,Q5u rfl];simp only;rw[beq_eq_false_iff_ne.2 hdk];rfl);refine Quk ?_;refine Qd zef ?_;refine Qd zM ?_;refine Qng ?_;refine Qd zS ?_;refine Qd zN ?_;refine Qm1 ?_;refine Qd zN ?_;refine QnD ?_;exact Q7 mc4 rfl (.tmp rfl) VB
  by_cases hpl2:p.len=2
  case neg=>
   have HZ:=Q2 (show RES=false by rw[<- HRS.out,Q5u rfl];simp only;rw[beq_eq_false_iff_ne.2 hpl2,Bool.and_false];rfl);refine Quk ?_;refine Qd zet ?_;refine Q6k ?_;refine Qd (zB 0) ?_;refine Qd zL ?_;refine Qd zef ?_;refine Qd zY ?_;refine Qm1 ?_;refine Qd zN ?_;refine QnD ?_;exact Q7 mc4 rfl (.tmp rfl) VB
  cases p with
  |nil=>cases hpl2
  |cons d1 p1 rest=>
   obtain⟨bp,op,rfl,hbp,⟨sb1,sn1,sp1,⟨c0,c1,_⟩,_⟩,_⟩:=HCH.out Q3;have HPL:=Q2 hpl2;obtain⟨pl,hpl0⟩:∃pl,(VF.cons d1 p1 rest).len=pl:=⟨_,rfl⟩;rw[hpl0] at hpl2 hpl ⊢;subst hpl2;have HE:=Q2 (show RES=(d1.k==1&&decide (0<=d1.n)&&decide (d1.n<(parts.length:Int))) by rw[<- HRS.out,Q5u rfl];simp only;rw[hdk,hpl0];rfl);clear hpl0;obtain⟨k1,n1,_,_⟩:=d1;simp only at c0 c1 HE;by_cases hk1:k1=1
   case neg=>
    have HZ:=Q2 (show RES=false by rw[HE.out,beq_eq_false_iff_ne.2 hk1];rfl);refine Qo6 ?_;refine Qd zef ?_;refine Qd zY ?_;refine Qm1 ?_;refine Qng ?_;refine Qd zN ?_;refine Q0i ?_;refine yn<|yt<|yk<|yc ?_;exact Q7 mc4 rfl (.tmp rfl) VB
   by_cases hn0:0<=n1
   case neg=>
    have HZ:=Q2 (show RES=false by rw[HE.out,decide_eq_false hn0,Bool.and_false];rfl);refine Qo6 ?_;refine Qd zet ?_;refine QqJ ?_;refine Qd (zG c1) ?_;refine Qd zhf ?_;refine Qd zY ?_;refine QnD ?_;exact Q7 mc4 rfl (.tmp rfl) VB
   by_cases hn1:n1<(parts.length:Int)
   case neg=>
    have HZ:=Q2 (show RES=false by rw[HE.out,decide_eq_false hn1,Bool.and_false]);refine Qrc ?_;refine Qd zL ?_;refine Qd zlf ?_;refine Qd zY ?_;refine Q0i ?_;refine yn<|yt<|yk<|yc ?_;exact Q7 mc4 rfl (.tmp rfl) VB
   have HZ:=Q2 (show RES=true by rw[HE.out,hk1,decide_eq_true hn0,decide_eq_true hn1];rfl);refine Qrc ?_;refine Qd zL ?_;refine Qd zlt ?_;refine Qd zY ?_;refine Q0i ?_;refine yn<|yt<|yk<|yc ?_;exact Q7 mc4 rfl (.tmp rfl) VB
 have k7:kind=7:=by omega
 subst k7;obtain⟨hs1,hs2⟩:=hsev rfl;have hnl:names.length<=1048576:=by omega
 refine yn<|yb<|yq<|yr<|yo zef<|yo zA<|yl<|yn<|y0<|yq<|yq<|yr<|yo zef<|yo zA<|yl<|yn<|y0<|yr<|yo zef<|yo zA<|yl<|yn<|y0<|yq<|yr<|yo zef<|yo zA<|yl<|yn<|y0<|yq<|yr<|yo zef<|yo zA<|yl<|yn<|y0<|yq<|yr<|yo zef<|yo zA<|yl<|yn<|y0<|yq<|yr<|yo zef<|yo zA<|yl<|yn<|y0<|yq<|yr<|yo zef<|yo zA<|yl<|yn<|y0<|yq<|yr<|yo zef<|yo zA<|yl<|yn<|y0<|ys<|yn<|yq<|yr<|yo zF<|yo (zB 1) ?_;refine Qc (XB (fun y:Nat×Nat=>.slice (some ⟨y.1,0,none⟩) names.length y.2) (fun _=>True) (fun y=>.row (some ⟨y.1,0,none⟩) names.length y.2 9 1 (sv names)::_) rfl rfl rfl (fun w hw=>(QaB (((HRU.out.n.below (hw.k.below.mono hBW))).more Q96) hnl).mono (fun e w' h=>QiI (by show 0<names.length;omega) hw h))) rfl Q1 (fun y _=>?_);refine Qc (Qlk (fun _:Unit=>.slice (some ⟨y.1,0,none⟩) (Xa names).length y.2) (fun _=>True) (fun _=>.rd (some ⟨y.1,0,none⟩) (Xa names).length 1 (sv (Xa names))::_) rfl rfl rfl (fun w hw=>(Qil KT hnl).mono (fun e w' h=>⟨(),h.1,trivial,hw.row_rd rfl h.2.1 h.2.2⟩))) rfl Q1 (fun _ _=>?_);refine yo zA<|yl ?_;by_cases hdk:dk=4
 ·have HZ:=Q2 (show RES=(dns==Xa names) by rw[<- HRS.out,Qbb rfl];simp only;rw[hdk];rfl);refine yn<|yq<|yr<|yo zF<|yo (zB 1)<|yo zet<|yo zM<|yo zF<|yo (zB 1)<|yo zM ?_;(refine Q4 (Qj rfl rfl Q1 rfl rfl (fun w hw=>Q5o (((HRN.out.below (hw.k.below.mono hBW))).more Q96) KT hd2)) ?_);refine yo zY<|yo zA<|yl<|yn<|yt ?_;exact Q7 mc4 rfl (.tmp rfl) VB
 ·have HZ:=Q2 (show RES=false by rw[<- HRS.out,Qbb rfl];simp only;rw[beq_eq_false_iff_ne.2 hdk];rfl);refine yn<|yq<|yr<|yo zF<|yo (zB 1)<|yo zef<|yo zM<|yo zS<|yo zS<|yo zS<|yo zS<|yo zN<|yo zA<|yl<|yn<|yt ?_;exact Q7 mc4 rfl (.tmp rfl) VB
end
end
end Go.Proofs.YtphkhfdmlcnoeaaGreatDoor
