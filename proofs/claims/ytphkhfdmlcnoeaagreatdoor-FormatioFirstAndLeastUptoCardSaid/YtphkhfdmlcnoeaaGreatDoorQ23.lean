import Derived.Test.YtphkhfdmlcnoeaaGreatDoorQ22
namespace Go.Proofs.YtphkhfdmlcnoeaaGreatDoor
set_option linter.unusedVariables false
set_option linter.unusedSimpArgs false
set_option maxRecDepth 1000000
set_option maxHeartbeats 32000000
open Go.RowKit
section
variable {v:Value}
section
variable {M:List Nat}{W w w':World}{O:List Qf}{b n c s m:Nat}{e:TypeId}{xs ys:List Value}
theorem Wd.row_rd(h:Wd M W (.row (some ⟨b,0,none⟩) n c e s xs::O) w)(hM:M=[])(hk:XP [b] w w')(hr:Rd w' w'.heap.size s (some ⟨b,0,none⟩) m ys):Wd M W (.rd (some ⟨b,0,none⟩) m s ys::O) w':=by
 subst hM;have hb:W.heap.size<=b:=by
  rcases Nat.lt_or_ge b W.heap.size with hl|hl
  ·have h1:b∈[]:=h.new 0 _ b rfl rfl hl
   cases h1
  ·exact hl
 have hp:=List.pairwise_cons.1 h.pairs;have hne:∀x∈O,∀q,x.foot=some q->q≠b:=fun x hx q hq hqb=>by
  subst hqb;have:=hp.1 x hx q rfl hq;cases this
 refine .of_pairs (h.k.trans hk fun q hq hlt=>?_) ?_ ?_ ?_
 ·rw[List.mem_singleton] at hq
  omega
 ·intro x hx
  rcases List.mem_cons.1 hx with rfl|hx
  ·exact hr
  ·exact(h.onAll x (List.mem_cons_of_mem _ hx)).keep hk.size fun q hq=>hk.block q ((h.onAll x (List.mem_cons_of_mem _ hx)).lt hq) (by rw[List.mem_singleton];exact hne x hx q hq)
 ·intro x hx q hq hlt
  rcases List.mem_cons.1 hx with rfl|hx
  ·have:q=b:=by
    simp only[Qf.foot] at hq;split at hq
    ·cases hq
    ·cases hq;rfl
   omega
  ·exact h.newAll x (List.mem_cons_of_mem _ hx) q hq hlt
 ·refine List.pairwise_cons.2 ⟨fun x hx q hq hq'=>?_,hp.2⟩
  have:q=b:=by
   simp only[Qf.foot] at hq;split at hq
   ·cases hq
   ·cases hq;rfl
  exact absurd this (hne x hx q hq')
end
theorem Qoe{P:Program}{ops:Array Oper}{N:Nat}{E:Env}{o:Oper}{M:List Nat}{W:World}{O:List Qf}{ι:Type}(V:ι->Value)(p:ι->Prop)(G:ι->List Qf){f f2:FuncId}{x:Operand}{ts:Array TypeId}[he:En P f](ho:o.op=.call { callee:=.value (.func f),args:=#[x,.func f2],argTypes:=ts })(hw:Qm ops E o=some true)(hx:ev E x=some v)
  (hc:∀w,Wd M W O w->Calls P f #[v,.func (.func f2) #[] #[]] w (QN V p M W G)):uE P ops N M W E O o ι V G p:=
 QjC hw (fun ρ w ha=>by
  have hf:=ha.2 f;have hf2:=ha.2 f2;have hh:=he.h
  simp only[execOp,ho,resolve,hf,hf2,ha.eval hx,List.map_toArray,List.map_cons,List.map_nil,Deferred.ofValue,invoke,Sem.run_bind,Sem.run_pure,Result.andThen_ok,Array.append_empty,Array.empty_append,hh]) hc
theorem QiG{W w w':World}{M:List Nat}{O:List Qf}{n:Nat}{ns:List (List UInt8)}{e:Ending}(h0:0<n)(hw:Wd M W O w)(h:Q8U w n ns e w'):QN (fun y:Nat×Nat=>.slice (some ⟨y.1,0,none⟩) n y.2) (fun _=>True) M W (fun y=>.row (some ⟨y.1,0,none⟩) n y.2 9 1 (sv ns)::O) e w':=by
 obtain⟨A,c,rfl,hown,hb⟩:=h;rcases hown.2 with ⟨hv,hn⟩|⟨g,cap,cur,hv,hg0,r⟩
 ·omega
 ·simp only[Value.slice.injEq] at hv
  obtain⟨rfl,_,rfl⟩:=hv;refine⟨(g,c),rfl,trivial,hw.push hb (y:=.row (some ⟨g,0,none⟩) n c 9 1 (sv ns)) ⟨hown.1,.inr ⟨g,c,cur,rfl,Nat.zero_le _,r⟩⟩ (fun b hb'=>?_)⟩;cases hb';exact hg0
section
variable {F:List Rl}{r:Rl}{d:Nd}{p:VF}
theorem Qhc(h:r.kind=1):XB F r d p=(d.k==3&&p.len==0):=by unfold XB;rw[if_pos h]
theorem Kn(h:r.kind=2\/r.kind=3):XB F r d p=(d.k==1&&Vl r d.n):=by unfold XB;rw[if_neg Q2,if_pos h]
theorem QhF(h:r.kind=4):XB F r d p=(d.k==2&&decide ((d.bs.length:Int)=r.size)):=by unfold XB;rw[if_neg Q2,if_neg Q2,if_pos h]
theorem Q5M(h:r.kind=10):XB F r d p=(d.k==2&&Vl (Qj F r.count) (d.bs.length:Int)):=by unfold XB;rw[if_neg Q2,if_neg Q2,if_neg Q2,if_pos h]
theorem Qaz(h:r.kind=5):XB F r d p=(d.k==2&&decide ((d.bs.length:Int)<=r.size)&&!(d.bs.contains (YD r))):=by unfold XB;rw[if_neg Q2,if_neg Q2,if_neg Q2,if_neg Q2,if_pos h]
theorem Q9D(h:r.kind=6):XB F r d p=(d.k==3&&Vl (Qj F r.count) (p.len:Int)):=by unfold XB;rw[if_neg Q2,if_neg Q2,if_neg Q2,if_neg Q2,if_neg Q2,if_pos h]
theorem QpY(h:r.kind=9):XB F r d p=(d.k==3):=by unfold XB;rw[if_neg Q2,if_neg Q2,if_neg Q2,if_neg Q2,if_neg Q2,if_neg Q2,if_pos h]
theorem Q5w(h:r.kind=8):XB F r d p=(d.k==3&&p.len==2&&p.hdN.k==1&&decide (0<=p.hdN.n)&&decide (p.hdN.n<(r.parts.length:Int))):=by unfold XB;rw[if_neg Q2,if_neg Q2,if_neg Q2,if_neg Q2,if_neg Q2,if_neg Q2,if_neg Q2,if_pos h]
theorem Q9w(h:r.kind=7):XB F r d p=(d.k==4&&d.ns==QE r.names):=by unfold XB;rw[if_neg Q2,if_neg Q2,if_neg Q2,if_neg Q2,if_neg Q2,if_neg Q2,if_neg Q2,if_neg Q2]
theorem Qwz(m n:Nat):((m:Int)==(n:Int))=(m==n):=by
 rw[Bool.eq_iff_iff,beq_iff_eq,beq_iff_eq];omega
end
section
variable {W w w':World}{z:Wz}{B g c n:Nat}{F:List Rl}{A:Option Addr}{xs:List UInt8}
theorem Q4y{b3 b4 nn cf:Nat}{Af:Option Addr}{x cnt:Int}(hf:X3 w B Af nn F)(hB:B<=w.heap.size)(h3:w.cell? ⟨b3,0,none⟩=some (.pointer (some ⟨g,0,none⟩)))(h4:w.cell? ⟨b4,8,none⟩=some (.int .i64 cnt))(hg:w.cell? ⟨g,0,none⟩=some (.slice Af nn cf))(hc:0<=cnt/\cnt<F.length):
  Calls Tryz.prog 107 ([Value.int .i64 x].toArray++#[.pointer (some ⟨b3,0,none⟩),.pointer (some ⟨b4,0,none⟩)]) w fun e w'=>e=.returned (.bool (Vl (Qj F cnt) x))/\Below w.heap.size w w':=by
 have hl:=hf.1;obtain⟨bf,of,haf,_⟩:=hf.2 Q2;subst haf;obtain⟨hbB,Ab,cb,An,cn,Ap,cp,hrg,hru⟩:=hf.ruleB (k:=cnt) Q2;have hcn:0<=cnt/\cnt<(nn:Int):=by omega
 clear hf hru;obtain⟨r,er⟩:∃r,Qj F cnt=r:=⟨_,rfl⟩;rw[er] at hrg ⊢;clear er;have hcc:∀W:World,Calls Tryz.prog 108 #[.agg (ruC r (.slice Ab r.bs.length cb) (.slice An r.names.length cn) (.slice Ap r.parts.length cp)).toArray,.int .i64 x] W fun e w'=>e=.returned (.bool (Vl r x))/\Below W.heap.size W w':=fun W=>VI
 obtain⟨bb,hbb⟩:∃bb,Vl r x=bb:=⟨_,rfl⟩;rw[hbb] at hcc ⊢;obtain⟨name,kind,bs,size,big,mn,mx,stop,count,elem,names,parts⟩:=r;simp only[ruC] at hrg hcc;show Calls Tryz.prog 107 #[.int .i64 x,.pointer (some ⟨b3,0,none⟩),.pointer (some ⟨b4,0,none⟩)] w _;go_enter Tryz.func107,Tryz.ntmps107;refine Qy (M:=[]) (W:=w) (N:=16) (E:=[(0,.int .i64 x),(1,.pointer (some ⟨b3,0,none⟩)),(2,.pointer (some ⟨b4,0,none⟩))]) (O:=[]) ?_ (Ag.cons (Ag.cons (Ag.cons (Ag.nil rfl rfl) rfl) rfl) rfl) (Wd.start [] w);refine yq<|yr<|yo zA<|yl<|yn<|yq<|Xh Q5 Q5 ?_;refine Q9 (zG h3) ?_;refine Q9 (ZO rfl rfl Q1 rfl rfl) ?_;refine Q9 zF ?_;refine Q9 zF ?_;refine Q9 (zG hg) ?_;refine Q9 zF ?_;refine Q9 (zG h4) ?_;refine Q9 (QF rfl rfl Q1 rfl rfl rfl hcn) ?_;refine Q9 (QV rfl rfl Q1 rfl rfl (fun w hw=>hw.range_old hrg Qn) rfl) ?_;refine Q9 zM ?_;refine Q9 (Qg rfl rfl Q1 rfl rfl (fun w hw=>hcc w)) ?_;refine Q9 zA ?_;refine XV ?_;refine yn<|yt ?_;exact Qb (by exact .inr rfl) rfl (.tmp rfl) (fun w hw=>⟨rfl,hw.k.below⟩)
def FiE(W:World)(b:Bool)(e:Ending)(w':World):Prop:=e=.returned (.bool b)/\Below W.heap.size W w'
theorem Q2a{k:Int}{d:Nd}{p:VF}(h:Z6 W z B g F A c xs n)(hv:Fm F)(hk:0<=k/\k<F.length){Ab An Ap:Option Addr}{cb cn cp:Nat}(hru:RuB W B (Qj F k) Ab cb An cn Ap cp)(hval:VIn W B v d p)(hd1:d.bs.length<=1048576)(hd2:d.ns.length<=1048576):
  Calls Tryz.prog 83 #[.pointer (some ⟨g,0,none⟩),.agg (ruC (Qj F k) (.slice Ab (Qj F k).bs.length cb) (.slice An (Qj F k).names.length cn) (.slice Ap (Qj F k).parts.length cp)).toArray,v] W (FiE W (XB F (Qj F k) d p)):=by
 have hFn:=h.len;have hr:=hv.toUsd.rok hk;have hBW:B<=W.heap.size:=by have:=h.hB;have:=h.lt;omega
 have HFM:=Q3 h.fm;have hcg:W.cell? ⟨g,0,none⟩=some (.slice z.Af z.n z.cf):=by
  rw[cell_of_row W g 0 _ _ _ h.cur];rfl
 clear h;obtain⟨r,er⟩:∃r,Qj F k=r:=⟨_,rfl⟩;rw[er] at hr hru ⊢;clear er;obtain⟨sb,sn,sp,rfl,Abv,nb,cbv,Anv,nnv,cnv,Apv,cpv,rfl,rfl,rfl,hnb,hnn,hpl,hcm,hrb,hrn,hch⟩:=hval;have hnbl:d.bs.length=nb:=by have:=hrb.len;rw[XD] at this;exact this
 have hnnl:d.ns.length=nnv:=by have:=hrn.len;rw[Z8] at this;exact this
 subst hnbl hnnl;have HRB:=Q3 hrb;have HRN:=Q3 hrn;have HCH:=Q3 hch;have HRU:=Q3 hru;have hcnt:=hr.count;have hkind:=hr.kind;have hsev:=hr.seven;have hp12:=hr.p12;obtain⟨dk,dn,dbs,dns⟩:=d;obtain⟨Af,nn,cf⟩:=z;simp only at hFn hcg hd1 hd2 hnb hnn;clear hrb hrn hch hru hr;obtain⟨name,kind,bs,size,big,mn,mx,stop,count,elem,names,parts⟩:=r;simp only at hcnt hkind hsev hp12;simp only[ruC];go_enter Tryz.func83,Tryz.ntmps83;refine Qy (M:=[]) (W:=W) (N:=150) (E:=[(0,.pointer (some ⟨g,0,none⟩)),(1,.agg [.string ⟨name.toArray⟩,.int .i64 kind,.slice Ab bs.length cb,.int .i64 size,.bool big,.int .i64 mn,.int .i64 mx,.int .i64 stop,.int .i64 count,.int .i64 elem,.slice An names.length cn,.slice Ap parts.length cp].toArray),(2,.agg #[.int .i64 dk,.int .i64 dn,.slice Abv dbs.length cbv,.slice Anv dns.length cnv,.slice Apv p.len cpv])]) (O:=[]) ?_ (Ag.cons (Ag.cons (Ag.cons (Ag.nil rfl rfl) rfl) rfl) rfl) (Wd.start [] W);obtain⟨RES,hres⟩:∃x,XB F ⟨name,kind,bs,size,big,mn,mx,stop,count,elem,names,parts⟩ ⟨dk,dn,dbs,dns⟩ p=x:=⟨_,rfl⟩;rw[hres];have HRS:=Q3 hres;clear hres;refine yq<|yr ?_;refine yB fun b3=>?_;refine yB fun b4=>?_;refine yB fun b5=>?_;refine yo zA<|yl<|yn<|yq<|yr<|yo zu<|yo zA<|yl<|yn<|yq<|yq<|yr<|yo zF<|yo (zB 1)<|yl ?_;by_cases k1:kind=1
 ·subst k1
  by_cases hdk:dk=3
  ·have e0:((p.len:Int)==0)=(p.len==0):=Qwz p.len 0;have HZ:=Q3 (show RES=(p.len==0) by rw[<- HRS.out,Qhc rfl];simp only;rw[hdk];rfl);refine yn<|yb<|yq<|yr<|yo zet<|yo zA<|yl<|yn<|y1<|yq<|yr<|yo zF<|yo (zB 0)<|yo zet<|yo zM<|yo zF<|yo (zB 0)<|yo zL<|yo zea<|yo zY<|yo zA<|yl<|yn<|yt<|yk<|yc ?_;exact Qb (by exact .inr rfl) rfl (.tmp rfl) (fun w hw=>⟨by rw[HZ.out],hw.k.below⟩)
  ·have HZ:=Q3 (show RES=false by rw[<- HRS.out,Qhc rfl];simp only;rw[beq_eq_false_iff_ne.2 hdk];rfl);refine yn<|yb<|yq<|yr<|yo zet<|yo zA<|yl<|yn<|y1<|yq<|yr<|yo zF<|yo (zB 0)<|yo zef<|yo zM<|yo zS<|yo zS<|yo zS<|yo zS<|yo zN<|yo zA<|yl<|yn<|yt<|yk<|yc ?_;exact Qb (by exact .inr rfl) rfl (.tmp rfl) (fun w hw=>⟨by rw[HZ.out],hw.k.below⟩)
 by_cases k2:kind=2
 ·subst k2
  have hcc:∀W:World,Calls Tryz.prog 108 #[.agg [.string ⟨name.toArray⟩,.int .i64 2,.slice Ab bs.length cb,.int .i64 size,.bool big,.int .i64 mn,.int .i64 mx,.int .i64 stop,.int .i64 count,.int .i64 elem,.slice An names.length cn,.slice Ap parts.length cp].toArray,.int .i64 dn] W fun e w'=>e=.returned (.bool (Vl ⟨name,2,bs,size,big,mn,mx,stop,count,elem,names,parts⟩ dn))/\Below W.heap.size W w':=fun W=>VI (r:=⟨name,2,bs,size,big,mn,mx,stop,count,elem,names,parts⟩)
  by_cases hdk:dk=1
  ·have HZ:=Q3 (show RES=Vl ⟨name,2,bs,size,big,mn,mx,stop,count,elem,names,parts⟩ dn by rw[<- HRS.out,Kn (.inl rfl)];simp only;rw[hdk];rfl);refine yn<|yb<|yq<|yr<|yo zef<|yo zA<|yl<|yn<|y0<|yq<|yq<|yr<|yo zet<|yo zA<|yl<|yn<|y1<|ys<|yn<|y1<|yq<|yr<|yo zF<|yo (zB 0)<|yo zet<|yo zM<|yo (zD 1)<|yo zF<|yo (zB 0) ?_;refine Q4 (Qg rfl rfl Q1 rfl rfl (fun w hw=>hcc w)) ?_;refine yo zY<|yo zA<|yl<|yn<|yt<|yk<|yc ?_;exact Qb (by exact .inr rfl) rfl (.tmp rfl) (fun w hw=>⟨by rw[HZ.out],hw.k.below⟩)
  ·have HZ:=Q3 (show RES=false by rw[<- HRS.out,Kn (.inl rfl)];simp only;rw[beq_eq_false_iff_ne.2 hdk];rfl);refine yn<|yb<|yq<|yr<|yo zef<|yo zA<|yl<|yn<|y0<|yq<|yq<|yr<|yo zet<|yo zA<|yl<|yn<|y1<|ys<|yn<|y1<|yq<|yr<|yo zF<|yo (zB 0)<|yo zef<|yo zM<|yo zS<|yo zS<|yo zS<|yo zS<|yo zN<|yo zA<|yl<|yn<|yt<|yk<|yc ?_;exact Qb (by exact .inr rfl) rfl (.tmp rfl) (fun w hw=>⟨by rw[HZ.out],hw.k.below⟩)
 by_cases k3:kind=3
 ·subst k3
  have hcc:∀W:World,Calls Tryz.prog 108 #[.agg [.string ⟨name.toArray⟩,.int .i64 3,.slice Ab bs.length cb,.int .i64 size,.bool big,.int .i64 mn,.int .i64 mx,.int .i64 stop,.int .i64 count,.int .i64 elem,.slice An names.length cn,.slice Ap parts.length cp].toArray,.int .i64 dn] W fun e w'=>e=.returned (.bool (Vl ⟨name,3,bs,size,big,mn,mx,stop,count,elem,names,parts⟩ dn))/\Below W.heap.size W w':=fun W=>VI (r:=⟨name,3,bs,size,big,mn,mx,stop,count,elem,names,parts⟩)
  by_cases hdk:dk=1
  ·have HZ:=Q3 (show RES=Vl ⟨name,3,bs,size,big,mn,mx,stop,count,elem,names,parts⟩ dn by rw[<- HRS.out,Kn (.inr rfl)];simp only;rw[hdk];rfl);refine yn<|yb<|yq<|yr<|yo zef<|yo zA<|yl<|yn<|y0<|yq<|yq<|yr<|yo zef<|yo zA<|yl<|yn<|y0<|yr<|yo zet<|yo zA<|yl<|yn<|y1<|yq<|yr<|yo zF<|yo (zB 0)<|yo zet<|yo zM<|yo (zD 1)<|yo zF<|yo (zB 0) ?_;refine Q4 (Qg rfl rfl Q1 rfl rfl (fun w hw=>hcc w)) ?_;refine yo zY<|yo zA<|yl<|yn<|yt<|yk<|yc ?_;exact Qb (by exact .inr rfl) rfl (.tmp rfl) (fun w hw=>⟨by rw[HZ.out],hw.k.below⟩)
  ·have HZ:=Q3 (show RES=false by rw[<- HRS.out,Kn (.inr rfl)];simp only;rw[beq_eq_false_iff_ne.2 hdk];rfl);refine yn<|yb<|yq<|yr<|yo zef<|yo zA<|yl<|yn<|y0<|yq<|yq<|yr<|yo zef<|yo zA<|yl<|yn<|y0<|yr<|yo zet<|yo zA<|yl<|yn<|y1<|yq<|yr<|yo zF<|yo (zB 0)<|yo zef<|yo zM<|yo zS<|yo zS<|yo zS<|yo zS<|yo zN<|yo zA<|yl<|yn<|yt<|yk<|yc ?_;exact Qb (by exact .inr rfl) rfl (.tmp rfl) (fun w hw=>⟨by rw[HZ.out],hw.k.below⟩)
 by_cases k4:kind=4
 ·subst k4
  by_cases hdk:dk=2
  ·have e0:((dbs.length:Int)==size)=decide ((dbs.length:Int)=size):=by rw[Bool.eq_iff_iff,beq_iff_eq,decide_eq_true_iff]
   have HZ:=Q3 (show RES=decide ((dbs.length:Int)=size) by rw[<- HRS.out,QhF rfl];simp only;rw[hdk];rfl);refine yn<|yb<|yq<|yr<|yo zef<|yo zA<|yl<|yn<|y0<|yq<|yq<|yr<|yo zef<|yo zA<|yl<|yn<|y0<|yr<|yo zef<|yo zA<|yl<|yn<|y0<|yq<|yr<|yo zet<|yo zA<|yl<|yn<|y1<|yq<|yr<|yo zF<|yo (zB 0)<|yo zet<|yo zM<|yo zF<|yo (zB 0)<|yo zL<|yo zF<|yo (zB 1)<|yo zea<|yo zY<|yo zA<|yl<|yn<|yt<|yk<|yc ?_;exact Qb (by exact .inr rfl) rfl (.tmp rfl) (fun w hw=>⟨by rw[HZ.out],hw.k.below⟩)
  ·have HZ:=Q3 (show RES=false by rw[<- HRS.out,QhF rfl];simp only;rw[beq_eq_false_iff_ne.2 hdk];rfl);refine yn<|yb<|yq<|yr<|yo zef<|yo zA<|yl<|yn<|y0<|yq<|yq<|yr<|yo zef<|yo zA<|yl<|yn<|y0<|yr<|yo zef<|yo zA<|yl<|yn<|y0<|yq<|yr<|yo zet<|yo zA<|yl<|yn<|y1<|yq<|yr<|yo zF<|yo (zB 0)<|yo zef<|yo zM<|yo zS<|yo zS<|yo zS<|yo zS<|yo zS<|yo zS<|yo zN<|yo zA<|yl<|yn<|yt<|yk<|yc ?_;exact Qb (by exact .inr rfl) rfl (.tmp rfl) (fun w hw=>⟨by rw[HZ.out],hw.k.below⟩)
 by_cases k10:kind=10
 ·subst k10;have HCT:=Q3 (hcnt (.inr rfl))
  by_cases hdk:dk=2
  ·have HZ:=Q3 (show RES=Vl (Qj F count) (dbs.length:Int) by rw[<- HRS.out,Q5M rfl];simp only;rw[hdk];rfl);refine yn<|yb<|yq<|yr<|yo zef<|yo zA<|yl<|yn<|y0<|yq<|yq<|yr<|yo zef<|yo zA<|yl<|yn<|y0<|yr<|yo zef<|yo zA<|yl<|yn<|y0<|yq<|yr<|yo zef<|yo zA<|yl<|yn<|y0<|yq<|yr<|yo zet<|yo zA<|yl<|yn<|y1<|yq<|yr<|yo zF<|yo (zB 0)<|yo zet<|yo zM<|yo zM<|yo zF<|yo (zB 0)<|yo zL ?_;(refine Q4 (Jw rfl rfl Q1 rfl rfl rfl (fun w hw=>Q4y (HFM.out.below (hw.k.below.mono hBW)) (by have:=hw.k.size;omega) (hw.cell_blkL 2 rfl rfl) (hw.cell_blkL 1 rfl rfl) (hw.cell_old hcg Qn) HCT.out)) ?_);refine yo zY<|yo zA<|yl<|yn<|yt<|yk<|yc ?_;exact Qb (by exact .inr rfl) rfl (.tmp rfl) (fun w hw=>⟨by rw[HZ.out],hw.k.below⟩)
  ·have HZ:=Q3 (show RES=false by rw[<- HRS.out,Q5M rfl];simp only;rw[beq_eq_false_iff_ne.2 hdk];rfl);refine yn<|yb<|yq<|yr<|yo zef<|yo zA<|yl<|yn<|y0<|yq<|yq<|yr<|yo zef<|yo zA<|yl<|yn<|y0<|yr<|yo zef<|yo zA<|yl<|yn<|y0<|yq<|yr<|yo zef<|yo zA<|yl<|yn<|y0<|yq<|yr<|yo zet<|yo zA<|yl<|yn<|y1<|yq<|yr<|yo zF<|yo (zB 0)<|yo zef<|yo zM<|yo zS<|yo zS<|yo zS<|yo zS<|yo zS<|yo zN<|yo zA<|yl<|yn<|yt<|yk<|yc ?_;exact Qb (by exact .inr rfl) rfl (.tmp rfl) (fun w hw=>⟨by rw[HZ.out],hw.k.below⟩)
 by_cases k5:kind=5
 ·subst k5;obtain⟨sB,hsB⟩:∃b:UInt8,UInt8.ofNat (stop % 256).toNat=b:=⟨_,rfl⟩
  have hcv:IntKind.u8.wrap stop=(sB.toNat:Int):=by rw[Qcs,hsB]
  by_cases hdk:dk=2
  ·by_cases hle:(dbs.length:Int)<=size
   ·have HZ:=Q3 (show RES=!(dbs.contains sB) by rw[<- HRS.out,Qaz rfl];simp only;rw[hdk,decide_eq_true hle];unfold YD;simp only;rw[hsB];rfl);refine yn<|yb<|yq<|yr<|yo zef<|yo zA<|yl<|yn<|y0<|yq<|yq<|yr<|yo zef<|yo zA<|yl<|yn<|y0<|yr<|yo zef<|yo zA<|yl<|yn<|y0<|yq<|yr<|yo zef<|yo zA<|yl<|yn<|y0<|yq<|yr<|yo zef<|yo zA<|yl<|yn<|y0<|yq<|yr<|yo zet<|yo zA<|yl<|yn<|y1<|yq<|yr<|yo zF<|yo (zB 0)<|yo zet<|yo zM<|yo zF<|yo (zB 0)<|yo zL<|yo zF<|yo (zB 1)<|yo zqt<|yo zY<|yo zM<|yo zF<|yo (zB 0)<|yo zF<|yo (zB 1) ?_;(refine Q4 (Yk rfl rfl Q1 rfl rfl (by rw[Tryz.underlying3];rfl) Tryz.underlying5 hcv) ?_);(refine Q4 (Qg rfl rfl Q1 rfl rfl (fun w hw=>Q1g (((HRB.out.below (hw.k.below.mono hBW))).more (by have:=hw.k.size;omega)) hd1 sB)) ?_);refine yo zO<|yo zY<|yo zA<|yl<|yn<|yt<|yk<|yc ?_;exact Qb (by exact .inr rfl) rfl (.tmp rfl) (fun w hw=>⟨by rw[HZ.out],hw.k.below⟩)
   ·have HZ:=Q3 (show RES=false by rw[<- HRS.out,Qaz rfl];simp only;rw[decide_eq_false hle,Bool.and_false];rfl);refine yn<|yb<|yq<|yr<|yo zef<|yo zA<|yl<|yn<|y0<|yq<|yq<|yr<|yo zef<|yo zA<|yl<|yn<|y0<|yr<|yo zef<|yo zA<|yl<|yn<|y0<|yq<|yr<|yo zef<|yo zA<|yl<|yn<|y0<|yq<|yr<|yo zef<|yo zA<|yl<|yn<|y0<|yq<|yr<|yo zet<|yo zA<|yl<|yn<|y1<|yq<|yr<|yo zF<|yo (zB 0)<|yo zet<|yo zM<|yo zF<|yo (zB 0)<|yo zL<|yo zF<|yo (zB 1)<|yo zqf<|yo zY<|yo zM<|yo zS<|yo zS<|yo zS<|yo zS<|yo zS<|yo zS<|yo zS<|yo zN<|yo zA<|yl<|yn<|yt<|yk<|yc ?_;exact Qb (by exact .inr rfl) rfl (.tmp rfl) (fun w hw=>⟨by rw[HZ.out],hw.k.below⟩)
  ·have HZ:=Q3 (show RES=false by rw[<- HRS.out,Qaz rfl];simp only;rw[beq_eq_false_iff_ne.2 hdk];rfl);refine yn<|yb<|yq<|yr<|yo zef<|yo zA<|yl<|yn<|y0<|yq<|yq<|yr<|yo zef<|yo zA<|yl<|yn<|y0<|yr<|yo zef<|yo zA<|yl<|yn<|y0<|yq<|yr<|yo zef<|yo zA<|yl<|yn<|y0<|yq<|yr<|yo zef<|yo zA<|yl<|yn<|y0<|yq<|yr<|yo zet<|yo zA<|yl<|yn<|y1<|yq<|yr<|yo zF<|yo (zB 0)<|yo zef<|yo zM<|yo zS<|yo zS<|yo zS<|yo zS<|yo zS<|yo zS<|yo zN<|yo zM<|yo zS<|yo zS<|yo zS<|yo zS<|yo zS<|yo zS<|yo zS<|yo zN<|yo zA<|yl<|yn<|yt<|yk<|yc ?_;exact Qb (by exact .inr rfl) rfl (.tmp rfl) (fun w hw=>⟨by rw[HZ.out],hw.k.below⟩)
 by_cases k6:kind=6
 ·subst k6;have HCT:=Q3 (hcnt (.inl rfl))
  by_cases hdk:dk=3
  ·have HZ:=Q3 (show RES=Vl (Qj F count) (p.len:Int) by rw[<- HRS.out,Q9D rfl];simp only;rw[hdk];rfl);refine yn<|yb<|yq<|yr<|yo zef<|yo zA<|yl<|yn<|y0<|yq<|yq<|yr<|yo zef<|yo zA<|yl<|yn<|y0<|yr<|yo zef<|yo zA<|yl<|yn<|y0<|yq<|yr<|yo zef<|yo zA<|yl<|yn<|y0<|yq<|yr<|yo zef<|yo zA<|yl<|yn<|y0<|yq<|yr<|yo zef<|yo zA<|yl<|yn<|y0<|yq<|yr<|yo zet<|yo zA<|yl<|yn<|y1<|yq<|yr<|yo zF<|yo (zB 0)<|yo zet<|yo zM<|yo zM<|yo zF<|yo (zB 0)<|yo zL ?_;(refine Q4 (Jw rfl rfl Q1 rfl rfl rfl (fun w hw=>Q4y (HFM.out.below (hw.k.below.mono hBW)) (by have:=hw.k.size;omega) (hw.cell_blkL 2 rfl rfl) (hw.cell_blkL 1 rfl rfl) (hw.cell_old hcg Qn) HCT.out)) ?_);refine yo zY<|yo zA<|yl<|yn<|yt<|yk<|yc ?_;exact Qb (by exact .inr rfl) rfl (.tmp rfl) (fun w hw=>⟨by rw[HZ.out],hw.k.below⟩)
  ·have HZ:=Q3 (show RES=false by rw[<- HRS.out,Q9D rfl];simp only;rw[beq_eq_false_iff_ne.2 hdk];rfl);refine yn<|yb<|yq<|yr<|yo zef<|yo zA<|yl<|yn<|y0<|yq<|yq<|yr<|yo zef<|yo zA<|yl<|yn<|y0<|yr<|yo zef<|yo zA<|yl<|yn<|y0<|yq<|yr<|yo zef<|yo zA<|yl<|yn<|y0<|yq<|yr<|yo zef<|yo zA<|yl<|yn<|y0<|yq<|yr<|yo zef<|yo zA<|yl<|yn<|y0<|yq<|yr<|yo zet<|yo zA<|yl<|yn<|y1<|yq<|yr<|yo zF<|yo (zB 0)<|yo zef<|yo zM<|yo zS<|yo zS<|yo zS<|yo zS<|yo zS<|yo zN<|yo zA<|yl<|yn<|yt<|yk<|yc ?_;exact Qb (by exact .inr rfl) rfl (.tmp rfl) (fun w hw=>⟨by rw[HZ.out],hw.k.below⟩)
 by_cases k9:kind=9
 ·subst k9;have HZ:=Q3 (show RES=(dk==3) by rw[<- HRS.out,QpY rfl]);obtain⟨bk,hbk⟩:∃bk,(dk==3)=bk:=⟨_,rfl⟩;rw[hbk] at HZ;refine yn<|yb<|yq<|yr<|yo zef<|yo zA<|yl<|yn<|y0<|yq<|yq<|yr<|yo zef<|yo zA<|yl<|yn<|y0<|yr<|yo zef<|yo zA<|yl<|yn<|y0<|yq<|yr<|yo zef<|yo zA<|yl<|yn<|y0<|yq<|yr<|yo zef<|yo zA<|yl<|yn<|y0<|yq<|yr<|yo zef<|yo zA<|yl<|yn<|y0<|yq<|yr<|yo zef<|yo zA<|yl<|yn<|y0<|yq<|yr<|yo zet<|yo zA<|yl<|yn<|y1<|yq<|yr<|yo zF<|yo (zB 0)<|yo zea<|yo zA<|yl<|yn<|yt<|yk<|yc ?_;exact Qb (by exact .inr rfl) rfl (.tmp rfl) (fun w hw=>⟨by rw[HZ.out],hw.k.below⟩)
 by_cases k8:kind=8
 ·subst k8
  by_cases hdk:dk=3
  case neg=>
   have HZ:=Q3 (show RES=false by rw[<- HRS.out,Q5w rfl];simp only;rw[beq_eq_false_iff_ne.2 hdk];rfl);refine yn<|yb<|yq<|yr<|yo zef<|yo zA<|yl<|yn<|y0<|yq<|yq<|yr<|yo zef<|yo zA<|yl<|yn<|y0<|yr<|yo zef<|yo zA<|yl<|yn<|y0<|yq<|yr<|yo zef<|yo zA<|yl<|yn<|y0<|yq<|yr<|yo zef<|yo zA<|yl<|yn<|y0<|yq<|yr<|yo zef<|yo zA<|yl<|yn<|y0<|yq<|yr<|yo zef<|yo zA<|yl<|yn<|y0<|yq<|yr<|yo zef<|yo zA<|yl<|yn<|y0<|yq<|yr<|yo zet<|yo zA<|yl<|yn<|y1<|yq<|Xh Q5 Q5 ?_;refine Q9 zF ?_;refine Q9 (zB 0) ?_;refine Q9 zef ?_;refine Q9 zM ?_;refine Q9 zS ?_;refine Q9 zS ?_;refine Q9 zS ?_;refine Q9 zS ?_;refine Q9 zN ?_;refine Q9 zM ?_;refine Q9 zS ?_;refine Q9 zS ?_;refine Q9 zS ?_;refine Q9 zS ?_;refine Q9 zS ?_;refine Q9 zS ?_;refine Q9 zN ?_;refine Q9 zM ?_;refine Q9 zS ?_;refine Q9 zS ?_;refine Q9 zS ?_;refine Q9 zS ?_;refine Q9 zS ?_;refine Q9 zS ?_;refine Q9 zN ?_;refine Q9 zM ?_;refine Q9 zS ?_;refine Q9 zS ?_;refine Q9 zS ?_;refine Q9 zS ?_;refine Q9 zS ?_;refine Q9 zS ?_;refine Q9 zS ?_;refine Q9 zS ?_;refine Q9 zS ?_;refine Q9 zN ?_;refine Q9 zA ?_;refine XV ?_;refine yn<|yt<|yk<|yc ?_;exact Qb (by exact .inr rfl) rfl (.tmp rfl) (fun w hw=>⟨by rw[HZ.out],hw.k.below⟩)
  by_cases hpl2:p.len=2
  case neg=>
   have HZ:=Q3 (show RES=false by rw[<- HRS.out,Q5w rfl];simp only;rw[beq_eq_false_iff_ne.2 hpl2,Bool.and_false];rfl);refine yn<|yb<|yq<|yr<|yo zef<|yo zA<|yl<|yn<|y0<|yq<|yq<|yr<|yo zef<|yo zA<|yl<|yn<|y0<|yr<|yo zef<|yo zA<|yl<|yn<|y0<|yq<|yr<|yo zef<|yo zA<|yl<|yn<|y0<|yq<|yr<|yo zef<|yo zA<|yl<|yn<|y0<|yq<|yr<|yo zef<|yo zA<|yl<|yn<|y0<|yq<|yr<|yo zef<|yo zA<|yl<|yn<|y0<|yq<|yr<|yo zef<|yo zA<|yl<|yn<|y0<|yq<|yr<|yo zet<|yo zA<|yl<|yn<|y1<|yq<|Xh Q5 Q5 ?_;refine Q9 zF ?_;refine Q9 (zB 0) ?_;refine Q9 zet ?_;refine Q9 zM ?_;refine Q9 zF ?_;refine Q9 (zB 0) ?_;refine Q9 zL ?_;refine Q9 zef ?_;refine Q9 zY ?_;refine Q9 zM ?_;refine Q9 zS ?_;refine Q9 zS ?_;refine Q9 zS ?_;refine Q9 zS ?_;refine Q9 zS ?_;refine Q9 zS ?_;refine Q9 zN ?_;refine Q9 zM ?_;refine Q9 zS ?_;refine Q9 zS ?_;refine Q9 zS ?_;refine Q9 zS ?_;refine Q9 zS ?_;refine Q9 zS ?_;refine Q9 zN ?_;refine Q9 zM ?_;refine Q9 zS ?_;refine Q9 zS ?_;refine Q9 zS ?_;refine Q9 zS ?_;refine Q9 zS ?_;refine Q9 zS ?_;refine Q9 zS ?_;refine Q9 zS ?_;refine Q9 zS ?_;refine Q9 zN ?_;refine Q9 zA ?_;refine XV ?_;refine yn<|yt<|yk<|yc ?_;exact Qb (by exact .inr rfl) rfl (.tmp rfl) (fun w hw=>⟨by rw[HZ.out],hw.k.below⟩)
  cases p with
  |nil=>cases hpl2
  |cons d1 p1 rest=>
   obtain⟨bp,op,rfl,hbp,⟨sb1,sn1,sp1,⟨c0,c1,_⟩,_⟩,_⟩:=HCH.out Q2;have HPL:=Q3 hpl2;obtain⟨pl,hpl0⟩:∃pl,(VF.cons d1 p1 rest).len=pl:=⟨_,rfl⟩;rw[hpl0] at hpl2 hpl ⊢;subst hpl2;have HE:=Q3 (show RES=(d1.k==1&&decide (0<=d1.n)&&decide (d1.n<(parts.length:Int))) by rw[<- HRS.out,Q5w rfl];simp only;rw[hdk,hpl0];rfl);clear hpl0;obtain⟨k1,n1,_,_⟩:=d1;simp only at c0 c1 HE;by_cases hk1:k1=1
   case neg=>
    have HZ:=Q3 (show RES=false by rw[HE.out,beq_eq_false_iff_ne.2 hk1];rfl);refine yn<|yb<|yq<|yr<|yo zef<|yo zA<|yl<|yn<|y0<|yq<|yq<|yr<|yo zef<|yo zA<|yl<|yn<|y0<|yr<|yo zef<|yo zA<|yl<|yn<|y0<|yq<|yr<|yo zef<|yo zA<|yl<|yn<|y0<|yq<|yr<|yo zef<|yo zA<|yl<|yn<|y0<|yq<|yr<|yo zef<|yo zA<|yl<|yn<|y0<|yq<|yr<|yo zef<|yo zA<|yl<|yn<|y0<|yq<|yr<|yo zef<|yo zA<|yl<|yn<|y0<|yq<|yr<|yo zet<|yo zA<|yl<|yn<|y1<|yq<|Xh Q5 Q5 ?_;refine Q9 zF ?_;refine Q9 (zB 0) ?_;refine Q9 zet ?_;refine Q9 zM ?_;refine Q9 zF ?_;refine Q9 (zB 0) ?_;refine Q9 zL ?_;refine Q9 zet ?_;refine Q9 zY ?_;refine Q9 zM ?_;refine Q9 zF ?_;refine Q9 (zB 0) ?_;refine Q9 (QM (j:=0) rfl rfl Q1 rfl rfl rfl Q2) ?_;refine Q9 zF ?_;refine Q9 (zG c0) ?_;refine Q9 zef ?_;refine Q9 zY ?_;refine Q9 zM ?_;refine Q9 zS ?_;refine Q9 zS ?_;refine Q9 zS ?_;refine Q9 zS ?_;refine Q9 zS ?_;refine Q9 zS ?_;refine Q9 zN ?_;refine Q9 zM ?_;refine Q9 zS ?_;refine Q9 zS ?_;refine Q9 zS ?_;refine Q9 zS ?_;refine Q9 zS ?_;refine Q9 zS ?_;refine Q9 zS ?_;refine Q9 zS ?_;refine Q9 zS ?_;refine Q9 zN ?_;refine Q9 zA ?_;refine XV ?_;refine yn<|yt<|yk<|yc ?_;exact Qb (by exact .inr rfl) rfl (.tmp rfl) (fun w hw=>⟨by rw[HZ.out],hw.k.below⟩)
   by_cases hn0:0<=n1
   case neg=>
    have HZ:=Q3 (show RES=false by rw[HE.out,decide_eq_false hn0,Bool.and_false];rfl);refine yn<|yb<|yq<|yr<|yo zef<|yo zA<|yl<|yn<|y0<|yq<|yq<|yr<|yo zef<|yo zA<|yl<|yn<|y0<|yr<|yo zef<|yo zA<|yl<|yn<|y0<|yq<|yr<|yo zef<|yo zA<|yl<|yn<|y0<|yq<|yr<|yo zef<|yo zA<|yl<|yn<|y0<|yq<|yr<|yo zef<|yo zA<|yl<|yn<|y0<|yq<|yr<|yo zef<|yo zA<|yl<|yn<|y0<|yq<|yr<|yo zef<|yo zA<|yl<|yn<|y0<|yq<|yr<|yo zet<|yo zA<|yl<|yn<|y1<|yq<|Xh Q5 Q5 ?_;refine Q9 zF ?_;refine Q9 (zB 0) ?_;refine Q9 zet ?_;refine Q9 zM ?_;refine Q9 zF ?_;refine Q9 (zB 0) ?_;refine Q9 zL ?_;refine Q9 zet ?_;refine Q9 zY ?_;refine Q9 zM ?_;refine Q9 zF ?_;refine Q9 (zB 0) ?_;refine Q9 (QM (j:=0) rfl rfl Q1 rfl rfl rfl Q2) ?_;refine Q9 zF ?_;refine Q9 (zG c0) ?_;refine Q9 zet ?_;refine Q9 zY ?_;refine Q9 zM ?_;refine Q9 zF ?_;refine Q9 (zB 0) ?_;refine Q9 (QM (j:=0) rfl rfl Q1 rfl rfl rfl Q2) ?_;refine Q9 zF ?_;refine Q9 (zG c1) ?_;refine Q9 zhf ?_;refine Q9 zY ?_;refine Q9 zM ?_;refine Q9 zS ?_;refine Q9 zS ?_;refine Q9 zS ?_;refine Q9 zS ?_;refine Q9 zS ?_;refine Q9 zS ?_;refine Q9 zS ?_;refine Q9 zS ?_;refine Q9 zS ?_;refine Q9 zN ?_;refine Q9 zA ?_;refine XV ?_;refine yn<|yt<|yk<|yc ?_;exact Qb (by exact .inr rfl) rfl (.tmp rfl) (fun w hw=>⟨by rw[HZ.out],hw.k.below⟩)
   by_cases hn1:n1<(parts.length:Int)
   case neg=>
    have HZ:=Q3 (show RES=false by rw[HE.out,decide_eq_false hn1,Bool.and_false]);refine yn<|yb<|yq<|yr<|yo zef<|yo zA<|yl<|yn<|y0<|yq<|yq<|yr<|yo zef<|yo zA<|yl<|yn<|y0<|yr<|yo zef<|yo zA<|yl<|yn<|y0<|yq<|yr<|yo zef<|yo zA<|yl<|yn<|y0<|yq<|yr<|yo zef<|yo zA<|yl<|yn<|y0<|yq<|yr<|yo zef<|yo zA<|yl<|yn<|y0<|yq<|yr<|yo zef<|yo zA<|yl<|yn<|y0<|yq<|yr<|yo zef<|yo zA<|yl<|yn<|y0<|yq<|yr<|yo zet<|yo zA<|yl<|yn<|y1<|yq<|Xh Q5 Q5 ?_;refine Q9 zF ?_;refine Q9 (zB 0) ?_;refine Q9 zet ?_;refine Q9 zM ?_;refine Q9 zF ?_;refine Q9 (zB 0) ?_;refine Q9 zL ?_;refine Q9 zet ?_;refine Q9 zY ?_;refine Q9 zM ?_;refine Q9 zF ?_;refine Q9 (zB 0) ?_;refine Q9 (QM (j:=0) rfl rfl Q1 rfl rfl rfl Q2) ?_;refine Q9 zF ?_;refine Q9 (zG c0) ?_;refine Q9 zet ?_;refine Q9 zY ?_;refine Q9 zM ?_;refine Q9 zF ?_;refine Q9 (zB 0) ?_;refine Q9 (QM (j:=0) rfl rfl Q1 rfl rfl rfl Q2) ?_;refine Q9 zF ?_;refine Q9 (zG c1) ?_;refine Q9 zht ?_;refine Q9 zY ?_;refine Q9 zM ?_;refine Q9 zF ?_;refine Q9 (zB 0) ?_;refine Q9 (QM (j:=0) rfl rfl Q1 rfl rfl rfl Q2) ?_;refine Q9 zF ?_;refine Q9 (zG c1) ?_;refine Q9 zF ?_;refine Q9 (zB 1) ?_;refine Q9 zL ?_;refine Q9 zlf ?_;refine Q9 zY ?_;refine Q9 zA ?_;refine XV ?_;refine yn<|yt<|yk<|yc ?_;exact Qb (by exact .inr rfl) rfl (.tmp rfl) (fun w hw=>⟨by rw[HZ.out],hw.k.below⟩)
   have HZ:=Q3 (show RES=true by rw[HE.out,hk1,decide_eq_true hn0,decide_eq_true hn1];rfl);refine yn<|yb<|yq<|yr<|yo zef<|yo zA<|yl<|yn<|y0<|yq<|yq<|yr<|yo zef<|yo zA<|yl<|yn<|y0<|yr<|yo zef<|yo zA<|yl<|yn<|y0<|yq<|yr<|yo zef<|yo zA<|yl<|yn<|y0<|yq<|yr<|yo zef<|yo zA<|yl<|yn<|y0<|yq<|yr<|yo zef<|yo zA<|yl<|yn<|y0<|yq<|yr<|yo zef<|yo zA<|yl<|yn<|y0<|yq<|yr<|yo zef<|yo zA<|yl<|yn<|y0<|yq<|yr<|yo zet<|yo zA<|yl<|yn<|y1<|yq<|Xh Q5 Q5 ?_;refine Q9 zF ?_;refine Q9 (zB 0) ?_;refine Q9 zet ?_;refine Q9 zM ?_;refine Q9 zF ?_;refine Q9 (zB 0) ?_;refine Q9 zL ?_;refine Q9 zet ?_;refine Q9 zY ?_;refine Q9 zM ?_;refine Q9 zF ?_;refine Q9 (zB 0) ?_;refine Q9 (QM (j:=0) rfl rfl Q1 rfl rfl rfl Q2) ?_;refine Q9 zF ?_;refine Q9 (zG c0) ?_;refine Q9 zet ?_;refine Q9 zY ?_;refine Q9 zM ?_;refine Q9 zF ?_;refine Q9 (zB 0) ?_;refine Q9 (QM (j:=0) rfl rfl Q1 rfl rfl rfl Q2) ?_;refine Q9 zF ?_;refine Q9 (zG c1) ?_;refine Q9 zht ?_;refine Q9 zY ?_;refine Q9 zM ?_;refine Q9 zF ?_;refine Q9 (zB 0) ?_;refine Q9 (QM (j:=0) rfl rfl Q1 rfl rfl rfl Q2) ?_;refine Q9 zF ?_;refine Q9 (zG c1) ?_;refine Q9 zF ?_;refine Q9 (zB 1) ?_;refine Q9 zL ?_;refine Q9 zlt ?_;refine Q9 zY ?_;refine Q9 zA ?_;refine XV ?_;refine yn<|yt<|yk<|yc ?_;exact Qb (by exact .inr rfl) rfl (.tmp rfl) (fun w hw=>⟨by rw[HZ.out],hw.k.below⟩)
 have k7:kind=7:=by omega
 subst k7;obtain⟨hs1,hs2⟩:=hsev rfl;have hnl:names.length<=1048576:=by omega
 refine yn<|yb<|yq<|yr<|yo zef<|yo zA<|yl<|yn<|y0<|yq<|yq<|yr<|yo zef<|yo zA<|yl<|yn<|y0<|yr<|yo zef<|yo zA<|yl<|yn<|y0<|yq<|yr<|yo zef<|yo zA<|yl<|yn<|y0<|yq<|yr<|yo zef<|yo zA<|yl<|yn<|y0<|yq<|yr<|yo zef<|yo zA<|yl<|yn<|y0<|yq<|yr<|yo zef<|yo zA<|yl<|yn<|y0<|yq<|yr<|yo zef<|yo zA<|yl<|yn<|y0<|yq<|yr<|yo zef<|yo zA<|yl<|yn<|y0<|ys<|yn<|yq<|yr<|yo zF<|yo (zB 1) ?_;refine Qd (QC (fun y:Nat×Nat=>.slice (some ⟨y.1,0,none⟩) names.length y.2) (fun _=>True) (fun y=>.row (some ⟨y.1,0,none⟩) names.length y.2 9 1 (sv names)::_) rfl rfl rfl (fun w hw=>(Q9G (((HRU.out.n.below (hw.k.below.mono hBW))).more (by have:=hw.k.size;omega)) hnl).mono (fun e w' h=>QiG (by show 0<names.length;omega) hw h))) rfl Q1 (fun y _=>?_);refine Qd (Qoe (fun _:Unit=>.slice (some ⟨y.1,0,none⟩) (QE names).length y.2) (fun _=>True) (fun _=>.rd (some ⟨y.1,0,none⟩) (QE names).length 1 (sv (QE names))::_) rfl rfl rfl (fun w hw=>(QiQ (hw.own 0 _ rfl) hnl).mono (fun e w' h=>⟨(),h.1,trivial,hw.row_rd rfl h.2.1 h.2.2⟩))) rfl Q1 (fun _ _=>?_);refine yo zA<|yl ?_;by_cases hdk:dk=4
 ·have HZ:=Q3 (show RES=(dns==QE names) by rw[<- HRS.out,Q9w rfl];simp only;rw[hdk];rfl);refine yn<|yq<|yr<|yo zF<|yo (zB 1)<|yo zet<|yo zM<|yo zF<|yo (zB 1)<|yo zM ?_;(refine Q4 (Qg rfl rfl Q1 rfl rfl (fun w hw=>Q56 (((HRN.out.below (hw.k.below.mono hBW))).more (by have:=hw.k.size;omega)) (hw.own 0 _ rfl) hd2)) ?_);refine yo zY<|yo zA<|yl<|yn<|yt ?_;exact Qb (by exact .inr rfl) rfl (.tmp rfl) (fun w hw=>⟨by rw[HZ.out],hw.k.below⟩)
 ·have HZ:=Q3 (show RES=false by rw[<- HRS.out,Q9w rfl];simp only;rw[beq_eq_false_iff_ne.2 hdk];rfl);refine yn<|yq<|yr<|yo zF<|yo (zB 1)<|yo zef<|yo zM<|yo zS<|yo zS<|yo zS<|yo zS<|yo zN<|yo zA<|yl<|yn<|yt ?_;exact Qb (by exact .inr rfl) rfl (.tmp rfl) (fun w hw=>⟨by rw[HZ.out],hw.k.below⟩)
end
end
end Go.Proofs.YtphkhfdmlcnoeaaGreatDoor
