import Derived.Test.YtphkhfdmlcnoeaaGreatDoorP32
namespace Go.Proofs.YtphkhfdmlcnoeaaGreatDoor
set_option linter.unusedVariables false
set_option linter.unusedSimpArgs false
open Go.RowKit
section
variable {M:List Nat}{W w w':World}{O:List Qc}{b n c s m:Nat}{e:TypeId}{xs ys:List Value}
theorem Wd.row_rd(h:Wd M W (.row (some ⟨b,0,none⟩) n c e s xs::O) w)(hM:M=[])(hk:XJ [b] w w')(hr:Rd w' w'.heap.size s (some ⟨b,0,none⟩) m ys):Wd M W (.rd (some ⟨b,0,none⟩) m s ys::O) w':=by
 subst hM
 have hb:W.heap.size≤b:=by
  rcases Nat.lt_or_ge b W.heap.size with hl|hl
  ·have h1:b∈[]:=h.new 0 _ b rfl rfl hl
   cases h1
  ·exact hl
 have hp:=List.pairwise_cons.1 h.pairs
 have hne:∀x∈O,∀q,x.foot=some q→q≠b:=fun x hx q hq hqb=>by
  subst hqb;have:=hp.1 x hx q rfl hq
  cases this
 refine .of_pairs (h.k.trans hk fun q hq hlt=>?_) ?_ ?_ ?_
 ·rw[List.mem_singleton] at hq
  omega
 ·intro x hx
  rcases List.mem_cons.1 hx with rfl|hx
  ·exact hr
  ·exact(h.onAll x (List.mem_cons_of_mem _ hx)).keep hk.size fun q hq=>hk.block q ((h.onAll x (List.mem_cons_of_mem _ hx)).lt hq) (by rw[List.mem_singleton];exact hne x hx q hq)
 ·intro x hx q hq hlt
  rcases List.mem_cons.1 hx with rfl|hx
  ·have:q=b:=by
    simp only[Qc.foot] at hq
    split at hq
    ·cases hq
    ·cases hq;rfl
   omega
  ·exact h.newAll x (List.mem_cons_of_mem _ hx) q hq hlt
 ·refine List.pairwise_cons.2 ⟨fun x hx q hq hq'=>?_,hp.2⟩
  have:q=b:=by
   simp only[Qc.foot] at hq
   split at hq
   ·cases hq
   ·cases hq;rfl
  exact absurd this (hne x hx q hq')
end
theorem QaC{P:Program}{ops:Array Oper}{N:Nat}{E:Env}{o:Oper}{M:List Nat}{W:World}{O:List Qc}{ι:Type}(V:ι→Value)(p:ι→Prop)(G:ι→List Qc){f f2:FuncId}{x:Operand}{ts:Array TypeId}{v:Value}[he:En P f](ho:o.op=.call { callee:=.value (.func f),args:=#[x,.func f2],argTypes:=ts })(hw:Qj ops E o=some true)(hx:ev E x=some v)
  (hc:∀w,Wd M W O w→Calls P f #[v,.func (.func f2) #[] #[]] w (XR V p M W G)):uE P ops N M W E O o ι V G p:=
 QaA hw (fun ρ w ha=>by
  have hf:=ha.2 f;have hf2:=ha.2 f2;have hh:=he.h
  simp only[execOp,ho,resolve,hf,hf2,ha.eval hx,List.map_toArray,List.map_cons,List.map_nil,Deferred.ofValue,invoke,Sem.run_bind,Sem.run_pure,Result.andThen_ok,Array.append_empty,Array.empty_append,hh]) hc
theorem Q9I{W w w':World}{M:List Nat}{O:List Qc}{n:Nat}{ns:List (List UInt8)}{e:Ending}(h0:0<n)(hw:Wd M W O w)(h:Q4k w n ns e w'):XR (fun y:Nat×Nat=>.slice (some ⟨y.1,0,none⟩) n y.2) (fun _=>True) M W (fun y=>.row (some ⟨y.1,0,none⟩) n y.2 9 1 (sv ns)::O) e w':=by
 obtain⟨A,c,rfl,hown,hb⟩:=h
 rcases hown.2 with ⟨hv,hn⟩|⟨g,cap,cur,hv,hg0,r⟩
 ·omega
 ·simp only[Value.slice.injEq] at hv
  obtain⟨rfl,_,rfl⟩:=hv;refine⟨(g,c),rfl,trivial,hw.push hb (y:=.row (some ⟨g,0,none⟩) n c 9 1 (sv ns)) ⟨hown.1,.inr ⟨g,c,cur,rfl,Nat.zero_le _,r⟩⟩ (fun b hb'=>?_)⟩
  cases hb'
  exact hg0
section
variable {F:List Rl}{r:Rl}{d:Nd}{p:VF}
theorem Q9h(h:r.kind=1):X8 F r d p=(d.k==3&&p.len==0):=by unfold X8;rw[if_pos h]
theorem Yv(h:r.kind=2∨r.kind=3):X8 F r d p=(d.k==1&&Ju r d.n):=by unfold X8;rw[if_neg (by omega),if_pos h]
theorem Q8T(h:r.kind=4):X8 F r d p=(d.k==2&&decide ((d.bs.length:Int)=r.size)):=by unfold X8;rw[if_neg (by omega),if_neg (by omega),if_pos h]
theorem Q37(h:r.kind=10):X8 F r d p=(d.k==2&&Ju (Qd F r.count) (d.bs.length:Int)):=by unfold X8;rw[if_neg (by omega),if_neg (by omega),if_neg (by omega),if_pos h]
theorem Q5P(h:r.kind=5):X8 F r d p=(d.k==2&&decide ((d.bs.length:Int)≤r.size)&&!(d.bs.contains (Zk r))):=by unfold X8;rw[if_neg (by omega),if_neg (by omega),if_neg (by omega),if_neg (by omega),if_pos h]
theorem Q4T(h:r.kind=6):X8 F r d p=(d.k==3&&Ju (Qd F r.count) (p.len:Int)):=by unfold X8;rw[if_neg (by omega),if_neg (by omega),if_neg (by omega),if_neg (by omega),if_neg (by omega),if_pos h]
theorem QdB(h:r.kind=9):X8 F r d p=(d.k==3):=by unfold X8;rw[if_neg (by omega),if_neg (by omega),if_neg (by omega),if_neg (by omega),if_neg (by omega),if_neg (by omega),if_pos h]
theorem Q2x(h:r.kind=8):X8 F r d p=(d.k==3&&p.len==2&&p.hdN.k==1&&decide (0≤p.hdN.n)&&decide (p.hdN.n<(r.parts.length:Int))):=by unfold X8;rw[if_neg (by omega),if_neg (by omega),if_neg (by omega),if_neg (by omega),if_neg (by omega),if_neg (by omega),if_neg (by omega),if_pos h]
theorem Q5u(h:r.kind=7):X8 F r d p=(d.k==4&&d.ns==QZ r.names):=by unfold X8;rw[if_neg (by omega),if_neg (by omega),if_neg (by omega),if_neg (by omega),if_neg (by omega),if_neg (by omega),if_neg (by omega),if_neg (by omega)]
theorem QfZ(m n:Nat):((m:Int)==(n:Int))=(m==n):=by
 rw[Bool.eq_iff_iff,beq_iff_eq,beq_iff_eq]
 omega
end
section
variable {W w w':World}{z:Wz}{B g c n:Nat}{F:List Rl}{A:Option Addr}{xs:List UInt8}
set_option maxRecDepth 100000 in
set_option maxHeartbeats 4000000 in
theorem Q29{b3 b4 nn cf:Nat}{Af:Option Addr}{x cnt:Int}(hf:Xm w B Af nn F)(hB:B≤w.heap.size)(h3:w.cell? ⟨b3,0,none⟩=some (.pointer (some ⟨g,0,none⟩)))(h4:w.cell? ⟨b4,8,none⟩=some (.int .i64 cnt))(hg:w.cell? ⟨g,0,none⟩=some (.slice Af nn cf))(hc:0≤cnt∧cnt<F.length):
  Calls Tryz.prog 107 ([Value.int .i64 x].toArray++#[.pointer (some ⟨b3,0,none⟩),.pointer (some ⟨b4,0,none⟩)]) w fun e w'=>e=.returned (.bool (Ju (Qd F cnt) x))∧Below w.heap.size w w':=by
 have hl:=hf.1;obtain⟨bf,of,haf,_⟩:=hf.2 (by omega);subst haf;obtain⟨hbB,Ab,cb,An,cn,Ap,cp,hrg,hru⟩:=hf.ruleB (k:=cnt) (by omega)
 have hcn:0≤cnt∧cnt<(nn:Int):=by omega
 clear hf hru;obtain⟨r,er⟩:∃r,Qd F cnt=r:=⟨_,rfl⟩;rw[er] at hrg ⊢;clear er
 have hcc:∀W:World,Calls Tryz.prog 108 #[.agg (ruC r (.slice Ab r.bs.length cb) (.slice An r.names.length cn) (.slice Ap r.parts.length cp)).toArray,.int .i64 x] W fun e w'=>e=.returned (.bool (Ju r x))∧Below W.heap.size W w':=fun W=>V3
 obtain⟨bb,hbb⟩:∃bb,Ju r x=bb:=⟨_,rfl⟩;rw[hbb] at hcc ⊢;obtain⟨name,kind,bs,size,big,mn,mx,stop,count,elem,names,parts⟩:=r
 simp only[ruC] at hrg hcc
 show Calls Tryz.prog 107 #[.int .i64 x,.pointer (some ⟨b3,0,none⟩),.pointer (some ⟨b4,0,none⟩)] w _
 go_enter Tryz.func107,Tryz.ntmps107
 refine QE (M:=[]) (W:=w) (N:=16) (E:=[(0,.int .i64 x),(1,.pointer (some ⟨b3,0,none⟩)),(2,.pointer (some ⟨b4,0,none⟩))]) (O:=[]) ?_ (Ag.cons (Ag.cons (Ag.cons (Ag.nil rfl rfl) rfl) rfl) rfl) (Wd.start [] w);refine yq<|yr<|yo zA<|yl<|yn<|yq<|Xj (by kernel_rfl) (by kernel_rfl) ?_;refine Q5 (zG h3) ?_;refine Q5 (Qp rfl rfl (by decide) rfl rfl) ?_;refine Q5 zF ?_;refine Q5 zF ?_;refine Q5 (zG hg) ?_;refine Q5 zF ?_;refine Q5 (zG h4) ?_;refine Q5 (Qm rfl rfl (by decide) rfl rfl rfl hcn) ?_;refine Q5 (QB rfl rfl (by decide) rfl rfl (fun w hw=>hw.range_old hrg (by simp)) rfl) ?_;refine Q5 zM ?_;refine Q5 (Qb rfl rfl (by decide) rfl rfl (fun w hw=>hcc w)) ?_;refine Q5 zA ?_;refine XM ?_;refine yn<|yt ?_;exact Q7 (by exact .inr rfl) rfl (.tmp rfl) (fun w hw=>⟨rfl,hw.k.below⟩)
def FiE(W:World)(b:Bool)(e:Ending)(w':World):Prop:=e=.returned (.bool b)∧Below W.heap.size W w'
set_option maxRecDepth 100000 in
set_option maxHeartbeats 32000000 in
theorem XW{k:Int}{d:Nd}{p:VF}{v:Value}(h:XI W z B g F A c xs n)(hv:Fm F)(hk:0≤k∧k<F.length){Ab An Ap:Option Addr}{cb cn cp:Nat}(hru:RuB W B (Qd F k) Ab cb An cn Ap cp)(hval:VIn W B v d p)(hd1:d.bs.length≤1048576)(hd2:d.ns.length≤1048576):
  Calls Tryz.prog 83 #[.pointer (some ⟨g,0,none⟩),.agg (ruC (Qd F k) (.slice Ab (Qd F k).bs.length cb) (.slice An (Qd F k).names.length cn) (.slice Ap (Qd F k).parts.length cp)).toArray,v] W (FiE W (X8 F (Qd F k) d p)):=by
 have hFn:=h.len;have hr:=hv.toUsd.rok hk
 have hBW:B≤W.heap.size:=by have:=h.hB;have:=h.lt;omega
 have HFM:=Lib.hid h.fm
 have hcg:W.cell? ⟨g,0,none⟩=some (.slice z.Af z.n z.cf):=by
  rw[cell_of_row W g 0 _ _ _ h.cur]
  rfl
 clear h;obtain⟨r,er⟩:∃r,Qd F k=r:=⟨_,rfl⟩;rw[er] at hr hru ⊢;clear er;obtain⟨sb,sn,sp,rfl,Abv,nb,cbv,Anv,nnv,cnv,Apv,cpv,rfl,rfl,rfl,hnb,hnn,hpl,hcm,hrb,hrn,hch⟩:=hval
 have hnbl:d.bs.length=nb:=by have:=hrb.len;rw[Xu] at this;exact this
 have hnnl:d.ns.length=nnv:=by have:=hrn.len;rw[XB] at this;exact this
 subst hnbl hnnl;have HRB:=Lib.hid hrb;have HRN:=Lib.hid hrn;have HCH:=Lib.hid hch;have HRU:=Lib.hid hru;have hcnt:=hr.count;have hkind:=hr.kind;have hsev:=hr.seven;have hp12:=hr.p12;obtain⟨dk,dn,dbs,dns⟩:=d;obtain⟨Af,nn,cf⟩:=z
 simp only at hFn hcg hd1 hd2 hnb hnn
 clear hrb hrn hch hru hr;obtain⟨name,kind,bs,size,big,mn,mx,stop,count,elem,names,parts⟩:=r
 simp only at hcnt hkind hsev hp12
 simp only[ruC]
 go_enter Tryz.func83,Tryz.ntmps83
 refine QE (M:=[]) (W:=W) (N:=150) (E:=[(0,.pointer (some ⟨g,0,none⟩)),(1,.agg [.string ⟨name.toArray⟩,.int .i64 kind,.slice Ab bs.length cb,.int .i64 size,.bool big,.int .i64 mn,.int .i64 mx,.int .i64 stop,.int .i64 count,.int .i64 elem,.slice An names.length cn,.slice Ap parts.length cp].toArray),(2,.agg #[.int .i64 dk,.int .i64 dn,.slice Abv dbs.length cbv,.slice Anv dns.length cnv,.slice Apv p.len cpv])]) (O:=[]) ?_ (Ag.cons (Ag.cons (Ag.cons (Ag.nil rfl rfl) rfl) rfl) rfl) (Wd.start [] W);obtain⟨RES,hres⟩:∃x,X8 F ⟨name,kind,bs,size,big,mn,mx,stop,count,elem,names,parts⟩ ⟨dk,dn,dbs,dns⟩ p=x:=⟨_,rfl⟩;rw[hres];have HRS:=Lib.hid hres;clear hres;refine yq<|yr ?_;refine yB fun b3=>?_;refine yB fun b4=>?_;refine yB fun b5=>?_;refine yo zA<|yl<|yn<|yq<|yr<|yo zu<|yo zA<|yl<|yn<|yq<|yq<|yr<|yo zF<|yo (zB 1)<|yl ?_
 by_cases k1:kind=1
 ·subst k1
  by_cases hdk:dk=3
  ·have e0:((p.len:Int)==0)=(p.len==0):=QfZ p.len 0;have HZ:=Lib.hid (show RES=(p.len==0) by rw[← HRS.out,Q9h rfl];simp only;rw[hdk];rfl);refine yn<|yb<|yq<|yr<|yo zet<|yo zA<|yl<|yn<|y1<|yq<|yr<|yo zF<|yo (zB 0)<|yo zet<|yo zM<|yo zF<|yo (zB 0)<|yo zL<|yo zea<|yo zY<|yo zA<|yl<|yn<|yt<|yk<|yc ?_;exact Q7 (by exact .inr rfl) rfl (.tmp rfl) (fun w hw=>⟨by rw[HZ.out],hw.k.below⟩)
  ·have HZ:=Lib.hid (show RES=false by rw[← HRS.out,Q9h rfl];simp only;rw[beq_eq_false_iff_ne.2 hdk];rfl);refine yn<|yb<|yq<|yr<|yo zet<|yo zA<|yl<|yn<|y1<|yq<|yr<|yo zF<|yo (zB 0)<|yo zef<|yo zM<|yo zS<|yo zS<|yo zS<|yo zS<|yo zN<|yo zA<|yl<|yn<|yt<|yk<|yc ?_;exact Q7 (by exact .inr rfl) rfl (.tmp rfl) (fun w hw=>⟨by rw[HZ.out],hw.k.below⟩)
 by_cases k2:kind=2
 ·subst k2
  have hcc:∀W:World,Calls Tryz.prog 108 #[.agg [.string ⟨name.toArray⟩,.int .i64 2,.slice Ab bs.length cb,.int .i64 size,.bool big,.int .i64 mn,.int .i64 mx,.int .i64 stop,.int .i64 count,.int .i64 elem,.slice An names.length cn,.slice Ap parts.length cp].toArray,.int .i64 dn] W fun e w'=>e=.returned (.bool (Ju ⟨name,2,bs,size,big,mn,mx,stop,count,elem,names,parts⟩ dn))∧Below W.heap.size W w':=fun W=>V3 (r:=⟨name,2,bs,size,big,mn,mx,stop,count,elem,names,parts⟩)
  by_cases hdk:dk=1
  ·have HZ:=Lib.hid (show RES=Ju ⟨name,2,bs,size,big,mn,mx,stop,count,elem,names,parts⟩ dn by rw[← HRS.out,Yv (.inl rfl)];simp only;rw[hdk];rfl);refine yn<|yb<|yq<|yr<|yo zef<|yo zA<|yl<|yn<|y0<|yq<|yq<|yr<|yo zet<|yo zA<|yl<|yn<|y1<|ys<|yn<|y1<|yq<|yr<|yo zF<|yo (zB 0)<|yo zet<|yo zM<|yo (zD 1)<|yo zF<|yo (zB 0) ?_;refine Q1 (Qb rfl rfl (by decide) rfl rfl (fun w hw=>hcc w)) ?_;refine yo zY<|yo zA<|yl<|yn<|yt<|yk<|yc ?_;exact Q7 (by exact .inr rfl) rfl (.tmp rfl) (fun w hw=>⟨by rw[HZ.out],hw.k.below⟩)
  ·have HZ:=Lib.hid (show RES=false by rw[← HRS.out,Yv (.inl rfl)];simp only;rw[beq_eq_false_iff_ne.2 hdk];rfl);refine yn<|yb<|yq<|yr<|yo zef<|yo zA<|yl<|yn<|y0<|yq<|yq<|yr<|yo zet<|yo zA<|yl<|yn<|y1<|ys<|yn<|y1<|yq<|yr<|yo zF<|yo (zB 0)<|yo zef<|yo zM<|yo zS<|yo zS<|yo zS<|yo zS<|yo zN<|yo zA<|yl<|yn<|yt<|yk<|yc ?_;exact Q7 (by exact .inr rfl) rfl (.tmp rfl) (fun w hw=>⟨by rw[HZ.out],hw.k.below⟩)
 by_cases k3:kind=3
 ·subst k3
  have hcc:∀W:World,Calls Tryz.prog 108 #[.agg [.string ⟨name.toArray⟩,.int .i64 3,.slice Ab bs.length cb,.int .i64 size,.bool big,.int .i64 mn,.int .i64 mx,.int .i64 stop,.int .i64 count,.int .i64 elem,.slice An names.length cn,.slice Ap parts.length cp].toArray,.int .i64 dn] W fun e w'=>e=.returned (.bool (Ju ⟨name,3,bs,size,big,mn,mx,stop,count,elem,names,parts⟩ dn))∧Below W.heap.size W w':=fun W=>V3 (r:=⟨name,3,bs,size,big,mn,mx,stop,count,elem,names,parts⟩)
  by_cases hdk:dk=1
  ·have HZ:=Lib.hid (show RES=Ju ⟨name,3,bs,size,big,mn,mx,stop,count,elem,names,parts⟩ dn by rw[← HRS.out,Yv (.inr rfl)];simp only;rw[hdk];rfl);refine yn<|yb<|yq<|yr<|yo zef<|yo zA<|yl<|yn<|y0<|yq<|yq<|yr<|yo zef<|yo zA<|yl<|yn<|y0<|yr<|yo zet<|yo zA<|yl<|yn<|y1<|yq<|yr<|yo zF<|yo (zB 0)<|yo zet<|yo zM<|yo (zD 1)<|yo zF<|yo (zB 0) ?_;refine Q1 (Qb rfl rfl (by decide) rfl rfl (fun w hw=>hcc w)) ?_;refine yo zY<|yo zA<|yl<|yn<|yt<|yk<|yc ?_;exact Q7 (by exact .inr rfl) rfl (.tmp rfl) (fun w hw=>⟨by rw[HZ.out],hw.k.below⟩)
  ·have HZ:=Lib.hid (show RES=false by rw[← HRS.out,Yv (.inr rfl)];simp only;rw[beq_eq_false_iff_ne.2 hdk];rfl);refine yn<|yb<|yq<|yr<|yo zef<|yo zA<|yl<|yn<|y0<|yq<|yq<|yr<|yo zef<|yo zA<|yl<|yn<|y0<|yr<|yo zet<|yo zA<|yl<|yn<|y1<|yq<|yr<|yo zF<|yo (zB 0)<|yo zef<|yo zM<|yo zS<|yo zS<|yo zS<|yo zS<|yo zN<|yo zA<|yl<|yn<|yt<|yk<|yc ?_;exact Q7 (by exact .inr rfl) rfl (.tmp rfl) (fun w hw=>⟨by rw[HZ.out],hw.k.below⟩)
 by_cases k4:kind=4
 ·subst k4
  by_cases hdk:dk=2
  ·have e0:((dbs.length:Int)==size)=decide ((dbs.length:Int)=size):=by rw[Bool.eq_iff_iff,beq_iff_eq,decide_eq_true_iff]
   have HZ:=Lib.hid (show RES=decide ((dbs.length:Int)=size) by rw[← HRS.out,Q8T rfl];simp only;rw[hdk];rfl);refine yn<|yb<|yq<|yr<|yo zef<|yo zA<|yl<|yn<|y0<|yq<|yq<|yr<|yo zef<|yo zA<|yl<|yn<|y0<|yr<|yo zef<|yo zA<|yl<|yn<|y0<|yq<|yr<|yo zet<|yo zA<|yl<|yn<|y1<|yq<|yr<|yo zF<|yo (zB 0)<|yo zet<|yo zM<|yo zF<|yo (zB 0)<|yo zL<|yo zF<|yo (zB 1)<|yo zea<|yo zY<|yo zA<|yl<|yn<|yt<|yk<|yc ?_;exact Q7 (by exact .inr rfl) rfl (.tmp rfl) (fun w hw=>⟨by rw[HZ.out],hw.k.below⟩)
  ·have HZ:=Lib.hid (show RES=false by rw[← HRS.out,Q8T rfl];simp only;rw[beq_eq_false_iff_ne.2 hdk];rfl);refine yn<|yb<|yq<|yr<|yo zef<|yo zA<|yl<|yn<|y0<|yq<|yq<|yr<|yo zef<|yo zA<|yl<|yn<|y0<|yr<|yo zef<|yo zA<|yl<|yn<|y0<|yq<|yr<|yo zet<|yo zA<|yl<|yn<|y1<|yq<|yr<|yo zF<|yo (zB 0)<|yo zef<|yo zM<|yo zS<|yo zS<|yo zS<|yo zS<|yo zS<|yo zS<|yo zN<|yo zA<|yl<|yn<|yt<|yk<|yc ?_;exact Q7 (by exact .inr rfl) rfl (.tmp rfl) (fun w hw=>⟨by rw[HZ.out],hw.k.below⟩)
 by_cases k10:kind=10
 ·subst k10;have HCT:=Lib.hid (hcnt (.inr rfl))
  by_cases hdk:dk=2
  ·have HZ:=Lib.hid (show RES=Ju (Qd F count) (dbs.length:Int) by rw[← HRS.out,Q37 rfl];simp only;rw[hdk];rfl);refine yn<|yb<|yq<|yr<|yo zef<|yo zA<|yl<|yn<|y0<|yq<|yq<|yr<|yo zef<|yo zA<|yl<|yn<|y0<|yr<|yo zef<|yo zA<|yl<|yn<|y0<|yq<|yr<|yo zef<|yo zA<|yl<|yn<|y0<|yq<|yr<|yo zet<|yo zA<|yl<|yn<|y1<|yq<|yr<|yo zF<|yo (zB 0)<|yo zet<|yo zM<|yo zM<|yo zF<|yo (zB 0)<|yo zL ?_;(refine Q1 (ZW rfl rfl (by decide) rfl rfl rfl (fun w hw=>Q29 (HFM.out.below (hw.k.below.mono hBW)) (by have:=hw.k.size;omega) (hw.cell_blkL 2 rfl rfl) (hw.cell_blkL 1 rfl rfl) (hw.cell_old hcg (by simp)) HCT.out)) ?_);refine yo zY<|yo zA<|yl<|yn<|yt<|yk<|yc ?_;exact Q7 (by exact .inr rfl) rfl (.tmp rfl) (fun w hw=>⟨by rw[HZ.out],hw.k.below⟩)
  ·have HZ:=Lib.hid (show RES=false by rw[← HRS.out,Q37 rfl];simp only;rw[beq_eq_false_iff_ne.2 hdk];rfl);refine yn<|yb<|yq<|yr<|yo zef<|yo zA<|yl<|yn<|y0<|yq<|yq<|yr<|yo zef<|yo zA<|yl<|yn<|y0<|yr<|yo zef<|yo zA<|yl<|yn<|y0<|yq<|yr<|yo zef<|yo zA<|yl<|yn<|y0<|yq<|yr<|yo zet<|yo zA<|yl<|yn<|y1<|yq<|yr<|yo zF<|yo (zB 0)<|yo zef<|yo zM<|yo zS<|yo zS<|yo zS<|yo zS<|yo zS<|yo zN<|yo zA<|yl<|yn<|yt<|yk<|yc ?_;exact Q7 (by exact .inr rfl) rfl (.tmp rfl) (fun w hw=>⟨by rw[HZ.out],hw.k.below⟩)
 by_cases k5:kind=5
 ·subst k5;obtain⟨sB,hsB⟩:∃b:UInt8,UInt8.ofNat (stop % 256).toNat=b:=⟨_,rfl⟩
  have hcv:IntKind.u8.wrap stop=(sB.toNat:Int):=by rw[Q7e,hsB]
  by_cases hdk:dk=2
  ·by_cases hle:(dbs.length:Int)≤size
   ·have HZ:=Lib.hid (show RES=!(dbs.contains sB) by rw[← HRS.out,Q5P rfl];simp only;rw[hdk,decide_eq_true hle];unfold Zk;simp only;rw[hsB];rfl);refine yn<|yb<|yq<|yr<|yo zef<|yo zA<|yl<|yn<|y0<|yq<|yq<|yr<|yo zef<|yo zA<|yl<|yn<|y0<|yr<|yo zef<|yo zA<|yl<|yn<|y0<|yq<|yr<|yo zef<|yo zA<|yl<|yn<|y0<|yq<|yr<|yo zef<|yo zA<|yl<|yn<|y0<|yq<|yr<|yo zet<|yo zA<|yl<|yn<|y1<|yq<|yr<|yo zF<|yo (zB 0)<|yo zet<|yo zM<|yo zF<|yo (zB 0)<|yo zL<|yo zF<|yo (zB 1)<|yo zqt<|yo zY<|yo zM<|yo zF<|yo (zB 0)<|yo zF<|yo (zB 1) ?_;(refine Q1 (XE rfl rfl (by decide) rfl rfl (by rw[Tryz.underlying3];rfl) Tryz.underlying5 hcv) ?_);(refine Q1 (Qb rfl rfl (by decide) rfl rfl (fun w hw=>KS (((HRB.out.below (hw.k.below.mono hBW))).more (by have:=hw.k.size;omega)) hd1 sB)) ?_);refine yo zO<|yo zY<|yo zA<|yl<|yn<|yt<|yk<|yc ?_;exact Q7 (by exact .inr rfl) rfl (.tmp rfl) (fun w hw=>⟨by rw[HZ.out],hw.k.below⟩)
   ·have HZ:=Lib.hid (show RES=false by rw[← HRS.out,Q5P rfl];simp only;rw[decide_eq_false hle,Bool.and_false];rfl);refine yn<|yb<|yq<|yr<|yo zef<|yo zA<|yl<|yn<|y0<|yq<|yq<|yr<|yo zef<|yo zA<|yl<|yn<|y0<|yr<|yo zef<|yo zA<|yl<|yn<|y0<|yq<|yr<|yo zef<|yo zA<|yl<|yn<|y0<|yq<|yr<|yo zef<|yo zA<|yl<|yn<|y0<|yq<|yr<|yo zet<|yo zA<|yl<|yn<|y1<|yq<|yr<|yo zF<|yo (zB 0)<|yo zet<|yo zM<|yo zF<|yo (zB 0)<|yo zL<|yo zF<|yo (zB 1)<|yo zqf<|yo zY<|yo zM<|yo zS<|yo zS<|yo zS<|yo zS<|yo zS<|yo zS<|yo zS<|yo zN<|yo zA<|yl<|yn<|yt<|yk<|yc ?_;exact Q7 (by exact .inr rfl) rfl (.tmp rfl) (fun w hw=>⟨by rw[HZ.out],hw.k.below⟩)
  ·have HZ:=Lib.hid (show RES=false by rw[← HRS.out,Q5P rfl];simp only;rw[beq_eq_false_iff_ne.2 hdk];rfl);refine yn<|yb<|yq<|yr<|yo zef<|yo zA<|yl<|yn<|y0<|yq<|yq<|yr<|yo zef<|yo zA<|yl<|yn<|y0<|yr<|yo zef<|yo zA<|yl<|yn<|y0<|yq<|yr<|yo zef<|yo zA<|yl<|yn<|y0<|yq<|yr<|yo zef<|yo zA<|yl<|yn<|y0<|yq<|yr<|yo zet<|yo zA<|yl<|yn<|y1<|yq<|yr<|yo zF<|yo (zB 0)<|yo zef<|yo zM<|yo zS<|yo zS<|yo zS<|yo zS<|yo zS<|yo zS<|yo zN<|yo zM<|yo zS<|yo zS<|yo zS<|yo zS<|yo zS<|yo zS<|yo zS<|yo zN<|yo zA<|yl<|yn<|yt<|yk<|yc ?_;exact Q7 (by exact .inr rfl) rfl (.tmp rfl) (fun w hw=>⟨by rw[HZ.out],hw.k.below⟩)
 by_cases k6:kind=6
 ·subst k6;have HCT:=Lib.hid (hcnt (.inl rfl))
  by_cases hdk:dk=3
  ·have HZ:=Lib.hid (show RES=Ju (Qd F count) (p.len:Int) by rw[← HRS.out,Q4T rfl];simp only;rw[hdk];rfl);refine yn<|yb<|yq<|yr<|yo zef<|yo zA<|yl<|yn<|y0<|yq<|yq<|yr<|yo zef<|yo zA<|yl<|yn<|y0<|yr<|yo zef<|yo zA<|yl<|yn<|y0<|yq<|yr<|yo zef<|yo zA<|yl<|yn<|y0<|yq<|yr<|yo zef<|yo zA<|yl<|yn<|y0<|yq<|yr<|yo zef<|yo zA<|yl<|yn<|y0<|yq<|yr<|yo zet<|yo zA<|yl<|yn<|y1<|yq<|yr<|yo zF<|yo (zB 0)<|yo zet<|yo zM<|yo zM<|yo zF<|yo (zB 0)<|yo zL ?_;(refine Q1 (ZW rfl rfl (by decide) rfl rfl rfl (fun w hw=>Q29 (HFM.out.below (hw.k.below.mono hBW)) (by have:=hw.k.size;omega) (hw.cell_blkL 2 rfl rfl) (hw.cell_blkL 1 rfl rfl) (hw.cell_old hcg (by simp)) HCT.out)) ?_);refine yo zY<|yo zA<|yl<|yn<|yt<|yk<|yc ?_;exact Q7 (by exact .inr rfl) rfl (.tmp rfl) (fun w hw=>⟨by rw[HZ.out],hw.k.below⟩)
  ·have HZ:=Lib.hid (show RES=false by rw[← HRS.out,Q4T rfl];simp only;rw[beq_eq_false_iff_ne.2 hdk];rfl);refine yn<|yb<|yq<|yr<|yo zef<|yo zA<|yl<|yn<|y0<|yq<|yq<|yr<|yo zef<|yo zA<|yl<|yn<|y0<|yr<|yo zef<|yo zA<|yl<|yn<|y0<|yq<|yr<|yo zef<|yo zA<|yl<|yn<|y0<|yq<|yr<|yo zef<|yo zA<|yl<|yn<|y0<|yq<|yr<|yo zef<|yo zA<|yl<|yn<|y0<|yq<|yr<|yo zet<|yo zA<|yl<|yn<|y1<|yq<|yr<|yo zF<|yo (zB 0)<|yo zef<|yo zM<|yo zS<|yo zS<|yo zS<|yo zS<|yo zS<|yo zN<|yo zA<|yl<|yn<|yt<|yk<|yc ?_;exact Q7 (by exact .inr rfl) rfl (.tmp rfl) (fun w hw=>⟨by rw[HZ.out],hw.k.below⟩)
 by_cases k9:kind=9
 ·subst k9;have HZ:=Lib.hid (show RES=(dk==3) by rw[← HRS.out,QdB rfl]);obtain⟨bk,hbk⟩:∃bk,(dk==3)=bk:=⟨_,rfl⟩;rw[hbk] at HZ;refine yn<|yb<|yq<|yr<|yo zef<|yo zA<|yl<|yn<|y0<|yq<|yq<|yr<|yo zef<|yo zA<|yl<|yn<|y0<|yr<|yo zef<|yo zA<|yl<|yn<|y0<|yq<|yr<|yo zef<|yo zA<|yl<|yn<|y0<|yq<|yr<|yo zef<|yo zA<|yl<|yn<|y0<|yq<|yr<|yo zef<|yo zA<|yl<|yn<|y0<|yq<|yr<|yo zef<|yo zA<|yl<|yn<|y0<|yq<|yr<|yo zet<|yo zA<|yl<|yn<|y1<|yq<|yr<|yo zF<|yo (zB 0)<|yo zea<|yo zA<|yl<|yn<|yt<|yk<|yc ?_;exact Q7 (by exact .inr rfl) rfl (.tmp rfl) (fun w hw=>⟨by rw[HZ.out],hw.k.below⟩)
 by_cases k8:kind=8
 ·subst k8
  by_cases hdk:dk=3
  case neg=>
   have HZ:=Lib.hid (show RES=false by rw[← HRS.out,Q2x rfl];simp only;rw[beq_eq_false_iff_ne.2 hdk];rfl);refine yn<|yb<|yq<|yr<|yo zef<|yo zA<|yl<|yn<|y0<|yq<|yq<|yr<|yo zef<|yo zA<|yl<|yn<|y0<|yr<|yo zef<|yo zA<|yl<|yn<|y0<|yq<|yr<|yo zef<|yo zA<|yl<|yn<|y0<|yq<|yr<|yo zef<|yo zA<|yl<|yn<|y0<|yq<|yr<|yo zef<|yo zA<|yl<|yn<|y0<|yq<|yr<|yo zef<|yo zA<|yl<|yn<|y0<|yq<|yr<|yo zef<|yo zA<|yl<|yn<|y0<|yq<|yr<|yo zet<|yo zA<|yl<|yn<|y1<|yq<|Xj (by kernel_rfl) (by kernel_rfl) ?_;refine Q5 zF ?_;refine Q5 (zB 0) ?_;refine Q5 zef ?_;refine Q5 zM ?_;refine Q5 zS ?_;refine Q5 zS ?_;refine Q5 zS ?_;refine Q5 zS ?_;refine Q5 zN ?_;refine Q5 zM ?_;refine Q5 zS ?_;refine Q5 zS ?_;refine Q5 zS ?_;refine Q5 zS ?_;refine Q5 zS ?_;refine Q5 zS ?_;refine Q5 zN ?_;refine Q5 zM ?_;refine Q5 zS ?_;refine Q5 zS ?_;refine Q5 zS ?_;refine Q5 zS ?_;refine Q5 zS ?_;refine Q5 zS ?_;refine Q5 zN ?_;refine Q5 zM ?_;refine Q5 zS ?_;refine Q5 zS ?_;refine Q5 zS ?_;refine Q5 zS ?_;refine Q5 zS ?_;refine Q5 zS ?_;refine Q5 zS ?_;refine Q5 zS ?_;refine Q5 zS ?_;refine Q5 zN ?_;refine Q5 zA ?_;refine XM ?_;refine yn<|yt<|yk<|yc ?_;exact Q7 (by exact .inr rfl) rfl (.tmp rfl) (fun w hw=>⟨by rw[HZ.out],hw.k.below⟩)
  by_cases hpl2:p.len=2
  case neg=>
   have HZ:=Lib.hid (show RES=false by rw[← HRS.out,Q2x rfl];simp only;rw[beq_eq_false_iff_ne.2 hpl2,Bool.and_false];rfl);refine yn<|yb<|yq<|yr<|yo zef<|yo zA<|yl<|yn<|y0<|yq<|yq<|yr<|yo zef<|yo zA<|yl<|yn<|y0<|yr<|yo zef<|yo zA<|yl<|yn<|y0<|yq<|yr<|yo zef<|yo zA<|yl<|yn<|y0<|yq<|yr<|yo zef<|yo zA<|yl<|yn<|y0<|yq<|yr<|yo zef<|yo zA<|yl<|yn<|y0<|yq<|yr<|yo zef<|yo zA<|yl<|yn<|y0<|yq<|yr<|yo zef<|yo zA<|yl<|yn<|y0<|yq<|yr<|yo zet<|yo zA<|yl<|yn<|y1<|yq<|Xj (by kernel_rfl) (by kernel_rfl) ?_;refine Q5 zF ?_;refine Q5 (zB 0) ?_;refine Q5 zet ?_;refine Q5 zM ?_;refine Q5 zF ?_;refine Q5 (zB 0) ?_;refine Q5 zL ?_;refine Q5 zef ?_;refine Q5 zY ?_;refine Q5 zM ?_;refine Q5 zS ?_;refine Q5 zS ?_;refine Q5 zS ?_;refine Q5 zS ?_;refine Q5 zS ?_;refine Q5 zS ?_;refine Q5 zN ?_;refine Q5 zM ?_;refine Q5 zS ?_;refine Q5 zS ?_;refine Q5 zS ?_;refine Q5 zS ?_;refine Q5 zS ?_;refine Q5 zS ?_;refine Q5 zN ?_;refine Q5 zM ?_;refine Q5 zS ?_;refine Q5 zS ?_;refine Q5 zS ?_;refine Q5 zS ?_;refine Q5 zS ?_;refine Q5 zS ?_;refine Q5 zS ?_;refine Q5 zS ?_;refine Q5 zS ?_;refine Q5 zN ?_;refine Q5 zA ?_;refine XM ?_;refine yn<|yt<|yk<|yc ?_;exact Q7 (by exact .inr rfl) rfl (.tmp rfl) (fun w hw=>⟨by rw[HZ.out],hw.k.below⟩)
  cases p with
  |nil=>cases hpl2
  |cons d1 p1 rest=>
   obtain⟨bp,op,rfl,hbp,⟨sb1,sn1,sp1,⟨c0,c1,_⟩,_⟩,_⟩:=HCH.out (by omega);have HPL:=Lib.hid hpl2;obtain⟨pl,hpl0⟩:∃pl,(VF.cons d1 p1 rest).len=pl:=⟨_,rfl⟩;rw[hpl0] at hpl2 hpl ⊢;subst hpl2;have HE:=Lib.hid (show RES=(d1.k==1&&decide (0≤d1.n)&&decide (d1.n<(parts.length:Int))) by rw[← HRS.out,Q2x rfl];simp only;rw[hdk,hpl0];rfl);clear hpl0;obtain⟨k1,n1,_,_⟩:=d1
   simp only at c0 c1 HE
   by_cases hk1:k1=1
   case neg=>
    have HZ:=Lib.hid (show RES=false by rw[HE.out,beq_eq_false_iff_ne.2 hk1];rfl);refine yn<|yb<|yq<|yr<|yo zef<|yo zA<|yl<|yn<|y0<|yq<|yq<|yr<|yo zef<|yo zA<|yl<|yn<|y0<|yr<|yo zef<|yo zA<|yl<|yn<|y0<|yq<|yr<|yo zef<|yo zA<|yl<|yn<|y0<|yq<|yr<|yo zef<|yo zA<|yl<|yn<|y0<|yq<|yr<|yo zef<|yo zA<|yl<|yn<|y0<|yq<|yr<|yo zef<|yo zA<|yl<|yn<|y0<|yq<|yr<|yo zef<|yo zA<|yl<|yn<|y0<|yq<|yr<|yo zet<|yo zA<|yl<|yn<|y1<|yq<|Xj (by kernel_rfl) (by kernel_rfl) ?_;refine Q5 zF ?_;refine Q5 (zB 0) ?_;refine Q5 zet ?_;refine Q5 zM ?_;refine Q5 zF ?_;refine Q5 (zB 0) ?_;refine Q5 zL ?_;refine Q5 zet ?_;refine Q5 zY ?_;refine Q5 zM ?_;refine Q5 zF ?_;refine Q5 (zB 0) ?_;refine Q5 (QY (j:=0) rfl rfl (by decide) rfl rfl rfl (by omega)) ?_;refine Q5 zF ?_;refine Q5 (zG c0) ?_;refine Q5 zef ?_;refine Q5 zY ?_;refine Q5 zM ?_;refine Q5 zS ?_;refine Q5 zS ?_;refine Q5 zS ?_;refine Q5 zS ?_;refine Q5 zS ?_;refine Q5 zS ?_;refine Q5 zN ?_;refine Q5 zM ?_;refine Q5 zS ?_;refine Q5 zS ?_;refine Q5 zS ?_;refine Q5 zS ?_;refine Q5 zS ?_;refine Q5 zS ?_;refine Q5 zS ?_;refine Q5 zS ?_;refine Q5 zS ?_;refine Q5 zN ?_;refine Q5 zA ?_;refine XM ?_;refine yn<|yt<|yk<|yc ?_;exact Q7 (by exact .inr rfl) rfl (.tmp rfl) (fun w hw=>⟨by rw[HZ.out],hw.k.below⟩)
   by_cases hn0:0≤n1
   case neg=>
    have HZ:=Lib.hid (show RES=false by rw[HE.out,decide_eq_false hn0,Bool.and_false];rfl);refine yn<|yb<|yq<|yr<|yo zef<|yo zA<|yl<|yn<|y0<|yq<|yq<|yr<|yo zef<|yo zA<|yl<|yn<|y0<|yr<|yo zef<|yo zA<|yl<|yn<|y0<|yq<|yr<|yo zef<|yo zA<|yl<|yn<|y0<|yq<|yr<|yo zef<|yo zA<|yl<|yn<|y0<|yq<|yr<|yo zef<|yo zA<|yl<|yn<|y0<|yq<|yr<|yo zef<|yo zA<|yl<|yn<|y0<|yq<|yr<|yo zef<|yo zA<|yl<|yn<|y0<|yq<|yr<|yo zet<|yo zA<|yl<|yn<|y1<|yq<|Xj (by kernel_rfl) (by kernel_rfl) ?_;refine Q5 zF ?_;refine Q5 (zB 0) ?_;refine Q5 zet ?_;refine Q5 zM ?_;refine Q5 zF ?_;refine Q5 (zB 0) ?_;refine Q5 zL ?_;refine Q5 zet ?_;refine Q5 zY ?_;refine Q5 zM ?_;refine Q5 zF ?_;refine Q5 (zB 0) ?_;refine Q5 (QY (j:=0) rfl rfl (by decide) rfl rfl rfl (by omega)) ?_;refine Q5 zF ?_;refine Q5 (zG c0) ?_;refine Q5 zet ?_;refine Q5 zY ?_;refine Q5 zM ?_;refine Q5 zF ?_;refine Q5 (zB 0) ?_;refine Q5 (QY (j:=0) rfl rfl (by decide) rfl rfl rfl (by omega)) ?_;refine Q5 zF ?_;refine Q5 (zG c1) ?_;refine Q5 zhf ?_;refine Q5 zY ?_;refine Q5 zM ?_;refine Q5 zS ?_;refine Q5 zS ?_;refine Q5 zS ?_;refine Q5 zS ?_;refine Q5 zS ?_;refine Q5 zS ?_;refine Q5 zS ?_;refine Q5 zS ?_;refine Q5 zS ?_;refine Q5 zN ?_;refine Q5 zA ?_;refine XM ?_;refine yn<|yt<|yk<|yc ?_;exact Q7 (by exact .inr rfl) rfl (.tmp rfl) (fun w hw=>⟨by rw[HZ.out],hw.k.below⟩)
   by_cases hn1:n1<(parts.length:Int)
   case neg=>
    have HZ:=Lib.hid (show RES=false by rw[HE.out,decide_eq_false hn1,Bool.and_false]);refine yn<|yb<|yq<|yr<|yo zef<|yo zA<|yl<|yn<|y0<|yq<|yq<|yr<|yo zef<|yo zA<|yl<|yn<|y0<|yr<|yo zef<|yo zA<|yl<|yn<|y0<|yq<|yr<|yo zef<|yo zA<|yl<|yn<|y0<|yq<|yr<|yo zef<|yo zA<|yl<|yn<|y0<|yq<|yr<|yo zef<|yo zA<|yl<|yn<|y0<|yq<|yr<|yo zef<|yo zA<|yl<|yn<|y0<|yq<|yr<|yo zef<|yo zA<|yl<|yn<|y0<|yq<|yr<|yo zet<|yo zA<|yl<|yn<|y1<|yq<|Xj (by kernel_rfl) (by kernel_rfl) ?_;refine Q5 zF ?_;refine Q5 (zB 0) ?_;refine Q5 zet ?_;refine Q5 zM ?_;refine Q5 zF ?_;refine Q5 (zB 0) ?_;refine Q5 zL ?_;refine Q5 zet ?_;refine Q5 zY ?_;refine Q5 zM ?_;refine Q5 zF ?_;refine Q5 (zB 0) ?_;refine Q5 (QY (j:=0) rfl rfl (by decide) rfl rfl rfl (by omega)) ?_;refine Q5 zF ?_;refine Q5 (zG c0) ?_;refine Q5 zet ?_;refine Q5 zY ?_;refine Q5 zM ?_;refine Q5 zF ?_;refine Q5 (zB 0) ?_;refine Q5 (QY (j:=0) rfl rfl (by decide) rfl rfl rfl (by omega)) ?_;refine Q5 zF ?_;refine Q5 (zG c1) ?_;refine Q5 zht ?_;refine Q5 zY ?_;refine Q5 zM ?_;refine Q5 zF ?_;refine Q5 (zB 0) ?_;refine Q5 (QY (j:=0) rfl rfl (by decide) rfl rfl rfl (by omega)) ?_;refine Q5 zF ?_;refine Q5 (zG c1) ?_;refine Q5 zF ?_;refine Q5 (zB 1) ?_;refine Q5 zL ?_;refine Q5 zlf ?_;refine Q5 zY ?_;refine Q5 zA ?_;refine XM ?_;refine yn<|yt<|yk<|yc ?_;exact Q7 (by exact .inr rfl) rfl (.tmp rfl) (fun w hw=>⟨by rw[HZ.out],hw.k.below⟩)
   have HZ:=Lib.hid (show RES=true by rw[HE.out,hk1,decide_eq_true hn0,decide_eq_true hn1];rfl);refine yn<|yb<|yq<|yr<|yo zef<|yo zA<|yl<|yn<|y0<|yq<|yq<|yr<|yo zef<|yo zA<|yl<|yn<|y0<|yr<|yo zef<|yo zA<|yl<|yn<|y0<|yq<|yr<|yo zef<|yo zA<|yl<|yn<|y0<|yq<|yr<|yo zef<|yo zA<|yl<|yn<|y0<|yq<|yr<|yo zef<|yo zA<|yl<|yn<|y0<|yq<|yr<|yo zef<|yo zA<|yl<|yn<|y0<|yq<|yr<|yo zef<|yo zA<|yl<|yn<|y0<|yq<|yr<|yo zet<|yo zA<|yl<|yn<|y1<|yq<|Xj (by kernel_rfl) (by kernel_rfl) ?_;refine Q5 zF ?_;refine Q5 (zB 0) ?_;refine Q5 zet ?_;refine Q5 zM ?_;refine Q5 zF ?_;refine Q5 (zB 0) ?_;refine Q5 zL ?_;refine Q5 zet ?_;refine Q5 zY ?_;refine Q5 zM ?_;refine Q5 zF ?_;refine Q5 (zB 0) ?_;refine Q5 (QY (j:=0) rfl rfl (by decide) rfl rfl rfl (by omega)) ?_;refine Q5 zF ?_;refine Q5 (zG c0) ?_;refine Q5 zet ?_;refine Q5 zY ?_;refine Q5 zM ?_;refine Q5 zF ?_;refine Q5 (zB 0) ?_;refine Q5 (QY (j:=0) rfl rfl (by decide) rfl rfl rfl (by omega)) ?_;refine Q5 zF ?_;refine Q5 (zG c1) ?_;refine Q5 zht ?_;refine Q5 zY ?_;refine Q5 zM ?_;refine Q5 zF ?_;refine Q5 (zB 0) ?_;refine Q5 (QY (j:=0) rfl rfl (by decide) rfl rfl rfl (by omega)) ?_;refine Q5 zF ?_;refine Q5 (zG c1) ?_;refine Q5 zF ?_;refine Q5 (zB 1) ?_;refine Q5 zL ?_;refine Q5 zlt ?_;refine Q5 zY ?_;refine Q5 zA ?_;refine XM ?_;refine yn<|yt<|yk<|yc ?_;exact Q7 (by exact .inr rfl) rfl (.tmp rfl) (fun w hw=>⟨by rw[HZ.out],hw.k.below⟩)
 have k7:kind=7:=by omega
 subst k7;obtain⟨hs1,hs2⟩:=hsev rfl
 have hnl:names.length≤1048576:=by omega
 refine yn<|yb<|yq<|yr<|yo zef<|yo zA<|yl<|yn<|y0<|yq<|yq<|yr<|yo zef<|yo zA<|yl<|yn<|y0<|yr<|yo zef<|yo zA<|yl<|yn<|y0<|yq<|yr<|yo zef<|yo zA<|yl<|yn<|y0<|yq<|yr<|yo zef<|yo zA<|yl<|yn<|y0<|yq<|yr<|yo zef<|yo zA<|yl<|yn<|y0<|yq<|yr<|yo zef<|yo zA<|yl<|yn<|y0<|yq<|yr<|yo zef<|yo zA<|yl<|yn<|y0<|yq<|yr<|yo zef<|yo zA<|yl<|yn<|y0<|ys<|yn<|yq<|yr<|yo zF<|yo (zB 1) ?_;refine Qo (QM (fun y:Nat×Nat=>.slice (some ⟨y.1,0,none⟩) names.length y.2) (fun _=>True) (fun y=>.row (some ⟨y.1,0,none⟩) names.length y.2 9 1 (sv names)::_) rfl rfl rfl (fun w hw=>(Q5y (((HRU.out.n.below (hw.k.below.mono hBW))).more (by have:=hw.k.size;omega)) hnl).mono (fun e w' h=>Q9I (by show 0<names.length;omega) hw h))) rfl (by decide) (fun y _=>?_);refine Qo (QaC (fun _:Unit=>.slice (some ⟨y.1,0,none⟩) (QZ names).length y.2) (fun _=>True) (fun _=>.rd (some ⟨y.1,0,none⟩) (QZ names).length 1 (sv (QZ names))::_) rfl rfl rfl (fun w hw=>(Q9U (hw.own 0 _ rfl) hnl).mono (fun e w' h=>⟨(),h.1,trivial,hw.row_rd rfl h.2.1 h.2.2⟩))) rfl (by decide) (fun _ _=>?_);refine yo zA<|yl ?_
 by_cases hdk:dk=4
 ·have HZ:=Lib.hid (show RES=(dns==QZ names) by rw[← HRS.out,Q5u rfl];simp only;rw[hdk];rfl);refine yn<|yq<|yr<|yo zF<|yo (zB 1)<|yo zet<|yo zM<|yo zF<|yo (zB 1)<|yo zM ?_;(refine Q1 (Qb rfl rfl (by decide) rfl rfl (fun w hw=>Q2f (((HRN.out.below (hw.k.below.mono hBW))).more (by have:=hw.k.size;omega)) (hw.own 0 _ rfl) hd2)) ?_);refine yo zY<|yo zA<|yl<|yn<|yt ?_;exact Q7 (by exact .inr rfl) rfl (.tmp rfl) (fun w hw=>⟨by rw[HZ.out],hw.k.below⟩)
 ·have HZ:=Lib.hid (show RES=false by rw[← HRS.out,Q5u rfl];simp only;rw[beq_eq_false_iff_ne.2 hdk];rfl);refine yn<|yq<|yr<|yo zF<|yo (zB 1)<|yo zef<|yo zM<|yo zS<|yo zS<|yo zS<|yo zS<|yo zN<|yo zA<|yl<|yn<|yt ?_;exact Q7 (by exact .inr rfl) rfl (.tmp rfl) (fun w hw=>⟨by rw[HZ.out],hw.k.below⟩)
end
end Go.Proofs.YtphkhfdmlcnoeaaGreatDoor
