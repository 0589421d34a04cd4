import Derived.Test.YtphkhfdmlcnoeaaGreatDoorP31
namespace Go.Proofs.YtphkhfdmlcnoeaaGreatDoor
set_option linter.unusedVariables false
set_option linter.unusedSimpArgs false
open Go.RowKit
section
variable {P:Program}{ops:Array Oper}{N:Nat}{E:Env}{o:Oper}{M:List Nat}{W:World}{O:List Qc}
theorem Qbs{t u e:TypeId}(hT:SlT P t e 1 1)(hu:P.underlying u=some .string)(hz0:(P.info? e).bind (·.zero)=some (.int .u8 0))(ty:TypeId)(w:World)(A:Option Addr)(n c:Nat)(xs:List Value)(hown:w.ownsRow 0 e 1 (.slice A n c) n xs)(s:ByteArray)(hb:n+s.size≤140737488355328):
  ∃A' c' w',(Builtin.append_ #[t,u] ty #[.slice A n c,.string s]).run P w=.ok (.slice A' (n+s.size) c') w'∧w'.ownsRow 0 e 1 (.slice A' (n+s.size) c') (n+s.size) (xs++Lib.strCells s)∧w.grownBy w' (Value.slice A n c).ownBlock∧(∀b,(Value.slice A' (n+s.size) c').ownBlock=some b→(Value.slice A n c).ownBlock=some b∨w.heap.size≤b):=by
 obtain⟨i,z,hi,hz,hs,hby,hzs⟩:=hT.info;rw[hi] at hz0;have hz1:i.zero=some (.int .u8 0):=hz0;have hmx:n+s.size≤maxLen:=Nat.le_trans hb (by decide);obtain⟨v',w',hrun,h2,h3,_⟩:=Lib.run_append_own_string (P:=P) (w:=w) 0 t u ty e i hT.und hu hi hz1 hs hby (.slice A n c) n xs hown s hmx hb (Nat.zero_le _)
 have hform:∃A' c',v'=.slice A' (n+s.size) c':=by
  rcases h2.2 with ⟨hv,h0⟩|⟨g,cap,cur,hv,_⟩
  ·exact⟨none,0,by rw[hv,h0]⟩
  ·exact⟨_,_,hv⟩
 obtain⟨A',c',rfl⟩:=hform;refine⟨A',c',w',hrun,h2,h3,fun b hb'=>?_⟩
 rcases hown.2 with ⟨hv,rfl⟩|⟨g,cap,cur,hv,_,hg,hnc,hcm,hcs,htk⟩
 ·simp only[Value.slice.injEq] at hv
  obtain⟨rfl,_,rfl⟩:=hv;have hx:xs=[]:=List.eq_nil_of_length_eq_zero (by simpa using hown.1);subst hx;obtain⟨v2,w2,hrun2,h22,_⟩:=Lib.run_append_own_string (P:=P) (w:=w) w.heap.size t u ty e i hT.und hu hi hz1 hs hby (.slice none 0 0) 0 [] (World.ownsRow_nil w _ _ _) s hmx hb (Nat.le_refl _);rw[hrun] at hrun2
  injection hrun2 with e1 e2
  subst e1;exact .inr (h22.lt b hb').1
 ·simp only[Value.slice.injEq] at hv
  obtain⟨rfl,_,rfl⟩:=hv
  by_cases hroom:n+s.size≤c
  ·left
   have hre:=Lib.run_append_room_string (P:=P) (w:=w) t u ty e i hT.und hu hi hs g n c cur hg s hroom (by rw[hcs];omega);rw[hrun] at hre
   injection hre with e1 e2
   rw[e1] at hb';exact hb'
  ·right
   have hre:=Lib.run_append_grow_string (P:=P) (w:=w) t u ty e i _ hT.und hu hi hz1 ⟨g,0,none⟩ n c xs (by rw[hs];exact hown.1) (hown.cells (g:=g) rfl) s (by omega) (by omega) (growslice_fits (by omega) (by rw[hby];omega));rw[hrun] at hre
   injection hre with e1 e2
   rw[e1] at hb'
   cases hb'
   exact Nat.le_refl _
theorem Q4o(i:Nat){t u e:TypeId}{s x:Operand}{A:Option Addr}{n c:Nat}{xs:List Value}{str:ByteArray}[hT:Sl P t e 1 1](hu:P.underlying u=some .string)(hz0:(P.info? e).bind (·.zero)=some (.int .u8 0))(ho:o.op=.call { callee:=.builtin .append,args:=#[s,x],argTypes:=#[t,u] })(hw:Qj ops E o=some true)(hs:ev E s=some (.slice A n c))(hx:ev E x=some (.string str))
  (hO:O[i]? =some (.row A n c e 1 xs)) (hbytes:n+str.size≤140737488355328):
  uE P ops N M W E O o (Option Addr×Nat) (fun q=>.slice q.1 (n+str.size) q.2) (fun q=>O.set i (.row q.1 (n+str.size) q.2 e 1 (xs++Lib.strCells str))) (fun q=>True):=
 KY hw fun ρ w ha hW=>by
  obtain⟨A',c',w',hrun,h2,h3,h4⟩:=Qbs (P:=P) hT.h hu hz0 o.type w A n c xs (hW.own i _ hO) str hbytes;refine⟨(A',c'),w',?_,trivial,hW.upd hO rfl rfl h3 h2 h4⟩
  unfold execOp
  simp only[ho,resolve,invoke,builtin,Sem.run_bind,Sem.run_pure,Result.andThen_ok,List.map_toArray,List.map_cons,List.map_nil,ha.eval hs,ha.eval hx,hrun]
theorem Qdl(i:Nat){t e:TypeId}{x:Operand}{b q n c m c2 bytes:Nat}{xs:List Value}{z:Value}[hT:Sl P t e 1 bytes](hz:∀w,(zeroValue e).run P w=.ok z w)(hz1:z.oneCell'=true)(hzc:z.cells=#[z])(ho:o.op=.call { callee:=.builtin .clear,args:=#[x],argTypes:=#[t] })(hw:Qj ops E o=some true)(hx:ev E x=some (.slice (some ⟨b,q,none⟩) m c2))(hO:O[i]? =some (.row (some ⟨b,0,none⟩) n c e 1 xs))(hm:0<m)(hq:q+m≤n):
  uE P ops N M W E O o Unit (fun _=>.tuple #[]) (fun _=>O.set i (.row (some ⟨b,0,none⟩) n c e 1 (ZD xs q (List.replicate m z)))) (fun _=>True):=
 KY hw fun ρ w ha hW=>by
  obtain⟨cur,hb,h2,h3,h4,h5⟩:=Q50 (hW.own i _ hO)
  have hcell:∀j,j<m→(w.cell? ⟨b,q+j,none⟩).isSome=true:=fun j hj=>by
   rw[cell_of_row w b (q+j) cur.toArray e (0,0) hb]
   simp
   omega
  have hrun:=Lib.run_clear_slice (P:=P) w t e o.type z hT.h.und hz hzc hz1 b q m c2 hm hcell (fun j hj=>by simp [World.frozen?,hb]);refine⟨(),w.setCells b q (List.replicate m z),?_,trivial,hW.upd hO rfl rfl (VJ b _ w q) (YU (Jb _ w q cur hb) h2 h3 (by rw[Xz];exact h4) (by rw[← h5,Q9L _ _ _ _ (by rw[List.length_replicate];omega)])) (fun b' hb'=>.inl hb')⟩
  unfold execOp
  simp only[ho,resolve,invoke,builtin,Sem.run_bind,Sem.run_pure,Result.andThen_ok,List.map_toArray,List.map_cons,List.map_nil,ha.eval hx,hrun]
end
def IsE(ns:List (List UInt8))(i:Int):Prop:=(i=-1∧∀s∈ns,s≠[])∨∃k:Nat,i=(k:Int)∧ns[k]? =some []∧∀s∈ns.take k,s≠[]
theorem Vh(s:ByteArray)(W:World):Calls Tryz.prog 112 ([Value.string s].toArray++#[]) W fun e w'=>e=.returned (.bool (s.data.toList==[]))∧Below W.heap.size W w':=Q72 s W
set_option maxRecDepth 100000 in
set_option maxHeartbeats 4000000 in
theorem Q3b{W:World}{A:Option Addr}{n c:Nat}{ns:List (List UInt8)}(hr:Rd W W.heap.size 1 A n (sv ns))(hn:n≤1048576):Calls Tryz.prog 146 #[.slice A n c,.func (.func 112) #[] #[]] W fun e w'=>∃i,e=.returned (.int .i64 i)∧IsE ns i∧Below W.heap.size W w':=by
 have HR:=Lib.hid hr
 have hl:ns.length=n:=by have:=hr.len;unfold sv at this;simpa using this
 clear hr
 go_enter Tryz.func146,Tryz.ntmps146
 refine QE (M:=[]) (W:=W) (N:=19) (E:=[(0,.slice A n c),(1,.func (.func 112) #[] #[])]) (O:=[]) ?_ (Ag.cons (Ag.cons (Ag.nil rfl rfl) rfl) rfl) (Wd.start [] W);refine yq<|yr<|yo zA<|yl<|yn<|yq<|yq<|yr<|yo zM<|yo zL<|yo zM<|yl<|yn<|yb ?_;refine Z8 (ι:=Nat) (fun k=>k≤n∧∀s∈ns.take k,s≠[]) (fun k=>n - k) (fun k=>[(0,.slice A n c),(1,.func (.func 112) #[] #[]),(7,.int .i64 (n:Int)),(8,.int .i64 (k:Int))]) (fun _=>[]) 0 ⟨Nat.zero_le _,by simp⟩ (.cons rfl rfl (.cons rfl rfl (.cons rfl rfl (.cons rfl rfl .nil)))) (fun w hw=>hw) ?_
 rintro k ⟨hk,hall⟩
 have HA:=Lib.hid hall;clear hall
 by_cases hkn:k<n
 ·obtain⟨b,o,s,rfl,hb,hs,hc⟩:=YW HR.out hkn;have HSS:=Lib.hid hs;clear hs
  by_cases hse:s.data.toList=[]
  ·have he:(s.data.toList==[])=true:=by rw[hse];rfl
   refine yq<|yr<|yo zlt<|yl<|yn<|yq<|y1<|ys<|yn<|yq<|yb<|yq<|yr<|yo zM<|yo zA<|yl<|yn<|yq<|yr<|yo zM<|yo zM<|yo zM<|yo (zi1 (hj:=hkn))<|yo (zG hc) ?_;refine Q1 (ZW rfl rfl (by decide) rfl rfl rfl (fun w hw=>Vh _ w)) ?_;rw[he];refine yl<|yn<|y1<|yq<|yr<|yo zM<|yo zA<|yl<|yn<|yt<|yk<|yc<|yc<|yk<|yc ?_;exact Q7 (by exact .inr rfl) rfl (.tmp rfl) (fun w hw=>⟨(k:Int),rfl,.inr ⟨k,rfl,by rw[HSS.out,hse],HA.out⟩,hw.k.below⟩)
  ·have he:(s.data.toList==[])=false:=beq_eq_false_iff_ne.2 hse;refine yq<|yr<|yo zlt<|yl<|yn<|yq<|y1<|ys<|yn<|yq<|yb<|yq<|yr<|yo zM<|yo zA<|yl<|yn<|yq<|yr<|yo zM<|yo zM<|yo zM<|yo (zi1 (hj:=hkn))<|yo (zG hc) ?_;refine Q1 (ZW rfl rfl (by decide) rfl rfl rfl (fun w hw=>Vh _ w)) ?_;rw[he];refine yl<|yn<|y0<|ys<|yn<|yr<|yo zP<|yo zM<|yl ?_;refine Xb (k+1) ⟨hkn,fun z hz=>?_⟩ (by omega) (.cons rfl rfl (.cons rfl rfl (.cons rfl rfl (.cons rfl (by go_num) .nil)))) (fun w hw=>hw);rw[List.take_add_one,HSS.out] at hz
   simp only[Option.toList_some,List.mem_append,List.mem_singleton] at hz
   rcases hz with hz|rfl
   ·exact HA.out z hz
   ·exact hse
 ·refine yq<|yr<|yo zlf<|yl<|yn<|yq<|y0<|ye<|yn<|yq<|yr<|yo zA<|yl<|yn<|yt ?_;refine Q7 (by exact .inr rfl) rfl (.tmp rfl) (fun w hw=>⟨-1,rfl,.inl ⟨rfl,?_⟩,hw.k.below⟩);have h3:ns.take k=ns:=List.take_of_length_le (by omega);have:=HA.out;rwa [h3] at this
def Qeu(b c:Nat)(ns:List (List UInt8))(W:World)(e:Ending)(w':World):Prop:=e=.returned (.slice (some ⟨b,0,none⟩) (QZ ns).length c)∧XJ [b] W w'∧Rd w' w'.heap.size 1 (some ⟨b,0,none⟩) (QZ ns).length (sv (QZ ns))
theorem Q4d{ns:List (List UInt8)}(h:∀s∈ns,s≠[]):QZ ns=ns:=by
 unfold QZ
 rw[List.filter_eq_self];intro s hs
 simpa using h s hs
theorem Q3w{ns:List (List UInt8)}{j:Nat}{s:List UInt8}(h:ns[j]? =some s):QZ (ns.take (j+1))=QZ (ns.take j)++if s=[] then [] else [s]:=by
 unfold QZ
 rw[List.take_add_one,h,List.filter_append]
 congr 1
 by_cases hs:s=[]
 ·rw[if_pos hs,hs];rfl
 ·rw[if_neg hs]
  simp [hs]
theorem QeU{l:List (List UInt8)}{j:Nat}{u:List UInt8}(h:l[j]? =some u):(sv l)[j]? =some (.string ⟨u.toArray⟩):=by
 unfold sv
 rw[List.getElem?_map,h]
 rfl
theorem Qen(l:List (List UInt8))(j:Nat)(u:List UInt8):(sv l).set j (.string ⟨u.toArray⟩)=sv (l.set j u):=by
 unfold sv
 rw[List.map_set]
theorem Qd7{A ns:List (List UInt8)}{j:Nat}(h:A.length≤j):(A++ns.drop A.length)[j]? =ns[j]?:=by
 rw[List.getElem?_append_right h,List.getElem?_drop]
 congr 1
 omega
theorem Qdz{A ns:List (List UInt8)}{s:List UInt8}(h:A.length<ns.length):(A++ns.drop A.length).set A.length s=A++[s]++ns.drop (A++[s]).length:=by
 rw[List.set_append_right _ _ (Nat.le_refl _),Nat.sub_self,List.drop_eq_getElem_cons h,List.set_cons_zero,List.length_append]
 simp
structure Dl where
 j:Nat
set_option maxRecDepth 100000 in
set_option maxHeartbeats 8000000 in
theorem Q9U{W:World}{b n c:Nat}{ns:List (List UInt8)}(h:(Qc.row (some ⟨b,0,none⟩) n c 9 1 (sv ns)).on W)(hn:n≤1048576):Calls Tryz.prog 110 #[.slice (some ⟨b,0,none⟩) n c,.func (.func 112) #[] #[]] W (Qeu b c ns W):=by
 have hl:ns.length=n:=by have:=h.1;rw[XB] at this;omega
 have hlt:b<W.heap.size:=h.lt (b:=b) rfl;have hwd:Wd [b] W [.row (some ⟨b,0,none⟩) n c 9 1 (sv ns)] W:=(Wd.start [b] W).add (y:=.row (some ⟨b,0,none⟩) n c 9 1 (sv ns)) h (fun q hq _=>by cases hq;exact List.mem_singleton.2 rfl) (by simp);have hnc:=Jt 0 hwd rfl;clear h
 go_enter Tryz.func110,Tryz.ntmps110
 refine QE (M:=[b]) (W:=W) (N:=42) (E:=[(0,.slice (some ⟨b,0,none⟩) n c),(1,.func (.func 112) #[] #[])]) (O:=[.row (some ⟨b,0,none⟩) n c 9 1 (sv ns)]) ?_ (Ag.cons (Ag.cons (Ag.nil rfl rfl) rfl) rfl) hwd;clear hwd;refine yq<|yr<|yo zA<|yl<|yn<|yq<|yr<|yo zM<|yo zM ?_;refine Qo (QM (fun i:Int=>.int .i64 i) (fun i=>IsE ns i) (fun _=>_) rfl rfl rfl (fun w hw=>(Q3b (Rd.of_own (hw.own 0 _ rfl)) hn).mono (fun e w' ⟨i,h1,h2,h3⟩=>⟨i,h1,h2,hw.on h3⟩))) rfl (by decide) (fun i hi=>?_);refine yo zA<|yl<|yn<|yq<|yq<|yr ?_
 rcases hi with ⟨rfl,hall⟩|⟨k,rfl,hk,hall⟩
 ·have HA:=Lib.hid (Q4d hall);clear hall;refine yo zM<|yo zet<|yl<|yn<|y1<|yq<|yr<|yo zM<|yo zA<|yl<|yn<|yt<|yc ?_;refine Q7 (by exact .inr rfl) rfl (.tmp rfl) (fun w hw=>⟨?_,hw.k,?_⟩)
  ·rw[HA.out,hl]
  ·rw[HA.out,hl];exact Rd.of_own (hw.own 0 _ rfl)
 ·have hkn:k<n:=by have:=(List.getElem?_eq_some_iff.1 hk).1;omega
  have hne:((k:Int)==-1)=false:=beq_eq_false_iff_ne.2 (by omega);have HK:=Lib.hid hk;have HA:=Lib.hid (Q4d hall);have HC:=Lib.hid (show QZ (ns.take (k+1))=ns.take k by rw[Q3w HK.out,if_pos rfl,List.append_nil,HA.out]);clear hall hk;refine yo zM<|yo zea<|yl<|yn<|y0<|ys<|yn<|yq<|yq<|yr<|yo zM<|yo zP<|yo zA<|yl<|yn<|yb ?_;refine Z8 (ι:=Dl) (fun y=>k<y.j∧y.j≤n∧(QZ (ns.take y.j)).length<y.j) (fun y=>n - y.j) (fun y=>[(0,.slice (some ⟨b,0,none⟩) n c),(1,.func (.func 112) #[] #[]),(5,.int .i64 ((QZ (ns.take y.j)).length:Int)),(6,.int .i64 (y.j:Int))]) (fun y=>[.row (some ⟨b,0,none⟩) n c 9 1 (sv (QZ (ns.take y.j)++ns.drop (QZ (ns.take y.j)).length))]) ⟨k+1⟩ ⟨Nat.lt_succ_self k,hkn,by show (QZ (ns.take (k+1))).length<k+1;rw[HC.out,List.length_take];omega⟩ (.cons rfl rfl (.cons rfl rfl (.cons rfl (by rw[HC.out,List.length_take,Nat.min_eq_left (by omega)]) (.cons rfl (by go_num) .nil)))) (fun w hw=>?_) ?_
  ·simp only
   rw[HC.out,List.length_take,Nat.min_eq_left (by omega),List.take_append_drop];exact hw
  rintro⟨j⟩ ⟨hkj,hjn,hij⟩
  replace hkj:k<j:=hkj
  replace hjn:j≤n:=hjn
  replace hij:(QZ (ns.take j)).length<j:=hij
  obtain⟨A,hA⟩:∃A,QZ (ns.take j)=A:=⟨_,rfl⟩;have HAA:=Lib.hid hA;rw[hA] at hij
  simp only[hA]
  clear hA
  by_cases hjlt:j<n
  ·obtain⟨s,hs⟩:∃s,ns[j]? =some s:=⟨_,List.getElem?_eq_getElem (by omega)⟩;have hcell:(sv (A++ns.drop A.length))[j]? =some (.string ⟨s.toArray⟩):=QeU (by rw[Qd7 (by omega)];exact hs);have HN:=Lib.hid (Q3w hs);clear hs
   by_cases hse:s=[]
   ·have he:((⟨s.toArray⟩:ByteArray).data.toList==[])=true:=by rw[hse];rfl
    have HM:=Lib.hid (show QZ (ns.take (j+1))=A by rw[HN.out,if_pos hse,List.append_nil,HAA.out]);refine yq<|yq<|yr<|yo zM<|yo zM<|yo zL<|yo zlt<|yl<|yn<|y1<|ys<|yn<|yq<|yb<|yq<|yr<|yo zM<|yo zM<|yo (zi1 (hj:=hjlt)) ?_;refine Q1 (QW rfl rfl (by decide) rfl rfl (fun w hw=>hw.cell_row 0 rfl (by rw[Nat.zero_add];exact hcell))) ?_;refine yo zA<|yl<|yn<|yq<|yr<|yo zM<|yo zM ?_;refine Q1 (ZW rfl rfl (by decide) rfl rfl rfl (fun w hw=>Vh _ w)) ?_;rw[he];refine yo zO<|yl<|yn<|y0<|ys<|yn<|yr<|yo zM<|yo zP<|yo zA<|yl ?_;refine Xb ⟨j+1⟩ ⟨by show k<j+1;omega,hjlt,by show (QZ (ns.take (j+1))).length<j+1;rw[HM.out];omega⟩ (by show n - (j+1)<n - j;omega) (.cons rfl rfl (.cons rfl rfl (.cons rfl (by rw[HM.out]) (.cons rfl (by go_num) .nil)))) (fun w hw=>?_)
    simp only
    rw[HM.out];exact hw
   ·have he:((⟨s.toArray⟩:ByteArray).data.toList==[])=false:=beq_eq_false_iff_ne.2 hse;have HM:=Lib.hid (show QZ (ns.take (j+1))=A++[s] by rw[HN.out,if_neg hse,HAA.out]);refine yq<|yq<|yr<|yo zM<|yo zM<|yo zL<|yo zlt<|yl<|yn<|y1<|ys<|yn<|yq<|yb<|yq<|yr<|yo zM<|yo zM<|yo (zi1 (hj:=hjlt)) ?_;refine Q1 (QW rfl rfl (by decide) rfl rfl (fun w hw=>hw.cell_row 0 rfl (by rw[Nat.zero_add];exact hcell))) ?_;refine yo zA<|yl<|yn<|yq<|yr<|yo zM<|yo zM ?_;refine Q1 (ZW rfl rfl (by decide) rfl rfl rfl (fun w hw=>Vh _ w)) ?_;rw[he];refine yo zO<|yl<|yn<|y1<|yq<|yr<|yo zM<|yo zM<|yo zM ?_;refine Q1 (QS rfl rfl (by decide) rfl rfl rfl (show A.length<n by omega)) ?_;refine QJ (Ji 0 rfl rfl rfl rfl rfl rfl (by omega)) rfl (fun _ _=>?_);refine yl<|yn<|yr<|yo zM<|yo zP<|yo zA<|yl<|yn<|yr<|yo zM<|yo zP<|yo zA<|yl ?_;refine Xb ⟨j+1⟩ ⟨by show k<j+1;omega,hjlt,by show (QZ (ns.take (j+1))).length<j+1;rw[HM.out,List.length_append];show A.length+1<j+1;omega⟩ (by show n - (j+1)<n - j;omega) (.cons rfl rfl (.cons rfl rfl (.cons rfl (by rw[HM.out,List.length_append];go_num) (.cons rfl (by go_num) .nil)))) (fun w hw=>?_)
    simp only
    rw[HM.out,← Qdz (by omega),← Qen];have h:=hw;rw[Nat.zero_add] at h;exact h
  ·have hjn':j=n:=by omega
   have HZ:=Lib.hid (show QZ ns=A by rw[← HAA.out,List.take_of_length_le (by omega)])
   have hc1:ZU (some ⟨b,0,none⟩) c A.length 1=some ⟨b,A.length,none⟩:=by
    unfold ZU
    rw[if_neg (by omega)]
    simp [Addr.add_mid]
   have hc0:ZU (some ⟨b,0,none⟩) c 0 1=some ⟨b,0,none⟩:=by
    unfold ZU
    rw[if_neg (by omega)]
    simp [Addr.add_mid]
   refine yq<|yq<|yr<|yo zM<|yo zM<|yo zL<|yo zlf<|yl<|yn<|y0<|ye<|yn<|yq<|yr<|yo zM<|yo zM ?_;refine Q1 (Yu (l:=A.length) rfl rfl (by decide) rfl rfl rfl (by omega)) ?_;rw[hc1];refine QJ (Qdl 0 (z:=.string ⟨#[]⟩) (fun w=>by kernel_rfl) rfl rfl rfl rfl rfl rfl (by omega) (by omega)) rfl (fun _ _=>?_);refine yl<|yn<|yq<|yr<|yo zM<|yo zM ?_;refine Q1 (Yn (h:=A.length) rfl rfl (by decide) rfl rfl rfl (by omega)) ?_;rw[hc0];refine yo zA<|yl<|yn<|yt ?_;refine Q7 (by exact .inr rfl) rfl (.tmp rfl) (fun w hw=>⟨by rw[HZ.out],hw.k,?_⟩);rw[HZ.out];have h:=(Rd.of_own (hw.own 0 _ rfl)).take (m:=A.length) (by omega)
   have e:(ZD (sv (A++ns.drop A.length)) A.length (List.replicate (n - A.length) (.string ⟨#[]⟩))).take (A.length*1)=sv A:=by
    refine List.ext_getElem? fun q=>?_
    rw[List.getElem?_take]
    split
    ·rw[VL,if_neg (by omega)]
     unfold sv
     rw[List.getElem?_map,List.getElem?_map,List.getElem?_append_left (by omega)]
    ·rw[List.getElem?_eq_none (by rw[XB];omega)]
   rw[e] at h;exact h
theorem Q7e(n:Int):IntKind.u8.wrap n=((UInt8.ofNat (n % 256).toNat).toNat:Int):=by
 have h:IntKind.u8.wrap n=n % 256:=rfl;have h0:=Int.emod_nonneg n (show (256:Int)≠0 by decide);have h1:=Int.emod_lt_of_pos n (show (0:Int)<256 by decide);rw[h,UInt8.toNat_ofNat_of_lt' (by show (n % 256).toNat<256;omega)]
 omega
theorem Q5z:∀(m:Nat) (n:Int) (k:Nat),0≤n→k<m→(leW m n)[k]? =some (UInt8.ofNat (n / 2 ^ (8*k) % 256).toNat)
 |0,_,_,_,h=>absurd h (Nat.not_lt_zero _)
 |m+1,n,0,h0,_=>by simp [leW]
 |m+1,n,k+1,h0,h=>by
  rw[leW,List.getElem?_cons_succ,Q5z m (n / 256) k (Int.ediv_nonneg h0 (by decide)) (by omega),Int.ediv_ediv_of_nonneg (by decide:(0:Int)≤256)];rw[show (256:Int)*2 ^ (8*k)=2 ^ (8*(k+1)) by rw[show 8*(k+1)=8+8*k by omega,Int.pow_add];rfl]
theorem Q7B{big:Bool}{m:Nat}{n:Int}{i:Nat}(h0:0≤n)(hi:i<m):(JX big m n)[i]? =some (UInt8.ofNat (n / 2 ^ (8*(if big then m - 1 - i else i)) % 256).toNat):=by
 unfold JX
 cases big with
 |false=>exact Q5z m n i h0 hi
 |true=>
  show (leW m n).reverse[i]? =_
  rw[List.getElem?_reverse (by rw[Q1r];exact hi),Q1r];exact Q5z m n (m - 1 - i) h0 (by omega)
theorem Q4e{α:Type}{l:List α}{i:Nat}{x:α}(h:l[i]? =some x):l.take (i+1)=l.take i++[x]:=by rw[List.take_add_one,h];rfl
theorem Kx{r:Rl}(h:J6 r){n:Int}(hc:Ju r n=true):(VN r n).length≤30:=by
 obtain⟨h1,h2⟩:=Q12.1 hc
 unfold VN
 split
 ·next h3=>
  have a:=h.dec h3;have b:=h.mn3 h3;have:=Lib.itoa_length_le n (by omega) (by omega);rw[List.length_append]
  simp
  omega
 ·next h3=>
  have a:=h.num (h.kind.resolve_right h3);rw[Q0c]
  omega
theorem Qch{z:Wz}{B g c n:Nat}{F:List Rl}{W w:World}{A A':Option Addr}{xs b:List UInt8}{O:List Qc}{c':Nat}(i j:Nat)(h:XI W z B g F A c xs n)(hw:Wd (wM g A xs.length c) W O w)(hO:O[i]? =some (.blk g (z.obj A' (xs++b).length c' n)))(hP:O[j]? =some (YT A' c' (xs++b)))(hb:b.length≤30):WrE z g W A c xs (.ok (b,n)) n 30 (.returned (.tuple #[])) w:=
 JB h i j hw hO hP rfl hb (by omega)
set_option maxRecDepth 100000 in
set_option maxHeartbeats 16000000 in
theorem YK{z:Wz}{B g c n:Nat}{F:List Rl}{W:World}{A:Option Addr}{xs:List UInt8}(h:XI W z B g F A c xs n){r:Rl}{sb sn sp:Value}(hr:J6 r){x:Int}(hx:Ju r x=true)(hl:xs.length≤1099511627776):
  Calls Tryz.prog 84 #[.pointer (some ⟨g,0,none⟩),.agg (ruC r sb sn sp).toArray,.int .i64 x] W (WrE z g W A c xs (.ok (VN r x,n)) n 30):=by
 have H:=Lib.hid h;have hwd:=h.wd;have hkind:=hr.kind;have hdec:=hr.dec;have hmn3:=hr.mn3;have hnum:=hr.num;have hlen:=Kx hr hx;obtain⟨hx1,hx2⟩:=Q12.1 hx;obtain⟨uy,hys⟩:∃uy,VN r x=uy:=⟨_,rfl⟩;rw[hys] at hlen ⊢;have HYS:=Lib.hid hys;clear h hr hx hys;obtain⟨name,kind,bs,size,big,mn,mx,stop,count,elem,names,parts⟩:=r;obtain⟨Af,nn,cf⟩:=z
 simp only at hkind hdec hmn3 hnum hx1 hx2
 simp only[ruC]
 go_enter Tryz.func84,Tryz.ntmps84
 refine QE (M:=wM g A xs.length c) (W:=W) (N:=55) (E:=[(0,.pointer (some ⟨g,0,none⟩)),(1,.agg [.string ⟨name.toArray⟩,.int .i64 kind,sb,.int .i64 size,.bool big,.int .i64 mn,.int .i64 mx,.int .i64 stop,.int .i64 count,.int .i64 elem,sn,sp].toArray),(2,.int .i64 x)]) (O:=[.blk g (.cells ([.slice Af nn cf,.slice A xs.length c,.int .i64 (n:Int)]:List Value).toArray 77 (0,0)),.row A xs.length c 5 1 (bv xs)]) ?_ (Ag.cons (Ag.cons (Ag.cons (Ag.nil rfl rfl) rfl) rfl) rfl) hwd;clear hwd
 by_cases h3:kind=3
 ·subst h3;have hd:=hdec rfl;have hm0:=hmn3 rfl;obtain⟨sB,hsB⟩:∃b:UInt8,UInt8.ofNat (stop % 256).toNat=b:=⟨_,rfl⟩
  have hcv:IntKind.u8.wrap stop=(sB.toNat:Int):=by rw[Q7e,hsB]
  obtain⟨it,hit⟩:∃it,Lib.itoa x=it:=⟨_,rfl⟩;have HY:=Lib.hid (show uy=it++[sB] by rw[← HYS.out];unfold VN Zk;rw[if_pos rfl,hit,hsB])
  have hil:it.length≤25:=by rw[← hit];have:=Lib.itoa_length_le x (by omega) (by omega);omega
  have HG:=Lib.hid H.out.row
  have hsz:(⟨it.toArray⟩:ByteArray).size=it.length:=by simp [ByteArray.size]
  have hl1:xs.length+(⟨it.toArray⟩:ByteArray).size=(xs++it).length:=by rw[hsz,List.length_append]
  have hb1:bv xs++Lib.strCells ⟨it.toArray⟩=bv (xs++it):=by unfold bv;rw[List.map_append];rfl
  have hl2:(xs++it).length+1=(xs++uy).length:=by rw[HY.out,List.length_append,List.length_append,List.length_append];rfl
  have hb2:bv (xs++it)++[.int .u8 (sB.toNat:Int)]=bv (xs++uy):=by rw[HY.out];unfold bv;simp
  have hbnd:(xs++it).length≤1099511627876:=by rw[List.length_append];omega
  have HIT:=Lib.hid hit;clear hit hsz;refine yq<|yr ?_;refine yB fun b4=>?_;refine yl<|yn<|yq<|yq<|yr<|yo zF<|yo (zB 0)<|yo zet<|yl<|yn<|y1<|yq ?_;refine XQ [.blk b4 (.cells ([.string ⟨name.toArray⟩,.int .i64 3,sb,.int .i64 size,.bool big,.int .i64 mn,.int .i64 mx,.int .i64 stop,.int .i64 count,.int .i64 elem,sn,sp]:List Value).toArray 65 (0,0)),.blk g (.cells ([.slice Af nn cf,.slice A xs.length c,.int .i64 (n:Int)]:List Value).toArray 77 (0,0))] [15] (by kernel_rfl) ?_;refine Qe 0 rfl (by kernel_rfl) (Q2.sel [0,1] (by decide) rfl) zM ?_;refine Qe 1 rfl (by kernel_rfl) (Q2.sel [0,1] (by decide) rfl) zM ?_;refine Qe 2 rfl (by kernel_rfl) (Q2.sel [0,1] (by decide) rfl) (Qp rfl rfl (by decide) rfl rfl) ?_;refine Qe 3 rfl (by kernel_rfl) (Q2.sel [0,1] (by decide) rfl) zF ?_;refine Qe 4 rfl (by kernel_rfl) (Q2.sel [0,1] (by decide) rfl) (zB 1) ?_;refine Qe 5 rfl (by kernel_rfl) (Q2.sel [0,1] (by decide) rfl) zM ?_;refine Qe 6 rfl (by kernel_rfl) (Q2.sel [0,1] (by decide) rfl) (Qb (f:=114) rfl rfl (by decide) rfl rfl (fun w hw=>VG (H.out.gv w (H.out.below hw.k)) (by omega) (by omega))) ?_;rw[HIT.out];refine Qe 8 rfl (by kernel_rfl) (Q2.sel [0,1] (by decide) rfl) zF ?_;refine Qe 9 rfl (by kernel_rfl) (Q2.sel [0,1] (by decide) rfl) (zB 0) ?_;refine Qe 10 rfl (by kernel_rfl) (Q2.sel [0,1] (by decide) rfl) (XE rfl rfl (by decide) rfl rfl (by rw[Tryz.underlying3];rfl) Tryz.underlying5 hcv) ?_;refine VQ 7 11 (by kernel_rfl) (Xn rfl rfl (Q4o 2 Tryz.underlying9 (by kernel_rfl) rfl rfl rfl rfl rfl (by omega)) (fun _=>.inr (Q2.sel [0,1] (by decide) rfl)) rfl (by decide) (fun z1 _=>?_)) (Xn rfl rfl (XF rfl rfl rfl rfl rfl (by simp)) (fun _=>.inr (Q2.sel [1,2] (by decide) rfl)) rfl (by decide) (fun bn _=>?_))
  ·rw[hl1,hb1];refine QC 11 (by kernel_rfl) rfl rfl (XF rfl rfl rfl rfl rfl (by simp)) (fun _=>.inr (Q2.sel [1,2] (by decide) rfl)) rfl (by decide) (fun bn _=>?_);refine QC 12 (by kernel_rfl) rfl rfl (X9 3 rfl rfl rfl rfl rfl (fun w hw=>hw.rd_blk 0 rfl rfl) (by simp [Value.oneCell']) (by omega)) (fun _=>.inr (Q2.sel [1,2] (by decide) rfl)) rfl (by decide) (fun z2 _=>?_);rw[hl2,hb2];refine Qe 13 rfl (by kernel_rfl) (Q2.sel [1,2] (by decide) rfl) (Qp rfl rfl (by decide) rfl rfl) ?_;refine Qe 14 rfl (by kernel_rfl) (Q2.sel [1,2] (by decide) rfl) zF ?_;refine Qu 15 (by kernel_rfl) rfl rfl (X0 2 rfl rfl rfl rfl rfl rfl rfl) (fun _=>.inl (by decide)) rfl (fun _ _=>?_);refine Xh ?_ (by kernel_rfl);refine yn<|yt<|yc ?_;exact XT (by exact .inr rfl) rfl (fun w hw=>Qch 2 3 H.out hw rfl rfl hlen)
  ·refine QC 7 (by kernel_rfl) rfl rfl (Q4o 3 Tryz.underlying9 (by kernel_rfl) rfl rfl rfl rfl rfl (by omega)) (fun _=>.inr (Q2.sel [1,2] (by decide) rfl)) rfl (by decide) (fun z1 _=>?_);rw[hl1,hb1];refine QC 12 (by kernel_rfl) rfl rfl (X9 3 rfl rfl rfl rfl rfl (fun w hw=>hw.rd_blk 0 rfl rfl) (by simp [Value.oneCell']) (by omega)) (fun _=>.inr (Q2.sel [1,2] (by decide) rfl)) rfl (by decide) (fun z2 _=>?_);rw[hl2,hb2];refine Qe 13 rfl (by kernel_rfl) (Q2.sel [1,2] (by decide) rfl) (Qp rfl rfl (by decide) rfl rfl) ?_;refine Qe 14 rfl (by kernel_rfl) (Q2.sel [1,2] (by decide) rfl) zF ?_;refine Qu 15 (by kernel_rfl) rfl rfl (X0 2 rfl rfl rfl rfl rfl rfl rfl) (fun _=>.inl (by decide)) rfl (fun _ _=>?_);refine Xh ?_ (by kernel_rfl);refine yn<|yt<|yc ?_;exact XT (by exact .inr rfl) rfl (fun w hw=>Qch 2 3 H.out hw rfl rfl hlen)
 ·have h2:kind=2:=hkind.resolve_right h3;subst h2;obtain⟨hs1,hs4,hm0,hmm,hmx⟩:=hnum rfl;obtain⟨sz,rfl⟩:∃sz:Nat,size=(sz:Int):=⟨size.toNat,by omega⟩
  have hx0:0≤x:=by omega
  have HY:=Lib.hid (show uy=JX big sz x by rw[← HYS.out];unfold VN;rw[if_neg (show ¬(2:Int)=3 by decide)];rfl)
  have hyl:uy.length=sz:=by rw[HY.out,Q0c]
  have hne3:((2:Int)==3)=false:=rfl;clear hdec hnum hkind hmn3;refine yq<|yr ?_;refine yB fun b4=>?_;refine yl<|yn<|yq<|yq<|yr<|yo zF<|yo (zB 0)<|yo zea<|yl<|yn<|y0<|ys<|yn<|yq<|yr<|yo zF<|yo (zB 0)<|yo zM<|yl<|yn<|yb ?_;refine Z8 (ι:=Nat×Option Addr×Nat) (fun y=>y.1≤sz) (fun y=>sz - y.1) (fun y=>[(0,.pointer (some ⟨g,0,none⟩)),(2,.int .i64 x),(4,.pointer (some ⟨b4,0,none⟩)),(27,.int .i64 (sz:Int)),(28,.int .i64 (y.1:Int))]) (fun y=>[.blk b4 (.cells ([.string ⟨name.toArray⟩,.int .i64 2,sb,.int .i64 (sz:Int),.bool big,.int .i64 mn,.int .i64 mx,.int .i64 stop,.int .i64 count,.int .i64 elem,sn,sp]:List Value).toArray 65 (0,0)),.blk g (.cells ([.slice Af nn cf,.slice y.2.1 (xs++uy.take y.1).length y.2.2,.int .i64 (n:Int)]:List Value).toArray 77 (0,0)),.row y.2.1 (xs++uy.take y.1).length y.2.2 5 1 (bv (xs++uy.take y.1))]) (0,A,c) (Nat.zero_le _) (.cons rfl rfl (.cons rfl rfl (.cons rfl rfl (.cons rfl rfl (.cons rfl rfl .nil))))) (fun w hw=>?_) ?_
  ·simp only[List.take_zero,List.append_nil]
   exact hw
  rintro⟨i,Ai,ci⟩ hi
  replace hi:i≤sz:=hi
  show sE _ _ _ _ _ [(0,.pointer (some ⟨g,0,none⟩)),(2,.int .i64 x),(4,.pointer (some ⟨b4,0,none⟩)),(27,.int .i64 (sz:Int)),(28,.int .i64 (i:Int))] [.blk b4 (.cells ([.string ⟨name.toArray⟩,.int .i64 2,sb,.int .i64 (sz:Int),.bool big,.int .i64 mn,.int .i64 mx,.int .i64 stop,.int .i64 count,.int .i64 elem,sn,sp]:List Value).toArray 65 (0,0)),.blk g (.cells ([.slice Af nn cf,.slice Ai (xs++uy.take i).length ci,.int .i64 (n:Int)]:List Value).toArray 77 (0,0)),.row Ai (xs++uy.take i).length ci 5 1 (bv (xs++uy.take i))] _
  by_cases hlt:i<sz
  ·obtain⟨k,hk⟩:∃k,(if big then sz - 1 - i else i)=k:=⟨_,rfl⟩
   have hk4:k<4:=by rw[← hk];split<;>omega
   obtain⟨cB,hcB⟩:∃b:UInt8,UInt8.ofNat (x / 2 ^ (8*k) % 256).toNat=b:=⟨_,rfl⟩
   have hcv:IntKind.u8.wrap (x / 2 ^ (8*(k:Int)).toNat)=(cB.toNat:Int):=by rw[Q7e,← hcB];rw[show (8*(k:Int)).toNat=8*k by omega]
   have hy:uy[i]? =some cB:=by rw[HY.out,Q7B hx0 hlt,hk,hcB]
   have hl1:(xs++uy.take i).length+1=(xs++uy.take (i+1)).length:=by rw[Q4e hy,List.length_append,List.length_append,List.length_append];rfl
   have hb1:bv (xs++uy.take i)++[.int .u8 (cB.toNat:Int)]=bv (xs++uy.take (i+1)):=by rw[Q4e hy];unfold bv;simp
   have hbnd:(xs++uy.take i).length≤1099511627876:=by rw[List.length_append,List.length_take];omega
   clear hcB hy
   cases big with
   |true=>
    have hk':sz - 1 - i=k:=hk
    have e1:(sz:Int) - 1 - (i:Int)=(k:Int):=by omega
    refine yq<|yr<|yo zlt<|yl<|yn<|yq<|y1<|ys<|yn<|yq<|yb<|yq<|yr<|yo zM<|yo zA<|yl<|yn<|yq<|yr<|yo zM ?_;refine Q1 (Kw (k:=.i64) rfl rfl (by decide) rfl rfl rfl (IntWalk.i64_in _ (by omega))) ?_;refine yo zA<|yl<|yn<|yq<|yq<|yr<|yo zF<|yo (zB 0)<|yl<|yn<|y1<|yr<|yo zF<|yo (zB 0)<|yo zQ<|yo zM<|yo zQ ?_;refine Q1 (Kw (k:=.i64) rfl rfl (by decide) rfl rfl rfl (IntWalk.i64_in _ (by omega))) ?_;refine yo zA<|yl<|yn ?_;rw[e1];refine XQ [.blk g (.cells ([.slice Af nn cf,.slice Ai (xs++uy.take i).length ci,.int .i64 (n:Int)]:List Value).toArray 77 (0,0))] [13] (by kernel_rfl) ?_;refine Qe 0 rfl (by kernel_rfl) (Q2.sel [1] (by decide) rfl) zM ?_;refine Qe 1 rfl (by kernel_rfl) (Q2.sel [1] (by decide) rfl) zM ?_;refine Qe 2 rfl (by kernel_rfl) (Q2.sel [1] (by decide) rfl) (Qp rfl rfl (by decide) rfl rfl) ?_;refine Qe 3 rfl (by kernel_rfl) (Q2.sel [1] (by decide) rfl) zF ?_;refine Qe 4 rfl (by kernel_rfl) (Q2.sel [1] (by decide) rfl) (zB 0) ?_;refine Qe 5 rfl (by kernel_rfl) (Q2.sel [1] (by decide) rfl) zM ?_;refine Qe 6 rfl (by kernel_rfl) (Q2.sel [1] (by decide) rfl) zM ?_;refine Qe 7 rfl (by kernel_rfl) (Q2.sel [1] (by decide) rfl) (Q9o rfl rfl (by decide) rfl rfl rfl (by omega) (by omega)) ?_;refine Qe 8 rfl (by kernel_rfl) (Q2.sel [1] (by decide) rfl) (XE rfl rfl (by decide) rfl rfl (by rw[Tryz.underlying3];rfl) Tryz.underlying5 hcv) ?_;refine QC 9 (by kernel_rfl) rfl rfl (XF rfl rfl rfl rfl rfl (by simp)) (fun _=>.inr (Q2.sel [2] (by decide) rfl)) rfl (by decide) (fun bn _=>?_);refine QC 10 (by kernel_rfl) rfl rfl (X9 3 rfl rfl rfl rfl rfl (fun w hw=>hw.rd_blk 0 rfl rfl) (by simp [Value.oneCell']) (by omega)) (fun _=>.inr (Q2.sel [2] (by decide) rfl)) rfl (by decide) (fun z2 _=>?_);rw[hl1,hb1];refine Qe 11 rfl (by kernel_rfl) (Q2.sel [2] (by decide) rfl) (Qp rfl rfl (by decide) rfl rfl) ?_;refine Qe 12 rfl (by kernel_rfl) (Q2.sel [2] (by decide) rfl) zF ?_;refine Qu 13 (by kernel_rfl) rfl rfl (X0 2 rfl rfl rfl rfl rfl rfl rfl) (fun _=>.inl (by decide)) rfl (fun _ _=>?_);refine Xh ?_ (by kernel_rfl);refine yn<|yr<|yo zP<|yo zM<|yl ?_;exact Xb (i+1,z2.1,z2.2) hlt (by show sz - (i+1)<sz - i;omega) (.cons rfl rfl (.cons rfl rfl (.cons rfl rfl (.cons rfl rfl (.cons rfl (by go_num) .nil))))) (fun w hw=>hw.tl)
   |false=>
    have hk':i=k:=hk;subst hk';refine yq<|yr<|yo zlt<|yl<|yn<|yq<|y1<|ys<|yn<|yq<|yb<|yq<|yr<|yo zM<|yo zA<|yl<|yn<|yq<|yr<|yo zM ?_;refine Q1 (Kw (k:=.i64) rfl rfl (by decide) rfl rfl rfl (IntWalk.i64_in _ (by omega))) ?_;refine yo zA<|yl<|yn<|yq<|yq<|yr<|yo zF<|yo (zB 0)<|yl<|yn<|y0<|ys<|yn ?_;refine XQ [.blk g (.cells ([.slice Af nn cf,.slice Ai (xs++uy.take i).length ci,.int .i64 (n:Int)]:List Value).toArray 77 (0,0))] [13] (by kernel_rfl) ?_;refine Qe 0 rfl (by kernel_rfl) (Q2.sel [1] (by decide) rfl) zM ?_;refine Qe 1 rfl (by kernel_rfl) (Q2.sel [1] (by decide) rfl) zM ?_;refine Qe 2 rfl (by kernel_rfl) (Q2.sel [1] (by decide) rfl) (Qp rfl rfl (by decide) rfl rfl) ?_;refine Qe 3 rfl (by kernel_rfl) (Q2.sel [1] (by decide) rfl) zF ?_;refine Qe 4 rfl (by kernel_rfl) (Q2.sel [1] (by decide) rfl) (zB 0) ?_;refine Qe 5 rfl (by kernel_rfl) (Q2.sel [1] (by decide) rfl) zM ?_;refine Qe 6 rfl (by kernel_rfl) (Q2.sel [1] (by decide) rfl) zM ?_;refine Qe 7 rfl (by kernel_rfl) (Q2.sel [1] (by decide) rfl) (Q9o rfl rfl (by decide) rfl rfl rfl (by omega) (by omega)) ?_;refine Qe 8 rfl (by kernel_rfl) (Q2.sel [1] (by decide) rfl) (XE rfl rfl (by decide) rfl rfl (by rw[Tryz.underlying3];rfl) Tryz.underlying5 hcv) ?_;refine QC 9 (by kernel_rfl) rfl rfl (XF rfl rfl rfl rfl rfl (by simp)) (fun _=>.inr (Q2.sel [2] (by decide) rfl)) rfl (by decide) (fun bn _=>?_);refine QC 10 (by kernel_rfl) rfl rfl (X9 3 rfl rfl rfl rfl rfl (fun w hw=>hw.rd_blk 0 rfl rfl) (by simp [Value.oneCell']) (by omega)) (fun _=>.inr (Q2.sel [2] (by decide) rfl)) rfl (by decide) (fun z2 _=>?_);rw[hl1,hb1];refine Qe 11 rfl (by kernel_rfl) (Q2.sel [2] (by decide) rfl) (Qp rfl rfl (by decide) rfl rfl) ?_;refine Qe 12 rfl (by kernel_rfl) (Q2.sel [2] (by decide) rfl) zF ?_;refine Qu 13 (by kernel_rfl) rfl rfl (X0 2 rfl rfl rfl rfl rfl rfl rfl) (fun _=>.inl (by decide)) rfl (fun _ _=>?_);refine Xh ?_ (by kernel_rfl);refine yn<|yr<|yo zP<|yo zM<|yl ?_;exact Xb (i+1,z2.1,z2.2) hlt (by show sz - (i+1)<sz - i;omega) (.cons rfl rfl (.cons rfl rfl (.cons rfl rfl (.cons rfl rfl (.cons rfl (by go_num) .nil))))) (fun w hw=>hw.tl)
  ·have hie:uy.take i=uy:=List.take_of_length_le (by omega);refine yq<|yr<|yo zlf<|yl<|yn<|yq<|y0<|ye<|yx<|yx<|yu ?_;refine XT (by exact .inl rfl) rfl (fun w hw=>?_);rw[hie] at hw;exact Qch 1 2 H.out hw rfl rfl hlen
def VF.cnt:VF→Nat
 |.nil=>0
 |.cons _ p r=>p.cnt+r.cnt+1
theorem Q7b(F:VF):∀(num lev m:Nat),XP F num lev=.inr m→m=num+F.cnt:=by
 induction F with
 |nil=>intro num lev m h;injection h with h;simp [VF.cnt];omega
 |cons d p r ih1 ih2=>
  intro num lev m h
  by_cases h1:600≤num∨10<lev
  ·rw[JC h1] at h;cases h
  ·by_cases h2:Xi d p.len≠0
   ·rw[JF h1 h2] at h;cases h
   ·cases hp:XP p (num+1) (lev+1) with
    |inl f=>rw[VO h1 h2 hp] at h;cases h
    |inr k=>
     rw[Vq h1 h2 hp] at h;have a:=ih1 _ _ _ hp;have b:=ih2 _ _ _ h
     simp only[VF.cnt]
     omega
theorem Q6I{x:List UInt8}(h:x.length≤1048576):(Vs x).length≤1048586:=by have:=Q1O x (by omega);omega
theorem Q42{d:Nd}{np:Nat}{body:List UInt8}(hd:ZJ d)(hn:np≤1048576):(Q08 d np body).length≤1048600+body.length:=by
 obtain⟨⟨h1,h2,h3,h4⟩,h5,_,_⟩:=hd;have a:=ZV d.k h1 h2;have b:=ZV d.n h3 h4;have c:=Q6I h5;have e:=ZV (np:Int) (by omega) (by omega)
 unfold Q08
 rw[List.length_append]
 split
 ·omega
 split
 ·omega
 ·rw[List.length_append];omega
theorem QdA(F:VF):∀(rc:Bool) (ns:List (List UInt8)),Zq F→(∀x∈ns,x.length≤1048576)→(Z1 F rc ns).length≤F.cnt*2100000:=by
 induction F with
 |nil=>intro rc ns _ _;simp [Z1]
 |cons d p r ih1 ih2=>
  intro rc ns hf hn;obtain⟨hd,hl,hp,hr⟩:=hf;have a:=Q42 (body:=Z1 p (d.k==4) d.ns) hd hl;have b:=ih1 (d.k==4) d.ns hp hd.2.2.2;have c:=ih2 rc ns.tail hr (fun x hx=>hn x (List.mem_of_mem_tail hx))
  have e:(if rc then Vs (ns.headD []) else []).length≤1048586:=by
   split
   ·refine Q6I ?_
    cases ns with
    |nil=>simp
    |cons x l=>exact hn x List.mem_cons_self
   ·simp
  simp only[Z1,VF.cnt,List.length_append]
  omega
theorem Sz.mod{d:Nd}{l:VF}(h:Sz d l){m:Nat}(hc:XP (.cons d l .nil) 0 1=.inr m):Mod d l:=by
 refine⟨h.1,h.2.1,h.2.2,?_⟩;have a:=Q1C _ _ _ _ hc;have b:=Q7b _ _ _ _ hc;have c:=Q42 (body:=Z1 l (d.k==4) d.ns) h.1 h.2.2;have e:=QdA l (d.k==4) d.ns h.2.1 h.1.2.2.2
 simp only[VF.cnt] at b
 have g:l.cnt≤600:=by have:=a.2 (by omega);omega
 have k:l.cnt*2100000≤600*2100000:=Nat.mul_le_mul_right _ g
 unfold Zb
 omega
set_option maxRecDepth 100000 in
set_option maxHeartbeats 1000000 in
theorem Q7h{d:Nd}{p:VF}{w:World}{v:Value}{f:Int×Int}(hm:Sz d p)(hf:XP (.cons d p .nil) 0 1=.inl f)(hv:VIn w w.heap.size v d p):Calls Tryz.prog 69 #[v] w (QdR w d p):=by
 have HV:=Lib.hid hv;have HM:=Lib.hid hm;obtain⟨sb,sn,sp,rfl,Ab,nb,cb,An,nn,cn,Ap,cp,rfl,rfl,rfl,hbc,hnc,hpc,hpm,hrb,hrn,hp⟩:=hv;clear hrb hrn hp hm
 go_enter Tryz.func69,Tryz.ntmps69
 go_wp2_with fail
 refine(Q0O (num:=0) (lev:=1) HM.out.1 HM.out.2.1 HM.out.2.2 (HV.out.on (ZZ _ _ _)) (by omega) (by omega)).mono ?_
 rintro e w2 ⟨hb2,hres⟩
 have F1:=(FC.new (w.alloc (.cells #[.int .i64 d.k,.int .i64 d.n,.slice Ab nb cb,.slice An nn cn,.slice Ap p.len cp] 30)) 0 0).on hb2
 simp only[Q4] at F1
 have HBX:=Lib.hid (show VK w2 w.heap.size 0 d (.slice Ab nb cb) (.slice An nn cn) (.slice Ap p.len cp) from by
  have hk:∀o,w2.cell? ⟨w.heap.size,o,none⟩=_:=fun o=>hb2.cell (by simp only[Q4];omega)
  exact⟨(hk 0).trans (Qh (by simp)),(hk 1).trans (Qh (by simp)),(hk 2).trans (Qh (by simp)),(hk 3).trans (Qh (by simp)),(hk 4).trans (Qh (by simp))⟩)
 have HB2:=Lib.hid (show Below w.heap.size w w2 from Qz (ZZ _ _ _) hb2);have HF1:=Lib.hid F1;have hz2:w.heap.size+1<w2.heap.size:=F1.1;clear hb2 F1
 rcases hres with ⟨c,ix,hr,rfl⟩|⟨m,hr,rfl⟩
 ·have hc:=Vn _ _ _ _ _ hr
  have hc0:(c==0)=false:=by simpa using hc
  have hneq:=Q0K c ix 0 0;have HF:=Lib.hid (Q6f hr);have HC:=Lib.hid hc;have P2:=HF1.out.alloc (.cells #[.int .i64 c,.int .i64 ix] 32);have P1:=FC.new w2 c ix;have PB:=Kz HB2.out (.cells #[.int .i64 c,.int .i64 ix] 32);clear hr hc
  go_wp2_with fail
  obtain⟨W4,hW4⟩:∃W4,w2.alloc (.cells #[.int .i64 c,.int .i64 ix] 32)=W4:=⟨_,rfl⟩;rw[hW4] at P1 P2 PB ⊢;have HPB:=Lib.hid PB;clear hW4 PB;obtain⟨z3,a0,a1,g0,g1⟩:=P1;obtain⟨z4,r0,r1,e0,e1⟩:=P2
  go_region
  go_wp2_with fail
  refine bodyPost_ret (v:=.tuple #[.slice none 0 0,.agg #[.int .i64 c,.int .i64 ix]]) (by simp [results,Tryz.results69,go_sem,r0,r1,z4]) rfl ?_;exact⟨(Zo HPB.out (by omega) _ _).drew,.inl ⟨c,ix,HC.out,HF.out,rfl⟩⟩
 ·rw[hf] at hr;cases hr
set_option maxRecDepth 100000 in
theorem Q5B{d:Nd}{p:VF}{w:World}{v:Value}{f:Int×Int}(hm:Sz d p)(hfl:XP (.cons d p .nil) 0 1=.inl f)(hv:VIn w w.heap.size v d p):Calls Tryz.prog 34 #[v] w fun e w'=>e=.returned (.agg #[.int .i64 (Zg d p).1,.int .i64 (Zg d p).2])∧Below w.heap.size w w':=by
 have HV:=Lib.hid hv;have HM:=Lib.hid hm;obtain⟨sb,sn,sp,rfl,Ab,nb,cb,An,nn,cn,Ap,cp,rfl,rfl,rfl,hbc,hnc,hpc,hpm,hrb,hrn,hp⟩:=hv;clear hrb hrn hp hm
 go_enter Tryz.func34,Tryz.ntmps34
 go_wp2_with fail
 refine(Q7h HM.out hfl (HV.out.on (ZZ _ _ _))).mono ?_
 rintro e w2 ⟨hb2,hres⟩
 have F1:=(FC.new (w.alloc (.cells #[.int .i64 d.k,.int .i64 d.n,.slice Ab nb cb,.slice An nn cn,.slice Ap p.len cp] 30)) 0 0).on hb2
 simp only[Q4] at F1
 have HB2:=Lib.hid (show Below w.heap.size w w2 from Qz (ZZ _ _ _) hb2);have HF1:=Lib.hid F1;have hz2:w.heap.size+1<w2.heap.size:=F1.1;clear hb2 F1
 obtain⟨A,n,c,cd,ix,he,hf⟩:∃A n c cd ix,e=.returned (.tuple #[.slice A n c,.agg #[.int .i64 cd,.int .i64 ix]])∧Zg d p=(cd,ix):=by
  rcases hres with ⟨c,i,_,h,he⟩|⟨A,c,m,_,h,_,he,_⟩
  ·exact⟨_,_,_,_,_,he,h⟩
  ·exact⟨_,_,_,_,_,he,h⟩
 subst he;have HF:=Lib.hid hf;clear hf hres;obtain⟨z4,r0,r1,e0,e1⟩:=HF1.out
 go_wp2_with fail
 refine bodyPost_ret (v:=.agg #[.int .i64 cd,.int .i64 ix]) (by simp [results,Tryz.results34,go_sem,r0,r1,z4]) rfl ?_;exact⟨by rw[HF.out],Kz (Zo HB2.out (by omega) _ _) _⟩
theorem VS{d:Nd}{p:VF}{w:World}{v:Value}(hm:Sz d p)(hv:VIn w w.heap.size v d p):Calls Tryz.prog 34 #[v] w fun e w'=>e=.returned (.agg #[.int .i64 (Zg d p).1,.int .i64 (Zg d p).2])∧Below w.heap.size w w':=by
 cases hc:XP (.cons d p .nil) 0 1 with
 |inl f=>exact Q5B hm hc hv
 |inr m=>exact Q3g (hm.mod hc) hv
section
variable {P:Program}{ops:Array Oper}{N:Nat}{E:Env}{o:Oper}{M:List Nat}{W:World}{O:List Qc}{C:World→Prop}
theorem QbI[dq:DQ]{t:TypeId}{x:Operand}{v:Value}{cs:List Value}(ho:o.op=.box t x)(hw:Qj ops E o=some true)(hx:ev E x=some v)(hc:v.cells=cs.toArray):uE P ops N M W E O o Nat (fun b=>.pointer (some ⟨b,0,none⟩)) (fun b=>.blk b (.cells cs.toArray t (0,0))::O) (fun b=>W.heap.size≤b∧∀x∈O,∀q,x.foot=some q→q<b):=
 KY hw fun ρ w ha hW=>
  ⟨w.heap.size,w.alloc (.cells cs.toArray t (0,0)),by
   simp [execOp,ho,ha.eval hx,Instr.box,newVar,newRow,go_sem]
   show w.alloc (Obj.cells v.cells t)=_
   rw[hc],⟨hW.k.size,fun x hx q hq=>(hW.onAll x hx).lt hq⟩,hW.push ((Below.refl _ _).alloc (Nat.le_refl _) _) (heap_alloc_new w _) (fun b hb=>by cases hb;exact Nat.le_refl _)⟩
theorem Q0B[dq:DQ]{d:Nat}{x:Operand}{p:Addr}(ho:o.op=.nilCheck x)(hd:o.dst=some d)(hN:d<N)(hw:Qj ops E o=some true)(hx:ev E x=some (.pointer (some p))):oE P ops C N E ((d,.pointer (some p))::E) o:=
 Xq hd hN hw fun ρ w ha _=>by simp [execOp,ho,ha.eval hx,go_sem]
theorem Q9n[dq:DQ]{d:Nat}{x y:Operand}{t':TypeId}{a b a' b':Int}{v:Bool}(ho:o.op=.binOp .neq 32 x y t')(hd:o.dst=some d)(hN:d<N)(hw:Qj ops E o=some true)(hx:ev E x=some (.agg #[.int .i64 a,.int .i64 b]))(hy:ev E y=some (.agg #[.int .i64 a',.int .i64 b']))(hb:(!(a==a'&&b==b'))=v):oE Tryz.prog ops C N E ((d,.bool v)::E) o:=
 Xq hd hN hw fun ρ w ha _=>by
  subst hb
  by_cases h1:a=a'<;>by_cases h2:b=b'<;>simp [execOp,ho,ha.eval hx,ha.eval hy,h1,h2,go_sem]
theorem Wd.lost{w w':World}{g:Nat}{o:Obj}(h:Wd M W (.blk g o::O) w)(hk:XJ [g] w w'):Wd M W O w':=by
 refine .of_pairs (h.k.trans hk fun b hb hlt=>?_) (fun x hx=>(h.onAll x (List.mem_cons_of_mem _ hx)).keep hk.size fun b hb=>hk.block b ((h.onAll x (List.mem_cons_of_mem _ hx)).lt hb) ?_) (fun x hx=>h.newAll x (List.mem_cons_of_mem _ hx)) (List.pairwise_cons.1 h.pairs).2
 ·rw[List.mem_singleton] at hb;subst hb;exact h.new 0 _ _ rfl rfl hlt
 ·rw[List.mem_singleton];intro e;subst e;have:=(List.pairwise_cons.1 h.pairs).1 x hx b rfl hb
  cases this
theorem Jk[dq:DQ]{a:Act}{w:World}{r:ResultVar}{v:Value}(ha:Ag N E a)(hw:C w)(h:RsV P C E r v):RsF P a w r v:=by
 cases r with
 |tmp t=>
  show a.tmps[t]?.getD undef=v
  rw[ha.at_ h]
  rfl
 |cell t ty=>
  obtain⟨p,h1,h2⟩:=h;refine⟨p,?_,h2 w hw⟩;rw[ha.at_ h1]
  rfl
end
section
variable {M:List Nat}{W w w':World}{O:List Qc}{g k b4 b5 N:Nat}{E:Env}{R:Ending→World→Prop}{e:Exit}
abbrev paD(b4 b5:Nat):List Deferred:=[{ target:=.fn (.func 30) #[.pointer (some ⟨b4,0,none⟩),.pointer (some ⟨b5,0,none⟩)],args:=#[] }]
theorem QaR[dq:DQ]{v u:Value}(hdq:dq.D=paD b4 b5)(he:e=.normal∨e=.ret)(h4:RsV Tryz.prog (Wd M W O) E (.cell 4 30) v)(h5:RsV Tryz.prog (Wd M W O) E (.cell 5 32) u)(hR:∀w,Wd M W O w→R (.returned (.tuple #[v,u])) w):xE (bodyPostD Tryz.prog Tryz.f11 R) N M W E O e:=fun a w ha hw=>by
 have h:Leaves Tryz.prog Tryz.f11 a.tmps R a.defers .returning w:=by
  rw[ha.df,hdq];refine leaves_cons (f:=30) (args:=#[.pointer (some ⟨b4,0,none⟩),.pointer (some ⟨b5,0,none⟩)]) (by simp) (by simp [go_sem]) ?_;refine(Q55 _ _ _).mono ?_
  rintro e' u' w8 ⟨rfl,rfl,rfl⟩
  exact⟨_,QaY rfl (Jk ha hw h4) (Jk ha hw h5),hR _ hw⟩
 rcases he with rfl|rfl<;>exact h
theorem QaN[dq:DQ]{a:Act}{c x:Int}{ch:List PanicEntry}{a0 a1 a2 a3 a4 r0 r1:Value}(hdq:dq.D=paD b4 b5)(hch:ch=Jv c x)(h4:E.lookup 4=some (.pointer (some ⟨b4,0,none⟩)))(h5:E.lookup 5=some (.pointer (some ⟨b5,0,none⟩)))(ha:Ag N E a)(hw:Wd M W (.blk b4 (.cells ([a0,a1,a2,a3,a4]:List Value).toArray 30 (0,0))::.blk b5 (.cells ([r0,r1]:List Value).toArray 32 (0,0))::O) w)
  (hR:∀w,Below W.heap.size W w→R (.returned (.tuple #[.agg #[.int .i64 0,.int .i64 0,.slice none 0 0,.slice none 0 0,.slice none 0 0],.agg #[.int .i64 c,.int .i64 x]])) w) (hM:M=[]):bodyPostD Tryz.prog Tryz.f11 R (.panic ch) a w:=by
 subst hM;subst hch
 show Leaves Tryz.prog Tryz.f11 a.tmps R a.defers (.panicking (Jv c x)) w
 rw[ha.df,hdq];refine leaves_cons (f:=30) (args:=#[.pointer (some ⟨b4,0,none⟩),.pointer (some ⟨b5,0,none⟩)]) (by simp) (by simp [go_sem]) ?_;refine(Q3J hw).mono ?_
 rintro e' u' w8 ⟨rfl,rfl,hw8⟩
 exact⟨_,QaY rfl (Jk ha hw8 (RsV.blk 0 h4 rfl rfl)) (Jk ha hw8 (RsV.blk 1 h5 rfl rfl)),hR _ hw8.k.below⟩
theorem Qea{z:Rv}{res:Rdg (Nd×VF×Nat)}{o:Obj}{e:Ending}(hw:Wd [] W (.blk g o::O) w)(h:VlE z g w res e w'):ZE (fun y:Vy=>.agg (y.cells).toArray) (fun y=>res=some (.ok y.r)∧XA y.L (.agg (y.cells).toArray) y.r.1 y.r.2.1∧Q04 y.L W.heap.size) [] W (fun y=>.blk g (z.obj y.r.2.2)::(O++y.L)) (fun ch w'=>∃x:Nat,res=some (.error x)∧ch=Jv 1 x∧Wd [] W O w') e w':=by
 obtain⟨hk,⟨x,h1,h2⟩|⟨d,l,q,v,L,h1,h2,h3,h4,h5⟩⟩:=h
 ·exact .inr ⟨_,h2,x,h1,rfl,hw.lost hk⟩
 ·obtain⟨sb,sn,sp,rfl,hd⟩:=h4.vin h5.on;obtain⟨Ab,nb,cb,An,nn,cn,Ap,cp,rfl,rfl,rfl,_⟩:=hd;exact .inl ⟨⟨(d,l,q),Ab,nb,cb,An,nn,cn,Ap,l.len,cp,L⟩,h2,⟨h1,h4,fun x hx=>⟨h5.rd x hx,fun b hb=>Nat.le_trans hw.k.size (h5.far x hx b hb)⟩⟩,hw.wroteL hk h3 h5⟩
end
section
variable {F:List Rl}{D:List UInt8}
theorem Q95{x:Nat}(h0:QL F=(0,0))(h1:¬1000<D.length)(h:Qx F D (V9 F D) 0 0=some (.error x)):Z0 F D=((ndZ,.nil),(1,(x:Int))):=by
 unfold Z0;rw[if_neg (by simp [h0]),if_neg h1,h]
theorem Q43{y:Nd×VF×Nat}(h0:QL F=(0,0))(h1:¬1000<D.length)(h:Qx F D (V9 F D) 0 0=some (.ok y))(hq:y.2.2<D.length):Z0 F D=((ndZ,.nil),(1,(y.2.2:Int))):=by
 unfold Z0;rw[if_neg (by simp [h0]),if_neg h1,h];simp only;rw[if_pos hq]
theorem Qcj{y:Nd×VF×Nat}(h0:QL F=(0,0))(h1:¬1000<D.length)(h:Qx F D (V9 F D) 0 0=some (.ok y))(hq:¬y.2.2<D.length)(hv:Zg y.1 y.2.1≠(0,0)):Z0 F D=((ndZ,.nil),(14,-2)):=by
 unfold Z0;rw[if_neg (by simp [h0]),if_neg h1,h];simp only;rw[if_neg hq,if_pos hv]
theorem Q4m{y:Nd×VF×Nat}(h0:QL F=(0,0))(h1:¬1000<D.length)(h:Qx F D (V9 F D) 0 0=some (.ok y))(hq:¬y.2.2<D.length)(hv:Zg y.1 y.2.1=(0,0)):Z0 F D=((y.1,y.2.1),(0,0)):=by
 unfold Z0;rw[if_neg (by simp [h0]),if_neg h1,h];simp only;rw[if_neg hq,if_neg (by simp [hv])]
end
set_option maxRecDepth 100000 in
set_option maxHeartbeats 16000000 in
theorem Q8O{F:List Rl}{D:List UInt8}{A A2:Option Addr}{n c m c2:Nat}{W:World}(hf:Xm W W.heap.size A n F)(hs:FSm F)(hc:n≤c)(hg:GV W)(hz:QL F=(0,0))(hd:Rd W W.heap.size 1 A2 m (bv D))(hl:¬1000<D.length)(hmc:m≤c2)(hc2:c2≤maxLen):
  Calls Tryz.prog 11 #[.agg #[.slice A n c],.slice A2 m c2] W (Q6h F D W):=by
 have HF:=Lib.hid hf;have HS:=Lib.hid hs;have HG:=Lib.hid hg;have HZ:=Lib.hid hz;have HD:=Lib.hid hd;have HL:=Lib.hid hl;have HV:=Lib.hid (VD hz)
 have hDm:D.length=m:=by have:=hd.len;rw[Xu] at this;exact this
 have hm:¬1000<(m:Int):=by omega
 have h0n:0<n:=by have:=HV.out.len;have:=hf.1;omega
 have HK:=Lib.hid (show 0≤(0:Int)∧(0:Int)<F.length by have:=HV.out.len;omega);have HSO:=Lib.hid (Qap HV.out D);clear hf hs hg hz hd hl
 go_enter_defers Tryz.func11,Tryz.ntmps11
 refine QE (M:=[]) (W:=W) (N:=49) (E:=[(0,.agg #[.slice A n c]),(1,.slice A2 m c2)]) (O:=[]) ?_ (Ag.cons (Ag.cons (Ag.nil rfl rfl) rfl) rfl) (Wd.start [] W);refine yq<|yr ?_;refine yB fun b2=>?_;refine yA fun b4=>?_;refine yA fun b5=>?_;refine yl<|yn<|yq<|yq<|yr<|yo (zD 2) ?_;refine Q1 (Qb rfl rfl (by decide) rfl rfl (fun w hw=>(Xv (HF.out.on hw.k.below) HS.out hc (HG.out.on hw.k.below)).mono (fun e w' h=>by rw[HZ.out] at h;exact h))) ?_;refine yA fun b6=>?_;refine yW 0 ?_;refine yl ?_;have hne:(!((0:Int)==0&&(0:Int)==0))=false:=rfl;refine yn<|yq<|yr<|yo (zD 0) ?_;refine Q1 (QO (xs:=[]) (vs:=[]) (v:=.agg #[.int .i64 0,.int .i64 0]) rfl rfl (by decide) rfl rfl (fun w=>run_build w _ _ _ (by kernel_rfl))) ?_;refine Q1 (Je rfl rfl (by decide) rfl rfl rfl hne) ?_;refine yl<|yn<|y0<|ys<|yn<|yq<|yq<|yr<|yo zM<|yo zL<|yo zgf<|yl<|yn<|y0<|ys<|yn<|yq<|yr<|yo zu ?_;refine Q9e rfl rfl rfl rfl (fun dq' hdq=>?_);refine yl<|yn<|yq ?_
 replace hdq:dq'.D=paD b4 b5:=hdq
 refine XQ [.blk b2 (.cells ([.slice A n c]:List Value).toArray 24 (0,0))] [] (by kernel_rfl) ?_;refine Qe 0 rfl (by kernel_rfl) (Q2.sel [3] (by decide) rfl) (zD 0) ?_;refine Qe 1 rfl (by kernel_rfl) (Q2.sel [3] (by decide) rfl) (zD 0) ?_;refine Qe 3 rfl (by kernel_rfl) (Q2.sel [3] (by decide) rfl) zM ?_;refine QC 2 (by kernel_rfl) rfl rfl (QM (fun y:(Option Addr×Nat)×List Value×List Qc=>.slice y.1.1 n y.1.2) (fun y=>n≤y.1.2∧FsL F n y.1.1 y.2.1 y.2.2) (fun y=>_++y.2.2) rfl rfl rfl (fun w hw=>(Q3I (HF.out.on hw.k.below) HS.out hc (HG.out.on hw.k.below) HZ.out h0n).mono (fun e w' ⟨As,cs,xs,L,h1,h2,h3,h4,h5⟩=>⟨((As,cs),xs,L),h1,⟨h2,h3⟩,hw.made h5 h4⟩))) (fun _=>.inr (Q2.sel [3] (by decide) rfl)) rfl (by decide) (fun y hy=>?_);obtain⟨⟨As,cs⟩,xs,Lf⟩:=y;obtain⟨hncs,hfs⟩:=hy
 replace hncs:n≤cs:=hncs
 have HFS:=Lib.hid (show FsL F n As xs Lf from hfs);clear hfs;refine Qe 4 rfl (by kernel_rfl) (Q2.sel [3] (by decide) rfl) (QO (xs:=[(0,.tmp 21),(1,.tmp 23),(2,.tmp 24)]) (vs:=[(0,.agg #[.slice A n c]),(1,.slice As n cs),(2,.slice A2 m c2)]) (v:=.agg #[.slice A n c,.slice As n cs,.slice A2 m c2,.int .i64 0]) rfl rfl (by decide) rfl rfl (fun w=>run_build w _ _ _ (by kernel_rfl))) ?_;refine QC 5 (by kernel_rfl) rfl rfl (QbI (cs:=[.slice A n c,.slice As n cs,.slice A2 m c2,.int .i64 0]) rfl rfl rfl rfl) (fun _=>.inr (Q2.sel [4] (by decide) rfl)) rfl (by decide) (fun g hg=>?_);obtain⟨hg1,hg2⟩:=hg;refine Qe 6 rfl (by kernel_rfl) (Q2.sel [4] (by decide) rfl) zA ?_;refine Xh ?_ (by kernel_rfl);have HG2:=Lib.hid (show ∀x∈Lf,∀q,x.foot=some q→q<g from fun x hx=>hg2 x (by simp [hx]));clear hg2;refine yn<|yq<|yr<|yo zM ?_;refine Q7Y (QV _ _ _ rfl rfl rfl (fun w hw=>(Q1Y (z:=⟨A,As,A2,n,m,c,cs,c2⟩) (B:=g) (g:=g) (D:=D) HV.out (V9 F D) w 0 0 HK.out ⟨⟨(HF.out.below hw.k.below).more hg1,HFS.out.fr (fun x hx=>hw.onAll x (by simp [hx])) HG2.out h0n,(HD.out.below hw.k.below).more hg1⟩,Nat.le_refl _,hw.own 0 _ rfl,hc,hmc,hc2,Nat.zero_le _,by omega⟩ HSO.out).mono (fun e w' h=>Qea hw h))) rfl (by decide) (fun a ch w ha ⟨x,h1,h2,h3⟩=>QaN hdq h2 rfl rfl ha (h3.sel [2,1] (by decide)) (fun w2 hb=>Q10 (Q95 HZ.out HL.out h1) hb) rfl) (fun y hy=>?_);refine yW 3 ?_;refine yl ?_;obtain⟨hy1,hy2,hy3⟩:=hy;have HYF:=Lib.hid hy3;have HY1:=Lib.hid hy1;have HY2:=Lib.hid hy2;have hfar:=Q6X HV.out hy1;clear hy1 hy2 hy3
 by_cases hq:y.r.2.2<D.length
 ·have hqm:(y.r.2.2:Int)<(m:Int):=by omega
  refine yn<|yq<|yq<|yr<|yo zM ?_;refine Q1 (Q0B rfl rfl (by decide) rfl rfl) ?_;refine yo zF<|yo (zB 0)<|yo zM<|yo zL<|yo zlt<|yl<|yn<|y1<|yr<|yo zM ?_;refine Q1 (Q0B rfl rfl (by decide) rfl rfl) ?_;refine yo zF<|yo (zB 0) ?_;exact Q7Y (QV (B:=fun ch w'=>ch=Jv 1 (y.r.2.2:Int)∧Wd [] W _ w') _ _ _ rfl rfl rfl (fun w hw=>Zp hw (fun w' hw'=>⟨rfl,hw'⟩))) rfl (by decide) (fun a ch w ha (hb:ch=Jv 1 (y.r.2.2:Int)∧_)=>QaN hdq hb.1 rfl rfl ha (hb.2.sel [3,2] (by decide)) (fun w2 hb=>Q10 (Q43 HZ.out HL.out HY1.out hq) hb) rfl) (fun i=>i.elim)
 ·have hqm:¬(y.r.2.2:Int)<(m:Int):=by omega
  have hsz:=Yt HV.out (by omega) (fun r hr x hx=>(HS.out.2 r hr).each x hx) _ HK.out 0 _ (Nat.zero_le _) HY1.out;have HSZ:=Lib.hid hsz;obtain⟨⟨va,vb⟩,hvf⟩:∃p,Zg y.r.1 y.r.2.1=p:=⟨_,rfl⟩;have HVF:=Lib.hid hvf;clear hsz hvf
  by_cases hv0:(va,vb)=((0:Int),(0:Int))
  ·have HF0:=Lib.hid (Q4m HZ.out HL.out HY1.out hq (HVF.out.trans hv0));have e1:va=0:=congrArg Prod.fst hv0;have e2:vb=0:=congrArg Prod.snd hv0;subst e1 e2;clear hv0;refine yn<|yq<|yq<|yr<|yo zM ?_;refine Q1 (Q0B rfl rfl (by decide) rfl rfl) ?_;refine yo zF<|yo (zB 0)<|yo zM<|yo zL<|yo zlf<|yl<|yn<|y0<|ys<|yn<|yq<|yq<|yr<|yo (zD 3) ?_;refine Q1 (Qb rfl rfl (by decide) rfl rfl (fun w hw=>(VS HSZ.out (HY2.out.vin fun x hx=>hw.onAll x (by simp [hx]))).mono (fun e w' h=>by rw[HVF.out] at h;exact h))) ?_;refine Q1 (QO (xs:=[]) (vs:=[]) (v:=.agg #[.int .i64 0,.int .i64 0]) rfl rfl (by decide) rfl rfl (fun w=>run_build w _ _ _ (by kernel_rfl))) ?_;refine Q1 (Q9n rfl rfl (by decide) rfl rfl rfl rfl) ?_;refine yl<|yn<|y0<|ys<|yn<|yq<|yr<|yo (zD 3) ?_;refine Q1 (QO (xs:=[]) (vs:=[]) (v:=.agg #[.int .i64 0,.int .i64 0]) rfl rfl (by decide) rfl rfl (fun w=>run_build w _ _ _ (by kernel_rfl))) ?_;refine yW 3 ?_;refine yW 2 ?_;refine yl<|yn<|yt ?_;exact QaR hdq (by exact .inr rfl) (RsV.blk 3 rfl rfl rfl) (RsV.blk 2 rfl rfl rfl) (fun w hw=>⟨⟨y.Ab,y.nb,y.cb,y.An,y.nn,y.cn,y.Ap,y.np,y.cp,y.L⟩,by rw[HF0.out],by rw[HF0.out];exact HY2.out,HYF.out.new fun x hx=>hw.onAll x (by simp [hx]),hw.k.below⟩)
  ·have HF0:=Lib.hid (Qcj HZ.out HL.out HY1.out hq (by rw[HVF.out];exact hv0))
   have hne2:(!(va==0&&vb==0))=true:=by
    rw[Bool.not_eq_true',Bool.and_eq_false_iff,beq_eq_false_iff_ne,beq_eq_false_iff_ne]
    by_cases h0:va=0
    ·exact .inr fun h1=>hv0 (by rw[h0,h1])
    ·exact .inl h0
   clear hv0;refine yn<|yq<|yq<|yr<|yo zM ?_;refine Q1 (Q0B rfl rfl (by decide) rfl rfl) ?_;refine yo zF<|yo (zB 0)<|yo zM<|yo zL<|yo zlf<|yl<|yn<|y0<|ys<|yn<|yq<|yq<|yr<|yo (zD 3) ?_;refine Q1 (Qb rfl rfl (by decide) rfl rfl (fun w hw=>(VS HSZ.out (HY2.out.vin fun x hx=>hw.onAll x (by simp [hx]))).mono (fun e w' h=>by rw[HVF.out] at h;exact h))) ?_;refine Q1 (QO (xs:=[]) (vs:=[]) (v:=.agg #[.int .i64 0,.int .i64 0]) rfl rfl (by decide) rfl rfl (fun w=>run_build w _ _ _ (by kernel_rfl))) ?_;refine Q1 (Q9n rfl rfl (by decide) rfl rfl rfl hne2) ?_;refine yl<|yn<|y1<|yq<|yr ?_;refine Q1 (QO (xs:=[]) (vs:=[]) (v:=.agg #[.int .i64 0,.int .i64 0,.slice none 0 0,.slice none 0 0,.slice none 0 0]) rfl rfl (by decide) rfl rfl (fun w=>run_build w _ _ _ (by kernel_rfl))) ?_;refine Q1 (Qb rfl rfl (by decide) rfl rfl (fun w hw=>(J5 _ _ w).mono (fun e w2 h=>⟨h.1,h.2▸Zm _ _⟩))) ?_;refine yW 3 ?_;refine yW 2 ?_;refine yl<|yn<|yt<|yc ?_;exact QaR hdq (by exact .inr rfl) (RsV.blk 3 rfl rfl rfl) (RsV.blk 2 rfl rfl rfl) (fun w hw=>Q10 HF0.out hw.k.below)
theorem Q6R{F:List Rl}{D:List UInt8}{A A2:Option Addr}{n c m c2:Nat}{W:World}(hf:Xm W W.heap.size A n F)(hs:FSm F)(hc:n≤c)(hg:GV W)(hd:Rd W W.heap.size 1 A2 m (bv D))(hmc:m≤c2)(hc2:c2≤maxLen):
  Calls Tryz.prog 11 #[.agg #[.slice A n c],.slice A2 m c2] W (Q6h F D W):=by
 by_cases hz:QL F=(0,0)
 ·by_cases hl:1000<D.length
  ·exact Q7F hf hs hc hg hz hd hl
  ·exact Q8O hf hs hc hg hz hd hl hmc hc2
 ·exact Q5W hf hs hc hg hz
end Go.Proofs.YtphkhfdmlcnoeaaGreatDoor
