import Derived.Test.YtphkhfdmlcnoeaaGreatDoorP12
namespace Go.Proofs.YtphkhfdmlcnoeaaGreatDoor
set_option linter.unusedVariables false
set_option linter.unusedSimpArgs false
set_option maxRecDepth 1000000
set_option maxHeartbeats 32000000
open Go.RowKit
section
variable {A:Option Addr}{W w:World}{bs:List UInt8}{c n:Nat}
theorem Rd.up{s:Nat}{xs:List Value}(h:Rd W W.heap.size s A n xs)(hb:Below W.heap.size W w):Rd w w.heap.size s A n xs:=(h.below hb).more hb.size
theorem Vt{r:Rl}{sb sn sp:Value}{n:Int}:Calls Tryz.prog 108 #[.agg (ruC r sb sn sp).toArray,.int .i64 n] W fun e w'=>e=.returned (.bool (XP r n))/\Below W.heap.size W w':=by
 obtain⟨name,kind,bs,size,big,mn,mx,stop,count,elem,names,parts⟩:=r;simp only[ruC];go_enter Tryz.func108,Tryz.ntmps108;refine Qz (M:=[]) (W:=W) (N:=15) (E:=[QrF,(1,.int .i64 n)]) (O:=[]) ?_ mc3 QR;by_cases h1:mn<=n
 ·obtain⟨b,hb⟩:∃b,decide (n<=mx)=b:=⟨_,rfl⟩;refine Qa (Q6 ?_);refine yB fun b2=>?_;refine Zm ?_;refine Qb (Qa (Q6 ?_));refine Q4 zM ?_;refine Q4 zF ?_;refine Q4 (zB 0) ?_;refine Q4 zht ?_;refine Q0b ?_;refine Q4 zF ?_;refine Q4 (zB 0) ?_;refine Q4 (Q5j rfl rfl Q1 rfl rfl rfl QT) ?_;refine Q4 zY ?_;refine Zm ?_;refine Qb (QC ?_);exact Q7 mc4 rfl (.tmp rfl) (fun w hw=>⟨by unfold XP;simp only;rw[decide_eq_true h1,hb];rfl,hw.k.below⟩)
 ·refine Qa (Q6 ?_);refine yB fun b2=>?_;refine Zm ?_;refine Qb (Qa (Q6 ?_));refine Q4 zM ?_;refine Q4 zF ?_;refine Q4 (zB 0) ?_;refine Q4 zhf ?_;refine Q4 zM ?_;refine Q4 zS ?_;refine Q4 zS ?_;refine Q4 zS ?_;refine Q4 zS ?_;refine Q4 zN ?_;refine Zm ?_;refine Qb (QC ?_);exact Q7 mc4 rfl (.tmp rfl) (fun w hw=>⟨by unfold XP;simp only;rw[decide_eq_false h1];rfl,hw.k.below⟩)
theorem Qcp(s:ByteArray)(W:World):Calls Tryz.prog 112 #[.string s] W fun e w'=>e=.returned (.bool (s.data.toList==[]))/\Below W.heap.size W w':=by
 go_enter Tryz.func112,Tryz.ntmps112;refine Qz (M:=[]) (W:=W) (N:=5) (E:=[(0,.string s)]) (O:=[]) ?_ Zl QR;refine Qa (Q6 ?_);refine Zm ?_;refine Qb (Qa (Q6 ?_));refine Q4 zM ?_;refine Q4 QkZ ?_;refine Zm ?_;refine Qb (QC ?_);exact Q5g
theorem Quq{B i:Nat}(h:Rd w B 1 A n (bv bs))(hi:i<n):∃b o c,A=some ⟨b,o,none⟩/\b<B/\bs[i]? =some c/\w.cell? ⟨b,o+i,none⟩=some (.int .u8 (c.toNat:Int)):=by
 have hl:bs.length=n:=by have:=h.len;rw[QM] at this;exact this
 obtain⟨b,o,e,hb,hc⟩:=h.2 Q3;have hx:bs[i]? =some bs[i]:=List.getElem?_eq_getElem Q3;refine⟨b,o,bs[i],e,hb,hx,hc i _ ?_⟩;unfold bv;rw[List.getElem?_map,hx];rfl
theorem Q73(hr:Rd W W.heap.size 1 A n (bv bs))(hn:n<=1048576)(x:UInt8):Calls Tryz.prog 145 #[.slice A n c,.int .u8 (x.toNat:Int)] W fun e w'=>∃i:Int,e=.returned (.int .i64 i)/\(decide (0<=i))=bs.contains x/\Below W.heap.size W w':=by
 have HR:=Q2 hr;have hl:bs.length=n:=by have:=hr.len;rw[QM] at this;exact this
 clear hr;go_enter Tryz.func145,Tryz.ntmps145;refine Qz (M:=[]) (W:=W) (N:=19) (E:=[(0,.slice A n c),(1,.int .u8 (x.toNat:Int))]) (O:=[]) ?_ mc3 (Wd.start [] W);refine Qa (Q6 ?_);refine Zm ?_;refine Qb (Qa (Qa (Q6 ?_)));refine Q8u ?_;refine Q4 zM ?_;refine Qg ?_;refine Qb (Qi ?_);refine Xu (ι:=Nat) (fun k=>k<=n/\∀y∈bs.take k,y≠x) (fun k=>n - k) (fun k=>[(0,.slice A n c),(1,.int .u8 (x.toNat:Int)),(7,.int .i64 (n:Int)),(8,.int .i64 (k:Int))]) (fun _=>[]) 0 ⟨Nat.zero_le _,by simp⟩ mc1 Zc ?_;rintro k ⟨hk,hall⟩;have HA:=Q2 hall;clear hall;by_cases hkn:k<n
 ·obtain⟨b,o,y,rfl,hb,hy,hc⟩:=Quq HR.out hkn
  by_cases hxy:y=x
  ·subst hxy
   have he:((y.toNat:Int)==(y.toNat:Int))=true:=by simp
   refine Qa (Q6 ?_);refine YF ?_;refine Qb (Qa (Q9 rfl (Qp (Qb (Qa (Qi (Qa (Q6 ?_))))))));refine Q34 ?_;refine Qb (Qa (Q6 ?_));refine QnP ?_;refine Qb (Q9 rfl (Qa (Q6 ?_)));refine Q34 ?_;refine Qb (QC (Qu (Qk (Qk (Qu (Qk ?_))))));refine Q7 mc4 rfl (.tmp rfl) (fun w hw=>⟨(k:Int),rfl,?_,hw.k.below⟩);rw[decide_eq_true Q3];symm;rw[List.contains_iff_mem];exact List.mem_of_getElem? hy
  ·have he:((x.toNat:Int)==(y.toNat:Int))=false:=by
    rw[beq_eq_false_iff_ne];intro e;exact hxy (UInt8.toNat_inj.1 Q3)
   refine Qa (Q6 ?_);refine YF ?_;refine Qb (Qa (Q9 rfl (Qp (Qb (Qa (Qi (Qa (Q6 ?_))))))));refine Q34 ?_;refine Qb (Qa (Q6 ?_));refine QnP ?_;refine Qb (Q8 rfl (Qp (Qb (Q6 ?_))));refine Q4 zP ?_;refine Q4 zM ?_;refine Qg ?_;refine Qx (k+1) ⟨hkn,fun z hz=>?_⟩ Q3 mc2 Zc;rw[List.take_add_one,hy] at hz;simp only[Option.toList_some,List.mem_append,List.mem_singleton] at hz;rcases hz with hz|rfl
   ·exact HA.out z hz
   ·exact hxy
 ·refine Qa (Q6 ?_);refine Q4 zlf ?_;refine Qg ?_;refine Qb (Qa (Q8 rfl (Xx (Qb (Qa (Q6 ?_))))));refine Zm ?_;refine Qb (QC ?_);refine Q7 mc4 rfl (.tmp rfl) (fun w hw=>⟨-1,rfl,?_,hw.k.below⟩);rw[decide_eq_false Q3]
  symm;rw[<- Bool.not_eq_true,List.contains_iff_mem];intro hm;have:bs.take k=bs:=List.take_of_length_le Q3;exact HA.out x (by rw[this];exact hm) rfl
theorem Q1w(hr:Rd W W.heap.size 1 A n (bv bs))(hn:n<=1048576)(x:UInt8):Calls Tryz.prog 109 #[.slice A n c,.int .u8 (x.toNat:Int)] W fun e w'=>e=.returned (.bool (bs.contains x))/\Below W.heap.size W w':=by
 have HR:=Q2 hr;clear hr;go_enter Tryz.func109,Tryz.ntmps109;refine Qz (M:=[]) (W:=W) (N:=9) (E:=[(0,.slice A n c),(1,.int .u8 (x.toNat:Int))]) (O:=[]) ?_ mc3 QR;refine Qa (Q6 ?_);refine Zm ?_;refine Qb (Qa (Q6 ?_));refine Q0b ?_;refine Qd (QY (fun i:Int=>.int .i64 i) (fun i=>decide (0<=i)=bs.contains x) (fun _=>[]) rfl rfl rfl (fun w hw=>(Q73 (HR.out.up hw.k.below) hn x).mono Qjj)) rfl Q1 (fun i hi=>?_);refine Q4 (Qdk rfl rfl Q1 rfl rfl rfl QT) ?_;refine Zm ?_;refine Qb (QC ?_);exact Q5g
theorem Q5H{A2:Option Addr}{m c2:Nat}{xs ys:List (List UInt8)}(h1:Rd W W.heap.size 1 A n (sv xs))(h2:Rd W W.heap.size 1 A2 m (sv ys))(hn:n<=1048576):Calls Tryz.prog 113 #[.slice A n c,.slice A2 m c2] W fun e w'=>e=.returned (.bool (xs==ys))/\Below W.heap.size W w':=by
 have H1:=Q2 h1;have H2:=Q2 h2;have hl1:xs.length=n:=by have:=h1.len;unfold sv at this;simpa using this
 have hl2:ys.length=m:=by have:=h2.len;unfold sv at this;simpa using this
 clear h1 h2;go_enter Tryz.func113,Tryz.ntmps113;refine Qz (M:=[]) (W:=W) (N:=26) (E:=[(0,.slice A n c),(1,.slice A2 m c2)]) (O:=[]) ?_ mc3 (Wd.start [] W);by_cases hnm:n=m
 case neg=>
  have hne:(xs==ys)=false:=by
   rw[beq_eq_false_iff_ne];intro e;rw[e] at hl1;omega
  refine Qa (Q6 ?_);refine Zm ?_;refine Qb (Qa (Qa (Q6 ?_)));refine Q8u ?_;refine Q8u ?_;refine Q4 znt ?_;refine Qg ?_;refine Qb (Q9 rfl (Qa (Q6 ?_)));refine Zm ?_;refine Qb (QC (Qk ?_));exact Q7 mc4 rfl (.tmp rfl) (fun w hw=>⟨by rw[hne],hw.k.below⟩)
 subst hnm;refine Qa (Q6 ?_);refine Zm ?_;refine Qb (Qa (Qa (Q6 ?_)));refine Q8u ?_;refine Q8u ?_;refine Q4 znf ?_;refine Qg ?_;refine Qb (Q8 rfl (Qp (Qb (Qa (Qa (Q6 ?_))))));refine Q8u ?_;refine Q4 zM ?_;refine Qg ?_;refine Qb (Qi ?_);refine Xu (ι:=Nat) (fun k=>k<=n/\xs.take k=ys.take k) (fun k=>n - k) (fun k=>[(0,.slice A n c),(1,.slice A2 n c2),(12,.int .i64 (n:Int)),(13,.int .i64 (k:Int))]) (fun _=>[]) 0 QfH mc1 Zc ?_;rintro k ⟨hk,hall⟩;have HA:=Q2 hall;clear hall;by_cases hkn:k<n
 ·obtain⟨b,o,s,rfl,hb,hs,hc⟩:=Vb H1.out hkn;obtain⟨b2,o2,s2,rfl,hb2,hs2,hc2⟩:=Vb H2.out hkn
  by_cases hss:s.data.toList=s2.data.toList
  ·have he:(s.data.toList != s2.data.toList)=false:=bne_eq_false_iff_eq.2 hss;refine Qa (Q6 ?_);refine YF ?_;refine Qb (Qa (Q9 rfl (Qp (Qb (Qa (Qi (Qa (Q6 ?_))))))));refine Q34 ?_;refine Qb (Qa (Xm Q5 Q5 ?_));refine Q60 ?_;refine QhK ?_;refine JW ?_;refine Qb (Q8 rfl (Qp (Qb (Q6 ?_))));refine Q4 zP ?_;refine Q4 zM ?_;refine Qg ?_;refine Qx (k+1) ⟨hkn,?_⟩ Q3 mc2 Zc;rw[List.take_add_one,List.take_add_one,HA.out,hs,hs2,hss]
  ·have he:(s.data.toList != s2.data.toList)=true:=bne_iff_ne.2 hss
   have hne:(xs==ys)=false:=by
    exact Qnc
   refine Qa (Q6 ?_);refine YF ?_;refine Qb (Qa (Q9 rfl (Qp (Qb (Qa (Qi (Qa (Q6 ?_))))))));refine Q34 ?_;refine Qb (Qa (Xm Q5 Q5 ?_));refine Q60 ?_;refine QhK ?_;refine JW ?_;refine Qb (Q9 rfl (Qa (Q6 ?_)));refine Zm ?_;refine Qb (QC (Qu (Qk (Qk (Qu (Qk ?_))))));exact Q7 mc4 rfl (.tmp rfl) (fun w hw=>⟨by rw[hne],hw.k.below⟩)
 ·refine Qa (Q6 ?_);refine Q4 zlf ?_;refine Qg ?_;refine Qb (Qa (Q8 rfl (Xx (Qb (Qa (Q6 ?_))))));refine Zm ?_;refine Qb (QC ?_);refine Q7 mc4 rfl (.tmp rfl) (fun w hw=>⟨?_,hw.k.below⟩);have h3:xs.take k=xs:=List.take_of_length_le Q3;have h4:ys.take k=ys:=List.take_of_length_le Q3;have:=HA.out;rw[h3,h4] at this;rw[this,beq_self_eq_true]
end
section
variable {A:Option Addr}{b c j n:Nat}{e t:TypeId}{ns:List (List UInt8)}{s:List UInt8}{x:Operand}{xs:List Value}
section
variable {P:Program}{ops:Array Oper}{N:Nat}{E:Env}{o:Oper}{M:List Nat}{W:World}{O:List Qf}
theorem Qoq{u:TypeId}(hT:SlT P t e 1 1)(hu:P.underlying u=some .string)(hz0:(P.info? e).bind (·.zero)=some (.int .u8 0))(ty:TypeId)(w:World)(A:Option Addr)(n c:Nat)(xs:List Value)(hown:w.ownsRow 0 e 1 (.slice A n c) n xs)(s:ByteArray)(hb:n+s.size<=140737488355328):
  ∃A' c' w',(Builtin.append_ #[t,u] ty #[.slice A n c,.string s]).run P w=.ok (.slice A' (n+s.size) c') w'/\w'.ownsRow 0 e 1 (.slice A' (n+s.size) c') (n+s.size) (xs++Lib.strCells s)/\w.grownBy w' (Value.slice A n c).ownBlock/\(∀b,(Value.slice A' (n+s.size) c').ownBlock=some b->(Value.slice A n c).ownBlock=some b\/w.heap.size<=b):=by
 obtain⟨i,z,hi,hz,hs,hby,hzs⟩:=hT.info;rw[hi] at hz0;have hz1:i.zero=some (.int .u8 0):=hz0;have hmx:n+s.size<=maxLen:=Nat.le_trans hb Q1;obtain⟨v',w',hrun,h2,h3,_⟩:=Lib.run_append_own_string (P:=P) (w:=w) 0 t u ty e i hT.und hu hi hz1 hs hby (.slice A n c) n xs hown s hmx hb Z4;have hform:∃A' c',v'=.slice A' (n+s.size) c':=by
  rcases h2.2 with ⟨hv,h0⟩|⟨g,cap,cur,hv,_⟩
  ·exact⟨none,0,by rw[hv,h0]⟩
  ·exact⟨_,_,hv⟩
 obtain⟨A',c',rfl⟩:=hform;refine⟨A',c',w',hrun,h2,h3,fun b hb'=>?_⟩;rcases hown.2 with ⟨hv,rfl⟩|⟨g,cap,cur,hv,_,hg,hnc,hcm,hcs,htk⟩
 ·simp only[Value.slice.injEq] at hv
  obtain⟨rfl,_,rfl⟩:=hv;have hx:xs=[]:=Qmo;subst hx;obtain⟨v2,w2,hrun2,h22,_⟩:=Lib.run_append_own_string (P:=P) (w:=w) w.heap.size t u ty e i hT.und hu hi hz1 hs hby (.slice none 0 0) 0 [] (World.ownsRow_nil w _ _ _) s hmx hb Xr;rw[hrun] at hrun2;injection hrun2 with e1 e2;subst e1;exact .inr (h22.lt b hb').1
 ·simp only[Value.slice.injEq] at hv
  obtain⟨rfl,_,rfl⟩:=hv;by_cases hroom:n+s.size<=c
  ·left
   have hre:=Lib.run_append_room_string (P:=P) (w:=w) t u ty e i hT.und hu hi hs g n c cur hg s hroom (by rw[hcs];omega);rw[hrun] at hre;injection hre with e1 e2;rw[e1] at hb';exact hb'
  ·right
   have hre:=Lib.run_append_grow_string (P:=P) (w:=w) t u ty e i _ hT.und hu hi hz1 ⟨g,0,none⟩ n c xs (by rw[hs];exact hown.1) (hown.cells (g:=g) rfl) s Q3 Q3 (growslice_fits Q3 (by rw[hby];omega));rw[hrun] at hre;injection hre with e1 e2;rw[e1] at hb';cases hb';exact Nat.le_refl _
theorem Q8U(i:Nat){u:TypeId}{s:Operand}{str:ByteArray}[hT:Sl P t e 1 1](hu:P.underlying u=some .string)(hz0:(P.info? e).bind (·.zero)=some (.int .u8 0))(ho:o.op=.call { callee:=.builtin .append,args:=#[s,x],argTypes:=#[t,u] })(hw:Qo ops E o=some true)(hs:ev E s=some (.slice A n c))(hx:ev E x=some (.string str))
  (hO:O[i]? =some (.row A n c e 1 xs)) (hbytes:n+str.size<=140737488355328):
  uE P ops N M W E O o (Option Addr×Nat) (fun q=>.slice q.1 (n+str.size) q.2) (fun q=>O.set i (.row q.1 (n+str.size) q.2 e 1 (xs++Lib.strCells str))) (fun q=>True):=
 Q00 hw fun ρ w ha hW=>by
  obtain⟨A',c',w',hrun,h2,h3,h4⟩:=Qoq (P:=P) hT.h hu hz0 o.type w A n c xs Q7A str hbytes;refine⟨(A',c'),w',?_,trivial,hW.upd hO rfl rfl h3 h2 h4⟩;unfold execOp;simp only[ho,resolve,invoke,builtin,Sem.run_bind,Sem.run_pure,Result.andThen_ok,List.map_toArray,List.map_cons,List.map_nil,ha.eval hs,ha.eval hx,hrun]
theorem QpP(i:Nat){q m c2 bytes:Nat}{z:Value}[hT:Sl P t e 1 bytes](hz:∀w,(zeroValue e).run P w=.ok z w)(hz1:z.oneCell'=true)(hzc:z.cells=#[z])(ho:o.op=.call { callee:=.builtin .clear,args:=#[x],argTypes:=#[t] })(hw:Qo ops E o=some true)(hx:ev E x=some (.slice (some ⟨b,q,none⟩) m c2))(hO:O[i]? =some (.row (some ⟨b,0,none⟩) n c e 1 xs))(hm:0<m)(hq:q+m<=n):
  uE P ops N M W E O o Unit (fun _=>.tuple #[]) (fun _=>O.set i (.row (some ⟨b,0,none⟩) n c e 1 (ZL xs q (List.replicate m z)))) (fun _=>True):=
 Q00 hw fun ρ w ha hW=>by
  obtain⟨cur,hb,h2,h3,h4,h5⟩:=QaQ Q7A;have hcell:∀j,j<m->(w.cell? ⟨b,q+j,none⟩).isSome=true:=fun j hj=>by
   rw[cell_of_row w b (q+j) cur.toArray e (0,0) hb];simp;omega
  have hrun:=Lib.run_clear_slice (P:=P) w t e o.type z hT.h.und hz hzc hz1 b q m c2 hm hcell (fun j hj=>by simp [World.frozen?,hb]);refine⟨(),w.setCells b q (List.replicate m z),?_,trivial,hW.upd hO rfl rfl (Yn b _ w q) (Y5 (Ja _ w q cur hb) h2 h3 (by rw[VV];exact h4) (by rw[<- h5,QiN _ _ _ _ (by rw[List.length_replicate];omega)])) Q56⟩;unfold execOp;simp only[ho,resolve,invoke,builtin,Sem.run_bind,Sem.run_pure,Result.andThen_ok,List.map_toArray,List.map_cons,List.map_nil,ha.eval hx,hrun]
end
def IsE(ns:List (List UInt8))(i:Int):Prop:=(i=-1/\∀s∈ns,s≠[])\/∃k:Nat,i=(k:Int)/\ns[k]? =some []/\∀s∈ns.take k,s≠[]
theorem Q3e(s:ByteArray)(W:World):Calls Tryz.prog 112 ([Value.string s].toArray++#[]) W fun e w'=>e=.returned (.bool (s.data.toList==[]))/\Below W.heap.size W w':=Qcp s W
theorem Q6v{W:World}(hr:Rd W W.heap.size 1 A n (sv ns))(hn:n<=1048576):Calls Tryz.prog 146 #[.slice A n c,.func (.func 112) #[] #[]] W fun e w'=>∃i,e=.returned (.int .i64 i)/\IsE ns i/\Below W.heap.size W w':=by
 have HR:=Q2 hr;have hl:ns.length=n:=by have:=hr.len;unfold sv at this;simpa using this
 clear hr;go_enter Tryz.func146,Tryz.ntmps146;refine Qz (M:=[]) (W:=W) (N:=19) (E:=[(0,.slice A n c),(1,.func (.func 112) #[] #[])]) (O:=[]) ?_ mc3 (Wd.start [] W);refine yq<|yr<|yo zA<|yl<|yn<|yq<|yq<|yr<|yo zM<|yo zL<|yo zM<|yl<|yn<|yb ?_;refine Xu (ι:=Nat) (fun k=>k<=n/\∀s∈ns.take k,s≠[]) (fun k=>n - k) (fun k=>[(0,.slice A n c),(1,.func (.func 112) #[] #[]),(7,.int .i64 (n:Int)),(8,.int .i64 (k:Int))]) (fun _=>[]) 0 ⟨Nat.zero_le _,by simp⟩ mc1 Zc ?_;rintro k ⟨hk,hall⟩;have HA:=Q2 hall;clear hall;by_cases hkn:k<n
 ·obtain⟨b,o,s,rfl,hb,hs,hc⟩:=Vb HR.out hkn;have HSS:=Q2 hs;clear hs
  by_cases hse:s.data.toList=[]
  ·have he:(s.data.toList==[])=true:=by rw[hse];rfl
   refine Qqi ?_;refine yl<|yn<|y1<|yq<|yr<|yo zM<|yo zA<|yl<|yn<|yt<|yk<|yc<|yc<|yk<|yc ?_;exact Q7 mc4 rfl (.tmp rfl) (fun w hw=>⟨(k:Int),rfl,.inr ⟨k,rfl,by rw[HSS.out,hse],HA.out⟩,hw.k.below⟩)
  ·have he:(s.data.toList==[])=false:=beq_eq_false_iff_ne.2 hse;refine Qqi ?_;refine yl<|yn<|y0<|ys<|yn<|yr<|yo zP<|yo zM<|yl ?_;refine Qx (k+1) ⟨hkn,fun z hz=>?_⟩ Q3 mc2 Zc;rw[List.take_add_one,HSS.out] at hz
   simp only[Option.toList_some,List.mem_append,List.mem_singleton] at hz;rcases hz with hz|rfl
   ·exact HA.out z hz
   ·exact hse
 ·refine yq<|yr<|yo zlf<|yl<|yn<|yq<|y0<|ye<|yn<|yq<|yr<|yo zA<|yl<|yn<|yt ?_;refine Q7 mc4 rfl (.tmp rfl) (fun w hw=>⟨-1,rfl,.inl ⟨rfl,?_⟩,hw.k.below⟩);have h3:ns.take k=ns:=List.take_of_length_le Q3;have:=HA.out;rwa [h3] at this
def QtO(b c:Nat)(ns:List (List UInt8))(W:World)(e:Ending)(w':World):Prop:=e=.returned (.slice (some ⟨b,0,none⟩) (QF ns).length c)/\XM [b] W w'/\Rd w' w'.heap.size 1 (some ⟨b,0,none⟩) (QF ns).length (sv (QF ns))
theorem Q8J(h:∀s∈ns,s≠[]):QF ns=ns:=by
 unfold QF;rw[List.filter_eq_self];intro s hs;simpa using h s hs
theorem Q6d(h:ns[j]? =some s):QF (ns.take (j+1))=QF (ns.take j)++if s=[] then [] else [s]:=by
 unfold QF;rw[List.take_add_one,h,List.filter_append];congr 1;by_cases hs:s=[]
 ·rw[if_pos hs,hs];rfl
 ·rw[if_neg hs]
  simp [hs]
theorem Quf{l:List (List UInt8)}{u:List UInt8}(h:l[j]? =some u):(sv l)[j]? =some (.string ⟨u.toArray⟩):=by
 unfold sv;rw[List.getElem?_map,h];rfl
theorem Qty(l:List (List UInt8))(j:Nat)(u:List UInt8):(sv l).set j (.string ⟨u.toArray⟩)=sv (l.set j u):=by
 unfold sv;rw[List.map_set]
theorem QpU{A:List (List UInt8)}(h:A.length<=j):(A++ns.drop A.length)[j]? =ns[j]?:=by
 rw[List.getElem?_append_right h,List.getElem?_drop];congr 1;omega
theorem Qpp{A:List (List UInt8)}(h:A.length<ns.length):(A++ns.drop A.length).set A.length s=A++[s]++ns.drop (A++[s]).length:=by
 rw[List.set_append_right _ _ (Nat.le_refl _),Nat.sub_self,List.drop_eq_getElem_cons h,List.set_cons_zero,List.length_append];simp
structure Dl where
 j:Nat
theorem QiZ{W:World}(h:(Qf.row (some ⟨b,0,none⟩) n c 9 1 (sv ns)).on W)(hn:n<=1048576):Calls Tryz.prog 110 #[.slice (some ⟨b,0,none⟩) n c,.func (.func 112) #[] #[]] W (QtO b c ns W):=by
 have hl:ns.length=n:=by have:=h.1;rw[Xw] at this;omega
 have hlt:b<W.heap.size:=h.lt (b:=b) rfl;have hwd:Wd [b] W [.row (some ⟨b,0,none⟩) n c 9 1 (sv ns)] W:=(Wd.start [b] W).add (y:=.row (some ⟨b,0,none⟩) n c 9 1 (sv ns)) h (fun q hq _=>by cases hq;exact List.mem_singleton.2 rfl) Qn;have hnc:=Q1f 0 hwd rfl;clear h;go_enter Tryz.func110,Tryz.ntmps110;refine Qz (M:=[b]) (W:=W) (N:=42) (E:=[(0,.slice (some ⟨b,0,none⟩) n c),(1,.func (.func 112) #[] #[])]) (O:=[.row (some ⟨b,0,none⟩) n c 9 1 (sv ns)]) ?_ mc3 hwd;clear hwd;refine yq<|yr<|yo zA<|yl<|yn<|yq<|yr<|yo zM<|yo zM ?_;refine Qd (QY (fun i:Int=>.int .i64 i) (fun i=>IsE ns i) (fun _=>_) rfl rfl rfl (fun w hw=>(Q6v (Rd.of_own Kj) hn).mono Qjj)) rfl Q1 (fun i hi=>?_);refine yo zA<|yl<|yn<|yq<|yq<|yr ?_;rcases hi with ⟨rfl,hall⟩|⟨k,rfl,hk,hall⟩
 ·have HA:=Q2 (Q8J hall);clear hall;refine yo zM<|yo zet<|yl<|yn<|y1<|yq<|yr<|yo zM<|yo zA<|yl<|yn<|yt<|yc ?_;refine Q7 mc4 rfl (.tmp rfl) (fun w hw=>⟨?_,hw.k,?_⟩)
  ·rw[HA.out,hl]
  ·rw[HA.out,hl];exact Rd.of_own Kj
 ·have hkn:k<n:=by have:=(List.getElem?_eq_some_iff.1 hk).1;omega
  have hne:((k:Int)==-1)=false:=beq_eq_false_iff_ne.2 Q3;have HK:=Q2 hk;have HA:=Q2 (Q8J hall);have HC:=Q2 (show QF (ns.take (k+1))=ns.take k by rw[Q6d HK.out,if_pos rfl,List.append_nil,HA.out]);clear hall hk;refine yo zM<|yo zea<|yl<|yn<|y0<|ys<|yn<|yq<|yq<|yr<|yo zM<|yo zP<|yo zA<|yl<|yn<|yb ?_;refine Xu (ι:=Dl) (fun y=>k<y.j/\y.j<=n/\(QF (ns.take y.j)).length<y.j) (fun y=>n - y.j) (fun y=>[(0,.slice (some ⟨b,0,none⟩) n c),(1,.func (.func 112) #[] #[]),(5,.int .i64 ((QF (ns.take y.j)).length:Int)),(6,.int .i64 (y.j:Int))]) (fun y=>[.row (some ⟨b,0,none⟩) n c 9 1 (sv (QF (ns.take y.j)++ns.drop (QF (ns.take y.j)).length))]) ⟨k+1⟩ ⟨Nat.lt_succ_self k,hkn,by show (QF (ns.take (k+1))).length<k+1;rw[HC.out,List.length_take];omega⟩ (.cons rfl rfl (.cons rfl rfl (.cons rfl (by rw[HC.out,List.length_take,Nat.min_eq_left Q3]) Q0a))) (fun w hw=>?_) ?_
  ·simp only
   rw[HC.out,List.length_take,Nat.min_eq_left Q3,List.take_append_drop];exact hw
  rintro⟨j⟩ ⟨hkj,hjn,hij⟩;replace hkj:k<j:=hkj;replace hjn:j<=n:=hjn;replace hij:(QF (ns.take j)).length<j:=hij;obtain⟨A,hA⟩:∃A,QF (ns.take j)=A:=⟨_,rfl⟩;have HAA:=Q2 hA;rw[hA] at hij;simp only[hA];clear hA;by_cases hjlt:j<n
  ·obtain⟨s,hs⟩:∃s,ns[j]? =some s:=⟨_,List.getElem?_eq_getElem Q3⟩;have hcell:(sv (A++ns.drop A.length))[j]? =some (.string ⟨s.toArray⟩):=Quf (by rw[QpU Q3];exact hs);have HN:=Q2 (Q6d hs);clear hs
   by_cases hse:s=[]
   ·have he:((⟨s.toArray⟩:ByteArray).data.toList==[])=true:=by rw[hse];rfl
    have HM:=Q2 (show QF (ns.take (j+1))=A by rw[HN.out,if_pos hse,List.append_nil,HAA.out]);refine QsP ?_;refine yo zO<|yl<|yn<|y0<|ys<|yn<|yr<|yo zM<|yo zP<|yo zA<|yl ?_;refine Qx ⟨j+1⟩ ⟨by show k<j+1;omega,hjlt,by show (QF (ns.take (j+1))).length<j+1;rw[HM.out];omega⟩ (by show n - (j+1)<n - j;omega) (.cons rfl rfl (.cons rfl rfl (.cons rfl (by rw[HM.out]) Q0a))) (fun w hw=>?_);simp only;rw[HM.out];exact hw
   ·have he:((⟨s.toArray⟩:ByteArray).data.toList==[])=false:=beq_eq_false_iff_ne.2 hse;have HM:=Q2 (show QF (ns.take (j+1))=A++[s] by rw[HN.out,if_neg hse,HAA.out]);refine QsP ?_;refine yo zO<|yl<|yn<|y1<|yq<|yr<|yo zM<|yo zM<|yo zM ?_;refine Q4 (Z5 rfl rfl Q1 rfl rfl rfl (show A.length<n by omega)) ?_;refine QD (Z3 0 rfl rfl rfl rfl rfl rfl Q3) rfl (fun _ _=>?_);refine yl<|yn<|yr<|yo zM<|yo zP<|yo zA<|yl<|yn<|yr<|yo zM<|yo zP<|yo zA<|yl ?_;refine Qx ⟨j+1⟩ ⟨by show k<j+1;omega,hjlt,by show (QF (ns.take (j+1))).length<j+1;rw[HM.out,List.length_append];show A.length+1<j+1;omega⟩ (by show n - (j+1)<n - j;omega) (.cons rfl rfl (.cons rfl rfl (.cons rfl (by rw[HM.out,List.length_append];go_num) Q0a))) (fun w hw=>?_)
    simp only;rw[HM.out,<- Qpp Q3,<- Qty];have h:=hw;rw[Nat.zero_add] at h;exact h
  ·have hjn':j=n:=by omega
   have HZ:=Q2 (show QF ns=A by rw[<- HAA.out,List.take_of_length_le Q3]);have hc1:ZY (some ⟨b,0,none⟩) c A.length 1=some ⟨b,A.length,none⟩:=by
    unfold ZY;rw[if_neg Q3];simp [Addr.add_mid]
   have hc0:ZY (some ⟨b,0,none⟩) c 0 1=some ⟨b,0,none⟩:=by
    unfold ZY;rw[if_neg Q3];simp [Addr.add_mid]
   refine yq<|yq<|yr<|yo zM<|yo zM<|yo zL<|yo zlf<|yl<|yn<|y0<|ye<|yn<|yq<|yr<|yo zM<|yo zM ?_;refine Q4 (Q4j (l:=A.length) rfl rfl Q1 rfl rfl rfl Q3) ?_;rw[hc1];refine QD (QpP 0 (z:=.string ⟨#[]⟩) (fun w=>by kernel_rfl) rfl rfl rfl rfl rfl rfl Q3 Q3) rfl (fun _ _=>?_);refine yl<|yn<|yq<|yr<|yo zM<|yo zM ?_;refine Q4 (Q1g (h:=A.length) rfl rfl Q1 rfl rfl rfl Q3) ?_;rw[hc0];refine yo zA<|yl<|yn<|yt ?_;refine Q7 mc4 rfl (.tmp rfl) (fun w hw=>⟨by rw[HZ.out],hw.k,?_⟩);rw[HZ.out];have h:=(Rd.of_own Kj).take (m:=A.length) Q3;have e:(ZL (sv (A++ns.drop A.length)) A.length (List.replicate (n - A.length) (.string ⟨#[]⟩))).take (A.length*1)=sv A:=by
    refine List.ext_getElem? fun q=>?_;rw[List.getElem?_take];split
    ·rw[Q0M,if_neg Q3]
     unfold sv;rw[List.getElem?_map,List.getElem?_map,List.getElem?_append_left Q3]
    ·rw[List.getElem?_eq_none (by rw[Xw];omega)]
   rw[e] at h;exact h
end
section
variable {A:Option Addr}{B c g i:Nat}{F:List Rl}{W:World}{n:Int}{r:Rl}{xs:List UInt8}{z:Wz}
theorem Q1X(n:Int):IntKind.u8.wrap n=((UInt8.ofNat (n % 256).toNat).toNat:Int):=by
 have h:IntKind.u8.wrap n=n % 256:=rfl;have h0:=Int.emod_nonneg n (show (256:Int)≠0 by decide);have h1:=Int.emod_lt_of_pos n (show (0:Int)<256 by decide);rw[h,UInt8.toNat_ofNat_of_lt' (by show (n % 256).toNat<256;omega)];omega
theorem Q9M:∀(m:Nat) (n:Int) (k:Nat),0<=n->k<m->(leW m n)[k]? =some (UInt8.ofNat (n / 2 ^ (8*k) % 256).toNat)
 |0,_,_,_,h=>absurd h (Nat.not_lt_zero _)
 |m+1,n,0,h0,_=>by simp [leW]
 |m+1,n,k+1,h0,h=>by
  rw[leW,List.getElem?_cons_succ,Q9M m (n / 256) k (Int.ediv_nonneg h0 Q1) Q3,Int.ediv_ediv_of_nonneg (by decide:(0:Int)<=256)];rw[show (256:Int)*2 ^ (8*k)=2 ^ (8*(k+1)) by rw[show 8*(k+1)=8+8*k by omega,Int.pow_add];rfl]
theorem Q6P{big:Bool}{m:Nat}(h0:0<=n)(hi:i<m):(V4 big m n)[i]? =some (UInt8.ofNat (n / 2 ^ (8*(if big then m - 1 - i else i)) % 256).toNat):=by
 unfold V4;cases big with
 |false=>exact Q9M m n i h0 hi
 |true=>
  show (leW m n).reverse[i]? =_;rw[List.getElem?_reverse (by rw[Q3r];exact hi),Q3r];exact Q9M m n (m - 1 - i) h0 Q3
theorem Q8C{α:Type}{l:List α}{x:α}(h:l[i]? =some x):l.take (i+1)=l.take i++[x]:=by rw[List.take_add_one,h];rfl
theorem Jw(h:JO r)(hc:XP r n=true):(Z2 r n).length<=30:=by
 obtain⟨h1,h2⟩:=QcG.1 hc;unfold Z2;split
 ·next h3=>
  have a:=h.dec h3;have b:=h.mn3 h3;have:=Lib.itoa_length_le n Q3 Q3;rw[List.length_append];simp;omega
 ·next h3=>
  have a:=h.num (h.kind.resolve_right h3);rw[Q2k];omega
theorem QrV{n:Nat}{w:World}{A':Option Addr}{b:List UInt8}{O:List Qf}{c':Nat}(i j:Nat)(h:XV W z B g F A c xs n)(hw:Wd (wM g A xs.length c) W O w)(hO:O[i]? =some (.blk g (z.obj A' (xs++b).length c' n)))(hP:O[j]? =some (Kw A' c' (xs++b)))(hb:b.length<=30):WrE z g W A c xs (.ok (b,n)) n 30 (.returned (.tuple #[])) w:=
 Ye h i j hw hO hP rfl hb Q3
theorem Q6j{n:Nat}(h:XV W z B g F A c xs n){sb sn sp:Value}(hr:JO r){x:Int}(hx:XP r x=true)(hl:xs.length<=1099511627776):
  Calls Tryz.prog 84 #[.pointer (some ⟨g,0,none⟩),.agg (ruC r sb sn sp).toArray,.int .i64 x] W (WrE z g W A c xs (.ok (Z2 r x,n)) n 30):=by
 have H:=Q2 h;have hwd:=h.wd;have hkind:=hr.kind;have hdec:=hr.dec;have hmn3:=hr.mn3;have hnum:=hr.num;have hlen:=Jw hr hx;obtain⟨hx1,hx2⟩:=QcG.1 hx;obtain⟨uy,hys⟩:∃uy,Z2 r x=uy:=⟨_,rfl⟩;rw[hys] at hlen ⊢;have HYS:=Q2 hys;clear h hr hx hys;obtain⟨name,kind,bs,size,big,mn,mx,stop,count,elem,names,parts⟩:=r;obtain⟨Af,nn,cf⟩:=z;simp only at hkind hdec hmn3 hnum hx1 hx2;simp only[ruC];go_enter Tryz.func84,Tryz.ntmps84;refine Qz (M:=wM g A xs.length c) (W:=W) (N:=55) (E:=[Yq,QrN,(2,.int .i64 x)]) (O:=[.blk g QoJ,.row A xs.length c 5 1 (bv xs)]) ?_ XW hwd;clear hwd;by_cases h3:kind=3
 ·subst h3;have hd:=hdec rfl;have hm0:=hmn3 rfl;obtain⟨sB,hsB⟩:∃b:UInt8,UInt8.ofNat (stop % 256).toNat=b:=⟨_,rfl⟩
  have hcv:IntKind.u8.wrap stop=(sB.toNat:Int):=by rw[Q1X,hsB]
  obtain⟨it,hit⟩:∃it,Lib.itoa x=it:=⟨_,rfl⟩;have HY:=Q2 (show uy=it++[sB] by rw[<- HYS.out];unfold Z2 ZJ;rw[if_pos rfl,hit,hsB]);have hil:it.length<=25:=by rw[<- hit];have:=Lib.itoa_length_le x Q3 Q3;omega
  have HG:=Q2 H.out.row;have hsz:(⟨it.toArray⟩:ByteArray).size=it.length:=by simp [ByteArray.size]
  have hl1:xs.length+(⟨it.toArray⟩:ByteArray).size=(xs++it).length:=by rw[hsz,List.length_append]
  have hb1:bv xs++Lib.strCells ⟨it.toArray⟩=bv (xs++it):=by unfold bv;rw[List.map_append];rfl
  have hl2:(xs++it).length+1=(xs++uy).length:=by rw[HY.out,List.length_append,List.length_append,List.length_append];rfl
  have hb2:bv (xs++it)++[.int .u8 (sB.toNat:Int)]=bv (xs++uy):=by rw[HY.out];unfold bv;simp
  have hbnd:(xs++it).length<=1099511627876:=by rw[List.length_append];omega
  have HIT:=Q2 hit;clear hit hsz;refine yq<|yr ?_;refine yB fun b4=>?_;refine yl<|yn<|yq<|yq<|yr<|yo zF<|yo (zB 0)<|yo zet<|yl<|yn<|y1<|yq ?_;refine Xk [.blk b4 Qqo,.blk g QoJ] [15] Q5 ?_;refine Qc 0 rfl Q5 Jm zM ?_;refine Qc 1 rfl Q5 Jm zM ?_;refine Qc 2 rfl Q5 Jm mc5 ?_;refine Qc 3 rfl Q5 Jm zF ?_;refine Qc 4 rfl Q5 Jm (zB 1) ?_;refine Qc 5 rfl Q5 Jm zM ?_;refine Qc 6 rfl Q5 Jm (Ql (f:=114) rfl rfl Q1 rfl rfl (fun w hw=>Q2d (H.out.gv w Q5i) Q3 Q3)) ?_;rw[HIT.out];refine Qc 8 rfl Q5 Jm zF ?_;refine Qc 9 rfl Q5 Jm (zB 0) ?_;refine Qc 10 rfl Q5 Jm Q2b ?_;refine Q6u 7 11 Q5 (Jr rfl rfl (Q8U 2 Tryz.underlying9 Q5 rfl rfl rfl rfl rfl Q3) (fun _=>.inr Jm) rfl Q1 (fun z1 _=>?_)) (Jr rfl rfl VE KZ rfl Q1 (fun bn _=>?_))
  ·rw[hl1,hb1];refine QL 11 Q5 rfl rfl VE KZ rfl Q1 (fun bn _=>?_);refine QL 12 Q5 rfl rfl Q54 KZ rfl Q1 (fun z2 _=>?_);rw[hl2,hb2];refine Qc 13 rfl Q5 Q0G mc5 ?_;refine Qc 14 rfl Q5 Q0G zF ?_;refine X6 15 Q5 rfl rfl Q3A JR rfl (fun _ _=>?_);refine X8 ?_ Q5;refine yn<|yt<|yc ?_;exact QnA
  ·refine QL 7 Q5 rfl rfl (Q8U 3 Tryz.underlying9 Q5 rfl rfl rfl rfl rfl Q3) KZ rfl Q1 (fun z1 _=>?_);rw[hl1,hb1];refine QL 12 Q5 rfl rfl Q54 KZ rfl Q1 (fun z2 _=>?_);rw[hl2,hb2];refine Qc 13 rfl Q5 Q0G mc5 ?_;refine Qc 14 rfl Q5 Q0G zF ?_;refine X6 15 Q5 rfl rfl Q3A JR rfl (fun _ _=>?_);refine X8 ?_ Q5;refine yn<|yt<|yc ?_;exact QnA
 ·have h2:kind=2:=hkind.resolve_right h3;subst h2;obtain⟨hs1,hs4,hm0,hmm,hmx⟩:=hnum rfl;obtain⟨sz,rfl⟩:∃sz:Nat,size=(sz:Int):=Qeb
  have hx0:0<=x:=by omega
  have HY:=Q2 (show uy=V4 big sz x by rw[<- HYS.out];unfold Z2;rw[if_neg (show ¬(2:Int)=3 by decide)];rfl);have hyl:uy.length=sz:=by rw[HY.out,Q2k]
  have hne3:((2:Int)==3)=false:=rfl;clear hdec hnum hkind hmn3;refine yq<|yr ?_;refine yB fun b4=>?_;refine yl<|yn<|yq<|yq<|yr<|yo zF<|yo (zB 0)<|yo zea<|yl<|yn<|y0<|ys<|yn<|yq<|yr<|yo zF<|yo (zB 0)<|yo zM<|yl<|yn<|yb ?_;refine Xu (ι:=Nat×Option Addr×Nat) (fun y=>y.1<=sz) (fun y=>sz - y.1) (fun y=>[Yq,(2,.int .i64 x),Q0C,(27,.int .i64 (sz:Int)),(28,.int .i64 (y.1:Int))]) (fun y=>[.blk b4 Qrb,.blk g (.cells ([.slice Af nn cf,.slice y.2.1 (xs++uy.take y.1).length y.2.2,.int .i64 (n:Int)]:List Value).toArray 77 (0,0)),.row y.2.1 (xs++uy.take y.1).length y.2.2 5 1 (bv (xs++uy.take y.1))]) (0,A,c) Z4 Vg (fun w hw=>?_) ?_
  ·simp only[List.take_zero,List.append_nil]
   exact hw
  rintro⟨i,Ai,ci⟩ hi;replace hi:i<=sz:=hi;show sE _ _ _ _ _ [Yq,(2,.int .i64 x),Q0C,(27,.int .i64 (sz:Int)),(28,.int .i64 (i:Int))] [.blk b4 Qrb,.blk g (.cells ([.slice Af nn cf,.slice Ai (xs++uy.take i).length ci,.int .i64 (n:Int)]:List Value).toArray 77 (0,0)),.row Ai (xs++uy.take i).length ci 5 1 (bv (xs++uy.take i))] _;by_cases hlt:i<sz
  ·obtain⟨k,hk⟩:∃k,(if big then sz - 1 - i else i)=k:=⟨_,rfl⟩
   have hk4:k<4:=by rw[<- hk];split<;>omega
   obtain⟨cB,hcB⟩:∃b:UInt8,UInt8.ofNat (x / 2 ^ (8*k) % 256).toNat=b:=⟨_,rfl⟩;have hcv:IntKind.u8.wrap (x / 2 ^ (8*(k:Int)).toNat)=(cB.toNat:Int):=by rw[Q1X,<- hcB];rw[show (8*(k:Int)).toNat=8*k by omega]
   have hy:uy[i]? =some cB:=by rw[HY.out,Q6P hx0 hlt,hk,hcB]
   have hl1:(xs++uy.take i).length+1=(xs++uy.take (i+1)).length:=by rw[Q8C hy,List.length_append,List.length_append,List.length_append];rfl
   have hb1:bv (xs++uy.take i)++[.int .u8 (cB.toNat:Int)]=bv (xs++uy.take (i+1)):=by rw[Q8C hy];unfold bv;simp
   have hbnd:(xs++uy.take i).length<=1099511627876:=by rw[List.length_append,List.length_take];omega
   clear hcB hy;cases big with
   |true=>
    have hk':sz - 1 - i=k:=hk;have e1:(sz:Int) - 1 - (i:Int)=(k:Int):=by omega
    refine Qql ?_;refine yo zA<|yl<|yn<|yq<|yq<|yr<|yo zF<|yo (zB 0)<|yl<|yn<|y1<|yr<|yo zF<|yo (zB 0)<|yo zQ<|yo zM<|yo zQ ?_;refine Q4 Qi7 ?_;refine yo zA<|yl<|yn ?_;rw[e1];refine QsE ?_;refine QL 9 Q5 rfl rfl VE Q0g rfl Q1 (fun bn _=>?_);refine QL 10 Q5 rfl rfl Q54 Q0g rfl Q1 (fun z2 _=>?_);refine QlQ ?_;refine X6 13 Q5 rfl rfl Q3A JR rfl (fun _ _=>?_);refine X8 ?_ Q5;refine yn<|yr<|yo zP<|yo zM<|yl ?_;exact QsF
   |false=>
    have hk':i=k:=hk;subst hk';refine Qql ?_;refine yo zA<|yl<|yn<|yq<|yq<|yr<|yo zF<|yo (zB 0)<|yl<|yn<|y0<|ys<|yn ?_;refine QsE ?_;refine QL 9 Q5 rfl rfl VE Q0g rfl Q1 (fun bn _=>?_);refine QL 10 Q5 rfl rfl Q54 Q0g rfl Q1 (fun z2 _=>?_);refine QlQ ?_;refine X6 13 Q5 rfl rfl Q3A JR rfl (fun _ _=>?_);refine X8 ?_ Q5;refine yn<|yr<|yo zP<|yo zM<|yl ?_;exact QsF
  ·have hie:uy.take i=uy:=List.take_of_length_le Q3;refine yq<|yr<|yo zlf<|yl<|yn<|yq<|y0<|ye<|yx<|yx<|yu ?_;refine Zi Kf rfl (fun w hw=>?_);rw[hie] at hw;exact QrV 1 2 H.out hw rfl rfl hlen
end
end Go.Proofs.YtphkhfdmlcnoeaaGreatDoor
