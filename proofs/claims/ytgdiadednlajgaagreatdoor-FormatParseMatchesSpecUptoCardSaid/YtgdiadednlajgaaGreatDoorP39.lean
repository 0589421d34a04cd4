import Derived.Test.YtgdiadednlajgaaGreatDoorP38
namespace Go.Proofs.YtgdiadednlajgaaGreatDoor
set_option linter.unusedVariables false
set_option linter.unusedSimpArgs false
open Go.RowKit
theorem Q6a{k:Int}(h:k=3∨k=5∨k=9):Z7 k=true:=by rcases h with rfl|rfl|rfl<;>rfl
theorem Q8z{k:Int}(h:¬(k=3∨k=5∨k=9)):Z7 k=false:=by unfold Z7 Zu;simp;omega
theorem Q6T{k:Int}(h:k=2∨k=4∨k=5):Z4 k=true:=by rcases h with rfl|rfl|rfl<;>rfl
theorem Q8s{k:Int}(h:¬(k=2∨k=4∨k=5)):Z4 k=false:=by unfold Z4 Zu;simp;omega
theorem Q8W{k:Int}(h:k=2∨k=3):Zf k=true:=by rcases h with rfl|rfl<;>rfl
theorem Qa8{k:Int}(h:¬(k=2∨k=3)):Zf k=false:=by unfold Zf Zu;simp;omega
theorem Q5v{k:Int}(h:k=6∨k=10):Qp k=true:=by rcases h with rfl|rfl<;>rfl
theorem Q7n{k:Int}(h:¬(k=6∨k=10)):Qp k=false:=by unfold Qp Zu;simp;omega
theorem Q9z{k:Int}(h:k=6∨k=9):XJ k=true:=by rcases h with rfl|rfl<;>rfl
theorem QbR{k:Int}(h:¬(k=6∨k=9)):XJ k=false:=by unfold XJ Zu;simp;omega
theorem Q3y{u:Bool}{S s:List UInt8}(h:u=true):S++[32]++s=S++spW u s:=by rw[h];unfold spW;simp
theorem Q7o{u:Bool}{S s:List UInt8}(h:u=false):S=S++spW u s:=by rw[h];unfold spW;simp
theorem YL{n:Int}(h:0≤n∧n≤1000000000000000000):(Lib.itoa n).length≤21:=Lib.itoa_length_le n (by omega) (by omega)
theorem Q9V(k:Int):(Xz k).length≤8:=by
 unfold Xz
 by_cases h:(k - 1).toNat<10
 ·rcases (show (k - 1).toNat=0∨(k - 1).toNat=1∨(k - 1).toNat=2∨(k - 1).toNat=3∨(k - 1).toNat=4∨(k - 1).toNat=5∨(k - 1).toNat=6∨(k - 1).toNat=7∨(k - 1).toNat=8∨(k - 1).toNat=9 by omega) with h|h|h|h|h|h|h|h|h|h<;>rw[h]<;>decide
 ·rw[List.getD_eq_getElem?_getD,List.getElem?_eq_none (by show 10≤_;omega)]
  decide
theorem Q9K{bs:List UInt8}{j:Nat}(h:j<bs.length):Jr (bs.take j)++Kx (bs.getD j 0)=Jr (bs.take (j+1)):=by
 unfold Jr
 rw[List.take_add_one,List.getElem?_eq_getElem h,List.getD_eq_getElem?_getD,List.getElem?_eq_getElem h,List.map_append,List.flatten_append]
 simp only[Option.toList,List.map_cons,List.map_nil,List.flatten_cons,List.flatten_nil,List.append_nil]
 rfl
theorem Qaa(x:UInt8):(Kx x).length=2:=rfl
theorem Q5u{l:List Int}{j:Nat}(h:j<l.length):(iv l)[j]? =some (.int .i64 (l.getD j 0)):=by
 unfold iv
 rw[List.getElem?_map,List.getD_eq_getElem?_getD,List.getElem?_eq_getElem h]
 rfl
theorem Q9B{l:List Int}{j:Nat}(h:j<l.length):l.getD j 0∈l:=by
 rw[List.getD_eq_getElem?_getD,List.getElem?_eq_getElem h];exact List.getElem_mem _
theorem Qd7{bs:List UInt8}{j:Nat}(h:j<bs.length):(bv bs)[j]? =some (.int .u8 ((bs.getD j 0).toNat:Int)):=by
 unfold bv
 rw[List.getElem?_map,List.getD_eq_getElem?_getD,List.getElem?_eq_getElem h]
 rfl
theorem Qde{l:List (List UInt8)}{j:Nat}(h:j<l.length):(sv l)[j]? =some (.string ⟨(l.getD j []).toArray⟩):=by
 unfold sv
 rw[List.getElem?_map,List.getD_eq_getElem?_getD,List.getElem?_eq_getElem h]
 rfl
theorem Q9L{l:List (List UInt8)}{j:Nat}(h:j<l.length):l.getD j []∈l:=by
 rw[List.getD_eq_getElem?_getD,List.getElem?_eq_getElem h];exact List.getElem_mem _
def Yw(F:List Rl)(r:Rl)(j:Nat):List UInt8:=((List.range j).map fun i=>32::XW F r i).flatten
theorem Q69(F:List Rl)(r:Rl)(j:Nat):Yw F r (j+1)=Yw F r j++32::XW F r j:=by
 unfold Yw
 rw[List.range_succ]
 simp
def Kq(F:List Rl)(i:Nat):List UInt8:=((F.take i).map (Q1y F)).flatten
theorem Q8b{F:List Rl}{i:Nat}{r:Rl}(h:F[i]? =some r):Kq F (i+1)=Kq F i++Q1y F r:=by
 unfold Kq
 rw[List.take_add_one,h]
 simp
theorem Q3o(c:UInt8):IntKind.i64.wrap (c.toNat:Int)=(c.toNat:Int):=IntWalk.i64_in _ (by have:=c.toNat_lt;omega)
section
variable {A:Option Addr}{n c:Nat}{W:World}{F:List Rl}
set_option maxRecDepth 100000 in
set_option maxHeartbeats 32000000 in
theorem Y5(hf:Xq W W.heap.size A n F)(hF:FOk F)(hn:n≤40)(hn0:0<n)(hnm:∀r∈F,r.name.length≤1048576∧∀x∈r.names,x.length≤1048576):
  Calls Tryz.prog 20 #[.agg #[.slice A n c]] W (fun e w'=>e=.returned (.string ⟨(Kq F n).toArray⟩)∧Below W.heap.size W w'):=by
 have hlen:F.length=n:=hf.1;obtain⟨b,o,rfl⟩:=hf.addr (by omega);have HFM:=Lib.hid hf;have HF:=Lib.hid hF;have HLEN:=Lib.hid hlen;have HNM:=Lib.hid hnm;clear hf hF hlen hnm
 go_enter Tryz.func20,Tryz.ntmps20
 refine QE (M:=[]) (W:=W) (N:=221) (E:=[(0,.agg #[.slice (some ⟨b,o,none⟩) n c])]) (O:=[]) ?_ (Ag.cons (Ag.nil rfl rfl) rfl) (Wd.start [] W);refine yq<|yr ?_;refine yB fun b1=>?_;refine yo zA<|yl<|yn<|yq<|yr<|yo zA<|yl<|yn<|yq<|yq<|yr<|yo zA<|yl<|yn<|yb ?_;refine X0 (ι:=Nat) (fun y=>y≤n∧(Kq F y).length≤y*100000000) (fun y=>n - y) (fun y=>[(1,.pointer (some ⟨b1,0,none⟩)),(3,.string ⟨(Kq F y).toArray⟩),(4,.int .i64 (y:Int))]) (fun _=>[.blk b1 (.cells ([.slice (some ⟨b,o,none⟩) n c]:List Value).toArray 24 (0,0))]) 0 [0] (by decide) ⟨Nat.zero_le _,Nat.zero_le _⟩ (.cons rfl rfl (.cons rfl rfl (.cons rfl rfl .nil))) rfl ?_
 rintro i ⟨hi,hS0⟩
 by_cases hin:i<n
 ·obtain⟨rk,Ab,cb,An,cn,Ap,cp,hrk,hrg,hlk⟩:=HFM.out.rl hin;have hok:=HF.out i rk hrk;rw[HLEN.out] at hok;have hst:=Q8b hrk;have HST:=Lib.hid hst;have hnm:=HNM.out rk (List.mem_of_getElem? hrk);have hb:=hlk.b;have hp:=hlk.p;have hnn:=hlk.n
  have hall:∀x:Int,0≤x∧x<n→∃rc Ac cc Ad cd Ae ce,W.rangeAt b (o+x.toNat*12) (ruC rc (.slice Ac rc.bs.length cc) (.slice Ad rc.names.length cd) (.slice Ae rc.parts.length ce))∧Zv F x=rc.name∧rc.name.length≤1048576:=fun x hx=>by
   obtain⟨rc,Ac,cc,Ad,cd,Ae,ce,hrc,hrgc,_⟩:=HFM.out.rl (i:=x.toNat) (by omega);exact⟨rc,Ac,cc,Ad,cd,Ae,ce,hrgc,Q0c hrc,(HNM.out rc (List.mem_of_getElem? hrc)).1⟩
  have HALL:=Lib.hid hall;have HB:=Lib.hid hb;have HP:=Lib.hid hp;have HNN:=Lib.hid hnn;have HOK:=Lib.hid hok;clear hlk hall hb hp hnn hrk hst hok;obtain⟨name,kind,bs,size,big,mn,mx,stop,count,elem,names,parts⟩:=rk
  simp only[ruC] at hrg
  obtain⟨hn1,hn2⟩:=hnm
  simp only at hn1 hn2
  have HN2:=Lib.hid hn2;have hkd:1≤kind∧kind≤10:=HOK.out.kind;have hkw:=Q9V kind;have hb16:bs.length≤16:=HOK.out.bs16;have hp12:parts.length≤12:=HOK.out.p12;clear hn2;obtain⟨S0,hS0'⟩:∃S,Kq F i=S:=⟨_,rfl⟩;rw[hS0'] at hS0;rw[hS0'] at HST
  show sE _ _ _ _ _ [(1,.pointer (some ⟨b1,0,none⟩)),(3,.string ⟨(Kq F i).toArray⟩),(4,.int .i64 (i:Int))] [.blk b1 (.cells ([.slice (some ⟨b,o,none⟩) n c]:List Value).toArray 24 (0,0))] _
  rw[hS0'];clear hS0'
  have hSb:S0.length≤4000000000:=by omega
  refine yq<|yq<|yr<|yo zM<|yo zF<|yo (zB 0)<|yo zL<|yo zlt<|yl<|yn<|y1<|ys<|yn<|yq<|yb<|yq<|yr<|yo zF<|yo (zB 0)<|yo zM<|yo zi<|yo zE ?_;refine yA fun b5=>?_;refine yW 0 ?_;refine yl<|yn<|yq<|Xm (by kernel_rfl) (by kernel_rfl) ?_;refine Qd zM ?_;refine Qd zF ?_;refine Qd (zB 0) ?_;refine Qd (X9 (r:=S0++name) rfl rfl rfl (by decide) rfl rfl rfl (by (try simp only[List.length_append,List.length_cons,List.length_nil]);omega)) ?_;refine Qd (X9 (r:=S0++name++[32]) rfl rfl rfl (by decide) rfl rfl rfl (by (try simp only[List.length_append,List.length_cons,List.length_nil]);omega)) ?_;refine Qd zF ?_;refine Qd (zB 0) ?_;refine Qd (Q4 (f:=40) rfl rfl (by decide) rfl rfl (fun w hw=>Q0x hkd w)) ?_;refine Qd (X9 (r:=S0++name++[32]++Xz kind) rfl rfl rfl (by decide) rfl rfl rfl (by (try simp only[List.length_append,List.length_cons,List.length_nil]);omega)) ?_;refine Qd zA ?_;refine XS ?_;refine yn ?_;obtain⟨S1,hS1⟩:∃S,S0++name++[32]++Xz kind=S:=⟨_,rfl⟩
  have hl1:S1.length≤S0.length+1100000:=by rw[← hS1];simp only[List.length_append,List.length_cons,List.length_nil];omega
  rw[hS1];have HS1:=Lib.hid hS1;clear hS1;refine Jd (ι:=List UInt8) (fun T=>T=S1++(if kind==1 then [32] else [])∧T.length≤S1.length+1) (fun T=>[(1,.pointer (some ⟨b1,0,none⟩)),(3,.string ⟨(T).toArray⟩),(4,.int .i64 (i:Int)),(5,.pointer (some ⟨b5,0,none⟩))]) (fun _=>[.blk b5 (.cells ([.string ⟨name.toArray⟩,.int .i64 kind,.slice Ab bs.length cb,.int .i64 size,.bool big,.int .i64 mn,.int .i64 mx,.int .i64 stop,.int .i64 count,.int .i64 elem,.slice An names.length cn,.slice Ap parts.length cp]:List Value).toArray 52 (0,0)),.blk b1 (.cells ([.slice (some ⟨b,o,none⟩) n c]:List Value).toArray 24 (0,0))]) ?_ ?_
  ·by_cases hk:kind=1
   ·refine yq<|yr<|yo zF<|yo (zB 0)<|yo zet<|yl<|yn<|y1<|yr<|yo zM ?_;refine Q1 (X9 (r:=S1++[32]) rfl rfl rfl (by decide) rfl rfl rfl (by (try simp only[List.length_append,List.length_cons,List.length_nil]);omega)) ?_;refine yo zA<|yl ?_;refine XX (S1++[32]) [0,1] (by decide) ⟨by rw[beq_iff_eq.2 hk];rfl,by (try simp only[List.length_append,List.length_cons,List.length_nil]);omega⟩ (.cons rfl rfl (.cons rfl rfl (.cons rfl rfl (.cons rfl rfl .nil)))) rfl
   ·refine yq<|yr<|yo zF<|yo (zB 0)<|yo zef<|yl<|yn<|y0<|ys ?_;refine XX (S1) [0,1] (by decide) ⟨by rw[beq_eq_false_iff_ne.2 hk];exact(List.append_nil _).symm,by (try simp only[List.length_append,List.length_cons,List.length_nil]);omega⟩ (.cons rfl rfl (.cons rfl rfl (.cons rfl rfl (.cons rfl rfl .nil)))) rfl
  rintro S2 ⟨hS2,hm2⟩
  have HS2:=Lib.hid hS2
  have hl2:S2.length≤S0.length+1100001:=by omega
  clear hS2 hm2 hl1
  show sE _ _ _ _ _ [(1,.pointer (some ⟨b1,0,none⟩)),(3,.string ⟨(S2).toArray⟩),(4,.int .i64 (i:Int)),(5,.pointer (some ⟨b5,0,none⟩))] [.blk b5 (.cells ([.string ⟨name.toArray⟩,.int .i64 kind,.slice Ab bs.length cb,.int .i64 size,.bool big,.int .i64 mn,.int .i64 mx,.int .i64 stop,.int .i64 count,.int .i64 elem,.slice An names.length cn,.slice Ap parts.length cp]:List Value).toArray 52 (0,0)),.blk b1 (.cells ([.slice (some ⟨b,o,none⟩) n c]:List Value).toArray 24 (0,0))] _
  refine Jd (ι:=List UInt8) (fun T=>T=S2++Jr bs∧T.length≤S2.length+32) (fun T=>[(1,.pointer (some ⟨b1,0,none⟩)),(3,.string ⟨(T).toArray⟩),(4,.int .i64 (i:Int)),(5,.pointer (some ⟨b5,0,none⟩))]) (fun _=>[.blk b5 (.cells ([.string ⟨name.toArray⟩,.int .i64 kind,.slice Ab bs.length cb,.int .i64 size,.bool big,.int .i64 mn,.int .i64 mx,.int .i64 stop,.int .i64 count,.int .i64 elem,.slice An names.length cn,.slice Ap parts.length cp]:List Value).toArray 52 (0,0)),.blk b1 (.cells ([.slice (some ⟨b,o,none⟩) n c]:List Value).toArray 24 (0,0))]) ?_ ?_
  ·refine yq<|yr<|yo zA<|yl<|yn<|yb ?_;refine X0 (ι:=Nat) (fun j=>j≤bs.length) (fun j=>bs.length - j) (fun j=>(6,.int .i64 (j:Int))::[(1,.pointer (some ⟨b1,0,none⟩)),(3,.string ⟨(S2++Jr (bs.take j)).toArray⟩),(4,.int .i64 (i:Int)),(5,.pointer (some ⟨b5,0,none⟩))]) (fun _=>[.blk b5 (.cells ([.string ⟨name.toArray⟩,.int .i64 kind,.slice Ab bs.length cb,.int .i64 size,.bool big,.int .i64 mn,.int .i64 mx,.int .i64 stop,.int .i64 count,.int .i64 elem,.slice An names.length cn,.slice Ap parts.length cp]:List Value).toArray 52 (0,0)),.blk b1 (.cells ([.slice (some ⟨b,o,none⟩) n c]:List Value).toArray 24 (0,0))]) 0 [0,1] (by decide) (Nat.zero_le _) (.cons rfl rfl (.cons rfl rfl (.cons rfl (by show Value.string ⟨(S2).toArray⟩=.string ⟨(S2++Jr (bs.take 0)).toArray⟩;rw[List.take_zero];show _=Value.string ⟨(S2++[]).toArray⟩;rw[List.append_nil]) (.cons rfl rfl (.cons rfl rfl .nil))))) rfl ?_;intro j hj
   have hh:(Jr (bs.take j)).length≤32:=by rw[Ya,List.length_take];omega
   by_cases hjn:j<bs.length
   ·have hst:=Q9K hjn;obtain⟨bb,bo,rfl,_,hc⟩:=HB.out.2 (by show 0<bs.length;omega);have hcj:=hc j _ (Qd7 hjn);obtain⟨x,hx⟩:∃x,bs.getD j 0=x:=⟨_,rfl⟩;obtain⟨H,hH⟩:∃x,Jr (bs.take j)=x:=⟨_,rfl⟩;rw[hx,hH] at hst;rw[hH] at hh;rw[hx] at hcj;have hxb:=Qaa x;have HSH:=Lib.hid hst;clear hc hst hx
    show sE _ _ _ _ _ ((6,.int .i64 (j:Int))::[(1,.pointer (some ⟨b1,0,none⟩)),(3,.string ⟨(S2++Jr (bs.take j)).toArray⟩),(4,.int .i64 (i:Int)),(5,.pointer (some ⟨b5,0,none⟩))]) [.blk b5 (.cells ([.string ⟨name.toArray⟩,.int .i64 kind,.slice (some ⟨bb,bo,none⟩) bs.length cb,.int .i64 size,.bool big,.int .i64 mn,.int .i64 mx,.int .i64 stop,.int .i64 count,.int .i64 elem,.slice An names.length cn,.slice Ap parts.length cp]:List Value).toArray 52 (0,0)),.blk b1 (.cells ([.slice (some ⟨b,o,none⟩) n c]:List Value).toArray 24 (0,0))] _
    rw[hH];clear hH;refine yq<|yq<|yr<|yo zM<|yo zF<|yo (zB 0)<|yo zL<|yo zlt<|yl<|yn<|y1<|ys<|yn<|yq<|yb<|yr<|yo zM<|yo zF<|yo (zB 0)<|yo zM<|yo zi1<|yo zC ?_;refine Q1 (Y4 rfl rfl (by decide) rfl rfl (by rw[Tryz.underlying5];rfl) Tryz.underlying3 (Q3o x)) ?_;refine Q1 (Q4 (f:=41) rfl rfl (by decide) rfl rfl (fun w hw=>Q4C x w)) ?_;refine Q1 (X9 (r:=S2++H++Kx x) rfl rfl rfl (by decide) rfl rfl rfl (by (try simp only[List.length_append,List.length_cons,List.length_nil]);omega)) ?_;refine yo zA<|yl<|yn<|yr<|yo zM<|yo zP<|yo zA<|yl ?_;refine QA (j+1) [0,1] (by decide) hjn (by omega) (.cons rfl (by go_num) (.cons rfl rfl (.cons rfl (by rw[List.append_assoc,HSH.out]) (.cons rfl rfl (.cons rfl rfl .nil))))) rfl
   ·obtain rfl:j=bs.length:=by omega
    rw[List.take_length] at hh
    show sE _ _ _ _ _ ((6,.int .i64 ((bs.length:Nat):Int))::[(1,.pointer (some ⟨b1,0,none⟩)),(3,.string ⟨(S2++Jr (bs.take bs.length)).toArray⟩),(4,.int .i64 (i:Int)),(5,.pointer (some ⟨b5,0,none⟩))]) [.blk b5 (.cells ([.string ⟨name.toArray⟩,.int .i64 kind,.slice Ab bs.length cb,.int .i64 size,.bool big,.int .i64 mn,.int .i64 mx,.int .i64 stop,.int .i64 count,.int .i64 elem,.slice An names.length cn,.slice Ap parts.length cp]:List Value).toArray 52 (0,0)),.blk b1 (.cells ([.slice (some ⟨b,o,none⟩) n c]:List Value).toArray 24 (0,0))] _
    rw[List.take_length];refine yq<|yq<|yr<|yo zM<|yo zF<|yo (zB 0)<|yo zL<|yo zlf<|yl<|yn<|y0<|ye<|yx<|yx<|yu ?_;refine XX (S2++Jr bs) [0,1] (by decide) ⟨rfl,by (try simp only[List.length_append,List.length_cons,List.length_nil]);omega⟩ (.cons rfl rfl (.cons rfl rfl (.cons rfl rfl (.cons rfl rfl .nil)))) rfl
  rintro S3 ⟨hS3,hm3⟩
  have HS3:=Lib.hid hS3
  have hl3:S3.length≤S0.length+1100033:=by omega
  clear hS3 hm3 hl2
  show sE _ _ _ _ _ [(1,.pointer (some ⟨b1,0,none⟩)),(3,.string ⟨(S3).toArray⟩),(4,.int .i64 (i:Int)),(5,.pointer (some ⟨b5,0,none⟩))] [.blk b5 (.cells ([.string ⟨name.toArray⟩,.int .i64 kind,.slice Ab bs.length cb,.int .i64 size,.bool big,.int .i64 mn,.int .i64 mx,.int .i64 stop,.int .i64 count,.int .i64 elem,.slice An names.length cn,.slice Ap parts.length cp]:List Value).toArray 52 (0,0)),.blk b1 (.cells ([.slice (some ⟨b,o,none⟩) n c]:List Value).toArray 24 (0,0))] _
  refine Jd (ι:=List UInt8) (fun T=>T=S3++spW (Z7 kind) (Lib.itoa stop)∧T.length≤S3.length+22) (fun T=>[(1,.pointer (some ⟨b1,0,none⟩)),(3,.string ⟨(T).toArray⟩),(4,.int .i64 (i:Int)),(5,.pointer (some ⟨b5,0,none⟩))]) (fun _=>[.blk b5 (.cells ([.string ⟨name.toArray⟩,.int .i64 kind,.slice Ab bs.length cb,.int .i64 size,.bool big,.int .i64 mn,.int .i64 mx,.int .i64 stop,.int .i64 count,.int .i64 elem,.slice An names.length cn,.slice Ap parts.length cp]:List Value).toArray 52 (0,0)),.blk b1 (.cells ([.slice (some ⟨b,o,none⟩) n c]:List Value).toArray 24 (0,0))]) ?_ ?_
  ·by_cases hk:kind=3∨kind=5∨kind=9
   ·have hv:0≤stop∧stop≤1000000000000000000:=by
     have:=HOK.out.stop hk
     simp only at this
     omega
    have hil:=YL hv;have hu:=Q6a hk
    rcases hk with rfl|rfl|rfl
    all_goals
     repeat(first|((with_reducible show sE _ _ _ _ _ _ _ _);first|refine Q6 ?_|refine Q2 ?_))
     refine yo zF<|yo (zB 0) ?_;refine Q1 (XB rfl rfl (by decide) rfl rfl rfl (by first|assumption|exact beq_eq_false_iff_ne.2 (by omega))) ?_;refine yo zM ?_
     first|refine Q1 zF ?_|refine Q1 zS ?_
     first|refine Q1 (zB 0) ?_|refine Q1 zS ?_
     first|refine Q1 (XB rfl rfl (by decide) rfl rfl rfl (by first|assumption|exact beq_eq_false_iff_ne.2 (by omega)|rfl)) ?_|refine Q1 zS ?_
     first|refine Q1 zY ?_|refine Q1 zN ?_
     refine yo zM ?_
     first|refine Q1 zF ?_|refine Q1 zS ?_
     first|refine Q1 (zB 0) ?_|refine Q1 zS ?_
     first|refine Q1 (XB rfl rfl (by decide) rfl rfl rfl (by first|assumption|rfl)) ?_|refine Q1 zS ?_
     first|refine Q1 zY ?_|refine Q1 zN ?_
     refine yl ?_
     repeat(first|((with_reducible show sE _ _ _ _ _ _ _ _);first|refine Q2 ?_|refine Q5 rfl ?_)|((with_reducible show xE _ _ _ _ _ _ _);refine Qb ?_))
     refine yo zM ?_;refine Q1 (X9 (r:=S3++[32]) rfl rfl rfl (by decide) rfl rfl rfl (by (try simp only[List.length_append,List.length_cons,List.length_nil]);omega)) ?_;refine yo zF<|yo (zB 0) ?_;refine Q1 (Q4 (f:=24) rfl rfl (by decide) rfl rfl (fun w hw=>Jn (by omega) w)) ?_;refine Q1 (X9 (r:=S3++[32]++Lib.itoa stop) rfl rfl rfl (by decide) rfl rfl rfl (by (try simp only[List.length_append,List.length_cons,List.length_nil]);omega)) ?_;refine yo zA<|yl ?_;refine XX (S3++[32]++Lib.itoa stop) [0,1] (by decide) ⟨Q3y hu,by (try simp only[List.length_append,List.length_cons,List.length_nil]);omega⟩ (.cons rfl rfl (.cons rfl rfl (.cons rfl rfl (.cons rfl rfl .nil)))) rfl
   ·have hu:=Q8z hk;refine yq<|yr<|yo zF<|yo (zB 0)<|yo zef<|yo zM<|yo zF<|yo (zB 0)<|yo zef<|yo zN<|yo zM<|yo zF<|yo (zB 0)<|yo zef<|yo zN<|yl<|yn<|y0<|ys ?_;refine XX (S3) [0,1] (by decide) ⟨Q7o hu,by (try simp only[List.length_append,List.length_cons,List.length_nil]);omega⟩ (.cons rfl rfl (.cons rfl rfl (.cons rfl rfl (.cons rfl rfl .nil)))) rfl
  rintro S4 ⟨hS4,hm4⟩
  have HS4:=Lib.hid hS4
  have hl4:S4.length≤S0.length+1100055:=by omega
  clear hS4 hm4 hl3
  show sE _ _ _ _ _ [(1,.pointer (some ⟨b1,0,none⟩)),(3,.string ⟨(S4).toArray⟩),(4,.int .i64 (i:Int)),(5,.pointer (some ⟨b5,0,none⟩))] [.blk b5 (.cells ([.string ⟨name.toArray⟩,.int .i64 kind,.slice Ab bs.length cb,.int .i64 size,.bool big,.int .i64 mn,.int .i64 mx,.int .i64 stop,.int .i64 count,.int .i64 elem,.slice An names.length cn,.slice Ap parts.length cp]:List Value).toArray 52 (0,0)),.blk b1 (.cells ([.slice (some ⟨b,o,none⟩) n c]:List Value).toArray 24 (0,0))] _
  refine Jd (ι:=List UInt8) (fun T=>T=S4++spW (Z4 kind) (Lib.itoa size)∧T.length≤S4.length+22) (fun T=>[(1,.pointer (some ⟨b1,0,none⟩)),(3,.string ⟨(T).toArray⟩),(4,.int .i64 (i:Int)),(5,.pointer (some ⟨b5,0,none⟩))]) (fun _=>[.blk b5 (.cells ([.string ⟨name.toArray⟩,.int .i64 kind,.slice Ab bs.length cb,.int .i64 size,.bool big,.int .i64 mn,.int .i64 mx,.int .i64 stop,.int .i64 count,.int .i64 elem,.slice An names.length cn,.slice Ap parts.length cp]:List Value).toArray 52 (0,0)),.blk b1 (.cells ([.slice (some ⟨b,o,none⟩) n c]:List Value).toArray 24 (0,0))]) ?_ ?_
  ·by_cases hk:kind=2∨kind=4∨kind=5
   ·have hv:0≤size∧size≤1000000000000000000:=by
     rcases hk with hk|hk|hk
     ·have:=HOK.out.num hk
      simp only at this
      omega
     ·have:=HOK.out.size4 hk
      simp only at this
      omega
     ·have:=HOK.out.size5 hk
      simp only at this
      omega
    have hil:=YL hv;have hu:=Q6T hk
    rcases hk with rfl|rfl|rfl
    all_goals
     repeat(first|((with_reducible show sE _ _ _ _ _ _ _ _);first|refine Q6 ?_|refine Q2 ?_))
     refine yo zF<|yo (zB 0) ?_;refine Q1 (XB rfl rfl (by decide) rfl rfl rfl (by first|assumption|exact beq_eq_false_iff_ne.2 (by omega))) ?_;refine yo zM ?_
     first|refine Q1 zF ?_|refine Q1 zS ?_
     first|refine Q1 (zB 0) ?_|refine Q1 zS ?_
     first|refine Q1 (XB rfl rfl (by decide) rfl rfl rfl (by first|assumption|exact beq_eq_false_iff_ne.2 (by omega)|rfl)) ?_|refine Q1 zS ?_
     first|refine Q1 zY ?_|refine Q1 zN ?_
     refine yo zM ?_
     first|refine Q1 zF ?_|refine Q1 zS ?_
     first|refine Q1 (zB 0) ?_|refine Q1 zS ?_
     first|refine Q1 (XB rfl rfl (by decide) rfl rfl rfl (by first|assumption|rfl)) ?_|refine Q1 zS ?_
     first|refine Q1 zY ?_|refine Q1 zN ?_
     refine yl ?_
     repeat(first|((with_reducible show sE _ _ _ _ _ _ _ _);first|refine Q2 ?_|refine Q5 rfl ?_)|((with_reducible show xE _ _ _ _ _ _ _);refine Qb ?_))
     refine yo zM ?_;refine Q1 (X9 (r:=S4++[32]) rfl rfl rfl (by decide) rfl rfl rfl (by (try simp only[List.length_append,List.length_cons,List.length_nil]);omega)) ?_;refine yo zF<|yo (zB 0) ?_;refine Q1 (Q4 (f:=24) rfl rfl (by decide) rfl rfl (fun w hw=>Jn (by omega) w)) ?_;refine Q1 (X9 (r:=S4++[32]++Lib.itoa size) rfl rfl rfl (by decide) rfl rfl rfl (by (try simp only[List.length_append,List.length_cons,List.length_nil]);omega)) ?_;refine yo zA<|yl ?_;refine XX (S4++[32]++Lib.itoa size) [0,1] (by decide) ⟨Q3y hu,by (try simp only[List.length_append,List.length_cons,List.length_nil]);omega⟩ (.cons rfl rfl (.cons rfl rfl (.cons rfl rfl (.cons rfl rfl .nil)))) rfl
   ·have hu:=Q8s hk;refine yq<|yr<|yo zF<|yo (zB 0)<|yo zef<|yo zM<|yo zF<|yo (zB 0)<|yo zef<|yo zN<|yo zM<|yo zF<|yo (zB 0)<|yo zef<|yo zN<|yl<|yn<|y0<|ys ?_;refine XX (S4) [0,1] (by decide) ⟨Q7o hu,by (try simp only[List.length_append,List.length_cons,List.length_nil]);omega⟩ (.cons rfl rfl (.cons rfl rfl (.cons rfl rfl (.cons rfl rfl .nil)))) rfl
  rintro S5 ⟨hS5,hm5⟩
  have HS5:=Lib.hid hS5
  have hl5:S5.length≤S0.length+1100077:=by omega
  clear hS5 hm5 hl4
  show sE _ _ _ _ _ [(1,.pointer (some ⟨b1,0,none⟩)),(3,.string ⟨(S5).toArray⟩),(4,.int .i64 (i:Int)),(5,.pointer (some ⟨b5,0,none⟩))] [.blk b5 (.cells ([.string ⟨name.toArray⟩,.int .i64 kind,.slice Ab bs.length cb,.int .i64 size,.bool big,.int .i64 mn,.int .i64 mx,.int .i64 stop,.int .i64 count,.int .i64 elem,.slice An names.length cn,.slice Ap parts.length cp]:List Value).toArray 52 (0,0)),.blk b1 (.cells ([.slice (some ⟨b,o,none⟩) n c]:List Value).toArray 24 (0,0))] _
  refine Jd (ι:=List UInt8) (fun T=>T=S5++(if kind==2&&big==true then [32,98,105,103,32]++Lib.itoa mn else [])∧T.length≤S5.length+40) (fun T=>[(1,.pointer (some ⟨b1,0,none⟩)),(3,.string ⟨(T).toArray⟩),(4,.int .i64 (i:Int)),(5,.pointer (some ⟨b5,0,none⟩))]) (fun _=>[.blk b5 (.cells ([.string ⟨name.toArray⟩,.int .i64 kind,.slice Ab bs.length cb,.int .i64 size,.bool big,.int .i64 mn,.int .i64 mx,.int .i64 stop,.int .i64 count,.int .i64 elem,.slice An names.length cn,.slice Ap parts.length cp]:List Value).toArray 52 (0,0)),.blk b1 (.cells ([.slice (some ⟨b,o,none⟩) n c]:List Value).toArray 24 (0,0))]) ?_ ?_
  ·by_cases hk:kind=2∧big=true
   ·obtain⟨rfl,rfl⟩:=hk;have hnu:=HOK.out.num rfl
    simp only at hnu
    have hpw:(256:Int) ^ size.toNat≤256 ^ 4:=by
     rcases (show size.toNat=1∨size.toNat=2∨size.toNat=3∨size.toNat=4 by omega) with h|h|h|h<;>rw[h]<;>decide
    have hv:0≤mn∧mn≤1000000000000000000:=by omega
    have hil:=YL hv;clear hnu hpw;refine yq<|yr<|yo zF<|yo (zB 0)<|yo zet<|yo zM<|yo zF<|yo (zB 0)<|yo zY<|yl<|yn<|y1<|yr<|yo zM ?_;refine Q1 (X9 (r:=S5++[32,98,105,103,32]) rfl rfl rfl (by decide) rfl rfl rfl (by (try simp only[List.length_append,List.length_cons,List.length_nil]);omega)) ?_;refine yo zF<|yo (zB 0) ?_;refine Q1 (Q4 (f:=24) rfl rfl (by decide) rfl rfl (fun w hw=>Jn (by omega) w)) ?_;refine Q1 (X9 (r:=S5++[32,98,105,103,32]++Lib.itoa mn) rfl rfl rfl (by decide) rfl rfl rfl (by (try simp only[List.length_append,List.length_cons,List.length_nil]);omega)) ?_;refine yo zA<|yl ?_;refine XX (S5++[32,98,105,103,32]++Lib.itoa mn) [0,1] (by decide) ⟨by rw[List.append_assoc];rfl,by (try simp only[List.length_append,List.length_cons,List.length_nil]);omega⟩ (.cons rfl rfl (.cons rfl rfl (.cons rfl rfl (.cons rfl rfl .nil)))) rfl
   ·have hpc:(if kind==2&&big==true then [32,98,105,103,32]++Lib.itoa mn else [])=[]:=if_neg (fun h=>hk (by rw[Bool.and_eq_true,beq_iff_eq,beq_iff_eq] at h;exact h));have HPC:=Lib.hid hpc;clear hpc
    by_cases hk2:kind=2
    ·subst hk2
     obtain rfl:big=false:=by cases big<;>first|rfl|exact absurd ⟨rfl,rfl⟩ hk
     refine yq<|yr<|yo zF<|yo (zB 0)<|yo zet<|yo zM<|yo zF<|yo (zB 0)<|yo zY<|yl<|yn<|y0<|ys ?_;refine XX (S5) [0,1] (by decide) ⟨by rw[HPC.out,List.append_nil],by (try simp only[List.length_append,List.length_cons,List.length_nil]);omega⟩ (.cons rfl rfl (.cons rfl rfl (.cons rfl rfl (.cons rfl rfl .nil)))) rfl
    ·refine yq<|yr<|yo zF<|yo (zB 0)<|yo zef<|yo zM<|yo zS<|yo zS<|yo zN<|yl<|yn<|y0<|ys ?_;refine XX (S5) [0,1] (by decide) ⟨by rw[HPC.out,List.append_nil],by (try simp only[List.length_append,List.length_cons,List.length_nil]);omega⟩ (.cons rfl rfl (.cons rfl rfl (.cons rfl rfl (.cons rfl rfl .nil)))) rfl
  rintro S6 ⟨hS6,hm6⟩
  have HS6:=Lib.hid hS6
  have hl6:S6.length≤S0.length+1100117:=by omega
  clear hS6 hm6 hl5
  show sE _ _ _ _ _ [(1,.pointer (some ⟨b1,0,none⟩)),(3,.string ⟨(S6).toArray⟩),(4,.int .i64 (i:Int)),(5,.pointer (some ⟨b5,0,none⟩))] [.blk b5 (.cells ([.string ⟨name.toArray⟩,.int .i64 kind,.slice Ab bs.length cb,.int .i64 size,.bool big,.int .i64 mn,.int .i64 mx,.int .i64 stop,.int .i64 count,.int .i64 elem,.slice An names.length cn,.slice Ap parts.length cp]:List Value).toArray 52 (0,0)),.blk b1 (.cells ([.slice (some ⟨b,o,none⟩) n c]:List Value).toArray 24 (0,0))] _
  refine Jd (ι:=List UInt8) (fun T=>T=S6++(if kind==2&&big==false then [32,108,105,116,116,108,101,32]++Lib.itoa mn else [])∧T.length≤S6.length+40) (fun T=>[(1,.pointer (some ⟨b1,0,none⟩)),(3,.string ⟨(T).toArray⟩),(4,.int .i64 (i:Int)),(5,.pointer (some ⟨b5,0,none⟩))]) (fun _=>[.blk b5 (.cells ([.string ⟨name.toArray⟩,.int .i64 kind,.slice Ab bs.length cb,.int .i64 size,.bool big,.int .i64 mn,.int .i64 mx,.int .i64 stop,.int .i64 count,.int .i64 elem,.slice An names.length cn,.slice Ap parts.length cp]:List Value).toArray 52 (0,0)),.blk b1 (.cells ([.slice (some ⟨b,o,none⟩) n c]:List Value).toArray 24 (0,0))]) ?_ ?_
  ·by_cases hk:kind=2∧big=false
   ·obtain⟨rfl,rfl⟩:=hk;have hnu:=HOK.out.num rfl
    simp only at hnu
    have hpw:(256:Int) ^ size.toNat≤256 ^ 4:=by
     rcases (show size.toNat=1∨size.toNat=2∨size.toNat=3∨size.toNat=4 by omega) with h|h|h|h<;>rw[h]<;>decide
    have hv:0≤mn∧mn≤1000000000000000000:=by omega
    have hil:=YL hv;clear hnu hpw;refine yq<|yr<|yo zF<|yo (zB 0)<|yo zet<|yo zM<|yo zF<|yo (zB 0)<|yo zO<|yo zY<|yl<|yn<|y1<|yr<|yo zM ?_;refine Q1 (X9 (r:=S6++[32,108,105,116,116,108,101,32]) rfl rfl rfl (by decide) rfl rfl rfl (by (try simp only[List.length_append,List.length_cons,List.length_nil]);omega)) ?_;refine yo zF<|yo (zB 0) ?_;refine Q1 (Q4 (f:=24) rfl rfl (by decide) rfl rfl (fun w hw=>Jn (by omega) w)) ?_;refine Q1 (X9 (r:=S6++[32,108,105,116,116,108,101,32]++Lib.itoa mn) rfl rfl rfl (by decide) rfl rfl rfl (by (try simp only[List.length_append,List.length_cons,List.length_nil]);omega)) ?_;refine yo zA<|yl ?_;refine XX (S6++[32,108,105,116,116,108,101,32]++Lib.itoa mn) [0,1] (by decide) ⟨by rw[List.append_assoc];rfl,by (try simp only[List.length_append,List.length_cons,List.length_nil]);omega⟩ (.cons rfl rfl (.cons rfl rfl (.cons rfl rfl (.cons rfl rfl .nil)))) rfl
   ·have hpc:(if kind==2&&big==false then [32,108,105,116,116,108,101,32]++Lib.itoa mn else [])=[]:=if_neg (fun h=>hk (by rw[Bool.and_eq_true,beq_iff_eq,beq_iff_eq] at h;exact h));have HPC:=Lib.hid hpc;clear hpc
    by_cases hk2:kind=2
    ·subst hk2
     obtain rfl:big=true:=by cases big<;>first|rfl|exact absurd ⟨rfl,rfl⟩ hk
     refine yq<|yr<|yo zF<|yo (zB 0)<|yo zet<|yo zM<|yo zF<|yo (zB 0)<|yo zO<|yo zY<|yl<|yn<|y0<|ys ?_;refine XX (S6) [0,1] (by decide) ⟨by rw[HPC.out,List.append_nil],by (try simp only[List.length_append,List.length_cons,List.length_nil]);omega⟩ (.cons rfl rfl (.cons rfl rfl (.cons rfl rfl (.cons rfl rfl .nil)))) rfl
    ·refine yq<|yr<|yo zF<|yo (zB 0)<|yo zef<|yo zM<|yo zS<|yo zS<|yo zS<|yo zN<|yl<|yn<|y0<|ys ?_;refine XX (S6) [0,1] (by decide) ⟨by rw[HPC.out,List.append_nil],by (try simp only[List.length_append,List.length_cons,List.length_nil]);omega⟩ (.cons rfl rfl (.cons rfl rfl (.cons rfl rfl (.cons rfl rfl .nil)))) rfl
  rintro S7 ⟨hS7,hm7⟩
  have HS7:=Lib.hid hS7
  have hl7:S7.length≤S0.length+1100157:=by omega
  clear hS7 hm7 hl6
  show sE _ _ _ _ _ [(1,.pointer (some ⟨b1,0,none⟩)),(3,.string ⟨(S7).toArray⟩),(4,.int .i64 (i:Int)),(5,.pointer (some ⟨b5,0,none⟩))] [.blk b5 (.cells ([.string ⟨name.toArray⟩,.int .i64 kind,.slice Ab bs.length cb,.int .i64 size,.bool big,.int .i64 mn,.int .i64 mx,.int .i64 stop,.int .i64 count,.int .i64 elem,.slice An names.length cn,.slice Ap parts.length cp]:List Value).toArray 52 (0,0)),.blk b1 (.cells ([.slice (some ⟨b,o,none⟩) n c]:List Value).toArray 24 (0,0))] _
  refine Jd (ι:=List UInt8) (fun T=>T=S7++spW (Zf kind) (Lib.itoa mx)∧T.length≤S7.length+22) (fun T=>[(1,.pointer (some ⟨b1,0,none⟩)),(3,.string ⟨(T).toArray⟩),(4,.int .i64 (i:Int)),(5,.pointer (some ⟨b5,0,none⟩))]) (fun _=>[.blk b5 (.cells ([.string ⟨name.toArray⟩,.int .i64 kind,.slice Ab bs.length cb,.int .i64 size,.bool big,.int .i64 mn,.int .i64 mx,.int .i64 stop,.int .i64 count,.int .i64 elem,.slice An names.length cn,.slice Ap parts.length cp]:List Value).toArray 52 (0,0)),.blk b1 (.cells ([.slice (some ⟨b,o,none⟩) n c]:List Value).toArray 24 (0,0))]) ?_ ?_
  ·by_cases hk:kind=2∨kind=3
   ·have hv:0≤mx∧mx≤1000000000000000000:=by
     rcases hk with hk|hk
     ·have hnu:=HOK.out.num hk
      simp only at hnu
      have hpw:(256:Int) ^ size.toNat≤256 ^ 4:=by
       rcases (show size.toNat=1∨size.toNat=2∨size.toNat=3∨size.toNat=4 by omega) with h|h|h|h<;>rw[h]<;>decide
      omega
     ·have:=HOK.out.dec hk
      simp only at this
      omega
    have hil:=YL hv;have hu:=Q8W hk
    rcases hk with rfl|rfl
    all_goals
     repeat(first|((with_reducible show sE _ _ _ _ _ _ _ _);first|refine Q6 ?_|refine Q2 ?_))
     refine yo zF<|yo (zB 0) ?_;refine Q1 (XB rfl rfl (by decide) rfl rfl rfl (by first|assumption|exact beq_eq_false_iff_ne.2 (by omega))) ?_;refine yo zM ?_
     first|refine Q1 zF ?_|refine Q1 zS ?_
     first|refine Q1 (zB 0) ?_|refine Q1 zS ?_
     first|refine Q1 (XB rfl rfl (by decide) rfl rfl rfl (by first|assumption|rfl)) ?_|refine Q1 zS ?_
     first|refine Q1 zY ?_|refine Q1 zN ?_
     refine yl ?_
     repeat(first|((with_reducible show sE _ _ _ _ _ _ _ _);first|refine Q2 ?_|refine Q5 rfl ?_)|((with_reducible show xE _ _ _ _ _ _ _);refine Qb ?_))
     refine yo zM ?_;refine Q1 (X9 (r:=S7++[32]) rfl rfl rfl (by decide) rfl rfl rfl (by (try simp only[List.length_append,List.length_cons,List.length_nil]);omega)) ?_;refine yo zF<|yo (zB 0) ?_;refine Q1 (Q4 (f:=24) rfl rfl (by decide) rfl rfl (fun w hw=>Jn (by omega) w)) ?_;refine Q1 (X9 (r:=S7++[32]++Lib.itoa mx) rfl rfl rfl (by decide) rfl rfl rfl (by (try simp only[List.length_append,List.length_cons,List.length_nil]);omega)) ?_;refine yo zA<|yl ?_;refine XX (S7++[32]++Lib.itoa mx) [0,1] (by decide) ⟨Q3y hu,by (try simp only[List.length_append,List.length_cons,List.length_nil]);omega⟩ (.cons rfl rfl (.cons rfl rfl (.cons rfl rfl (.cons rfl rfl .nil)))) rfl
   ·have hu:=Qa8 hk;refine yq<|yr<|yo zF<|yo (zB 0)<|yo zef<|yo zM<|yo zF<|yo (zB 0)<|yo zef<|yo zN<|yl<|yn<|y0<|ys ?_;refine XX (S7) [0,1] (by decide) ⟨Q7o hu,by (try simp only[List.length_append,List.length_cons,List.length_nil]);omega⟩ (.cons rfl rfl (.cons rfl rfl (.cons rfl rfl (.cons rfl rfl .nil)))) rfl
  rintro S8 ⟨hS8,hm8⟩
  have HS8:=Lib.hid hS8
  have hl8:S8.length≤S0.length+1100179:=by omega
  clear hS8 hm8 hl7
  show sE _ _ _ _ _ [(1,.pointer (some ⟨b1,0,none⟩)),(3,.string ⟨(S8).toArray⟩),(4,.int .i64 (i:Int)),(5,.pointer (some ⟨b5,0,none⟩))] [.blk b5 (.cells ([.string ⟨name.toArray⟩,.int .i64 kind,.slice Ab bs.length cb,.int .i64 size,.bool big,.int .i64 mn,.int .i64 mx,.int .i64 stop,.int .i64 count,.int .i64 elem,.slice An names.length cn,.slice Ap parts.length cp]:List Value).toArray 52 (0,0)),.blk b1 (.cells ([.slice (some ⟨b,o,none⟩) n c]:List Value).toArray 24 (0,0))] _
  refine Jd (ι:=List UInt8) (fun T=>T=S8++spW (Qp kind) (Zv F count)∧T.length≤S8.length+1048577) (fun T=>[(1,.pointer (some ⟨b1,0,none⟩)),(3,.string ⟨(T).toArray⟩),(4,.int .i64 (i:Int)),(5,.pointer (some ⟨b5,0,none⟩))]) (fun _=>[.blk b5 (.cells ([.string ⟨name.toArray⟩,.int .i64 kind,.slice Ab bs.length cb,.int .i64 size,.bool big,.int .i64 mn,.int .i64 mx,.int .i64 stop,.int .i64 count,.int .i64 elem,.slice An names.length cn,.slice Ap parts.length cp]:List Value).toArray 52 (0,0)),.blk b1 (.cells ([.slice (some ⟨b,o,none⟩) n c]:List Value).toArray 24 (0,0))]) ?_ ?_
  ·by_cases hk:kind=6∨kind=10
   ·have hv:0≤count∧count<n:=HOK.out.count hk;obtain⟨rc,Ac,cc,Ad,cd,Ae,ce,hrgc,hnmc,hlc⟩:=HALL.out count hv;have hu:=Q5v hk;rw[hnmc]
    rcases hk with rfl|rfl
    all_goals
     repeat(first|((with_reducible show sE _ _ _ _ _ _ _ _);first|refine Q6 ?_|refine Q2 ?_))
     refine yo zF<|yo (zB 0) ?_;refine Q1 (XB rfl rfl (by decide) rfl rfl rfl (by first|assumption|exact beq_eq_false_iff_ne.2 (by omega))) ?_;refine yo zM ?_
     first|refine Q1 zF ?_|refine Q1 zS ?_
     first|refine Q1 (zB 0) ?_|refine Q1 zS ?_
     first|refine Q1 (XB rfl rfl (by decide) rfl rfl rfl (by first|assumption|rfl)) ?_|refine Q1 zS ?_
     first|refine Q1 zY ?_|refine Q1 zN ?_
     refine yl ?_
     repeat(first|((with_reducible show sE _ _ _ _ _ _ _ _);first|refine Q2 ?_|refine Q5 rfl ?_)|((with_reducible show xE _ _ _ _ _ _ _);refine Qb ?_))
     refine yo zM ?_;refine Q1 (X9 (r:=S8++[32]) rfl rfl rfl (by decide) rfl rfl rfl (by (try simp only[List.length_append,List.length_cons,List.length_nil]);omega)) ?_;refine yo zF<|yo (zB 1)<|yo zF<|yo (zB 0) ?_;refine Q1 (Qv rfl rfl (by decide) rfl rfl rfl (by omega)) ?_;refine yo zF<|yo zR ?_;refine Q1 (X9 (r:=S8++[32]++rc.name) rfl rfl rfl (by decide) rfl rfl rfl (by (try simp only[List.length_append,List.length_cons,List.length_nil]);omega)) ?_;refine yo zA<|yl ?_;refine XX (S8++[32]++rc.name) [0,1] (by decide) ⟨Q3y hu,by (try simp only[List.length_append,List.length_cons,List.length_nil]);omega⟩ (.cons rfl rfl (.cons rfl rfl (.cons rfl rfl (.cons rfl rfl .nil)))) rfl
   ·have hu:=Q7n hk;refine yq<|yr<|yo zF<|yo (zB 0)<|yo zef<|yo zM<|yo zF<|yo (zB 0)<|yo zef<|yo zN<|yl<|yn<|y0<|ys ?_;refine XX (S8) [0,1] (by decide) ⟨Q7o hu,by (try simp only[List.length_append,List.length_cons,List.length_nil]);omega⟩ (.cons rfl rfl (.cons rfl rfl (.cons rfl rfl (.cons rfl rfl .nil)))) rfl
  rintro S9 ⟨hS9,hm9⟩
  have HS9:=Lib.hid hS9
  have hl9:S9.length≤S0.length+2148756:=by omega
  clear hS9 hm9 hl8
  show sE _ _ _ _ _ [(1,.pointer (some ⟨b1,0,none⟩)),(3,.string ⟨(S9).toArray⟩),(4,.int .i64 (i:Int)),(5,.pointer (some ⟨b5,0,none⟩))] [.blk b5 (.cells ([.string ⟨name.toArray⟩,.int .i64 kind,.slice Ab bs.length cb,.int .i64 size,.bool big,.int .i64 mn,.int .i64 mx,.int .i64 stop,.int .i64 count,.int .i64 elem,.slice An names.length cn,.slice Ap parts.length cp]:List Value).toArray 52 (0,0)),.blk b1 (.cells ([.slice (some ⟨b,o,none⟩) n c]:List Value).toArray 24 (0,0))] _
  refine Jd (ι:=List UInt8) (fun T=>T=S9++spW (XJ kind) (Zv F elem)∧T.length≤S9.length+1048577) (fun T=>[(1,.pointer (some ⟨b1,0,none⟩)),(3,.string ⟨(T).toArray⟩),(4,.int .i64 (i:Int)),(5,.pointer (some ⟨b5,0,none⟩))]) (fun _=>[.blk b5 (.cells ([.string ⟨name.toArray⟩,.int .i64 kind,.slice Ab bs.length cb,.int .i64 size,.bool big,.int .i64 mn,.int .i64 mx,.int .i64 stop,.int .i64 count,.int .i64 elem,.slice An names.length cn,.slice Ap parts.length cp]:List Value).toArray 52 (0,0)),.blk b1 (.cells ([.slice (some ⟨b,o,none⟩) n c]:List Value).toArray 24 (0,0))]) ?_ ?_
  ·by_cases hk:kind=6∨kind=9
   ·have hv:0≤elem∧elem<n:=HOK.out.elem hk;obtain⟨rc,Ac,cc,Ad,cd,Ae,ce,hrgc,hnmc,hlc⟩:=HALL.out elem hv;have hu:=Q9z hk;rw[hnmc]
    rcases hk with rfl|rfl
    all_goals
     repeat(first|((with_reducible show sE _ _ _ _ _ _ _ _);first|refine Q6 ?_|refine Q2 ?_))
     refine yo zF<|yo (zB 0) ?_;refine Q1 (XB rfl rfl (by decide) rfl rfl rfl (by first|assumption|exact beq_eq_false_iff_ne.2 (by omega))) ?_;refine yo zM ?_
     first|refine Q1 zF ?_|refine Q1 zS ?_
     first|refine Q1 (zB 0) ?_|refine Q1 zS ?_
     first|refine Q1 (XB rfl rfl (by decide) rfl rfl rfl (by first|assumption|rfl)) ?_|refine Q1 zS ?_
     first|refine Q1 zY ?_|refine Q1 zN ?_
     refine yl ?_
     repeat(first|((with_reducible show sE _ _ _ _ _ _ _ _);first|refine Q2 ?_|refine Q5 rfl ?_)|((with_reducible show xE _ _ _ _ _ _ _);refine Qb ?_))
     refine yo zM ?_;refine Q1 (X9 (r:=S9++[32]) rfl rfl rfl (by decide) rfl rfl rfl (by (try simp only[List.length_append,List.length_cons,List.length_nil]);omega)) ?_;refine yo zF<|yo (zB 1)<|yo zF<|yo (zB 0) ?_;refine Q1 (Qv rfl rfl (by decide) rfl rfl rfl (by omega)) ?_;refine yo zF<|yo zR ?_;refine Q1 (X9 (r:=S9++[32]++rc.name) rfl rfl rfl (by decide) rfl rfl rfl (by (try simp only[List.length_append,List.length_cons,List.length_nil]);omega)) ?_;refine yo zA<|yl ?_;refine XX (S9++[32]++rc.name) [0,1] (by decide) ⟨Q3y hu,by (try simp only[List.length_append,List.length_cons,List.length_nil]);omega⟩ (.cons rfl rfl (.cons rfl rfl (.cons rfl rfl (.cons rfl rfl .nil)))) rfl
   ·have hu:=QbR hk;refine yq<|yr<|yo zF<|yo (zB 0)<|yo zef<|yo zM<|yo zF<|yo (zB 0)<|yo zef<|yo zN<|yl<|yn<|y0<|ys ?_;refine XX (S9) [0,1] (by decide) ⟨Q7o hu,by (try simp only[List.length_append,List.length_cons,List.length_nil]);omega⟩ (.cons rfl rfl (.cons rfl rfl (.cons rfl rfl (.cons rfl rfl .nil)))) rfl
  rintro S10 ⟨hS10,hm10⟩
  have HS10:=Lib.hid hS10
  have hl10:S10.length≤S0.length+3197333:=by omega
  clear hS10 hm10 hl9
  show sE _ _ _ _ _ [(1,.pointer (some ⟨b1,0,none⟩)),(3,.string ⟨(S10).toArray⟩),(4,.int .i64 (i:Int)),(5,.pointer (some ⟨b5,0,none⟩))] [.blk b5 (.cells ([.string ⟨name.toArray⟩,.int .i64 kind,.slice Ab bs.length cb,.int .i64 size,.bool big,.int .i64 mn,.int .i64 mx,.int .i64 stop,.int .i64 count,.int .i64 elem,.slice An names.length cn,.slice Ap parts.length cp]:List Value).toArray 52 (0,0)),.blk b1 (.cells ([.slice (some ⟨b,o,none⟩) n c]:List Value).toArray 24 (0,0))] _
  refine Jd (ι:=List UInt8) (fun T=>T=S10++Yw F ⟨name,kind,bs,size,big,mn,mx,stop,count,elem,names,parts⟩ parts.length∧T.length≤S10.length+26400000) (fun T=>[(1,.pointer (some ⟨b1,0,none⟩)),(3,.string ⟨(T).toArray⟩),(4,.int .i64 (i:Int)),(5,.pointer (some ⟨b5,0,none⟩))]) (fun _=>[.blk b5 (.cells ([.string ⟨name.toArray⟩,.int .i64 kind,.slice Ab bs.length cb,.int .i64 size,.bool big,.int .i64 mn,.int .i64 mx,.int .i64 stop,.int .i64 count,.int .i64 elem,.slice An names.length cn,.slice Ap parts.length cp]:List Value).toArray 52 (0,0)),.blk b1 (.cells ([.slice (some ⟨b,o,none⟩) n c]:List Value).toArray 24 (0,0))]) ?_ ?_
  ·refine yq<|yr<|yo zA<|yl<|yn<|yb ?_;refine X0 (ι:=Nat) (fun j=>j≤parts.length∧(Yw F ⟨name,kind,bs,size,big,mn,mx,stop,count,elem,names,parts⟩ j).length≤j*2200000) (fun j=>parts.length - j) (fun j=>(7,.int .i64 (j:Int))::[(1,.pointer (some ⟨b1,0,none⟩)),(3,.string ⟨(S10++Yw F ⟨name,kind,bs,size,big,mn,mx,stop,count,elem,names,parts⟩ j).toArray⟩),(4,.int .i64 (i:Int)),(5,.pointer (some ⟨b5,0,none⟩))]) (fun _=>[.blk b5 (.cells ([.string ⟨name.toArray⟩,.int .i64 kind,.slice Ab bs.length cb,.int .i64 size,.bool big,.int .i64 mn,.int .i64 mx,.int .i64 stop,.int .i64 count,.int .i64 elem,.slice An names.length cn,.slice Ap parts.length cp]:List Value).toArray 52 (0,0)),.blk b1 (.cells ([.slice (some ⟨b,o,none⟩) n c]:List Value).toArray 24 (0,0))]) 0 [0,1] (by decide) ⟨Nat.zero_le _,Nat.zero_le _⟩ (.cons rfl rfl (.cons rfl rfl (.cons rfl (by show Value.string ⟨(S10).toArray⟩=.string ⟨(S10++[]).toArray⟩;rw[List.append_nil]) (.cons rfl rfl (.cons rfl rfl .nil))))) rfl ?_
   rintro j ⟨hj,hpl⟩
   have hstp:=Q69 F ⟨name,kind,bs,size,big,mn,mx,stop,count,elem,names,parts⟩ j;have HSTP:=Lib.hid hstp;clear hstp
   by_cases hjn:j<parts.length
   ·obtain⟨bp,op,rfl,_,hc⟩:=HP.out.2 (by show 0<parts.length;omega);have hcj:=hc j _ (Q5u hjn)
    have hk78:kind=7∨kind=8:=by
     have:=(JK.1 HOK.out.formed).2.2.2.2.2.2.2.2
     simp only at this
     omega
    have hpr:=HOK.out.parts hk78 (parts.getD j 0) (Q9B hjn);obtain⟨p,hp⟩:∃x,parts.getD j 0=x:=⟨_,rfl⟩;rw[hp] at hcj hpr;obtain⟨rc,Ac,cc,Ad,cd,Ae,ce,hrgc,hnmc,hlc⟩:=HALL.out p hpr;obtain⟨Q,hQ⟩:∃x,Yw F ⟨name,kind,bs,size,big,mn,mx,stop,count,elem,names,parts⟩ j=x:=⟨_,rfl⟩;rw[hQ] at hpl
    have hq:Q.length≤26400000:=by omega
    have HQ:=Lib.hid hQ;have HPJ:=Lib.hid hp;have HNMC:=Lib.hid hnmc;clear hc hp hnmc
    show sE _ _ _ _ _ ((7,.int .i64 (j:Int))::[(1,.pointer (some ⟨b1,0,none⟩)),(3,.string ⟨(S10++Yw F ⟨name,kind,bs,size,big,mn,mx,stop,count,elem,names,parts⟩ j).toArray⟩),(4,.int .i64 (i:Int)),(5,.pointer (some ⟨b5,0,none⟩))]) [.blk b5 (.cells ([.string ⟨name.toArray⟩,.int .i64 kind,.slice Ab bs.length cb,.int .i64 size,.bool big,.int .i64 mn,.int .i64 mx,.int .i64 stop,.int .i64 count,.int .i64 elem,.slice An names.length cn,.slice (some ⟨bp,op,none⟩) parts.length cp]:List Value).toArray 52 (0,0)),.blk b1 (.cells ([.slice (some ⟨b,o,none⟩) n c]:List Value).toArray 24 (0,0))] _
    rw[hQ];clear hQ
    by_cases hk:kind=7
    ·subst hk;have hnp:names.length=parts.length:=(HOK.out.seven rfl).1;obtain⟨bn,on,rfl,_,hcn⟩:=HNN.out.2 (by show 0<names.length;omega);have hcx:=hcn j _ (Qde (by rw[hnp];exact hjn));have hxl:=HN2.out _ (Q9L (l:=names) (j:=j) (by rw[hnp];exact hjn))
     have hpw:XW F ⟨name,7,bs,size,big,mn,mx,stop,count,elem,names,parts⟩ j=(if names.getD j []==[] then [45] else names.getD j [])++[58]++rc.name:=by
      rw[← HNMC.out,← HPJ.out]
      rfl
     obtain⟨x,hx⟩:∃x,names.getD j []=x:=⟨_,rfl⟩;rw[hx] at hcx hxl hpw;clear hcn hx
     by_cases hxe:x=[]
     ·subst hxe;have HPW:=Lib.hid (show XW F ⟨name,7,bs,size,big,mn,mx,stop,count,elem,names,parts⟩ j=[45]++[58]++rc.name from hpw);clear hpw;refine yq<|yq<|yr<|yo zM<|yo zF<|yo (zB 0)<|yo zL<|yo zlt<|yl<|yn<|y1<|ys<|yn<|yq<|yb<|yq<|yr<|yo zM ?_;refine Q1 (X9 (r:=S10++Q++[32]) rfl rfl rfl (by decide) rfl rfl rfl (by (try simp only[List.length_append,List.length_cons,List.length_nil]);omega)) ?_;refine yo zA<|yl<|yn<|yq<|yq<|yr<|yo zF<|yo (zB 0)<|yo zet<|yo zM<|yo zF<|yo (zB 0)<|yo zM<|yo zi1<|yo zC ?_;refine Q1 (Kl rfl rfl (by decide) rfl rfl rfl (by rfl)) ?_;refine yo zY<|yl<|yn<|y1<|yr<|yo zM ?_;refine Q1 (X9 (r:=S10++Q++[32]++[45,58]) rfl rfl rfl (by decide) rfl rfl rfl (by (try simp only[List.length_append,List.length_cons,List.length_nil]);omega)) ?_;refine yo zA<|yl<|yn<|yq<|yq<|yr<|yo zF<|yo (zB 0)<|yo zet<|yo zM<|yo zF<|yo (zB 0)<|yo zM<|yo zi1<|yo zC ?_;refine Q1 (Jy rfl rfl (by decide) rfl rfl rfl (by rfl)) ?_;refine yo zY<|yl<|yn<|y0<|ys<|yn<|Xm (by kernel_rfl) (by kernel_rfl) ?_;refine Qd zM ?_;refine Qd zF ?_;refine Qd (zB 1) ?_;refine Qd zF ?_;refine Qd (zB 0) ?_;refine Qd zM ?_;refine Qd zi1 ?_;refine Qd zC ?_;refine Qd (Qv rfl rfl (by decide) rfl rfl rfl (by omega)) ?_;refine Qd zF ?_;refine Qd zR ?_;refine Qd (X9 (r:=S10++Q++[32]++[45,58]++rc.name) rfl rfl rfl (by decide) rfl rfl rfl (by (try simp only[List.length_append,List.length_cons,List.length_nil]);omega)) ?_;refine Qd zA ?_;refine XS ?_;refine yn<|yr<|yo zM<|yo zP<|yo zA<|yl ?_;refine QA (j+1) [0,1] (by decide) ⟨hjn,?_⟩ (by omega) (.cons rfl (by go_num) (.cons rfl rfl (.cons rfl ?_ (.cons rfl rfl (.cons rfl rfl .nil))))) rfl
      ·rw[HSTP.out,HQ.out,HPW.out]
       simp only[List.length_append,List.length_cons,List.length_nil]
       omega
      ·rw[HSTP.out,HQ.out,HPW.out]
       simp only[List.append_assoc,List.cons_append,List.nil_append]
     ·have HPW:=Lib.hid (show XW F ⟨name,7,bs,size,big,mn,mx,stop,count,elem,names,parts⟩ j=x++[58]++rc.name by rw[hpw,if_neg (by rw[beq_iff_eq];exact hxe)])
      have htest:((⟨x.toArray⟩:ByteArray).data.toList==(⟨#[]⟩:ByteArray).data.toList)=false:=by
       cases x with
       |nil=>exact absurd rfl hxe
       |cons=>rfl
      have htest2:((⟨x.toArray⟩:ByteArray).data.toList != (⟨#[]⟩:ByteArray).data.toList)=true:=by
       cases x with
       |nil=>exact absurd rfl hxe
       |cons=>rfl
      clear hpw hxe;refine yq<|yq<|yr<|yo zM<|yo zF<|yo (zB 0)<|yo zL<|yo zlt<|yl<|yn<|y1<|ys<|yn<|yq<|yb<|yq<|yr<|yo zM ?_;refine Q1 (X9 (r:=S10++Q++[32]) rfl rfl rfl (by decide) rfl rfl rfl (by (try simp only[List.length_append,List.length_cons,List.length_nil]);omega)) ?_;refine yo zA<|yl<|yn<|yq<|yq<|yr<|yo zF<|yo (zB 0)<|yo zet<|yo zM<|yo zF<|yo (zB 0)<|yo zM<|yo zi1<|yo zC<|yo zsa<|yo zY<|yl<|yn<|y0<|ys<|yn<|yq<|yq<|yr<|yo zF<|yo (zB 0)<|yo zet<|yo zM<|yo zF<|yo (zB 0)<|yo zM<|yo zi1<|yo zC ?_;refine Q1 (Jy rfl rfl (by decide) rfl rfl rfl (by assumption)) ?_;refine yo zY<|yl<|yn<|y1<|yr<|yo zM<|yo zF<|yo (zB 0)<|yo zM<|yo zi1<|yo zC ?_;refine Q1 (X9 (r:=S10++Q++[32]++x) rfl rfl rfl (by decide) rfl rfl rfl (by (try simp only[List.length_append,List.length_cons,List.length_nil]);omega)) ?_;refine Q1 (X9 (r:=S10++Q++[32]++x++[58]) rfl rfl rfl (by decide) rfl rfl rfl (by (try simp only[List.length_append,List.length_cons,List.length_nil]);omega)) ?_;refine yo zA<|yl<|yn<|Xm (by kernel_rfl) (by kernel_rfl) ?_;refine Qd zM ?_;refine Qd zF ?_;refine Qd (zB 1) ?_;refine Qd zF ?_;refine Qd (zB 0) ?_;refine Qd zM ?_;refine Qd zi1 ?_;refine Qd zC ?_;refine Qd (Qv rfl rfl (by decide) rfl rfl rfl (by omega)) ?_;refine Qd zF ?_;refine Qd zR ?_;refine Qd (X9 (r:=S10++Q++[32]++x++[58]++rc.name) rfl rfl rfl (by decide) rfl rfl rfl (by (try simp only[List.length_append,List.length_cons,List.length_nil]);omega)) ?_;refine Qd zA ?_;refine XS ?_;refine yn<|yr<|yo zM<|yo zP<|yo zA<|yl ?_;refine QA (j+1) [0,1] (by decide) ⟨hjn,?_⟩ (by omega) (.cons rfl (by go_num) (.cons rfl rfl (.cons rfl ?_ (.cons rfl rfl (.cons rfl rfl .nil))))) rfl
      ·rw[HSTP.out,HQ.out,HPW.out]
       simp only[List.length_append,List.length_cons,List.length_nil]
       omega
      ·rw[HSTP.out,HQ.out,HPW.out]
       simp only[List.append_assoc,List.cons_append,List.nil_append]
    ·obtain rfl:kind=8:=by omega
     have hpw:XW F ⟨name,8,bs,size,big,mn,mx,stop,count,elem,names,parts⟩ j=rc.name:=by
      rw[← HNMC.out,← HPJ.out]
      rfl
     have HPW:=Lib.hid hpw;clear hpw;refine yq<|yq<|yr<|yo zM<|yo zF<|yo (zB 0)<|yo zL<|yo zlt<|yl<|yn<|y1<|ys<|yn<|yq<|yb<|yq<|yr<|yo zM ?_;refine Q1 (X9 (r:=S10++Q++[32]) rfl rfl rfl (by decide) rfl rfl rfl (by (try simp only[List.length_append,List.length_cons,List.length_nil]);omega)) ?_;refine yo zA<|yl<|yn<|yq<|yq<|yr<|yo zF<|yo (zB 0)<|yo zef<|yo zM<|yo zS<|yo zS<|yo zS<|yo zS<|yo zS<|yo zS<|yo zN<|yl<|yn<|y0<|ys<|yn<|yq<|yq<|yr<|yo zF<|yo (zB 0)<|yo zef<|yo zM<|yo zS<|yo zS<|yo zS<|yo zS<|yo zS<|yo zS<|yo zN<|yl<|yn<|y0<|ys<|yn<|Xm (by kernel_rfl) (by kernel_rfl) ?_;refine Qd zM ?_;refine Qd zF ?_;refine Qd (zB 1) ?_;refine Qd zF ?_;refine Qd (zB 0) ?_;refine Qd zM ?_;refine Qd zi1 ?_;refine Qd zC ?_;refine Qd (Qv rfl rfl (by decide) rfl rfl rfl (by omega)) ?_;refine Qd zF ?_;refine Qd zR ?_;refine Qd (X9 (r:=S10++Q++[32]++rc.name) rfl rfl rfl (by decide) rfl rfl rfl (by (try simp only[List.length_append,List.length_cons,List.length_nil]);omega)) ?_;refine Qd zA ?_;refine XS ?_;refine yn<|yr<|yo zM<|yo zP<|yo zA<|yl ?_;refine QA (j+1) [0,1] (by decide) ⟨hjn,?_⟩ (by omega) (.cons rfl (by go_num) (.cons rfl rfl (.cons rfl ?_ (.cons rfl rfl (.cons rfl rfl .nil))))) rfl
     ·rw[HSTP.out,HQ.out,HPW.out]
      simp only[List.length_append,List.length_cons,List.length_nil]
      omega
     ·rw[HSTP.out,HQ.out,HPW.out]
      simp only[List.append_assoc,List.cons_append,List.nil_append]
   ·obtain rfl:j=parts.length:=by omega
    refine yq<|yq<|yr<|yo zM<|yo zF<|yo (zB 0)<|yo zL<|yo zlf<|yl<|yn<|y0<|ye<|yx<|yx<|yu ?_;refine XX (S10++Yw F ⟨name,kind,bs,size,big,mn,mx,stop,count,elem,names,parts⟩ parts.length) [0,1] (by decide) ⟨rfl,by (try simp only[List.length_append,List.length_cons,List.length_nil]);omega⟩ (.cons rfl rfl (.cons rfl rfl (.cons rfl rfl (.cons rfl rfl .nil)))) rfl
  rintro S11 ⟨hS11,hm11⟩
  have HS11:=Lib.hid hS11
  have hl11:S11.length≤S0.length+29597333:=by omega
  clear hS11 hm11 hl10
  show sE _ _ _ _ _ [(1,.pointer (some ⟨b1,0,none⟩)),(3,.string ⟨(S11).toArray⟩),(4,.int .i64 (i:Int)),(5,.pointer (some ⟨b5,0,none⟩))] [.blk b5 (.cells ([.string ⟨name.toArray⟩,.int .i64 kind,.slice Ab bs.length cb,.int .i64 size,.bool big,.int .i64 mn,.int .i64 mx,.int .i64 stop,.int .i64 count,.int .i64 elem,.slice An names.length cn,.slice Ap parts.length cp]:List Value).toArray 52 (0,0)),.blk b1 (.cells ([.slice (some ⟨b,o,none⟩) n c]:List Value).toArray 24 (0,0))] _
  have hfin:S11++[10]=Kq F (i+1):=by
   rw[HST.out]
   unfold Q1y
   rw[HS11.out,HS10.out,HS9.out,HS8.out,HS7.out,HS6.out,HS5.out,HS4.out,HS3.out,HS2.out];rw[← HS1.out]
   show _=S0++(name++[32]++Xz kind++(if kind==1 then [32] else [])++Jr bs++spW (Z7 kind) (Lib.itoa stop)++spW (Z4 kind) (Lib.itoa size)++spW (kind==2) (if big then V3 else Ze)++spW (kind==2) (Lib.itoa mn)++spW (Zf kind) (Lib.itoa mx)++spW (Qp kind) (Zv F count)++spW (XJ kind) (Zv F elem)++Yw F ⟨name,kind,bs,size,big,mn,mx,stop,count,elem,names,parts⟩ parts.length++[10])
   have hbl:(if kind==2&&big==true then [32,98,105,103,32]++Lib.itoa mn else [])++(if kind==2&&big==false then [32,108,105,116,116,108,101,32]++Lib.itoa mn else [])=spW (kind==2) (if big then V3 else Ze)++spW (kind==2) (Lib.itoa mn):=by
    cases kind==2<;>cases big<;>simp [spW,V3,Ze]
   simp only[List.append_assoc] at hbl ⊢
   rw[← List.append_assoc (ite ((kind==2&&big==true)=true) _ _),hbl,List.append_assoc]
  have HFIN:=Lib.hid hfin
  have hfl:(Kq F (i+1)).length≤(i+1)*100000000:=by rw[← hfin,List.length_append,List.length_cons,List.length_nil];omega
  clear hfin;refine yr<|yo zM ?_;refine Q1 (X9 (r:=S11++[10]) rfl rfl rfl (by decide) rfl rfl rfl (by (try simp only[List.length_append,List.length_cons,List.length_nil]);omega)) ?_;refine yo zA<|yl<|yn<|yr<|yo zM<|yo zP<|yo zA<|yl ?_;refine QA (i+1) [1] (by decide) ⟨hin,hfl⟩ (by omega) (.cons rfl rfl (.cons rfl (by rw[HFIN.out]) (.cons rfl (by go_num) .nil))) rfl
 ·obtain rfl:i=n:=by omega
  refine yq<|yq<|yr<|yo zM<|yo zF<|yo (zB 0)<|yo zL<|yo zlf<|yl<|yn<|y0<|ye<|yn<|yq<|yr<|yo zM<|yo zA<|yl<|yn<|yt ?_;exact Q9 (by exact .inr rfl) rfl (.tmp rfl) (fun w hw=>⟨rfl,hw.k.below⟩)
end
end Go.Proofs.YtgdiadednlajgaaGreatDoor
