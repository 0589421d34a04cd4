import Derived.Test.YtphkhfdmlcnoeaaGreatDoorP28
namespace Go.Proofs.YtphkhfdmlcnoeaaGreatDoor
set_option linter.unusedVariables false
set_option linter.unusedSimpArgs false
set_option maxRecDepth 1000000
set_option maxHeartbeats 32000000
open Go.RowKit
section
variable {S bs s:List UInt8}{j:Nat}{k:Int}{l:List (List UInt8)}{u:Bool}
theorem QdJ(h:k=3\/k=5\/k=9):XZ k=true:=by rcases h with rfl|rfl|rfl<;>rfl
theorem QeJ(h:¬(k=3\/k=5\/k=9)):XZ k=false:=by unfold XZ XI;simp;omega
theorem Qc5(h:k=2\/k=4\/k=5):XY k=true:=by rcases h with rfl|rfl|rfl<;>rfl
theorem QeF(h:¬(k=2\/k=4\/k=5)):XY k=false:=by unfold XY XI;simp;omega
theorem Qeu(h:k=2\/k=3):Z9 k=true:=by rcases h with rfl|rfl<;>rfl
theorem Qit(h:¬(k=2\/k=3)):Z9 k=false:=by unfold Z9 XI;simp;omega
theorem Qb1(h:k=6\/k=10):Qz k=true:=by rcases h with rfl|rfl<;>rfl
theorem QcW(h:¬(k=6\/k=10)):Qz k=false:=by unfold Qz XI;simp;omega
theorem Qie(h:k=6\/k=9):JP k=true:=by rcases h with rfl|rfl<;>rfl
theorem Qk9(h:¬(k=6\/k=9)):JP k=false:=by unfold JP XI;simp;omega
theorem Q7f(h:u=true):S++[32]++s=S++spW u s:=by rw[h];unfold spW;simp
theorem Qvd(h:u=false):S=S++spW u s:=by rw[h];unfold spW;simp
theorem YM{n:Int}(h:0<=n/\n<=1000000000000000000):(Lib.itoa n).length<=21:=Lib.itoa_length_le n Q3 Q3
theorem QiV(k:Int):(JS k).length<=8:=by
 unfold JS;by_cases h:(k - 1).toNat<10
 ·rcases (show (k - 1).toNat=0\/(k - 1).toNat=1\/(k - 1).toNat=2\/(k - 1).toNat=3\/(k - 1).toNat=4\/(k - 1).toNat=5\/(k - 1).toNat=6\/(k - 1).toNat=7\/(k - 1).toNat=8\/(k - 1).toNat=9 by omega) with h|h|h|h|h|h|h|h|h|h<;>rw[h]<;>decide
 ·rw[List.getD_eq_getElem?_getD,List.getElem?_eq_none (by show 10<=_;omega)]
  decide
theorem Qjr(h:j<bs.length):Vt (bs.take j)++QbC (bs.getD j 0)=Vt (bs.take (j+1)):=by
 unfold Vt;rw[List.take_add_one,List.getElem?_eq_getElem h,List.getD_eq_getElem?_getD,List.getElem?_eq_getElem h,List.map_append,List.flatten_append];simp only[Option.toList,List.map_cons,List.map_nil,List.flatten_cons,List.flatten_nil,List.append_nil];rfl
theorem QjH(x:UInt8):(QbC x).length=2:=rfl
theorem Qh6{l:List Int}(h:j<l.length):(iv l)[j]? =some (.int .i64 (l.getD j 0)):=by
 unfold iv;refine QhC ?_;rfl
theorem QjL{l:List Int}(h:j<l.length):l.getD j 0∈l:=by
 refine Qdj ?_;exact List.getElem_mem _
theorem QpK(h:j<bs.length):(bv bs)[j]? =some (.int .u8 ((bs.getD j 0).toNat:Int)):=by
 unfold bv;refine QhC ?_;rfl
theorem Qph(h:j<l.length):(sv l)[j]? =some (.string ⟨(l.getD j []).toArray⟩):=by
 unfold sv;refine QhC ?_;rfl
theorem Qj8(h:j<l.length):l.getD j []∈l:=by
 refine Qdj ?_;exact List.getElem_mem _
def YD(F:List Rl)(r:Rl)(j:Nat):List UInt8:=((List.range j).map fun i=>32::XL F r i).flatten
theorem Qca(F:List Rl)(r:Rl)(j:Nat):YD F r (j+1)=YD F r j++32::XL F r j:=by
 unfold YD;rw[List.range_succ];simp
def KL(F:List Rl)(i:Nat):List UInt8:=((F.take i).map (Q2K F)).flatten
theorem Qe6{F:List Rl}{i:Nat}{r:Rl}(h:F[i]? =some r):KL F (i+1)=KL F i++Q2K F r:=by
 unfold KL;rw[List.take_add_one,h];simp
theorem Qe7(c:UInt8):IntKind.i64.wrap (c.toNat:Int)=(c.toNat:Int):=IntWalk.i64_in _ (by have:=c.toNat_lt;omega)
section
variable {A:Option Addr}{n c:Nat}{W:World}{F:List Rl}
theorem Q7h(hf:QX W W.heap.size A n F)(hF:FOk F)(hn:n<=40)(hn0:0<n)(hnm:∀r∈F,r.name.length<=1048576/\∀x∈r.names,x.length<=1048576):
  Calls Tryz.prog 41 #[.agg #[.slice A n c]] W (fun e w'=>e=.returned (.string ⟨(KL F n).toArray⟩)/\Below W.heap.size W w'):=by
 have hlen:F.length=n:=hf.1;obtain⟨b,o,rfl⟩:=hf.addr Q3;have HFM:=Q2 hf;have HF:=Q2 hF;have HLEN:=Q2 hlen;have HNM:=Q2 hnm;clear hf hF hlen hnm;go_enter Tryz.func41,Tryz.ntmps41;refine Qs (M:=[]) (W:=W) (N:=221) (E:=[(0,.agg #[.slice (some ⟨b,o,none⟩) n c])]) (O:=[]) ?_ Zj (Wd.start [] W);refine yq<|yr ?_;refine yB fun b1=>?_;refine Qnf ?_;refine QN (ι:=Nat) (fun y=>y<=n/\(KL F y).length<=y*100000000) (fun y=>n - y) (fun y=>[(1,.pointer (some ⟨b1,0,none⟩)),(3,.string ⟨(KL F y).toArray⟩),(4,.int .i64 (y:Int))]) (fun _=>[.blk b1 (.cells ([.slice (some ⟨b,o,none⟩) n c]:List Value).toArray 24 (0,0))]) 0 [0] Q1 ⟨Nat.zero_le _,Nat.zero_le _⟩ J9 rfl ?_;rintro i ⟨hi,hS0⟩;by_cases hin:i<n
 ·obtain⟨rk,Ab,cb,An,cn,Ap,cp,hrk,hrg,hlk⟩:=HFM.out.rl hin;have hok:=HF.out i rk hrk;rw[HLEN.out] at hok;have hst:=Qe6 hrk;have HST:=Q2 hst;have hnm:=HNM.out rk Qdq;have hb:=hlk.b;have hp:=hlk.p;have hnn:=hlk.n
  have hall:∀x:Int,0<=x/\x<n->∃rc Ac cc Ad cd Ae ce,W.rangeAt b (o+x.toNat*12) (ruC rc (.slice Ac rc.bs.length cc) (.slice Ad rc.names.length cd) (.slice Ae rc.parts.length ce))/\YP F x=rc.name/\rc.name.length<=1048576:=fun x hx=>by
   obtain⟨rc,Ac,cc,Ad,cd,Ae,ce,hrc,hrgc,_⟩:=HFM.out.rl (i:=x.toNat) Q3;exact⟨rc,Ac,cc,Ad,cd,Ae,ce,hrgc,Q3q hrc,(HNM.out rc (List.mem_of_getElem? hrc)).1⟩
  have HALL:=Q2 hall;have HB:=Q2 hb;have HP:=Q2 hp;have HNN:=Q2 hnn;have HOK:=Q2 hok;clear hlk hall hb hp hnn hrk hst hok;obtain⟨name,kind,bs,size,big,mn,mx,stop,count,elem,names,parts⟩:=rk;simp only[ruC] at hrg;obtain⟨hn1,hn2⟩:=hnm;simp only at hn1 hn2;have HN2:=Q2 hn2;have hkd:1<=kind/\kind<=10:=HOK.out.kind;have hkw:=QiV kind;have hb16:bs.length<=16:=HOK.out.bs16;have hp12:parts.length<=12:=HOK.out.p12;clear hn2;obtain⟨S0,hS0'⟩:∃S,KL F i=S:=⟨_,rfl⟩;rw[hS0'] at hS0;rw[hS0'] at HST;show sE _ _ _ _ _ [(1,.pointer (some ⟨b1,0,none⟩)),(3,.string ⟨(KL F i).toArray⟩),(4,.int .i64 (i:Int))] [.blk b1 (.cells ([.slice (some ⟨b,o,none⟩) n c]:List Value).toArray 24 (0,0))] _;rw[hS0'];clear hS0';have hSb:S0.length<=4000000000:=by omega
  refine yq<|yq<|yr<|yo zM<|yo zF<|yo (zB 0)<|yo zL<|yo zlt<|yl<|yn<|y1<|ys<|yn<|yq<|yb<|yq<|yr<|yo zF<|yo (zB 0)<|yo zM<|yo zi<|yo zE ?_;refine yA fun b5=>?_;refine yW 0 ?_;refine yl<|yn<|yq<|Xt Q5 Q5 ?_;refine Q6k ?_;refine Qd (zB 0) ?_;refine Qd (X2 (r:=S0++name) rfl rfl rfl Q1 rfl rfl rfl Q0S) ?_;refine Qd (X2 (r:=S0++name++[32]) rfl rfl rfl Q1 rfl rfl rfl Q0S) ?_;refine Q7P ?_;refine Qd (Qj (f:=77) rfl rfl Q1 rfl rfl (fun w hw=>Qe3 hkd w)) ?_;refine Qd (X2 (r:=S0++name++[32]++JS kind) rfl rfl rfl Q1 rfl rfl rfl Q0S) ?_;refine Q0i ?_;refine yn ?_;obtain⟨S1,hS1⟩:∃S,S0++name++[32]++JS kind=S:=⟨_,rfl⟩;have hl1:S1.length<=S0.length+1100000:=by rw[<- hS1];refine QhX ?_;omega
  rw[hS1];have HS1:=Q2 hS1;clear hS1;refine Zh (ι:=List UInt8) (fun T=>T=S1++(if kind==1 then [32] else [])/\T.length<=S1.length+1) (fun T=>[(1,.pointer (some ⟨b1,0,none⟩)),(3,.string ⟨(T).toArray⟩),(4,.int .i64 (i:Int)),(5,.pointer (some ⟨b5,0,none⟩))]) (fun _=>[.blk b5 (.cells ([.string ⟨name.toArray⟩,.int .i64 kind,.slice Ab bs.length cb,.int .i64 size,.bool big,.int .i64 mn,.int .i64 mx,.int .i64 stop,.int .i64 count,.int .i64 elem,.slice An names.length cn,.slice Ap parts.length cp]:List Value).toArray 65 (0,0)),.blk b1 (.cells ([.slice (some ⟨b,o,none⟩) n c]:List Value).toArray 24 (0,0))]) ?_ ?_
  ·by_cases hk:kind=1
   ·refine yq<|yr<|yo zF<|yo (zB 0)<|yo zet<|yl<|yn<|y1<|yr<|yo zM ?_;refine Q4 (X2 (r:=S1++[32]) rfl rfl rfl Q1 rfl rfl rfl Q0S) ?_;refine yo zA<|yl ?_;refine XG (S1++[32]) [0,1] Q1 ⟨by rw[beq_iff_eq.2 hk];rfl,by (try simp only[List.length_append,List.length_cons,List.length_nil]);omega⟩ mc1 rfl
   ·refine yq<|yr<|yo zF<|yo (zB 0)<|yo zef<|yl<|yn<|y0<|ys ?_;refine XG (S1) [0,1] Q1 ⟨by rw[beq_eq_false_iff_ne.2 hk];exact(List.append_nil _).symm,by (try simp only[List.length_append,List.length_cons,List.length_nil]);omega⟩ mc1 rfl
  rintro S2 ⟨hS2,hm2⟩;have HS2:=Q2 hS2;have hl2:S2.length<=S0.length+1100001:=by omega
  clear hS2 hm2 hl1;show sE _ _ _ _ _ [(1,.pointer (some ⟨b1,0,none⟩)),(3,.string ⟨(S2).toArray⟩),(4,.int .i64 (i:Int)),(5,.pointer (some ⟨b5,0,none⟩))] [.blk b5 (.cells ([.string ⟨name.toArray⟩,.int .i64 kind,.slice Ab bs.length cb,.int .i64 size,.bool big,.int .i64 mn,.int .i64 mx,.int .i64 stop,.int .i64 count,.int .i64 elem,.slice An names.length cn,.slice Ap parts.length cp]:List Value).toArray 65 (0,0)),.blk b1 (.cells ([.slice (some ⟨b,o,none⟩) n c]:List Value).toArray 24 (0,0))] _;refine Zh (ι:=List UInt8) (fun T=>T=S2++Vt bs/\T.length<=S2.length+32) (fun T=>[(1,.pointer (some ⟨b1,0,none⟩)),(3,.string ⟨(T).toArray⟩),(4,.int .i64 (i:Int)),(5,.pointer (some ⟨b5,0,none⟩))]) (fun _=>[.blk b5 (.cells ([.string ⟨name.toArray⟩,.int .i64 kind,.slice Ab bs.length cb,.int .i64 size,.bool big,.int .i64 mn,.int .i64 mx,.int .i64 stop,.int .i64 count,.int .i64 elem,.slice An names.length cn,.slice Ap parts.length cp]:List Value).toArray 65 (0,0)),.blk b1 (.cells ([.slice (some ⟨b,o,none⟩) n c]:List Value).toArray 24 (0,0))]) ?_ ?_
  ·refine yq<|yr<|yo zA<|yl<|yn<|yb ?_;refine QN (ι:=Nat) (fun j=>j<=bs.length) (fun j=>bs.length - j) (fun j=>(6,.int .i64 (j:Int))::[(1,.pointer (some ⟨b1,0,none⟩)),(3,.string ⟨(S2++Vt (bs.take j)).toArray⟩),(4,.int .i64 (i:Int)),(5,.pointer (some ⟨b5,0,none⟩))]) (fun _=>[.blk b5 (.cells ([.string ⟨name.toArray⟩,.int .i64 kind,.slice Ab bs.length cb,.int .i64 size,.bool big,.int .i64 mn,.int .i64 mx,.int .i64 stop,.int .i64 count,.int .i64 elem,.slice An names.length cn,.slice Ap parts.length cp]:List Value).toArray 65 (0,0)),.blk b1 (.cells ([.slice (some ⟨b,o,none⟩) n c]:List Value).toArray 24 (0,0))]) 0 [0,1] Q1 Ze (.cons rfl rfl (.cons rfl rfl (.cons rfl (by show Value.string ⟨(S2).toArray⟩=.string ⟨(S2++Vt (bs.take 0)).toArray⟩;rw[List.take_zero];show _=Value.string ⟨(S2++[]).toArray⟩;rw[List.append_nil]) Q6Y))) rfl ?_;intro j hj
   have hh:(Vt (bs.take j)).length<=32:=by rw[Q7d,List.length_take];omega
   by_cases hjn:j<bs.length
   ·have hst:=Qjr hjn;obtain⟨bb,bo,rfl,_,hc⟩:=HB.out.2 (by show 0<bs.length;omega);have hcj:=hc j _ (QpK hjn);obtain⟨x,hx⟩:∃x,bs.getD j 0=x:=⟨_,rfl⟩;obtain⟨H,hH⟩:∃x,Vt (bs.take j)=x:=⟨_,rfl⟩;rw[hx,hH] at hst;rw[hH] at hh;rw[hx] at hcj;have hxb:=QjH x;have HSH:=Q2 hst;clear hc hst hx
    show sE _ _ _ _ _ ((6,.int .i64 (j:Int))::[(1,.pointer (some ⟨b1,0,none⟩)),(3,.string ⟨(S2++Vt (bs.take j)).toArray⟩),(4,.int .i64 (i:Int)),(5,.pointer (some ⟨b5,0,none⟩))]) [.blk b5 (.cells ([.string ⟨name.toArray⟩,.int .i64 kind,.slice (some ⟨bb,bo,none⟩) bs.length cb,.int .i64 size,.bool big,.int .i64 mn,.int .i64 mx,.int .i64 stop,.int .i64 count,.int .i64 elem,.slice An names.length cn,.slice Ap parts.length cp]:List Value).toArray 65 (0,0)),.blk b1 (.cells ([.slice (some ⟨b,o,none⟩) n c]:List Value).toArray 24 (0,0))] _;rw[hH];clear hH;refine yq<|yq<|yr<|yo zM<|yo zF<|yo (zB 0)<|yo zL<|yo zlt<|yl<|yn<|y1<|ys<|yn<|yq<|yb<|yr<|yo zM<|yo zF<|yo (zB 0)<|yo zM<|yo zi1<|yo zC ?_;refine Q4 (YH rfl rfl Q1 rfl rfl (by rw[Tryz.underlying5];rfl) Tryz.underlying3 (Qe7 x)) ?_;refine Q4 (Qj (f:=78) rfl rfl Q1 rfl rfl (fun w hw=>Qj5 x w)) ?_;refine Q4 (X2 (r:=S2++H++QbC x) rfl rfl rfl Q1 rfl rfl rfl Q0S) ?_;refine KV ?_;refine Qt (j+1) [0,1] Q1 hjn Q3 (.cons rfl (by go_num) (.cons rfl rfl (.cons rfl (by rw[List.append_assoc,HSH.out]) Q6Y))) rfl
   ·obtain rfl:j=bs.length:=by omega
    rw[List.take_length] at hh;show sE _ _ _ _ _ ((6,.int .i64 ((bs.length:Nat):Int))::[(1,.pointer (some ⟨b1,0,none⟩)),(3,.string ⟨(S2++Vt (bs.take bs.length)).toArray⟩),(4,.int .i64 (i:Int)),(5,.pointer (some ⟨b5,0,none⟩))]) [.blk b5 (.cells ([.string ⟨name.toArray⟩,.int .i64 kind,.slice Ab bs.length cb,.int .i64 size,.bool big,.int .i64 mn,.int .i64 mx,.int .i64 stop,.int .i64 count,.int .i64 elem,.slice An names.length cn,.slice Ap parts.length cp]:List Value).toArray 65 (0,0)),.blk b1 (.cells ([.slice (some ⟨b,o,none⟩) n c]:List Value).toArray 24 (0,0))] _;rw[List.take_length];refine QmI ?_;refine XG (S2++Vt bs) [0,1] Q1 QtD mc1 rfl
  rintro S3 ⟨hS3,hm3⟩;have HS3:=Q2 hS3;have hl3:S3.length<=S0.length+1100033:=by omega
  clear hS3 hm3 hl2;show sE _ _ _ _ _ [(1,.pointer (some ⟨b1,0,none⟩)),(3,.string ⟨(S3).toArray⟩),(4,.int .i64 (i:Int)),(5,.pointer (some ⟨b5,0,none⟩))] [.blk b5 (.cells ([.string ⟨name.toArray⟩,.int .i64 kind,.slice Ab bs.length cb,.int .i64 size,.bool big,.int .i64 mn,.int .i64 mx,.int .i64 stop,.int .i64 count,.int .i64 elem,.slice An names.length cn,.slice Ap parts.length cp]:List Value).toArray 65 (0,0)),.blk b1 (.cells ([.slice (some ⟨b,o,none⟩) n c]:List Value).toArray 24 (0,0))] _;refine Zh (ι:=List UInt8) (fun T=>T=S3++spW (XZ kind) (Lib.itoa stop)/\T.length<=S3.length+22) (fun T=>[(1,.pointer (some ⟨b1,0,none⟩)),(3,.string ⟨(T).toArray⟩),(4,.int .i64 (i:Int)),(5,.pointer (some ⟨b5,0,none⟩))]) (fun _=>[.blk b5 (.cells ([.string ⟨name.toArray⟩,.int .i64 kind,.slice Ab bs.length cb,.int .i64 size,.bool big,.int .i64 mn,.int .i64 mx,.int .i64 stop,.int .i64 count,.int .i64 elem,.slice An names.length cn,.slice Ap parts.length cp]:List Value).toArray 65 (0,0)),.blk b1 (.cells ([.slice (some ⟨b,o,none⟩) n c]:List Value).toArray 24 (0,0))]) ?_ ?_
  ·by_cases hk:kind=3\/kind=5\/kind=9
   ·have hv:0<=stop/\stop<=1000000000000000000:=by
     have:=HOK.out.stop hk;exact Q3W
    have hil:=YM hv;have hu:=QdJ hk;rcases hk with rfl|rfl|rfl;all_goals
     refine Q65 ?_
     refine QdU ?_;first|refine Q4 zF ?_|refine Q4 zS ?_
     first|refine Q4 (zB 0) ?_|refine Q4 zS ?_
     first|refine Q4 QsG ?_|refine Q4 zS ?_
     first|refine Q4 zY ?_|refine Q4 zN ?_
     refine yo zM ?_;first|refine Q4 zF ?_|refine Q4 zS ?_
     first|refine Q4 (zB 0) ?_|refine Q4 zS ?_
     first|refine Q4 Q3r ?_|refine Q4 zS ?_
     first|refine Q4 zY ?_|refine Q4 zN ?_
     refine yl ?_;repeat(first|((with_reducible show sE _ _ _ _ _ _ _ _);first|refine Q6 ?_|refine Q9 rfl ?_)|((with_reducible show xE _ _ _ _ _ _ _);refine Qk ?_))
     refine yo zM ?_;refine Q4 (X2 (r:=S3++[32]) rfl rfl rfl Q1 rfl rfl rfl (by (try simp only[List.length_append,List.length_cons,List.length_nil]);omega)) ?_;refine yo zF<|yo (zB 0) ?_;refine Q4 (Qj (f:=79) rfl rfl Q1 rfl rfl (fun w hw=>JF Q3 w)) ?_;refine Q4 (X2 (r:=S3++[32]++Lib.itoa stop) rfl rfl rfl Q1 rfl rfl rfl (by (try simp only[List.length_append,List.length_cons,List.length_nil]);omega)) ?_;refine yo zA<|yl ?_;refine XG (S3++[32]++Lib.itoa stop) [0,1] Q1 ⟨Q7f hu,by (try simp only[List.length_append,List.length_cons,List.length_nil]);omega⟩ (.cons rfl rfl (.cons rfl rfl (.cons rfl rfl (.cons rfl rfl .nil)))) rfl
   ·have hu:=QeJ hk;refine QrS ?_;refine XG (S3) [0,1] Q1 QcP mc1 rfl
  rintro S4 ⟨hS4,hm4⟩;have HS4:=Q2 hS4;have hl4:S4.length<=S0.length+1100055:=by omega
  clear hS4 hm4 hl3;show sE _ _ _ _ _ [(1,.pointer (some ⟨b1,0,none⟩)),(3,.string ⟨(S4).toArray⟩),(4,.int .i64 (i:Int)),(5,.pointer (some ⟨b5,0,none⟩))] [.blk b5 (.cells ([.string ⟨name.toArray⟩,.int .i64 kind,.slice Ab bs.length cb,.int .i64 size,.bool big,.int .i64 mn,.int .i64 mx,.int .i64 stop,.int .i64 count,.int .i64 elem,.slice An names.length cn,.slice Ap parts.length cp]:List Value).toArray 65 (0,0)),.blk b1 (.cells ([.slice (some ⟨b,o,none⟩) n c]:List Value).toArray 24 (0,0))] _;refine Zh (ι:=List UInt8) (fun T=>T=S4++spW (XY kind) (Lib.itoa size)/\T.length<=S4.length+22) (fun T=>[(1,.pointer (some ⟨b1,0,none⟩)),(3,.string ⟨(T).toArray⟩),(4,.int .i64 (i:Int)),(5,.pointer (some ⟨b5,0,none⟩))]) (fun _=>[.blk b5 (.cells ([.string ⟨name.toArray⟩,.int .i64 kind,.slice Ab bs.length cb,.int .i64 size,.bool big,.int .i64 mn,.int .i64 mx,.int .i64 stop,.int .i64 count,.int .i64 elem,.slice An names.length cn,.slice Ap parts.length cp]:List Value).toArray 65 (0,0)),.blk b1 (.cells ([.slice (some ⟨b,o,none⟩) n c]:List Value).toArray 24 (0,0))]) ?_ ?_
  ·by_cases hk:kind=2\/kind=4\/kind=5
   ·have hv:0<=size/\size<=1000000000000000000:=by
     rcases hk with hk|hk|hk
     ·have:=HOK.out.num hk
      exact Q3W
     ·have:=HOK.out.size4 hk
      exact Q3W
     ·have:=HOK.out.size5 hk
      exact Q3W
    have hil:=YM hv;have hu:=Qc5 hk;rcases hk with rfl|rfl|rfl;all_goals
     refine Q65 ?_
     refine QdU ?_;first|refine Q4 zF ?_|refine Q4 zS ?_
     first|refine Q4 (zB 0) ?_|refine Q4 zS ?_
     first|refine Q4 QsG ?_|refine Q4 zS ?_
     first|refine Q4 zY ?_|refine Q4 zN ?_
     refine yo zM ?_;first|refine Q4 zF ?_|refine Q4 zS ?_
     first|refine Q4 (zB 0) ?_|refine Q4 zS ?_
     first|refine Q4 Q3r ?_|refine Q4 zS ?_
     first|refine Q4 zY ?_|refine Q4 zN ?_
     refine yl ?_;repeat(first|((with_reducible show sE _ _ _ _ _ _ _ _);first|refine Q6 ?_|refine Q9 rfl ?_)|((with_reducible show xE _ _ _ _ _ _ _);refine Qk ?_))
     refine yo zM ?_;refine Q4 (X2 (r:=S4++[32]) rfl rfl rfl Q1 rfl rfl rfl (by (try simp only[List.length_append,List.length_cons,List.length_nil]);omega)) ?_;refine yo zF<|yo (zB 0) ?_;refine Q4 (Qj (f:=79) rfl rfl Q1 rfl rfl (fun w hw=>JF Q3 w)) ?_;refine Q4 (X2 (r:=S4++[32]++Lib.itoa size) rfl rfl rfl Q1 rfl rfl rfl (by (try simp only[List.length_append,List.length_cons,List.length_nil]);omega)) ?_;refine yo zA<|yl ?_;refine XG (S4++[32]++Lib.itoa size) [0,1] Q1 ⟨Q7f hu,by (try simp only[List.length_append,List.length_cons,List.length_nil]);omega⟩ (.cons rfl rfl (.cons rfl rfl (.cons rfl rfl (.cons rfl rfl .nil)))) rfl
   ·have hu:=QeF hk;refine QrS ?_;refine XG (S4) [0,1] Q1 QcP mc1 rfl
  rintro S5 ⟨hS5,hm5⟩;have HS5:=Q2 hS5;have hl5:S5.length<=S0.length+1100077:=by omega
  clear hS5 hm5 hl4;show sE _ _ _ _ _ [(1,.pointer (some ⟨b1,0,none⟩)),(3,.string ⟨(S5).toArray⟩),(4,.int .i64 (i:Int)),(5,.pointer (some ⟨b5,0,none⟩))] [.blk b5 (.cells ([.string ⟨name.toArray⟩,.int .i64 kind,.slice Ab bs.length cb,.int .i64 size,.bool big,.int .i64 mn,.int .i64 mx,.int .i64 stop,.int .i64 count,.int .i64 elem,.slice An names.length cn,.slice Ap parts.length cp]:List Value).toArray 65 (0,0)),.blk b1 (.cells ([.slice (some ⟨b,o,none⟩) n c]:List Value).toArray 24 (0,0))] _;refine Zh (ι:=List UInt8) (fun T=>T=S5++(if kind==2&&big==true then [32,98,105,103,32]++Lib.itoa mn else [])/\T.length<=S5.length+40) (fun T=>[(1,.pointer (some ⟨b1,0,none⟩)),(3,.string ⟨(T).toArray⟩),(4,.int .i64 (i:Int)),(5,.pointer (some ⟨b5,0,none⟩))]) (fun _=>[.blk b5 (.cells ([.string ⟨name.toArray⟩,.int .i64 kind,.slice Ab bs.length cb,.int .i64 size,.bool big,.int .i64 mn,.int .i64 mx,.int .i64 stop,.int .i64 count,.int .i64 elem,.slice An names.length cn,.slice Ap parts.length cp]:List Value).toArray 65 (0,0)),.blk b1 (.cells ([.slice (some ⟨b,o,none⟩) n c]:List Value).toArray 24 (0,0))]) ?_ ?_
  ·by_cases hk:kind=2/\big=true
   ·obtain⟨rfl,rfl⟩:=hk;have hnu:=HOK.out.num rfl
    simp only at hnu;have hpw:(256:Int) ^ size.toNat<=256 ^ 4:=by
     rcases (show size.toNat=1\/size.toNat=2\/size.toNat=3\/size.toNat=4 by omega) with h|h|h|h<;>rw[h]<;>decide
    have hv:0<=mn/\mn<=1000000000000000000:=by omega
    have hil:=YM hv;clear hnu hpw;refine yq<|yr<|yo zF<|yo (zB 0)<|yo zet<|yo zM<|yo zF<|yo (zB 0)<|yo zY<|yl<|yn<|y1<|yr<|yo zM ?_;refine Q4 (X2 (r:=S5++[32,98,105,103,32]) rfl rfl rfl Q1 rfl rfl rfl Q0S) ?_;refine Qru ?_;refine Q4 (X2 (r:=S5++[32,98,105,103,32]++Lib.itoa mn) rfl rfl rfl Q1 rfl rfl rfl Q0S) ?_;refine yo zA<|yl ?_;refine XG (S5++[32,98,105,103,32]++Lib.itoa mn) [0,1] Q1 QrR mc1 rfl
   ·have hpc:(if kind==2&&big==true then [32,98,105,103,32]++Lib.itoa mn else [])=[]:=if_neg (fun h=>hk (by rw[Bool.and_eq_true,beq_iff_eq,beq_iff_eq] at h;exact h));have HPC:=Q2 hpc;clear hpc
    by_cases hk2:kind=2
    ·subst hk2
     obtain rfl:big=false:=by cases big<;>first|rfl|exact absurd ⟨rfl,rfl⟩ hk
     refine yq<|yr<|yo zF<|yo (zB 0)<|yo zet<|yo zM<|yo zF<|yo (zB 0)<|yo zY<|yl<|yn<|y0<|ys ?_;refine XG (S5) [0,1] Q1 QgJ mc1 rfl
    ·refine yq<|yr<|yo zF<|yo (zB 0)<|yo zef<|yo zM<|yo zS<|yo zS<|yo zN<|yl<|yn<|y0<|ys ?_;refine XG (S5) [0,1] Q1 QgJ mc1 rfl
  rintro S6 ⟨hS6,hm6⟩;have HS6:=Q2 hS6;have hl6:S6.length<=S0.length+1100117:=by omega
  clear hS6 hm6 hl5;show sE _ _ _ _ _ [(1,.pointer (some ⟨b1,0,none⟩)),(3,.string ⟨(S6).toArray⟩),(4,.int .i64 (i:Int)),(5,.pointer (some ⟨b5,0,none⟩))] [.blk b5 (.cells ([.string ⟨name.toArray⟩,.int .i64 kind,.slice Ab bs.length cb,.int .i64 size,.bool big,.int .i64 mn,.int .i64 mx,.int .i64 stop,.int .i64 count,.int .i64 elem,.slice An names.length cn,.slice Ap parts.length cp]:List Value).toArray 65 (0,0)),.blk b1 (.cells ([.slice (some ⟨b,o,none⟩) n c]:List Value).toArray 24 (0,0))] _;refine Zh (ι:=List UInt8) (fun T=>T=S6++(if kind==2&&big==false then [32,108,105,116,116,108,101,32]++Lib.itoa mn else [])/\T.length<=S6.length+40) (fun T=>[(1,.pointer (some ⟨b1,0,none⟩)),(3,.string ⟨(T).toArray⟩),(4,.int .i64 (i:Int)),(5,.pointer (some ⟨b5,0,none⟩))]) (fun _=>[.blk b5 (.cells ([.string ⟨name.toArray⟩,.int .i64 kind,.slice Ab bs.length cb,.int .i64 size,.bool big,.int .i64 mn,.int .i64 mx,.int .i64 stop,.int .i64 count,.int .i64 elem,.slice An names.length cn,.slice Ap parts.length cp]:List Value).toArray 65 (0,0)),.blk b1 (.cells ([.slice (some ⟨b,o,none⟩) n c]:List Value).toArray 24 (0,0))]) ?_ ?_
  ·by_cases hk:kind=2/\big=false
   ·obtain⟨rfl,rfl⟩:=hk;have hnu:=HOK.out.num rfl
    simp only at hnu;have hpw:(256:Int) ^ size.toNat<=256 ^ 4:=by
     rcases (show size.toNat=1\/size.toNat=2\/size.toNat=3\/size.toNat=4 by omega) with h|h|h|h<;>rw[h]<;>decide
    have hv:0<=mn/\mn<=1000000000000000000:=by omega
    have hil:=YM hv;clear hnu hpw;refine yq<|yr<|yo zF<|yo (zB 0)<|yo zet<|yo zM<|yo zF<|yo (zB 0)<|yo zO<|yo zY<|yl<|yn<|y1<|yr<|yo zM ?_;refine Q4 (X2 (r:=S6++[32,108,105,116,116,108,101,32]) rfl rfl rfl Q1 rfl rfl rfl Q0S) ?_;refine Qru ?_;refine Q4 (X2 (r:=S6++[32,108,105,116,116,108,101,32]++Lib.itoa mn) rfl rfl rfl Q1 rfl rfl rfl Q0S) ?_;refine yo zA<|yl ?_;refine XG (S6++[32,108,105,116,116,108,101,32]++Lib.itoa mn) [0,1] Q1 QrR mc1 rfl
   ·have hpc:(if kind==2&&big==false then [32,108,105,116,116,108,101,32]++Lib.itoa mn else [])=[]:=if_neg (fun h=>hk (by rw[Bool.and_eq_true,beq_iff_eq,beq_iff_eq] at h;exact h));have HPC:=Q2 hpc;clear hpc
    by_cases hk2:kind=2
    ·subst hk2
     obtain rfl:big=true:=by cases big<;>first|rfl|exact absurd ⟨rfl,rfl⟩ hk
     refine yq<|yr<|yo zF<|yo (zB 0)<|yo zet<|yo zM<|yo zF<|yo (zB 0)<|yo zO<|yo zY<|yl<|yn<|y0<|ys ?_;refine XG (S6) [0,1] Q1 QgJ mc1 rfl
    ·refine yq<|yr<|yo zF<|yo (zB 0)<|yo zef<|yo zM<|yo zS<|yo zS<|yo zS<|yo zN<|yl<|yn<|y0<|ys ?_;refine XG (S6) [0,1] Q1 QgJ mc1 rfl
  rintro S7 ⟨hS7,hm7⟩;have HS7:=Q2 hS7;have hl7:S7.length<=S0.length+1100157:=by omega
  clear hS7 hm7 hl6;show sE _ _ _ _ _ [(1,.pointer (some ⟨b1,0,none⟩)),(3,.string ⟨(S7).toArray⟩),(4,.int .i64 (i:Int)),(5,.pointer (some ⟨b5,0,none⟩))] [.blk b5 (.cells ([.string ⟨name.toArray⟩,.int .i64 kind,.slice Ab bs.length cb,.int .i64 size,.bool big,.int .i64 mn,.int .i64 mx,.int .i64 stop,.int .i64 count,.int .i64 elem,.slice An names.length cn,.slice Ap parts.length cp]:List Value).toArray 65 (0,0)),.blk b1 (.cells ([.slice (some ⟨b,o,none⟩) n c]:List Value).toArray 24 (0,0))] _;refine Zh (ι:=List UInt8) (fun T=>T=S7++spW (Z9 kind) (Lib.itoa mx)/\T.length<=S7.length+22) (fun T=>[(1,.pointer (some ⟨b1,0,none⟩)),(3,.string ⟨(T).toArray⟩),(4,.int .i64 (i:Int)),(5,.pointer (some ⟨b5,0,none⟩))]) (fun _=>[.blk b5 (.cells ([.string ⟨name.toArray⟩,.int .i64 kind,.slice Ab bs.length cb,.int .i64 size,.bool big,.int .i64 mn,.int .i64 mx,.int .i64 stop,.int .i64 count,.int .i64 elem,.slice An names.length cn,.slice Ap parts.length cp]:List Value).toArray 65 (0,0)),.blk b1 (.cells ([.slice (some ⟨b,o,none⟩) n c]:List Value).toArray 24 (0,0))]) ?_ ?_
  ·by_cases hk:kind=2\/kind=3
   ·have hv:0<=mx/\mx<=1000000000000000000:=by
     rcases hk with hk|hk
     ·have hnu:=HOK.out.num hk
      simp only at hnu;have hpw:(256:Int) ^ size.toNat<=256 ^ 4:=by
       rcases (show size.toNat=1\/size.toNat=2\/size.toNat=3\/size.toNat=4 by omega) with h|h|h|h<;>rw[h]<;>decide
      omega
     ·have:=HOK.out.dec hk
      exact Q3W
    have hil:=YM hv;have hu:=Qeu hk;rcases hk with rfl|rfl;all_goals
     refine Q65 ?_
     refine QdU ?_;first|refine Q4 zF ?_|refine Q4 zS ?_
     first|refine Q4 (zB 0) ?_|refine Q4 zS ?_
     first|refine Q4 Q3r ?_|refine Q4 zS ?_
     first|refine Q4 zY ?_|refine Q4 zN ?_
     refine yl ?_;repeat(first|((with_reducible show sE _ _ _ _ _ _ _ _);first|refine Q6 ?_|refine Q9 rfl ?_)|((with_reducible show xE _ _ _ _ _ _ _);refine Qk ?_))
     refine yo zM ?_;refine Q4 (X2 (r:=S7++[32]) rfl rfl rfl Q1 rfl rfl rfl (by (try simp only[List.length_append,List.length_cons,List.length_nil]);omega)) ?_;refine yo zF<|yo (zB 0) ?_;refine Q4 (Qj (f:=79) rfl rfl Q1 rfl rfl (fun w hw=>JF Q3 w)) ?_;refine Q4 (X2 (r:=S7++[32]++Lib.itoa mx) rfl rfl rfl Q1 rfl rfl rfl (by (try simp only[List.length_append,List.length_cons,List.length_nil]);omega)) ?_;refine yo zA<|yl ?_;refine XG (S7++[32]++Lib.itoa mx) [0,1] Q1 ⟨Q7f hu,by (try simp only[List.length_append,List.length_cons,List.length_nil]);omega⟩ (.cons rfl rfl (.cons rfl rfl (.cons rfl rfl (.cons rfl rfl .nil)))) rfl
   ·have hu:=Qit hk;refine QlO ?_;refine XG (S7) [0,1] Q1 QcP mc1 rfl
  rintro S8 ⟨hS8,hm8⟩;have HS8:=Q2 hS8;have hl8:S8.length<=S0.length+1100179:=by omega
  clear hS8 hm8 hl7;show sE _ _ _ _ _ [(1,.pointer (some ⟨b1,0,none⟩)),(3,.string ⟨(S8).toArray⟩),(4,.int .i64 (i:Int)),(5,.pointer (some ⟨b5,0,none⟩))] [.blk b5 (.cells ([.string ⟨name.toArray⟩,.int .i64 kind,.slice Ab bs.length cb,.int .i64 size,.bool big,.int .i64 mn,.int .i64 mx,.int .i64 stop,.int .i64 count,.int .i64 elem,.slice An names.length cn,.slice Ap parts.length cp]:List Value).toArray 65 (0,0)),.blk b1 (.cells ([.slice (some ⟨b,o,none⟩) n c]:List Value).toArray 24 (0,0))] _;refine Zh (ι:=List UInt8) (fun T=>T=S8++spW (Qz kind) (YP F count)/\T.length<=S8.length+1048577) (fun T=>[(1,.pointer (some ⟨b1,0,none⟩)),(3,.string ⟨(T).toArray⟩),(4,.int .i64 (i:Int)),(5,.pointer (some ⟨b5,0,none⟩))]) (fun _=>[.blk b5 (.cells ([.string ⟨name.toArray⟩,.int .i64 kind,.slice Ab bs.length cb,.int .i64 size,.bool big,.int .i64 mn,.int .i64 mx,.int .i64 stop,.int .i64 count,.int .i64 elem,.slice An names.length cn,.slice Ap parts.length cp]:List Value).toArray 65 (0,0)),.blk b1 (.cells ([.slice (some ⟨b,o,none⟩) n c]:List Value).toArray 24 (0,0))]) ?_ ?_
  ·by_cases hk:kind=6\/kind=10
   ·have hv:0<=count/\count<n:=HOK.out.count hk;obtain⟨rc,Ac,cc,Ad,cd,Ae,ce,hrgc,hnmc,hlc⟩:=HALL.out count hv;have hu:=Qb1 hk;rw[hnmc]
    rcases hk with rfl|rfl;all_goals
     refine Q65 ?_
     refine QdU ?_;first|refine Q4 zF ?_|refine Q4 zS ?_
     first|refine Q4 (zB 0) ?_|refine Q4 zS ?_
     first|refine Q4 Q3r ?_|refine Q4 zS ?_
     first|refine Q4 zY ?_|refine Q4 zN ?_
     refine yl ?_;repeat(first|((with_reducible show sE _ _ _ _ _ _ _ _);first|refine Q6 ?_|refine Q9 rfl ?_)|((with_reducible show xE _ _ _ _ _ _ _);refine Qk ?_))
     refine yo zM ?_;refine Q4 (X2 (r:=S8++[32]) rfl rfl rfl Q1 rfl rfl rfl (by (try simp only[List.length_append,List.length_cons,List.length_nil]);omega)) ?_;refine yo zF<|yo (zB 1)<|yo zF<|yo (zB 0) ?_;refine Q4 (QG rfl rfl Q1 rfl rfl rfl Q3) ?_;refine yo zF<|yo zR ?_;refine Q4 (X2 (r:=S8++[32]++rc.name) rfl rfl rfl Q1 rfl rfl rfl (by (try simp only[List.length_append,List.length_cons,List.length_nil]);omega)) ?_;refine yo zA<|yl ?_;refine XG (S8++[32]++rc.name) [0,1] Q1 ⟨Q7f hu,by (try simp only[List.length_append,List.length_cons,List.length_nil]);omega⟩ (.cons rfl rfl (.cons rfl rfl (.cons rfl rfl (.cons rfl rfl .nil)))) rfl
   ·have hu:=QcW hk;refine QlO ?_;refine XG (S8) [0,1] Q1 QcP mc1 rfl
  rintro S9 ⟨hS9,hm9⟩;have HS9:=Q2 hS9;have hl9:S9.length<=S0.length+2148756:=by omega
  clear hS9 hm9 hl8;show sE _ _ _ _ _ [(1,.pointer (some ⟨b1,0,none⟩)),(3,.string ⟨(S9).toArray⟩),(4,.int .i64 (i:Int)),(5,.pointer (some ⟨b5,0,none⟩))] [.blk b5 (.cells ([.string ⟨name.toArray⟩,.int .i64 kind,.slice Ab bs.length cb,.int .i64 size,.bool big,.int .i64 mn,.int .i64 mx,.int .i64 stop,.int .i64 count,.int .i64 elem,.slice An names.length cn,.slice Ap parts.length cp]:List Value).toArray 65 (0,0)),.blk b1 (.cells ([.slice (some ⟨b,o,none⟩) n c]:List Value).toArray 24 (0,0))] _;refine Zh (ι:=List UInt8) (fun T=>T=S9++spW (JP kind) (YP F elem)/\T.length<=S9.length+1048577) (fun T=>[(1,.pointer (some ⟨b1,0,none⟩)),(3,.string ⟨(T).toArray⟩),(4,.int .i64 (i:Int)),(5,.pointer (some ⟨b5,0,none⟩))]) (fun _=>[.blk b5 (.cells ([.string ⟨name.toArray⟩,.int .i64 kind,.slice Ab bs.length cb,.int .i64 size,.bool big,.int .i64 mn,.int .i64 mx,.int .i64 stop,.int .i64 count,.int .i64 elem,.slice An names.length cn,.slice Ap parts.length cp]:List Value).toArray 65 (0,0)),.blk b1 (.cells ([.slice (some ⟨b,o,none⟩) n c]:List Value).toArray 24 (0,0))]) ?_ ?_
  ·by_cases hk:kind=6\/kind=9
   ·have hv:0<=elem/\elem<n:=HOK.out.elem hk;obtain⟨rc,Ac,cc,Ad,cd,Ae,ce,hrgc,hnmc,hlc⟩:=HALL.out elem hv;have hu:=Qie hk;rw[hnmc]
    rcases hk with rfl|rfl;all_goals
     refine Q65 ?_
     refine QdU ?_;first|refine Q4 zF ?_|refine Q4 zS ?_
     first|refine Q4 (zB 0) ?_|refine Q4 zS ?_
     first|refine Q4 Q3r ?_|refine Q4 zS ?_
     first|refine Q4 zY ?_|refine Q4 zN ?_
     refine yl ?_;repeat(first|((with_reducible show sE _ _ _ _ _ _ _ _);first|refine Q6 ?_|refine Q9 rfl ?_)|((with_reducible show xE _ _ _ _ _ _ _);refine Qk ?_))
     refine yo zM ?_;refine Q4 (X2 (r:=S9++[32]) rfl rfl rfl Q1 rfl rfl rfl (by (try simp only[List.length_append,List.length_cons,List.length_nil]);omega)) ?_;refine yo zF<|yo (zB 1)<|yo zF<|yo (zB 0) ?_;refine Q4 (QG rfl rfl Q1 rfl rfl rfl Q3) ?_;refine yo zF<|yo zR ?_;refine Q4 (X2 (r:=S9++[32]++rc.name) rfl rfl rfl Q1 rfl rfl rfl (by (try simp only[List.length_append,List.length_cons,List.length_nil]);omega)) ?_;refine yo zA<|yl ?_;refine XG (S9++[32]++rc.name) [0,1] Q1 ⟨Q7f hu,by (try simp only[List.length_append,List.length_cons,List.length_nil]);omega⟩ (.cons rfl rfl (.cons rfl rfl (.cons rfl rfl (.cons rfl rfl .nil)))) rfl
   ·have hu:=Qk9 hk;refine QlO ?_;refine XG (S9) [0,1] Q1 QcP mc1 rfl
  rintro S10 ⟨hS10,hm10⟩;have HS10:=Q2 hS10;have hl10:S10.length<=S0.length+3197333:=by omega
  clear hS10 hm10 hl9;show sE _ _ _ _ _ [(1,.pointer (some ⟨b1,0,none⟩)),(3,.string ⟨(S10).toArray⟩),(4,.int .i64 (i:Int)),(5,.pointer (some ⟨b5,0,none⟩))] [.blk b5 (.cells ([.string ⟨name.toArray⟩,.int .i64 kind,.slice Ab bs.length cb,.int .i64 size,.bool big,.int .i64 mn,.int .i64 mx,.int .i64 stop,.int .i64 count,.int .i64 elem,.slice An names.length cn,.slice Ap parts.length cp]:List Value).toArray 65 (0,0)),.blk b1 (.cells ([.slice (some ⟨b,o,none⟩) n c]:List Value).toArray 24 (0,0))] _;refine Zh (ι:=List UInt8) (fun T=>T=S10++YD F ⟨name,kind,bs,size,big,mn,mx,stop,count,elem,names,parts⟩ parts.length/\T.length<=S10.length+26400000) (fun T=>[(1,.pointer (some ⟨b1,0,none⟩)),(3,.string ⟨(T).toArray⟩),(4,.int .i64 (i:Int)),(5,.pointer (some ⟨b5,0,none⟩))]) (fun _=>[.blk b5 (.cells ([.string ⟨name.toArray⟩,.int .i64 kind,.slice Ab bs.length cb,.int .i64 size,.bool big,.int .i64 mn,.int .i64 mx,.int .i64 stop,.int .i64 count,.int .i64 elem,.slice An names.length cn,.slice Ap parts.length cp]:List Value).toArray 65 (0,0)),.blk b1 (.cells ([.slice (some ⟨b,o,none⟩) n c]:List Value).toArray 24 (0,0))]) ?_ ?_
  ·refine yq<|yr<|yo zA<|yl<|yn<|yb ?_;refine QN (ι:=Nat) (fun j=>j<=parts.length/\(YD F ⟨name,kind,bs,size,big,mn,mx,stop,count,elem,names,parts⟩ j).length<=j*2200000) (fun j=>parts.length - j) (fun j=>(7,.int .i64 (j:Int))::[(1,.pointer (some ⟨b1,0,none⟩)),(3,.string ⟨(S10++YD F ⟨name,kind,bs,size,big,mn,mx,stop,count,elem,names,parts⟩ j).toArray⟩),(4,.int .i64 (i:Int)),(5,.pointer (some ⟨b5,0,none⟩))]) (fun _=>[.blk b5 (.cells ([.string ⟨name.toArray⟩,.int .i64 kind,.slice Ab bs.length cb,.int .i64 size,.bool big,.int .i64 mn,.int .i64 mx,.int .i64 stop,.int .i64 count,.int .i64 elem,.slice An names.length cn,.slice Ap parts.length cp]:List Value).toArray 65 (0,0)),.blk b1 (.cells ([.slice (some ⟨b,o,none⟩) n c]:List Value).toArray 24 (0,0))]) 0 [0,1] Q1 ⟨Nat.zero_le _,Nat.zero_le _⟩ (.cons rfl rfl (.cons rfl rfl (.cons rfl (by show Value.string ⟨(S10).toArray⟩=.string ⟨(S10++[]).toArray⟩;rw[List.append_nil]) Q6Y))) rfl ?_
   rintro j ⟨hj,hpl⟩;have hstp:=Qca F ⟨name,kind,bs,size,big,mn,mx,stop,count,elem,names,parts⟩ j;have HSTP:=Q2 hstp;clear hstp;by_cases hjn:j<parts.length
   ·obtain⟨bp,op,rfl,_,hc⟩:=HP.out.2 (by show 0<parts.length;omega);have hcj:=hc j _ (Qh6 hjn)
    have hk78:kind=7\/kind=8:=by
     have:=(Jn.1 HOK.out.formed).2.2.2.2.2.2.2.2;exact Q3W
    have hpr:=HOK.out.parts hk78 (parts.getD j 0) (QjL hjn);obtain⟨p,hp⟩:∃x,parts.getD j 0=x:=⟨_,rfl⟩;rw[hp] at hcj hpr;obtain⟨rc,Ac,cc,Ad,cd,Ae,ce,hrgc,hnmc,hlc⟩:=HALL.out p hpr;obtain⟨Q,hQ⟩:∃x,YD F ⟨name,kind,bs,size,big,mn,mx,stop,count,elem,names,parts⟩ j=x:=⟨_,rfl⟩;rw[hQ] at hpl;have hq:Q.length<=26400000:=by omega
    have HQ:=Q2 hQ;have HPJ:=Q2 hp;have HNMC:=Q2 hnmc;clear hc hp hnmc;show sE _ _ _ _ _ ((7,.int .i64 (j:Int))::[(1,.pointer (some ⟨b1,0,none⟩)),(3,.string ⟨(S10++YD F ⟨name,kind,bs,size,big,mn,mx,stop,count,elem,names,parts⟩ j).toArray⟩),(4,.int .i64 (i:Int)),(5,.pointer (some ⟨b5,0,none⟩))]) [.blk b5 (.cells ([.string ⟨name.toArray⟩,.int .i64 kind,.slice Ab bs.length cb,.int .i64 size,.bool big,.int .i64 mn,.int .i64 mx,.int .i64 stop,.int .i64 count,.int .i64 elem,.slice An names.length cn,.slice (some ⟨bp,op,none⟩) parts.length cp]:List Value).toArray 65 (0,0)),.blk b1 (.cells ([.slice (some ⟨b,o,none⟩) n c]:List Value).toArray 24 (0,0))] _;rw[hQ];clear hQ;by_cases hk:kind=7
    ·subst hk;have hnp:names.length=parts.length:=(HOK.out.seven rfl).1;obtain⟨bn,on,rfl,_,hcn⟩:=HNN.out.2 (by show 0<names.length;omega);have hcx:=hcn j _ (Qph (by rw[hnp];exact hjn));have hxl:=HN2.out _ (Qj8 (l:=names) (j:=j) (by rw[hnp];exact hjn))
     have hpw:XL F ⟨name,7,bs,size,big,mn,mx,stop,count,elem,names,parts⟩ j=(if names.getD j []==[] then [45] else names.getD j [])++[58]++rc.name:=by
      rw[<- HNMC.out,<- HPJ.out];rfl
     obtain⟨x,hx⟩:∃x,names.getD j []=x:=⟨_,rfl⟩;rw[hx] at hcx hxl hpw;clear hcn hx;by_cases hxe:x=[]
     ·subst hxe;have HPW:=Q2 (show XL F ⟨name,7,bs,size,big,mn,mx,stop,count,elem,names,parts⟩ j=[45]++[58]++rc.name from hpw);clear hpw;refine QnY ?_;refine Qod ?_;refine Q4 Qlw ?_;refine yo zY<|yl<|yn<|y1<|yr<|yo zM ?_;refine Q4 (X2 (r:=S10++Q++[32]++[45,58]) rfl rfl rfl Q1 rfl rfl rfl Q0S) ?_;refine Qod ?_;refine Q4 (Q77 rfl rfl Q1 rfl rfl rfl (by rfl)) ?_;refine yo zY<|yl<|yn<|y0<|ys<|yn<|Xt Q5 Q5 ?_;refine QkH ?_;refine Qd zR ?_;refine Qd (X2 (r:=S10++Q++[32]++[45,58]++rc.name) rfl rfl rfl Q1 rfl rfl rfl Q0S) ?_;refine QfO ?_;refine Qt (j+1) [0,1] Q1 ⟨hjn,?_⟩ Q3 (.cons rfl (by go_num) (.cons rfl rfl (.cons rfl ?_ Q6Y))) rfl
      ·rw[HSTP.out,HQ.out,HPW.out]
       refine QhX ?_;omega
      ·rw[HSTP.out,HQ.out,HPW.out]
       simp only[List.append_assoc,List.cons_append,List.nil_append]
     ·have HPW:=Q2 (show XL F ⟨name,7,bs,size,big,mn,mx,stop,count,elem,names,parts⟩ j=x++[58]++rc.name by rw[hpw,if_neg (by rw[beq_iff_eq];exact hxe)])
      have htest:((⟨x.toArray⟩:ByteArray).data.toList==(⟨#[]⟩:ByteArray).data.toList)=false:=by
       cases x with
       |nil=>exact absurd rfl hxe
       |cons=>rfl
      have htest2:((⟨x.toArray⟩:ByteArray).data.toList != (⟨#[]⟩:ByteArray).data.toList)=true:=by
       cases x with
       |nil=>exact absurd rfl hxe
       |cons=>rfl
      clear hpw hxe;refine QnY ?_;refine yo zA<|yl<|yn<|yq<|yq<|yr<|yo zF<|yo (zB 0)<|yo zet<|yo zM<|yo zF<|yo (zB 0)<|yo zM<|yo zi1<|yo zC<|yo zsa<|yo zY<|yl<|yn<|y0<|ys<|yn<|yq<|yq<|yr<|yo zF<|yo (zB 0)<|yo zet<|yo zM<|yo zF<|yo (zB 0)<|yo zM<|yo zi1<|yo zC ?_;refine Q4 Qh7 ?_;refine yo zY<|yl<|yn<|y1<|yr<|yo zM<|yo zF<|yo (zB 0)<|yo zM<|yo zi1<|yo zC ?_;refine Q4 (X2 (r:=S10++Q++[32]++x) rfl rfl rfl Q1 rfl rfl rfl Q0S) ?_;refine Q4 (X2 (r:=S10++Q++[32]++x++[58]) rfl rfl rfl Q1 rfl rfl rfl Q0S) ?_;refine yo zA<|yl<|yn<|Xt Q5 Q5 ?_;refine QkH ?_;refine Qd zR ?_;refine Qd (X2 (r:=S10++Q++[32]++x++[58]++rc.name) rfl rfl rfl Q1 rfl rfl rfl Q0S) ?_;refine QfO ?_;refine Qt (j+1) [0,1] Q1 ⟨hjn,?_⟩ Q3 (.cons rfl (by go_num) (.cons rfl rfl (.cons rfl ?_ Q6Y))) rfl
      ·rw[HSTP.out,HQ.out,HPW.out]
       refine QhX ?_;omega
      ·rw[HSTP.out,HQ.out,HPW.out]
       simp only[List.append_assoc,List.cons_append,List.nil_append]
    ·obtain rfl:kind=8:=by omega
     have hpw:XL F ⟨name,8,bs,size,big,mn,mx,stop,count,elem,names,parts⟩ j=rc.name:=by
      rw[<- HNMC.out,<- HPJ.out];rfl
     have HPW:=Q2 hpw;clear hpw;refine QnY ?_;refine yo zA<|yl<|yn<|yq<|yq<|yr<|yo zF<|yo (zB 0)<|yo zef<|yo zM<|yo zS<|yo zS<|yo zS<|yo zS<|yo zS<|yo zS<|yo zN<|yl<|yn<|y0<|ys<|yn<|yq<|yq<|yr<|yo zF<|yo (zB 0)<|yo zef<|yo zM<|yo zS<|yo zS<|yo zS<|yo zS<|yo zS<|yo zS<|yo zN<|yl<|yn<|y0<|ys<|yn<|Xt Q5 Q5 ?_;refine QkH ?_;refine Qd zR ?_;refine Qd (X2 (r:=S10++Q++[32]++rc.name) rfl rfl rfl Q1 rfl rfl rfl Q0S) ?_;refine QfO ?_;refine Qt (j+1) [0,1] Q1 ⟨hjn,?_⟩ Q3 (.cons rfl (by go_num) (.cons rfl rfl (.cons rfl ?_ Q6Y))) rfl
     ·rw[HSTP.out,HQ.out,HPW.out]
      refine QhX ?_;omega
     ·rw[HSTP.out,HQ.out,HPW.out]
      simp only[List.append_assoc,List.cons_append,List.nil_append]
   ·obtain rfl:j=parts.length:=by omega
    refine QmI ?_;refine XG (S10++YD F ⟨name,kind,bs,size,big,mn,mx,stop,count,elem,names,parts⟩ parts.length) [0,1] Q1 QtD mc1 rfl
  rintro S11 ⟨hS11,hm11⟩;have HS11:=Q2 hS11;have hl11:S11.length<=S0.length+29597333:=by omega
  clear hS11 hm11 hl10;show sE _ _ _ _ _ [(1,.pointer (some ⟨b1,0,none⟩)),(3,.string ⟨(S11).toArray⟩),(4,.int .i64 (i:Int)),(5,.pointer (some ⟨b5,0,none⟩))] [.blk b5 (.cells ([.string ⟨name.toArray⟩,.int .i64 kind,.slice Ab bs.length cb,.int .i64 size,.bool big,.int .i64 mn,.int .i64 mx,.int .i64 stop,.int .i64 count,.int .i64 elem,.slice An names.length cn,.slice Ap parts.length cp]:List Value).toArray 65 (0,0)),.blk b1 (.cells ([.slice (some ⟨b,o,none⟩) n c]:List Value).toArray 24 (0,0))] _;have hfin:S11++[10]=KL F (i+1):=by
   rw[HST.out];unfold Q2K;rw[HS11.out,HS10.out,HS9.out,HS8.out,HS7.out,HS6.out,HS5.out,HS4.out,HS3.out,HS2.out];rw[<- HS1.out];show _=S0++(name++[32]++JS kind++(if kind==1 then [32] else [])++Vt bs++spW (XZ kind) (Lib.itoa stop)++spW (XY kind) (Lib.itoa size)++spW (kind==2) (if big then Qc4 else Ys)++spW (kind==2) (Lib.itoa mn)++spW (Z9 kind) (Lib.itoa mx)++spW (Qz kind) (YP F count)++spW (JP kind) (YP F elem)++YD F ⟨name,kind,bs,size,big,mn,mx,stop,count,elem,names,parts⟩ parts.length++[10]);have hbl:(if kind==2&&big==true then [32,98,105,103,32]++Lib.itoa mn else [])++(if kind==2&&big==false then [32,108,105,116,116,108,101,32]++Lib.itoa mn else [])=spW (kind==2) (if big then Qc4 else Ys)++spW (kind==2) (Lib.itoa mn):=by
    cases kind==2<;>cases big<;>simp [spW,Qc4,Ys]
   simp only[List.append_assoc] at hbl ⊢;rw[<- List.append_assoc (ite ((kind==2&&big==true)=true) _ _),hbl,List.append_assoc]
  have HFIN:=Q2 hfin;have hfl:(KL F (i+1)).length<=(i+1)*100000000:=by rw[<- hfin,List.length_append,List.length_cons,List.length_nil];omega
  clear hfin;refine yr<|yo zM ?_;refine Q4 (X2 (r:=S11++[10]) rfl rfl rfl Q1 rfl rfl rfl Q0S) ?_;refine KV ?_;refine Qt (i+1) [1] Q1 ⟨hin,hfl⟩ Q3 (.cons rfl rfl (.cons rfl (by rw[HFIN.out]) Q52)) rfl
 ·obtain rfl:i=n:=by omega
  refine yq<|yq<|yr<|yo zM<|yo zF<|yo (zB 0)<|yo zL<|yo zlf<|yl<|yn<|y0<|ye<|yn<|yq<|yr<|yo zM<|yo zA<|yl<|yn<|yt ?_;exact Q7 mc4 rfl (.tmp rfl) (fun w hw=>⟨rfl,hw.k.below⟩)
end
end
end Go.Proofs.YtphkhfdmlcnoeaaGreatDoor
