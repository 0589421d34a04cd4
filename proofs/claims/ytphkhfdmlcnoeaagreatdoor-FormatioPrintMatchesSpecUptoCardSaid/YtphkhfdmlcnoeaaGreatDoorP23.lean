import Derived.Test.YtphkhfdmlcnoeaaGreatDoorP20
namespace Go.Proofs.YtphkhfdmlcnoeaaGreatDoor
set_option linter.unusedVariables false
set_option linter.unusedSimpArgs false
set_option maxRecDepth 1000000
set_option maxHeartbeats 32000000
open Go.RowKit
section
variable {S bs s:List UInt8}{j:Nat}{k:Int}{l:List (List UInt8)}{u:Bool}
theorem Qbn(h:k=3\/k=5\/k=9):XS k=true:=by rcases h with rfl|rfl|rfl<;>rfl
theorem QdW(h:¬(k=3\/k=5\/k=9)):XS k=false:=by unfold XS XR;simp;omega
theorem QcM(h:k=2\/k=4\/k=5):XT k=true:=by rcases h with rfl|rfl|rfl<;>rfl
theorem QfN(h:¬(k=2\/k=4\/k=5)):XT k=false:=by unfold XT XR;simp;omega
theorem Qe2(h:k=2\/k=3):Z8 k=true:=by rcases h with rfl|rfl<;>rfl
theorem QhS(h:¬(k=2\/k=3)):Z8 k=false:=by unfold Z8 XR;simp;omega
theorem Qak(h:k=6\/k=10):QE k=true:=by rcases h with rfl|rfl<;>rfl
theorem Qc7(h:¬(k=6\/k=10)):QE k=false:=by unfold QE XR;simp;omega
theorem Qiz(h:k=6\/k=9):JS k=true:=by rcases h with rfl|rfl<;>rfl
theorem Qos(h:¬(k=6\/k=9)):JS k=false:=by unfold JS XR;simp;omega
theorem Q7g(h:u=true):S++[32]++s=S++spW u s:=by rw[h];unfold spW;simp
theorem Qv7(h:u=false):S=S++spW u s:=by rw[h];unfold spW;simp
theorem YW{n:Int}(h:0<=n/\n<=1000000000000000000):(Lib.itoa n).length<=21:=Lib.itoa_length_le n Q3 Q3
theorem Qja(k:Int):(JP k).length<=8:=by
 unfold JP;by_cases h:(k - 1).toNat<10
 ·rcases (show (k - 1).toNat=0\/(k - 1).toNat=1\/(k - 1).toNat=2\/(k - 1).toNat=3\/(k - 1).toNat=4\/(k - 1).toNat=5\/(k - 1).toNat=6\/(k - 1).toNat=7\/(k - 1).toNat=8\/(k - 1).toNat=9 by omega) with h|h|h|h|h|h|h|h|h|h<;>rw[h]<;>decide
 ·rw[List.getD_eq_getElem?_getD,List.getElem?_eq_none (by show 10<=_;omega)]
  decide
theorem Qj8(h:j<bs.length):Vu (bs.take j)++Qca (bs.getD j 0)=Vu (bs.take (j+1)):=by
 unfold Vu;rw[List.take_add_one,List.getElem?_eq_getElem h,List.getD_eq_getElem?_getD,List.getElem?_eq_getElem h,List.map_append,List.flatten_append];simp only[Option.toList,List.map_cons,List.map_nil,List.flatten_cons,List.flatten_nil,List.append_nil];rfl
theorem Qiw(x:UInt8):(Qca x).length=2:=rfl
theorem QgY{l:List Int}(h:j<l.length):(iv l)[j]? =some (.int .i64 (l.getD j 0)):=by
 unfold iv;refine Qgd ?_;rfl
theorem QhT{l:List Int}(h:j<l.length):l.getD j 0∈l:=by
 refine QcN ?_;exact List.getElem_mem _
theorem QpD(h:j<bs.length):(bv bs)[j]? =some (.int .u8 ((bs.getD j 0).toNat:Int)):=by
 unfold bv;refine Qgd ?_;rfl
theorem QoO(h:j<l.length):(sv l)[j]? =some (.string ⟨(l.getD j []).toArray⟩):=by
 unfold sv;refine Qgd ?_;rfl
theorem Qir(h:j<l.length):l.getD j []∈l:=by
 refine QcN ?_;exact List.getElem_mem _
def YL(F:List Rl)(r:Rl)(j:Nat):List UInt8:=((List.range j).map fun i=>32::XF F r i).flatten
theorem QbH(F:List Rl)(r:Rl)(j:Nat):YL F r (j+1)=YL F r j++32::XF F r j:=by
 unfold YL;rw[List.range_succ];simp
def Q04(F:List Rl)(i:Nat):List UInt8:=((F.take i).map (Q2S F)).flatten
theorem QdB{F:List Rl}{i:Nat}{r:Rl}(h:F[i]? =some r):Q04 F (i+1)=Q04 F i++Q2S F r:=by
 unfold Q04;rw[List.take_add_one,h];simp
theorem QfQ(c:UInt8):IntKind.i64.wrap (c.toNat:Int)=(c.toNat:Int):=IntWalk.i64_in _ (by have:=c.toNat_lt;omega)
section
variable {A:Option Addr}{n c:Nat}{W:World}{F:List Rl}
theorem Q7k(hf:QS W W.heap.size A n F)(hF:FOk F)(hn:n<=40)(hn0:0<n)(hnm:∀r∈F,r.name.length<=1048576/\∀x∈r.names,x.length<=1048576):
  Calls Tryz.prog 41 #[.agg #[.slice A n c]] W (fun e w'=>e=.returned (.string ⟨(Q04 F n).toArray⟩)/\Below W.heap.size W w'):=by
 have hlen:F.length=n:=hf.1;obtain⟨b,o,rfl⟩:=hf.addr Q3;have HFM:=Q2 hf;have HF:=Q2 hF;have HLEN:=Q2 hlen;have HNM:=Q2 hnm;clear hf hF hlen hnm;go_enter Tryz.func41,Tryz.ntmps41;refine Qz (M:=[]) (W:=W) (N:=221) (E:=[Q0s]) (O:=[]) ?_ Zl QR;refine yq<|yr ?_;refine yB fun b1=>?_;refine Qof ?_;refine QK (ι:=Nat) (fun y=>y<=n/\(Q04 F y).length<=y*100000000) (fun y=>n - y) (fun y=>[Yp,(3,.string ⟨(Q04 F y).toArray⟩),(4,.int .i64 (y:Int))]) (fun _=>[.blk b1 Q1s]) 0 [0] Q1 ⟨Nat.zero_le _,Nat.zero_le _⟩ Jf rfl ?_;rintro i ⟨hi,hS0⟩;by_cases hin:i<n
 ·obtain⟨rk,Ab,cb,An,cn,Ap,cp,hrk,hrg,hlk⟩:=HFM.out.rl hin;have hok:=HF.out i rk hrk;rw[HLEN.out] at hok;have hst:=QdB hrk;have HST:=Q2 hst;have hnm:=HNM.out rk QbZ;have hb:=hlk.b;have hp:=hlk.p;have hnn:=hlk.n
  have hall:∀x:Int,0<=x/\x<n->∃rc Ac cc Ad cd Ae ce,W.rangeAt b (o+x.toNat*12) (ruC rc (.slice Ac rc.bs.length cc) (.slice Ad rc.names.length cd) (.slice Ae rc.parts.length ce))/\K3 F x=rc.name/\rc.name.length<=1048576:=fun x hx=>by
   obtain⟨rc,Ac,cc,Ad,cd,Ae,ce,hrc,hrgc,_⟩:=HFM.out.rl (i:=x.toNat) Q3;exact⟨rc,Ac,cc,Ad,cd,Ae,ce,hrgc,Q3d hrc,(HNM.out rc (List.mem_of_getElem? hrc)).1⟩
  have HALL:=Q2 hall;have HB:=Q2 hb;have HP:=Q2 hp;have HNN:=Q2 hnn;have HOK:=Q2 hok;clear hlk hall hb hp hnn hrk hst hok;obtain⟨name,kind,bs,size,big,mn,mx,stop,count,elem,names,parts⟩:=rk;simp only[ruC] at hrg;obtain⟨hn1,hn2⟩:=hnm;simp only at hn1 hn2;have HN2:=Q2 hn2;have hkd:1<=kind/\kind<=10:=HOK.out.kind;have hkw:=Qja kind;have hb16:bs.length<=16:=HOK.out.bs16;have hp12:parts.length<=12:=HOK.out.p12;clear hn2;obtain⟨S0,hS0'⟩:∃S,Q04 F i=S:=⟨_,rfl⟩;rw[hS0'] at hS0;rw[hS0'] at HST;show sE _ _ _ _ _ [Yp,(3,.string ⟨(Q04 F i).toArray⟩),VB] [.blk b1 Q1s] _;rw[hS0'];clear hS0';have hSb:S0.length<=4000000000:=by omega
  refine yq<|yq<|yr<|yo zM<|yo zF<|yo (zB 0)<|yo zL<|yo zlt<|yl<|yn<|y1<|ys<|yn<|yq<|yb<|yq<|yr<|yo zF<|yo (zB 0)<|yo zM<|yo zi<|yo zE ?_;refine yA fun b5=>?_;refine yW 0 ?_;refine yl<|yn<|yq<|Xm Q5 Q5 ?_;refine Q4L ?_;refine Qe (zB 0) ?_;refine Qe (X5 (r:=S0++name) rfl rfl rfl Q1 rfl rfl rfl Q0N) ?_;refine Qe (X5 (r:=S0++name++[32]) rfl rfl rfl Q1 rfl rfl rfl Q0N) ?_;refine QaV ?_;refine Qe (Ql (f:=77) rfl rfl Q1 rfl rfl (fun w hw=>QeF hkd w)) ?_;refine Qe (X5 (r:=S0++name++[32]++JP kind) rfl rfl rfl Q1 rfl rfl rfl Q0N) ?_;refine Q05 ?_;refine yn ?_;obtain⟨S1,hS1⟩:∃S,S0++name++[32]++JP kind=S:=⟨_,rfl⟩;have hl1:S1.length<=S0.length+1100000:=by rw[<- hS1];refine Qhe ?_;omega
  rw[hS1];have HS1:=Q2 hS1;clear hS1;refine Zx (ι:=List UInt8) (fun T=>T=S1++(if kind==1 then [32] else [])/\T.length<=S1.length+1) Q1z Q1V ?_ ?_
  ·by_cases hk:kind=1
   ·refine yq<|yr<|yo zF<|yo (zB 0)<|yo zet<|yl<|yn<|y1<|yr<|yo zM ?_;refine Q4 (X5 (r:=S1++[32]) rfl rfl rfl Q1 rfl rfl rfl Q0N) ?_;refine yo zA<|yl ?_;refine XB (S1++[32]) [0,1] Q1 ⟨by rw[beq_iff_eq.2 hk];rfl,by (try simp only[List.length_append,List.length_cons,List.length_nil]);omega⟩ mc1 rfl
   ·refine yq<|yr<|yo zF<|yo (zB 0)<|yo zef<|yl<|yn<|y0<|ys ?_;refine XB (S1) [0,1] Q1 ⟨by rw[beq_eq_false_iff_ne.2 hk];exact(List.append_nil _).symm,by (try simp only[List.length_append,List.length_cons,List.length_nil]);omega⟩ mc1 rfl
  rintro S2 ⟨hS2,hm2⟩;have HS2:=Q2 hS2;have hl2:S2.length<=S0.length+1100001:=by omega
  clear hS2 hm2 hl1;show sE _ _ _ _ _ [Yp,(3,.string ⟨(S2).toArray⟩),VB,Q0k] mc0 _;refine Zx (ι:=List UInt8) (fun T=>T=S2++Vu bs/\T.length<=S2.length+32) Q1z Q1V ?_ ?_
  ·refine yq<|yr<|yo zA<|yl<|yn<|yb ?_;refine QK (ι:=Nat) (fun j=>j<=bs.length) (fun j=>bs.length - j) (fun j=>(6,.int .i64 (j:Int))::[(1,.pointer (some ⟨b1,0,none⟩)),(3,.string ⟨(S2++Vu (bs.take j)).toArray⟩),(4,.int .i64 (i:Int)),(5,.pointer (some ⟨b5,0,none⟩))]) (fun _=>[.blk b5 (.cells ([.string ⟨name.toArray⟩,.int .i64 kind,.slice Ab bs.length cb,.int .i64 size,.bool big,.int .i64 mn,.int .i64 mx,.int .i64 stop,.int .i64 count,.int .i64 elem,.slice An names.length cn,.slice Ap parts.length cp]:List Value).toArray 65 (0,0)),.blk b1 (.cells ([.slice (some ⟨b,o,none⟩) n c]:List Value).toArray 24 (0,0))]) 0 [0,1] Q1 Z4 (.cons rfl rfl (.cons rfl rfl (.cons rfl (by show Value.string ⟨(S2).toArray⟩=.string ⟨(S2++Vu (bs.take 0)).toArray⟩;rw[List.take_zero];show _=Value.string ⟨(S2++[]).toArray⟩;rw[List.append_nil]) Q6G))) rfl ?_;intro j hj
   have hh:(Vu (bs.take j)).length<=32:=by rw[Q7n,List.length_take];omega
   by_cases hjn:j<bs.length
   ·have hst:=Qj8 hjn;obtain⟨bb,bo,rfl,_,hc⟩:=HB.out.2 (by show 0<bs.length;omega);have hcj:=hc j _ (QpD hjn);obtain⟨x,hx⟩:∃x,bs.getD j 0=x:=⟨_,rfl⟩;obtain⟨H,hH⟩:∃x,Vu (bs.take j)=x:=⟨_,rfl⟩;rw[hx,hH] at hst;rw[hH] at hh;rw[hx] at hcj;have hxb:=Qiw x;have HSH:=Q2 hst;clear hc hst hx
    show sE _ _ _ _ _ ((6,.int .i64 (j:Int))::[Yp,(3,.string ⟨(S2++Vu (bs.take j)).toArray⟩),VB,Q0k]) [.blk b5 (.cells ([.string Q0u,.int .i64 kind,.slice (some ⟨bb,bo,none⟩) bs.length cb,.int .i64 size,.bool big,.int .i64 mn,.int .i64 mx,.int .i64 stop,.int .i64 count,.int .i64 elem,.slice An names.length cn,.slice Ap parts.length cp]:List Value).toArray 65 (0,0)),.blk b1 Q1s] _;rw[hH];clear hH;refine yq<|yq<|yr<|yo zM<|yo zF<|yo (zB 0)<|yo zL<|yo zlt<|yl<|yn<|y1<|ys<|yn<|yq<|yb<|yr<|yo zM<|yo zF<|yo (zB 0)<|yo zM<|yo zi1<|yo zC ?_;refine Q4 (Q4n rfl rfl Q1 rfl rfl (by rw[Tryz.underlying5];rfl) Tryz.underlying3 (QfQ x)) ?_;refine Q4 (Ql (f:=78) rfl rfl Q1 rfl rfl (fun w hw=>QhU x w)) ?_;refine Q4 (X5 (r:=S2++H++Qca x) rfl rfl rfl Q1 rfl rfl rfl Q0N) ?_;refine Kk ?_;refine Qt (j+1) [0,1] Q1 hjn Q3 (.cons rfl (by go_num) (.cons rfl rfl (.cons rfl (by rw[List.append_assoc,HSH.out]) Q6G))) rfl
   ·obtain rfl:j=bs.length:=by omega
    rw[List.take_length] at hh;show sE _ _ _ _ _ ((6,.int .i64 ((bs.length:Nat):Int))::[Yp,(3,.string ⟨(S2++Vu (bs.take bs.length)).toArray⟩),VB,Q0k]) mc0 _;rw[List.take_length];refine Qo0 ?_;refine XB (S2++Vu bs) [0,1] Q1 Qrg mc1 rfl
  rintro S3 ⟨hS3,hm3⟩;have HS3:=Q2 hS3;have hl3:S3.length<=S0.length+1100033:=by omega
  clear hS3 hm3 hl2;show sE _ _ _ _ _ [Yp,(3,.string ⟨(S3).toArray⟩),VB,Q0k] mc0 _;refine Zx (ι:=List UInt8) (fun T=>T=S3++spW (XS kind) (Lib.itoa stop)/\T.length<=S3.length+22) Q1z Q1V ?_ ?_
  ·by_cases hk:kind=3\/kind=5\/kind=9
   ·have hv:0<=stop/\stop<=1000000000000000000:=by
     have:=HOK.out.stop hk;exact Q4l
    have hil:=YW hv;have hu:=Qbn hk;rcases hk with rfl|rfl|rfl;all_goals
     refine Q2f ?_
     refine Qbt ?_;first|refine Q4 zF ?_|refine Q4 zS ?_
     first|refine Q4 (zB 0) ?_|refine Q4 zS ?_
     first|refine Q4 Qru ?_|refine Q4 zS ?_
     first|refine Q4 zY ?_|refine Q4 zN ?_
     refine yo zM ?_;first|refine Q4 zF ?_|refine Q4 zS ?_
     first|refine Q4 (zB 0) ?_|refine Q4 zS ?_
     first|refine Q4 Q37 ?_|refine Q4 zS ?_
     first|refine Q4 zY ?_|refine Q4 zN ?_
     refine yl ?_;repeat(first|((with_reducible show sE _ _ _ _ _ _ _ _);first|refine Q6 ?_|refine Q9 rfl ?_)|((with_reducible show xE _ _ _ _ _ _ _);refine Qb ?_))
     refine yo zM ?_;refine Q4 (X5 (r:=S3++[32]) rfl rfl rfl Q1 rfl rfl rfl (by (try simp only[List.length_append,List.length_cons,List.length_nil]);omega)) ?_;refine yo zF<|yo (zB 0) ?_;refine Q4 (Ql (f:=79) rfl rfl Q1 rfl rfl (fun w hw=>JG Q3 w)) ?_;refine Q4 (X5 (r:=S3++[32]++Lib.itoa stop) rfl rfl rfl Q1 rfl rfl rfl (by (try simp only[List.length_append,List.length_cons,List.length_nil]);omega)) ?_;refine yo zA<|yl ?_;refine XB (S3++[32]++Lib.itoa stop) [0,1] Q1 ⟨Q7g hu,by (try simp only[List.length_append,List.length_cons,List.length_nil]);omega⟩ (.cons rfl rfl (.cons rfl rfl (.cons rfl rfl (.cons rfl rfl .nil)))) rfl
   ·have hu:=QdW hk;refine Qqz ?_;refine XB (S3) [0,1] Q1 QcV mc1 rfl
  rintro S4 ⟨hS4,hm4⟩;have HS4:=Q2 hS4;have hl4:S4.length<=S0.length+1100055:=by omega
  clear hS4 hm4 hl3;show sE _ _ _ _ _ [Yp,(3,.string ⟨(S4).toArray⟩),VB,Q0k] mc0 _;refine Zx (ι:=List UInt8) (fun T=>T=S4++spW (XT kind) (Lib.itoa size)/\T.length<=S4.length+22) Q1z Q1V ?_ ?_
  ·by_cases hk:kind=2\/kind=4\/kind=5
   ·have hv:0<=size/\size<=1000000000000000000:=by
     rcases hk with hk|hk|hk
     ·have:=HOK.out.num hk
      exact Q4l
     ·have:=HOK.out.size4 hk
      exact Q4l
     ·have:=HOK.out.size5 hk
      exact Q4l
    have hil:=YW hv;have hu:=QcM hk;rcases hk with rfl|rfl|rfl;all_goals
     refine Q2f ?_
     refine Qbt ?_;first|refine Q4 zF ?_|refine Q4 zS ?_
     first|refine Q4 (zB 0) ?_|refine Q4 zS ?_
     first|refine Q4 Qru ?_|refine Q4 zS ?_
     first|refine Q4 zY ?_|refine Q4 zN ?_
     refine yo zM ?_;first|refine Q4 zF ?_|refine Q4 zS ?_
     first|refine Q4 (zB 0) ?_|refine Q4 zS ?_
     first|refine Q4 Q37 ?_|refine Q4 zS ?_
     first|refine Q4 zY ?_|refine Q4 zN ?_
     refine yl ?_;repeat(first|((with_reducible show sE _ _ _ _ _ _ _ _);first|refine Q6 ?_|refine Q9 rfl ?_)|((with_reducible show xE _ _ _ _ _ _ _);refine Qb ?_))
     refine yo zM ?_;refine Q4 (X5 (r:=S4++[32]) rfl rfl rfl Q1 rfl rfl rfl (by (try simp only[List.length_append,List.length_cons,List.length_nil]);omega)) ?_;refine yo zF<|yo (zB 0) ?_;refine Q4 (Ql (f:=79) rfl rfl Q1 rfl rfl (fun w hw=>JG Q3 w)) ?_;refine Q4 (X5 (r:=S4++[32]++Lib.itoa size) rfl rfl rfl Q1 rfl rfl rfl (by (try simp only[List.length_append,List.length_cons,List.length_nil]);omega)) ?_;refine yo zA<|yl ?_;refine XB (S4++[32]++Lib.itoa size) [0,1] Q1 ⟨Q7g hu,by (try simp only[List.length_append,List.length_cons,List.length_nil]);omega⟩ (.cons rfl rfl (.cons rfl rfl (.cons rfl rfl (.cons rfl rfl .nil)))) rfl
   ·have hu:=QfN hk;refine Qqz ?_;refine XB (S4) [0,1] Q1 QcV mc1 rfl
  rintro S5 ⟨hS5,hm5⟩;have HS5:=Q2 hS5;have hl5:S5.length<=S0.length+1100077:=by omega
  clear hS5 hm5 hl4;show sE _ _ _ _ _ [Yp,(3,.string ⟨(S5).toArray⟩),VB,Q0k] mc0 _;refine Zx (ι:=List UInt8) (fun T=>T=S5++(if kind==2&&big==true then [32,98,105,103,32]++Lib.itoa mn else [])/\T.length<=S5.length+40) Q1z Q1V ?_ ?_
  ·by_cases hk:kind=2/\big=true
   ·obtain⟨rfl,rfl⟩:=hk;have hnu:=HOK.out.num rfl
    simp only at hnu;have hpw:(256:Int) ^ size.toNat<=256 ^ 4:=by
     rcases (show size.toNat=1\/size.toNat=2\/size.toNat=3\/size.toNat=4 by omega) with h|h|h|h<;>rw[h]<;>decide
    have hv:0<=mn/\mn<=1000000000000000000:=by omega
    have hil:=YW hv;clear hnu hpw;refine yq<|yr<|yo zF<|yo (zB 0)<|yo zet<|yo zM<|yo zF<|yo (zB 0)<|yo zY<|yl<|yn<|y1<|yr<|yo zM ?_;refine Q4 (X5 (r:=S5++[32,98,105,103,32]) rfl rfl rfl Q1 rfl rfl rfl Q0N) ?_;refine QrA ?_;refine Q4 (X5 (r:=S5++[32,98,105,103,32]++Lib.itoa mn) rfl rfl rfl Q1 rfl rfl rfl Q0N) ?_;refine yo zA<|yl ?_;refine XB (S5++[32,98,105,103,32]++Lib.itoa mn) [0,1] Q1 Qrp mc1 rfl
   ·have hpc:(if kind==2&&big==true then [32,98,105,103,32]++Lib.itoa mn else [])=[]:=QsA;have HPC:=Q2 hpc;clear hpc
    by_cases hk2:kind=2
    ·subst hk2
     obtain rfl:big=false:=by cases big<;>first|rfl|exact absurd ⟨rfl,rfl⟩ hk
     refine yq<|yr<|yo zF<|yo (zB 0)<|yo zet<|yo zM<|yo zF<|yo (zB 0)<|yo zY<|yl<|yn<|y0<|ys ?_;refine XB (S5) [0,1] Q1 Qgx mc1 rfl
    ·refine yq<|yr<|yo zF<|yo (zB 0)<|yo zef<|yo zM<|yo zS<|yo zS<|yo zN<|yl<|yn<|y0<|ys ?_;refine XB (S5) [0,1] Q1 Qgx mc1 rfl
  rintro S6 ⟨hS6,hm6⟩;have HS6:=Q2 hS6;have hl6:S6.length<=S0.length+1100117:=by omega
  clear hS6 hm6 hl5;show sE _ _ _ _ _ [Yp,(3,.string ⟨(S6).toArray⟩),VB,Q0k] mc0 _;refine Zx (ι:=List UInt8) (fun T=>T=S6++(if kind==2&&big==false then [32,108,105,116,116,108,101,32]++Lib.itoa mn else [])/\T.length<=S6.length+40) Q1z Q1V ?_ ?_
  ·by_cases hk:kind=2/\big=false
   ·obtain⟨rfl,rfl⟩:=hk;have hnu:=HOK.out.num rfl
    simp only at hnu;have hpw:(256:Int) ^ size.toNat<=256 ^ 4:=by
     rcases (show size.toNat=1\/size.toNat=2\/size.toNat=3\/size.toNat=4 by omega) with h|h|h|h<;>rw[h]<;>decide
    have hv:0<=mn/\mn<=1000000000000000000:=by omega
    have hil:=YW hv;clear hnu hpw;refine yq<|yr<|yo zF<|yo (zB 0)<|yo zet<|yo zM<|yo zF<|yo (zB 0)<|yo zO<|yo zY<|yl<|yn<|y1<|yr<|yo zM ?_;refine Q4 (X5 (r:=S6++QdY) rfl rfl rfl Q1 rfl rfl rfl Q0N) ?_;refine QrA ?_;refine Q4 (X5 (r:=S6++QdY++Lib.itoa mn) rfl rfl rfl Q1 rfl rfl rfl Q0N) ?_;refine yo zA<|yl ?_;refine XB (S6++QdY++Lib.itoa mn) [0,1] Q1 Qrp mc1 rfl
   ·have hpc:(if kind==2&&big==false then [32,108,105,116,116,108,101,32]++Lib.itoa mn else [])=[]:=QsA;have HPC:=Q2 hpc;clear hpc
    by_cases hk2:kind=2
    ·subst hk2
     obtain rfl:big=true:=by cases big<;>first|rfl|exact absurd ⟨rfl,rfl⟩ hk
     refine yq<|yr<|yo zF<|yo (zB 0)<|yo zet<|yo zM<|yo zF<|yo (zB 0)<|yo zO<|yo zY<|yl<|yn<|y0<|ys ?_;refine XB (S6) [0,1] Q1 Qgx mc1 rfl
    ·refine yq<|yr<|yo zF<|yo (zB 0)<|yo zef<|yo zM<|yo zS<|yo zS<|yo zS<|yo zN<|yl<|yn<|y0<|ys ?_;refine XB (S6) [0,1] Q1 Qgx mc1 rfl
  rintro S7 ⟨hS7,hm7⟩;have HS7:=Q2 hS7;have hl7:S7.length<=S0.length+1100157:=by omega
  clear hS7 hm7 hl6;show sE _ _ _ _ _ [Yp,(3,.string ⟨(S7).toArray⟩),VB,Q0k] mc0 _;refine Zx (ι:=List UInt8) (fun T=>T=S7++spW (Z8 kind) (Lib.itoa mx)/\T.length<=S7.length+22) Q1z Q1V ?_ ?_
  ·by_cases hk:kind=2\/kind=3
   ·have hv:0<=mx/\mx<=1000000000000000000:=by
     rcases hk with hk|hk
     ·have hnu:=HOK.out.num hk
      simp only at hnu;have hpw:(256:Int) ^ size.toNat<=256 ^ 4:=by
       rcases (show size.toNat=1\/size.toNat=2\/size.toNat=3\/size.toNat=4 by omega) with h|h|h|h<;>rw[h]<;>decide
      omega
     ·have:=HOK.out.dec hk
      exact Q4l
    have hil:=YW hv;have hu:=Qe2 hk;rcases hk with rfl|rfl;all_goals
     refine Q2f ?_
     refine Qbt ?_;first|refine Q4 zF ?_|refine Q4 zS ?_
     first|refine Q4 (zB 0) ?_|refine Q4 zS ?_
     first|refine Q4 Q37 ?_|refine Q4 zS ?_
     first|refine Q4 zY ?_|refine Q4 zN ?_
     refine yl ?_;repeat(first|((with_reducible show sE _ _ _ _ _ _ _ _);first|refine Q6 ?_|refine Q9 rfl ?_)|((with_reducible show xE _ _ _ _ _ _ _);refine Qb ?_))
     refine yo zM ?_;refine Q4 (X5 (r:=S7++[32]) rfl rfl rfl Q1 rfl rfl rfl (by (try simp only[List.length_append,List.length_cons,List.length_nil]);omega)) ?_;refine yo zF<|yo (zB 0) ?_;refine Q4 (Ql (f:=79) rfl rfl Q1 rfl rfl (fun w hw=>JG Q3 w)) ?_;refine Q4 (X5 (r:=S7++[32]++Lib.itoa mx) rfl rfl rfl Q1 rfl rfl rfl (by (try simp only[List.length_append,List.length_cons,List.length_nil]);omega)) ?_;refine yo zA<|yl ?_;refine XB (S7++[32]++Lib.itoa mx) [0,1] Q1 ⟨Q7g hu,by (try simp only[List.length_append,List.length_cons,List.length_nil]);omega⟩ (.cons rfl rfl (.cons rfl rfl (.cons rfl rfl (.cons rfl rfl .nil)))) rfl
   ·have hu:=QhS hk;refine Qln ?_;refine XB (S7) [0,1] Q1 QcV mc1 rfl
  rintro S8 ⟨hS8,hm8⟩;have HS8:=Q2 hS8;have hl8:S8.length<=S0.length+1100179:=by omega
  clear hS8 hm8 hl7;show sE _ _ _ _ _ [Yp,(3,.string ⟨(S8).toArray⟩),VB,Q0k] mc0 _;refine Zx (ι:=List UInt8) (fun T=>T=S8++spW (QE kind) (K3 F count)/\T.length<=S8.length+1048577) Q1z Q1V ?_ ?_
  ·by_cases hk:kind=6\/kind=10
   ·have hv:0<=count/\count<n:=HOK.out.count hk;obtain⟨rc,Ac,cc,Ad,cd,Ae,ce,hrgc,hnmc,hlc⟩:=HALL.out count hv;have hu:=Qak hk;rw[hnmc]
    rcases hk with rfl|rfl;all_goals
     refine Q2f ?_
     refine Qbt ?_;first|refine Q4 zF ?_|refine Q4 zS ?_
     first|refine Q4 (zB 0) ?_|refine Q4 zS ?_
     first|refine Q4 Q37 ?_|refine Q4 zS ?_
     first|refine Q4 zY ?_|refine Q4 zN ?_
     refine yl ?_;repeat(first|((with_reducible show sE _ _ _ _ _ _ _ _);first|refine Q6 ?_|refine Q9 rfl ?_)|((with_reducible show xE _ _ _ _ _ _ _);refine Qb ?_))
     refine yo zM ?_;refine Q4 (X5 (r:=S8++[32]) rfl rfl rfl Q1 rfl rfl rfl (by (try simp only[List.length_append,List.length_cons,List.length_nil]);omega)) ?_;refine yo zF<|yo (zB 1)<|yo zF<|yo (zB 0) ?_;refine Q4 (QG rfl rfl Q1 rfl rfl rfl Q3) ?_;refine yo zF<|yo zR ?_;refine Q4 (X5 (r:=S8++[32]++rc.name) rfl rfl rfl Q1 rfl rfl rfl (by (try simp only[List.length_append,List.length_cons,List.length_nil]);omega)) ?_;refine yo zA<|yl ?_;refine XB (S8++[32]++rc.name) [0,1] Q1 ⟨Q7g hu,by (try simp only[List.length_append,List.length_cons,List.length_nil]);omega⟩ (.cons rfl rfl (.cons rfl rfl (.cons rfl rfl (.cons rfl rfl .nil)))) rfl
   ·have hu:=Qc7 hk;refine Qln ?_;refine XB (S8) [0,1] Q1 QcV mc1 rfl
  rintro S9 ⟨hS9,hm9⟩;have HS9:=Q2 hS9;have hl9:S9.length<=S0.length+2148756:=by omega
  clear hS9 hm9 hl8;show sE _ _ _ _ _ [Yp,(3,.string ⟨(S9).toArray⟩),VB,Q0k] mc0 _;refine Zx (ι:=List UInt8) (fun T=>T=S9++spW (JS kind) (K3 F elem)/\T.length<=S9.length+1048577) Q1z Q1V ?_ ?_
  ·by_cases hk:kind=6\/kind=9
   ·have hv:0<=elem/\elem<n:=HOK.out.elem hk;obtain⟨rc,Ac,cc,Ad,cd,Ae,ce,hrgc,hnmc,hlc⟩:=HALL.out elem hv;have hu:=Qiz hk;rw[hnmc]
    rcases hk with rfl|rfl;all_goals
     refine Q2f ?_
     refine Qbt ?_;first|refine Q4 zF ?_|refine Q4 zS ?_
     first|refine Q4 (zB 0) ?_|refine Q4 zS ?_
     first|refine Q4 Q37 ?_|refine Q4 zS ?_
     first|refine Q4 zY ?_|refine Q4 zN ?_
     refine yl ?_;repeat(first|((with_reducible show sE _ _ _ _ _ _ _ _);first|refine Q6 ?_|refine Q9 rfl ?_)|((with_reducible show xE _ _ _ _ _ _ _);refine Qb ?_))
     refine yo zM ?_;refine Q4 (X5 (r:=S9++[32]) rfl rfl rfl Q1 rfl rfl rfl (by (try simp only[List.length_append,List.length_cons,List.length_nil]);omega)) ?_;refine yo zF<|yo (zB 1)<|yo zF<|yo (zB 0) ?_;refine Q4 (QG rfl rfl Q1 rfl rfl rfl Q3) ?_;refine yo zF<|yo zR ?_;refine Q4 (X5 (r:=S9++[32]++rc.name) rfl rfl rfl Q1 rfl rfl rfl (by (try simp only[List.length_append,List.length_cons,List.length_nil]);omega)) ?_;refine yo zA<|yl ?_;refine XB (S9++[32]++rc.name) [0,1] Q1 ⟨Q7g hu,by (try simp only[List.length_append,List.length_cons,List.length_nil]);omega⟩ (.cons rfl rfl (.cons rfl rfl (.cons rfl rfl (.cons rfl rfl .nil)))) rfl
   ·have hu:=Qos hk;refine Qln ?_;refine XB (S9) [0,1] Q1 QcV mc1 rfl
  rintro S10 ⟨hS10,hm10⟩;have HS10:=Q2 hS10;have hl10:S10.length<=S0.length+3197333:=by omega
  clear hS10 hm10 hl9;show sE _ _ _ _ _ [Yp,(3,.string ⟨(S10).toArray⟩),VB,Q0k] mc0 _;refine Zx (ι:=List UInt8) (fun T=>T=S10++YL F Qon parts.length/\T.length<=S10.length+26400000) Q1z Q1V ?_ ?_
  ·refine yq<|yr<|yo zA<|yl<|yn<|yb ?_;refine QK (ι:=Nat) (fun j=>j<=parts.length/\(YL F ⟨name,kind,bs,size,big,mn,mx,stop,count,elem,names,parts⟩ j).length<=j*2200000) (fun j=>parts.length - j) (fun j=>(7,.int .i64 (j:Int))::[(1,.pointer (some ⟨b1,0,none⟩)),(3,.string ⟨(S10++YL F ⟨name,kind,bs,size,big,mn,mx,stop,count,elem,names,parts⟩ j).toArray⟩),(4,.int .i64 (i:Int)),(5,.pointer (some ⟨b5,0,none⟩))]) (fun _=>[.blk b5 (.cells ([.string ⟨name.toArray⟩,.int .i64 kind,.slice Ab bs.length cb,.int .i64 size,.bool big,.int .i64 mn,.int .i64 mx,.int .i64 stop,.int .i64 count,.int .i64 elem,.slice An names.length cn,.slice Ap parts.length cp]:List Value).toArray 65 (0,0)),.blk b1 (.cells ([.slice (some ⟨b,o,none⟩) n c]:List Value).toArray 24 (0,0))]) 0 [0,1] Q1 ⟨Nat.zero_le _,Nat.zero_le _⟩ (.cons rfl rfl (.cons rfl rfl (.cons rfl (by show Value.string ⟨(S10).toArray⟩=.string ⟨(S10++[]).toArray⟩;rw[List.append_nil]) Q6G))) rfl ?_
   rintro j ⟨hj,hpl⟩;have hstp:=QbH F Qon j;have HSTP:=Q2 hstp;clear hstp;by_cases hjn:j<parts.length
   ·obtain⟨bp,op,rfl,_,hc⟩:=HP.out.2 (by show 0<parts.length;omega);have hcj:=hc j _ (QgY hjn)
    have hk78:kind=7\/kind=8:=by
     have:=(Ji.1 HOK.out.formed).2.2.2.2.2.2.2.2;exact Q4l
    have hpr:=HOK.out.parts hk78 (parts.getD j 0) (QhT hjn);obtain⟨p,hp⟩:∃x,parts.getD j 0=x:=⟨_,rfl⟩;rw[hp] at hcj hpr;obtain⟨rc,Ac,cc,Ad,cd,Ae,ce,hrgc,hnmc,hlc⟩:=HALL.out p hpr;obtain⟨Q,hQ⟩:∃x,YL F ⟨name,kind,bs,size,big,mn,mx,stop,count,elem,names,parts⟩ j=x:=⟨_,rfl⟩;rw[hQ] at hpl;have hq:Q.length<=26400000:=by omega
    have HQ:=Q2 hQ;have HPJ:=Q2 hp;have HNMC:=Q2 hnmc;clear hc hp hnmc;show sE _ _ _ _ _ ((7,.int .i64 (j:Int))::[Yp,(3,.string ⟨(S10++YL F Qon j).toArray⟩),VB,Q0k]) [.blk b5 (.cells ([.string Q0u,.int .i64 kind,.slice Ab bs.length cb,.int .i64 size,.bool big,.int .i64 mn,.int .i64 mx,.int .i64 stop,.int .i64 count,.int .i64 elem,.slice An names.length cn,.slice QjF parts.length cp]:List Value).toArray 65 (0,0)),.blk b1 Q1s] _;rw[hQ];clear hQ;by_cases hk:kind=7
    ·subst hk;have hnp:names.length=parts.length:=(HOK.out.seven rfl).1;obtain⟨bn,on,rfl,_,hcn⟩:=HNN.out.2 (by show 0<names.length;omega);have hcx:=hcn j _ (QoO (by rw[hnp];exact hjn));have hxl:=HN2.out _ (Qir (l:=names) (j:=j) (by rw[hnp];exact hjn))
     have hpw:XF F ⟨name,7,bs,size,big,mn,mx,stop,count,elem,names,parts⟩ j=(if names.getD j []==[] then [45] else names.getD j [])++[58]++rc.name:=by
      rw[<- HNMC.out,<- HPJ.out];rfl
     obtain⟨x,hx⟩:∃x,names.getD j []=x:=⟨_,rfl⟩;rw[hx] at hcx hxl hpw;clear hcn hx;by_cases hxe:x=[]
     ·subst hxe;have HPW:=Q2 (show XF F ⟨name,7,bs,size,big,mn,mx,stop,count,elem,names,parts⟩ j=[45]++[58]++rc.name from hpw);clear hpw;refine Qov ?_;refine Qnm ?_;refine Q4 QkZ ?_;refine yo zY<|yl<|yn<|y1<|yr<|yo zM ?_;refine Q4 (X5 (r:=S10++Q++[32]++[45,58]) rfl rfl rfl Q1 rfl rfl rfl Q0N) ?_;refine Qnm ?_;refine Q4 (Q9W rfl rfl Q1 rfl rfl rfl (by rfl)) ?_;refine yo zY<|yl<|yn<|y0<|ys<|yn<|Xm Q5 Q5 ?_;refine Qok ?_;refine Qe zR ?_;refine Qe (X5 (r:=S10++Q++[32]++[45,58]++rc.name) rfl rfl rfl Q1 rfl rfl rfl Q0N) ?_;refine Q45 ?_;refine Qt (j+1) [0,1] Q1 ⟨hjn,?_⟩ Q3 (.cons rfl (by go_num) (.cons rfl rfl (.cons rfl ?_ Q6G))) rfl
      ·rw[HSTP.out,HQ.out,HPW.out]
       refine Qhe ?_;omega
      ·rw[HSTP.out,HQ.out,HPW.out]
       simp only[List.append_assoc,List.cons_append,List.nil_append]
     ·have HPW:=Q2 (show XF F ⟨name,7,bs,size,big,mn,mx,stop,count,elem,names,parts⟩ j=x++[58]++rc.name by rw[hpw,if_neg (by rw[beq_iff_eq];exact hxe)])
      have htest:((⟨x.toArray⟩:ByteArray).data.toList==(⟨#[]⟩:ByteArray).data.toList)=false:=by
       cases x with
       |nil=>exact absurd rfl hxe
       |cons=>rfl
      have htest2:((⟨x.toArray⟩:ByteArray).data.toList != (⟨#[]⟩:ByteArray).data.toList)=true:=by
       cases x with
       |nil=>exact absurd rfl hxe
       |cons=>rfl
      clear hpw hxe;refine Qov ?_;refine yo zA<|yl<|yn<|yq<|yq<|yr<|yo zF<|yo (zB 0)<|yo zet<|yo zM<|yo zF<|yo (zB 0)<|yo zM<|yo zi1<|yo zC<|yo zsa<|yo zY<|yl<|yn<|y0<|ys<|yn<|yq<|yq<|yr<|yo zF<|yo (zB 0)<|yo zet<|yo zM<|yo zF<|yo (zB 0)<|yo zM<|yo zi1<|yo zC ?_;refine Q4 Qhp ?_;refine yo zY<|yl<|yn<|y1<|yr<|yo zM<|yo zF<|yo (zB 0)<|yo zM<|yo zi1<|yo zC ?_;refine Q4 (X5 (r:=S10++Q++[32]++x) rfl rfl rfl Q1 rfl rfl rfl Q0N) ?_;refine Q4 (X5 (r:=S10++Q++[32]++x++[58]) rfl rfl rfl Q1 rfl rfl rfl Q0N) ?_;refine yo zA<|yl<|yn<|Xm Q5 Q5 ?_;refine Qok ?_;refine Qe zR ?_;refine Qe (X5 (r:=S10++Q++[32]++x++[58]++rc.name) rfl rfl rfl Q1 rfl rfl rfl Q0N) ?_;refine Q45 ?_;refine Qt (j+1) [0,1] Q1 ⟨hjn,?_⟩ Q3 (.cons rfl (by go_num) (.cons rfl rfl (.cons rfl ?_ Q6G))) rfl
      ·rw[HSTP.out,HQ.out,HPW.out]
       refine Qhe ?_;omega
      ·rw[HSTP.out,HQ.out,HPW.out]
       simp only[List.append_assoc,List.cons_append,List.nil_append]
    ·obtain rfl:kind=8:=by omega
     have hpw:XF F ⟨name,8,bs,size,big,mn,mx,stop,count,elem,names,parts⟩ j=rc.name:=by
      rw[<- HNMC.out,<- HPJ.out];rfl
     have HPW:=Q2 hpw;clear hpw;refine Qov ?_;refine yo zA<|yl<|yn<|yq<|yq<|yr<|yo zF<|yo (zB 0)<|yo zef<|yo zM<|yo zS<|yo zS<|yo zS<|yo zS<|yo zS<|yo zS<|yo zN<|yl<|yn<|y0<|ys<|yn<|yq<|yq<|yr<|yo zF<|yo (zB 0)<|yo zef<|yo zM<|yo zS<|yo zS<|yo zS<|yo zS<|yo zS<|yo zS<|yo zN<|yl<|yn<|y0<|ys<|yn<|Xm Q5 Q5 ?_;refine Qok ?_;refine Qe zR ?_;refine Qe (X5 (r:=S10++Q++[32]++rc.name) rfl rfl rfl Q1 rfl rfl rfl Q0N) ?_;refine Q45 ?_;refine Qt (j+1) [0,1] Q1 ⟨hjn,?_⟩ Q3 (.cons rfl (by go_num) (.cons rfl rfl (.cons rfl ?_ Q6G))) rfl
     ·rw[HSTP.out,HQ.out,HPW.out]
      refine Qhe ?_;omega
     ·rw[HSTP.out,HQ.out,HPW.out]
      simp only[List.append_assoc,List.cons_append,List.nil_append]
   ·obtain rfl:j=parts.length:=by omega
    refine Qo0 ?_;refine XB (S10++YL F ⟨name,kind,bs,size,big,mn,mx,stop,count,elem,names,parts⟩ parts.length) [0,1] Q1 Qrg mc1 rfl
  rintro S11 ⟨hS11,hm11⟩;have HS11:=Q2 hS11;have hl11:S11.length<=S0.length+29597333:=by omega
  clear hS11 hm11 hl10;show sE _ _ _ _ _ [Yp,(3,.string ⟨(S11).toArray⟩),VB,Q0k] mc0 _;have hfin:S11++[10]=Q04 F (i+1):=by
   rw[HST.out];unfold Q2S;rw[HS11.out,HS10.out,HS9.out,HS8.out,HS7.out,HS6.out,HS5.out,HS4.out,HS3.out,HS2.out];rw[<- HS1.out];show _=S0++(name++[32]++JP kind++(if kind==1 then [32] else [])++Vu bs++spW (XS kind) (Lib.itoa stop)++spW (XT kind) (Lib.itoa size)++spW (kind==2) (if big then Qcx else Ys)++spW (kind==2) (Lib.itoa mn)++spW (Z8 kind) (Lib.itoa mx)++spW (QE kind) (K3 F count)++spW (JS kind) (K3 F elem)++YL F ⟨name,kind,bs,size,big,mn,mx,stop,count,elem,names,parts⟩ parts.length++[10]);have hbl:(if kind==2&&big==true then [32,98,105,103,32]++Lib.itoa mn else [])++(if kind==2&&big==false then [32,108,105,116,116,108,101,32]++Lib.itoa mn else [])=spW (kind==2) (if big then Qcx else Ys)++spW (kind==2) (Lib.itoa mn):=by
    cases kind==2<;>cases big<;>simp [spW,Qcx,Ys]
   simp only[List.append_assoc] at hbl ⊢;rw[<- List.append_assoc (ite ((kind==2&&big==true)=true) _ _),hbl,List.append_assoc]
  have HFIN:=Q2 hfin;have hfl:(Q04 F (i+1)).length<=(i+1)*100000000:=by rw[<- hfin,List.length_append,List.length_cons,List.length_nil];omega
  clear hfin;refine yr<|yo zM ?_;refine Q4 (X5 (r:=S11++[10]) rfl rfl rfl Q1 rfl rfl rfl Q0N) ?_;refine Kk ?_;refine Qt (i+1) [1] Q1 ⟨hin,hfl⟩ Q3 (.cons rfl rfl (.cons rfl (by rw[HFIN.out]) Q0a)) rfl
 ·obtain rfl:i=n:=by omega
  refine yq<|yq<|yr<|yo zM<|yo zF<|yo (zB 0)<|yo zL<|yo zlf<|yl<|yn<|y0<|ye<|yn<|yq<|yr<|yo zM<|yo zA<|yl<|yn<|yt ?_;exact Q5g
end
end
end Go.Proofs.YtphkhfdmlcnoeaaGreatDoor
