import Derived.Test.YtphkhfdmlcnoeaaGreatDoorQ19
import Derived.Lib.ItoaLen
namespace Go.Proofs.YtphkhfdmlcnoeaaGreatDoor
set_option linter.unusedVariables false
set_option linter.unusedSimpArgs false
set_option maxRecDepth 1000000
set_option maxHeartbeats 32000000
open Go.RowKit
section
variable {A:Option Addr}{F:List Rl}{W:World}{c k n:Nat}{r:Rl}
section
variable {ops:Array Oper}{C:World->Prop}{N:Nat}{E:Env}{o:Oper}{d:Nat}
theorem KJ{x y:Operand}{t':TypeId}{a b a' b':Int}{v:Bool}(ho:o.op=.binOp .neq 32 x y t')(hd:o.dst=some d)(hN:d<N)(hw:Qm ops E o=some true)(hx:ev E x=some (.agg #[.int .i64 a,.int .i64 b]))(hy:ev E y=some (.agg #[.int .i64 a',.int .i64 b']))(hb:(!(a==a'&&b==b'))=v):oE Tryz.prog ops C N E ((d,.bool v)::E) o:=
 Xl hd hN hw fun ρ w ha _=>by
  subst hb;by_cases h1:a=a'<;>by_cases h2:b=b'<;>simp [execOp,ho,ha.eval hx,ha.eval hy,h1,h2,go_sem]
end
theorem QgO(m:Nat):∀ws:List (List UInt8),(∀w∈ws,w.length<=m)->(Lib.join ws [32]).length<=ws.length*(m+1)
 |[],_=>by simp [Lib.join]
 |[x],h=>by
  rw[Lib.join_one];have:=h x List.mem_cons_self
  exact Qew
 |x::y::l,h=>by
  have ih:=QgO m (y::l) fun w hw=>h w (List.mem_cons_of_mem _ hw);rw[Lib.join_cons,ZT,<- Lib.join_cons];have:=h x List.mem_cons_self;simp only[List.length_append,List.length_cons,List.length_nil] at ih ⊢;rw[Nat.add_mul] at ih ⊢;rw[Nat.add_mul];omega
theorem Q3d{v:Int}(h:0<=v/\v<=4294967295):(Lib.itoa v).length<=100:=by
 have:=Lib.itoa_length_le v Q2 Q2;omega
theorem YN{u:Bool}{s w:List UInt8}(h:w∈ifW u s):w=s:=by
 unfold ifW at h;split at h
 ·exact List.mem_singleton.1 h
 ·cases h
theorem YF(u:Bool)(s:List UInt8):(ifW u s).length<=1:=by
 unfold ifW;split<;>simp
theorem Qfh(h:LOk F r)(h0:0<F.length):(Lib.join (Zt F r) [32]).length<=1000000:=by
 have hN:=Qfk h.ok h0;have hnm:∀x:Int,0<=x/\x<F.length->(JM F x).length<=100:=fun x hx=>by have:=Ka (h.all x hx);omega
 have hlen:(Zt F r).length<=24:=by
  unfold Zt Q28;simp only[List.length_append,List.length_map,List.length_range,List.length_cons,List.length_nil];have:=h.ok.p12;have:=YF (r.kind==1) (Q0u r.bs);have:=YF (Jh r.kind) (Lib.itoa r.stop);have:=YF (Je r.kind) (Lib.itoa r.size);have:=YF (r.kind==2) (if r.big then Q08 else JW);have:=YF (r.kind==2) (Lib.itoa r.mn);have:=YF (JC r.kind) (Lib.itoa r.mx);have:=YF (Qv r.kind) (JM F r.count);have:=YF (Zy r.kind) (JM F r.elem);omega
 have hw:∀w∈Zt F r,w.length<=100:=by
  intro w hw;unfold Zt Q28 at hw;simp only[List.mem_append] at hw;rcases hw with (((((((((hw|hw)|hw)|hw)|hw)|hw)|hw)|hw)|hw))|hw
  ·rcases List.mem_cons.1 hw with rfl|hw
   ·have:=Ka h.name;omega
   ·rw[List.mem_singleton.1 hw];have hk:=h.ok.kind
    rcases (show r.kind=1\/r.kind=2\/r.kind=3\/r.kind=4\/r.kind=5\/r.kind=6\/r.kind=7\/r.kind=8\/r.kind=9\/r.kind=10 by omega) with e|e|e|e|e|e|e|e|e|e<;>rw[e]<;>decide
  ·rw[YN hw,Qbl];have:=h.ok.bs16;omega
  ·rw[YN hw];exact Q3d hN.stop
  ·rw[YN hw];exact Q3d hN.size
  ·rw[YN hw];split<;>decide
  ·rw[YN hw];exact Q3d hN.mn
  ·rw[YN hw];exact Q3d hN.mx
  ·rw[YN hw];exact hnm _ hN.count
  ·rw[YN hw];exact hnm _ hN.elem
  ·rw[List.mem_map] at hw;obtain⟨i,hi,rfl⟩:=hw;rw[List.mem_range] at hi
   have hp:(JM F (r.parts.getD i 0)).length<=32:=by
    by_cases h78:r.kind=7\/r.kind=8
    ·exact Ka (h.all _ (h.ok.parts h78 _ (by rw[List.getD_eq_getElem?_getD,List.getElem?_eq_getElem hi];exact List.getElem_mem hi)))
    ·rw[(Q5R h.ok).parts Q2 Q2] at hi;exact absurd hi Qn
   unfold Z7;rw[List.length_append];split
   ·next h7=>
    have h7':r.kind=7:=by simpa using h7
    have hs:=(h.ok.seven h7').1;rw[List.length_append];split
    ·exact Qew
    ·next hne=>
     have hg:r.names.getD i []=r.names[i]:=by rw[List.getD_eq_getElem?_getD,List.getElem?_eq_getElem Q2];rfl
     have hi2:i<r.names.length:=by omega
     have:(r.names.getD i []).length<=32:=by
      rw[hg];rcases h.part h7' r.names[i] (List.getElem_mem hi2) with e|e
      ·rw[e];decide
      ·exact Ka e
     exact Qew
   ·simp only[List.length_nil];omega
 have:=QgO 100 (Zt F r) hw;have h2:(Zt F r).length*(100+1)<=24*(100+1):=Nat.mul_le_mul_right _ hlen;omega
def Q2J(F:List Rl)(k:Nat):List UInt8:=((F.take k).map (Q2K F)).flatten
theorem QeD(h:F[k]? =some r):Q2J F k++Q2K F r=Q2J F (k+1):=by
 unfold Q2J;rw[List.take_add_one,h];simp
theorem Qim(h:F.length<=k):Q2J F k=YP F:=by
 unfold Q2J YP;rw[List.take_of_length_le h]
def Q4g(F:List Rl):List UInt8:=if Qz F=(0,0) then YP F else []
def QuK(W:World)(l:List UInt8)(p:Int×Int)(e:Ending)(w':World):Prop:=e=.returned (.tuple #[.string ⟨l.toArray⟩,.agg #[.int .i64 p.1,.int .i64 p.2]])/\Below W.heap.size W w'
theorem Q4V(hf:X3 W W.heap.size A n F)(hs:FSm F)(hc:n<=c)(hg:GV W):
  Calls Tryz.prog 51 #[.agg #[.slice A n c]] W (QuK W (Q4g F) (Qz F)):=by
 have hlen:F.length=n:=hf.1;have HFM:=Q3 hf;have HS:=Q3 hs;have HG:=Q3 hg;have HLEN:=Q3 hlen;clear hf hs hg hlen;obtain⟨⟨a,b⟩,hab⟩:∃p,Xr F=p:=⟨_,rfl⟩;have HC:=Q3 hab;clear hab;go_enter Tryz.func51,Tryz.ntmps51;refine Qy (M:=[]) (W:=W) (N:=33) (E:=[V6]) (O:=[]) ?_ J1 Xs;by_cases hz:a=0/\b=0
 case neg=>
  have hne:(!(a==0&&b==0))=true:=by
   refine Q4r ?_;omega
  repeat(first|refine Q4 zA ?_|refine Q4 (zD 0) ?_|refine Q4 (zD 1) ?_|refine Qd Yz rfl Q1 (fun bf _=>?_)|refine Qd Q0j rfl Q1 (fun b2 _=>?_)|(refine Q4 Qux ?_)|(refine Qr Q2i rfl (fun _ _=>?_);rw[Qq (by rfl)])|refine Q4 mc6 ?_|refine Q4 Q8E ?_|refine Qc ?_|refine Qa ?_|refine Q6 ?_|refine Q8 rfl ?_)
  refine QlW ?_;refine QB 2 Q5 rfl rfl Yf ZA rfl (fun _ _=>?_);rw[Qq (by rfl)];refine Xi ?_ Q5;refine Qu (Qo ?_);refine Z1 mc4 rfl (.tmp rfl) YW (fun w hw=>⟨?_,hw.k.below⟩);have hff:Qz F=(a,b):=by
   unfold Qz;rw[HC.out,if_pos];intro h;exact hz (by simpa using h)
  unfold Q4g;rw[hff,if_neg (fun h=>hz (by simpa using h))]
 case pos=>
  obtain⟨rfl,rfl⟩:=hz;have hlo:=Q6I HC.out;have hlon:=hlo.1;have hlox:=hlo.2;rw[HLEN.out] at hlon hlox;clear hlo;obtain⟨b,o,rfl⟩:=HFM.out.addr hlon;have hpok:=Q2l HC.out;have HP:=Q3 hpok;clear hpok;repeat(first|refine Q4 zM ?_|refine Q4 zA ?_|refine Q4 zF ?_|refine Q4 (zB 2) ?_|refine Q4 (zD 0) ?_|refine Q4 (zD 1) ?_|refine Qd (Q7P rfl rfl rfl rfl) rfl Q1 (fun bf _=>?_)|refine Qd (Z2 (t:=32) rfl rfl) rfl Q1 (fun b2 _=>?_)|(refine Q4 (Qg (f:=89) rfl rfl Q1 rfl rfl (fun w hw=>(Q4M Q82 HS.out hc).mono Qgj)) ?_)|(refine Qr (QS 0 rfl rfl rfl rfl rfl rfl rfl Qn) rfl (fun _ _=>?_);rw[Qq (by rfl)])|refine Q4 (X9 (xs:=[]) (vs:=[]) (v:=.agg #[.int .i64 0,.int .i64 0]) rfl rfl Q1 rfl rfl (fun w=>run_build w _ _ _ Q5)) ?_|refine Q4 (KJ rfl rfl Q1 rfl rfl rfl rfl) ?_|refine Qc ?_|refine Qa ?_|refine Q6 ?_|refine Qp ?_|refine Q7 rfl ?_|refine Qh ?_|refine Q4 zL ?_)
  rename_i b3 _ _ _ _;refine Z0 (ι:=Nat) (fun k=>k<=n/\(Q2J F k).length<=k*1000001) (fun k=>n - k) (fun k=>[(1,.pointer QnZ),(3,.pointer (some ⟨b3,0,none⟩)),(5,.string ⟨(Q2J F k).toArray⟩),(15,.slice (some ⟨b,o,none⟩) n c),(16,.int .i64 (n:Int)),(17,.int .i64 (k:Int))]) (fun _=>[.blk b3 (.cells [.int .i64 0,.int .i64 0].toArray 32 (0,0)),.blk bf (.cells [.slice (some ⟨b,o,none⟩) n c].toArray 24 (0,0))]) 0 [1,2] Q1 ⟨Nat.zero_le _,by unfold Q2J;simp⟩ (.cons rfl rfl (.cons rfl rfl mc1)) rfl ?_;rintro k ⟨hk,htx⟩;by_cases hkn:k<n
  ·obtain⟨rk,Ab,cb,An,cn,Ap,cp,hrk,hrg,hlk⟩:=HFM.out.rl hkn;have HLK:=Q3 hlk;have HLO:=Q3 (HP.out.line hrk);have HST:=Q3 (QeD hrk);have hsm:=Qfh HLO.out (by rw[HLEN.out];exact hlon)
   have hll:(Q2K F rk).length<=1000001:=by unfold Q2K;rw[List.length_append];simp only[List.length_cons,List.length_nil];omega
   clear hrk hlk;repeat(first|refine Q4 zM ?_|refine Q4 zA ?_|refine Q4 (zD 0) ?_|refine Q4 (zD 2) ?_|refine Q4 zE ?_|refine Q4 (QM rfl rfl Q1 rfl rfl rfl hkn) ?_|refine Qd (Z2 (t:=65) rfl rfl) rfl Q1 (fun b7 _=>?_)|(refine Qr (QS 0 rfl rfl rfl rfl rfl rfl rfl Qn) rfl (fun _ _=>?_);rw[Qq (by rfl)])|refine Q4 (Qg (f:=90) rfl rfl Q1 rfl rfl (fun w hw=>(QdS (HFM.out.on hw.k.below) (HLK.out.on hw.k.below) HLO.out hlon (HG.out.on hw.k.below) hsm).mono (fun _ _ h=>h))) ?_|(refine Q4 (Qjq rfl rfl Q1 rfl rfl rfl (by rw[ZH,ZH];omega)) ?_;rw[Q3P,HST.out])|refine Qc ?_|refine Qa ?_|refine Q6 ?_|refine Qp ?_|refine Q8 rfl ?_|refine Qh ?_|refine Q4 (XZ rfl rfl Q1 rfl rfl rfl (by first|exact decide_eq_true Q2|rfl)) ?_|refine Q4 zP ?_)
   refine QT (k+1) [1,2] Q1 ⟨hkn,?_⟩ Q2 (.cons rfl rfl (.cons rfl rfl (.cons rfl rfl (.cons rfl rfl (.cons rfl rfl (.cons rfl (by go_num) .nil)))))) rfl;rw[<- HST.out,List.length_append,Nat.add_mul];omega
  ·have hall:Q2J F k=YP F:=Qim (by rw[HLEN.out];omega);rw[hall] at htx ⊢;have hsz:=ZH (YP F)
   by_cases hbig:2000<(YP F).length
   ·skip
    repeat(first|refine Q4 zM ?_|refine Q4 zA ?_|refine Q4 Qrp ?_|(refine Qr Q2i rfl (fun _ _=>?_);rw[Qq (by rfl)])|refine Qc ?_|refine Qa ?_|refine Q6 ?_|refine Q8 rfl ?_|refine Q7 rfl ?_|refine Xe ?_|refine Qu ?_|refine Qo ?_|refine Q4 Qgb ?_|refine Q4 Qsi ?_|refine Q4 zgt ?_)
    refine Z1 mc4 rfl (.tmp rfl) Qgs (fun w hw=>⟨?_,hw.k.below⟩);have hff:Qz F=(14,-1):=by
     unfold Qz;rw[HC.out,if_neg (fun h=>h rfl),if_pos hbig]
    unfold Q4g;rw[hff,if_neg Q1]
   ·skip
    repeat(first|refine Q4 zM ?_|refine Q4 zA ?_|refine Q4 mc6 ?_|(refine Qr Q2i rfl (fun _ _=>?_);rw[Qq (by rfl)])|refine Qc ?_|refine Qa ?_|refine Q6 ?_|refine Qp ?_|refine Q7 rfl ?_|refine Xe ?_|refine Qu ?_|refine Q4 Qgb ?_|refine Q4 Qsi ?_|refine Q4 zgf ?_)
    refine Z1 mc4 rfl (.tmp rfl) Qgs (fun w hw=>⟨?_,hw.k.below⟩);have hff:Qz F=(0,0):=by
     unfold Qz;rw[HC.out,if_neg (fun h=>h rfl),if_neg hbig]
    unfold Q4g;rw[hff,if_pos rfl]
theorem ZM(hf:X3 W W.heap.size A n F)(hs:FSm F)(hc:n<=c)(hg:GV W):
  Calls Tryz.prog 28 #[.agg #[.slice A n c]] W (Qgo W (Qz F)):=by
 have HFM:=Q3 hf;have HS:=Q3 hs;have HG:=Q3 hg;clear hf hs hg;go_enter Tryz.func28,Tryz.ntmps28;refine Qy (M:=[]) (W:=W) (N:=11) (E:=[V6]) (O:=[]) ?_ J1 Xs;repeat(first|refine Q4 zM ?_|refine Q4 zA ?_|refine Q4 (zD 0) ?_|refine Q4 (zD 1) ?_|refine Qd Yz rfl Q1 (fun bf _=>?_)|refine Qd Q0j rfl Q1 (fun b2 _=>?_)|refine Q4 (Qg (f:=51) rfl rfl Q1 rfl rfl (fun w hw=>(Q4V Q82 HS.out hc Kt).mono (fun _ _ h=>h))) ?_|(refine Qr Q2i rfl (fun _ _=>?_);rw[Qq (by rfl)])|(refine Qr Yf rfl (fun _ _=>?_);rw[Qq (by rfl)])|refine Qc ?_|refine Qa ?_|refine Q6 ?_|refine Qu ?_|refine Q4 zX ?_)
 exact Qb mc4 rfl YW QbQ
def VK(F:List Rl)(k:Int):Int×Int:=if Qz F≠(0,0) then Qz F else if inB k 0 ((F.length:Int) - 1) then (0,0) else (4,-2)
theorem Q2P{k:Int}(hf:X3 W W.heap.size A n F)(hs:FSm F)(hc:n<=c)(hg:GV W):
  Calls Tryz.prog 54 #[.agg #[.slice A n c],.int .i64 k] W (Qgo W (VK F k)):=by
 have hlen:F.length=n:=hf.1;have hsz:n<=1048576:=by rw[<- hlen];exact hs.1
 have HFM:=Q3 hf;have HS:=Q3 hs;have HG:=Q3 hg;have HLEN:=Q3 hlen;clear hf hs hg hlen;obtain⟨⟨a,b⟩,hab⟩:∃p,Qz F=p:=⟨_,rfl⟩;have HC:=Q3 hab;clear hab;go_enter Tryz.func54,Tryz.ntmps54;refine Qy (M:=[]) (W:=W) (N:=21) (E:=[V6,Q3C]) (O:=[]) ?_ mc3 Xs;by_cases hz:a=0/\b=0
 case neg=>
  have hne:(!(a==0&&b==0))=true:=by
   refine Q4r ?_;omega
  repeat(first|refine Q4 (zD 0) ?_|refine Q4 (zD 1) ?_|refine Qd Yz rfl Q1 (fun bf _=>?_)|refine Qd Q0j rfl Q1 (fun b2 _=>?_)|(refine Q4 Qob ?_)|refine Q4 mc6 ?_|refine Q4 Q8E ?_|(refine Qr Q2i rfl (fun _ _=>?_);rw[Qq (by rfl)])|(refine Qr Yf rfl (fun _ _=>?_);rw[Qq (by rfl)])|refine Qc ?_|refine Qa ?_|refine Q6 ?_|refine Q8 rfl ?_|refine Qu ?_|refine Qo ?_)
  refine Qb mc4 rfl YW (fun w hw=>YA ?_ hw);unfold VK;rw[HC.out,if_pos (fun h=>hz (by simpa using h))]
 case pos=>
  obtain⟨rfl,rfl⟩:=hz;obtain⟨u,hu⟩:∃u,inB k 0 ((n:Int) - 1)=u:=⟨_,rfl⟩;have HU:=Q3 hu;clear hu;cases u with
  |true=>
   repeat(first|refine Q4 zM ?_|refine Q4 zF ?_|refine Q4 (zB 2) ?_|refine Q4 (zD 0) ?_|refine Q4 (zD 1) ?_|refine Qd Yz rfl Q1 (fun bf _=>?_)|refine Qd Q0j rfl Q1 (fun b2 _=>?_)|(refine Q4 Qob ?_)|(refine Q4 Qo7 ?_;rw[HU.out])|refine Q4 mc6 ?_|refine Q4 Qc0 ?_|(refine Qr Q2i rfl (fun _ _=>?_);rw[Qq (by rfl)])|(refine Qr Yf rfl (fun _ _=>?_);rw[Qq (by rfl)])|refine Qc ?_|refine Qa ?_|refine Q6 ?_|refine Qp ?_|refine Q7 rfl ?_|refine Qu ?_|refine Q4 zL ?_|refine Q4 zO ?_|refine Q4 zQ ?_)
   refine Qb mc4 rfl YW (fun w hw=>YA ?_ hw);unfold VK;rw[HC.out,if_neg (fun h=>h rfl),HLEN.out,HU.out,if_pos rfl]
  |false=>
   repeat(first|refine Q4 zM ?_|refine Q4 zF ?_|refine Q4 (zB 2) ?_|refine Q4 (zD 0) ?_|refine Q4 (zD 1) ?_|refine Qd Yz rfl Q1 (fun bf _=>?_)|refine Qd Q0j rfl Q1 (fun b2 _=>?_)|(refine Q4 Qob ?_)|(refine Q4 Qo7 ?_;rw[HU.out])|refine Q4 Qrp ?_|refine Q4 mc6 ?_|refine Q4 Qc0 ?_|(refine Qr Q2i rfl (fun _ _=>?_);rw[Qq (by rfl)])|(refine Qr Yf rfl (fun _ _=>?_);rw[Qq (by rfl)])|refine Qc ?_|refine Qa ?_|refine Q6 ?_|refine Qp ?_|refine Q8 rfl ?_|refine Q7 rfl ?_|refine Qu ?_|refine Qo ?_|refine Q4 zL ?_|refine Q4 zO ?_|refine Q4 zQ ?_)
   refine Qb mc4 rfl YW (fun w hw=>YA ?_ hw);unfold VK;rw[HC.out,if_neg (fun h=>h rfl),HLEN.out,HU.out,if_neg Bool.false_ne_true]
end
section
variable {F:List Rl}{c n:Nat}{k:Int}{st:Nat->Bool}
def Jd(st:Nat->Bool)(c:Nat):List Int:=((List.range c).filter st).map fun(j:Nat)=>(j:Int)
theorem Q2C(h:st c=true):Jd st c++[(c:Int)]=Jd st (c+1):=by
 unfold Jd;rw[List.range_succ,List.filter_append,List.map_append,List.filter_cons_of_pos h];rfl
theorem Qgm(h:st c=false):Jd st c=Jd st (c+1):=by
 unfold Jd;rw[List.range_succ,List.filter_append,List.map_append,List.filter_cons_of_neg (by rw[h];exact Bool.false_ne_true),List.filter_nil,List.map_nil,List.append_nil]
theorem Qd8(st:Nat->Bool)(c:Nat):(Jd st c).length<=c:=by
 unfold Jd;rw[List.length_map];exact Nat.le_trans QeM Qn
def Jt(F:List Rl)(k:Int):List Int:=Jd ((Q07 F).getD k.toNat ZL) 256
theorem Qu5{w:World}{B b k:Nat}{S:List (Nat->Bool)}(h:Rd w B 256 (some ⟨b,0,none⟩) n (X5 S))(hS:S.length=n)(hk:k<n):w.rangeAt b (0+k*256) (Xc (S.getD k ZL)):=fun q u hu=>by
 rw[Nat.add_assoc];exact h.cellAt Q2 (Q2g S k Q2 q u hu)
def QsB(W:World)(l:List Int)(p:Int×Int)(e:Ending)(w':World):Prop:=∃A c,e=.returned (.tuple #[.slice A l.length c,.agg #[.int .i64 p.1,.int .i64 p.2]])/\Rd w' w'.heap.size 1 A l.length (iv l)/\l.length<=c/\Below W.heap.size W w'
def ZG(F:List Rl)(k:Int):List Int:=if VK F k=(0,0) then Jt F k else []
theorem Qee(h:VK F k=(0,0)):Qz F=(0,0)/\0<=k/\k<F.length:=by
 unfold VK at h;split at h
 ·next hn=>exact absurd h hn
 ·next hn=>
  split at h
  ·next hi=>
   have:=Xn.1 hi;exact⟨Classical.byContradiction hn,by omega,by omega⟩
  ·cases h
theorem Q3N(h:Qz F=(0,0)):Xr F=(0,0):=by
 unfold Qz at h;split at h
 ·next hn=>exact absurd h hn
 ·next hn=>exact Classical.byContradiction hn
theorem Qds{A:Option Addr}{W:World}(hf:X3 W W.heap.size A n F)(hs:FSm F)(hc:n<=c)(hg:GV W):
  Calls Tryz.prog 23 #[.agg #[.slice A n c],.int .i64 k] W (QsB W (ZG F k) (VK F k)):=by
 have hlen:F.length=n:=hf.1;have HFM:=Q3 hf;have HS:=Q3 hs;have HG:=Q3 hg;have HLEN:=Q3 hlen;clear hf hs hg hlen;obtain⟨⟨a,b⟩,hab⟩:∃p,VK F k=p:=⟨_,rfl⟩;have HC:=Q3 hab;rw[hab];clear hab;go_enter Tryz.func23,Tryz.ntmps23;refine Qy (M:=[]) (W:=W) (N:=34) (E:=[V6,Q3C]) (O:=[]) ?_ mc3 Xs;by_cases hz:a=0/\b=0
 case neg=>
  have hne:(!(a==0&&b==0))=true:=by
   refine Q4r ?_;omega
  repeat(first|refine Q4 zM ?_|refine Q4 zA ?_|refine Q4 (zD 0) ?_|refine Q4 (zD 1) ?_|refine Qd Yz rfl Q1 (fun bf _=>?_)|refine Qd Q0j rfl Q1 (fun b2 _=>?_)|(refine Q4 Q8n ?_)|(refine Qr Q2i rfl (fun _ _=>?_);rw[Qq (by rfl)])|refine Q4 mc6 ?_|refine Q4 Q8E ?_|refine Qc ?_|refine Qa ?_|refine Q6 ?_|refine Q8 rfl ?_)
  refine QlW ?_;refine QB 2 Q5 rfl rfl Yf ZA rfl (fun _ _=>?_);rw[Qq (by rfl)];refine Xi ?_ Q5;refine Qu (Qo ?_);have hff:ZG F k=[]:=by
   unfold ZG;exact QdR
  rw[hff];exact Z1 mc4 rfl (.tmp rfl) YW (fun w hw=>⟨none,0,rfl,⟨rfl,fun h=>absurd h Q1⟩,Nat.le_refl _,hw.k.below⟩)
 case pos=>
  obtain⟨rfl,rfl⟩:=hz;have hff:ZG F k=Jt F k:=by
   unfold ZG;rw[HC.out,if_pos rfl]
  rw[hff];clear hff;obtain⟨hfa,hk0,hkn⟩:=Qee HC.out;have hch:=Q3N hfa;have hlo:=Q6I hch;have hn0:=hlo.1;have hn40:=hlo.2;rw[HLEN.out] at hn0 hn40 hkn;have HF:=Q3 (Q2l hch).fok;clear hlo hch hfa;obtain⟨st,hst⟩:∃st,(Q07 F).getD k.toNat ZL=st:=⟨_,rfl⟩;unfold Jt;rw[hst];have HST:=Q3 hst;clear hst;have hk2:0<=k/\k<(n:Int):=⟨hk0,hkn⟩;repeat(first|refine Q4 zM ?_|refine Q4 zA ?_|refine Q4 (zD 0) ?_|refine Q4 (zD 1) ?_|refine Q4 (zD 2) ?_|refine Qd Yz rfl Q1 (fun bf _=>?_)|refine Qd Q0j rfl Q1 (fun b2 _=>?_)|(refine Q4 Q8n ?_)|(refine Qr Q2i rfl (fun _ _=>?_);rw[Qq (by rfl)])|refine Q4 mc6 ?_|refine Q4 Qc0 ?_|refine Qd Qqq rfl Q1 (fun y _=>?_)|refine Q4 (QF rfl rfl Q1 rfl rfl rfl hk2) ?_|(refine Q4 Qqs ?_)|refine Qc ?_|refine Qa ?_|refine Q6 ?_|refine Qp ?_|refine Q7 rfl ?_|refine Qh ?_)
  rename_i b3 _ _ _ _ _;refine QqL ?_;rintro⟨i,A',c'⟩ hi;have hi':i<=256:=hi;clear hi;have hsl:=Qd8 st i;show sE _ _ _ _ _ QrB Qmv _;by_cases hin:i<256
  ·obtain⟨s,hs⟩:∃s,st i=s:=⟨_,rfl⟩
   have hcell:(Xc st)[i]? =some (.bool s):=by rw[Jc st hin,hs]
   have HSI:=Q3 hs;clear hs;cases s with
   |true=>
    repeat(first|refine Q4 zM ?_|refine Q4 zA ?_|refine Q4 QmT ?_|refine Qd Qod rfl Q1 (fun bn _=>?_)|refine Qd QlH rfl Q1 (fun yz _=>?_)|refine Qc ?_|refine Qa ?_|refine Q6 ?_|refine Qp ?_|refine Q8 rfl ?_|refine Qh ?_|refine Q4 zlt ?_|refine Q4 zP ?_)
    refine QT (i+1,yz.1,yz.2) [1,2] Q1 hin Qha (.cons rfl rfl (.cons rfl ?_ Qar)) ?_
    ·rw[<- Q2C HSI.out,List.length_append]
     rfl
    ·show [Qf.row yz.1 ((Jd st i).length+1) yz.2 _ _ (iv (Jd st i)++iv [(i:Int)]),_]=[Qf.row yz.1 (Jd st (i+1)).length yz.2 _ _ (iv (Jd st (i+1))),_]
     rw[<- Q2C HSI.out,List.length_append,Qau];rfl
   |false=>
    have hno:=Qgm HSI.out;refine QrN ?_
    refine QT (i+1,A',c') [0,1] Q1 hin Qha (.cons rfl rfl (.cons rfl ?_ Qar)) ?_
    ·rw[<- hno]
    ·show [Qf.row A' (Jd st i).length c' _ _ (iv (Jd st i)),_]=[Qf.row A' (Jd st (i+1)).length c' _ _ (iv (Jd st (i+1))),_]
     rw[<- hno];rfl
  ·obtain rfl:i=256:=by omega
   repeat(first|refine Q4 zM ?_|refine Q4 zA ?_|refine Q4 mc6 ?_|(refine Qr Yf rfl (fun _ _=>?_);rw[Qq (by rfl)])|refine Qc ?_|refine Qa ?_|refine Q6 ?_|refine Q7 rfl ?_|refine Xe ?_|refine Qu ?_|refine Q4 zlf ?_)
   exact Z1 mc4 rfl (.tmp rfl) YW (fun w hw=>⟨A',c',rfl,(row_rd Kk Q1).1,(row_rd Kk Q1).2,hw.k.below⟩)
end
section
variable {B n:Nat}{F:List Rl}{k:Int}{w:World}
theorem X3.below{w w':World}{B:Nat}{A:Option Addr}{n:Nat}{F:List Rl}(h:X3 w B A n F)(hb:Below B w w'):X3 w' B A n F:=
 ⟨h.1,fun h0=>by
  obtain⟨b,o,e,hB,hc⟩:=h.2 h0;refine⟨b,o,e,hB,fun i r hr=>?_⟩;obtain⟨sb,sn,sp,h1,h2⟩:=hc i r hr
  exact⟨sb,sn,sp,h1.below hb hB,h2.below hb⟩⟩
theorem X3.more{w:World}{B B':Nat}{A:Option Addr}{n:Nat}{F:List Rl}(h:X3 w B A n F)(hB:B<=B'):X3 w B' A n F:=
 ⟨h.1,fun h0=>by
  obtain⟨b,o,e,hb,hc⟩:=h.2 h0;refine⟨b,o,e,by omega,fun i r hr=>?_⟩;obtain⟨sb,sn,sp,h1,h2⟩:=hc i r hr
  exact⟨sb,sn,sp,h1,h2.more hB⟩⟩
structure RuB(W:World)(B:Nat)(r:Rl)(Ab:Option Addr)(cb:Nat)(An:Option Addr)(cn:Nat)(Ap:Option Addr)(cp:Nat):Prop where
 cb:r.bs.length<=cb
 cn:r.names.length<=cn
 cp:r.parts.length<=cp
 b:Rd W B 1 Ab r.bs.length (bv r.bs)
 n:Rd W B 1 An r.names.length (sv r.names)
 p:Rd W B 1 Ap r.parts.length (iv r.parts)
theorem RuB.below{w w':World}{B:Nat}{r:Rl}{Ab An Ap:Option Addr}{cb cn cp:Nat}(h:RuB w B r Ab cb An cn Ap cp)(hb:Below B w w'):RuB w' B r Ab cb An cn Ap cp:=⟨h.cb,h.cn,h.cp,h.b.below hb,h.n.below hb,h.p.below hb⟩
theorem KM.listsB{r:Rl}{sb sn sp:Value}(h:KM w B r sb sn sp):∃Ab cb An cn Ap cp,sb=.slice Ab r.bs.length cb/\sn=.slice An r.names.length cn/\sp=.slice Ap r.parts.length cp/\RuB w B r Ab cb An cn Ap cp:=by
 obtain⟨Ab,nb,cb,An,nn,cn,Ap,np,cp,rfl,rfl,rfl,h1,h2,h3,h4,h5,h6⟩:=h;have e1:r.bs.length=nb:=by have:=h4.len;rw[XD] at this;exact this
 have e2:r.names.length=nn:=by have:=h5.len;unfold sv at this;rw[List.length_map] at this;exact this
 have e3:r.parts.length=np:=by have:=h6.len;rw[K2] at this;exact this
 subst e1 e2 e3;exact Qor
theorem X3.ruleB{W:World}{b o:Nat}(h:X3 W B (some ⟨b,o,none⟩) n F)(hk:0<=k/\k<n):b<B/\∃Ab cb An cn Ap cp,W.rangeAt b (o+k.toNat*12) (ruC (Qj F k) (.slice Ab (Qj F k).bs.length cb) (.slice An (Qj F k).names.length cn) (.slice Ap (Qj F k).parts.length cp))/\RuB W B (Qj F k) Ab cb An cn Ap cp:=by
 obtain⟨b',o',r,sb,sn,sp,e,hb,hr,hc,hs⟩:=h.at_ (i:=k.toNat) Q2;cases e;rw[Q9V hr];obtain⟨Ab,cb,An,cn,Ap,cp,rfl,rfl,rfl,hl⟩:=hs.listsB;exact⟨hb,Ab,cb,An,cn,Ap,cp,hc.range,hl⟩
def QbA(w:World)(B:Nat)(F:List Rl)(A:Option Addr)(n:Nat):Prop:=∃b o,A=some ⟨b,o,none⟩/\b<B/\∀k,k<n->∃Ak ck,w.cell? ⟨b,o+k,none⟩=some (.slice Ak (Jt F k).length ck)/\Rd w B 1 Ak (Jt F k).length (iv (Jt F k))/\(Jt F k).length<=ck
theorem QbA.below{w w':World}{B n:Nat}{F:List Rl}{A:Option Addr}(h:QbA w B F A n)(hb:Below B w w'):QbA w' B F A n:=by
 obtain⟨b,o,e,hB,hc⟩:=h;refine⟨b,o,e,hB,fun k hk=>?_⟩;obtain⟨Ak,ck,h1,h2,h3⟩:=hc k hk;exact⟨Ak,ck,(hb.cell Kl).trans h1,h2.below hb,h3⟩
theorem QbA.more{w:World}{B B' n:Nat}{F:List Rl}{A:Option Addr}(h:QbA w B F A n)(hB:B<=B'):QbA w B' F A n:=by
 obtain⟨b,o,e,hb,hc⟩:=h;refine⟨b,o,e,by omega,fun k hk=>?_⟩;obtain⟨Ak,ck,h1,h2,h3⟩:=hc k hk;exact⟨Ak,ck,h1,h2.more hB,h3⟩
theorem Qca{c:UInt8}:Z9 (Jt F k) (c.toNat:Int)=fir F k c:=by
 unfold Z9 fir Jt Jd;rw[Bool.eq_iff_iff,List.contains_iff_mem,List.mem_map];constructor
 ·rintro⟨j,hj,e⟩
  rw[List.mem_filter] at hj;have:j=c.toNat:=by omega
  rw[<- this];exact hj.2
 ·intro h;exact⟨c.toNat,List.mem_filter.2 ⟨List.mem_range.2 c.toNat_lt,h⟩,rfl⟩
structure Q2T(w:World)(B:Nat)(F:List Rl)(D:List UInt8)(Af As Ad:Option Addr)(n nd:Nat):Prop where
 fm:X3 w B Af n F
 fr:QbA w B F As n
 dt:Rd w B 1 Ad nd (bv D)
theorem Q2T.below{w w':World}{B n nd:Nat}{F:List Rl}{D:List UInt8}{Af As Ad:Option Addr}(h:Q2T w B F D Af As Ad n nd)(hb:Below B w w'):Q2T w' B F D Af As Ad n nd:=⟨h.fm.below hb,h.fr.below hb,h.dt.below hb⟩
theorem Q2T.keep{w':World}{g nd:Nat}{D:List UInt8}{Af As Ad:Option Addr}(h:Q2T w B F D Af As Ad n nd)(hB:B<=g)(hg:g<w.heap.size)(hk:XP [g] w w'):Q2T w' B F D Af As Ad n nd:=
 h.below ⟨hk.os,hk.tape,hk.output,hk.size,fun k hk'=>hk.block k Q2 Qdo⟩
theorem Q2T.len{w:World}{B n nd:Nat}{F:List Rl}{D:List UInt8}{Af As Ad:Option Addr}(h:Q2T w B F D Af As Ad n nd):D.length=nd/\F.length=n:=⟨by have:=h.dt.len;rw[XD] at this;exact this,h.fm.1⟩
end
section
variable {a b m r:Int}{t t':TypeId}{x y:Operand}
theorem Qdg(a b:Nat)(ha:a<4611686018427387904)(hb:b<4611686018427387904):bits .or .i64 (a:Int) (b:Int)=((a|||b:Nat):Int):=by
 have hx:a|||b<2 ^ 62:=Nat.or_lt_two_pow Q2 Q2;have h1:(BitVec.ofInt 64 (a:Int)).toNat=a:=by
  rw[BitVec.ofInt_natCast,BitVec.toNat_ofNat];exact Q9O
 have h2:(BitVec.ofInt 64 (b:Int)).toNat=b:=by
  rw[BitVec.ofInt_natCast,BitVec.toNat_ofNat];exact Q9O
 show IntKind.i64.wrap ((BitVec.ofInt 64 (a:Int)|||BitVec.ofInt 64 (b:Int)).toNat:Int)=_;rw[BitVec.toNat_or,h1,h2];exact Q1T
theorem Qnr(i:Nat)(hi:i<=60)(ha:a=2 ^ i*m)(hm:0<=m)(hb:0<=b/\b<2 ^ i)(h:a<4611686018427387904):bits .or .i64 a b=a+b:=by
 obtain⟨k,rfl⟩:∃k:Nat,m=(k:Int):=⟨m.toNat,by omega⟩;obtain⟨c,rfl⟩:∃c:Nat,b=(c:Int):=⟨b.toNat,by omega⟩;have hc:c<2 ^ i:=by have:=hb.2;exact_mod_cast this
 have e:a=((2 ^ i*k:Nat):Int):=by rw[ha];push_cast;rfl
 have hp:(2:Nat) ^ i<=2 ^ 60:=Nat.pow_le_pow_right Q2 hi;rw[e] at h ⊢;rw[Qdg _ _ Q2 Q2,<- Nat.two_pow_add_eq_or_of_lt hc];push_cast;rfl
theorem Qqa(i:Nat)(hi:i<=60)(hb:b=2 ^ i*m)(hm:0<=m)(ha:0<=a/\a<2 ^ i)(h:b<4611686018427387904):bits .or .i64 a b=a+b:=by
 have:=Qnr i hi hb hm ha h;have e:bits .or .i64 a b=bits .or .i64 b a:=by
  unfold bits;simp only;rw[BitVec.or_comm]
 rw[e,this,Int.add_comm]
section
variable {P:Program}{ops:Array Oper}{C:World->Prop}{N:Nat}{E:Env}{o:Oper}{d:Nat}
theorem Qra{k:IntKind}{n:Int}(ho:o.op=.binOp .shl t x y t')(hd:o.dst=some d)(hN:d<N)(hw:Qm ops E o=some true)(hx:ev E x=some (.int .i64 m))(hy:ev E y=some (.int k n))(h0:0<=n/\n<=64)(hr:m*2 ^ n.toNat=r)(hb:-9223372036854775808<=r/\r<=9223372036854775807):oE P ops C N E ((d,.int .i64 r)::E) o:=
 Km ho hd hN hw hx hy fun w=>by
  rw[binOp_shl,shift_shl_i64 (h₀:=h0.1) (h₁:=h0.2),hr,IntWalk.i64_in _ hb];rfl
theorem Qvw(ho:o.op=.binOp .or t x y t')(hd:o.dst=some d)(hN:d<N)(hw:Qm ops E o=some true)(hx:ev E x=some (.int .i64 a))(hy:ev E y=some (.int .i64 b))(hr:bits .or .i64 a b=r):oE P ops C N E ((d,.int .i64 r)::E) o:=
 Km ho hd hN hw hx hy fun w=>by
  rw[binOp_or,intBits_or,hr];rfl
end
end
section
variable {c:UInt8}{l:List UInt8}
theorem Qc9(c:UInt8):∀l:List UInt8,leN (l++[c])=leN l+(c.toNat:Int)*256 ^ l.length
 |[]=>by simp [leN]
 |x::l=>by
  show (x.toNat:Int)+256*leN (l++[c])=(x.toNat:Int)+256*leN l+(c.toNat:Int)*256 ^ (l.length+1)
  rw[Qc9 c l,Int.pow_succ,Int.mul_add,<- Int.mul_assoc,<- Int.mul_assoc,Int.mul_comm 256 (c.toNat:Int),Int.mul_assoc,Int.mul_comm 256 (256 ^ l.length),Int.mul_assoc]
  omega
theorem Qe0(l:List UInt8)(c:UInt8):QU true (l++[c])=QU true l*256+(c.toNat:Int):=by
 unfold QU;rw[if_pos rfl,if_pos rfl,List.reverse_append];show (c.toNat:Int)+256*leN l.reverse=_;omega
theorem Q7A(l:List UInt8)(c:UInt8):QU false (l++[c])=QU false l+(c.toNat:Int)*256 ^ l.length:=by
 unfold QU;exact Qc9 c l
theorem Q88(b:Bool)(l:List UInt8):QU b l<256 ^ l.length:=by
 unfold QU;split
 ·have:=QfS l.reverse;rwa [List.length_reverse] at this
 ·exact QfS l
theorem Qei(i:Nat):(256:Int) ^ i=2 ^ (8*i):=by rw[Int.pow_mul];rfl
theorem QnD(h:l.length<4):QU true l*2 ^ (8:Int).toNat=QU true l*256/\bits .or .i64 (QU true l*256) (c.toNat:Int)=QU true (l++[c])/\0<=QU true l*256/\QU true l*256<4294967296:=by
 have h0:=Q3K true l;have h1:=Q88 true l;have hc:=c.toNat_lt;have h2:QU true l<16777216:=by
  rcases (show l.length=0\/l.length=1\/l.length=2\/l.length=3 by omega) with e|e|e|e<;>rw[e] at h1<;>simp at h1<;>omega
 refine⟨rfl,?_,by omega,by omega⟩;rw[Qe0];exact Qnr 8 Q2 (m:=QU true l) Q2 h0 ⟨by omega,by simp;omega⟩ Q2
theorem Qdf(h:l.length<4):(c.toNat:Int)*2 ^ (8*(l.length:Int)).toNat=(c.toNat:Int)*256 ^ l.length/\bits .or .i64 (QU false l) ((c.toNat:Int)*256 ^ l.length)=QU false (l++[c])/\0<=(c.toNat:Int)*256 ^ l.length/\(c.toNat:Int)*256 ^ l.length<4294967296:=by
 have h0:=Q3K false l;have h1:=Q88 false l;have hc:=c.toNat_lt;have e8:(8*(l.length:Int)).toNat=8*l.length:=by omega
 have hb:0<=(c.toNat:Int)*256 ^ l.length/\(c.toNat:Int)*256 ^ l.length<4294967296:=by
  rcases (show l.length=0\/l.length=1\/l.length=2\/l.length=3 by omega) with e|e|e|e<;>rw[e]<;>simp<;>omega
 refine⟨by rw[e8,Qei],?_,hb⟩;rw[Q7A];refine Qqa (8*l.length) Q2 (m:=(c.toNat:Int)) (by rw[Qei,Int.mul_comm]) Q2 ⟨h0,by rw[<- Qei];exact h1⟩ Q2
end
section
variable {c:UInt8}{e:Nat}{y:Nd×VF×Nat}
section
variable {F:List Rl}{D:List UInt8}{f p:Nat}{k:Int}
theorem Qqe(h:(Qj F k).kind=1):QA F D (f+1) k p=rb (Q0e (Qj F k).bs (D.drop p) p) fun q=>okR (ndL,.nil,q):=by
 rw[QA];rw[if_pos h]
theorem QmP(h:(Qj F k).kind=2\/(Qj F k).kind=3):QA F D (f+1) k p=rb (Yo (Qj F k) D p) fun y=>okR (ndN y.1,.nil,y.2):=by
 rw[QA];rw[if_neg Q2,if_pos h]
theorem QoW(h:(Qj F k).kind=4):QA F D (f+1) k p=rb (VZ D p (Qj F k).size) fun y=>okR (ndB y.1,.nil,y.2):=by
 rw[QA];rw[if_neg Q2,if_neg Q2,if_pos h]
theorem Qnw(h:(Qj F k).kind=10):QA F D (f+1) k p=rb (Yo (Qj F (Qj F k).count) D p) fun x=>rb (VZ D x.2 x.1) fun y=>okR (ndB y.1,.nil,y.2):=by
 rw[QA];exact Qs7
theorem QpO(h:(Qj F k).kind=5):QA F D (f+1) k p=rb (Ks (Qj F k).stop (Qj F k).size (D.drop p) 0 p) fun q=>okR (ndB ((D.drop p).take (q - p)),.nil,q+1):=by
 rw[QA];exact Qme
theorem Qpc(h:(Qj F k).kind=6):QA F D (f+1) k p=rb (Yo (Qj F (Qj F k).count) D p) fun x=>rb (Jz (QA F D f (Qj F k).elem) x.1.toNat x.2) fun z=>okR (ndL,z.1,z.2):=by
 rw[QA];exact Qn6
theorem QpM(h:(Qj F k).kind=9):QA F D (f+1) k p=rb (V9 (QA F D f (Qj F k).elem) D (Qj F k).stop (D.length+1) p) fun z=>okR (ndL,z.1,z.2):=by
 rw[QA];exact Qkf
theorem QmI(h:(Qj F k).kind=8)(hc:D[p]? =none):QA F D (f+1) k p=erR p:=by
 rw[QA];rw[if_neg Q2,if_neg Q2,if_neg Q2,if_neg Q2,if_neg Q2,if_neg Q2,if_neg Q2,if_pos h,hc]
theorem Qkd(h:(Qj F k).kind=8)(hc:D[p]? =some c)(hi:JP F (Qj F k).parts c=none):QA F D (f+1) k p=erR p:=by
 exact QqG
theorem Qqi{i:Nat}(h:(Qj F k).kind=8)(hc:D[p]? =some c)(hi:JP F (Qj F k).parts c=some i):QA F D (f+1) k p=rb (QA F D f ((Qj F k).parts.getD i 0) p) fun y=>okR (ndL,.cons (ndN (i:Int)) .nil (.cons y.1 y.2.1 .nil),y.2.2):=by
 exact QqG
theorem Qpg(h:(Qj F k).kind=7):QA F D (f+1) k p=rb (JK (QA F D f) (Qj F k).names (Qj F k).parts p) fun z=>okR (ndR z.1,z.2.1,z.2.2):=by
 rw[QA];exact Qw1
def VF.cat:VF->VF->VF
 |.nil,G=>G
 |.cons d p r,G=>.cons d p (VF.cat r G)
theorem VF.cat_nil:∀A:VF,A.cat .nil=A
 |.nil=>rfl
 |.cons d p r=>by show VF.cons d p (r.cat .nil)=_;rw[VF.cat_nil r]
theorem VF.snoc_cat(d:Nd)(p:VF):∀A B:VF,(A.snoc d p).cat B=A.cat (.cons d p B)
 |.nil,B=>rfl
 |.cons d' p' r,B=>by show VF.cons d' p' ((r.snoc d p).cat B)=VF.cons d' p' (r.cat (.cons d p B));rw[VF.snoc_cat d p r B]
end
section
variable {α β γ:Type}
theorem Q32(x:Rdg α)(g:α->Rdg β)(h:β->Rdg γ):rb (rb x g) h=rb x fun a=>rb (g a) h:=by
 cases x with
 |none=>rfl
 |some x=>cases x<;>rfl
theorem Q1Z(a:α)(g:α->Rdg β):rb (okR a) g=g a:=rfl
end
section
variable {one:Nat->Rdg (Nd×VF×Nat)}{D:List UInt8}{A:VF}{n f p:Nat}{stop:Int}
def Vg(one:Nat->Rdg (Nd×VF×Nat))(A:VF)(n p:Nat):Rdg (VF×Nat):=rb (Jz one n p) fun z=>okR (A.cat z.1,z.2)
theorem Qat:Vg one .nil n p=Jz one n p:=by
 unfold Vg;cases Jz one n p with
 |none=>rfl
 |some y=>cases y<;>rfl
theorem QfG:Vg one A 0 p=okR (A,p):=by
 unfold Vg Jz;rw[Q1Z,VF.cat_nil]
theorem QiC(h:one p=some (.error e)):Vg one A (n+1) p=some (.error e):=by
 unfold Vg Jz;rw[h];rfl
theorem QiE(h:one p=some (.ok y)):Vg one A (n+1) p=Vg one (A.snoc y.1 y.2.1) n y.2.2:=by
 unfold Vg;rw[Jz,Q4K h,Q32];congr 1;funext z;rw[Q1Z,VF.snoc_cat]
def Ym(one:Nat->Rdg (Nd×VF×Nat))(D:List UInt8)(stop:Int)(A:VF)(f p:Nat):Rdg (VF×Nat):=rb (V9 one D stop f p) fun z=>okR (A.cat z.1,z.2)
theorem Qdz:Ym one D stop .nil f p=V9 one D stop f p:=by
 unfold Ym;cases V9 one D stop f p with
 |none=>rfl
 |some y=>cases y<;>rfl
theorem Qjd(h:D[p]? =none):Ym one D stop A (f+1) p=some (.error p):=by
 unfold Ym;rw[V9,h];rfl
theorem Qi9(h:D[p]? =some c)(hs:(c.toNat:Int)=stop):Ym one D stop A (f+1) p=okR (A,p+1):=by
 unfold Ym;rw[V9,h];simp only;rw[if_pos hs,Q1Z,VF.cat_nil]
theorem QkQ(h:D[p]? =some c)(hs:¬(c.toNat:Int)=stop)(h1:one p=some (.error e)):Ym one D stop A (f+1) p=some (.error e):=by
 unfold Ym;rw[V9,h];simp only;rw[if_neg hs,h1];rfl
theorem Qm7(h:D[p]? =some c)(hs:¬(c.toNat:Int)=stop)(h1:one p=some (.ok y)):Ym one D stop A (f+1) p=Ym one D stop (A.snoc y.1 y.2.1) f y.2.2:=by
 unfold Ym;rw[V9,h];simp only;rw[if_neg hs,Q4K h1,Q32];congr 1;funext z;rw[Q1Z,VF.snoc_cat]
def VC(one:Int->Nat->Rdg (Nd×VF×Nat))(N:List (List UInt8))(A:VF)(ns:List (List UInt8))(ks:List Int)(p:Nat):Rdg (List (List UInt8)×VF×Nat):=rb (JK one ns ks p) fun z=>okR (N++z.1,A.cat z.2.1,z.2.2)
section
variable {one:Int->Nat->Rdg (Nd×VF×Nat)}{N ns:List (List UInt8)}{ks:List Int}{nm:List UInt8}{k:Int}
theorem Qci:VC one [] .nil ns ks p=JK one ns ks p:=by
 unfold VC;cases JK one ns ks p with
 |none=>rfl
 |some y=>cases y<;>rfl
theorem Qj0:VC one N A ns [] p=okR (N,A,p):=by
 unfold VC;have e:JK one ns [] p=okR ([],.nil,p):=by cases ns<;>rfl
 rw[e,Q1Z,VF.cat_nil,List.append_nil]
theorem Qn4(h:one k p=some (.error e)):VC one N A (nm::ns) (k::ks) p=some (.error e):=by
 unfold VC;rw[JK,h];rfl
theorem Qky(hn:nm=[])(h:one k p=some (.ok y)):VC one N A (nm::ns) (k::ks) p=VC one N A ns ks y.2.2:=by
 unfold VC;rw[JK,Q4K h,Q32];congr 1;funext z;rw[if_pos hn,Q1Z]
theorem Qit(hn:nm≠[])(h:one k p=some (.ok y)):VC one N A (nm::ns) (k::ks) p=VC one (N++[nm]) (A.snoc y.1 y.2.1) ns ks y.2.2:=by
 unfold VC;rw[JK,Q4K h,Q32];congr 1;funext z;rw[if_neg hn,Q1Z,VF.snoc_cat,List.append_assoc];rfl
end
end
end
section
variable {B g p:Nat}{D:List UInt8}{F:List Rl}{W:World}
def V5(c x:Int):List PanicEntry:=[{ v:=.iface 32 (.agg #[.int .i64 c,.int .i64 x]),recovered:=false }]
structure Rv where
 Af:Option Addr
 As:Option Addr
 Ad:Option Addr
 n:Nat
 nd:Nat
 cf:Nat
 cs:Nat
 cd:Nat
def Rv.cells(z:Rv)(p:Nat):List Value:=[.slice z.Af z.n z.cf,.slice z.As z.n z.cs,.slice z.Ad z.nd z.cd,.int .i64 (p:Int)]
abbrev Rv.obj(z:Rv)(p:Nat):Obj:=.cells (z.cells p).toArray 60 (0,0)
structure Jj(W:World)(z:Rv)(B g:Nat)(F:List Rl)(D:List UInt8)(p:Nat):Prop where
 env:Q2T W B F D z.Af z.As z.Ad z.n z.nd
 hB:B<=g
 cur:W.heap[g]? =some (z.obj p)
 hn:z.n<=z.cf
 hnd:z.nd<=z.cd
 hcd:z.cd<=maxLen
 hp:p<=D.length
 hD:D.length<=1048576
theorem Jj.lt{z:Rv}(h:Jj W z B g F D p):g<W.heap.size:=(Array.getElem?_eq_some_iff.1 h.cur).1
theorem Jj.next{w:World}{z:Rv}{q:Nat}(h:Jj W z B g F D p)(hk:XP [g] W w)(hq:q<=D.length)(hc:w.heap[g]? =some (z.obj q)):Jj w z B g F D q:=
 ⟨h.env.keep h.hB h.lt hk,h.hB,hc,h.hn,h.hnd,h.hcd,hq,h.hD⟩
theorem Jj.len{W:World}{z:Rv}{B g p:Nat}{F:List Rl}{D:List UInt8}(h:Jj W z B g F D p):D.length=z.nd/\F.length=z.n:=h.env.len
theorem Jj.wd{z:Rv}(h:Jj W z B g F D p):Wd [g] W [.blk g (z.obj p)] W:=Wd.startB h.cur
theorem Jj.byte{z:Rv}{i:Nat}{c:UInt8}(h:Jj W z B g F D p)(hc:D[i]? =some c):∃b o,z.Ad=some ⟨b,o,none⟩/\b<B/\W.cell? ⟨b,o+i,none⟩=some (.int .u8 (c.toNat:Int)):=by
 have hi:i<D.length:=(List.getElem?_eq_some_iff.1 hc).1;have hl:=h.len.1;obtain⟨b,o,e,hb,hcc⟩:=h.env.dt.2 Q2;refine⟨b,o,e,hb,hcc i _ ?_⟩;unfold bv;rw[List.getElem?_map,hc];rfl
def NmE(z:Rv)(g:Nat)(W:World)(res:Rdg (Int×Nat))(e:Ending)(w':World):Prop:=XP [g] W w'/\((∃x:Nat,res=some (.error x)/\e=.panicked (V5 1 x))\/∃n q,res=some (.ok (n,q))/\e=.returned (.int .i64 n)/\w'.heap[g]? =some (z.obj q))
def ByE(z:Rv)(B g:Nat)(W:World)(res:Rdg (List UInt8×Nat))(e:Ending)(w':World):Prop:=XP [g] W w'/\((∃x:Nat,res=some (.error x)/\e=.panicked (V5 1 x))\/∃l q A c,res=some (.ok (l,q))/\e=.returned (.slice A l.length c)/\w'.heap[g]? =some (z.obj q)/\Rd w' B 1 A l.length (bv l)/\l.length<=c)
def VlE(z:Rv)(g:Nat)(W:World)(res:Rdg (Nd×VF×Nat))(e:Ending)(w':World):Prop:=XP [g] W w'/\((∃x:Nat,res=some (.error x)/\e=.panicked (V5 1 x))\/∃d l q v L,res=some (.ok (d,l,q))/\e=.returned v/\w'.heap[g]? =some (z.obj q)/\XO L v d l/\New L W.heap.size w')
end
abbrev Wtg:Type:=Except Nat (List UInt8×Nat)
def apW(b:List UInt8):Wtg->Wtg
 |.error e=>.error e
 |.ok (b',m)=>.ok (b++b',m)
def bnW(x:Wtg)(f:Nat->Wtg):Wtg:=match x with|.error e=>.error e|.ok (b,m)=>apW b (f m)
theorem Vq(x:Wtg):apW [] x=x:=by rcases x with e|⟨b,m⟩<;>rfl
theorem Q2V(a b:List UInt8)(x:Wtg):apW a (apW b x)=apW (a++b) x:=by
 rcases x with e|⟨c,m⟩
 ·rfl
 ·show Except.ok (a++(b++c),m)=Except.ok (a++b++c,m)
  rw[List.append_assoc]
theorem QpE(a:List UInt8)(x:Wtg)(f:Nat->Wtg):apW a (bnW x f)=bnW (apW a x) f:=by
 rcases x with e|⟨c,m⟩
 ·rfl
 ·exact Q2V _ _ _
theorem Qpw(x:Wtg)(f g:Nat->Wtg):bnW (bnW x f) g=bnW x fun m=>bnW (f m) g:=by
 rcases x with e|⟨c,m⟩
 ·rfl
 ·show bnW (apW c (f m)) g=apW c (bnW (f m) g)
  rw[QpE]
theorem Qnj(b:List UInt8)(m:Nat)(f:Nat->Wtg):bnW (.ok (b,m)) f=apW b (f m):=rfl
def QD(F:List Rl)(k:Int)(d:Nd)(p:VF)(n:Nat):Wtg:=
 if XB F (Qj F k) d p=true then apW (J0 F (Qj F k) d p) (XR F p (VQ F (Qj F k) p) (Q1E F (Qj F k)) (n+1)) else .error n
def Q1b(F:List Rl)(k:Int):VF->Nat->Wtg
 |.nil,n=>.ok ([],n)
 |.cons d p r,n=>bnW (QD F k d p n) fun m=>Q1b F k r m
def Q1a(F:List Rl):List (List UInt8)->List Int->VF->Nat->Wtg
 |nm::nms,k::ks,l,n=>if nm=[] then apW (Qj F k).bs (Q1a F nms ks l n) else match l with
  |.cons d p r=>bnW (QD F k d p n) fun m=>Q1a F nms ks r m
  |.nil=>.ok ([],n)
 |_,_,_,n=>.ok ([],n)
theorem Q4m(F:List Rl)(nm:List UInt8)(nms:List (List UInt8))(k:Int)(ks:List Int)(l:VF)(n:Nat):Q1a F (nm::nms) (k::ks) l n=if nm=[] then apW (Qj F k).bs (Q1a F nms ks l n) else match l with
  |.cons d p r=>bnW (QD F k d p n) fun m=>Q1a F nms ks r m
  |.nil=>.ok ([],n):=by
 cases l<;>rfl
section
variable {F:List Rl}{suf b b' pre:List UInt8}{ps:List (List UInt8×Option Int)}{d:Nd}{p r:VF}{k:Int}{n:Nat}
theorem Q0c:XR F (.cons d p r) ((pre,some k)::ps) suf n=apW pre (bnW (QD F k d p n) fun m=>XR F r ps suf m):=by
 rw[XR];unfold QD;split
 ·generalize XR F p (VQ F (Qj F k) p) (Q1E F (Qj F k)) (n+1)=x
  rcases x with e|⟨b,m⟩
  ·rfl
  ·show (match XR F r ps suf m with|.error e=>.error e|.ok (b',m')=>.ok (pre++(J0 F (Qj F k) d p++b)++b',m'))=apW pre (apW (J0 F (Qj F k) d p++b) (XR F r ps suf m))
   generalize XR F r ps suf m=y;rcases y with e|⟨b',m'⟩
   ·rfl
   ·simp [apW]
 ·rfl
theorem KQ:XR F (.cons d p .nil) [([],some k)] [] n=QD F k d p n:=by
 rw[Q0c,Vq];generalize QD F k d p n=x;rcases x with e|⟨b,m⟩
 ·rfl
 ·show apW b (XR F .nil [] [] m)=_
  simp [XR,apW]
theorem Q1X(suf:List UInt8):∀(l:VF) (n:Nat),XR F l (List.replicate l.len ([],some k)) suf n=bnW (Q1b F k l n) fun m=>.ok (suf,m)
 |.nil,n=>by
  show XR F .nil _ suf n=apW [] (.ok (suf,n))
  rw[Vq]
  simp [XR]
 |.cons d p r,n=>by
  show XR F (.cons d p r) (([],some k)::List.replicate r.len ([],some k)) suf n=bnW (bnW (QD F k d p n) fun m=>Q1b F k r m) _
  rw[Q0c,Vq,Qpw]
  congr 1
  funext m
  exact Q1X suf r m
theorem QpQ(x:Wtg):(bnW x fun m=>.ok ([],m))=x:=by
 rcases x with e|⟨b,m⟩
 ·rfl
 ·show Except.ok (b++[],m)=_
  rw[List.append_nil]
theorem Q2j:∀(ns:List (List UInt8)) (ks:List Int) (l:VF) (n:Nat) (acc:List UInt8),ns.length=ks.length->l.len=(QE ns).length->XR F l (Q7c F ns ks acc).1 (Q7c F ns ks acc).2 n=apW acc (Q1a F ns ks l n)
 |[],[],l,n,acc,_,hl=>by
  have:l=.nil:=by cases l with|nil=>rfl|cons d p r=>simp [VF.len,QE] at hl
  subst this;simp [Q7c,Q1a,XR,apW]
 |nm::ns,k::ks,l,n,acc,h1,h2=>by
  have h1':ns.length=ks.length:=by simpa using h1
  rw[Q7c,Q4m];by_cases hn:nm=[]
  ·rw[if_pos hn,if_pos hn,Q2V];refine Q2j ns ks l n _ h1' ?_;rw[h2,hn]
   rfl
  ·rw[if_neg hn,if_neg hn]
   have e:QE (nm::ns)=nm::QE ns:=by unfold QE;rw[List.filter_cons_of_pos (by simpa using hn)]
   rw[e] at h2;cases l with
   |nil=>simp [VF.len] at h2
   |cons d p r=>
    simp only;rw[Q0c];congr 1;congr 1;funext m;have:=Q2j ns ks r m [] h1' (by simpa [VF.len] using h2);rw[Vq] at this;exact this
def X0:VF->Nat
 |.nil=>0
 |.cons d p r=>300+d.bs.length+X0 p+X0 r
abbrev QK(d:Nd)(p:VF):Nat:=300+d.bs.length+X0 p
theorem QeH(h:XB F (Qj F k) d p=false):QD F k d p n=.error n:=by unfold QD;rw[h];rfl
theorem Qbi(h:XB F (Qj F k) d p=true)(hi:VQ F (Qj F k) p=[])(ht:Q1E F (Qj F k)=[]):QD F k d p n=.ok (J0 F (Qj F k) d p,n+1):=by
 unfold QD;rw[if_pos h,hi,ht];cases p<;>simp [XR,apW]
theorem Qju(h:XB F (Qj F k) d p=true)(hk:(Qj F k).kind=6):QD F k d p n=apW (Ku (Qj F (Qj F k).count) (p.len:Int)) (Q1b F (Qj F k).elem p (n+1)):=by
 unfold QD;rw[if_pos h,Q5B (.inl hk),Q3I Q2 Q2,Q1X,QpQ];unfold J0;rw[if_neg Q2,if_neg Q2,if_neg Q2,if_neg Q2,if_neg Q2,if_pos hk]
theorem QoL(h:XB F (Qj F k) d p=true)(hk:(Qj F k).kind=9):QD F k d p n=bnW (Q1b F (Qj F k).elem p (n+1)) fun m=>.ok ([YD (Qj F k)],m):=by
 unfold QD;rw[if_pos h,Q5B (.inr hk),Q1X];unfold J0 Q1E;rw[if_neg Q2,if_neg Q2,if_neg Q2,if_neg Q2,if_neg Q2,if_neg Q2,if_pos hk,Vq]
theorem Qoa{d1 d2:Nd}{p1 p2:VF}(h:XB F (Qj F k) d (.cons d1 p1 (.cons d2 p2 .nil))=true)(hk:(Qj F k).kind=8):QD F k d (.cons d1 p1 (.cons d2 p2 .nil)) n=QD F ((Qj F k).parts.getD d1.n.toNat 0) d2 p2 (n+2):=by
 have e1:VQ F (Qj F k) (.cons d1 p1 (.cons d2 p2 .nil))=[([],none),([],some ((Qj F k).parts.getD d1.n.toNat 0))]:=by
  unfold VQ;rw[if_neg Q2,if_pos hk];rfl
 have e2:J0 F (Qj F k) d (.cons d1 p1 (.cons d2 p2 .nil))=[]:=by
  exact Qs6
 unfold QD;rw[if_pos h,e1,e2,Q3I Q2 Q2,Vq];rw[XR];have:=KQ (F:=F) (d:=d2) (p:=p2) (k:=(Qj F k).parts.getD d1.n.toNat 0) (n:=n+1+1);rw[this];show _=QD F _ d2 p2 (n+1+1);generalize QD F _ d2 p2 (n+1+1)=x;rcases x with e|⟨b,m⟩<;>rfl
theorem Qmk(h:XB F (Qj F k) d p=true)(hk:(Qj F k).kind=7)(h1:(Qj F k).names.length=(Qj F k).parts.length)(h2:p.len=(QE (Qj F k).names).length):QD F k d p n=Q1a F (Qj F k).names (Qj F k).parts p (n+1):=by
 have e1:VQ F (Qj F k) p=(Q7c F (Qj F k).names (Qj F k).parts []).1:=by
  unfold VQ;rw[if_neg Q2,if_neg Q2,if_pos hk]
 have e2:Q1E F (Qj F k)=(Q7c F (Qj F k).names (Qj F k).parts []).2:=by
  unfold Q1E;rw[if_neg Q2,if_pos hk]
 have e3:J0 F (Qj F k) d p=[]:=by
  exact Qs6
 unfold QD;rw[if_pos h,e1,e2,e3,Vq,Q2j _ _ _ _ _ h1 h2,Vq]
end
section
variable {M:List Nat}{W w w':World}{O:List Qf}
theorem Wd.upd2{i j:Nat}{x x' y y':Qf}{ks:List Nat}(hij:i≠j)(h:Wd M W O w)(hx:O[i]? =some x)(hy:O[j]? =some y)(hxw:x.w=true)(hyw:y.w=true)(hxw':x'.w=true)(hyw':y'.w=true)(hk:XP ks w w')(hks:∀b∈ks,x.foot=some b\/y.foot=some b)(hx':x'.on w')(hy':y'.on w')(hfx:∀b,x'.foot=some b->x.foot=some b)(hfy:∀b,y'.foot=some b->y.foot=some b\/w.heap.size<=b):Wd M W ((O.set i x').set j y') w':=by
 have hi:i<O.length:=(List.getElem?_eq_some_iff.1 hx).1;have hj:j<O.length:=(List.getElem?_eq_some_iff.1 hy).1;have hset:∀(l:Nat) (z:Qf),((O.set i x').set j y')[l]? =some z->(l=j/\z=y')\/(l=i/\z=x')\/(l≠i/\l≠j/\O[l]? =some z):=by
  intro l z hz;rw[List.getElem?_set] at hz;by_cases hjl:j=l
  ·subst hjl;rw[if_pos rfl,if_pos (by rw[List.length_set];exact hj)] at hz
   cases hz
   exact .inl ⟨rfl,rfl⟩
  ·rw[if_neg hjl,List.getElem?_set] at hz
   by_cases hil:i=l
   ·subst hil;rw[if_pos rfl,if_pos hi] at hz
    cases hz
    exact .inr (.inl ⟨rfl,rfl⟩)
   ·rw[if_neg hil] at hz;exact .inr (.inr ⟨fun e=>hil e.symm,fun e=>hjl e.symm,hz⟩)
 have hap:∀(l:Nat) (z:Qf) (b:Nat),l≠i->l≠j->O[l]? =some z->z.foot=some b->x.foot≠some b/\y.foot≠some b:=fun l z b h1 h2 hz hf=>
  ⟨fun hfx=>h1 (h.nd l i z x b hz hx hf hfx (by rw[hxw,Bool.or_true])),fun hfy=>h2 (h.nd l j z y b hz hy hf hfy (by rw[hyw,Bool.or_true]))⟩
 have hsz:=h.k.size;refine⟨⟨hk.os.trans h.k.os,hk.tape.trans h.k.tape,hk.output.trans h.k.output,Nat.le_trans h.k.size hk.size,fun k hk1 hn=>?_⟩,?_,?_,?_⟩
 ·rw[hk.block k Q2 (fun hm=>hn (by
   rcases hks k hm with hf|hf
   ·have:=h.new i x k hx hf hk1;rwa [hxw] at this
   ·have:=h.new j y k hy hf hk1
    rwa [hyw] at this))]
  exact h.k.block k hk1 hn
 ·intro l z hz
  rcases hset l z hz with ⟨_,rfl⟩|⟨_,rfl⟩|⟨h1,h2,hz'⟩
  ·exact hy'
  ·exact hx'
  ·refine(h.own l z hz').keep hk.size fun b hf=>hk.block b ((h.own l z hz').lt hf) fun hm=>?_
   rcases hks b hm with h3|h3
   ·exact(hap l z b h1 h2 hz' hf).1 h3
   ·exact(hap l z b h1 h2 hz' hf).2 h3
 ·intro l z b hz hf hlt
  rcases hset l z hz with ⟨_,rfl⟩|⟨_,rfl⟩|⟨h1,h2,hz'⟩
  ·rcases hfy b hf with h3|h3
   ·have:=h.new j y b hy h3 hlt;rw[hyw] at this;rwa [hyw']
   ·omega
  ·have:=h.new i x b hx (hfx b hf) hlt;rw[hxw] at this;rwa [hxw']
  ·exact h.new l z b hz' hf hlt
 ·intro l l' z z' b hz hz' hf hf' hww;have hlx:=(h.own i x hx)
  rcases hset l z hz with ⟨rfl,rfl⟩|⟨rfl,rfl⟩|⟨h1,h2,hz1⟩
  ·rcases hset l' z' hz' with ⟨rfl,rfl⟩|⟨rfl,rfl⟩|⟨h1',h2',hz1'⟩
   ·rfl
   ·have h5:=hfx b hf'
    rcases hfy b hf with h3|h3
    ·exact absurd (h.nd l' l x y b hx hy h5 h3 (by rw[hxw];rfl)) hij
    ·have:=hlx.lt h5;omega
   ·rcases hfy b hf with h3|h3
    ·exact absurd h3 (hap l' z' b h1' h2' hz1' hf').2
    ·have:=(h.own l' z' hz1').lt hf';omega
  ·rcases hset l' z' hz' with ⟨rfl,rfl⟩|⟨rfl,rfl⟩|⟨h1',h2',hz1'⟩
   ·have h5:=hfx b hf
    rcases hfy b hf' with h3|h3
    ·exact absurd (h.nd l l' x y b hx hy h5 h3 (by rw[hxw];rfl)) hij
    ·have:=hlx.lt h5;omega
   ·rfl
   ·exact absurd (hfx b hf) (hap l' z' b h1' h2' hz1' hf').1
  ·rcases hset l' z' hz' with ⟨rfl,rfl⟩|⟨rfl,rfl⟩|⟨h1',h2',hz1'⟩
   ·rcases hfy b hf' with h3|h3
    ·exact absurd h3 (hap l z b h1 h2 hz1 hf).2
    ·have:=(h.own l z hz1).lt hf;omega
   ·exact absurd (hfx b hf') (hap l z b h1 h2 hz1 hf).1
   ·exact h.nd l l' z z' b hz1 hz1' hf hf' hww
end
structure Wz where
 Af:Option Addr
 n:Nat
 cf:Nat
abbrev Wz.obj(z:Wz)(A:Option Addr)(m c n:Nat):Obj:=.cells ([.slice z.Af z.n z.cf,.slice A m c,.int .i64 (n:Int)]:List Value).toArray 77 (0,0)
abbrev KR(A:Option Addr)(c:Nat)(xs:List UInt8):Qf:=.row A xs.length c 5 1 (bv xs)
abbrev wM(g:Nat)(A:Option Addr)(m c:Nat):List Nat:=g::(Value.slice A m c).ownBlock.toList
theorem Zh{g:Nat}{A:Option Addr}{c b:Nat}{xs:List UInt8}:b∈wM g A xs.length c↔b=g\/(KR A c xs).foot=some b:=by
 unfold wM;rw[List.mem_cons];show b=g\/b∈(KR A c xs).foot.toList↔_;rw[Option.mem_toList]
structure Z6(W:World)(z:Wz)(B g:Nat)(F:List Rl)(A:Option Addr)(c:Nat)(xs:List UInt8)(n:Nat):Prop where
 fm:X3 W B z.Af z.n F
 hB:B<=g
 cur:W.heap[g]? =some (z.obj A xs.length c n)
 row:(KR A c xs).on W
 far:∀b,(KR A c xs).foot=some b->B<=b/\b≠g
 hn:z.n<=z.cf
 gv:∀w,Below B W w->GV w
section
variable {M:List Nat}{W w w':World}{O:List Qf}{z:Wz}{B g c c' n m i j cost:Nat}{F:List Rl}{A A':Option Addr}{xs ys_v:List UInt8}{res RES:Wtg}{e:Ending}
theorem Z6.lt(h:Z6 W z B g F A c xs n):g<W.heap.size:=(Array.getElem?_eq_some_iff.1 h.cur).1
theorem Z6.len(h:Z6 W z B g F A c xs n):F.length=z.n:=h.fm.1
theorem Z6.wd(h:Z6 W z B g F A c xs n):Wd (wM g A xs.length c) W [.blk g (z.obj A xs.length c n),KR A c xs] W:=by
 refine .of_pairs (XP.refl _ _) ?_ ?_ ?_
 ·intro x hx
  simp only[List.mem_cons,List.not_mem_nil,or_false] at hx;rcases hx with rfl|rfl
  ·exact h.cur
  ·exact h.row
 ·intro x hx b hb _
  simp only[List.mem_cons,List.not_mem_nil,or_false] at hx;rcases hx with rfl|rfl
  ·cases hb;exact Zh.2 (.inl rfl)
  ·exact Zh.2 (.inr hb)
 ·refine List.Pairwise.cons ?_ (List.Pairwise.cons Qn List.Pairwise.nil);intro y hy b hb hb';rw[List.mem_singleton] at hy;subst hy
  cases hb
  exact absurd rfl (h.far _ hb').2
theorem Z6.below(h:Z6 W z B g F A c xs n)(hk:XP (wM g A xs.length c) W w):Below B W w:=
 ⟨hk.os,hk.tape,hk.output,hk.size,fun k hk1=>hk.block k (by have:=h.lt;have:=h.hB;omega) fun hm=>by
  rcases Zh.1 hm with rfl|hm
  ·exact Yg
  ·have:=(h.far k hm).1;omega⟩
theorem Z6.next(h:Z6 W z B g F A c xs n)(hk:XP (wM g A xs.length c) W w)(hc:w.heap[g]? =some (z.obj A' ys_v.length c' m))(hr:(KR A' c' ys_v).on w)(hf:∀b,(KR A' c' ys_v).foot=some b->(KR A c xs).foot=some b\/W.heap.size<=b):Z6 w z B g F A' c' ys_v m:=
 ⟨h.fm.below (h.below hk),h.hB,hc,hr,fun b hb=>by
  rcases hf b hb with h1|h1
  ·exact h.far b h1
  ·have:=h.lt;have:=h.hB;omega,h.hn,fun w' hb=>h.gv w' ((h.below hk).trans hb)⟩
theorem Z6.nextW(h:Z6 W z B g F A c xs n)(hw:Wd (wM g A xs.length c) W O w)(i j:Nat)(hO:O[i]? =some (.blk g (z.obj A' ys_v.length c' m)))(hP:O[j]? =some (KR A' c' ys_v)):Z6 w z B g F A' c' ys_v m:=
 h.next hw.k Q8I (hw.own j _ hP) fun b hb=>by
  rcases Nat.lt_or_ge b W.heap.size with hl|hl
  ·have h1:=hw.new j _ b hP hb hl;have h1:b∈wM g A xs.length c:=h1
   rcases Zh.1 h1 with rfl|h2
   ·have:=hw.nd i j _ _ _ hO hP rfl hb rfl;subst this;rw[hO] at hP
    cases hP
   ·exact .inl h2
  ·exact .inr hl
def WrE(z:Wz)(g:Nat)(W:World)(A:Option Addr)(c:Nat)(xs:List UInt8)(res:Wtg)(n cost:Nat)(e:Ending)(w':World):Prop:=
 XP (wM g A xs.length c) W w'/\((∃x,res=.error x/\e=.panicked (V5 13 (x:Int)))\/∃b m A' c',res=.ok (b,m)/\e=.returned (.tuple #[])/\b.length<=cost/\m<=n+cost/\w'.heap[g]? =some (z.obj A' (xs++b).length c' m)/\(KR A' c' (xs++b)).on w'/\∀q,(KR A' c' (xs++b)).foot=some q->(KR A c xs).foot=some q\/W.heap.size<=q)
def VV(RES:Wtg)(M:List Nat)(W:World)(ch:List PanicEntry)(w':World):Prop:=∃x,RES=.error x/\ch=V5 13 (x:Int)/\XP M W w'
structure Wy where
 b:List UInt8
 m:Nat
 A:Option Addr
 c:Nat
theorem Qu2(i j:Nat)(hw:Wd M W O w)(hO:O[i]? =some (.blk g (z.obj A xs.length c n)))(hP:O[j]? =some (KR A c xs))(hk:XP (wM g A xs.length c) w w'):XP M W w':=
 hw.k.trans hk fun b hb hlt=>by
  rcases Zh.1 hb with rfl|hb
  ·exact hw.new i _ _ hO rfl hlt
  ·exact hw.new j _ b hP hb hlt
theorem Q83(i j:Nat)(hij:i≠j)(hw:Wd M W O w)(hO:O[i]? =some (.blk g (z.obj A xs.length c n)))(hP:O[j]? =some (KR A c xs))(hx:∀x:Nat,res=.error x->RES=.error x)(h:WrE z g w A c xs res m cost e w'):ZK (fun y:Wy=>.tuple #[]) (fun y=>res=.ok (y.b,y.m)/\y.b.length<=cost/\y.m<=m+cost) M W (fun y=>(O.set i (.blk g (z.obj y.A (xs++y.b).length y.c y.m))).set j (KR y.A y.c (xs++y.b))) (VV RES M W) e w':=by
 obtain⟨hk,⟨x,h1,h2⟩|⟨b,m',A',c',h1,h2,h3,h4,h5,h6,h7⟩⟩:=h
 ·exact .inr ⟨_,h2,x,hx x h1,rfl,Qu2 i j hw hO hP hk⟩
 ·exact .inl ⟨⟨b,m',A',c'⟩,h2,⟨h1,h3,h4⟩,hw.upd2 hij hO hP rfl rfl rfl rfl hk (fun q hq=>by
   rcases Zh.1 hq with rfl|hq
   ·exact .inl rfl
   ·exact .inr hq) h5 h6 (fun _ h=>h) h7⟩
theorem Ye(h:Z6 W z B g F A c xs n)(i j:Nat){b:List UInt8}(hw:Wd (wM g A xs.length c) W O w)(hO:O[i]? =some (.blk g (z.obj A' (xs++b).length c' m)))(hP:O[j]? =some (KR A' c' (xs++b)))(hr:res=.ok (b,m))(hb:b.length<=cost)(hm:m<=n+cost):WrE z g W A c xs res n cost (.returned (.tuple #[])) w:=
 ⟨hw.k,.inr ⟨b,m,A',c',hr,rfl,hb,hm,hw.own i _ hO,hw.own j _ hP,fun q hq=>by
  rcases Nat.lt_or_ge q W.heap.size with hl|hl
  ·have h1:=hw.new j _ q hP hq hl;have h1:q∈wM g A xs.length c:=h1
   rcases Zh.1 h1 with rfl|h2
   ·have:=hw.nd i j _ _ _ hO hP rfl hq rfl;subst this;rw[hO] at hP
    cases hP
   ·exact .inl h2
  ·exact .inr hl⟩⟩
end
section
variable {b:Bool}{p:Prop}
section
variable {P:Program}{ops:Array Oper}{Q0:Act->Prop}{Q:Exit->Act->World->Prop}{N:Nat}{E:Env}{o:Oper}{rest:List Oper}{M:List Nat}{W:World}{O:List Qf}{d:Nat}
theorem QI[dq:DQ]{y:Code}(h:sE P Q N M W E O y):xE (Exit.then (fun a w=>y.wp P Q a w) Q) N M W E O .normal:=fun a w ha hw=>h a w ha hw
end
end
section
variable {w:World}{x:Qf}{ι:Type}
section
variable {P:Program}{Q:Exit->Act->World->Prop}{N:Nat}{M:List Nat}{W:World}{E:Env}{O:List Qf}
theorem Zb{c:Code}(p:ι->Prop)(m:ι->Nat)(F:ι->Env)(G:ι->List Qf)(i0:ι)(h0:p i0)(hE:Q40 E (F i0))(hG:∀w,Wd M W O w->Wd M W (G i0) w)
  (hr:∀i,p i->sE P (Exit.then (Q8H p m (m i) N M W F G) Q) N M W (F i) (G i) c):sE P Q N M W E O (.loop c):=fun a w ha hw=>by
 refine wp_loop_ghost (fun n a w=>∃i,p i/\m i=n/\Ag N (F i) a/\Wd M W (G i) w) (m i0) ⟨i0,h0,rfl,hE.ag ha,hG w hw⟩ ?_;rintro n a w ⟨i,hp,rfl,ha,hw⟩;refine wp_mono (hr i hp a w ha hw) ?_;intro e a' w' hq;cases e with
 |normal=>
  exact Qsj
 |exit id=>exact hq
 |goto l=>exact hq
 |ret=>exact hq
 |panic ch=>exact hq
 |outgrown=>exact hq
theorem X7{p:ι->Prop}{m:ι->Nat}{n:Nat}{F:ι->Env}{G:ι->List Qf}(j:ι)(hp:p j)(hm:m j<n)(hE:Q40 E (F j))(hG:∀w,Wd M W O w->Wd M W (G j) w):xE (Exit.then (Q8H p m n N M W F G) Q) N M W E O .normal:=fun a w ha hw=>
 ⟨j,hp,hm,hE.ag ha,hG w hw⟩
end
theorem Wd.tl{M:List Nat}{W:World}{O:List Qf}(h:Wd M W (x::O) w):Wd M W O w:=
 ⟨h.k,fun i y hy=>h.own (i+1) y hy,fun i y b hy hb hl=>h.new (i+1) y b hy hb hl,fun i j y z b hy hz hb hb' hw=>by have:=h.nd (i+1) (j+1) y z b hy hz hb hb' hw;omega⟩
end
section
variable {t t':TypeId}{x:Operand}
instance iXFzH_1:TN Tryz.prog 155 3:=⟨_,Tryz.underlying155,rfl,by kernel_rfl⟩
instance iXFzH_2:Fld Tryz.prog 155 0 0:=⟨_,_,1,Tryz.underlying155,rfl,rfl,by kernel_rfl,by decide⟩
instance iXFzH_3:Fld Tryz.prog 155 1 1:=⟨_,_,1,Tryz.underlying155,rfl,rfl,by kernel_rfl,by decide⟩
instance iXFzH_4:Fld Tryz.prog 155 2 2:=⟨_,_,1,Tryz.underlying155,rfl,rfl,by kernel_rfl,by decide⟩
section
variable {P:Program}{ops:Array Oper}{C:World->Prop}{N:Nat}{E:Env}{o:Oper}{d:Nat}
theorem ZO{p:Addr}(ho:o.op=.nilCheck x)(hd:o.dst=some d)(hN:d<N)(hw:Qm ops E o=some true)(hx:ev E x=some (.pointer (some p))):oE P ops C N E ((d,.pointer (some p))::E) o:=
 Xl hd hN hw fun ρ w ha _=>by simp [execOp,ho,ha.eval hx,go_sem]
theorem Q9I(hT:P.underlying t=some (.interface (P.methodsAt t)))(ho:o.op=.binOp .neq t x (.const .nilIface) t')(hd:o.dst=some d)(hN:d<N)(hw:Qm ops E o=some true)(hx:ev E x=some .nilIface):oE P ops C N E ((d,.bool false)::E) o:=
 Xl hd hN hw fun ρ w ha _=>by
  have hc:ρ (.const .nilIface)=.nilIface:=ha.eval rfl;simp [execOp,ho,ha.eval hx,hc,eqGuard,run_neq_nil_nil _ _ hT,go_sem]
theorem Qpu{te:TypeId}{p:Value}(hT:P.underlying t=some (.interface (P.methodsAt t)))(ho:o.op=.binOp .neq t x (.const .nilIface) t')(hd:o.dst=some d)(hN:d<N)(hw:Qm ops E o=some true)(hx:ev E x=some (.iface te p)):oE P ops C N E ((d,.bool true)::E) o:=
 Xl hd hN hw fun ρ w ha _=>by
  have hc:ρ (.const .nilIface)=.nilIface:=ha.eval rfl;simp [execOp,ho,ha.eval hx,hc,eqGuard,run_neq_held_nil _ _ _ _ hT,go_sem]
end
abbrev rdO(br bw q N k:Nat)(bad:Bool)(ws:List (List UInt8))(A:Option Addr)(c:Nat)(ns:List (List UInt8)):List Qf:=
 [.blk br (.cells [.slice (some ⟨bw,q,none⟩) (N - k) (N - k),.bool bad,.slice A ns.length c].toArray 155 (0,0)),.rd (some ⟨bw,0,none⟩) N 1 (sv ws),.row A ns.length c 9 1 (sv ns)]
def wAt(ws:List (List UInt8))(k:Nat):List UInt8:=ws.getD k []
section
variable {M:List Nat}{W w:World}{O:List Qf}{br bw q N k c:Nat}{bad:Bool}{ws ns:List (List UInt8)}{A:Option Addr}
theorem Vp(hN:ws.length=N)(hq:k<N->q=k)(hk:k<=N)(hn:N<=1048576)(hw:Wd M W (rdO br bw q N k bad ws A c ns++O) w):
  Calls Tryz.prog 131 #[.pointer (some ⟨br,0,none⟩)] w (QN (fun _:Nat×Nat=>.string ⟨(wAt ws k).toArray⟩) (fun y=>y.1=min (k+1) N/\(y.1<N->y.2=y.1)) M W (fun y=>rdO br bw y.2 N y.1 (bad||decide (N<=k)) ws A c ns++O)):=by
 by_cases hkn:k<N
 ·obtain rfl:=hq hkn;obtain⟨x,hx⟩:∃x,ws[q]? =some x:=⟨_,List.getElem?_eq_getElem Q2⟩
  have hwa:wAt ws q=x:=by unfold wAt;rw[List.getD_eq_getElem?_getD,hx];rfl
  have hc:(sv ws)[q]? =some (.string ⟨x.toArray⟩):=by unfold sv;rw[List.getElem?_map,hx];rfl
  have hc0:(sv ws)[q+0]? =some (.string ⟨x.toArray⟩):=hc;rw[hwa,decide_eq_false Q2,Bool.or_false];have hlt:0<N - q:=by omega
  clear hx hwa;go_enter Tryz.func131,Tryz.ntmps131;refine Qy (M:=M) (W:=W) (N:=28) (E:=[Q30]) (O:=rdO br bw q N q bad ws A c ns++O) ?_ J1 hw;repeat(first|refine Q4 zM ?_|refine Q4 zA ?_|refine Q4 zF ?_|refine Q4 (zB 0) ?_|refine Q4 mc5 ?_|refine Q4 Q9Y ?_|(refine Q4 (QP rfl rfl Q1 rfl rfl (fun w hw=>by have:=hw.cell_rd 1 rfl hc;rwa [Nat.zero_add] at this)) ?_)|refine Q4 Qgd ?_|refine yS 0 ?_|refine Qc ?_|refine Qa ?_|refine Q6 ?_|refine Qp ?_|refine Q7 rfl ?_|refine Qu ?_|refine Q4 zL ?_|refine Q4 zef ?_)
  refine Qb mc4 rfl (.tmp rfl) (fun w hw=>?_);have e:N - q - 1=N - (q+1):=by omega
  by_cases h1:N - q=1
  ·refine⟨(q+1,q),rfl,⟨by show q+1=min (q+1) N;omega,fun h=>absurd (show q+1<N from h) Q2⟩,?_⟩;have h:=hw;rw[ZC,if_pos h1,e] at h;exact h
  ·refine⟨(q+1,q+1),rfl,⟨by show q+1=min (q+1) N;omega,fun _=>rfl⟩,?_⟩;have h:=hw;rw[ZC,if_neg h1,Option.map_some,Addr.add_mid,e] at h;exact h
 ·obtain rfl:k=N:=by omega
  have hwa:wAt ws k=[]:=by unfold wAt;rw[List.getD_eq_getElem?_getD,List.getElem?_eq_none Q2];rfl
  rw[hwa,decide_eq_true (Nat.le_refl k),Bool.or_true];go_enter Tryz.func131,Tryz.ntmps131;refine Qy (M:=M) (W:=W) (N:=28) (E:=[Q30]) (O:=rdO br bw q k k bad ws A c ns++O) ?_ J1 hw;repeat(first|refine Q4 zM ?_|refine Q4 zA ?_|refine Q4 zF ?_|refine Q4 (zB 0) ?_|refine Q4 mc5 ?_|refine yS 0 ?_|refine Qc ?_|refine Qa ?_|refine Q6 ?_|refine Q8 rfl ?_|refine Qu ?_|refine Qo ?_|refine Q4 zL ?_|refine Q4 zet ?_)
  exact Qb mc4 rfl (.tmp rfl) (fun w hw=>⟨(k,q),rfl,⟨by show k=min (k+1) k;omega,fun h=>absurd (show k<k from h) (Nat.lt_irrefl k)⟩,hw⟩)
theorem Q2Z{x:List UInt8}(hx:x.length<=1048576)(hn:ns.length<=1048576)(hw:Wd M W (rdO br bw q N k bad ws A c ns++O) w):
  Calls Tryz.prog 137 #[.pointer (some ⟨br,0,none⟩),.string ⟨x.toArray⟩] w (QN (fun _:Option Addr×Nat=>.tuple #[]) (fun _=>True) M W (fun y=>rdO br bw q N k (bad||!(Qk x)) ws y.1 y.2 (ns++[x])++O)):=by
 have hsz:(⟨x.toArray⟩:ByteArray).size<=9223372036854775807:=by rw[ZH];omega
 cases bad with
 |true=>
  rw[Bool.true_or];go_enter Tryz.func137,Tryz.ntmps137;refine Qy (M:=M) (W:=W) (N:=26) (E:=[Q30,(1,.string ⟨x.toArray⟩)]) (O:=rdO br bw q N k true ws A c ns++O) ?_ mc3 hw;repeat(first|refine Q4 zM ?_|refine Q4 zF ?_|refine Q4 zS ?_|refine Q4 (zB 0) ?_|refine Q4 mc5 ?_|refine Qd QqM rfl Q1 (fun bn _=>?_)|refine Qd QrS rfl Q1 (fun y _=>?_)|refine yS 0 ?_|refine yS 1 ?_|refine Qc ?_|refine Qa ?_|refine Q6 ?_|refine Q4 zY ?_)
  refine Zc Yh rfl (fun w hw=>⟨y,rfl,trivial,?_⟩);exact Qmq
 |false=>
  rw[Bool.false_or];obtain⟨u,hu⟩:∃u,Qk x=u:=⟨_,rfl⟩;have HU:=Q3 hu;rw[hu];clear hu;go_enter Tryz.func137,Tryz.ntmps137;refine Qy (M:=M) (W:=W) (N:=26) (E:=[Q30,(1,.string ⟨x.toArray⟩)]) (O:=rdO br bw q N k false ws A c ns++O) ?_ mc3 hw;repeat(first|refine Q4 zM ?_|refine Q4 zF ?_|refine Q4 (zB 0) ?_|refine Q4 mc5 ?_|(refine Q4 Qs9 ?_;rw[show Qk (⟨x.toArray⟩:ByteArray).data.toList=u from HU.out])|refine Qd QqM rfl Q1 (fun bn _=>?_)|refine Qd QrS rfl Q1 (fun y _=>?_)|refine yS 0 ?_|refine yS 1 ?_|refine Qc ?_|refine Qa ?_|refine Q6 ?_|refine Q4 zN ?_|refine Q4 zO ?_)
  refine Zc Yh rfl (fun w hw=>⟨y,rfl,trivial,?_⟩);exact Qmq
theorem Q0T(hall:∀s∈ws,s.length<=1048576)(k:Nat):(wAt ws k).length<=1048576:=by
 unfold wAt;rw[List.getD_eq_getElem?_getD];cases h:ws[k]? with
 |none=>decide
 |some s=>exact hall s (List.mem_of_getElem? h)
def KH(x:List UInt8):Bool:=x==Q08||x==JW
theorem QjR(hN:ws.length=N)(hq:k<N->q=k)(hk:k<=N)(hn:N<=1048576)(hw:Wd M W (rdO br bw q N k bad ws A c ns++O) w):
  Calls Tryz.prog 136 #[.pointer (some ⟨br,0,none⟩)] w (QN (fun _:Nat×Nat=>.bool (wAt ws k==Q08)) (fun y=>y.1=min (k+1) N/\(y.1<N->y.2=y.1)) M W (fun y=>rdO br bw y.2 N y.1 ((bad||decide (N<=k))||!(KH (wAt ws k))) ws A c ns++O)):=by
 obtain⟨x,hx⟩:∃x,wAt ws k=x:=⟨_,rfl⟩;obtain⟨b1,hb1⟩:∃b1,(bad||decide (N<=k))=b1:=⟨_,rfl⟩;have HX:=Q3 hx;have HB:=Q3 hb1;rw[hx,hb1];clear hx hb1;go_enter Tryz.func136,Tryz.ntmps136;refine Qy (M:=M) (W:=W) (N:=23) (E:=[Q30]) (O:=rdO br bw q N k bad ws A c ns++O) ?_ J1 hw;repeat(first|refine Q4 zM ?_|refine Q4 zA ?_|(refine Qd Qqu rfl Q1 (fun y hy=>?_);rw[HX.out,HB.out])|refine Qc ?_|refine Qa ?_|refine Q6 ?_)
 obtain⟨k1,q1⟩:=y;have HY:=Q3 hy;clear hy;cases b1 with
 |true=>
  repeat(first|refine Q4 zM ?_|refine Q4 zA ?_|refine Q4 zF ?_|refine Q4 zS ?_|refine Q4 (zB 0) ?_|refine Q4 mc5 ?_|refine yS 0 ?_|refine Qc ?_|refine Qa ?_|refine Q6 ?_|refine Qu ?_|refine Q4 zY ?_|refine Q4 QlY ?_)
  exact Q8O
 |false=>
  obtain⟨u,hu⟩:∃u,((⟨x.toArray⟩:ByteArray).data.toList != (⟨#[98,105,103]⟩:ByteArray).data.toList)=u:=⟨_,rfl⟩;obtain⟨v,hv⟩:∃v,((⟨x.toArray⟩:ByteArray).data.toList != (⟨#[108,105,116,116,108,101]⟩:ByteArray).data.toList)=v:=⟨_,rfl⟩;have hok:KH x=(!u||!v):=by
   rw[<- hu,<- hv];show (x==Q08||x==JW)=(!(!(x==Q08))||!(!(x==JW)));simp
  have heq:((⟨x.toArray⟩:ByteArray).data.toList==(⟨#[98,105,103]⟩:ByteArray).data.toList)=(x==Q08):=rfl;rw[hok];clear hok;cases u with
  |true=>
   repeat(first|refine Q4 zM ?_|refine Q4 zA ?_|refine Q4 zF ?_|refine Q4 (zB 0) ?_|refine Q4 mc5 ?_|refine yS 0 ?_|refine Qc ?_|refine Qa ?_|refine Q6 ?_|refine Qu ?_|refine Q4 zY ?_|refine Q4 zN ?_|refine Q4 zsa ?_|refine Q4 Q7M ?_)
   refine Qb mc4 rfl (.tmp rfl) (fun w hw=>⟨(k1,q1),rfl,HY.out,?_⟩);cases v<;>exact hw
  |false=>
   repeat(first|refine Q4 zM ?_|refine Q4 zA ?_|refine Q4 zF ?_|refine Q4 zS ?_|refine Q4 (zB 0) ?_|refine Q4 mc5 ?_|refine yS 0 ?_|refine Qc ?_|refine Qa ?_|refine Q6 ?_|refine Qu ?_|refine Q4 zN ?_|refine Q4 zsa ?_|refine Q4 Q7M ?_)
   exact Q8O
end
end
theorem Q1D(c i:Int)(w:World):Calls Tryz.prog 29 #[.int .i64 c,.int .i64 i] w fun e w'=>e=.returned (.agg #[.int .i64 c,.int .i64 i])/\w.alloc (.cells #[.int .i64 c,.int .i64 i] 32)=w':=by
 go_enter Tryz.func29,Tryz.ntmps29;go_wp2
 exact bodyPost_ret (v:=.agg #[.int .i64 c,.int .i64 i]) (by simp [results,Tryz.results29,go_sem]) rfl ⟨rfl,rfl⟩
theorem Qd4(x:Int)(w:World):Calls Tryz.prog 33 #[.int .i64 x] w fun e w'=>e=.panicked (V5 1 x)/\Below w.heap.size w w':=by
 go_enter Tryz.func33,Tryz.ntmps33;go_wp2_with fail
 refine(Q1D _ _ _).mono ?_;rintro e w' ⟨rfl,rfl⟩;go_wp2_with fail
 exact⟨rfl,rfl,YR _ _⟩
theorem Q0O{M:List Nat}{W w:World}{O:List Qf}{B:List PanicEntry->World->Prop}{x:Int}(hw:Wd M W O w)(hB:∀w',Wd M W O w'->B (V5 1 x) w'):Calls Tryz.prog 33 #[.int .i64 x] w (ZK (ι:=Empty) (fun i=>i.elim) (fun _=>True) M W (fun i=>i.elim) B):=
 (Qd4 x w).mono fun e w' h=>.inr ⟨_,h.1,hB w' (hw.on h.2)⟩
theorem Jj.cell{W:World}{z:Rv}{B g p:Nat}{F:List Rl}{D:List UInt8}(h:Jj W z B g F D p):W.cell? ⟨g,0,none⟩=some (.slice z.Af z.n z.cf)/\W.cell? ⟨g,1,none⟩=some (.slice z.As z.n z.cs)/\W.cell? ⟨g,2,none⟩=some (.slice z.Ad z.nd z.cd)/\W.cell? ⟨g,3,none⟩=some (.int .i64 (p:Int)):=by
 have hc:=h.cur;refine⟨?_,?_,?_,?_⟩<;>(rw[cell_of_row W g _ _ _ _ hc];rfl)
section
variable {W:World}{z:Rv}{B g p:Nat}{F:List Rl}{D:List UInt8}
def PkE(D:List UInt8)(p:Nat)(W:World)(e:Ending)(w':World):Prop:=Below W.heap.size W w'/\((D[p]? =none/\e=.panicked (V5 1 (p:Int)))\/∃c,D[p]? =some c/\e=.returned (.int .u8 (c.toNat:Int)))
theorem Q6e(h:Jj W z B g F D p):Calls Tryz.prog 65 #[.pointer (some ⟨g,0,none⟩)] W (PkE D p W):=by
 obtain⟨_,_,hc2,hc3⟩:=h.cell;have hl:=h.len.1;have hp:=h.hp;have hD:=h.hD;have hby:=fun c hc=>h.byte (i:=p) (c:=c) hc;clear h;obtain⟨Af,As,Ad,n,nd,cf,cs,cd⟩:=z;simp only at hc2 hc3 hl hby;subst hl;cases hcp:D[p]? with
 |none=>
  have hpe:p=D.length:=by
   rcases Nat.lt_or_ge p D.length with hlt|hge
   ·rw[List.getElem?_eq_getElem hlt] at hcp;cases hcp
   ·omega
  subst hpe;clear hby;have HN:=Q3 hcp;clear hcp;go_enter Tryz.func65,Tryz.ntmps65;haveI:Pan (bodyPost Tryz.prog Tryz.f65 (PkE D D.length W)) (fun ch w'=>ch=V5 1 (D.length:Int)/\Below W.heap.size W w'):=Pan.body fun ch w' hb=>⟨hb.2,.inl ⟨HN.out,by rw[hb.1]⟩⟩;refine Qy (M:=[]) (W:=W) (N:=28) (E:=[J9]) (O:=[]) ?_ J1 Xs;refine QhA ?_;refine Q6X ?_;refine Q6X ?_;refine Q9 zL ?_;refine Q9 zet ?_;refine XV ?_;refine yn<|y1<|yr<|yo zM ?_;refine Q4 mc5 ?_;refine yo zF<|yo zC ?_;exact QsK
 |some c=>
  have hlt:p<D.length:=(List.getElem?_eq_some_iff.1 hcp).1;obtain⟨b,o,rfl,_,hcell⟩:=hby c hcp;clear hby;have HN:=Q3 hcp;clear hcp;have hne:((p:Int)==(D.length:Int))=false:=Qs2;go_enter Tryz.func65,Tryz.ntmps65;refine Qy (M:=[]) (W:=W) (N:=28) (E:=[J9]) (O:=[]) ?_ J1 Xs;refine QhA ?_;refine Q6X ?_;refine Q6X ?_;refine Q9 zL ?_;refine Q9 zea ?_;refine XV ?_;refine yn<|y0<|ys<|yn<|yq<|Xh Q5 Q5 ?_;refine Q6X ?_;refine Q6X ?_;refine Q9 zi1 ?_;refine Q9 zC ?_;refine QeA ?_;exact Qb mc4 rfl (.tmp rfl) (fun w hw=>⟨hw.k.below,.inr ⟨c,HN.out,rfl⟩⟩)
end
theorem Q4i{w:World}{B n c p m:Nat}{A:Option Addr}{D:List UInt8}(h:Rd w B 1 A n (bv D))(hk:p+m<=n)(hc:n<=c):((D.drop p).take m).length=m/\Rd w B 1 (ZC A c p 1) ((D.drop p).take m).length (bv ((D.drop p).take m)):=by
 have hl:D.length=n:=by have:=h.len;rw[XD] at this;exact this
 have e:((D.drop p).take m).length=m:=by rw[List.length_take,List.length_drop];omega
 refine⟨e,?_⟩;have:=h.cut (k:=p) (m:=m) (c:=c) hk hc;rw[Nat.mul_one,Nat.mul_one] at this;rw[e];have e2:bv ((D.drop p).take m)=((bv D).drop p).take m:=by unfold bv;rw[List.map_take,List.map_drop]
 rw[e2];exact this
section
variable {W:World}{z:Rv}{B g p:Nat}{F:List Rl}{D:List UInt8}
theorem Q2e(h:Jj W z B g F D p){n:Int}(h0:0<=n)(hn:n<=9223372036854775807):Calls Tryz.prog 63 #[.pointer (some ⟨g,0,none⟩),.int .i64 n] W (ByE z B g W (VZ D p n)):=by
 have H:=Q3 h;obtain⟨_,_,hc2,hc3⟩:=h.cell;have hwd:=h.wd;have hl:=h.len.1;have hp:=h.hp;have hD:=h.hD;have hcd:=h.hnd;clear h;by_cases hlong:(D.length:Int) - p<n
 ·have HT:=Q3 (show VZ D p n=some (.error D.length) by unfold VZ;rw[if_pos hlong];rfl);rw[hl] at hlong;clear hwd;obtain⟨Af,As,Ad,nn,nd,cf,cs,cd⟩:=z
  simp only at hc2 hc3 hl hlong;go_enter Tryz.func63,Tryz.ntmps63;haveI:Pan (bodyPost Tryz.prog Tryz.f63 (ByE ⟨Af,As,Ad,nn,nd,cf,cs,cd⟩ B g W (VZ D p n))) (fun ch w'=>ch=V5 1 (nd:Int)/\Below W.heap.size W w'):=Pan.body fun ch w' hb=>⟨(XP.of_below hb.2),.inl ⟨D.length,HT.out,by rw[hb.1,hl]⟩⟩;refine Qy (M:=[]) (W:=W) (N:=48) (E:=[J9,(1,.int .i64 n)]) (O:=[]) ?_ mc3 Xs;refine QhA ?_;refine QlV ?_;refine Q9 mc5 ?_;refine Q9 zF ?_;refine Q9 zC ?_;refine Q9 zL ?_;refine Q6X ?_;refine Q9 zQ ?_;refine Q9 zgt ?_;refine XV ?_;refine yn<|y1<|yr<|yo zM ?_;refine Q4 mc5 ?_;refine yo zF<|yo zC<|yo zL ?_;exact QsK
 ·obtain⟨m,rfl⟩:∃m:Nat,n=(m:Int):=Qt9;have HT:=Q3 (show VZ D p (m:Int)=some (.ok ((D.drop p).take m,p+m)) by unfold VZ;rw[if_neg hlong];rfl);rw[hl] at hlong
  have hm:p+m<=z.nd:=by omega
  obtain⟨Af,As,Ad,nn,nd,cf,cs,cd⟩:=z;simp only at hl hlong hm hcd;go_enter Tryz.func63,Tryz.ntmps63;refine Qy (M:=[g]) (W:=W) (N:=48) (E:=[J9,(1,.int .i64 (m:Int))]) (O:=Qcx) ?_ mc3 hwd;clear hwd hc2 hc3;refine QhA ?_;refine QlV ?_;refine Q9 mc5 ?_;refine QpK ?_;refine Q9 zL ?_;refine Q4W ?_;refine Q9 (zB 0) ?_;refine Q9 zQ ?_;refine Q9 zgf ?_;refine XV ?_;refine yn<|y0<|ys<|yn<|yq<|Xh Q5 Q5 ?_;refine Q4W ?_;refine Q9 (zB 0) ?_;refine Q4W ?_;refine Q9 (zB 0) ?_;refine Q4W ?_;refine Q9 (zB 0) ?_;refine Q9 zM ?_;refine Q9 zP ?_;refine Q9 (Qhv (l:=p) (h:=p+m) rfl rfl Q1 rfl rfl rfl rfl Q2 Q2) ?_;refine QkA ?_;refine yn<|yq<|yr<|yo zM ?_;refine Q4 mc5 ?_;refine yo zF<|yo (zB 0)<|yo zM<|yo zP ?_;refine Q4 mc5 ?_;refine yo zF ?_;refine yS 0 ?_;refine yl<|yn<|yq<|yr<|yo zM<|yo zA<|yl<|yn<|yt ?_;refine Qb mc4 rfl (.tmp rfl) (fun w hw=>⟨hw.k,.inr ⟨(D.drop p).take m,p+m,ZC Ad cd p 1,cd - p,HT.out,?_,hw.blkH,?_,?_⟩⟩)
  ·have hd:=H.out.env.dt;rw[(Q4i (c:=cd) hd hm hcd).1]
   show Ending.returned (.slice (ZC Ad cd p 1) (p+m - p) (cd - p))=_;rw[show p+m - p=m by omega]
  ·have hd:=(H.out.env.keep H.out.hB H.out.lt hw.k).dt;exact(Q4i hd hm hcd).2
  ·rw[(Q4i (c:=cd) H.out.env.dt hm hcd).1]
   omega
end
section
variable {b c:UInt8}{bs l:List UInt8}{i:Nat}{w:World}
def LtE(z:Rv)(g:Nat)(W:World)(res:Rdg Nat)(e:Ending)(w':World):Prop:=XP [g] W w'/\((∃x:Nat,res=some (.error x)/\e=.panicked (V5 1 x))\/∃q,res=some (.ok q)/\e=.returned (.tuple #[])/\w'.heap[g]? =some (z.obj q))
section
variable {W:World}{z:Rv}{B g p:Nat}{F:List Rl}{D:List UInt8}
theorem Q2G(h:Jj w z B g F D p)(hc:D[p]? =some c):Calls Tryz.prog 65 #[.pointer (some ⟨g,0,none⟩)] w fun e w'=>e=.returned (.int .u8 (c.toNat:Int))/\Below w.heap.size w w':=
 (Q6e h).mono fun e w' ⟨hb,h⟩=>by
  rcases h with ⟨hn,_⟩|⟨c',hc',he⟩
  ·rw[hc] at hn;cases hn
  ·rw[hc] at hc';cases hc';exact⟨he,hb⟩
theorem Q5m{M:List Nat}{O:List Qf}{Bp:List PanicEntry->World->Prop}(h:Jj w z B g F D p)(hc:D[p]? =none)(hw:Wd M W O w)(hB:∀w',Wd M W O w'->Bp (V5 1 (p:Int)) w'):Calls Tryz.prog 65 #[.pointer (some ⟨g,0,none⟩)] w (ZK (ι:=Empty) (fun i=>i.elim) (fun _=>True) M W (fun i=>i.elim) Bp):=
 (Q6e h).mono fun e w' ⟨hb,h⟩=>by
  rcases h with ⟨_,he⟩|⟨c',hc',_⟩
  ·exact .inr ⟨_,he,hB w' (hw.on hb)⟩
  ·rw[hc] at hc';cases hc'
theorem Qjn{p:Nat}(h:l[0]? =none)(hb:bs≠[]):Q0e bs l p=some (.error p):=by
 cases bs with
 |nil=>exact absurd rfl hb
 |cons b bs=>
  cases l with
  |nil=>rfl
  |cons c l=>cases h
theorem QpG{p:Nat}(h:¬c=b):Q0e (b::bs) (c::l) p=some (.error p):=by
 unfold Q0e;rw[if_neg h];rfl
theorem Qq4{p:Nat}:Q0e (b::bs) (b::l) p=Q0e bs l (p+1):=by
 rw[Q0e,if_pos rfl]
theorem QoV(h:bs[i]? =some b):bs.drop i=b::bs.drop (i+1):=Zw h
theorem QaV{B n:Nat}{A:Option Addr}(h:Rd w B 1 A n (bv bs))(hb:bs[i]? =some b):∃q o,A=some ⟨q,o,none⟩/\q<B/\w.cell? ⟨q,o+i,none⟩=some (.int .u8 (b.toNat:Int)):=by
 have hi:i<bs.length:=(List.getElem?_eq_some_iff.1 hb).1;have hl:bs.length=n:=by have:=h.len;rw[XD] at this;exact this
 obtain⟨q,o,e,hq,hc⟩:=h.2 Q2;refine⟨q,o,e,hq,hc i _ ?_⟩;unfold bv;rw[List.getElem?_map,hb];rfl
theorem Q7m(h:Jj W z B g F D p){Ab:Option Addr}{nb cb:Nat}(hb:Rd W B 1 Ab nb (bv bs))(hnb:nb<=1048576):Calls Tryz.prog 58 #[.pointer (some ⟨g,0,none⟩),.slice Ab nb cb] W (LtE z g W (Q0e bs (D.drop p) p)):=by
 have H:=Q3 h;have HB:=Q3 hb;have hwd:=h.wd;have hlb:bs.length=nb:=by have:=hb.len;rw[XD] at this;exact this
 have hp:=h.hp;have hD:=h.hD;obtain⟨RES,hres⟩:∃r,Q0e bs (D.drop p) p=r:=⟨_,rfl⟩;have HR0:=Q3 hres;rw[hres];clear h hb hres;subst hlb;obtain⟨Af,As,Ad,nn,nd,cf,cs,cd⟩:=z;go_enter Tryz.func58,Tryz.ntmps58;haveI:Pan (bodyPost Tryz.prog Tryz.f58 (LtE ⟨Af,As,Ad,nn,nd,cf,cs,cd⟩ g W RES)) (fun ch w'=>∃x:Nat,RES=some (.error x)/\ch=V5 1 x/\XP [g] W w'):=Pan.body fun ch w' ⟨x,h1,h2,h3⟩=>JF
 refine Qy (M:=[g]) (W:=W) (N:=29) (E:=[J9,(1,.slice Ab bs.length cb)]) (O:=Qcx) ?_ mc3 hwd;clear hwd;refine yq<|yr<|yo zM<|yo zL<|yo zM<|yl<|yn<|yb ?_;refine Zb (ι:=Nat) (fun i=>i<=bs.length/\p+i<=D.length/\RES=Q0e (bs.drop i) (D.drop (p+i)) (p+i)) (fun i=>bs.length - i) (fun i=>QsI) (fun i=>QrI) 0 ⟨Nat.zero_le _,hp,HR0.out.symm⟩ mc1 Y2 ?_;rintro i ⟨hi,hpi,hres⟩;have HRES:=Q3 hres;clear hres;show sE _ _ _ _ _ QsI QrI _;by_cases hin:i<bs.length
 ·obtain⟨b,hbi⟩:∃b,bs[i]? =some b:=⟨_,List.getElem?_eq_getElem hin⟩;obtain⟨q,o,rfl,hqB,hcell⟩:=QaV HB.out hbi
  have hqg:¬q=g:=by have:=H.out.hB;omega
  have hdr:=QoV hbi;cases hc:D[p+i]? with
  |none=>
   have HE:=Q3 (show RES=some Q3g by rw[HRES.out];exact Qjn (by rw[List.getElem?_drop];exact hc) (by rw[hdr];exact List.cons_ne_nil _ _));have HC:=Q3 hc;clear hc;refine QmK ?_;exact J4 (XE _ _ _ rfl rfl rfl (fun w hw=>Q5m (H.out.next hw.k hpi hw.blkH) HC.out hw (fun w' hw'=>⟨p+i,HE.out,rfl,hw'.k⟩))) rfl Q1 Q0b
  |some c=>
   have hlt:p+i<D.length:=(List.getElem?_eq_some_iff.1 hc).1;have hdD:=Zw hc;have HC:=Q3 hc;clear hc;by_cases hcb:c=b
   ·subst hcb;have HN:=Q3 (show RES=Q0e (bs.drop (i+1)) (D.drop (p+(i+1))) (p+(i+1)) by rw[HRES.out,hdr,hdD,Qq4];rfl);have hne:((c.toNat:Int) != (c.toNat:Int))=false:=bne_eq_false_iff_eq.2 rfl;clear hdD;refine QmK ?_;refine Q4 Qri ?_;refine yo zM<|yo zna<|yl<|yn<|y0<|ys<|yn<|yr<|yo zM ?_;refine Q4 mc5 ?_;refine yo zF<|yo (zB 0)<|yo zP ?_;refine Q4 mc5 ?_;refine yo zF ?_;refine yS 0 ?_;refine yl<|yn<|yr<|yo zP<|yo zM<|yl ?_;refine X7 (i+1) ⟨hin,hlt,HN.out⟩ (by show bs.length - (i+1)<bs.length - i;omega) mc2 Y2
   ·have HE:=Q3 (show RES=some Q3g by rw[HRES.out,hdr,hdD];exact QpG hcb);have hne:((c.toNat:Int) != (b.toNat:Int))=true:=bne_iff_ne.2 (fun h=>hcb (UInt8.toNat_inj.1 Q2));clear hdD;refine QmK ?_;refine Q4 Qri ?_;refine yo zM<|yo zna<|yl<|yn<|y1<|yr<|yo zM ?_;refine Q4 mc5 ?_;refine yo zF<|yo (zB 0) ?_;exact Q7k
 ·obtain rfl:i=bs.length:=by omega
  have HE:=Q3 (show RES=some (.ok (p+bs.length)) by rw[HRES.out,List.drop_length];cases D.drop (p+bs.length)<;>rfl);refine QeL ?_;exact Zc Yh rfl (fun w hw=>⟨hw.k,.inr ⟨p+bs.length,HE.out,rfl,hw.blkH⟩⟩)
end
end
section
variable {c:UInt8}{k:Nat}{size stop:Int}
abbrev Qfq{α:Type}(RES:Rdg α)(g:Nat)(W:World)(ch:List PanicEntry)(w':World):Prop:=∃x:Nat,RES=some (.error x)/\ch=V5 1 x/\XP [g] W w'
def UtE(z:Rv)(B g:Nat)(D:List UInt8)(p:Nat)(W:World)(res:Rdg Nat)(e:Ending)(w':World):Prop:=XP [g] W w'/\((∃x:Nat,res=some (.error x)/\e=.panicked (V5 1 x))\/∃q A c,res=some (.ok q)/\e=.returned (.slice A ((D.drop p).take (q - p)).length c)/\w'.heap[g]? =some (z.obj (q+1))/\Rd w' B 1 A ((D.drop p).take (q - p)).length (bv ((D.drop p).take (q - p)))/\((D.drop p).take (q - p)).length<=c)
section
variable {W:World}{z:Rv}{B g p:Nat}{F:List Rl}{D:List UInt8}
theorem Qo2{p:Nat}(h:D[p]? =none):Ks stop size (D.drop p) k p=some (.error p):=by
 have:D.drop p=[]:=List.drop_eq_nil_of_le (by
  rcases Nat.lt_or_ge p D.length with hl|hl
  ·rw[List.getElem?_eq_getElem hl] at h;cases h
  ·exact hl)
 rw[this];rfl
theorem Qi8{p:Nat}(h:D[p]? =some c)(hs:(c.toNat:Int)=stop):Ks stop size (D.drop p) k p=some (.ok p):=by
 rw[Zw h,Ks,if_pos hs];rfl
theorem Qix{p:Nat}(h:D[p]? =some c)(hs:¬(c.toNat:Int)=stop)(hz:(k:Int)=size):Ks stop size (D.drop p) k p=some (.error p):=by
 rw[Zw h,Ks,if_neg hs,if_pos hz];rfl
theorem Qiy{p:Nat}(h:D[p]? =some c)(hs:¬(c.toNat:Int)=stop)(hz:¬(k:Int)=size):Ks stop size (D.drop p) k p=Ks stop size (D.drop (p+1)) (k+1) (p+1):=by
 rw[Zw h,Ks,if_neg hs,if_neg hz]
theorem Ya(c:UInt8):IntKind.i64.wrap (c.toNat:Int)=(c.toNat:Int):=IntWalk.i64_in _ (by have:=c.toNat_lt;omega)
theorem Qcp(h:Jj W z B g F D p){r:Rl}{sb sn sp:Value}:Calls Tryz.prog 64 #[.pointer (some ⟨g,0,none⟩),.agg (ruC r sb sn sp).toArray] W (UtE z B g D p W (Ks r.stop r.size (D.drop p) 0 p)):=by
 have H:=Q3 h;have hwd:=h.wd;have hp:=h.hp;have hD:=h.hD;have hnd:=h.len.1;have hcd:=h.hnd;obtain⟨name,kind,bs,size,big,mn,mx,stop,count,elem,names,parts⟩:=r;simp only[ruC];obtain⟨RES,hres⟩:∃r,Ks stop size (D.drop p) 0 p=r:=⟨_,rfl⟩;have HR0:=Q3 hres;rw[hres];clear h hres;obtain⟨Af,As,Ad,nn,nd,cf,cs,cd⟩:=z;simp only at hnd hcd;go_enter Tryz.func64,Tryz.ntmps64;haveI:Pan (bodyPost Tryz.prog Tryz.f64 (UtE ⟨Af,As,Ad,nn,nd,cf,cs,cd⟩ B g D p W RES)) (Qfq RES g W):=Pan.body fun ch w' ⟨x,h1,h2,h3⟩=>JF
 refine Qy (M:=[g]) (W:=W) (N:=55) (E:=[J9,QhH]) (O:=Qcx) ?_ mc3 hwd;clear hwd;refine yq<|yr ?_;refine yB fun b3=>?_;refine yo zA<|yl<|yn<|yq<|yr<|yo zM ?_;refine Q4 mc5 ?_;refine yo zF<|yo (zB 1)<|yo zA<|yl<|yn<|yq<|yb ?_;refine Zb (ι:=Nat) (fun i=>p+i<=D.length/\RES=Ks stop size (D.drop (p+i)) i (p+i)) (fun i=>D.length - i) (fun i=>[J9,Qfa,(5,.int .i64 (p:Int))]) (fun i=>QjS) 0 ⟨hp,HR0.out.symm⟩ Q03 Y2 ?_;rintro i ⟨hpi,hres⟩;have HRES:=Q3 hres;clear hres;show sE _ _ _ _ _ [J9,Qfa,(5,.int .i64 (p:Int))] QjS _;cases hc:D[p+i]? with
 |none=>
  have HE:=Q3 (show RES=some Q3g by rw[HRES.out];exact Qo2 hc);have HC:=Q3 hc;clear hc;refine yq<|yq ?_;refine VE (B:=Qfq RES g W) QjS [] Q5 ?_ ?_
  ·infer_instance
  refine XS 0 rfl Q5 Z4 zM ?_;refine XS 3 rfl Q5 Z4 zF ?_;refine XS 4 rfl Q5 Z4 (zB 0) ?_;exact Q0y 1 Q5 rfl rfl Qso Q0b rfl Q1 Q0b
 |some c=>
  have hlt:p+i<D.length:=(List.getElem?_eq_some_iff.1 hc).1;have HC:=Q3 hc;have hcv:=Ya c;clear hc;by_cases hs:(c.toNat:Int)=stop
  ·have HE:=Q3 (show RES=some (.ok (p+i)) by rw[HRES.out];exact Qi8 HC.out hs);have hne:((c.toNat:Int) != stop)=false:=bne_eq_false_iff_eq.2 hs;refine QqK ?_;refine Q9 (zB 0) ?_;refine Q9 zna ?_;refine XV ?_;refine yn<|y0<|ye<|yn<|yq<|yr<|yo zM ?_;refine QkB ?_;refine yl<|yn<|yq<|Xh Q5 Q5 ?_;refine Q4W ?_;refine Q9 (zB 1) ?_;refine QlV ?_;refine Q9 mc5 ?_;refine QlQ ?_;refine Q9 zQ ?_;refine Q9 (Qhv (l:=p) (h:=p+i) rfl rfl Q1 rfl rfl rfl (congrArg (fun x:Int=>some (Value.int .i64 x)) (show ((p+i:Nat):Int)+1 - 1=((p+i:Nat):Int) by omega)) Q2 Q2) ?_;refine QeA ?_;refine Qb mc4 rfl (.tmp rfl) (fun w hw=>⟨hw.k,.inr ⟨p+i,ZC Ad cd p 1,cd - p,HE.out,?_,hw.own 1 _ rfl,?_,?_⟩⟩)
   ·have hd:Rd W B 1 Ad nd (bv D):=H.out.env.dt;rw[show p+i - p=i by omega,(Q4i (p:=p) (m:=i) (c:=cd) hd Q2 hcd).1]
   ·have hd:Rd w B 1 Ad nd (bv D):=(H.out.env.keep H.out.hB H.out.lt hw.k).dt;rw[show p+i - p=i by omega];exact(Q4i (p:=p) (m:=i) hd Q2 hcd).2
   ·rw[show p+i - p=i by omega,(Q4i (p:=p) (m:=i) (n:=nd) (c:=cd) H.out.env.dt Q2 hcd).1]
    omega
  ·have hne:((c.toNat:Int) != stop)=true:=bne_iff_ne.2 hs
   by_cases hz:(i:Int)=size
   ·have HE:=Q3 (show RES=some Q3g by rw[HRES.out];exact Qix HC.out hs hz);refine Qrs ?_;refine Q9 zQ ?_;refine QpK ?_;refine Q9 zet ?_;refine XV ?_;refine yn<|y1<|yr<|yo zM ?_;refine QbB ?_;exact Q7k
   ·have HN:=Q3 (show RES=Ks stop size (D.drop (p+(i+1))) (i+1) (p+(i+1)) by rw[HRES.out];exact Qiy HC.out hs hz);refine Qrs ?_;refine Q9 zQ ?_;refine QpK ?_;refine Q9 zef ?_;refine XV ?_;refine yn<|y0<|ys<|yn<|yr<|yo zM ?_;refine QkB ?_;refine yl<|yd ?_;refine X7 (i+1) ⟨hlt,HN.out⟩ QvK Q03 Y2
end
end
section
variable {b:Bool}{c:UInt8}{mx n stop:Int}
section
variable {W:World}{z:Rv}{B g p:Nat}{F:List Rl}{D:List UInt8}
theorem QlS{p:Nat}(h:D[p]? =none):Y3 stop mx (D.drop p) b n p=some (.error p):=by
 have:D.drop p=[]:=List.drop_eq_nil_of_le (by
  rcases Nat.lt_or_ge p D.length with hl|hl
  ·rw[List.getElem?_eq_getElem hl] at h;cases h
  ·exact hl)
 rw[this];rfl
theorem Qia{p:Nat}(h:D[p]? =some c)(hb:b=true)(hs:(c.toNat:Int)=stop):Y3 stop mx (D.drop p) b n p=some (.ok (n,p+1)):=by
 rw[Zw h,Y3,if_pos (by simp [hb,hs])];rfl
theorem Q34{p:Nat}(h:D[p]? =some c)(h1:¬(b=true/\(c.toNat:Int)=stop))(h2:¬(48<=c.toNat/\c.toNat<=57)\/(b=true/\n=0)\/mx<10*n+((c.toNat:Int) - 48)):Y3 stop mx (D.drop p) b n p=some (.error p):=by
 rw[Zw h,Y3,if_neg (by simpa using h1),if_pos]
 ·rfl
 ·simp only[Bool.or_eq_true,Bool.not_eq_true',decide_eq_false_iff_not,Bool.and_eq_true,decide_eq_true_eq]
  rcases h2 with h2|h2|h2
  ·exact .inl (.inl h2)
  ·exact .inl (.inr h2)
  ·exact .inr h2
theorem Q8v{p:Nat}(h:D[p]? =some c)(h1:¬(b=true/\(c.toNat:Int)=stop))(hd:48<=c.toNat/\c.toNat<=57)(hz:¬(b=true/\n=0))(hm:¬mx<10*n+((c.toNat:Int) - 48)):Y3 stop mx (D.drop p) b n p=Y3 stop mx (D.drop (p+1)) true (10*n+((c.toNat:Int) - 48)) (p+1):=by
 rw[Zw h,Y3,if_neg (by simpa using h1),if_neg];simp only[Bool.or_eq_true,Bool.not_eq_true',decide_eq_false_iff_not,Bool.and_eq_true,decide_eq_true_eq,not_or,Decidable.not_not];exact⟨⟨hd,hz⟩,hm⟩
theorem Qf3(h:Jj W z B g F D p){r:Rl}{sb sn sp:Value}(hmx:0<=r.mx/\r.mx<=999999999)(hst:¬(48<=r.stop/\r.stop<=57)):Calls Tryz.prog 98 #[.pointer (some ⟨g,0,none⟩),.agg (ruC r sb sn sp).toArray] W (NmE z g W (Y3 r.stop r.mx (D.drop p) false 0 p)):=by
 have H:=Q3 h;have hwd:=h.wd;have hp:=h.hp;have hD:=h.hD;obtain⟨name,kind,bs,size,big,mn,mx,stop,count,elem,names,parts⟩:=r;simp only[ruC] at hmx hst ⊢;obtain⟨RES,hres⟩:∃r,Y3 stop mx (D.drop p) false 0 p=r:=⟨_,rfl⟩;have HR0:=Q3 hres;rw[hres];clear h hres;obtain⟨Af,As,Ad,nn,nd,cf,cs,cd⟩:=z;go_enter Tryz.func98,Tryz.ntmps98;haveI:Pan (bodyPost Tryz.prog Tryz.f98 (NmE ⟨Af,As,Ad,nn,nd,cf,cs,cd⟩ g W RES)) (Qfq RES g W):=Pan.body fun ch w' ⟨x,h1,h2,h3⟩=>JF
 refine Qy (M:=[g]) (W:=W) (N:=83) (E:=[J9,QhH]) (O:=Qcx) ?_ mc3 hwd;clear hwd;refine yq<|yr ?_;refine yB fun b3=>?_;refine yo zA<|yl<|yn<|yq<|Xh Q5 Q5 ?_;refine Q4W ?_;refine Q9 (zB 1) ?_;refine Q9 zA ?_;refine QkA ?_;refine yn<|yb ?_;refine Zb (ι:=Nat×Int) (fun y=>p+y.1<=D.length/\RES=Y3 stop mx (D.drop (p+y.1)) (decide (0<y.1)) y.2 (p+y.1)/\0<=y.2/\y.2<=999999999) (fun y=>D.length - y.1) (fun y=>[J9,Qfa,(5,.int .i64 y.2),(6,.int .i64 (p:Int))]) (fun y=>[.blk b3 (.cells ([.string QuU,.int .i64 kind,sb,.int .i64 size,.bool big,.int .i64 mn,.int .i64 mx,.int .i64 stop,.int .i64 count,.int .i64 elem,sn,sp]:List Value).toArray 65 (0,0)),.blk g (.cells ([.slice Af nn cf,.slice As nn cs,.slice Ad nd cd,.int .i64 ((p+y.1:Nat):Int)]:List Value).toArray 60 (0,0))]) (0,0) ⟨hp,HR0.out.symm,by decide,by decide⟩ mc1 Y2 ?_;rintro⟨i,n⟩ ⟨hpi,hres,hn0,hn1⟩;have HRES:=Q3 hres;clear hres;simp only at hpi hn0 hn1;show sE _ _ _ _ _ [J9,Qfa,(5,.int .i64 n),(6,.int .i64 (p:Int))] QjS _;cases hc:D[p+i]? with
 |none=>
  have HE:=Q3 (show RES=some Q3g by rw[HRES.out];exact QlS hc);have HC:=Q3 hc;clear hc;refine yb<|yq<|yr<|yo zM ?_;exact J4 Qso rfl Q1 Q0b
 |some c=>
  have hlt:p+i<D.length:=(List.getElem?_eq_some_iff.1 hc).1;have HC:=Q3 hc;have hcv:=Ya c;have hct:=c.toNat_lt;clear hc;refine yb<|yq<|yr<|yo zM ?_;refine Q4 (Qg rfl rfl Q1 rfl rfl (fun w hw=>Q2G (H.out.next hw.k hpi Q1p) HC.out)) ?_;refine yo zA<|yl<|yn ?_;obtain⟨dg,hdg⟩:∃dg,decide (48<=c.toNat/\c.toNat<=57)=dg:=⟨_,rfl⟩;refine Qj2 (ι:=Unit) QgN (fun _=>[J9,Qfa,(5,.int .i64 n),(6,.int .i64 (p:Int)),(7,.int .u8 QqO),(8,.bool dg)]) (fun _=>QjS) ?_ (fun _ _=>?_)
  ·by_cases h48:c.toNat<48
   ·obtain rfl:dg=false:=by rw[<- hdg];exact Qh6
    refine yr<|yo zM<|yo zhf<|yo zM<|yo zS<|yo zS<|yo zN<|yo zA<|yl ?_;exact Qfm
   ·by_cases h57:c.toNat<=57
    ·obtain rfl:dg=true:=by rw[<- hdg];exact decide_eq_true Q2
     refine yr<|yo zM<|yo zht<|yo zM<|yo zM<|yo zqt<|yo zY<|yo zA<|yl ?_;exact Qfm
    ·obtain rfl:dg=false:=by rw[<- hdg];exact Qh6
     refine yr<|yo zM<|yo zht<|yo zM<|yo zM<|yo zqf<|yo zY<|yo zA<|yl ?_;exact Qfm
  ·by_cases hs:(c.toNat:Int)=stop
   ·have hq:((c.toNat:Int)==stop)=true:=beq_iff_eq.2 hs
    obtain rfl:dg=false:=by rw[<- hdg];exact Qh6
    by_cases hi:0<i
    ·have HE:=Q3 (show RES=some (.ok (n,p+i+1)) by rw[HRES.out];exact Qia HC.out (decide_eq_true hi) hs);refine Qsq ?_;refine yo zF<|yo (zB 1)<|yo zM<|yo zgt<|yo zY<|yo zA<|yl<|yn<|y1<|yq<|yr<|yo zM ?_;refine QkB ?_;refine yl<|yn<|yq<|yr<|yo zM<|yo zA<|yl<|yn<|yt<|yk<|yc<|yk<|yc<|yk ?_;exact Qb mc4 rfl (.tmp rfl) (fun w hw=>⟨hw.k,.inr ⟨n,p+i+1,HE.out,rfl,hw.own 1 _ rfl⟩⟩)
    ·have HE:=Q3 (show RES=some Q3g by rw[HRES.out];exact Q34 HC.out (fun h=>hi (of_decide_eq_true h.1)) (.inl Q2));refine Qsq ?_;refine yo zF<|yo (zB 1)<|yo zM<|yo zgf<|yo zY<|yo zA<|yl<|yn<|y0<|yq<|yq<|yr<|yo zM<|yo zO<|yo zA<|yl<|yn<|y1<|ys<|yn<|y1<|yr<|yo zM ?_;refine QbB ?_;exact Q7k
   ·have hq:((c.toNat:Int)==stop)=false:=beq_eq_false_iff_ne.2 hs
    cases dg with
    |false=>
     have hnd:¬(48<=c.toNat/\c.toNat<=57):=of_decide_eq_false hdg;have HE:=Q3 (show RES=some Q3g by rw[HRES.out];exact Q34 HC.out (fun h=>hs h.2) (.inl hnd));refine yq<|yb<|yq<|yr<|yo zM ?_;refine Q4 Q6g ?_;refine yo zF<|yo (zB 0)<|yo zea<|yo zM<|yo zS<|yo zS<|yo zS<|yo zS<|yo zS<|yo zS<|yo zN<|yo zA<|yl<|yn<|y0<|yq<|yq<|yr<|yo zM<|yo zO<|yo zA<|yl<|yn<|y1<|ys<|yn<|y1<|yr<|yo zM ?_;refine QbB ?_;exact Q7k
    |true=>
     have hdd:48<=c.toNat/\c.toNat<=57:=of_decide_eq_true hdg;have hsub:IntKind.u8.wrap ((c.toNat:Int) - 48)=(c.toNat:Int) - 48:=IntWalk.u8_in _ Q2;have hcv2:IntKind.i64.wrap ((c.toNat:Int) - 48)=(c.toNat:Int) - 48:=Q1T;by_cases hz:0<i/\n=0
     ·have HE:=Q3 (show RES=some Q3g by rw[HRES.out];exact Q34 HC.out (fun h=>hs h.2) (.inr (.inl ⟨decide_eq_true hz.1,hz.2⟩)));obtain⟨hi,rfl⟩:=hz;refine Qus ?_;refine yo zF<|yo (zB 1)<|yo zM<|yo zgt<|yo zM<|yo zM<|yo zet<|yo zY<|yo zA<|yl<|yn<|y1<|ys<|yn<|y1<|yr<|yo zM ?_;refine QbB ?_;exact Q7k
     ·by_cases hi:0<i
      ·have hne:(n==0)=false:=beq_eq_false_iff_ne.2 (fun h=>hz ⟨hi,h⟩)
       by_cases hm:mx<10*n+((c.toNat:Int) - 48)
       ·have HE:=Qsm;refine Quu ?_;refine QoE ?_;exact Q7k
       ·have HN:=Q3 (show RES=Y3 stop mx (D.drop (p+(i+1))) (decide (0<i+1)) (10*n+((c.toNat:Int) - 48)) (p+(i+1)) by rw[HRES.out,Q8v HC.out (fun h=>hs h.2) hdd (fun h=>hz ⟨of_decide_eq_true h.1,h.2⟩) hm,show decide (0<i+1)=true from decide_eq_true Q2];rfl);refine yq<|yb<|yq<|yr<|yo zM ?_;refine Q4 Q6g ?_;refine yo zF<|yo (zB 0)<|yo zea<|yo zM<|yo zS<|yo zS<|yo zS<|yo zS<|yo zS<|yo zS<|yo zN<|yo zA<|yl<|yn<|y0<|yq<|yq<|yr<|yo zM<|yo zO<|yo zA<|yl<|yn<|y0<|yq<|yr<|yo zM ?_;refine Q4 mc5 ?_;refine yo zF<|yo (zB 1)<|yo zM<|yo zgt<|yo zM<|yo zM<|yo zea<|yo zY<|yo zA<|yl<|yn<|y0<|yr<|yo zM ?_;refine Q4 Q7l ?_;refine yo zM ?_;refine Q4 (Q7e (k:=.u8) rfl rfl Q1 rfl rfl rfl hsub) ?_;refine Q4 (Yk rfl rfl Q1 rfl rfl rfl Tryz.underlying3 hcv2) ?_;refine yo zP<|yo zF<|yo (zB 0)<|yo zgf<|yo zA<|yl<|yn<|y0<|ys<|yn<|yq<|yr<|yo zM ?_;refine Q4 Q7l ?_;refine yo zM ?_;refine Q4 (Q7e (k:=.u8) rfl rfl Q1 rfl rfl rfl hsub) ?_;refine Q4 (Yk rfl rfl Q1 rfl rfl rfl Tryz.underlying3 hcv2) ?_;refine yo zP<|yo zA<|yl<|yn<|yr<|yo zM ?_;refine Q4 mc5 ?_;refine yo zF<|yo (zB 1)<|yo zP ?_;refine Q4 mc5 ?_;refine yo zF ?_;refine yS 1 ?_;refine yl<|yd ?_;refine X7 (i+1,10*n+((c.toNat:Int) - 48)) ⟨hlt,HN.out,by show 0<=10*n+((c.toNat:Int) - 48);omega,by show 10*n+((c.toNat:Int) - 48)<=999999999;omega⟩ (by show D.length - (i+1)<D.length - i;omega) (.cons rfl rfl (.cons rfl rfl (.cons rfl rfl (.cons rfl rfl .nil)))) (fun w hw=>hw)
      ·skip
       by_cases hm:mx<10*n+((c.toNat:Int) - 48)
       ·have HE:=Qsm;refine Qtm ?_;refine QoE ?_;exact Q7k
       ·have HN:=Q3 (show RES=Y3 stop mx (D.drop (p+(i+1))) (decide (0<i+1)) (10*n+((c.toNat:Int) - 48)) (p+(i+1)) by rw[HRES.out,Q8v HC.out (fun h=>hs h.2) hdd (fun h=>hz ⟨of_decide_eq_true h.1,h.2⟩) hm,show decide (0<i+1)=true from decide_eq_true Q2];rfl);refine yq<|yb<|yq<|yr<|yo zM ?_;refine Q4 Q6g ?_;refine yo zF<|yo (zB 0)<|yo zea<|yo zM<|yo zS<|yo zS<|yo zS<|yo zS<|yo zS<|yo zS<|yo zN<|yo zA<|yl<|yn<|y0<|yq<|yq<|yr<|yo zM<|yo zO<|yo zA<|yl<|yn<|y0<|yq<|yr<|yo zM ?_;refine Q4 mc5 ?_;refine yo zF<|yo (zB 1)<|yo zM<|yo zgf<|yo zM<|yo zS<|yo zS<|yo zN<|yo zA<|yl<|yn<|y0<|yr<|yo zM ?_;refine Q4 Q7l ?_;refine yo zM ?_;refine Q4 (Q7e (k:=.u8) rfl rfl Q1 rfl rfl rfl hsub) ?_;refine Q4 (Yk rfl rfl Q1 rfl rfl rfl Tryz.underlying3 hcv2) ?_;refine yo zP<|yo zF<|yo (zB 0)<|yo zgf<|yo zA<|yl<|yn<|y0<|ys<|yn<|yq<|yr<|yo zM ?_;refine Q4 Q7l ?_;refine yo zM ?_;refine Q4 (Q7e (k:=.u8) rfl rfl Q1 rfl rfl rfl hsub) ?_;refine Q4 (Yk rfl rfl Q1 rfl rfl rfl Tryz.underlying3 hcv2) ?_;refine yo zP<|yo zA<|yl<|yn<|yr<|yo zM ?_;refine Q4 mc5 ?_;refine yo zF<|yo (zB 1)<|yo zP ?_;refine Q4 mc5 ?_;refine yo zF ?_;refine yS 1 ?_;refine yl<|yd ?_;refine X7 (i+1,10*n+((c.toNat:Int) - 48)) ⟨hlt,HN.out,by show 0<=10*n+((c.toNat:Int) - 48);omega,by show 10*n+((c.toNat:Int) - 48)<=999999999;omega⟩ (by show D.length - (i+1)<D.length - i;omega) (.cons rfl rfl (.cons rfl rfl (.cons rfl rfl (.cons rfl rfl .nil)))) (fun w hw=>hw)
end
end
end Go.Proofs.YtphkhfdmlcnoeaaGreatDoor
