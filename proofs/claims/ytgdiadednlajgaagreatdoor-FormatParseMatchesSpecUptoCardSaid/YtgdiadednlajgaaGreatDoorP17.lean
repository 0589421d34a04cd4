import Derived.Test.YtgdiadednlajgaaGreatDoorP15
namespace Go.Proofs.YtgdiadednlajgaaGreatDoor
set_option linter.unusedVariables false
set_option linter.unusedSimpArgs false
open Go.RowKit
instance :YR Tryz.prog 63 (X2 (fun _=>false)):=⟨.agg (X2 (fun _=>false)).toArray,by kernel_rfl,rfl⟩
theorem Qbb{cs us:List Value}(h:us.length=cs.length):Vy cs 0 us=us:=by
 refine List.ext_getElem? fun i=>?_
 rw[Y1]
 split
 ·rw[Nat.sub_zero]
 ·next hn=>
  rw[List.getElem?_eq_none (by omega),List.getElem?_eq_none (by omega)]
theorem J9(st:Nat→Bool):(X2 st).all (·.oneCell')=true:=by
 rw[List.all_eq_true];intro v hv
 simp only[X2,List.mem_map] at hv
 obtain⟨j,_,rfl⟩:=hv
 rfl
def noS:Nat→Bool:=fun _=>false
def Q0A(k:Int)(bs:List UInt8)(size:Int)(big:Bool)(mn mx stop:Int):Nat→Bool:=
 if k=1 then fun j=>j==(bs.headD 0).toNat
 else if k=2 then (if big then J4 noS (mn / 2 ^ (8*(size - 1)).toNat) (mx / 2 ^ (8*(size - 1)).toNat) else J4 noS mn (min mx (mn+256 - 1)))
 else if k=3 then J4 noS 48 (48+min mx 9)
 else if k=4 then J4 noS 0 255
 else if k=5 then (if 0<size then J4 noS 0 255 else fun j=>decide ((j:Int)=stop))
 else if k=9 then fun j=>decide ((j:Int)=stop)
 else noS
theorem QcK{m:Int}{n:Nat}(h:0≤m):0≤m / 2 ^ n:=Int.ediv_nonneg h (Int.pow_nonneg (by decide))
theorem Qbz{m:Int}{n:Nat}(h:0≤m∧m≤4294967295):m / 2 ^ n≤1099511627776:=by
 have h1:m / 2 ^ n≤m:=Int.ediv_le_self _ h.1
 omega
def JR(W:World)(st:Nat→Bool)(e:Ending)(w':World):Prop:=e=.returned (.agg (X2 st).toArray)∧Below W.heap.size W w'
theorem JG{W w:World}{st st':Nat→Bool}{cs:List Value}{O:List Qg}(hc:cs.length=256)(hs:X2 st'=X2 st)(hw:Wd [] W O w):JR W st (.returned (.agg (Vy cs 0 (X2 st')).toArray)) w:=
 ⟨by rw[Qbb (by rw[Qn,hc]),hs],hw.k.below⟩
theorem Q1C{M:List Nat}{W w:World}{O:List Qg}{i b:Nat}{st:Nat→Bool}{lo hi:Int}(hO:O[i]? =some (.blk b (.cells (X2 st).toArray 63 (0,0))))(h0:0≤lo)(h1:hi≤1099511627776)(h2:lo≤1099511627776)(hw:Wd M W O w):
  Calls Tryz.prog 89 (#[.int .i64 lo,.int .i64 hi]++#[.pointer (some ⟨b,0,none⟩)]) w (QW (fun _:Unit=>.tuple #[]) (fun _=>True) M W (fun _=>O.set i (.blk b (.cells (X2 (J4 st lo hi)).toArray 63 (0,0))))):=
 (Q8E (hw.blk0 hO) h0 h1 h2).mono fun e w' ⟨he,hb,hk⟩=>⟨(),he,trivial,hw.keep1 hO hk hb⟩
set_option maxRecDepth 100000 in
theorem QeS{a0 a8 a9 a10 a11:Value}{Ab:Option Addr}{nb cb:Nat}{bs:List UInt8}{size mn mx stop:Int}{big:Bool}(W:World)(hb:Rd W W.heap.size 1 Ab nb (bv bs))(hn:0<nb):
  Calls Tryz.prog 53 #[.agg #[a0,.int .i64 1,.slice Ab nb cb,.int .i64 size,.bool big,.int .i64 mn,.int .i64 mx,.int .i64 stop,a8,a9,a10,a11]] W (JR W (Q0A 1 bs size big mn mx stop)):=by
 go_enter Tryz.func53,Tryz.ntmps53
 refine QE (M:=[]) (W:=W) (N:=84) (E:=[(0,.agg #[a0,.int .i64 1,.slice Ab nb cb,.int .i64 size,.bool big,.int .i64 mn,.int .i64 mx,.int .i64 stop,a8,a9,a10,a11])]) (O:=[]) ?_ (Ag.cons (Ag.nil rfl rfl) rfl) (Wd.start [] W)
 repeat(first|refine Q1 zA ?_|refine Q1 zF ?_|refine Q1 (zB 2) ?_|refine yB fun br=>?_|refine yA fun b2=>?_|refine Q8 ?_|refine Q6 ?_|refine Q2 ?_|refine Q5 rfl ?_|refine Qe ?_|refine Q1 (XB rfl rfl (by decide) rfl rfl rfl (by first|exact beq_iff_eq.2 (by omega)|rfl)) ?_|refine Q1 zu ?_)
 obtain⟨bb,ob,u,rfl,hlt,hu,hcell⟩:=hb.at_ hn
 obtain⟨c,hc⟩:∃c,bs[0]? =some c:=by
  unfold bv at hu
  rw[List.getElem?_map] at hu
  cases e:bs[0]? with
  |none=>rw[e] at hu;cases hu
  |some c=>exact⟨c,rfl⟩
 have hu':u=.int .u8 (c.toNat:Int):=by
  unfold bv at hu
  rw[List.getElem?_map,hc] at hu;exact(Option.some.inj hu).symm
 subst hu'
 have hhd:bs.headD 0=c:=by cases bs with|nil=>cases hc|cons x l=>simp at hc;simpa using hc
 have hlt256:c.toNat<256:=c.toNat_lt
 repeat(first|refine Q1 zC ?_|refine Q1 (zi1 (j:=0) (hj:=hn)) ?_|refine Q1 (XY (j:=c.toNat) rfl rfl (by decide) rfl rfl rfl hlt256) ?_|refine Qq (Zp 0 rfl rfl rfl rfl rfl rfl (ZN _ (show 0+c.toNat*1<256 by omega))) rfl (fun _ _=>?_)|refine Q8 ?_|refine Q6 ?_|refine Q2 ?_)
 show lE _ _ _ _ _ _ _ [Qg.blk b2 (.cells ((X2 (fun _=>false)).set (0+c.toNat*1) (.bool true)).toArray 63 (0,0)),_,_] _
 rw[Nat.zero_add,Nat.mul_one,Y2]
 refine Q1 (X8 (cs:=X2 _) rfl rfl (by decide) rfl rfl (fun w hw=>hw.range_blk 0 rfl) (Qn _)) ?_;refine Qq (Qs 1 rfl rfl rfl rfl (J9 _) (Qn _) rfl (by simp [Qn])) rfl (fun _ _=>?_)
 repeat(first|refine Q8 ?_|refine Ql ?_)
 refine Q9 (.inr rfl) rfl (RsV.blk 1 rfl rfl (by rw[XQ,Qn])) (fun w hw=>JG (Qn _) ?_ hw)
 refine Jm fun j hj=>?_
 show (if j=c.toNat then true else false)=(j==(bs.headD 0).toNat)
 rw[hhd]
 by_cases h:j=c.toNat<;>simp [h]
set_option maxRecDepth 100000 in
theorem QdX{a0 a8 a9 a10 a11:Value}{Ab:Option Addr}{nb cb:Nat}{bs:List UInt8}{size mn mx stop:Int}{big:Bool}(W:World)(hs:1≤size∧size≤4)(hm:0≤mn∧mn≤mx∧mx≤4294967295):
  Calls Tryz.prog 53 #[.agg #[a0,.int .i64 2,.slice Ab nb cb,.int .i64 size,.bool true,.int .i64 mn,.int .i64 mx,.int .i64 stop,a8,a9,a10,a11]] W (JR W (Q0A 2 bs size true mn mx stop)):=by
 go_enter Tryz.func53,Tryz.ntmps53
 refine QE (M:=[]) (W:=W) (N:=84) (E:=[(0,.agg #[a0,.int .i64 2,.slice Ab nb cb,.int .i64 size,.bool true,.int .i64 mn,.int .i64 mx,.int .i64 stop,a8,a9,a10,a11])]) (O:=[]) ?_ (Ag.cons (Ag.nil rfl rfl) rfl) (Wd.start [] W)
 repeat(first|refine Q1 zM ?_|refine Q1 zA ?_|refine Q1 zF ?_|refine Q1 (zB 2) ?_|refine yB fun br=>?_|refine yA fun b2=>?_|refine Q8 ?_|refine Q6 ?_|refine Q2 ?_|refine Q5 rfl ?_|refine Q3 rfl ?_|refine Qe ?_|refine Q1 (XB rfl rfl (by decide) rfl rfl rfl (by first|exact beq_iff_eq.2 (by omega)|exact beq_eq_false_iff_ne.2 (by omega)|rfl)) ?_|refine Q1 zY ?_|refine Q1 zQ ?_|refine Q1 zu ?_)
 repeat(first|refine Q1 zA ?_|refine Q1 (Q56 (k:=.i64) rfl rfl (by decide) rfl rfl rfl (IntWalk.i64_in _ (by omega))) ?_|refine Q8 ?_)
 refine Zs [.blk br (.cells [a0,.int .i64 2,.slice Ab nb cb,.int .i64 size,.bool true,.int .i64 mn,.int .i64 mx,.int .i64 stop,a8,a9,a10,a11].toArray 52 (0,0))] [] (by kernel_rfl) ?_;refine Qk 0 rfl (by kernel_rfl) (Q7.sel [2] (by decide) rfl) zM ?_;refine Qk 1 rfl (by kernel_rfl) (Q7.sel [2] (by decide) rfl) zF ?_;refine Qk 2 rfl (by kernel_rfl) (Q7.sel [2] (by decide) rfl) (zB 0) ?_;refine Qk 3 rfl (by kernel_rfl) (Q7.sel [2] (by decide) rfl) zM ?_;refine Qk 4 rfl (by kernel_rfl) (Q7.sel [2] (by decide) rfl) (QdG rfl rfl (by decide) rfl rfl rfl (by omega) (by omega)) ?_;refine Qk 5 rfl (by kernel_rfl) (Q7.sel [2] (by decide) rfl) zF ?_;refine Qk 6 rfl (by kernel_rfl) (Q7.sel [2] (by decide) rfl) (zB 0) ?_;refine Qk 7 rfl (by kernel_rfl) (Q7.sel [2] (by decide) rfl) zM ?_;refine Qk 8 rfl (by kernel_rfl) (Q7.sel [2] (by decide) rfl) (QdG rfl rfl (by decide) rfl rfl rfl (by omega) (by omega)) ?_;refine ZR 9 (by kernel_rfl) rfl rfl (ZO (fun _:Unit=>.tuple #[]) (fun _=>True) (fun _=>_) rfl rfl rfl rfl (fun w hw=>Q1C (i:=0) rfl (QcK hm.1) (Qbz (by omega)) (Qbz (by omega)) hw)) (fun _=>.inr (Q7.sel [2] (by decide) rfl)) rfl (by decide) (fun _ _=>?_);refine Zc ?_ (by kernel_rfl)
 repeat(first|refine Q1 (zD 0) ?_|refine Q6 ?_|refine Q2 ?_)
 refine Qq (Qs 1 rfl rfl rfl rfl (J9 _) (Qn _) rfl (by simp [Qn])) rfl (fun _ _=>?_)
 repeat(first|refine Q8 ?_|refine Ql ?_)
 refine Q9 (.inr rfl) rfl (RsV.blk 1 rfl rfl (by rw[XQ,Qn])) (fun w hw=>JG (Qn _) ?_ hw)
 rfl
set_option maxRecDepth 100000 in
theorem Qe1{a0 a8 a9 a10 a11:Value}{Ab:Option Addr}{nb cb:Nat}{bs:List UInt8}{size mn mx stop:Int}{big:Bool}(W:World)(hm:0≤mn∧mn≤mx∧mx≤4294967295):
  Calls Tryz.prog 53 #[.agg #[a0,.int .i64 2,.slice Ab nb cb,.int .i64 size,.bool false,.int .i64 mn,.int .i64 mx,.int .i64 stop,a8,a9,a10,a11]] W (JR W (Q0A 2 bs size false mn mx stop)):=by
 go_enter Tryz.func53,Tryz.ntmps53
 refine QE (M:=[]) (W:=W) (N:=84) (E:=[(0,.agg #[a0,.int .i64 2,.slice Ab nb cb,.int .i64 size,.bool false,.int .i64 mn,.int .i64 mx,.int .i64 stop,a8,a9,a10,a11])]) (O:=[]) ?_ (Ag.cons (Ag.nil rfl rfl) rfl) (Wd.start [] W)
 repeat(first|refine Q1 zM ?_|refine Q1 zA ?_|refine Q1 zF ?_|refine Q1 (zB 2) ?_|refine yB fun br=>?_|refine yA fun b2=>?_|refine Q8 ?_|refine Q6 ?_|refine Q2 ?_|refine Q5 rfl ?_|refine Q3 rfl ?_|refine Qe ?_|refine Q1 (XB rfl rfl (by decide) rfl rfl rfl (by first|exact beq_iff_eq.2 (by omega)|exact beq_eq_false_iff_ne.2 (by omega)|rfl)) ?_|refine Q1 zY ?_|refine Q1 zP ?_|refine Q1 zQ ?_|refine Q1 zu ?_)
 repeat(first|refine Q1 (zD 0) ?_|refine Q1 (Q7u rfl rfl (by decide) rfl rfl rfl) ?_|refine Qa (ZO (fun _:Unit=>.tuple #[]) (fun _=>True) (fun _=>_) rfl rfl rfl rfl (fun w hw=>Q1C (i:=0) rfl (by omega) (by omega) (by omega) hw)) rfl (by decide) (fun _ _=>?_)|refine Q8 ?_|refine Q6 ?_|refine Q2 ?_)
 refine Qq (Qs 1 rfl rfl rfl rfl (J9 _) (Qn _) rfl (by simp [Qn])) rfl (fun _ _=>?_)
 repeat(first|refine Q8 ?_|refine Ql ?_)
 refine Q9 (.inr rfl) rfl (RsV.blk 1 rfl rfl (by rw[XQ,Qn])) (fun w hw=>JG (Qn _) ?_ hw)
 rfl
set_option maxRecDepth 100000 in
theorem Qf8{a0 a8 a9 a10 a11:Value}{Ab:Option Addr}{nb cb:Nat}{bs:List UInt8}{size mn mx stop:Int}{big:Bool}(W:World)(hm:0≤mx∧mx≤999999999):
  Calls Tryz.prog 53 #[.agg #[a0,.int .i64 3,.slice Ab nb cb,.int .i64 size,.bool big,.int .i64 mn,.int .i64 mx,.int .i64 stop,a8,a9,a10,a11]] W (JR W (Q0A 3 bs size big mn mx stop)):=by
 go_enter Tryz.func53,Tryz.ntmps53
 refine QE (M:=[]) (W:=W) (N:=84) (E:=[(0,.agg #[a0,.int .i64 3,.slice Ab nb cb,.int .i64 size,.bool big,.int .i64 mn,.int .i64 mx,.int .i64 stop,a8,a9,a10,a11])]) (O:=[]) ?_ (Ag.cons (Ag.nil rfl rfl) rfl) (Wd.start [] W)
 repeat(first|refine Q1 zM ?_|refine Q1 zA ?_|refine Q1 zF ?_|refine Q1 (zB 2) ?_|refine yB fun br=>?_|refine yA fun b2=>?_|refine Q8 ?_|refine Q6 ?_|refine Q2 ?_|refine Q5 rfl ?_|refine Q3 rfl ?_|refine Qe ?_|refine Q1 (XB rfl rfl (by decide) rfl rfl rfl (by first|exact beq_iff_eq.2 (by omega)|exact beq_eq_false_iff_ne.2 (by omega)|rfl)) ?_|refine Q1 zN ?_|refine Q1 zu ?_|refine Q1 zS ?_)
 repeat(first|refine Q1 (zD 0) ?_|refine Q1 (Q7u rfl rfl (by decide) rfl rfl rfl) ?_|refine Qa (ZO (fun _:Unit=>.tuple #[]) (fun _=>True) (fun _=>_) rfl rfl rfl rfl (fun w hw=>Q1C (i:=0) rfl (by omega) (by omega) (by omega) hw)) rfl (by decide) (fun _ _=>?_)|refine Q8 ?_|refine Q6 ?_|refine Q2 ?_|refine Q1 zP ?_)
 refine Qq (Qs 1 rfl rfl rfl rfl (J9 _) (Qn _) rfl (by simp [Qn])) rfl (fun _ _=>?_)
 repeat(first|refine Q8 ?_|refine Ql ?_)
 refine Q9 (.inr rfl) rfl (RsV.blk 1 rfl rfl (by rw[XQ,Qn])) (fun w hw=>JG (Qn _) ?_ hw)
 rfl
set_option maxRecDepth 100000 in
theorem QeR{a0 a8 a9 a10 a11:Value}{Ab:Option Addr}{nb cb:Nat}{bs:List UInt8}{size mn mx stop:Int}{big:Bool}(W:World):
  Calls Tryz.prog 53 #[.agg #[a0,.int .i64 4,.slice Ab nb cb,.int .i64 size,.bool big,.int .i64 mn,.int .i64 mx,.int .i64 stop,a8,a9,a10,a11]] W (JR W (Q0A 4 bs size big mn mx stop)):=by
 go_enter Tryz.func53,Tryz.ntmps53
 refine QE (M:=[]) (W:=W) (N:=84) (E:=[(0,.agg #[a0,.int .i64 4,.slice Ab nb cb,.int .i64 size,.bool big,.int .i64 mn,.int .i64 mx,.int .i64 stop,a8,a9,a10,a11])]) (O:=[]) ?_ (Ag.cons (Ag.nil rfl rfl) rfl) (Wd.start [] W)
 repeat(first|refine Q1 zM ?_|refine Q1 zA ?_|refine Q1 zF ?_|refine Q1 (zB 2) ?_|refine yB fun br=>?_|refine yA fun b2=>?_|refine Q8 ?_|refine Q6 ?_|refine Q2 ?_|refine Qh ?_|refine Q5 rfl ?_|refine Q3 rfl ?_|refine Qe ?_|refine Q1 (XB rfl rfl (by decide) rfl rfl rfl (by first|exact beq_iff_eq.2 (by omega)|exact beq_eq_false_iff_ne.2 (by omega)|rfl)) ?_|refine Q1 zN ?_|refine Q1 zu ?_|refine Q1 zS ?_)
 repeat(first|refine Q1 (zD 0) ?_|refine Qa (ZO (fun _:Unit=>.tuple #[]) (fun _=>True) (fun _=>_) rfl rfl rfl rfl (fun w hw=>Q1C (i:=0) rfl (by omega) (by omega) (by omega) hw)) rfl (by decide) (fun _ _=>?_)|refine Q8 ?_|refine Q6 ?_|refine Q2 ?_)
 refine Qq (Qs 1 rfl rfl rfl rfl (J9 _) (Qn _) rfl (by simp [Qn])) rfl (fun _ _=>?_)
 repeat(first|refine Q8 ?_|refine Ql ?_)
 refine Q9 (.inr rfl) rfl (RsV.blk 1 rfl rfl (by rw[XQ,Qn])) (fun w hw=>JG (Qn _) ?_ hw)
 rfl
set_option maxRecDepth 100000 in
theorem QdO{a0 a8 a9 a10 a11:Value}{Ab:Option Addr}{nb cb:Nat}{bs:List UInt8}{size mn mx stop:Int}{big:Bool}(W:World)(hs:0<size):
  Calls Tryz.prog 53 #[.agg #[a0,.int .i64 5,.slice Ab nb cb,.int .i64 size,.bool big,.int .i64 mn,.int .i64 mx,.int .i64 stop,a8,a9,a10,a11]] W (JR W (Q0A 5 bs size big mn mx stop)):=by
 go_enter Tryz.func53,Tryz.ntmps53
 refine QE (M:=[]) (W:=W) (N:=84) (E:=[(0,.agg #[a0,.int .i64 5,.slice Ab nb cb,.int .i64 size,.bool big,.int .i64 mn,.int .i64 mx,.int .i64 stop,a8,a9,a10,a11])]) (O:=[]) ?_ (Ag.cons (Ag.nil rfl rfl) rfl) (Wd.start [] W)
 repeat(first|refine Q1 zM ?_|refine Q1 zA ?_|refine Q1 zF ?_|refine Q1 (zB 2) ?_|refine yB fun br=>?_|refine yA fun b2=>?_|refine Q8 ?_|refine Q6 ?_|refine Q2 ?_|refine Q5 rfl ?_|refine Q3 rfl ?_|refine Qe ?_|refine Q1 (XB rfl rfl (by decide) rfl rfl rfl (by first|exact beq_iff_eq.2 (by omega)|exact beq_eq_false_iff_ne.2 (by omega)|rfl)) ?_|refine Q1 zgt ?_|refine Q1 zY ?_|refine Q1 zN ?_|refine Q1 zu ?_|refine Q1 zS ?_)
 repeat(first|refine Q1 (zD 0) ?_|refine Qa (ZO (fun _:Unit=>.tuple #[]) (fun _=>True) (fun _=>_) rfl rfl rfl rfl (fun w hw=>Q1C (i:=0) rfl (by omega) (by omega) (by omega) hw)) rfl (by decide) (fun _ _=>?_)|refine Q8 ?_|refine Q6 ?_|refine Q2 ?_)
 refine Qq (Qs 1 rfl rfl rfl rfl (J9 _) (Qn _) rfl (by simp [Qn])) rfl (fun _ _=>?_)
 repeat(first|refine Q8 ?_|refine Ql ?_)
 refine Q9 (.inr rfl) rfl (RsV.blk 1 rfl rfl (by rw[XQ,Qn])) (fun w hw=>JG (Qn _) ?_ hw);exact congrArg X2 (by rw[Q0A,if_neg (by decide),if_neg (by decide),if_neg (by decide),if_neg (by decide),if_pos rfl,if_pos hs];rfl)
set_option maxRecDepth 100000 in
theorem QdU{a0 a8 a9 a10 a11:Value}{Ab:Option Addr}{nb cb:Nat}{bs:List UInt8}{size mn mx stop:Int}{big:Bool}(W:World)(hs:size=0)(ht:0≤stop∧stop≤255):
  Calls Tryz.prog 53 #[.agg #[a0,.int .i64 5,.slice Ab nb cb,.int .i64 size,.bool big,.int .i64 mn,.int .i64 mx,.int .i64 stop,a8,a9,a10,a11]] W (JR W (Q0A 5 bs size big mn mx stop)):=by
 go_enter Tryz.func53,Tryz.ntmps53
 refine QE (M:=[]) (W:=W) (N:=84) (E:=[(0,.agg #[a0,.int .i64 5,.slice Ab nb cb,.int .i64 size,.bool big,.int .i64 mn,.int .i64 mx,.int .i64 stop,a8,a9,a10,a11])]) (O:=[]) ?_ (Ag.cons (Ag.nil rfl rfl) rfl) (Wd.start [] W)
 repeat(first|refine Q1 zM ?_|refine Q1 zA ?_|refine Q1 zF ?_|refine Q1 (zB 2) ?_|refine Q1 (zD 0) ?_|refine Q1 (zD 2) ?_|refine yB fun br=>?_|refine yA fun b2=>?_|refine Q8 ?_|refine Q6 ?_|refine Q2 ?_|refine Q3 rfl ?_|refine Qe ?_|refine Q1 zet ?_|refine Q1 zef ?_|refine Q1 (Ja rfl rfl (by decide) rfl rfl rfl (by first|exact decide_eq_false (by omega)|rfl)) ?_|refine Q1 zY ?_|refine Q1 zN ?_|refine Q1 zu ?_|refine Q1 zS ?_)
 subst hs;obtain⟨n,rfl⟩:∃n:Nat,stop=(n:Int):=⟨stop.toNat,by omega⟩
 repeat(first|refine Q1 zA ?_|refine Q1 zF ?_|refine Q1 (zB 2) ?_|refine Q1 (Q4 rfl rfl (by decide) rfl rfl (fun w hw=>QK w)) ?_|refine Q1 (XY (j:=n) rfl rfl (by decide) rfl rfl rfl (by omega)) ?_|refine Qq (Zp 0 rfl rfl rfl rfl rfl rfl (ZN _ (show 0+n*1<256 by omega))) rfl (fun _ _=>?_)|refine Q8 ?_|refine Q6 ?_|refine Q2 ?_|refine Q5 rfl ?_)
 show lE _ _ _ _ _ _ _ [Qg.blk b2 (.cells ((X2 (fun _=>false)).set (0+n*1) (.bool true)).toArray 63 (0,0)),_,_] _
 rw[Nat.zero_add,Nat.mul_one,Y2]
 refine Q1 (X8 (cs:=X2 _) rfl rfl (by decide) rfl rfl (fun w hw=>hw.range_blk 0 rfl) (Qn _)) ?_;refine Qq (Qs 1 rfl rfl rfl rfl (J9 _) (Qn _) rfl (by simp [Qn])) rfl (fun _ _=>?_)
 repeat(first|refine Q8 ?_|refine Ql ?_)
 refine Q9 (.inr rfl) rfl (RsV.blk 1 rfl rfl (by rw[XQ,Qn])) (fun w hw=>JG (Qn _) ?_ hw)
 refine Jm fun j hj=>?_
 show (if j=n then true else false)=(if (0:Int)<0 then J4 noS 0 255 j else decide ((j:Int)=(n:Int)))
 rw[if_neg (show ¬(0:Int)<0 by decide)]
 by_cases h:j=n<;>simp [h]<;>omega
set_option maxRecDepth 100000 in
theorem Qf4{a0 a8 a9 a10 a11:Value}{Ab:Option Addr}{nb cb:Nat}{bs:List UInt8}{size mn mx stop:Int}{big:Bool}(W:World)(ht:0≤stop∧stop≤255):
  Calls Tryz.prog 53 #[.agg #[a0,.int .i64 9,.slice Ab nb cb,.int .i64 size,.bool big,.int .i64 mn,.int .i64 mx,.int .i64 stop,a8,a9,a10,a11]] W (JR W (Q0A 9 bs size big mn mx stop)):=by
 go_enter Tryz.func53,Tryz.ntmps53
 refine QE (M:=[]) (W:=W) (N:=84) (E:=[(0,.agg #[a0,.int .i64 9,.slice Ab nb cb,.int .i64 size,.bool big,.int .i64 mn,.int .i64 mx,.int .i64 stop,a8,a9,a10,a11])]) (O:=[]) ?_ (Ag.cons (Ag.nil rfl rfl) rfl) (Wd.start [] W)
 repeat(first|refine Q1 zM ?_|refine Q1 zA ?_|refine Q1 zF ?_|refine Q1 (zB 2) ?_|refine Q1 (zD 0) ?_|refine Q1 (zD 2) ?_|refine yB fun br=>?_|refine yA fun b2=>?_|refine Q8 ?_|refine Q6 ?_|refine Q2 ?_|refine Q3 rfl ?_|refine Qe ?_|refine Q1 (XB rfl rfl (by decide) rfl rfl rfl (by first|exact beq_eq_false_iff_ne.2 (by omega)|rfl)) ?_|refine Q1 zN ?_|refine Q1 zu ?_|refine Q1 zS ?_)
 obtain⟨n,rfl⟩:∃n:Nat,stop=(n:Int):=⟨stop.toNat,by omega⟩
 repeat(first|refine Q1 zA ?_|refine Q1 zF ?_|refine Q1 (zB 2) ?_|refine Q1 (Q4 rfl rfl (by decide) rfl rfl (fun w hw=>QK w)) ?_|refine Q1 (XY (j:=n) rfl rfl (by decide) rfl rfl rfl (by omega)) ?_|refine Qq (Zp 0 rfl rfl rfl rfl rfl rfl (ZN _ (show 0+n*1<256 by omega))) rfl (fun _ _=>?_)|refine Q8 ?_|refine Q6 ?_|refine Q2 ?_|refine Q5 rfl ?_)
 show lE _ _ _ _ _ _ _ [Qg.blk b2 (.cells ((X2 (fun _=>false)).set (0+n*1) (.bool true)).toArray 63 (0,0)),_,_] _
 rw[Nat.zero_add,Nat.mul_one,Y2]
 refine Q1 (X8 (cs:=X2 _) rfl rfl (by decide) rfl rfl (fun w hw=>hw.range_blk 0 rfl) (Qn _)) ?_;refine Qq (Qs 1 rfl rfl rfl rfl (J9 _) (Qn _) rfl (by simp [Qn])) rfl (fun _ _=>?_)
 repeat(first|refine Q8 ?_|refine Ql ?_)
 refine Q9 (.inr rfl) rfl (RsV.blk 1 rfl rfl (by rw[XQ,Qn])) (fun w hw=>JG (Qn _) ?_ hw)
 refine Jm fun j hj=>?_
 show (if j=n then true else false)=decide ((j:Int)=(n:Int))
 skip
 by_cases h:j=n<;>simp [h]<;>omega
set_option maxRecDepth 100000 in
theorem QeW{a0 a8 a9 a10 a11:Value}{Ab:Option Addr}{nb cb:Nat}{bs:List UInt8}{size mn mx stop:Int}{big:Bool}(W:World):
  Calls Tryz.prog 53 #[.agg #[a0,.int .i64 6,.slice Ab nb cb,.int .i64 size,.bool big,.int .i64 mn,.int .i64 mx,.int .i64 stop,a8,a9,a10,a11]] W (JR W (Q0A 6 bs size big mn mx stop)):=by
 go_enter Tryz.func53,Tryz.ntmps53
 refine QE (M:=[]) (W:=W) (N:=84) (E:=[(0,.agg #[a0,.int .i64 6,.slice Ab nb cb,.int .i64 size,.bool big,.int .i64 mn,.int .i64 mx,.int .i64 stop,a8,a9,a10,a11])]) (O:=[]) ?_ (Ag.cons (Ag.nil rfl rfl) rfl) (Wd.start [] W)
 repeat(first|refine Q1 zM ?_|refine Q1 zA ?_|refine Q1 zF ?_|refine Q1 (zB 2) ?_|refine Q1 (zD 0) ?_|refine Q1 (zD 2) ?_|refine yB fun br=>?_|refine yA fun b2=>?_|refine Q8 ?_|refine Q6 ?_|refine Q2 ?_|refine Q3 rfl ?_|refine Qe ?_|refine Q1 (XB rfl rfl (by decide) rfl rfl rfl (by first|exact beq_eq_false_iff_ne.2 (by omega)|rfl)) ?_|refine Q1 zN ?_|refine Q1 zu ?_|refine Q1 zS ?_)
 repeat(first|refine Q1 zA ?_|refine Q1 (zD 0) ?_|refine Q1 (Q4 rfl rfl (by decide) rfl rfl (fun w hw=>QK w)) ?_|refine Q8 ?_|refine Q6 ?_|refine Q2 ?_|refine Qh ?_|refine Q3 rfl ?_)
 refine Qq (Qs 1 rfl rfl rfl rfl (J9 _) (Qn _) rfl (by simp [Qn])) rfl (fun _ _=>?_)
 repeat(first|refine Q8 ?_|refine Ql ?_)
 refine Q9 (.inr rfl) rfl (RsV.blk 1 rfl rfl (by rw[XQ,Qn])) (fun w hw=>JG (Qn _) ?_ hw)
 rfl
set_option maxRecDepth 100000 in
theorem Qf1{a0 a8 a9 a10 a11:Value}{Ab:Option Addr}{nb cb:Nat}{bs:List UInt8}{size mn mx stop:Int}{big:Bool}(W:World):
  Calls Tryz.prog 53 #[.agg #[a0,.int .i64 7,.slice Ab nb cb,.int .i64 size,.bool big,.int .i64 mn,.int .i64 mx,.int .i64 stop,a8,a9,a10,a11]] W (JR W (Q0A 7 bs size big mn mx stop)):=by
 go_enter Tryz.func53,Tryz.ntmps53
 refine QE (M:=[]) (W:=W) (N:=84) (E:=[(0,.agg #[a0,.int .i64 7,.slice Ab nb cb,.int .i64 size,.bool big,.int .i64 mn,.int .i64 mx,.int .i64 stop,a8,a9,a10,a11])]) (O:=[]) ?_ (Ag.cons (Ag.nil rfl rfl) rfl) (Wd.start [] W)
 repeat(first|refine Q1 zM ?_|refine Q1 zA ?_|refine Q1 zF ?_|refine Q1 (zB 2) ?_|refine Q1 (zD 0) ?_|refine Q1 (zD 2) ?_|refine yB fun br=>?_|refine yA fun b2=>?_|refine Q8 ?_|refine Q6 ?_|refine Q2 ?_|refine Q3 rfl ?_|refine Qe ?_|refine Q1 (XB rfl rfl (by decide) rfl rfl rfl (by first|exact beq_eq_false_iff_ne.2 (by omega)|rfl)) ?_|refine Q1 zN ?_|refine Q1 zu ?_|refine Q1 zS ?_)
 repeat(first|refine Q1 zA ?_|refine Q1 (zD 0) ?_|refine Q1 (Q4 rfl rfl (by decide) rfl rfl (fun w hw=>QK w)) ?_|refine Q8 ?_|refine Q6 ?_|refine Q2 ?_|refine Qh ?_|refine Q3 rfl ?_)
 refine Qq (Qs 1 rfl rfl rfl rfl (J9 _) (Qn _) rfl (by simp [Qn])) rfl (fun _ _=>?_)
 repeat(first|refine Q8 ?_|refine Ql ?_)
 refine Q9 (.inr rfl) rfl (RsV.blk 1 rfl rfl (by rw[XQ,Qn])) (fun w hw=>JG (Qn _) ?_ hw)
 rfl
set_option maxRecDepth 100000 in
theorem QeE{a0 a8 a9 a10 a11:Value}{Ab:Option Addr}{nb cb:Nat}{bs:List UInt8}{size mn mx stop:Int}{big:Bool}(W:World):
  Calls Tryz.prog 53 #[.agg #[a0,.int .i64 8,.slice Ab nb cb,.int .i64 size,.bool big,.int .i64 mn,.int .i64 mx,.int .i64 stop,a8,a9,a10,a11]] W (JR W (Q0A 8 bs size big mn mx stop)):=by
 go_enter Tryz.func53,Tryz.ntmps53
 refine QE (M:=[]) (W:=W) (N:=84) (E:=[(0,.agg #[a0,.int .i64 8,.slice Ab nb cb,.int .i64 size,.bool big,.int .i64 mn,.int .i64 mx,.int .i64 stop,a8,a9,a10,a11])]) (O:=[]) ?_ (Ag.cons (Ag.nil rfl rfl) rfl) (Wd.start [] W)
 repeat(first|refine Q1 zM ?_|refine Q1 zA ?_|refine Q1 zF ?_|refine Q1 (zB 2) ?_|refine Q1 (zD 0) ?_|refine Q1 (zD 2) ?_|refine yB fun br=>?_|refine yA fun b2=>?_|refine Q8 ?_|refine Q6 ?_|refine Q2 ?_|refine Q3 rfl ?_|refine Qe ?_|refine Q1 (XB rfl rfl (by decide) rfl rfl rfl (by first|exact beq_eq_false_iff_ne.2 (by omega)|rfl)) ?_|refine Q1 zN ?_|refine Q1 zu ?_|refine Q1 zS ?_)
 repeat(first|refine Q1 zA ?_|refine Q1 (zD 0) ?_|refine Q1 (Q4 rfl rfl (by decide) rfl rfl (fun w hw=>QK w)) ?_|refine Q8 ?_|refine Q6 ?_|refine Q2 ?_|refine Qh ?_|refine Q3 rfl ?_)
 refine Qq (Qs 1 rfl rfl rfl rfl (J9 _) (Qn _) rfl (by simp [Qn])) rfl (fun _ _=>?_)
 repeat(first|refine Q8 ?_|refine Ql ?_)
 refine Q9 (.inr rfl) rfl (RsV.blk 1 rfl rfl (by rw[XQ,Qn])) (fun w hw=>JG (Qn _) ?_ hw)
 rfl
set_option maxRecDepth 100000 in
theorem Qe7{a0 a8 a9 a10 a11:Value}{Ab:Option Addr}{nb cb:Nat}{bs:List UInt8}{size mn mx stop:Int}{big:Bool}(W:World):
  Calls Tryz.prog 53 #[.agg #[a0,.int .i64 10,.slice Ab nb cb,.int .i64 size,.bool big,.int .i64 mn,.int .i64 mx,.int .i64 stop,a8,a9,a10,a11]] W (JR W (Q0A 10 bs size big mn mx stop)):=by
 go_enter Tryz.func53,Tryz.ntmps53
 refine QE (M:=[]) (W:=W) (N:=84) (E:=[(0,.agg #[a0,.int .i64 10,.slice Ab nb cb,.int .i64 size,.bool big,.int .i64 mn,.int .i64 mx,.int .i64 stop,a8,a9,a10,a11])]) (O:=[]) ?_ (Ag.cons (Ag.nil rfl rfl) rfl) (Wd.start [] W)
 repeat(first|refine Q1 zM ?_|refine Q1 zA ?_|refine Q1 zF ?_|refine Q1 (zB 2) ?_|refine Q1 (zD 0) ?_|refine Q1 (zD 2) ?_|refine yB fun br=>?_|refine yA fun b2=>?_|refine Q8 ?_|refine Q6 ?_|refine Q2 ?_|refine Q3 rfl ?_|refine Qe ?_|refine Q1 (XB rfl rfl (by decide) rfl rfl rfl (by first|exact beq_eq_false_iff_ne.2 (by omega)|rfl)) ?_|refine Q1 zN ?_|refine Q1 zu ?_|refine Q1 zS ?_)
 repeat(first|refine Q1 zA ?_|refine Q1 (zD 0) ?_|refine Q1 (Q4 rfl rfl (by decide) rfl rfl (fun w hw=>QK w)) ?_|refine Q8 ?_|refine Q6 ?_|refine Q2 ?_|refine Qh ?_|refine Q3 rfl ?_)
 refine Qq (Qs 1 rfl rfl rfl rfl (J9 _) (Qn _) rfl (by simp [Qn])) rfl (fun _ _=>?_)
 repeat(first|refine Q8 ?_|refine Ql ?_)
 refine Q9 (.inr rfl) rfl (RsV.blk 1 rfl rfl (by rw[XQ,Qn])) (fun w hw=>JG (Qn _) ?_ hw)
 rfl
end Go.Proofs.YtgdiadednlajgaaGreatDoor
