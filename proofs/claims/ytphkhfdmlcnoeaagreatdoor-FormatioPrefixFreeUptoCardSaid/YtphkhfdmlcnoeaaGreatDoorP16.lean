import Derived.Test.YtphkhfdmlcnoeaaGreatDoorP15
namespace Go.Proofs.YtphkhfdmlcnoeaaGreatDoor
set_option linter.unusedVariables false
set_option linter.unusedSimpArgs false
open Go.RowKit
instance :Vf Tryz.prog 92 (Xd (fun _=>false)):=⟨.agg (Xd (fun _=>false)).toArray,by kernel_rfl,rfl⟩
theorem Qcy{cs us:List Value}(h:us.length=cs.length):ZD cs 0 us=us:=by
 refine List.ext_getElem? fun i=>?_
 rw[VL]
 split
 ·rw[Nat.sub_zero]
 ·next hn=>
  rw[List.getElem?_eq_none (by omega),List.getElem?_eq_none (by omega)]
theorem ZB(st:Nat→Bool):(Xd st).all (·.oneCell')=true:=by
 rw[List.all_eq_true];intro v hv
 simp only[Xd,List.mem_map] at hv
 obtain⟨j,_,rfl⟩:=hv
 rfl
def noS:Nat→Bool:=fun _=>false
def Q0E(k:Int)(bs:List UInt8)(size:Int)(big:Bool)(mn mx stop:Int):Nat→Bool:=
 if k=1 then fun j=>j==(bs.headD 0).toNat
 else if k=2 then (if big then Zv noS (mn / 2 ^ (8*(size - 1)).toNat) (mx / 2 ^ (8*(size - 1)).toNat) else Zv noS mn (min mx (mn+256 - 1)))
 else if k=3 then Zv noS 48 (48+min mx 9)
 else if k=4 then Zv noS 0 255
 else if k=5 then (if 0<size then Zv noS 0 255 else fun j=>decide ((j:Int)=stop))
 else if k=9 then fun j=>decide ((j:Int)=stop)
 else noS
theorem QcH{m:Int}{n:Nat}(h:0≤m):0≤m / 2 ^ n:=Int.ediv_nonneg h (Int.pow_nonneg (by decide))
theorem QbF{m:Int}{n:Nat}(h:0≤m∧m≤4294967295):m / 2 ^ n≤1099511627776:=by
 have h1:m / 2 ^ n≤m:=Int.ediv_le_self _ h.1
 omega
def Jp(W:World)(st:Nat→Bool)(e:Ending)(w':World):Prop:=e=.returned (.agg (Xd st).toArray)∧Below W.heap.size W w'
theorem J7{W w:World}{st st':Nat→Bool}{cs:List Value}{O:List Qc}(hc:cs.length=256)(hs:Xd st'=Xd st)(hw:Wd [] W O w):Jp W st (.returned (.agg (ZD cs 0 (Xd st')).toArray)) w:=
 ⟨by rw[Qcy (by rw[Qk,hc]),hs],hw.k.below⟩
theorem Q1s{M:List Nat}{W w:World}{O:List Qc}{i b:Nat}{st:Nat→Bool}{lo hi:Int}(hO:O[i]? =some (.blk b (.cells (Xd st).toArray 92 (0,0))))(h0:0≤lo)(h1:hi≤1099511627776)(h2:lo≤1099511627776)(hw:Wd M W O w):
  Calls Tryz.prog 141 (#[.int .i64 lo,.int .i64 hi]++#[.pointer (some ⟨b,0,none⟩)]) w (XR (fun _:Unit=>.tuple #[]) (fun _=>True) M W (fun _=>O.set i (.blk b (.cells (Xd (Zv st lo hi)).toArray 92 (0,0))))):=
 (Q8k (hw.blk0 hO) h0 h1 h2).mono fun e w' ⟨he,hb,hk⟩=>⟨(),he,trivial,hw.keep1 hO hk hb⟩
set_option maxRecDepth 100000 in
theorem QfK{a0 a8 a9 a10 a11:Value}{Ab:Option Addr}{nb cb:Nat}{bs:List UInt8}{size mn mx stop:Int}{big:Bool}(W:World)(hb:Rd W W.heap.size 1 Ab nb (bv bs))(hn:0<nb):
  Calls Tryz.prog 96 #[.agg #[a0,.int .i64 1,.slice Ab nb cb,.int .i64 size,.bool big,.int .i64 mn,.int .i64 mx,.int .i64 stop,a8,a9,a10,a11]] W (Jp W (Q0E 1 bs size big mn mx stop)):=by
 go_enter Tryz.func96,Tryz.ntmps96
 refine QE (M:=[]) (W:=W) (N:=84) (E:=[(0,.agg #[a0,.int .i64 1,.slice Ab nb cb,.int .i64 size,.bool big,.int .i64 mn,.int .i64 mx,.int .i64 stop,a8,a9,a10,a11])]) (O:=[]) ?_ (Ag.cons (Ag.nil rfl rfl) rfl) (Wd.start [] W)
 repeat(first|refine Q1 zA ?_|refine Q1 zF ?_|refine Q1 (zB 2) ?_|refine yB fun br=>?_|refine yA fun b2=>?_|refine Q8 ?_|refine Q9 ?_|refine Q3 ?_|refine Qa rfl ?_|refine Qi ?_|refine Q1 (Zu rfl rfl (by decide) rfl rfl rfl (by first|exact beq_iff_eq.2 (by omega)|rfl)) ?_|refine Q1 zu ?_)
 obtain⟨bb,ob,u,rfl,hlt,hu,hcell⟩:=hb.at_ hn
 obtain⟨c,hc⟩:∃c,bs[0]? =some c:=by
  unfold bv at hu
  rw[List.getElem?_map] at hu
  cases e:bs[0]? with
  |none=>rw[e] at hu;cases hu
  |some c=>exact⟨c,rfl⟩
 have hu':u=.int .u8 (c.toNat:Int):=by
  unfold bv at hu
  rw[List.getElem?_map,hc] at hu;exact(Option.some.inj hu).symm
 subst hu'
 have hhd:bs.headD 0=c:=by cases bs with|nil=>cases hc|cons x l=>simp at hc;simpa using hc
 have hlt256:c.toNat<256:=c.toNat_lt
 repeat(first|refine Q1 zC ?_|refine Q1 (zi1 (j:=0) (hj:=hn)) ?_|refine Q1 (XK (j:=c.toNat) rfl rfl (by decide) rfl rfl rfl hlt256) ?_|refine QJ (X0 0 rfl rfl rfl rfl rfl rfl (ZL _ (show 0+c.toNat*1<256 by omega))) rfl (fun _ _=>?_)|refine Q8 ?_|refine Q9 ?_|refine Q3 ?_)
 show lE _ _ _ _ _ _ _ [Qc.blk b2 (.cells ((Xd (fun _=>false)).set (0+c.toNat*1) (.bool true)).toArray 92 (0,0)),_,_] _
 rw[Nat.zero_add,Nat.mul_one,Yj]
 refine Q1 (QB (cs:=Xd _) rfl rfl (by decide) rfl rfl (fun w hw=>hw.range_blk 0 rfl) (Qk _)) ?_;refine QJ (Ql 1 rfl rfl rfl rfl (ZB _) (Qk _) rfl (by simp [Qk])) rfl (fun _ _=>?_)
 repeat(first|refine Q8 ?_|refine Qr ?_)
 refine Q7 (.inr rfl) rfl (RsV.blk 1 rfl rfl (by rw[Xz,Qk])) (fun w hw=>J7 (Qk _) ?_ hw)
 refine JS fun j hj=>?_
 show (if j=c.toNat then true else false)=(j==(bs.headD 0).toNat)
 rw[hhd]
 by_cases h:j=c.toNat<;>simp [h]
set_option maxRecDepth 100000 in
theorem Qed{a0 a8 a9 a10 a11:Value}{Ab:Option Addr}{nb cb:Nat}{bs:List UInt8}{size mn mx stop:Int}{big:Bool}(W:World)(hs:1≤size∧size≤4)(hm:0≤mn∧mn≤mx∧mx≤4294967295):
  Calls Tryz.prog 96 #[.agg #[a0,.int .i64 2,.slice Ab nb cb,.int .i64 size,.bool true,.int .i64 mn,.int .i64 mx,.int .i64 stop,a8,a9,a10,a11]] W (Jp W (Q0E 2 bs size true mn mx stop)):=by
 go_enter Tryz.func96,Tryz.ntmps96
 refine QE (M:=[]) (W:=W) (N:=84) (E:=[(0,.agg #[a0,.int .i64 2,.slice Ab nb cb,.int .i64 size,.bool true,.int .i64 mn,.int .i64 mx,.int .i64 stop,a8,a9,a10,a11])]) (O:=[]) ?_ (Ag.cons (Ag.nil rfl rfl) rfl) (Wd.start [] W)
 repeat(first|refine Q1 zM ?_|refine Q1 zA ?_|refine Q1 zF ?_|refine Q1 (zB 2) ?_|refine yB fun br=>?_|refine yA fun b2=>?_|refine Q8 ?_|refine Q9 ?_|refine Q3 ?_|refine Qa rfl ?_|refine Q6 rfl ?_|refine Qi ?_|refine Q1 (Zu rfl rfl (by decide) rfl rfl rfl (by first|exact beq_iff_eq.2 (by omega)|exact beq_eq_false_iff_ne.2 (by omega)|rfl)) ?_|refine Q1 zY ?_|refine Q1 zQ ?_|refine Q1 zu ?_)
 repeat(first|refine Q1 zA ?_|refine Q1 (Kw (k:=.i64) rfl rfl (by decide) rfl rfl rfl (IntWalk.i64_in _ (by omega))) ?_|refine Q8 ?_)
 refine XQ [.blk br (.cells [a0,.int .i64 2,.slice Ab nb cb,.int .i64 size,.bool true,.int .i64 mn,.int .i64 mx,.int .i64 stop,a8,a9,a10,a11].toArray 65 (0,0))] [] (by kernel_rfl) ?_;refine Qe 0 rfl (by kernel_rfl) (Q2.sel [2] (by decide) rfl) zM ?_;refine Qe 1 rfl (by kernel_rfl) (Q2.sel [2] (by decide) rfl) zF ?_;refine Qe 2 rfl (by kernel_rfl) (Q2.sel [2] (by decide) rfl) (zB 0) ?_;refine Qe 3 rfl (by kernel_rfl) (Q2.sel [2] (by decide) rfl) zM ?_;refine Qe 4 rfl (by kernel_rfl) (Q2.sel [2] (by decide) rfl) (Q9o rfl rfl (by decide) rfl rfl rfl (by omega) (by omega)) ?_;refine Qe 5 rfl (by kernel_rfl) (Q2.sel [2] (by decide) rfl) zF ?_;refine Qe 6 rfl (by kernel_rfl) (Q2.sel [2] (by decide) rfl) (zB 0) ?_;refine Qe 7 rfl (by kernel_rfl) (Q2.sel [2] (by decide) rfl) zM ?_;refine Qe 8 rfl (by kernel_rfl) (Q2.sel [2] (by decide) rfl) (Q9o rfl rfl (by decide) rfl rfl rfl (by omega) (by omega)) ?_;refine QC 9 (by kernel_rfl) rfl rfl (Zh (fun _:Unit=>.tuple #[]) (fun _=>True) (fun _=>_) rfl rfl rfl rfl (fun w hw=>Q1s (i:=0) rfl (QcH hm.1) (QbF (by omega)) (QbF (by omega)) hw)) (fun _=>.inr (Q2.sel [2] (by decide) rfl)) rfl (by decide) (fun _ _=>?_);refine Xh ?_ (by kernel_rfl)
 repeat(first|refine Q1 (zD 0) ?_|refine Q9 ?_|refine Q3 ?_)
 refine QJ (Ql 1 rfl rfl rfl rfl (ZB _) (Qk _) rfl (by simp [Qk])) rfl (fun _ _=>?_)
 repeat(first|refine Q8 ?_|refine Qr ?_)
 refine Q7 (.inr rfl) rfl (RsV.blk 1 rfl rfl (by rw[Xz,Qk])) (fun w hw=>J7 (Qk _) ?_ hw)
 rfl
set_option maxRecDepth 100000 in
theorem QeC{a0 a8 a9 a10 a11:Value}{Ab:Option Addr}{nb cb:Nat}{bs:List UInt8}{size mn mx stop:Int}{big:Bool}(W:World)(hm:0≤mn∧mn≤mx∧mx≤4294967295):
  Calls Tryz.prog 96 #[.agg #[a0,.int .i64 2,.slice Ab nb cb,.int .i64 size,.bool false,.int .i64 mn,.int .i64 mx,.int .i64 stop,a8,a9,a10,a11]] W (Jp W (Q0E 2 bs size false mn mx stop)):=by
 go_enter Tryz.func96,Tryz.ntmps96
 refine QE (M:=[]) (W:=W) (N:=84) (E:=[(0,.agg #[a0,.int .i64 2,.slice Ab nb cb,.int .i64 size,.bool false,.int .i64 mn,.int .i64 mx,.int .i64 stop,a8,a9,a10,a11])]) (O:=[]) ?_ (Ag.cons (Ag.nil rfl rfl) rfl) (Wd.start [] W)
 repeat(first|refine Q1 zM ?_|refine Q1 zA ?_|refine Q1 zF ?_|refine Q1 (zB 2) ?_|refine yB fun br=>?_|refine yA fun b2=>?_|refine Q8 ?_|refine Q9 ?_|refine Q3 ?_|refine Qa rfl ?_|refine Q6 rfl ?_|refine Qi ?_|refine Q1 (Zu rfl rfl (by decide) rfl rfl rfl (by first|exact beq_iff_eq.2 (by omega)|exact beq_eq_false_iff_ne.2 (by omega)|rfl)) ?_|refine Q1 zY ?_|refine Q1 zP ?_|refine Q1 zQ ?_|refine Q1 zu ?_)
 repeat(first|refine Q1 (zD 0) ?_|refine Q1 (Qe2 rfl rfl (by decide) rfl rfl rfl) ?_|refine Qo (Zh (fun _:Unit=>.tuple #[]) (fun _=>True) (fun _=>_) rfl rfl rfl rfl (fun w hw=>Q1s (i:=0) rfl (by omega) (by omega) (by omega) hw)) rfl (by decide) (fun _ _=>?_)|refine Q8 ?_|refine Q9 ?_|refine Q3 ?_)
 refine QJ (Ql 1 rfl rfl rfl rfl (ZB _) (Qk _) rfl (by simp [Qk])) rfl (fun _ _=>?_)
 repeat(first|refine Q8 ?_|refine Qr ?_)
 refine Q7 (.inr rfl) rfl (RsV.blk 1 rfl rfl (by rw[Xz,Qk])) (fun w hw=>J7 (Qk _) ?_ hw)
 rfl
set_option maxRecDepth 100000 in
theorem Qfw{a0 a8 a9 a10 a11:Value}{Ab:Option Addr}{nb cb:Nat}{bs:List UInt8}{size mn mx stop:Int}{big:Bool}(W:World)(hm:0≤mx∧mx≤999999999):
  Calls Tryz.prog 96 #[.agg #[a0,.int .i64 3,.slice Ab nb cb,.int .i64 size,.bool big,.int .i64 mn,.int .i64 mx,.int .i64 stop,a8,a9,a10,a11]] W (Jp W (Q0E 3 bs size big mn mx stop)):=by
 go_enter Tryz.func96,Tryz.ntmps96
 refine QE (M:=[]) (W:=W) (N:=84) (E:=[(0,.agg #[a0,.int .i64 3,.slice Ab nb cb,.int .i64 size,.bool big,.int .i64 mn,.int .i64 mx,.int .i64 stop,a8,a9,a10,a11])]) (O:=[]) ?_ (Ag.cons (Ag.nil rfl rfl) rfl) (Wd.start [] W)
 repeat(first|refine Q1 zM ?_|refine Q1 zA ?_|refine Q1 zF ?_|refine Q1 (zB 2) ?_|refine yB fun br=>?_|refine yA fun b2=>?_|refine Q8 ?_|refine Q9 ?_|refine Q3 ?_|refine Qa rfl ?_|refine Q6 rfl ?_|refine Qi ?_|refine Q1 (Zu rfl rfl (by decide) rfl rfl rfl (by first|exact beq_iff_eq.2 (by omega)|exact beq_eq_false_iff_ne.2 (by omega)|rfl)) ?_|refine Q1 zN ?_|refine Q1 zu ?_|refine Q1 zS ?_)
 repeat(first|refine Q1 (zD 0) ?_|refine Q1 (Qe2 rfl rfl (by decide) rfl rfl rfl) ?_|refine Qo (Zh (fun _:Unit=>.tuple #[]) (fun _=>True) (fun _=>_) rfl rfl rfl rfl (fun w hw=>Q1s (i:=0) rfl (by omega) (by omega) (by omega) hw)) rfl (by decide) (fun _ _=>?_)|refine Q8 ?_|refine Q9 ?_|refine Q3 ?_|refine Q1 zP ?_)
 refine QJ (Ql 1 rfl rfl rfl rfl (ZB _) (Qk _) rfl (by simp [Qk])) rfl (fun _ _=>?_)
 repeat(first|refine Q8 ?_|refine Qr ?_)
 refine Q7 (.inr rfl) rfl (RsV.blk 1 rfl rfl (by rw[Xz,Qk])) (fun w hw=>J7 (Qk _) ?_ hw)
 rfl
set_option maxRecDepth 100000 in
theorem QfN{a0 a8 a9 a10 a11:Value}{Ab:Option Addr}{nb cb:Nat}{bs:List UInt8}{size mn mx stop:Int}{big:Bool}(W:World):
  Calls Tryz.prog 96 #[.agg #[a0,.int .i64 4,.slice Ab nb cb,.int .i64 size,.bool big,.int .i64 mn,.int .i64 mx,.int .i64 stop,a8,a9,a10,a11]] W (Jp W (Q0E 4 bs size big mn mx stop)):=by
 go_enter Tryz.func96,Tryz.ntmps96
 refine QE (M:=[]) (W:=W) (N:=84) (E:=[(0,.agg #[a0,.int .i64 4,.slice Ab nb cb,.int .i64 size,.bool big,.int .i64 mn,.int .i64 mx,.int .i64 stop,a8,a9,a10,a11])]) (O:=[]) ?_ (Ag.cons (Ag.nil rfl rfl) rfl) (Wd.start [] W)
 repeat(first|refine Q1 zM ?_|refine Q1 zA ?_|refine Q1 zF ?_|refine Q1 (zB 2) ?_|refine yB fun br=>?_|refine yA fun b2=>?_|refine Q8 ?_|refine Q9 ?_|refine Q3 ?_|refine Qt ?_|refine Qa rfl ?_|refine Q6 rfl ?_|refine Qi ?_|refine Q1 (Zu rfl rfl (by decide) rfl rfl rfl (by first|exact beq_iff_eq.2 (by omega)|exact beq_eq_false_iff_ne.2 (by omega)|rfl)) ?_|refine Q1 zN ?_|refine Q1 zu ?_|refine Q1 zS ?_)
 repeat(first|refine Q1 (zD 0) ?_|refine Qo (Zh (fun _:Unit=>.tuple #[]) (fun _=>True) (fun _=>_) rfl rfl rfl rfl (fun w hw=>Q1s (i:=0) rfl (by omega) (by omega) (by omega) hw)) rfl (by decide) (fun _ _=>?_)|refine Q8 ?_|refine Q9 ?_|refine Q3 ?_)
 refine QJ (Ql 1 rfl rfl rfl rfl (ZB _) (Qk _) rfl (by simp [Qk])) rfl (fun _ _=>?_)
 repeat(first|refine Q8 ?_|refine Qr ?_)
 refine Q7 (.inr rfl) rfl (RsV.blk 1 rfl rfl (by rw[Xz,Qk])) (fun w hw=>J7 (Qk _) ?_ hw)
 rfl
set_option maxRecDepth 100000 in
theorem QeY{a0 a8 a9 a10 a11:Value}{Ab:Option Addr}{nb cb:Nat}{bs:List UInt8}{size mn mx stop:Int}{big:Bool}(W:World)(hs:0<size):
  Calls Tryz.prog 96 #[.agg #[a0,.int .i64 5,.slice Ab nb cb,.int .i64 size,.bool big,.int .i64 mn,.int .i64 mx,.int .i64 stop,a8,a9,a10,a11]] W (Jp W (Q0E 5 bs size big mn mx stop)):=by
 go_enter Tryz.func96,Tryz.ntmps96
 refine QE (M:=[]) (W:=W) (N:=84) (E:=[(0,.agg #[a0,.int .i64 5,.slice Ab nb cb,.int .i64 size,.bool big,.int .i64 mn,.int .i64 mx,.int .i64 stop,a8,a9,a10,a11])]) (O:=[]) ?_ (Ag.cons (Ag.nil rfl rfl) rfl) (Wd.start [] W)
 repeat(first|refine Q1 zM ?_|refine Q1 zA ?_|refine Q1 zF ?_|refine Q1 (zB 2) ?_|refine yB fun br=>?_|refine yA fun b2=>?_|refine Q8 ?_|refine Q9 ?_|refine Q3 ?_|refine Qa rfl ?_|refine Q6 rfl ?_|refine Qi ?_|refine Q1 (Zu rfl rfl (by decide) rfl rfl rfl (by first|exact beq_iff_eq.2 (by omega)|exact beq_eq_false_iff_ne.2 (by omega)|rfl)) ?_|refine Q1 zgt ?_|refine Q1 zY ?_|refine Q1 zN ?_|refine Q1 zu ?_|refine Q1 zS ?_)
 repeat(first|refine Q1 (zD 0) ?_|refine Qo (Zh (fun _:Unit=>.tuple #[]) (fun _=>True) (fun _=>_) rfl rfl rfl rfl (fun w hw=>Q1s (i:=0) rfl (by omega) (by omega) (by omega) hw)) rfl (by decide) (fun _ _=>?_)|refine Q8 ?_|refine Q9 ?_|refine Q3 ?_)
 refine QJ (Ql 1 rfl rfl rfl rfl (ZB _) (Qk _) rfl (by simp [Qk])) rfl (fun _ _=>?_)
 repeat(first|refine Q8 ?_|refine Qr ?_)
 refine Q7 (.inr rfl) rfl (RsV.blk 1 rfl rfl (by rw[Xz,Qk])) (fun w hw=>J7 (Qk _) ?_ hw);exact congrArg Xd (by rw[Q0E,if_neg (by decide),if_neg (by decide),if_neg (by decide),if_neg (by decide),if_pos rfl,if_pos hs];rfl)
set_option maxRecDepth 100000 in
theorem QeI{a0 a8 a9 a10 a11:Value}{Ab:Option Addr}{nb cb:Nat}{bs:List UInt8}{size mn mx stop:Int}{big:Bool}(W:World)(hs:size=0)(ht:0≤stop∧stop≤255):
  Calls Tryz.prog 96 #[.agg #[a0,.int .i64 5,.slice Ab nb cb,.int .i64 size,.bool big,.int .i64 mn,.int .i64 mx,.int .i64 stop,a8,a9,a10,a11]] W (Jp W (Q0E 5 bs size big mn mx stop)):=by
 go_enter Tryz.func96,Tryz.ntmps96
 refine QE (M:=[]) (W:=W) (N:=84) (E:=[(0,.agg #[a0,.int .i64 5,.slice Ab nb cb,.int .i64 size,.bool big,.int .i64 mn,.int .i64 mx,.int .i64 stop,a8,a9,a10,a11])]) (O:=[]) ?_ (Ag.cons (Ag.nil rfl rfl) rfl) (Wd.start [] W)
 repeat(first|refine Q1 zM ?_|refine Q1 zA ?_|refine Q1 zF ?_|refine Q1 (zB 2) ?_|refine Q1 (zD 0) ?_|refine Q1 (zD 2) ?_|refine yB fun br=>?_|refine yA fun b2=>?_|refine Q8 ?_|refine Q9 ?_|refine Q3 ?_|refine Q6 rfl ?_|refine Qi ?_|refine Q1 zet ?_|refine Q1 zef ?_|refine Q1 (Q16 rfl rfl (by decide) rfl rfl rfl (by first|exact decide_eq_false (by omega)|rfl)) ?_|refine Q1 zY ?_|refine Q1 zN ?_|refine Q1 zu ?_|refine Q1 zS ?_)
 subst hs;obtain⟨n,rfl⟩:∃n:Nat,stop=(n:Int):=⟨stop.toNat,by omega⟩
 repeat(first|refine Q1 zA ?_|refine Q1 zF ?_|refine Q1 (zB 2) ?_|refine Q1 (Qb rfl rfl (by decide) rfl rfl (fun w hw=>XD w)) ?_|refine Q1 (XK (j:=n) rfl rfl (by decide) rfl rfl rfl (by omega)) ?_|refine QJ (X0 0 rfl rfl rfl rfl rfl rfl (ZL _ (show 0+n*1<256 by omega))) rfl (fun _ _=>?_)|refine Q8 ?_|refine Q9 ?_|refine Q3 ?_|refine Qa rfl ?_)
 show lE _ _ _ _ _ _ _ [Qc.blk b2 (.cells ((Xd (fun _=>false)).set (0+n*1) (.bool true)).toArray 92 (0,0)),_,_] _
 rw[Nat.zero_add,Nat.mul_one,Yj]
 refine Q1 (QB (cs:=Xd _) rfl rfl (by decide) rfl rfl (fun w hw=>hw.range_blk 0 rfl) (Qk _)) ?_;refine QJ (Ql 1 rfl rfl rfl rfl (ZB _) (Qk _) rfl (by simp [Qk])) rfl (fun _ _=>?_)
 repeat(first|refine Q8 ?_|refine Qr ?_)
 refine Q7 (.inr rfl) rfl (RsV.blk 1 rfl rfl (by rw[Xz,Qk])) (fun w hw=>J7 (Qk _) ?_ hw)
 refine JS fun j hj=>?_
 show (if j=n then true else false)=(if (0:Int)<0 then Zv noS 0 255 j else decide ((j:Int)=(n:Int)))
 rw[if_neg (show ¬(0:Int)<0 by decide)]
 by_cases h:j=n<;>simp [h]<;>omega
set_option maxRecDepth 100000 in
theorem Qfy{a0 a8 a9 a10 a11:Value}{Ab:Option Addr}{nb cb:Nat}{bs:List UInt8}{size mn mx stop:Int}{big:Bool}(W:World)(ht:0≤stop∧stop≤255):
  Calls Tryz.prog 96 #[.agg #[a0,.int .i64 9,.slice Ab nb cb,.int .i64 size,.bool big,.int .i64 mn,.int .i64 mx,.int .i64 stop,a8,a9,a10,a11]] W (Jp W (Q0E 9 bs size big mn mx stop)):=by
 go_enter Tryz.func96,Tryz.ntmps96
 refine QE (M:=[]) (W:=W) (N:=84) (E:=[(0,.agg #[a0,.int .i64 9,.slice Ab nb cb,.int .i64 size,.bool big,.int .i64 mn,.int .i64 mx,.int .i64 stop,a8,a9,a10,a11])]) (O:=[]) ?_ (Ag.cons (Ag.nil rfl rfl) rfl) (Wd.start [] W)
 repeat(first|refine Q1 zM ?_|refine Q1 zA ?_|refine Q1 zF ?_|refine Q1 (zB 2) ?_|refine Q1 (zD 0) ?_|refine Q1 (zD 2) ?_|refine yB fun br=>?_|refine yA fun b2=>?_|refine Q8 ?_|refine Q9 ?_|refine Q3 ?_|refine Q6 rfl ?_|refine Qi ?_|refine Q1 (Zu rfl rfl (by decide) rfl rfl rfl (by first|exact beq_eq_false_iff_ne.2 (by omega)|rfl)) ?_|refine Q1 zN ?_|refine Q1 zu ?_|refine Q1 zS ?_)
 obtain⟨n,rfl⟩:∃n:Nat,stop=(n:Int):=⟨stop.toNat,by omega⟩
 repeat(first|refine Q1 zA ?_|refine Q1 zF ?_|refine Q1 (zB 2) ?_|refine Q1 (Qb rfl rfl (by decide) rfl rfl (fun w hw=>XD w)) ?_|refine Q1 (XK (j:=n) rfl rfl (by decide) rfl rfl rfl (by omega)) ?_|refine QJ (X0 0 rfl rfl rfl rfl rfl rfl (ZL _ (show 0+n*1<256 by omega))) rfl (fun _ _=>?_)|refine Q8 ?_|refine Q9 ?_|refine Q3 ?_|refine Qa rfl ?_)
 show lE _ _ _ _ _ _ _ [Qc.blk b2 (.cells ((Xd (fun _=>false)).set (0+n*1) (.bool true)).toArray 92 (0,0)),_,_] _
 rw[Nat.zero_add,Nat.mul_one,Yj]
 refine Q1 (QB (cs:=Xd _) rfl rfl (by decide) rfl rfl (fun w hw=>hw.range_blk 0 rfl) (Qk _)) ?_;refine QJ (Ql 1 rfl rfl rfl rfl (ZB _) (Qk _) rfl (by simp [Qk])) rfl (fun _ _=>?_)
 repeat(first|refine Q8 ?_|refine Qr ?_)
 refine Q7 (.inr rfl) rfl (RsV.blk 1 rfl rfl (by rw[Xz,Qk])) (fun w hw=>J7 (Qk _) ?_ hw)
 refine JS fun j hj=>?_
 show (if j=n then true else false)=decide ((j:Int)=(n:Int))
 skip
 by_cases h:j=n<;>simp [h]<;>omega
set_option maxRecDepth 100000 in
theorem Qfa{a0 a8 a9 a10 a11:Value}{Ab:Option Addr}{nb cb:Nat}{bs:List UInt8}{size mn mx stop:Int}{big:Bool}(W:World):
  Calls Tryz.prog 96 #[.agg #[a0,.int .i64 6,.slice Ab nb cb,.int .i64 size,.bool big,.int .i64 mn,.int .i64 mx,.int .i64 stop,a8,a9,a10,a11]] W (Jp W (Q0E 6 bs size big mn mx stop)):=by
 go_enter Tryz.func96,Tryz.ntmps96
 refine QE (M:=[]) (W:=W) (N:=84) (E:=[(0,.agg #[a0,.int .i64 6,.slice Ab nb cb,.int .i64 size,.bool big,.int .i64 mn,.int .i64 mx,.int .i64 stop,a8,a9,a10,a11])]) (O:=[]) ?_ (Ag.cons (Ag.nil rfl rfl) rfl) (Wd.start [] W)
 repeat(first|refine Q1 zM ?_|refine Q1 zA ?_|refine Q1 zF ?_|refine Q1 (zB 2) ?_|refine Q1 (zD 0) ?_|refine Q1 (zD 2) ?_|refine yB fun br=>?_|refine yA fun b2=>?_|refine Q8 ?_|refine Q9 ?_|refine Q3 ?_|refine Q6 rfl ?_|refine Qi ?_|refine Q1 (Zu rfl rfl (by decide) rfl rfl rfl (by first|exact beq_eq_false_iff_ne.2 (by omega)|rfl)) ?_|refine Q1 zN ?_|refine Q1 zu ?_|refine Q1 zS ?_)
 repeat(first|refine Q1 zA ?_|refine Q1 (zD 0) ?_|refine Q1 (Qb rfl rfl (by decide) rfl rfl (fun w hw=>XD w)) ?_|refine Q8 ?_|refine Q9 ?_|refine Q3 ?_|refine Qt ?_|refine Q6 rfl ?_)
 refine QJ (Ql 1 rfl rfl rfl rfl (ZB _) (Qk _) rfl (by simp [Qk])) rfl (fun _ _=>?_)
 repeat(first|refine Q8 ?_|refine Qr ?_)
 refine Q7 (.inr rfl) rfl (RsV.blk 1 rfl rfl (by rw[Xz,Qk])) (fun w hw=>J7 (Qk _) ?_ hw)
 rfl
set_option maxRecDepth 100000 in
theorem QfJ{a0 a8 a9 a10 a11:Value}{Ab:Option Addr}{nb cb:Nat}{bs:List UInt8}{size mn mx stop:Int}{big:Bool}(W:World):
  Calls Tryz.prog 96 #[.agg #[a0,.int .i64 7,.slice Ab nb cb,.int .i64 size,.bool big,.int .i64 mn,.int .i64 mx,.int .i64 stop,a8,a9,a10,a11]] W (Jp W (Q0E 7 bs size big mn mx stop)):=by
 go_enter Tryz.func96,Tryz.ntmps96
 refine QE (M:=[]) (W:=W) (N:=84) (E:=[(0,.agg #[a0,.int .i64 7,.slice Ab nb cb,.int .i64 size,.bool big,.int .i64 mn,.int .i64 mx,.int .i64 stop,a8,a9,a10,a11])]) (O:=[]) ?_ (Ag.cons (Ag.nil rfl rfl) rfl) (Wd.start [] W)
 repeat(first|refine Q1 zM ?_|refine Q1 zA ?_|refine Q1 zF ?_|refine Q1 (zB 2) ?_|refine Q1 (zD 0) ?_|refine Q1 (zD 2) ?_|refine yB fun br=>?_|refine yA fun b2=>?_|refine Q8 ?_|refine Q9 ?_|refine Q3 ?_|refine Q6 rfl ?_|refine Qi ?_|refine Q1 (Zu rfl rfl (by decide) rfl rfl rfl (by first|exact beq_eq_false_iff_ne.2 (by omega)|rfl)) ?_|refine Q1 zN ?_|refine Q1 zu ?_|refine Q1 zS ?_)
 repeat(first|refine Q1 zA ?_|refine Q1 (zD 0) ?_|refine Q1 (Qb rfl rfl (by decide) rfl rfl (fun w hw=>XD w)) ?_|refine Q8 ?_|refine Q9 ?_|refine Q3 ?_|refine Qt ?_|refine Q6 rfl ?_)
 refine QJ (Ql 1 rfl rfl rfl rfl (ZB _) (Qk _) rfl (by simp [Qk])) rfl (fun _ _=>?_)
 repeat(first|refine Q8 ?_|refine Qr ?_)
 refine Q7 (.inr rfl) rfl (RsV.blk 1 rfl rfl (by rw[Xz,Qk])) (fun w hw=>J7 (Qk _) ?_ hw)
 rfl
set_option maxRecDepth 100000 in
theorem QfF{a0 a8 a9 a10 a11:Value}{Ab:Option Addr}{nb cb:Nat}{bs:List UInt8}{size mn mx stop:Int}{big:Bool}(W:World):
  Calls Tryz.prog 96 #[.agg #[a0,.int .i64 8,.slice Ab nb cb,.int .i64 size,.bool big,.int .i64 mn,.int .i64 mx,.int .i64 stop,a8,a9,a10,a11]] W (Jp W (Q0E 8 bs size big mn mx stop)):=by
 go_enter Tryz.func96,Tryz.ntmps96
 refine QE (M:=[]) (W:=W) (N:=84) (E:=[(0,.agg #[a0,.int .i64 8,.slice Ab nb cb,.int .i64 size,.bool big,.int .i64 mn,.int .i64 mx,.int .i64 stop,a8,a9,a10,a11])]) (O:=[]) ?_ (Ag.cons (Ag.nil rfl rfl) rfl) (Wd.start [] W)
 repeat(first|refine Q1 zM ?_|refine Q1 zA ?_|refine Q1 zF ?_|refine Q1 (zB 2) ?_|refine Q1 (zD 0) ?_|refine Q1 (zD 2) ?_|refine yB fun br=>?_|refine yA fun b2=>?_|refine Q8 ?_|refine Q9 ?_|refine Q3 ?_|refine Q6 rfl ?_|refine Qi ?_|refine Q1 (Zu rfl rfl (by decide) rfl rfl rfl (by first|exact beq_eq_false_iff_ne.2 (by omega)|rfl)) ?_|refine Q1 zN ?_|refine Q1 zu ?_|refine Q1 zS ?_)
 repeat(first|refine Q1 zA ?_|refine Q1 (zD 0) ?_|refine Q1 (Qb rfl rfl (by decide) rfl rfl (fun w hw=>XD w)) ?_|refine Q8 ?_|refine Q9 ?_|refine Q3 ?_|refine Qt ?_|refine Q6 rfl ?_)
 refine QJ (Ql 1 rfl rfl rfl rfl (ZB _) (Qk _) rfl (by simp [Qk])) rfl (fun _ _=>?_)
 repeat(first|refine Q8 ?_|refine Qr ?_)
 refine Q7 (.inr rfl) rfl (RsV.blk 1 rfl rfl (by rw[Xz,Qk])) (fun w hw=>J7 (Qk _) ?_ hw)
 rfl
set_option maxRecDepth 100000 in
theorem Qee{a0 a8 a9 a10 a11:Value}{Ab:Option Addr}{nb cb:Nat}{bs:List UInt8}{size mn mx stop:Int}{big:Bool}(W:World):
  Calls Tryz.prog 96 #[.agg #[a0,.int .i64 10,.slice Ab nb cb,.int .i64 size,.bool big,.int .i64 mn,.int .i64 mx,.int .i64 stop,a8,a9,a10,a11]] W (Jp W (Q0E 10 bs size big mn mx stop)):=by
 go_enter Tryz.func96,Tryz.ntmps96
 refine QE (M:=[]) (W:=W) (N:=84) (E:=[(0,.agg #[a0,.int .i64 10,.slice Ab nb cb,.int .i64 size,.bool big,.int .i64 mn,.int .i64 mx,.int .i64 stop,a8,a9,a10,a11])]) (O:=[]) ?_ (Ag.cons (Ag.nil rfl rfl) rfl) (Wd.start [] W)
 repeat(first|refine Q1 zM ?_|refine Q1 zA ?_|refine Q1 zF ?_|refine Q1 (zB 2) ?_|refine Q1 (zD 0) ?_|refine Q1 (zD 2) ?_|refine yB fun br=>?_|refine yA fun b2=>?_|refine Q8 ?_|refine Q9 ?_|refine Q3 ?_|refine Q6 rfl ?_|refine Qi ?_|refine Q1 (Zu rfl rfl (by decide) rfl rfl rfl (by first|exact beq_eq_false_iff_ne.2 (by omega)|rfl)) ?_|refine Q1 zN ?_|refine Q1 zu ?_|refine Q1 zS ?_)
 repeat(first|refine Q1 zA ?_|refine Q1 (zD 0) ?_|refine Q1 (Qb rfl rfl (by decide) rfl rfl (fun w hw=>XD w)) ?_|refine Q8 ?_|refine Q9 ?_|refine Q3 ?_|refine Qt ?_|refine Q6 rfl ?_)
 refine QJ (Ql 1 rfl rfl rfl rfl (ZB _) (Qk _) rfl (by simp [Qk])) rfl (fun _ _=>?_)
 repeat(first|refine Q8 ?_|refine Qr ?_)
 refine Q7 (.inr rfl) rfl (RsV.blk 1 rfl rfl (by rw[Xz,Qk])) (fun w hw=>J7 (Qk _) ?_ hw)
 rfl
end Go.Proofs.YtphkhfdmlcnoeaaGreatDoor
