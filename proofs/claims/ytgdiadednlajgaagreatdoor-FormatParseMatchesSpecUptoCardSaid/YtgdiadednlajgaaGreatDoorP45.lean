import Derived.Test.YtgdiadednlajgaaGreatDoorP39
import Derived.Test.YtgdiadednlajgaaGreatDoorP44
namespace Go.Proofs.YtgdiadednlajgaaGreatDoor
set_option linter.unusedVariables false
set_option linter.unusedSimpArgs false
open Go.RowKit
theorem Q0s(l:List UInt8)(a b:Nat):(⟨l.toArray⟩:ByteArray).extract a b=⟨((l.drop a).take (b - a)).toArray⟩:=by
 apply ByteArray.ext
 simp [ByteArray.data_extract,List.extract]
structure QbX where
 out:List (List UInt8)
 st:Nat
 i:Nat
 A:Option Addr
 c:Nat
structure Q7M(c:UInt8)(s:List UInt8)(y:QbX):Prop where
 st:y.st≤y.i
 i:y.i≤s.length+1
 len:y.out.length≤y.st
 go:y.i≤s.length→c∉(s.drop y.st).take (y.i - y.st)∧spl c s=y.out++spl c (s.drop y.st)
 fin:s.length<y.i→y.out=spl c s
theorem Qcz{c:UInt8}{s:List UInt8}{y:QbX}(h:Q7M c s y){b:UInt8}(hb:s[y.i]? =some b)(hne:b≠c):Q7M c s { y with i:=y.i+1 }:=by
 have hi:y.i<s.length:=(List.getElem?_eq_some_iff.1 hb).1;obtain⟨h1,h2⟩:=h.go (by omega);have hst:=h.st;refine⟨by show y.st≤y.i+1;omega,by show y.i+1≤s.length+1;omega,h.len,fun _=>⟨?_,h2⟩,fun hl=>by have hl':s.length<y.i+1:=hl;omega⟩
 show c∉(s.drop y.st).take (y.i+1 - y.st)
 rw[show y.i+1 - y.st=(y.i - y.st)+1 by omega,List.take_add_one,List.mem_append]
 rintro(hm|hm)
 ·exact h1 hm
 ·rw[List.getElem?_drop,show y.st+(y.i - y.st)=y.i by omega,hb] at hm
  have h3:b=c:=by simpa [eq_comm] using hm
  exact hne h3
theorem Q9l{s:List UInt8}{st i:Nat}{b:UInt8}(hst:st≤i)(hb:s[i]? =some b):s.drop st=(s.drop st).take (i - st)++b::s.drop (i+1):=by
 have hi:i<s.length:=(List.getElem?_eq_some_iff.1 hb).1;have e:s[i]=b:=(List.getElem?_eq_some_iff.1 hb).2
 conv=>lhs;rw[← List.take_append_drop (i - st) (s.drop st)]
 rw[List.drop_drop,show st+(i - st)=i by omega,List.drop_eq_getElem_cons hi,e]
theorem Qch{c:UInt8}{s:List UInt8}{y:QbX}(h:Q7M c s y)(hb:s[y.i]? =some c)(A:Option Addr)(n:Nat):Q7M c s ⟨y.out++[(s.drop y.st).take (y.i - y.st)],y.i+1,y.i+1,A,n⟩:=by
 have hi:y.i<s.length:=(List.getElem?_eq_some_iff.1 hb).1;obtain⟨h1,h2⟩:=h.go (by omega);have hst:=h.st;have hl:=h.len;refine⟨Nat.le_refl _,by show y.i+1≤s.length+1;omega,by show (y.out++[_]).length≤y.i+1;rw[List.length_append];simp only[List.length_cons,List.length_nil];omega,fun _=>⟨by show c∉(s.drop (y.i+1)).take (y.i+1 - (y.i+1));rw[Nat.sub_self];simp,?_⟩,fun hl=>by have hl':s.length<y.i+1:=hl;omega⟩
 show spl c s=(y.out++[_])++spl c (s.drop (y.i+1))
 rw[h2,Q9l hst hb,Q2U _ h1,← Q9l hst hb,List.append_assoc]
 rfl
theorem QaT{c:UInt8}{s:List UInt8}{y:QbX}(h:Q7M c s y)(hi:y.i=s.length)(A:Option Addr)(n:Nat):Q7M c s ⟨y.out++[(s.drop y.st).take (y.i - y.st)],y.i+1,y.i+1,A,n⟩:=by
 obtain⟨h1,h2⟩:=h.go (by omega);have hst:=h.st;have hl:=h.len;have e:(s.drop y.st).take (y.i - y.st)=s.drop y.st:=List.take_of_length_le (by rw[List.length_drop];omega);refine⟨Nat.le_refl _,by show y.i+1≤s.length+1;omega,by show (y.out++[_]).length≤y.i+1;rw[List.length_append];simp only[List.length_cons,List.length_nil];omega,fun hl=>by have hl':y.i+1≤s.length:=hl;omega,fun _=>?_⟩
 show y.out++[(s.drop y.st).take (y.i - y.st)]=spl c s
 rw[e] at h1 ⊢;rw[h2,Q5W h1]
section
variable {W:World}{O:List Qg}
set_option maxRecDepth 100000 in
set_option maxHeartbeats 16000000 in
theorem Q5F{s:List UInt8}{c:UInt8}{w:World}(hs:s.length≤1048576)(hw:Wd [] W O w):
  Calls Tryz.prog 45 #[.string ⟨s.toArray⟩,.int .u8 (c.toNat:Int)] w (QW (fun y:Option Addr×Nat=>.slice y.1 (spl c s).length y.2) (fun _=>True) [] W (fun y=>.row y.1 (spl c s).length y.2 9 1 (sv (spl c s))::O)):=by
 go_enter Tryz.func45,Tryz.ntmps45
 refine QE (M:=[]) (W:=W) (N:=35) (E:=[(0,.string ⟨s.toArray⟩),(1,.int .u8 (c.toNat:Int))]) (O:=O) ?_ (Ag.cons (Ag.cons (Ag.nil rfl rfl) rfl) rfl) hw;refine yq<|yr<|yo zA<|yl<|yn<|yq<|yr<|yo zA<|yl<|yn<|yq<|yr<|yo zA<|yl<|yn<|yq<|yq<|yr<|yo zA<|yl<|yn<|yb ?_;refine JI 9 1 ?_;refine ZF (ι:=QbX) (Q7M c s) (fun y=>s.length+1 - y.i) (fun y=>[(0,.string ⟨s.toArray⟩),(1,.int .u8 (c.toNat:Int)),(5,.slice y.A y.out.length y.c),(6,.int .i64 (y.st:Int)),(7,.int .i64 (y.i:Int))]) (fun y=>.row y.A y.out.length y.c 9 1 (sv y.out)::O) ⟨[],0,0,none,0⟩ ⟨Nat.le_refl _,Nat.zero_le _,Nat.le_refl _,fun _=>⟨by simp,rfl⟩,fun h=>absurd h (Nat.not_lt_zero _)⟩ (.cons rfl rfl (.cons rfl rfl (.cons rfl rfl (.cons rfl rfl (.cons rfl rfl .nil))))) (fun w hw=>hw) ?_;intro y hy;have hst:=hy.st;have hil:=hy.i;have hol:=hy.len;have HY:=Lib.hid hy;clear hy;obtain⟨out,st,i,A,cc⟩:=y
 simp only at hst hil hol
 show sE _ _ _ _ _ [(0,.string ⟨s.toArray⟩),(1,.int .u8 (c.toNat:Int)),(5,.slice A out.length cc),(6,.int .i64 (st:Int)),(7,.int .i64 (i:Int))] (.row A out.length cc 9 1 (sv out)::O) _
 have hbs:((⟨s.toArray⟩:ByteArray).size:Int)=(s.length:Int):=by rw[Xh]
 have hbz:(⟨s.toArray⟩:ByteArray).size=s.length:=Xh s
 by_cases hi:i≤s.length
 ·by_cases hie:i=s.length
  ·have HN:=Lib.hid (QaT HY.out hie);have HX:=Lib.hid (Q0s s st i);refine yq<|yq<|yr<|yo zM<|yo zM<|yo zT<|yo zqt<|yl<|yn<|y1<|ys<|yn<|yq<|yb<|yq<|yr<|yo zM<|yo zM<|yo zT<|yo zet<|yo zM<|yo zS<|yo zS<|yo zS<|yo zS<|yo zS<|yo zY<|yl<|yn<|y1<|yq<|yr<|yo zM<|yo zM<|yo zM<|yo zM ?_;refine Q1 (Q09 HX.out Tryz.underlying9 rfl rfl (by decide) rfl rfl rfl rfl rfl rfl (by omega) (by omega)) ?_;refine Qa (Qz (size:=1) rfl rfl rfl rfl rfl (by decide)) rfl (by decide) (fun bn _=>?_);refine Qa (QC 1 rfl rfl rfl rfl rfl (fun w hw=>hw.rd_blk 0 rfl rfl) (by simp [Value.oneCell']) (by omega)) rfl (by decide) (fun z _=>?_);refine yo zA<|yl<|yn<|yr<|yo zM<|yo zP<|yo zA<|yl<|yn<|yr<|yo zM<|yo zP<|yo zA<|yl ?_;refine QH ⟨out++[(s.drop st).take (i - st)],i+1,i+1,z.1,z.2⟩ (HN.out z.1 z.2) (by show s.length+1 - (i+1)<s.length+1 - i;omega) (.cons rfl rfl (.cons rfl rfl (.cons rfl (by rw[List.length_append];rfl) (.cons rfl (by go_num) (.cons rfl (by go_num) .nil))))) (fun w hw=>?_)
   show Wd [] W (.row z.1 (out++[(s.drop st).take (i - st)]).length z.2 9 1 (sv (out++[(s.drop st).take (i - st)]))::O) w
   rw[List.length_append,sv,List.map_append];exact hw.tl
  ·obtain⟨b,hb⟩:∃b,s[i]? =some b:=⟨_,List.getElem?_eq_getElem (by omega)⟩
   have hb':(⟨s.toArray⟩:ByteArray)[((i:Nat):Int).toNat]? =some b:=by rw[Int.toNat_natCast,Q3x];exact hb
   by_cases hbc:b=c
   ·subst hbc;have HN:=Lib.hid (Qch HY.out hb);have HX:=Lib.hid (Q0s s st i);have hbb:((b.toNat:Int)==(b.toNat:Int))=true:=beq_iff_eq.2 rfl;refine yq<|yq<|yr<|yo zM<|yo zM<|yo zT<|yo zqt<|yl<|yn<|y1<|ys<|yn<|yq<|yb<|yq<|yr<|yo zM<|yo zM<|yo zT<|yo zef<|yo zM<|yo zM<|yo zM ?_;refine Q1 (ZX Tryz.underlying9 rfl rfl (by decide) rfl rfl rfl (by omega) hb') ?_;refine yo zM<|yo zea<|yo zN<|yl<|yn<|y1<|yq<|yr<|yo zM<|yo zM<|yo zM<|yo zM ?_;refine Q1 (Q09 HX.out Tryz.underlying9 rfl rfl (by decide) rfl rfl rfl rfl rfl rfl (by omega) (by omega)) ?_;refine Qa (Qz (size:=1) rfl rfl rfl rfl rfl (by decide)) rfl (by decide) (fun bn _=>?_);refine Qa (QC 1 rfl rfl rfl rfl rfl (fun w hw=>hw.rd_blk 0 rfl rfl) (by simp [Value.oneCell']) (by omega)) rfl (by decide) (fun z _=>?_);refine yo zA<|yl<|yn<|yr<|yo zM<|yo zP<|yo zA<|yl<|yn<|yr<|yo zM<|yo zP<|yo zA<|yl ?_;refine QH ⟨out++[(s.drop st).take (i - st)],i+1,i+1,z.1,z.2⟩ (HN.out z.1 z.2) (by show s.length+1 - (i+1)<s.length+1 - i;omega) (.cons rfl rfl (.cons rfl rfl (.cons rfl (by rw[List.length_append];rfl) (.cons rfl (by go_num) (.cons rfl (by go_num) .nil))))) (fun w hw=>?_)
    show Wd [] W (.row z.1 (out++[(s.drop st).take (i - st)]).length z.2 9 1 (sv (out++[(s.drop st).take (i - st)]))::O) w
    rw[List.length_append,sv,List.map_append];exact hw.tl
   ·have HN:=Lib.hid (Qcz HY.out hb hbc);have hbb:((b.toNat:Int)==(c.toNat:Int))=false:=beq_eq_false_iff_ne.2 (fun h=>hbc (UInt8.toNat_inj.1 (by omega)));clear hbc;refine yq<|yq<|yr<|yo zM<|yo zM<|yo zT<|yo zqt<|yl<|yn<|y1<|ys<|yn<|yq<|yb<|yq<|yr<|yo zM<|yo zM<|yo zT<|yo zef<|yo zM<|yo zM<|yo zM ?_;refine Q1 (ZX Tryz.underlying9 rfl rfl (by decide) rfl rfl rfl (by omega) hb') ?_;refine yo zM<|yo zea<|yo zN<|yl<|yn<|y0<|ys<|yn<|yr<|yo zM<|yo zP<|yo zA<|yl ?_;refine QH ⟨out,st,i+1,A,cc⟩ HN.out (by show s.length+1 - (i+1)<s.length+1 - i;omega) (.cons rfl rfl (.cons rfl rfl (.cons rfl rfl (.cons rfl rfl (.cons rfl (by go_num) .nil))))) (fun w hw=>hw)
 ·have HE:=Lib.hid (HY.out.fin (by show s.length<i;omega));refine yq<|yq<|yr<|yo zM<|yo zM<|yo zT<|yo zqf<|yl<|yn<|y0<|ye<|yn<|yq<|yr<|yo zM<|yo zA<|yl<|yn<|yt ?_;refine Q9 (by exact .inr rfl) rfl (.tmp rfl) (fun w hw=>⟨(A,cc),?_,trivial,?_⟩)
  ·show Ending.returned (.slice A out.length cc)=.returned (.slice A (spl c s).length cc)
   rw[← HE.out]
  ·show Wd [] W (.row A (spl c s).length cc 9 1 (sv (spl c s))::O) w
   rw[← HE.out];exact hw
end
def Z3(x:List UInt8):Int:=match Z9 x with|some v=>v|none=>0
def V4(x:List UInt8):Bool:=(Z9 x).isSome
theorem Qdt{x:List UInt8}(h:Q0C x=true):Z3 x=((YH 0 x:Nat):Int)∧V4 x=true:=by
 unfold Z3 V4
 rw[Q9w,if_pos h];exact⟨rfl,rfl⟩
theorem QaJ{x:List UInt8}(h:Q0C x=false):Z3 x=0∧V4 x=false:=by
 unfold Z3 V4
 rw[Q9w,if_neg (by rw[h];decide)];exact⟨rfl,rfl⟩
def J3(W:World)(x:List UInt8)(e:Ending)(w':World):Prop:=e=.returned (.tuple #[.int .i64 (Z3 x),.bool (V4 x)])∧Below W.heap.size W w'
theorem Qcj{W w:World}{x:List UInt8}{O:List Qg}(h:Q0C x=false)(hw:Wd [] W O w):J3 W x (.returned (.tuple #[.int .i64 0,.bool false])) w:=by
 unfold J3
 rw[(QaJ h).1,(QaJ h).2];exact⟨rfl,hw.k.below⟩
theorem Qag{x:List UInt8}{i:Nat}{b:UInt8}(h:x[i]? =some b):YH 0 (x.take (i+1))=10*YH 0 (x.take i)+(b.toNat - 48):=by
 rw[List.take_add_one,h];exact Q3k _ _ _
theorem QaG{x:List UInt8}{i:Nat}{b:UInt8}(h:x[i]? =some b)(ha:(x.take i).all Q4k=true)(hb:Q4k b=true):(x.take (i+1)).all Q4k=true:=by
 rw[List.take_add_one,h,List.all_append,ha]
 simp [hb]
theorem QcV{x:List UInt8}{i:Nat}{b:UInt8}(h:x[i]? =some b)(hb:Q4k b=false):x.all Q4k=false:=by
 rw[List.all_eq_false];exact⟨b,List.mem_of_getElem? h,by rw[hb];decide⟩
section
variable {W:World}
set_option maxRecDepth 100000 in
set_option maxHeartbeats 16000000 in
theorem Qy(x:List UInt8)(hx:x.length≤1048576):Calls Tryz.prog 86 #[.string ⟨x.toArray⟩] W (J3 W x):=by
 have hbz:(⟨x.toArray⟩:ByteArray).size=x.length:=Xh x
 by_cases hin:1≤x.length∧x.length≤10
 ·have hib:inB ((x.length:Nat):Int) 1 10=true:=Kh (by omega);have HIB:=Lib.hid hib;obtain⟨h1,h10⟩:=hin;obtain⟨b,hb⟩:∃b,x[0]? =some b:=⟨_,List.getElem?_eq_getElem (by omega)⟩
  have hb':(⟨x.toArray⟩:ByteArray)[(0:Int).toNat]? =some b:=by rw[Q3x];exact hb
  have hhd:x.head? =some b:=by rw[List.head?_eq_getElem?];exact hb
  clear hib
  by_cases hz:1<x.length∧b=48
  ·obtain⟨hl1,rfl⟩:=hz
   have HNF:=Lib.hid (show Q0C x=false by
    unfold Q0C
    rw[hhd,decide_eq_true hl1]
    simp)
   clear hb hhd
   go_enter Tryz.func86,Tryz.ntmps86
   refine QE (M:=[]) (W:=W) (N:=41) (E:=[(0,.string ⟨x.toArray⟩)]) (O:=[]) ?_ (Ag.cons (Ag.nil rfl rfl) rfl) (Wd.start [] W);refine yq<|yr<|yo zA<|yo zA<|yl<|yn<|yq<|yq<|yr<|yo zM<|yo zT ?_;refine Q1 (Q4 (f:=14) rfl rfl (by decide) rfl rfl (fun w hw=>(QM _ _ _ w).mono (fun _ _ h=>by rw[hbz,HIB.out] at h;exact h))) ?_;refine yo zO<|yo zM<|yo zM<|yo zT<|yo zgt<|yo zM<|yo zM ?_;refine Q1 (ZX Tryz.underlying9 rfl rfl (by decide) rfl rfl rfl (by omega) hb') ?_;refine yo zer<|yo zY<|yo zN<|yl<|yn<|y1<|yq<|yr<|yo zA<|yo zA<|yl<|yn<|yt<|yc ?_;exact Xv (by exact .inr rfl) rfl (.tmp rfl) (.tmp rfl) (fun w hw=>Qcj HNF.out hw)
  ·have hgo:(decide (1<x.length)&&x.head? ==some 48)=false:=by
    rw[hhd]
    by_cases h:1<x.length
    ·rw[decide_eq_true h,Bool.true_and];exact beq_eq_false_iff_ne.2 (fun e=>hz ⟨h,Option.some.inj e⟩)
    ·rw[decide_eq_false h];rfl
   have HNF:=Lib.hid (show Q0C x=x.all Q4k by
    unfold Q0C
    rw[hgo,decide_eq_true ⟨h1,h10⟩]
    simp)
   have hb48:1<x.length→((b.toNat:Int)==48)=false:=fun h=>beq_eq_false_iff_ne.2 (fun e=>hz ⟨h,UInt8.toNat_inj.1 (by show b.toNat=48;omega)⟩)
   clear hz hgo hhd hb
   rcases (show (1<x.length∧((b.toNat:Int)==48)=false)∨x.length=1 by
    by_cases h:1<x.length
    ·exact .inl ⟨h,hb48 h⟩
    ·exact .inr (by omega)) with ⟨hl1,hb4⟩|hl1<;>
   ·clear hb48
    go_enter Tryz.func86,Tryz.ntmps86
    refine QE (M:=[]) (W:=W) (N:=41) (E:=[(0,.string ⟨x.toArray⟩)]) (O:=[]) ?_ (Ag.cons (Ag.nil rfl rfl) rfl) (Wd.start [] W)
    repeat(first|((with_reducible show sE _ _ _ _ _ _ _ _);first|refine Q6 ?_|refine Q2 ?_))
    refine yo zA<|yo zA<|yl ?_
    repeat(first|((with_reducible show sE _ _ _ _ _ _ _ _);first|refine Q6 ?_|refine Q2 ?_)|((with_reducible show xE _ _ _ _ _ _ _);refine Qb ?_))
    refine yo zM<|yo zT ?_;refine Q1 (Q4 (f:=14) rfl rfl (by decide) rfl rfl (fun w hw=>(QM _ _ _ w).mono (fun _ _ h=>by rw[hbz,HIB.out] at h;exact h))) ?_;refine yo zO<|yo zM<|yo zM<|yo zT ?_;refine Q1 (Ja rfl rfl (by decide) rfl rfl rfl (by first|exact decide_eq_true (by omega)|exact decide_eq_false (by omega))) ?_;refine yo zM ?_
    first|refine Q1 zM ?_|refine Q1 zS ?_
    first|refine Q1 (ZX Tryz.underlying9 rfl rfl (by decide) rfl rfl rfl (by omega) hb') ?_|refine Q1 zS ?_
    first|refine Q1 (XB rfl rfl (by decide) rfl rfl rfl (by first|assumption|rfl)) ?_|refine Q1 zS ?_
    first|refine Q1 zY ?_|refine Q1 zN ?_
    refine yo zN<|yl ?_
    repeat(first|((with_reducible show sE _ _ _ _ _ _ _ _);first|refine Q6 ?_|refine Q2 ?_|refine Qh ?_|refine Q3 rfl ?_)|((with_reducible show xE _ _ _ _ _ _ _);refine Qb ?_))
    refine yo zA<|yl ?_
    repeat(first|((with_reducible show sE _ _ _ _ _ _ _ _);first|refine Q6 ?_|refine Q2 ?_)|((with_reducible show xE _ _ _ _ _ _ _);refine Qb ?_))
    refine yo zA<|yl ?_
    repeat(first|((with_reducible show sE _ _ _ _ _ _ _ _);refine Qe ?_)|((with_reducible show xE _ _ _ _ _ _ _);refine Qb ?_))
    refine X0 (ι:=Nat) (fun i=>i≤x.length∧(x.take i).all Q4k=true) (fun i=>x.length - i) (fun i=>[(0,.string ⟨x.toArray⟩),(4,.int .i64 ((YH 0 (x.take i):Nat):Int)),(5,.int .i64 (i:Int))]) (fun _=>[]) 0 [] (by decide) ⟨Nat.zero_le _,rfl⟩ (.cons rfl rfl (.cons rfl rfl (.cons rfl rfl .nil))) rfl ?_
    rintro i ⟨hi,hall⟩
    have hvl:=Q5A (x.take i) 0 0 hall (by decide);have hpw:(10:Nat) ^ (0+(x.take i).length)≤10 ^ 10:=Nat.pow_le_pow_right (by decide) (by rw[List.length_take];omega)
    have hpc:(10:Nat) ^ 10=10000000000:=by decide
    have hvb:YH 0 (x.take i)<10000000000:=by omega
    clear hvl hpw hpc;have HALL:=Lib.hid hall;clear hall
    by_cases hil:i<x.length
    ·obtain⟨b2,hb2⟩:∃b,x[i]? =some b:=⟨_,List.getElem?_eq_getElem hil⟩
     have hb2':(⟨x.toArray⟩:ByteArray)[((i:Nat):Int).toNat]? =some b2:=by rw[Int.toNat_natCast,Q3x];exact hb2
     have hlt2:=b2.toNat_lt;have HVT:=Lib.hid (Qag hb2);have HWR:=Lib.hid (Q3o b2)
     by_cases hdg:48≤(b2.toNat:Int)∧(b2.toNat:Int)≤57
     ·have HI2:=Lib.hid (Kh hdg);have HDT:=Lib.hid (QaG hb2 HALL.out (decide_eq_true (by omega)));clear hb2
      have heq:10*((YH 0 (x.take i):Nat):Int)+((b2.toNat:Int) - 48)=((YH 0 (x.take (i+1)):Nat):Int):=by rw[HVT.out];omega
      generalize YH 0 (x.take i)=V at hvb heq ⊢
      repeat(first|((with_reducible show sE _ _ _ _ _ _ _ _);first|refine Q6 ?_|refine Q2 ?_))
      refine yo zM<|yo zM<|yo zT<|yo zlt<|yl ?_
      repeat(first|((with_reducible show sE _ _ _ _ _ _ _ _);first|refine Q6 ?_|refine Q2 ?_|refine Qh ?_|refine Q5 rfl ?_|refine Qe ?_)|((with_reducible show xE _ _ _ _ _ _ _);refine Qb ?_))
      refine yo zM<|yo zM ?_;refine Q1 (ZX Tryz.underlying9 rfl rfl (by decide) rfl rfl rfl (by omega) hb2') ?_;refine Q1 (Y4 rfl rfl (by decide) rfl rfl (by rw[Tryz.underlying5];rfl) Tryz.underlying3 HWR.out) ?_;refine Q1 (Q4 (f:=14) rfl rfl (by decide) rfl rfl (fun w hw=>(QM _ _ _ w).mono (fun _ _ h=>by rw[HI2.out] at h;exact h))) ?_;refine yo zO<|yl ?_
      repeat(first|((with_reducible show sE _ _ _ _ _ _ _ _);first|refine Q2 ?_|refine Qh ?_|refine Q3 rfl ?_)|((with_reducible show xE _ _ _ _ _ _ _);refine Qb ?_))
      refine yo zM ?_;refine Q1 (Q56 (k:=.i64) rfl rfl (by decide) rfl rfl rfl (IntWalk.i64_in _ (by omega))) ?_;refine yo zM<|yo zM ?_;refine Q1 (ZX Tryz.underlying9 rfl rfl (by decide) rfl rfl rfl (by omega) hb2') ?_;refine Q1 (QdC (k:=.u8) rfl rfl (by decide) rfl rfl rfl (IntWalk.u8_in _ (by omega))) ?_;refine Q1 (Y4 rfl rfl (by decide) rfl rfl (by rw[Tryz.underlying5];rfl) Tryz.underlying3 (IntWalk.i64_in _ (by omega))) ?_;refine yo zP<|yo zA<|yl ?_
      repeat(first|((with_reducible show sE _ _ _ _ _ _ _ _);refine Q2 ?_)|((with_reducible show xE _ _ _ _ _ _ _);refine Qb ?_))
      refine yo zM<|yo zP<|yo zA<|yl ?_;refine QA (i+1) [] (by decide) ⟨hil,HDT.out⟩ (by omega) (.cons rfl rfl (.cons rfl (by rw[heq]) (.cons rfl (by go_num) .nil))) rfl
     ·have HI2:=Lib.hid (Q1U hdg);have HBAD:=Lib.hid (show Q0C x=false from HNF.out.trans (QcV hb2 (decide_eq_false (by omega))));clear hb2
      repeat(first|((with_reducible show sE _ _ _ _ _ _ _ _);first|refine Q6 ?_|refine Q2 ?_))
      refine yo zM<|yo zM<|yo zT<|yo zlt<|yl ?_
      repeat(first|((with_reducible show sE _ _ _ _ _ _ _ _);first|refine Q6 ?_|refine Q2 ?_|refine Qh ?_|refine Q5 rfl ?_|refine Qe ?_)|((with_reducible show xE _ _ _ _ _ _ _);refine Qb ?_))
      refine yo zM<|yo zM ?_;refine Q1 (ZX Tryz.underlying9 rfl rfl (by decide) rfl rfl rfl (by omega) hb2') ?_;refine Q1 (Y4 rfl rfl (by decide) rfl rfl (by rw[Tryz.underlying5];rfl) Tryz.underlying3 HWR.out) ?_;refine Q1 (Q4 (f:=14) rfl rfl (by decide) rfl rfl (fun w hw=>(QM _ _ _ w).mono (fun _ _ h=>by rw[HI2.out] at h;exact h))) ?_;refine yo zO<|yl ?_
      repeat(first|((with_reducible show sE _ _ _ _ _ _ _ _);first|refine Q6 ?_|refine Q2 ?_|refine Q5 rfl ?_)|((with_reducible show xE _ _ _ _ _ _ _);refine Qb ?_))
      refine yo zA<|yo zA<|yl ?_
      repeat(first|((with_reducible show sE _ _ _ _ _ _ _ _);refine Ql ?_)|((with_reducible show xE _ _ _ _ _ _ _);first|refine Qb ?_|refine Qc ?_|refine Qf ?_))
      exact Xv (by exact .inr rfl) rfl (.tmp rfl) (.tmp rfl) (fun w hw=>Qcj HBAD.out hw)
    ·obtain rfl:i=x.length:=by omega
     have HYES:=Lib.hid (Qdt (show Q0C x=true by have h:=HALL.out;rw[List.take_length] at h;exact HNF.out.trans h))
     repeat(first|((with_reducible show sE _ _ _ _ _ _ _ _);first|refine Q6 ?_|refine Q2 ?_))
     refine yo zM<|yo zM<|yo zT<|yo zlf<|yl ?_
     repeat(first|((with_reducible show sE _ _ _ _ _ _ _ _);first|refine Q6 ?_|refine Q2 ?_|refine Q3 rfl ?_|refine QX ?_)|((with_reducible show xE _ _ _ _ _ _ _);refine Qb ?_))
     refine yo zM<|yo zA<|yo zA<|yl ?_
     repeat(first|((with_reducible show sE _ _ _ _ _ _ _ _);refine Ql ?_)|((with_reducible show xE _ _ _ _ _ _ _);refine Qb ?_))
     refine Xv (by exact .inr rfl) rfl (.tmp rfl) (.tmp rfl) (fun w hw=>?_)
     unfold J3
     rw[HYES.out.1,HYES.out.2,List.take_length];exact⟨rfl,hw.k.below⟩
 ·have HIB:=Lib.hid (Q1U (n:=((x.length:Nat):Int)) (a:=1) (b:=10) (by omega))
  have HNF:=Lib.hid (show Q0C x=false by
   unfold Q0C
   rw[decide_eq_false hin]
   rfl)
  go_enter Tryz.func86,Tryz.ntmps86
  refine QE (M:=[]) (W:=W) (N:=41) (E:=[(0,.string ⟨x.toArray⟩)]) (O:=[]) ?_ (Ag.cons (Ag.nil rfl rfl) rfl) (Wd.start [] W);refine yq<|yr<|yo zA<|yo zA<|yl<|yn<|yq<|yq<|yr<|yo zM<|yo zT ?_;refine Q1 (Q4 (f:=14) rfl rfl (by decide) rfl rfl (fun w hw=>(QM _ _ _ w).mono (fun _ _ h=>by rw[hbz,HIB.out] at h;exact h))) ?_;refine yo zO<|yo zM<|yo zS<|yo zS<|yo zS<|yo zS<|yo zS<|yo zS<|yo zS<|yo zS<|yo zY<|yl<|yn<|y1<|yq<|yr<|yo zA<|yo zA<|yl<|yn<|yt<|yc ?_;exact Xv (by exact .inr rfl) rfl (.tmp rfl) (.tmp rfl) (fun w hw=>Qcj HNF.out hw)
end
end Go.Proofs.YtgdiadednlajgaaGreatDoor
