import Derived.Test.YtgdiadednlajgaaGreatDoorP20
import Derived.Test.YtgdiadednlajgaaGreatDoorP24
namespace Go.Proofs.YtgdiadednlajgaaGreatDoor
set_option linter.unusedVariables false
set_option linter.unusedSimpArgs false
def Q4k(c:UInt8):Bool:=decide (48≤c.toNat∧c.toNat≤57)
def YH:Nat→List UInt8→Nat
 |n,[]=>n
 |n,c::r=>YH (10*n+(c.toNat - 48)) r
theorem Q3k:∀(x:List UInt8) (n:Nat) (c:UInt8),YH n (x++[c])=10*YH n x+(c.toNat - 48)
 |[],n,c=>rfl
 |b::x,n,c=>Q3k x _ c
theorem Q5A:∀(x:List UInt8) (n m:Nat),x.all Q4k=true→n<10 ^ m→YH n x<10 ^ (m+x.length)
 |[],n,m,_,h=>h
 |c::r,n,m,ha,h=>by
  rw[List.all_cons,Bool.and_eq_true] at ha;have hc:48≤c.toNat∧c.toNat≤57:=of_decide_eq_true ha.1;have:=Q5A r (10*n+(c.toNat - 48)) (m+1) ha.2 (by rw[Nat.pow_succ];omega);rw[List.length_cons,show m+(r.length+1)=m+1+r.length by omega];exact this
theorem Q70:∀(x:List UInt8) (n:Nat),0<n→0<YH n x
 |[],n,h=>h
 |c::r,n,h=>Q70 r _ (by omega)
def Q0C(x:List UInt8):Bool:=decide (1≤x.length∧x.length≤10)&&!(decide (1<x.length)&&x.head? ==some 48)&&x.all Q4k
theorem Qc9(m:Nat):∀(x:List UInt8),x.length=m+1→x.all Q4k=true→(1<x.length→x.head?≠some 48)→Lib.decDigits (YH 0 x)=x:=by
 induction m using Nat.strongRecOn with
 |_ m ihm=>
  intro x hl ha hh
  rcases List.eq_nil_or_concat x with rfl|⟨y,c,rfl⟩
  ·cases hl
  ·rw[List.concat_eq_append] at*;rw[List.all_append,Bool.and_eq_true] at ha
   have hc:48≤c.toNat∧c.toNat≤57:=by
    have h:=ha.2
    simp only[List.all_cons,List.all_nil,Bool.and_true] at h
    exact of_decide_eq_true h
   rw[Q3k]
   cases y with
   |nil=>
    rw[Lib.decDigits,dif_pos (by show 10*YH 0 []+(c.toNat - 48)<10;show 10*0+(c.toNat - 48)<10;omega)]
    show [_]=[c]
    congr 1
    refine UInt8.toNat.inj ?_
    show (UInt8.ofNat (48+(10*0+(c.toNat - 48)))).toNat=c.toNat
    simp only[UInt8.toNat_ofNat']
    omega
   |cons b t=>
    have hb:b≠48:=fun e=>hh (by simp) (by rw[e];rfl)
    have hbd:48≤b.toNat∧b.toNat≤57:=by
     have h:=ha.1;rw[List.all_cons,Bool.and_eq_true] at h;exact of_decide_eq_true h.1
    have hb48:b.toNat≠48:=fun e=>hb (UInt8.toNat.inj (by rw[e];rfl))
    have hp:0<YH 0 (b::t):=Q70 t _ (by show 0<10*0+(b.toNat - 48);omega);have ih:=ihm t.length (by simp at hl;omega) (b::t) rfl ha.1 (fun _ h=>hb (by simpa using h));rw[Lib.decDigits,dif_neg (by omega),show (10*YH 0 (b::t)+(c.toNat - 48)) / 10=YH 0 (b::t) by omega,ih]
    congr 1
    congr 1
    refine UInt8.toNat.inj ?_
    simp only[UInt8.toNat_ofNat']
    omega
theorem QbA(u:Nat)(h:10≤u):(Lib.decDigits u).head?≠some 48:=by
 induction u using Nat.strongRecOn with
 |_ u ih=>
  rw[Lib.decDigits,dif_neg (by omega)]
  by_cases h10:10≤u / 10
  ·have h1:=ih (u / 10) (by omega) h10
   cases hd:Lib.decDigits (u / 10) with
   |nil=>exact absurd hd (YX _)
   |cons b t=>rw[hd] at h1;exact h1
  ·rw[Lib.decDigits,dif_pos (by omega)]
   show some (UInt8.ofNat (48+u / 10))≠some 48
   intro e;have e2:=congrArg UInt8.toNat (Option.some.inj e)
   simp only[UInt8.toNat_ofNat'] at e2
   have:(48:UInt8).toNat=48:=rfl
   omega
theorem Q9w(x:List UInt8):Z9 x=if Q0C x=true then some ((YH 0 x:Nat):Int) else none:=by
 by_cases hf:Q0C x=true
 ·rw[if_pos hf]
  unfold Q0C at hf
  simp only[Bool.and_eq_true,Bool.not_eq_true',decide_eq_true_eq,Bool.and_eq_false_iff,decide_eq_false_iff_not,beq_eq_false_iff_ne] at hf
  obtain⟨⟨⟨h1,h2⟩,h3⟩,h4⟩:=hf
  have hd:=Qc9 (x.length - 1) x (by omega) h4 (fun hl h=>by
   rcases h3 with h3|h3
   ·exact h3 hl
   ·exact h3 h)
  have hlt:=Q5A x 0 0 h4 (by decide);have h10:(10:Nat) ^ (0+x.length)≤10 ^ 10:=Nat.pow_le_pow_right (by decide) (by omega);have hi:=Ji (v:=((YH 0 x:Nat):Int)) (by omega) (by omega);rw[Vl (by omega),Int.toNat_natCast,hd] at hi;exact hi
 ·rw[if_neg hf]
  cases hn:Z9 x with
  |none=>rfl
  |some v=>
   exfalso
   apply hf
   obtain⟨hx,h0⟩:=Jg hn
   have hok:Z0 x=true:=by
    unfold Z9 at hn
    split at hn
    ·assumption
    ·cases hn
   have hl:x.length≤10:=by
    unfold Z0 at hok
    cases ha:Lib.atoiAll x with
    |ok u=>
     rw[ha] at hok
     simp only[Bool.and_eq_true,Bool.not_eq_true',decide_eq_false_iff_not] at hok
     omega
    |_=>rw[ha] at hok;cases hok
   rw[Vl h0] at hx;have hne:=YX v.toNat;have hdig:=JC v.toNat;have hhd:=QbA v.toNat;have hlen:=Lib.decDigits_length v.toNat;rw[← hx] at hne hdig hhd hlen
   unfold Q0C
   simp only[Bool.and_eq_true,Bool.not_eq_true',decide_eq_true_eq,Bool.and_eq_false_iff,decide_eq_false_iff_not,beq_eq_false_iff_ne]
   refine⟨⟨⟨?_,hl⟩,?_⟩,?_⟩
   ·cases x with
    |nil=>exact absurd rfl hne
    |cons b t=>rw[List.length_cons];omega
   ·by_cases h10:10≤v.toNat
    ·exact .inr (hhd h10)
    ·left
     rw[hlen,Lib.nDigits_small (by omega)]
     omega
   ·rw[List.all_eq_true]
    exact fun c hc=>decide_eq_true (hdig c hc)
theorem Qbu{a b c:UInt8}:Kx c=[a,b]↔(¬(Xc a<0∨Xc b<0))∧c=JH a b:=by
 constructor
 ·intro h;have hlt:c.toNat<256:=c.toNat_lt
  unfold Kx at h
  injection h with h1 h2
  injection h2 with h2 _
  rw[← h1,← h2,Q0b (by omega),Q0b (by omega),Q3l];exact⟨by omega,rfl⟩
 ·rintro⟨h1,rfl⟩
  exact Q4K (fun h=>h1 (.inl h)) (fun h=>h1 (.inr h))
theorem Q3D:∀{x o:List UInt8},X3 x=some o→∀a b:UInt8,X3 (x++[a,b])=if Xc a<0∨Xc b<0 then none else some (o++[JH a b])
 |[],o,h,a,b=>by
  cases h
  show X3 [a,b]=_
  rw[X3]
  split<;>rfl
 |[_],o,h,_,_=>by cases h
 |c::d::l,o,h,a,b=>by
  rw[X3] at h
  show X3 (c::d::(l++[a,b]))=_
  rw[X3]
  split at h
  ·cases h
  ·next hn=>
   rw[if_neg hn]
   cases hu:X3 l with
   |none=>rw[hu] at h;cases h
   |some t=>
    rw[hu] at h
    cases h
    rw[Q3D hu a b]
    split<;>rfl
theorem Q55:∀{x:List UInt8},(∃o,X3 x=some o)→∀(a b:UInt8) (l:List UInt8),Xc a<0∨Xc b<0→X3 (x++a::b::l)=none
 |[],_,a,b,l,h=>by
  show X3 (a::b::l)=none
  rw[X3,if_pos h]
 |[_],⟨o,h⟩,_,_,_,_=>by cases h
 |c::d::x,⟨o,ho⟩,a,b,l,h=>by
  show X3 (c::d::(x++a::b::l))=none
  rw[X3] at ho ⊢
  split
  ·rfl
  ·next hn=>
   rw[if_neg hn] at ho
   cases hu:X3 x with
   |none=>rw[hu] at ho;cases ho
   |some t=>rw[Q55 ⟨t,hu⟩ a b l h];rfl
theorem Q93(c:UInt8)(w:List UInt8):(∃t r,Xp c w=(t,r,true)∧spl c w=t::spl c r∧c∉t)∨(∃t r,Xp c w=(t,r,false)∧spl c w=[w]):=by
 obtain⟨t,r,e,he⟩:∃t r e,Xp c w=(t,r,e):=⟨_,_,_,rfl⟩
 cases e with
 |true=>
  have h:=Vo he;exact .inl ⟨t,r,he,h.1,h.2.2⟩
 |false=>
  have h:=Q58 he;exact .inr ⟨t,r,he,h.1⟩
theorem Q8U(w:List UInt8):Yb w=match spl 58 w with
  |[p,q]=>if (p==[45]||Qi p)&&Qi q then some (if p==[45] then [] else p,q) else none
  |_=>none:=by
 unfold Yb
 rcases Q93 58 w with ⟨t,r,hc,hs,_⟩|⟨t,r,hc,hs⟩
 ·rw[hs,hc]
  rcases Q93 58 r with ⟨t2,r2,hc2,hs2,_⟩|⟨t2,r2,hc2,hs2⟩
  ·have hm:(58:UInt8)∈r:=by rw[(Vo hc2).2.1];simp
   have hn:Qi r=false:=by
    cases h:Qi r with
    |false=>rfl
    |true=>exact absurd hm (Q0a h).2.1
   have hne:=Kz 58 r2;rw[hs2]
   simp only[hn,Bool.and_false]
   cases hr:spl 58 r2 with
   |nil=>exact absurd hr hne
   |cons a l=>rfl
  ·rw[hs2]
   simp only[Bool.true_and]
 ·rw[hs,hc]
  simp
end Go.Proofs.YtgdiadednlajgaaGreatDoor
