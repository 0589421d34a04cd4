import Derived.Test.YtphkhfdmlcnoeaaGreatDoorQ15
namespace Go.Proofs.YtphkhfdmlcnoeaaGreatDoor
set_option linter.unusedVariables false
set_option linter.unusedSimpArgs false
set_option maxRecDepth 1000000
set_option maxHeartbeats 32000000
section
variable {i n:Nat}{old:List Int}{r:Rl}{x:Int}
def lk(old:List Int)(x:Int):Int:=old.getD x.toNat 0
def Q42(F:List Rl)(x:Int):Int:=match F[x.toNat]? with|some r=>Qel r.kind r.mn|none=>0
def Q6d(old:List Int):Int->List Int->Int
 |n,[]=>n
 |n,x::l=>Q6d old (if 0<=(if lk old x<0 then -1 else n) then Q3T ((if lk old x<0 then -1 else n)+lk old x) else (if lk old x<0 then -1 else n)) l
def Q4c(old:List Int):Int->List Int->Int
 |n,[]=>n
 |n,x::l=>Q4c old (if 0<=lk old x/\(n<0\/lk old x<n) then lk old x else n) l
def Kh(F:List Rl)(old:List Int)(r:Rl):Int:=
 if r.kind=1 then (r.bs.length:Int)
 else if r.kind=2\/r.kind=4 then r.size
 else if r.kind=3 then 2
 else if r.kind=5\/r.kind=9 then 1
 else if r.kind=6 then (if 0<=lk old r.count/\Q42 F r.count=0 then lk old r.count else if 0<=lk old r.count/\0<=lk old r.elem then Q3T (lk old r.count+Q42 F r.count*lk old r.elem) else -1)
 else if r.kind=10 then (if 0<=lk old r.count then Q3T (lk old r.count+Q42 F r.count) else -1)
 else if r.kind=7 then Q6d old 0 r.parts
 else if r.kind=8 then Q4c old (-1) r.parts
 else -1
def Q6p(F:List Rl)(old:List Int):List Int:=F.map (Kh F old)
def Yv(F:List Rl)(t:Nat):List Int:=iter (Q6p F) t (List.replicate F.length (-1))
def Q09(F:List Rl):List Int:=Yv F (2*F.length+1)
def Q2f(out:List Int)(l:List Int):Int:=l.foldl (fun s x=>s+lk out x) 0
def Q2p(out:List Int)(l:List Int):Int:=l.foldl (fun s x=>min s (lk out x)) 1001
def Zd(F:List Rl)(out:List Int)(r:Rl):Int:=
 if r.kind=1 then (r.bs.length:Int)
 else if r.kind=2\/r.kind=4 then r.size
 else if r.kind=3 then 2
 else if r.kind=10 then lk out r.count+JN F r.count
 else if r.kind=6 then lk out r.count+JN F r.count*lk out r.elem
 else if r.kind=7 then Q2f out r.parts
 else if r.kind=8 then Q2p out r.parts
 else 1
structure JI(F:List Rl)(a:List Int):Prop where
 len:a.length=F.length
 eq:∀(i:Nat) (r:Rl),F[i]? =some r->a.getD i 0=min (Zd F a r) 1001
 nn:∀i:Nat,0<=a.getD i 0
structure Usd(F:List Rl):Prop where
 ok:FOk F
 use:∀(i:Nat) (r:Rl),F[i]? =some r->(r.kind=6\/r.kind=10)->∃c,F[r.count.toNat]? =some c/\(c.kind=2\/c.kind=3)
structure Vld(F:List Rl):Prop extends Usd F where
 cyc:∀i,i<F.length->¬Rch F i i
 fin:∀i,i<F.length->(Jg F).getD i false=true
theorem Q5s(n:Int):Q3T n<=1001:=by unfold Q3T;split<;>omega
theorem Jn(n:Int):Q3T n=min n 1001:=by unfold Q3T;split<;>omega
theorem QdZ(F:List Rl)(old:List Int):(Q6p F old).length=F.length:=by unfold Q6p;rw[List.length_map]
theorem Zq(F:List Rl):∀t,(Yv F t).length=F.length
 |0=>List.length_replicate
 |t+1=>QdZ F _
theorem QfQ{F:List Rl}(h:F[i]? =some r)(old:List Int):(Q6p F old).getD i 0=Kh F old r:=by
 unfold Q6p;rw[List.getD_eq_getElem?_getD,List.getElem?_map,h];rfl
theorem KK{F:List Rl}(h:F[i]? =some r)(t:Nat):(Yv F (t+1)).getD i 0=Kh F (Yv F t) r:=QfQ h _
theorem Usd.least{F:List Rl}(hv:Usd F)(h:F[i]? =some r)(hk:r.kind=6\/r.kind=10):0<=JN F r.count/\Q42 F r.count=min (JN F r.count) 1001:=by
 obtain⟨c,hc,h23⟩:=hv.use i r h hk;have hok:=hv.ok _ _ hc;rw[Q12 hc];unfold Q42;rw[hc];show _/\Qel c.kind c.mn=_;unfold Qel;rcases h23 with h2|h3
 ·rw[if_pos h2,Jn];exact⟨(hok.num h2).2.2.1,rfl⟩
 ·rw[if_neg Q2];have hf:=hok.formed
  unfold Y4 at hf;simp only[Bool.and_eq_true,Bool.or_eq_true,beq_iff_eq] at hf;have:=hf.1.1.1.1.1.2;have h0:c.mn=0:=by
   rcases this with h|h
   ·exact h.2
   ·omega
  rw[h0];exact⟨by omega,rfl⟩
section
variable {F:List Rl}
def sg(old:List Int):List Bool:=old.map fun n=>decide (0<=n)
theorem Q5O(hx:0<=x/\x<old.length):mk (sg old) x=decide (0<=lk old x):=by
 unfold mk sg lk;rw[List.getD_eq_getElem?_getD,List.getElem?_map,List.getD_eq_getElem?_getD];have:x.toNat<old.length:=by omega
 rw[List.getElem?_eq_getElem this];rfl
structure Rnd(F:List Rl)(a old:List Int):Prop where
 len:old.length=F.length
 up:∀j:Nat,j<F.length->old.getD j 0<0\/a.getD j 0<=old.getD j 0
 top:∀j:Nat,old.getD j 0<=1001
theorem Qbq(old:List Int):∀(l:List Int) (n:Int),n<0->Q6d old n l<0
 |[],n,h=>h
 |x::l,n,h=>by
  unfold Q6d
  refine Qbq old l _ ?_
  split<;>split<;>omega
theorem Q4b(old:List Int):∀(l:List Int) (n:Int),0<=n->((∀x∈l,0<=lk old x)↔0<=Q6d old n l)
 |[],n,h=>⟨fun _=>h,fun _=>by simp⟩
 |x::l,n,h=>by
  unfold Q6d
  by_cases hx:lk old x<0
  ·rw[if_pos hx,if_neg Q2];refine⟨fun hl=>absurd (hl x List.mem_cons_self) Q2,fun hs=>?_⟩;have:=Qbq old l (-1) Q2
   omega
  ·rw[if_neg hx,if_pos h]
   have hc:0<=Q3T (n+lk old x):=by rw[Jn];omega
   rw[<- Q4b old l _ hc]
   exact⟨fun hl y hy=>hl y Qhy,fun hl y hy=>by
    rcases List.mem_cons.1 hy with rfl|hy
    ·omega
    ·exact hl y hy⟩
theorem Q7g(old:List Int):∀(l:List Int) (n:Int),0<=n->n<=1001->(∀x∈l,0<=lk old x)->Q6d old n l=min (l.foldl (fun s x=>s+lk old x) n) 1001
 |[],n,h,h1,_=>by show n=min n 1001;omega
 |x::l,n,h,h1,hl=>by
  have hx:=hl x List.mem_cons_self
  unfold Q6d;rw[show (if lk old x<0 then (-1:Int) else n)=n from if_neg Q2,if_pos h,List.foldl_cons,Q7g old l _ (by rw[Jn];omega) (Q5s _) (fun y hy=>hl y (List.mem_cons_of_mem _ hy)),Jn];have hadd:∀(l:List Int) (s d:Int),l.foldl (fun s x=>s+lk old x) (s+d)=l.foldl (fun s x=>s+lk old x) s+d:=by
   intro l;induction l with
   |nil=>intro s d;rfl
   |cons y l ih=>intro s d;rw[List.foldl_cons,List.foldl_cons,show s+d+lk old y=s+lk old y+d by omega,ih]
  have hpos:∀(l:List Int) (s:Int),(∀y∈l,0<=lk old y)->s<=l.foldl (fun s x=>s+lk old x) s:=by
   intro l;induction l with
   |nil=>intro s _;exact Q43
   |cons y l ih=>intro s hy;rw[List.foldl_cons];have:=ih (s+lk old y) (fun z hz=>hy z (List.mem_cons_of_mem _ hz));have:=hy y List.mem_cons_self;omega
  have hl':∀y∈l,0<=lk old y:=fun y hy=>hl y Qhy;by_cases hm:n+lk old x<=1001
  ·rw[show min (n+lk old x) 1001=n+lk old x by omega]
  ·have h2:=hpos l (min (n+lk old x) 1001) hl';have h3:=hpos l (n+lk old x) hl'
   omega
theorem Q3W(old:List Int):∀(l:List Int) (n:Int),(0<=n\/∃x∈l,0<=lk old x)↔0<=Q4c old n l
 |[],n=>⟨fun h=>h.elim id (fun⟨x,hx,_⟩=>absurd hx Qn),fun h=>.inl h⟩
 |x::l,n=>by
  unfold Q4c
  rw[<- Q3W old l]
  constructor
  ·rintro(h|⟨y,hy,h⟩)
   ·left;split<;>omega
   ·rcases List.mem_cons.1 hy with rfl|hy
    ·left
     split
     ·exact h
     ·next hn=>omega
    ·exact .inr ⟨y,hy,h⟩
  ·rintro(h|⟨y,hy,h⟩)
   ·split at h
    ·next hc=>exact .inr ⟨x,List.mem_cons_self,hc.1⟩
    ·exact .inl h
   ·exact .inr ⟨y,List.mem_cons_of_mem _ hy,h⟩
theorem Qhn(old:List Int)(m:Int):∀(l:List Int) (n:Int),(n<0\/m<=n)->(∀x∈l,lk old x<0\/m<=lk old x)->Q4c old n l<0\/m<=Q4c old n l
 |[],n,h,_=>h
 |x::l,n,h,hl=>by
  unfold Q4c
  refine Qhn old m l _ ?_ fun y hy=>hl y (List.mem_cons_of_mem _ hy)
  have:=hl x List.mem_cons_self
  split
  ·exact this
  ·exact h
theorem Qc4(old:List Int)(ht:∀j:Nat,old.getD j 0<=1001):∀(l:List Int) (n:Int),n<=1001->Q4c old n l<=1001
 |[],n,h=>h
 |x::l,n,h=>by
  unfold Q4c
  refine Qc4 old ht l _ ?_;have:lk old x<=1001:=ht _
  split<;>omega
theorem Q2y(old:List Int):∀(l:List Int) (n:Int),(0<=n->Q4c old n l<=n)/\∀x∈l,0<=lk old x->Q4c old n l<=lk old x
 |[],n=>⟨fun _=>Int.le_refl _,fun x hx=>by cases hx⟩
 |x::l,n=>by
  unfold Q4c
  refine⟨fun h=>?_,fun y hy h=>?_⟩
  ·have:=Q2y old l (if 0<=lk old x/\(n<0\/lk old x<n) then lk old x else n)
   split at this<;>split<;>omega;all_goals (have h1:=this.1;simp_all;try omega)
  ·rcases List.mem_cons.1 hy with rfl|hy
   ·by_cases hc:0<=lk old y/\(n<0\/lk old y<n)
    ·rw[if_pos hc];exact(Q2y old l _).1 h
    ·rw[if_neg hc];have:=(Q2y old l n).1 Q2
     omega
   ·exact(Q2y old l _).2 y hy h
theorem QcQ(old:List Int):∀(l:List Int) (n:Int),n<=1001->Q6d old n l<=1001
 |[],n,h=>h
 |x::l,n,h=>by
  unfold Q6d
  refine QcQ old l _ ?_
  by_cases hx:lk old x<0
  ·rw[if_pos hx,if_neg Q2];omega
  ·rw[if_neg hx]
   split
   ·exact Q5s _
   ·exact h
theorem KC(out:List Int):∀(l:List Int) (n:Int),l.foldl (fun s x=>min s (lk out x)) n<=n/\∀x∈l,l.foldl (fun s x=>min s (lk out x)) n<=lk out x
 |[],n=>⟨Int.le_refl _,fun x hx=>by cases hx⟩
 |x::l,n=>by
  rw[List.foldl_cons];have h:=KC out l (min n (lk out x));refine⟨by omega,fun y hy=>?_⟩
  rcases List.mem_cons.1 hy with rfl|hy
  ·omega
  ·exact h.2 y hy
theorem Y6(out:List Int):∀(l:List Int) (n:Int),l.foldl (fun s x=>min s (lk out x)) n=n\/∃x∈l,l.foldl (fun s x=>min s (lk out x)) n=lk out x
 |[],n=>.inl rfl
 |x::l,n=>by
  rw[List.foldl_cons]
  rcases Y6 out l (min n (lk out x)) with h|⟨y,hy,h⟩
  ·by_cases hc:n<=lk out x
   ·left;omega
   ·right;exact⟨x,List.mem_cons_self,by omega⟩
  ·exact .inr ⟨y,List.mem_cons_of_mem _ hy,h⟩
theorem Kz(old a:List Int):∀(l:List Int) (n m:Int),m<=n->(∀x∈l,lk a x<=lk old x)->l.foldl (fun s x=>s+lk a x) m<=l.foldl (fun s x=>s+lk old x) n
 |[],n,m,h,_=>h
 |x::l,n,m,h,hl=>by
  rw[List.foldl_cons,List.foldl_cons]
  refine Kz old a l _ _ ?_ fun y hy=>hl y (List.mem_cons_of_mem _ hy)
  have:=hl x List.mem_cons_self
  omega
theorem Q3q(old a:List Int):∀(l:List Int) (n:Int),(∀x∈l,lk a x=lk old x)->l.foldl (fun s x=>s+lk a x) n=l.foldl (fun s x=>s+lk old x) n
 |[],n,_=>rfl
 |x::l,n,hl=>by
  rw[List.foldl_cons,List.foldl_cons,hl x List.mem_cons_self]
  exact Q3q old a l _ fun y hy=>hl y (List.mem_cons_of_mem _ hy)
theorem Vr(a:List Int):∀(l:List Int) (n:Int),(∀x∈l,0<=lk a x)->n<=l.foldl (fun s x=>s+lk a x) n/\∀x∈l,n+lk a x<=l.foldl (fun s x=>s+lk a x) n
 |[],n,_=>⟨Int.le_refl _,fun x hx=>by cases hx⟩
 |x::l,n,hl=>by
  rw[List.foldl_cons]
  have h:=Vr a l (n+lk a x) fun y hy=>hl y Qhy
  have h0:=hl x List.mem_cons_self;refine⟨by omega,fun y hy=>?_⟩;rcases List.mem_cons.1 hy with rfl|hy
  ·omega
  ·have:=h.2 y hy;omega
end
section
variable {F:List Rl}{a:List Int}
theorem JI.top(h:JI F a)(i:Nat):a.getD i 0<=1001:=by
 by_cases hi:i<F.length
 ·rw[h.eq i F[i] (List.getElem?_eq_getElem hi)];omega
 ·rw[List.getD_eq_getElem?_getD,List.getElem?_eq_none (by rw[h.len];omega)];decide
noncomputable def rk(F:List Rl)(i:Nat):Nat:=by
 classical exact cnt (fun j=>decide (Rch F i j)) F.length
theorem Qs1(hv:Vld F){j:Nat}(hj:j∈bg F i):rk F j<rk F i:=by
 classical
 have hjn:j<F.length:=hv.ok.bd i j hj;unfold rk;refine Q3H F.length (fun x _ hx=>?_) ⟨j,hjn,?_,?_⟩
 ·rw[decide_eq_true_eq] at hx ⊢;exact Rch.trans (.one hj) hx
 ·rw[decide_eq_false_iff_not];exact hv.cyc j hjn
 ·rw[decide_eq_true_eq];exact .one hj
theorem Qcv(hr:F[i]? =some r)(hx:x∈bl r):x.toNat∈bg F i:=by
 rw[Q4E hr];exact List.mem_map_of_mem hx
theorem Qqp(h:JI F a)(x:Int):0<=lk a x:=h.nn _
theorem JI.pos(hv:Vld F)(h:JI F a):∀(m i:Nat),rk F i<m->i<F.length->1<=a.getD i 0
 |0,i,hm,_=>absurd hm Q2
 |m+1,i,hm,hi=>by
  have hr:F[i]? =some F[i]:=List.getElem?_eq_getElem hi;obtain⟨r,hrr⟩:∃r,r=F[i]:=⟨_,rfl⟩;rw[<- hrr] at hr;have hok:=hv.ok i r hr
  have hbeg:∀x∈bl r,1<=lk a x:=fun x hx=>by
   have hb:=Qcv hr hx;exact JI.pos hv h m x.toNat (by have:=Qs1 hv hb;omega) (hv.ok.bd i _ hb)
  rw[h.eq i r hr];unfold Zd;by_cases h1:r.kind=1
  ·rw[if_pos h1];have:=hok.bs1 h1;omega
  rw[if_neg h1];by_cases h2:r.kind=2\/r.kind=4
  ·rw[if_pos h2]
   rcases h2 with h2|h4
   ·have:=(hok.num h2).1;omega
   ·have:=(hok.size4 h4).1;omega
  rw[if_neg h2];by_cases h3:r.kind=3
  ·rw[if_pos h3];omega
  rw[if_neg h3];by_cases h10:r.kind=10
  ·rw[if_pos h10];have:=hbeg r.count Qnp;have:=(hv.least hr (.inr h10)).1
   omega
  rw[if_neg h10];by_cases h6:r.kind=6
  ·rw[if_pos h6];have:=hbeg r.count Qmz;have:=Int.mul_nonneg (hv.least hr (.inl h6)).1 (Qqp h r.elem)
   omega
  rw[if_neg h6];by_cases h7:r.kind=7
  ·rw[if_pos h7];have hne:=(hok.seven h7).2;obtain⟨x,hx⟩:∃x,r.parts[0]? =some x:=⟨_,List.getElem?_eq_getElem hne⟩
   have hxb:x∈bl r:=by
    unfold bl Xg;rw[if_neg Q2,if_pos h7];cases hp:r.parts with
    |nil=>rw[hp] at hx;cases hx
    |cons y l=>rw[hp] at hx;cases hx;exact List.mem_cons_self
   have h1':=hbeg x hxb;have:=(Vr a r.parts 0 (fun y _=>Qqp h y)).2 x Q0G;unfold Q2f;omega
  rw[if_neg h7];by_cases h8:r.kind=8
  ·rw[if_pos h8]
   unfold Q2p;rcases Y6 a r.parts 1001 with e|⟨x,hx,e⟩
   ·rw[e];omega
   ·rw[e];have:=hbeg x (by unfold bl Xg;rw[if_neg Q2,if_neg h7,if_pos h8];exact hx)
    omega
  rw[if_neg h8];omega
theorem JI.one(hv:Vld F)(h:JI F a)(hx:0<=x/\x<F.length):1<=lk a x:=JI.pos hv h (rk F x.toNat+1) _ Q2 Q2
theorem Usd.inn(hv:Usd F)(hr:F[i]? =some r)(hk:r.kind=7\/r.kind=8):∀x∈r.parts,0<=x/\x<F.length:=(hv.ok i r hr).parts hk
theorem Rnd.lkup(h:Rnd F a old)(hx:0<=x/\x<F.length):lk old x<0\/lk a x<=lk old x:=h.up x.toNat Q2
theorem Q5r(h:ROk n r):r.kind=1\/(r.kind=2\/r.kind=4)\/r.kind=3\/(r.kind=5\/r.kind=9)\/r.kind=6\/r.kind=10\/r.kind=7\/r.kind=8:=by
 have:=h.kind;omega
theorem QfJ(old:List Int)(h:r.kind=6):Kh F old r=if 0<=lk old r.count/\Q42 F r.count=0 then lk old r.count else if 0<=lk old r.count/\0<=lk old r.elem then Q3T (lk old r.count+Q42 F r.count*lk old r.elem) else -1:=by
 unfold Kh;exact Qme
theorem Q9T(old:List Int)(h:r.kind=10):Kh F old r=if 0<=lk old r.count then Q3T (lk old r.count+Q42 F r.count) else -1:=by
 unfold Kh;exact Qn6
theorem QfR(old:List Int)(h:r.kind=7):Kh F old r=Q6d old 0 r.parts:=by
 unfold Kh;exact Qkf
theorem Qef(old:List Int)(h:r.kind=8):Kh F old r=Q4c old (-1) r.parts:=by
 unfold Kh;exact QvP
theorem Qfx(out:List Int)(h:r.kind=6):Zd F out r=lk out r.count+JN F r.count*lk out r.elem:=by
 unfold Zd;exact Qme
theorem Qa7(out:List Int)(h:r.kind=10):Zd F out r=lk out r.count+JN F r.count:=by
 unfold Zd;exact Qs7
theorem QeR(out:List Int)(h:r.kind=7):Zd F out r=Q2f out r.parts:=by
 unfold Zd;exact Qn6
theorem Qeq(out:List Int)(h:r.kind=8):Zd F out r=Q2p out r.parts:=by
 unfold Zd;exact Qkf
theorem Q9r(old out:List Int)(ho:ROk n r)(h:r.kind=1\/(r.kind=2\/r.kind=4)\/r.kind=3\/(r.kind=5\/r.kind=9)):1<=Kh F old r/\Kh F old r<=1001/\Kh F old r=Zd F out r:=by
 unfold Kh Zd;rcases h with h|h|h|h
 ·rw[if_pos h,if_pos h];have:=ho.bs1 h;have:=ho.bs16;omega
 ·rw[if_neg Q2,if_pos h,if_neg Q2,if_pos h]
  rcases h with h2|h4
  ·have:=ho.num h2;omega
  ·have:=ho.size4 h4;omega
 ·rw[if_neg Q2,if_neg Q2,if_pos h,if_neg Q2,if_neg Q2,if_pos h];omega
 ·rw[if_neg Q2,if_neg Q2,if_neg Q2,if_pos h,if_neg Q2,if_neg Q2,if_neg Q2,if_neg Q2,if_neg Q2,if_neg Q2,if_neg Q2];omega
theorem Qb6(hv:Vld F)(hf:JI F a)(h:Rnd F a old)(hr:F[i]? =some r):(Kh F old r<0\/a.getD i 0<=Kh F old r)/\Kh F old r<=1001:=by
 have hok:=hv.ok i r hr;have heq:=hf.eq i r hr;rcases (by have:=Q5r hok;omega:(r.kind=1\/(r.kind=2\/r.kind=4)\/r.kind=3\/(r.kind=5\/r.kind=9))\/r.kind=6\/r.kind=10\/r.kind=7\/r.kind=8) with hk|h6|h10|h7|h8
 ·have:=Q9r (F:=F) old a hok hk
  omega
 ·have hc:=hok.count (.inl h6);have he:=hok.elem (.inl h6);have hl:=hv.least hr (.inl h6);have uc:=h.lkup hc;have ue:=h.lkup he;have pe:=hf.one hv he;have tc:lk old r.count<=1001:=h.top _;rw[Qfx a h6] at heq;rw[QfJ old h6]
  split
  ·next h0=>
   have hm:JN F r.count=0:=by omega
   rw[hm,Int.zero_mul] at heq;omega
  ·split
   ·next h1=>
    refine⟨.inr ?_,Q5s _⟩;rw[Jn,heq,hl.2];by_cases hb:JN F r.count<=1001
    ·rw[show min (JN F r.count) 1001=JN F r.count by omega];have:=Int.mul_le_mul_of_nonneg_left (c:=JN F r.count) (a:=lk a r.elem) (b:=lk old r.elem) Q2 hl.1
     omega
    ·rw[show min (JN F r.count) 1001=1001 by omega]
     omega
   ·omega
 ·have hc:=hok.count (.inr h10);have hl:=hv.least hr (.inr h10);have uc:=h.lkup hc;rw[Qa7 a h10] at heq;rw[Q9T old h10]
  split
  ·refine⟨.inr ?_,Q5s _⟩;rw[Jn,heq,hl.2]
   omega
  ·omega
 ·have hin:=hv.inn hr (.inl h7);rw[QeR a h7] at heq;rw[QfR old h7];refine⟨?_,QcQ _ _ _ Q2⟩
  by_cases hall:∀x∈r.parts,0<=lk old x
  ·right
   rw[Q7g old _ 0 Q2 Q2 hall,heq];have:Q2f a r.parts<=r.parts.foldl (fun s x=>s+lk old x) 0:=Kz old a r.parts 0 0 (Int.le_refl _) fun x hx=>by
    have:=h.lkup (hin x hx);have:=hall x hx;omega
   omega
  ·left
   rw[Q4b old r.parts 0 Q2] at hall;omega
 ·have hin:=hv.inn hr (.inr h8);rw[Qeq a h8] at heq;rw[Qef old h8];refine⟨Qhn old _ _ _ (.inl Q2) fun x hx=>?_,Qc4 old h.top _ _ Q2⟩;have:=h.lkup (hin x hx);have:=(KC a r.parts 1001).2 x hx
  unfold Q2p at heq;omega
theorem QbF{l:List Int}{m:Int}(h0:0<=m)(h:∀(j:Nat),j<l.length->l.getD j 0<=m)(j:Nat):l.getD j 0<=m:=by
 by_cases hj:j<l.length
 ·exact h j hj
 ·rw[List.getD_eq_getElem?_getD,List.getElem?_eq_none Q2];exact h0
theorem Qgz(hv:Vld F)(hf:JI F a):∀t,Rnd F a (Yv F t)
 |0=>⟨Zq F 0,fun j hj=>.inl (by
   show (List.replicate F.length (-1:Int)).getD j 0<0
   rw[List.getD_eq_getElem?_getD,List.getElem?_replicate,if_pos hj]
   decide),QbF Q1 fun j hj=>by
   show (List.replicate F.length (-1:Int)).getD j 0<=1001
   have hj':j<F.length:=by simpa [Zq] using hj
   rw[List.getD_eq_getElem?_getD,List.getElem?_replicate,if_pos hj']
   decide⟩
 |t+1=>by
  have ih:=Qgz hv hf t;refine⟨Zq F _,fun j hj=>?_,QbF Q1 fun j hj=>?_⟩
  ·rw[KK (List.getElem?_eq_getElem hj)];exact(Qb6 hv hf ih (List.getElem?_eq_getElem hj)).1
  ·have hj':j<F.length:=by rw[Zq] at hj;exact hj
   rw[KK (List.getElem?_eq_getElem hj')];exact(Qb6 hv hf ih (List.getElem?_eq_getElem hj')).2
theorem Qkc(hv:Usd F)(hl:old.length=F.length)(hr:F[i]? =some r):JU F (sg old) r=decide (0<=Kh F old r):=by
 have hok:=hv.ok i r hr;rcases (by have:=Q5r hok;omega:(r.kind=1\/(r.kind=2\/r.kind=4)\/r.kind=3\/(r.kind=5\/r.kind=9))\/r.kind=6\/r.kind=10\/r.kind=7\/r.kind=8) with hk|h6|h10|h7|h8
 ·have:=Q9r (F:=F) old old hok hk;rw[decide_eq_true Q2]
  unfold JU;rw[if_neg Q2,if_neg Q2,if_neg Q2,if_neg Q2]
 ·have hc:=hok.count (.inl h6);have he:=hok.elem (.inl h6);have hln:=hv.least hr (.inl h6)
  unfold JU;rw[if_neg Q2,if_pos h6,Q5O Q2,Q5O Q2,QfJ old h6];by_cases hz:JN F r.count=0
  ·have hz':Q42 F r.count=0:=by omega
   rw[hz,hz'];by_cases hp:0<=lk old r.count
   ·rw[if_pos ⟨hp,rfl⟩];simp [hp]
   ·rw[if_neg (fun h=>hp h.1),if_neg (fun h=>hp h.1)];simp [hp]
  ·have hz':¬Q42 F r.count=0:=by omega
   rw[if_neg (fun h=>hz' h.2)];by_cases hp:0<=lk old r.count/\0<=lk old r.elem
   ·rw[if_pos hp];have h1:=Int.mul_nonneg (show 0<=Q42 F r.count by omega) hp.2
    have:0<=Q3T (lk old r.count+Q42 F r.count*lk old r.elem):=by rw[Jn];omega
    simp [hp.1,hp.2,this]
   ·rw[if_neg hp]
    by_cases hq:0<=lk old r.count
    ·have:¬0<=lk old r.elem:=fun h=>hp ⟨hq,h⟩
     simp [this,hz]
    ·simp [hq]
 ·have hc:=hok.count (.inr h10);have hln:=hv.least hr (.inr h10)
  unfold JU;rw[if_pos h10,Q5O Q2,Q9T old h10];by_cases hp:0<=lk old r.count
  ·rw[if_pos hp]
   have:0<=Q3T (lk old r.count+Q42 F r.count):=by rw[Jn];omega
   simp [hp,this]
  ·rw[if_neg hp];simp [hp]
 ·have hin:=hv.inn hr (.inl h7)
  unfold JU;rw[if_neg Q2,if_neg Q2,if_pos h7,QfR old h7];have hs:=Q4b old r.parts 0 Q2;by_cases hall:∀x∈r.parts,0<=lk old x
  ·rw[decide_eq_true (hs.1 hall),Bool.not_eq_true',List.any_eq_false];intro x hx;rw[Q5O (by have:=hin x hx;omega)]
   simp [hall x hx]
  ·rw[decide_eq_false (fun h=>hall (hs.2 h)),Bool.not_eq_false',List.any_eq_true]
   refine Classical.byContradiction fun hn=>hall fun x hx=>?_;refine Classical.byContradiction fun hx0=>hn ⟨x,hx,?_⟩;rw[Q5O (by have:=hin x hx;omega)];simp [hx0]
 ·have hin:=hv.inn hr (.inr h8)
  unfold JU;rw[if_neg Q2,if_neg Q2,if_neg Q2,if_pos h8,Qef old h8];have hs:=Q3W old r.parts (-1);by_cases hex:∃x∈r.parts,0<=lk old x
  ·rw[decide_eq_true (hs.1 (.inr hex)),List.any_eq_true];obtain⟨x,hx,h0⟩:=hex;exact⟨x,hx,by rw[Q5O (by have:=hin x hx;omega)];simp [h0]⟩
  ·rw[decide_eq_false (fun h=>(hs.2 h).elim Q2 hex),List.any_eq_false];intro x hx;rw[Q5O (by have:=hin x hx;omega)]
   simp only[decide_eq_true_eq];exact fun h=>hex ⟨x,hx,h⟩
end
end
end Go.Proofs.YtphkhfdmlcnoeaaGreatDoor
