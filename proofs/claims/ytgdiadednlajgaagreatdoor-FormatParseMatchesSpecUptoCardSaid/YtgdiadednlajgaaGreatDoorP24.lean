import Derived.Test.YtgdiadednlajgaaGreatDoorP15
namespace Go.Proofs.YtgdiadednlajgaaGreatDoor
set_option linter.unusedVariables false
set_option linter.unusedSimpArgs false
def lk(old:List Int)(x:Int):Int:=old.getD x.toNat 0
def VQ(F:List Rl)(x:Int):Int:=match F[x.toNat]? with|some r=>JV r.kind r.mn|none=>0
def Kv(old:List Int):Int→List Int→Int
 |n,[]=>n
 |n,x::l=>Kv old (if 0≤(if lk old x<0 then -1 else n) then VZ ((if lk old x<0 then -1 else n)+lk old x) else (if lk old x<0 then -1 else n)) l
def YJ(old:List Int):Int→List Int→Int
 |n,[]=>n
 |n,x::l=>YJ old (if 0≤lk old x∧(n<0∨lk old x<n) then lk old x else n) l
def V2(F:List Rl)(old:List Int)(r:Rl):Int:=
 if r.kind=1 then (r.bs.length:Int)
 else if r.kind=2∨r.kind=4 then r.size
 else if r.kind=3 then 2
 else if r.kind=5∨r.kind=9 then 1
 else if r.kind=6 then (if 0≤lk old r.count∧VQ F r.count=0 then lk old r.count else if 0≤lk old r.count∧0≤lk old r.elem then VZ (lk old r.count+VQ F r.count*lk old r.elem) else -1)
 else if r.kind=10 then (if 0≤lk old r.count then VZ (lk old r.count+VQ F r.count) else -1)
 else if r.kind=7 then Kv old 0 r.parts
 else if r.kind=8 then YJ old (-1) r.parts
 else -1
def Jz(F:List Rl)(old:List Int):List Int:=F.map (V2 F old)
def ZV(F:List Rl)(t:Nat):List Int:=iter (Jz F) t (List.replicate F.length (-1))
def XG(F:List Rl):List Int:=ZV F (2*F.length+1)
def Q1h(out:List Int)(l:List Int):Int:=l.foldl (fun s x=>s+lk out x) 0
def Q1k(out:List Int)(l:List Int):Int:=l.foldl (fun s x=>min s (lk out x)) 1001
def ZL(F:List Rl)(out:List Int)(r:Rl):Int:=
 if r.kind=1 then (r.bs.length:Int)
 else if r.kind=2∨r.kind=4 then r.size
 else if r.kind=3 then 2
 else if r.kind=10 then lk out r.count+Jo F r.count
 else if r.kind=6 then lk out r.count+Jo F r.count*lk out r.elem
 else if r.kind=7 then Q1h out r.parts
 else if r.kind=8 then Q1k out r.parts
 else 1
structure Ym(F:List Rl)(a:List Int):Prop where
 len:a.length=F.length
 eq:∀(i:Nat) (r:Rl),F[i]? =some r→a.getD i 0=min (ZL F a r) 1001
 nn:∀i:Nat,0≤a.getD i 0
structure Usd(F:List Rl):Prop where
 ok:FOk F
 use:∀(i:Nat) (r:Rl),F[i]? =some r→(r.kind=6∨r.kind=10)→∃c,F[r.count.toNat]? =some c∧(c.kind=2∨c.kind=3)
structure Vld(F:List Rl):Prop extends Usd F where
 cyc:∀i,i<F.length→¬Rch F i i
 fin:∀i,i<F.length→(ZC F).getD i false=true
theorem Q1q(n:Int):VZ n≤1001:=by unfold VZ;split<;>omega
theorem Zz(n:Int):VZ n=min n 1001:=by unfold VZ;split<;>omega
theorem Q0D(F:List Rl)(old:List Int):(Jz F old).length=F.length:=by unfold Jz;rw[List.length_map]
theorem XO(F:List Rl):∀t,(ZV F t).length=F.length
 |0=>List.length_replicate
 |t+1=>Q0D F _
theorem Q3j{F:List Rl}{i:Nat}{r:Rl}(h:F[i]? =some r)(old:List Int):(Jz F old).getD i 0=V2 F old r:=by
 unfold Jz
 rw[List.getD_eq_getElem?_getD,List.getElem?_map,h]
 rfl
theorem K6{F:List Rl}{i:Nat}{r:Rl}(h:F[i]? =some r)(t:Nat):(ZV F (t+1)).getD i 0=V2 F (ZV F t) r:=Q3j h _
theorem Usd.least{F:List Rl}(hv:Usd F){i:Nat}{r:Rl}(h:F[i]? =some r)(hk:r.kind=6∨r.kind=10):0≤Jo F r.count∧VQ F r.count=min (Jo F r.count) 1001:=by
 obtain⟨c,hc,h23⟩:=hv.use i r h hk;have hok:=hv.ok _ _ hc;rw[Q1x hc]
 unfold VQ
 rw[hc]
 show _∧JV c.kind c.mn=_
 unfold JV
 rcases h23 with h2|h3
 ·rw[if_pos h2,Zz];exact⟨(hok.num h2).2.2.1,rfl⟩
 ·rw[if_neg (by omega)];have hf:=hok.formed
  unfold XI at hf
  simp only[Bool.and_eq_true,Bool.or_eq_true,beq_iff_eq] at hf
  have:=hf.1.1.1.1.1.2
  have h0:c.mn=0:=by
   rcases this with h|h
   ·exact h.2
   ·omega
  rw[h0];exact⟨by omega,rfl⟩
section
variable {F:List Rl}
def sg(old:List Int):List Bool:=old.map fun n=>decide (0≤n)
theorem Q3z{old:List Int}{x:Int}(hx:0≤x∧x<old.length):mk (sg old) x=decide (0≤lk old x):=by
 unfold mk sg lk
 rw[List.getD_eq_getElem?_getD,List.getElem?_map,List.getD_eq_getElem?_getD]
 have:x.toNat<old.length:=by omega
 rw[List.getElem?_eq_getElem this]
 rfl
structure Rnd(F:List Rl)(a old:List Int):Prop where
 len:old.length=F.length
 up:∀j:Nat,j<F.length→old.getD j 0<0∨a.getD j 0≤old.getD j 0
 top:∀j:Nat,old.getD j 0≤1001
theorem Q6j(old:List Int):∀(l:List Int) (n:Int),n<0→Kv old n l<0
 |[],n,h=>h
 |x::l,n,h=>by
  unfold Kv
  refine Q6j old l _ ?_
  split<;>split<;>omega
theorem Q28(old:List Int):∀(l:List Int) (n:Int),0≤n→((∀x∈l,0≤lk old x)↔0≤Kv old n l)
 |[],n,h=>⟨fun _=>h,fun _=>by simp⟩
 |x::l,n,h=>by
  unfold Kv
  by_cases hx:lk old x<0
  ·rw[if_pos hx,if_neg (by omega)];refine⟨fun hl=>absurd (hl x List.mem_cons_self) (by omega),fun hs=>?_⟩;have:=Q6j old l (-1) (by omega)
   omega
  ·rw[if_neg hx,if_pos h]
   have hc:0≤VZ (n+lk old x):=by rw[Zz];omega
   rw[← Q28 old l _ hc]
   exact⟨fun hl y hy=>hl y (List.mem_cons_of_mem _ hy),fun hl y hy=>by
    rcases List.mem_cons.1 hy with rfl|hy
    ·omega
    ·exact hl y hy⟩
theorem Q35(old:List Int):∀(l:List Int) (n:Int),0≤n→n≤1001→(∀x∈l,0≤lk old x)→Kv old n l=min (l.foldl (fun s x=>s+lk old x) n) 1001
 |[],n,h,h1,_=>by show n=min n 1001;omega
 |x::l,n,h,h1,hl=>by
  have hx:=hl x List.mem_cons_self
  unfold Kv
  rw[show (if lk old x<0 then (-1:Int) else n)=n from if_neg (by omega),if_pos h,List.foldl_cons,Q35 old l _ (by rw[Zz];omega) (Q1q _) (fun y hy=>hl y (List.mem_cons_of_mem _ hy)),Zz]
  have hadd:∀(l:List Int) (s d:Int),l.foldl (fun s x=>s+lk old x) (s+d)=l.foldl (fun s x=>s+lk old x) s+d:=by
   intro l
   induction l with
   |nil=>intro s d;rfl
   |cons y l ih=>intro s d;rw[List.foldl_cons,List.foldl_cons,show s+d+lk old y=s+lk old y+d by omega,ih]
  have hpos:∀(l:List Int) (s:Int),(∀y∈l,0≤lk old y)→s≤l.foldl (fun s x=>s+lk old x) s:=by
   intro l
   induction l with
   |nil=>intro s _;exact Int.le_refl _
   |cons y l ih=>intro s hy;rw[List.foldl_cons];have:=ih (s+lk old y) (fun z hz=>hy z (List.mem_cons_of_mem _ hz));have:=hy y List.mem_cons_self;omega
  have hl':∀y∈l,0≤lk old y:=fun y hy=>hl y (List.mem_cons_of_mem _ hy)
  by_cases hm:n+lk old x≤1001
  ·rw[show min (n+lk old x) 1001=n+lk old x by omega]
  ·have h2:=hpos l (min (n+lk old x) 1001) hl';have h3:=hpos l (n+lk old x) hl'
   omega
theorem Q1Y(old:List Int):∀(l:List Int) (n:Int),(0≤n∨∃x∈l,0≤lk old x)↔0≤YJ old n l
 |[],n=>⟨fun h=>h.elim id (fun⟨x,hx,_⟩=>absurd hx (by simp)),fun h=>.inl h⟩
 |x::l,n=>by
  unfold YJ
  rw[← Q1Y old l]
  constructor
  ·rintro(h|⟨y,hy,h⟩)
   ·left;split<;>omega
   ·rcases List.mem_cons.1 hy with rfl|hy
    ·left
     split
     ·exact h
     ·next hn=>omega
    ·exact .inr ⟨y,hy,h⟩
  ·rintro(h|⟨y,hy,h⟩)
   ·split at h
    ·next hc=>exact .inr ⟨x,List.mem_cons_self,hc.1⟩
    ·exact .inl h
   ·exact .inr ⟨y,List.mem_cons_of_mem _ hy,h⟩
theorem Q9v(old:List Int)(m:Int):∀(l:List Int) (n:Int),(n<0∨m≤n)→(∀x∈l,lk old x<0∨m≤lk old x)→YJ old n l<0∨m≤YJ old n l
 |[],n,h,_=>h
 |x::l,n,h,hl=>by
  unfold YJ
  refine Q9v old m l _ ?_ fun y hy=>hl y (List.mem_cons_of_mem _ hy)
  have:=hl x List.mem_cons_self
  split
  ·exact this
  ·exact h
theorem Q67(old:List Int)(ht:∀j:Nat,old.getD j 0≤1001):∀(l:List Int) (n:Int),n≤1001→YJ old n l≤1001
 |[],n,h=>h
 |x::l,n,h=>by
  unfold YJ
  refine Q67 old ht l _ ?_;have:lk old x≤1001:=ht _
  split<;>omega
theorem Q1e(old:List Int):∀(l:List Int) (n:Int),(0≤n→YJ old n l≤n)∧∀x∈l,0≤lk old x→YJ old n l≤lk old x
 |[],n=>⟨fun _=>Int.le_refl _,fun x hx=>by cases hx⟩
 |x::l,n=>by
  unfold YJ
  refine⟨fun h=>?_,fun y hy h=>?_⟩
  ·have:=Q1e old l (if 0≤lk old x∧(n<0∨lk old x<n) then lk old x else n)
   split at this<;>split<;>omega
   all_goals (have h1:=this.1;simp_all;try omega)
  ·rcases List.mem_cons.1 hy with rfl|hy
   ·by_cases hc:0≤lk old y∧(n<0∨lk old y<n)
    ·rw[if_pos hc];exact(Q1e old l _).1 h
    ·rw[if_neg hc];have:=(Q1e old l n).1 (by omega)
     omega
   ·exact(Q1e old l _).2 y hy h
theorem Q7A(old:List Int):∀(l:List Int) (n:Int),n≤1001→Kv old n l≤1001
 |[],n,h=>h
 |x::l,n,h=>by
  unfold Kv
  refine Q7A old l _ ?_
  by_cases hx:lk old x<0
  ·rw[if_pos hx,if_neg (by omega)];omega
  ·rw[if_neg hx]
   split
   ·exact Q1q _
   ·exact h
theorem Ka(out:List Int):∀(l:List Int) (n:Int),l.foldl (fun s x=>min s (lk out x)) n≤n∧∀x∈l,l.foldl (fun s x=>min s (lk out x)) n≤lk out x
 |[],n=>⟨Int.le_refl _,fun x hx=>by cases hx⟩
 |x::l,n=>by
  rw[List.foldl_cons];have h:=Ka out l (min n (lk out x));refine⟨by omega,fun y hy=>?_⟩
  rcases List.mem_cons.1 hy with rfl|hy
  ·omega
  ·exact h.2 y hy
theorem VN(out:List Int):∀(l:List Int) (n:Int),l.foldl (fun s x=>min s (lk out x)) n=n∨∃x∈l,l.foldl (fun s x=>min s (lk out x)) n=lk out x
 |[],n=>.inl rfl
 |x::l,n=>by
  rw[List.foldl_cons]
  rcases VN out l (min n (lk out x)) with h|⟨y,hy,h⟩
  ·by_cases hc:n≤lk out x
   ·left;omega
   ·right;exact⟨x,List.mem_cons_self,by omega⟩
  ·exact .inr ⟨y,List.mem_cons_of_mem _ hy,h⟩
theorem K3(old a:List Int):∀(l:List Int) (n m:Int),m≤n→(∀x∈l,lk a x≤lk old x)→l.foldl (fun s x=>s+lk a x) m≤l.foldl (fun s x=>s+lk old x) n
 |[],n,m,h,_=>h
 |x::l,n,m,h,hl=>by
  rw[List.foldl_cons,List.foldl_cons]
  refine K3 old a l _ _ ?_ fun y hy=>hl y (List.mem_cons_of_mem _ hy)
  have:=hl x List.mem_cons_self
  omega
theorem Q1n(old a:List Int):∀(l:List Int) (n:Int),(∀x∈l,lk a x=lk old x)→l.foldl (fun s x=>s+lk a x) n=l.foldl (fun s x=>s+lk old x) n
 |[],n,_=>rfl
 |x::l,n,hl=>by
  rw[List.foldl_cons,List.foldl_cons,hl x List.mem_cons_self]
  exact Q1n old a l _ fun y hy=>hl y (List.mem_cons_of_mem _ hy)
theorem Vi(a:List Int):∀(l:List Int) (n:Int),(∀x∈l,0≤lk a x)→n≤l.foldl (fun s x=>s+lk a x) n∧∀x∈l,n+lk a x≤l.foldl (fun s x=>s+lk a x) n
 |[],n,_=>⟨Int.le_refl _,fun x hx=>by cases hx⟩
 |x::l,n,hl=>by
  rw[List.foldl_cons]
  have h:=Vi a l (n+lk a x) fun y hy=>hl y (List.mem_cons_of_mem _ hy)
  have h0:=hl x List.mem_cons_self;refine⟨by omega,fun y hy=>?_⟩
  rcases List.mem_cons.1 hy with rfl|hy
  ·omega
  ·have:=h.2 y hy;omega
end
section
variable {F:List Rl}{a:List Int}
theorem Ym.top(h:Ym F a)(i:Nat):a.getD i 0≤1001:=by
 by_cases hi:i<F.length
 ·rw[h.eq i F[i] (List.getElem?_eq_getElem hi)];omega
 ·rw[List.getD_eq_getElem?_getD,List.getElem?_eq_none (by rw[h.len];omega)];decide
noncomputable def rk(F:List Rl)(i:Nat):Nat:=by
 classical exact cnt (fun j=>decide (Rch F i j)) F.length
theorem QdD(hv:Vld F){i j:Nat}(hj:j∈bg F i):rk F j<rk F i:=by
 classical
 have hjn:j<F.length:=hv.ok.bd i j hj
 unfold rk
 refine Q31 F.length (fun x _ hx=>?_) ⟨j,hjn,?_,?_⟩
 ·rw[decide_eq_true_eq] at hx ⊢;exact Rch.trans (.one hj) hx
 ·rw[decide_eq_false_iff_not];exact hv.cyc j hjn
 ·rw[decide_eq_true_eq];exact .one hj
theorem Q6p{i:Nat}{r:Rl}(hr:F[i]? =some r){x:Int}(hx:x∈bl r):x.toNat∈bg F i:=by
 rw[Q2q hr];exact List.mem_map_of_mem hx
theorem QdB(h:Ym F a)(x:Int):0≤lk a x:=h.nn _
theorem Ym.pos(hv:Vld F)(h:Ym F a):∀(m i:Nat),rk F i<m→i<F.length→1≤a.getD i 0
 |0,i,hm,_=>absurd hm (by omega)
 |m+1,i,hm,hi=>by
  have hr:F[i]? =some F[i]:=List.getElem?_eq_getElem hi;obtain⟨r,hrr⟩:∃r,r=F[i]:=⟨_,rfl⟩;rw[← hrr] at hr;have hok:=hv.ok i r hr
  have hbeg:∀x∈bl r,1≤lk a x:=fun x hx=>by
   have hb:=Q6p hr hx;exact Ym.pos hv h m x.toNat (by have:=QdD hv hb;omega) (hv.ok.bd i _ hb)
  rw[h.eq i r hr]
  unfold ZL
  by_cases h1:r.kind=1
  ·rw[if_pos h1];have:=hok.bs1 h1;omega
  rw[if_neg h1]
  by_cases h2:r.kind=2∨r.kind=4
  ·rw[if_pos h2]
   rcases h2 with h2|h4
   ·have:=(hok.num h2).1;omega
   ·have:=(hok.size4 h4).1;omega
  rw[if_neg h2]
  by_cases h3:r.kind=3
  ·rw[if_pos h3];omega
  rw[if_neg h3]
  by_cases h10:r.kind=10
  ·rw[if_pos h10];have:=hbeg r.count (by unfold bl XP;rw[if_pos (.inr h10)];exact List.mem_singleton.2 rfl);have:=(hv.least hr (.inr h10)).1
   omega
  rw[if_neg h10]
  by_cases h6:r.kind=6
  ·rw[if_pos h6];have:=hbeg r.count (by unfold bl XP;rw[if_pos (.inl h6)];exact List.mem_singleton.2 rfl);have:=Int.mul_nonneg (hv.least hr (.inl h6)).1 (QdB h r.elem)
   omega
  rw[if_neg h6]
  by_cases h7:r.kind=7
  ·rw[if_pos h7];have hne:=(hok.seven h7).2;obtain⟨x,hx⟩:∃x,r.parts[0]? =some x:=⟨_,List.getElem?_eq_getElem hne⟩
   have hxb:x∈bl r:=by
    unfold bl XP
    rw[if_neg (by omega),if_pos h7]
    cases hp:r.parts with
    |nil=>rw[hp] at hx;cases hx
    |cons y l=>rw[hp] at hx;cases hx;exact List.mem_cons_self
   have h1':=hbeg x hxb;have:=(Vi a r.parts 0 (fun y _=>QdB h y)).2 x (List.mem_of_getElem? hx)
   unfold Q1h
   omega
  rw[if_neg h7]
  by_cases h8:r.kind=8
  ·rw[if_pos h8]
   unfold Q1k
   rcases VN a r.parts 1001 with e|⟨x,hx,e⟩
   ·rw[e];omega
   ·rw[e];have:=hbeg x (by unfold bl XP;rw[if_neg (by omega),if_neg h7,if_pos h8];exact hx)
    omega
  rw[if_neg h8]
  omega
theorem Ym.one(hv:Vld F)(h:Ym F a){x:Int}(hx:0≤x∧x<F.length):1≤lk a x:=Ym.pos hv h (rk F x.toNat+1) _ (by omega) (by omega)
theorem Usd.inn(hv:Usd F){i:Nat}{r:Rl}(hr:F[i]? =some r)(hk:r.kind=7∨r.kind=8):∀x∈r.parts,0≤x∧x<F.length:=(hv.ok i r hr).parts hk
theorem Rnd.lkup{old:List Int}(h:Rnd F a old){x:Int}(hx:0≤x∧x<F.length):lk old x<0∨lk a x≤lk old x:=h.up x.toNat (by omega)
theorem Q2P{n:Nat}{r:Rl}(h:ROk n r):r.kind=1∨(r.kind=2∨r.kind=4)∨r.kind=3∨(r.kind=5∨r.kind=9)∨r.kind=6∨r.kind=10∨r.kind=7∨r.kind=8:=by
 have:=h.kind
 omega
theorem Q61(old:List Int){r:Rl}(h:r.kind=6):V2 F old r=if 0≤lk old r.count∧VQ F r.count=0 then lk old r.count else if 0≤lk old r.count∧0≤lk old r.elem then VZ (lk old r.count+VQ F r.count*lk old r.elem) else -1:=by
 unfold V2
 rw[if_neg (by omega),if_neg (by omega),if_neg (by omega),if_neg (by omega),if_pos h]
theorem Q2V(old:List Int){r:Rl}(h:r.kind=10):V2 F old r=if 0≤lk old r.count then VZ (lk old r.count+VQ F r.count) else -1:=by
 unfold V2
 rw[if_neg (by omega),if_neg (by omega),if_neg (by omega),if_neg (by omega),if_neg (by omega),if_pos h]
theorem Q5g(old:List Int){r:Rl}(h:r.kind=7):V2 F old r=Kv old 0 r.parts:=by
 unfold V2
 rw[if_neg (by omega),if_neg (by omega),if_neg (by omega),if_neg (by omega),if_neg (by omega),if_neg (by omega),if_pos h]
theorem Q5O(old:List Int){r:Rl}(h:r.kind=8):V2 F old r=YJ old (-1) r.parts:=by
 unfold V2
 rw[if_neg (by omega),if_neg (by omega),if_neg (by omega),if_neg (by omega),if_neg (by omega),if_neg (by omega),if_neg (by omega),if_pos h]
theorem Q8B(out:List Int){r:Rl}(h:r.kind=6):ZL F out r=lk out r.count+Jo F r.count*lk out r.elem:=by
 unfold ZL
 rw[if_neg (by omega),if_neg (by omega),if_neg (by omega),if_neg (by omega),if_pos h]
theorem Q5N(out:List Int){r:Rl}(h:r.kind=10):ZL F out r=lk out r.count+Jo F r.count:=by
 unfold ZL
 rw[if_neg (by omega),if_neg (by omega),if_neg (by omega),if_pos h]
theorem Q7N(out:List Int){r:Rl}(h:r.kind=7):ZL F out r=Q1h out r.parts:=by
 unfold ZL
 rw[if_neg (by omega),if_neg (by omega),if_neg (by omega),if_neg (by omega),if_neg (by omega),if_pos h]
theorem Q8v(out:List Int){r:Rl}(h:r.kind=8):ZL F out r=Q1k out r.parts:=by
 unfold ZL
 rw[if_neg (by omega),if_neg (by omega),if_neg (by omega),if_neg (by omega),if_neg (by omega),if_neg (by omega),if_pos h]
theorem Q5k(old out:List Int){n:Nat}{r:Rl}(ho:ROk n r)(h:r.kind=1∨(r.kind=2∨r.kind=4)∨r.kind=3∨(r.kind=5∨r.kind=9)):1≤V2 F old r∧V2 F old r≤1001∧V2 F old r=ZL F out r:=by
 unfold V2 ZL
 rcases h with h|h|h|h
 ·rw[if_pos h,if_pos h];have:=ho.bs1 h;have:=ho.bs16;omega
 ·rw[if_neg (by omega),if_pos h,if_neg (by omega),if_pos h]
  rcases h with h2|h4
  ·have:=ho.num h2;omega
  ·have:=ho.size4 h4;omega
 ·rw[if_neg (by omega),if_neg (by omega),if_pos h,if_neg (by omega),if_neg (by omega),if_pos h];omega
 ·rw[if_neg (by omega),if_neg (by omega),if_neg (by omega),if_pos h,if_neg (by omega),if_neg (by omega),if_neg (by omega),if_neg (by omega),if_neg (by omega),if_neg (by omega),if_neg (by omega)];omega
theorem Q64(hv:Vld F)(hf:Ym F a){old:List Int}(h:Rnd F a old){i:Nat}{r:Rl}(hr:F[i]? =some r):(V2 F old r<0∨a.getD i 0≤V2 F old r)∧V2 F old r≤1001:=by
 have hok:=hv.ok i r hr;have heq:=hf.eq i r hr
 rcases (by have:=Q2P hok;omega:(r.kind=1∨(r.kind=2∨r.kind=4)∨r.kind=3∨(r.kind=5∨r.kind=9))∨r.kind=6∨r.kind=10∨r.kind=7∨r.kind=8) with hk|h6|h10|h7|h8
 ·have:=Q5k (F:=F) old a hok hk
  omega
 ·have hc:=hok.count (.inl h6);have he:=hok.elem (.inl h6);have hl:=hv.least hr (.inl h6);have uc:=h.lkup hc;have ue:=h.lkup he;have pe:=hf.one hv he;have tc:lk old r.count≤1001:=h.top _;rw[Q8B a h6] at heq;rw[Q61 old h6]
  split
  ·next h0=>
   have hm:Jo F r.count=0:=by omega
   rw[hm,Int.zero_mul] at heq
   omega
  ·split
   ·next h1=>
    refine⟨.inr ?_,Q1q _⟩;rw[Zz,heq,hl.2]
    by_cases hb:Jo F r.count≤1001
    ·rw[show min (Jo F r.count) 1001=Jo F r.count by omega];have:=Int.mul_le_mul_of_nonneg_left (c:=Jo F r.count) (a:=lk a r.elem) (b:=lk old r.elem) (by omega) hl.1
     omega
    ·rw[show min (Jo F r.count) 1001=1001 by omega]
     omega
   ·omega
 ·have hc:=hok.count (.inr h10);have hl:=hv.least hr (.inr h10);have uc:=h.lkup hc;rw[Q5N a h10] at heq;rw[Q2V old h10]
  split
  ·refine⟨.inr ?_,Q1q _⟩;rw[Zz,heq,hl.2]
   omega
  ·omega
 ·have hin:=hv.inn hr (.inl h7);rw[Q7N a h7] at heq;rw[Q5g old h7];refine⟨?_,Q7A _ _ _ (by omega)⟩
  by_cases hall:∀x∈r.parts,0≤lk old x
  ·right
   rw[Q35 old _ 0 (by omega) (by omega) hall,heq]
   have:Q1h a r.parts≤r.parts.foldl (fun s x=>s+lk old x) 0:=K3 old a r.parts 0 0 (Int.le_refl _) fun x hx=>by
    have:=h.lkup (hin x hx);have:=hall x hx
    omega
   omega
  ·left
   rw[Q28 old r.parts 0 (by omega)] at hall
   omega
 ·have hin:=hv.inn hr (.inr h8);rw[Q8v a h8] at heq;rw[Q5O old h8];refine⟨Q9v old _ _ _ (.inl (by omega)) fun x hx=>?_,Q67 old h.top _ _ (by omega)⟩;have:=h.lkup (hin x hx);have:=(Ka a r.parts 1001).2 x hx
  unfold Q1k at heq
  omega
theorem Q6x{l:List Int}{m:Int}(h0:0≤m)(h:∀(j:Nat),j<l.length→l.getD j 0≤m)(j:Nat):l.getD j 0≤m:=by
 by_cases hj:j<l.length
 ·exact h j hj
 ·rw[List.getD_eq_getElem?_getD,List.getElem?_eq_none (by omega)];exact h0
theorem Q9d(hv:Vld F)(hf:Ym F a):∀t,Rnd F a (ZV F t)
 |0=>⟨XO F 0,fun j hj=>.inl (by
   show (List.replicate F.length (-1:Int)).getD j 0<0
   rw[List.getD_eq_getElem?_getD,List.getElem?_replicate,if_pos hj]
   decide),Q6x (by decide) fun j hj=>by
   show (List.replicate F.length (-1:Int)).getD j 0≤1001
   have hj':j<F.length:=by simpa [XO] using hj
   rw[List.getD_eq_getElem?_getD,List.getElem?_replicate,if_pos hj']
   decide⟩
 |t+1=>by
  have ih:=Q9d hv hf t;refine⟨XO F _,fun j hj=>?_,Q6x (by decide) fun j hj=>?_⟩
  ·rw[K6 (List.getElem?_eq_getElem hj)];exact(Q64 hv hf ih (List.getElem?_eq_getElem hj)).1
  ·have hj':j<F.length:=by rw[XO] at hj;exact hj
   rw[K6 (List.getElem?_eq_getElem hj')];exact(Q64 hv hf ih (List.getElem?_eq_getElem hj')).2
theorem Qcr(hv:Usd F){old:List Int}(hl:old.length=F.length){i:Nat}{r:Rl}(hr:F[i]? =some r):JB F (sg old) r=decide (0≤V2 F old r):=by
 have hok:=hv.ok i r hr
 rcases (by have:=Q2P hok;omega:(r.kind=1∨(r.kind=2∨r.kind=4)∨r.kind=3∨(r.kind=5∨r.kind=9))∨r.kind=6∨r.kind=10∨r.kind=7∨r.kind=8) with hk|h6|h10|h7|h8
 ·have:=Q5k (F:=F) old old hok hk;rw[decide_eq_true (by omega)]
  unfold JB
  rw[if_neg (by omega),if_neg (by omega),if_neg (by omega),if_neg (by omega)]
 ·have hc:=hok.count (.inl h6);have he:=hok.elem (.inl h6);have hln:=hv.least hr (.inl h6)
  unfold JB
  rw[if_neg (by omega),if_pos h6,Q3z (by omega),Q3z (by omega),Q61 old h6]
  by_cases hz:Jo F r.count=0
  ·have hz':VQ F r.count=0:=by omega
   rw[hz,hz']
   by_cases hp:0≤lk old r.count
   ·rw[if_pos ⟨hp,rfl⟩];simp [hp]
   ·rw[if_neg (fun h=>hp h.1),if_neg (fun h=>hp h.1)];simp [hp]
  ·have hz':¬VQ F r.count=0:=by omega
   rw[if_neg (fun h=>hz' h.2)]
   by_cases hp:0≤lk old r.count∧0≤lk old r.elem
   ·rw[if_pos hp];have h1:=Int.mul_nonneg (show 0≤VQ F r.count by omega) hp.2
    have:0≤VZ (lk old r.count+VQ F r.count*lk old r.elem):=by rw[Zz];omega
    simp [hp.1,hp.2,this]
   ·rw[if_neg hp]
    by_cases hq:0≤lk old r.count
    ·have:¬0≤lk old r.elem:=fun h=>hp ⟨hq,h⟩
     simp [this,hz]
    ·simp [hq]
 ·have hc:=hok.count (.inr h10);have hln:=hv.least hr (.inr h10)
  unfold JB
  rw[if_pos h10,Q3z (by omega),Q2V old h10]
  by_cases hp:0≤lk old r.count
  ·rw[if_pos hp]
   have:0≤VZ (lk old r.count+VQ F r.count):=by rw[Zz];omega
   simp [hp,this]
  ·rw[if_neg hp];simp [hp]
 ·have hin:=hv.inn hr (.inl h7)
  unfold JB
  rw[if_neg (by omega),if_neg (by omega),if_pos h7,Q5g old h7];have hs:=Q28 old r.parts 0 (by omega)
  by_cases hall:∀x∈r.parts,0≤lk old x
  ·rw[decide_eq_true (hs.1 hall),Bool.not_eq_true',List.any_eq_false];intro x hx;rw[Q3z (by have:=hin x hx;omega)]
   simp [hall x hx]
  ·rw[decide_eq_false (fun h=>hall (hs.2 h)),Bool.not_eq_false',List.any_eq_true]
   refine Classical.byContradiction fun hn=>hall fun x hx=>?_
   refine Classical.byContradiction fun hx0=>hn ⟨x,hx,?_⟩
   rw[Q3z (by have:=hin x hx;omega)]
   simp [hx0]
 ·have hin:=hv.inn hr (.inr h8)
  unfold JB
  rw[if_neg (by omega),if_neg (by omega),if_neg (by omega),if_pos h8,Q5O old h8];have hs:=Q1Y old r.parts (-1)
  by_cases hex:∃x∈r.parts,0≤lk old x
  ·rw[decide_eq_true (hs.1 (.inr hex)),List.any_eq_true];obtain⟨x,hx,h0⟩:=hex;exact⟨x,hx,by rw[Q3z (by have:=hin x hx;omega)];simp [h0]⟩
  ·rw[decide_eq_false (fun h=>(hs.2 h).elim (by omega) hex),List.any_eq_false];intro x hx;rw[Q3z (by have:=hin x hx;omega)]
   simp only[decide_eq_true_eq]
   exact fun h=>hex ⟨x,hx,h⟩
end
end Go.Proofs.YtgdiadednlajgaaGreatDoor
