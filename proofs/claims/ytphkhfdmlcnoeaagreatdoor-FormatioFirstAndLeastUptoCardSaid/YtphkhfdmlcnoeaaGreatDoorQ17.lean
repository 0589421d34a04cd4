import Derived.Test.YtphkhfdmlcnoeaaGreatDoorQ16
namespace Go.Proofs.YtphkhfdmlcnoeaaGreatDoor
set_option linter.unusedVariables false
set_option linter.unusedSimpArgs false
set_option maxRecDepth 1000000
set_option maxHeartbeats 32000000
section
variable {i:Nat}
section
variable {F:List Rl}{a:List Int}
theorem Qm0(n:Nat):sg (List.replicate n (-1))=List.replicate n false:=by
 unfold sg;rw[List.map_replicate];rfl
theorem Qnk(old:List Int):(sg old).length=old.length:=by unfold sg;rw[List.length_map]
theorem Qkb(old:List Int)(hi:i<old.length):(sg old).getD i false=decide (0<=old.getD i 0):=by
 unfold sg;rw[List.getD_eq_getElem?_getD,List.getElem?_map,List.getD_eq_getElem?_getD,List.getElem?_eq_getElem hi];rfl
theorem Q3J(hv:Usd F):∀t,sg (Yv F t)=VH F t
 |0=>Qm0 _
 |t+1=>by
  refine ZU (by rw[Qnk,Zq,JY]) fun i hi=>?_
  rw[Qnk,Zq] at hi;have hr:F[i]? =some F[i]:=List.getElem?_eq_getElem hi;rw[Qkb _ (by rw[Zq];exact hi),KK hr]
  show _=(Kf F (VH F t)).getD i false;rw[Kb,hr];show _=JU F (VH F t) _;rw[<- Q3J hv t,Qkc hv (Zq F t) hr]
noncomputable def Qe1(F:List Rl)(a:List Int)(i:Nat):Nat:=by
 classical exact cnt (fun j=>decide (a.getD j 0<a.getD i 0\/(a.getD j 0=a.getD i 0/\rk F j<rk F i))) F.length
theorem Qqk{j:Nat}(hj:j<F.length)(h:a.getD j 0<a.getD i 0\/(a.getD j 0=a.getD i 0/\rk F j<rk F i)):Qe1 F a j<Qe1 F a i:=by
 classical
 unfold Qe1;refine Q3H F.length (fun x _ hx=>?_) ⟨j,hj,?_,?_⟩
 ·rw[decide_eq_true_eq] at hx ⊢
  omega
 ·rw[decide_eq_false_iff_not];omega
 ·rw[decide_eq_true_eq];exact h
theorem QpV(i:Nat):Qe1 F a i<=F.length:=by
 classical
 exact Q6Q _ _
theorem Qtq(hv:Vld F){k:Nat}(hi:i<F.length):0<=(Yv F (F.length+k)).getD i 0:=by
 have h:=Q3J hv.toUsd (F.length+k);rw[Q9s] at h;have h2:=Qkb (Yv F (F.length+k)) (i:=i) (by rw[Zq];exact hi);rw[h,hv.fin i hi] at h2;exact of_decide_eq_true h2.symm
theorem Q3v(hv:Vld F)(hf:JI F a):∀(s i:Nat),i<F.length->Qe1 F a i<s->(Yv F (F.length+s)).getD i 0=a.getD i 0
 |0,i,_,h=>absurd h Q2
 |s+1,i,hi,hp=>by
  have hr:F[i]? =some F[i]:=List.getElem?_eq_getElem hi;obtain⟨r,hrr⟩:∃r,r=F[i]:=⟨_,rfl⟩;rw[<- hrr] at hr;have hok:=hv.ok i r hr;have heq:=hf.eq i r hr;have hR:=Qgz hv hf (F.length+s)
  show (Yv F (F.length+s+1)).getD i 0=_;rw[KK hr];obtain⟨old,ho⟩:∃old,old=Yv F (F.length+s):=⟨_,rfl⟩;have hnn:∀{x:Int},0<=x/\x<F.length->0<=lk old x:=fun {x} hx=>by rw[ho];exact Qtq hv Q2
  have hge:∀{x:Int},0<=x/\x<F.length->lk a x<=lk old x:=fun {x} hx=>by
   have h1:=hR.lkup hx;have h2:=hnn hx;rw[ho] at h2 ⊢;omega
  have hex:∀{x:Int},0<=x/\x<F.length->(lk a x<a.getD i 0\/(lk a x=a.getD i 0/\x.toNat∈bg F i))->lk old x=lk a x:=fun {x} hx h=>by
   have h1:Qe1 F a x.toNat<Qe1 F a i:=Qqk Q2 (h.imp id fun⟨e,hb⟩=>⟨e,Qs1 hv hb⟩);rw[ho];exact Q3v hv hf s x.toNat Q2 Q2
  have hup:=Qb6 hv hf hR hr;rw[<- ho] at hup ⊢;have htop:=hf.top i;by_cases h1001:a.getD i 0=1001
  ·have:0<=Kh F old r:=by
    have h:=Qkc hv.toUsd (old:=old) (by rw[ho];exact Zq F _) hr;have h2:=Q3J hv.toUsd (F.length+s);rw[<- ho] at h2;rw[h2,Q9s] at h;have h3:=Q4x F;have h4:(Jg F).getD i false=true:=hv.fin i hi;have h5:(Kf F (VH F (F.length+0))).getD i false=(VH F (F.length+1)).getD i false:=rfl;rw[Q9s,Q9s,h4,Kb,hr] at h5;have h6:JU F (Jg F) r=true:=h5;rw[h6] at h;exact of_decide_eq_true h.symm
   omega
  have hlt:a.getD i 0<1001:=by omega
  rcases (by have:=Q5r hok;omega:(r.kind=1\/(r.kind=2\/r.kind=4)\/r.kind=3\/(r.kind=5\/r.kind=9))\/r.kind=6\/r.kind=10\/r.kind=7\/r.kind=8) with hk|h6|h10|h7|h8
  ·have:=Q9r (F:=F) old a hok hk
   omega
  ·have hc:=hok.count (.inl h6);have he:=hok.elem (.inl h6);have hl:=hv.toUsd.least hr (.inl h6);have pc:=hf.one hv hc;have pe:=hf.one hv he;rw[Qfx a h6] at heq;have hcb:r.count.toNat∈bg F i:=Qcv hr Qmz;have hm0:=Int.mul_nonneg hl.1 (show 0<=lk a r.elem by omega);have xc:=QqH;rw[QfJ old h6,xc]
   by_cases hz:JN F r.count=0
   ·rw[if_pos ⟨by omega,by omega⟩];rw[hz,Int.zero_mul] at heq
    omega
   ·rw[if_neg Q2,if_pos ⟨by omega,hnn he⟩]
    have hm:lk a r.elem<=JN F r.count*lk a r.elem:=by
     have:=Int.mul_le_mul_of_nonneg_right (a:=1) (b:=JN F r.count) (c:=lk a r.elem) Q2 Q2;omega
    have xe:=hex he (.inl Q2);rw[xe,Jn,hl.2];have hmn:JN F r.count<=1001:=by
     have:=Int.mul_le_mul_of_nonneg_left (c:=JN F r.count) (a:=1) (b:=lk a r.elem) pe hl.1;omega
    rw[show min (JN F r.count) 1001=JN F r.count by omega];omega
  ·have hc:=hok.count (.inr h10);have hl:=hv.toUsd.least hr (.inr h10);have pc:=hf.one hv hc;rw[Qa7 a h10] at heq;have hcb:r.count.toNat∈bg F i:=Qcv hr Qnp;have xc:=QqH;rw[Q9T old h10,xc,if_pos Q2,Jn,hl.2]
   omega
  ·have hin:=hv.toUsd.inn hr (.inl h7);have hne:=(hok.seven h7).2;rw[QeR a h7] at heq;rw[QfR old h7,Q7g old _ 0 Q2 Q2 (fun x hx=>hnn (hin x hx))]
   have hall:∀x∈r.parts,lk old x=lk a x:=by
    intro x hx;cases hp:r.parts with
    |nil=>rw[hp] at hx;cases hx
    |cons y l=>
     have hyb:y.toNat∈bg F i:=Qcv hr (by unfold bl Xg;rw[if_neg Q2,if_pos h7,hp];exact List.mem_cons_self);rw[hp] at hx hin heq;have py:=hf.one hv (hin y List.mem_cons_self);have hsum:=Vr a l (0+lk a y) (fun z hz=>by have:=hf.one hv (hin z (List.mem_cons_of_mem _ hz));omega);unfold Q2f at heq;rw[List.foldl_cons] at heq;rcases List.mem_cons.1 hx with rfl|hx
     ·exact hex (hin x List.mem_cons_self) (by rcases Int.lt_or_eq_of_le (show lk a x<=a.getD i 0 by omega) with h|h;exact .inl h;exact .inr ⟨h,hyb⟩)
     ·have:=hsum.2 x hx;exact hex (hin x Q4H) (.inl Q2)
   rw[<- Q3q old a r.parts 0 (fun x hx=>(hall x hx).symm)];exact heq.symm
  ·have hin:=hv.toUsd.inn hr (.inr h8);rw[Qeq a h8] at heq
   have hmin:a.getD i 0=Q2p a r.parts:=by
    have:=(KC a r.parts 1001).1;unfold Q2p at heq ⊢;omega
   rcases Y6 a r.parts 1001 with e|⟨x,hx,e⟩
   ·unfold Q2p at hmin;omega
   ·have hxb:x.toNat∈bg F i:=Qcv hr (by unfold bl Xg;rw[if_neg Q2,if_neg Q2,if_pos h8];exact hx)
    have hxe:lk a x=a.getD i 0:=by rw[hmin];unfold Q2p;exact e.symm
    have xx:=hex (hin x hx) (.inr ⟨hxe,hxb⟩);rw[Qef old h8] at hup ⊢;have h1:=(Q2y old r.parts (-1)).2 x hx (hnn (hin x hx));have h2:=(Q3W old r.parts (-1)).1 (.inr ⟨x,hx,hnn (hin x hx)⟩);omega
theorem Q60(hv:Vld F)(hf:JI F a)(hi:i<F.length):(Q09 F).getD i 0=a.getD i 0:=by
 unfold Q09;rw[show 2*F.length+1=F.length+(F.length+1) by omega];exact Q3v hv hf _ i hi (by have:=QpV (F:=F) (a:=a) i;omega)
end
end
section
variable {F:List Rl}{b k:Nat}
def col(c:Nat)(S:List (Nat->Bool)):List Bool:=S.map fun s=>s c
theorem Q5v(c:Nat)(S:List (Nat->Bool))(k:Nat):(col c S).getD k false=(S.getD k ZL) c:=by
 unfold col;rw[List.getD_eq_getElem?_getD,List.getElem?_map,List.getD_eq_getElem?_getD];cases S[k]?<;>rfl
def Qde(b:List Bool)(k i:Nat):List Bool:=b.set k (b.getD k false||b.getD i false)
theorem QpC(c:Nat)(S:List (Nat->Bool))(k i:Nat):col c (VS S k i)=Qde (col c S) k i:=by
 unfold VS Qde;rw[Q5v,Q5v];unfold col;rw[List.map_set];rfl
def Qli(F:List Rl)(b:List Bool)(k:Nat):List Bool:=(bg F k).foldl (fun b i=>Qde b k i) b
def YX(F:List Rl)(b:List Bool):List Bool:=(List.range F.length).foldl (Qli F) b
theorem Q5Y{α:Type}(c:Nat){f:List (Nat->Bool)->α->List (Nat->Bool)}{g:List Bool->α->List Bool}(h:∀S x,col c (f S x)=g (col c S) x):∀(l:List α) (S:List (Nat->Bool)),col c (l.foldl f S)=l.foldl g (col c S)
 |[],S=>rfl
 |x::l,S=>by rw[List.foldl_cons,List.foldl_cons,Q5Y c h l,h]
theorem Qm5(F:List Rl)(c:Nat)(S:List (Nat->Bool))(k:Nat):col c (YG F S k)=Qli F (col c S) k:=Q5Y c (fun S i=>QpC c S k i) _ S
theorem Qj9(F:List Rl)(c:Nat)(S:List (Nat->Bool)):col c (Jo F S)=YX F (col c S):=Q5Y c (Qm5 F c) _ S
theorem QcV(F:List Rl)(c:Nat)(S:List (Nat->Bool)):∀t,col c (iter (Jo F) t S)=iter (YX F) t (col c S)
 |0=>rfl
 |t+1=>by
  show col c (Jo F _)=YX F _
  rw[Qj9,QcV F c S t]
theorem Qhs(b:List Bool)(k i:Nat):LeB b (Qde b k i):=LeB.set b k _ fun h=>by rw[h];rfl
theorem Qdw(F:List Rl)(b:List Bool)(k:Nat):LeB b (Qli F b k):=Yi (fun b i=>Qhs b k i) _ _
theorem Q7O(F:List Rl)(b:List Bool):LeB b (YX F b):=Yi (Qdw F) _ _
theorem Q1A{α β:Type}{f:α->β->α}{p:α->Prop}:∀(l:List β),(∀a,∀b∈l,p a->p (f a b))->∀a,p a->p (l.foldl f a)
 |[],_,a,ha=>ha
 |b::l,h,a,ha=>Q1A l (fun a x hx=>h a x (List.mem_cons_of_mem _ hx)) (f a b) (h a b List.mem_cons_self ha)
def Q4G(F:List Rl)(k c:Nat):Bool:=match F[k]? with|some r=>KA r c|none=>false
theorem Qqb(F:List Rl)(c k:Nat):(col c (F.map KA)).getD k false=Q4G F k c:=by
 rw[Q5v,List.getD_eq_getElem?_getD,List.getElem?_map];unfold Q4G;cases F[k]?<;>rfl
theorem Qbm(hb:Bd F)(hk:k<F.length)(c:Nat):(Q07 F).getD k ZL c=true↔∃j,(j=k\/Rch F k j)/\Q4G F j c=true:=by
 rw[<- Q5v];unfold Q07;rw[QcV];obtain⟨B,hB⟩:∃B,B=col c (F.map KA):=⟨_,rfl⟩;have hBl:B.length=F.length:=by rw[hB];unfold col;rw[List.length_map,List.length_map]
 have hown:∀j:Nat,B.getD j false=Q4G F j c:=fun j=>by rw[hB];exact Qqb F c j
 rw[<- hB];constructor
 ·intro h;refine Q37 (f:=YX F) (p:=fun b:List Bool=>∀k:Nat,b.getD k false=true->∃j,(j=k\/Rch F k j)/\Q4G F j c=true) (fun b hb'=>Q16 (p:=fun b:List Bool=>∀k:Nat,b.getD k false=true->∃j,(j=k\/Rch F k j)/\Q4G F j c=true) (fun b k hb'=>?_) _ _ hb') (a:=B) (fun k hk=>⟨k,.inl rfl,by rw[<- hown];exact hk⟩) F.length k h;refine Q1A (p:=fun b:List Bool=>∀k:Nat,b.getD k false=true->∃j,(j=k\/Rch F k j)/\Q4G F j c=true) (bg F k) (fun b i hi hb' k' hk'=>?_) b hb'
  unfold Qde at hk';by_cases hkl:k<b.length
  ·rw[Z3 _ _ _ _ hkl] at hk'
   split at hk'
   ·next e=>
    subst e;rw[Bool.or_eq_true] at hk';rcases hk' with h1|h1
    ·exact hb' _ h1
    ·obtain⟨j,hj,ho⟩:=hb' _ h1;refine⟨j,.inr ?_,ho⟩
     rcases hj with rfl|hj
     ·exact .one hi
     ·exact Rch.trans (.one hi) hj
   ·exact hb' _ hk'
  ·rw[List.set_eq_of_length_le Q2] at hk';exact hb' _ hk'
 ·have hrest:YX F (iter (YX F) F.length B)=iter (YX F) F.length B:=by
   have:=Q13 (Q7O F) B;rwa [hBl] at this
  obtain⟨R,hR⟩:∃R,R=iter (YX F) F.length B:=⟨_,rfl⟩;have hle:LeB B R:=by rw[hR];exact Q3o (Q7O F) B _
  rw[<- hR] at hrest ⊢;have hclosed:∀k i:Nat,k<F.length->i∈bg F k->R.getD i false=true->R.getD k false=true:=by
   intro k i hk hi h;obtain⟨a',h1,h2⟩:=Y9 (Qdw F) (List.range F.length) R k (List.mem_range.2 hk);obtain⟨a'',h3,h4⟩:=Y9 (f:=fun b i=>Qde b k i) (fun b i=>Qhs b k i) (bg F k) a' i hi;have h5:(Qde a'' k i).getD k false=true:=by
    unfold Qde;rw[Z3 _ _ _ _ (by rw[<- h3.1,<- h1.1,<- hle.1,hBl];exact hk),if_pos rfl,h3.2 i (h1.2 i h),Bool.or_true]
   have h6:=h2.2 k (h4.2 k h5);have h7:(YX F R).getD k false=true:=h6;rwa [hrest] at h7
  rintro⟨j,hj,ho⟩;have hjR:R.getD j false=true:=hle.2 j (by rw[hown];exact ho);rcases hj with rfl|hj
  ·exact hjR
  ·have hall:∀j,Rch F k j->R.getD j false=true->R.getD k false=true:=by
    intro j hj;induction hj with
    |one h=>exact hclosed _ _ hk h
    |more h hm ih=>exact fun hx=>ih (hclosed _ _ (h.lt hb) hm hx)
   exact hall j hj hjR
def QaY(r:Rl)(b:Int):Bool:=
 if r.kind=1 then ((r.bs.headD 0).toNat:Int)==b
 else if r.kind=2/\r.big=true then decide (r.mn / 256 ^ (r.size - 1).toNat<=b)&&decide (b<=r.mx / 256 ^ (r.size - 1).toNat)
 else if r.kind=2 then decide ((if r.mn - r.mn % 256+b<r.mn then r.mn - r.mn % 256+b+256 else r.mn - r.mn % 256+b)<=r.mx)
 else if r.kind=3 then inB b 48 57&&decide (b - 48<=r.mx)
 else if r.kind=5 then decide (0<r.size)||b==r.stop
 else if r.kind=9 then b==r.stop
 else r.kind==4
theorem Q0m(lo hi:Int)(j:Nat):ZF noS lo hi j=decide (lo+((j:Int) - lo) % 256<=hi):=by
 unfold ZF noS;rw[Bool.false_or]
theorem Qq5{n:Nat}{r:Rl}(h:ROk n r)(hb:b<256):KA r b=QaY r (b:Int):=by
 obtain⟨name,kind,bs,size,big,mn,mx,stop,count,elem,names,parts⟩:=r;have hk:=h.kind;have h2:=h.num;have h3:=h.dec;have h5:=h.size5;have hs:=h.stop;unfold KA Q21 QaY;simp only at hk h2 h3 h5 hs ⊢;clear h;rcases (show kind=1\/kind=2\/kind=3\/kind=4\/kind=5\/kind=6\/kind=7\/kind=8\/kind=9\/kind=10 by omega) with rfl|rfl|rfl|rfl|rfl|rfl|rfl|rfl|rfl|rfl
 ·show (b==(bs.headD 0).toNat)=(((bs.headD 0).toNat:Int)==(b:Int))
  rw[Bool.eq_iff_iff,beq_iff_eq,beq_iff_eq];omega
 ·obtain⟨a1,a2,a3,a4,a5⟩:=h2 rfl
  cases big with
  |true=>
   show ZF noS (mn / 2 ^ (8*(size - 1)).toNat) (mx / 2 ^ (8*(size - 1)).toNat) b=(decide (mn / 256 ^ (size - 1).toNat<=(b:Int))&&decide ((b:Int)<=mx / 256 ^ (size - 1).toNat));rw[Q0m];rcases (show size=1\/size=2\/size=3\/size=4 by omega) with rfl|rfl|rfl|rfl<;>
   ·simp at a5 ⊢
    exact Ql1
  |false=>
   show ZF noS mn (min mx (mn+256 - 1)) b=decide ((if mn - mn % 256+(b:Int)<mn then mn - mn % 256+b+256 else mn - mn % 256+b)<=mx);rw[Q0m];rw[Bool.eq_iff_iff,decide_eq_true_eq,decide_eq_true_eq];clear a5 h2 h3 h5 hs;split<;>omega
 ·obtain⟨a1,a2,a3⟩:=h3 rfl
  show ZF noS 48 (48+min mx 9) b=(inB (b:Int) 48 57&&decide ((b:Int) - 48<=mx));rw[Q0m];unfold inB;exact Ql1
 ·show ZF noS 0 255 b=true
  rw[Q0m,decide_eq_true_eq];omega
 ·show (if 0<size then ZF noS 0 255 else fun j=>decide ((j:Int)=stop)) b=(decide (0<size)||((b:Int)==stop))
  split
  ·next h0=>
   rw[Q0m,Bool.eq_iff_iff];simp only[Bool.or_eq_true,decide_eq_true_eq,beq_iff_eq];omega
  ·next h0=>
   rw[Bool.eq_iff_iff];simp only[Bool.or_eq_true,decide_eq_true_eq,beq_iff_eq];omega
 ·rfl
 ·rfl
 ·rfl
 ·show decide ((b:Int)=stop)=((b:Int)==stop)
  rw[Bool.eq_iff_iff,decide_eq_true_eq,beq_iff_eq]
 ·rfl
end
section
variable {F:List Rl}
theorem QdT{r:Rl}(h:K9 F r=0)(hk:r.kind=6\/r.kind=10):Q22 F r.count=2\/Q22 F r.count=3:=by
 unfold K9 at h;split at h
 ·cases h
 ·next h1=>
  have hu:Qv r.kind=true:=by rcases hk with e|e<;>rw[e]<;>rfl
  rw[hu,Bool.true_and,Bool.not_eq_true',Bool.not_eq_false] at h1;unfold JC Z9 at h1;simpa using h1
theorem QsQ(h:POk F):Usd F:=⟨h.fok,fun i r hr hk=>by
 have hi:i<F.length:=(List.getElem?_eq_some_iff.1 hr).1;have hu:=h.use i hi;rw[Q2x hr] at hu;have hc:=(h.fok i r hr).count hk;have hg:F[r.count.toNat]? =some F[r.count.toNat]:=List.getElem?_eq_getElem Q2;have:=QdT hu hk;rw[Q0W hg] at this
 exact⟨_,hg,this⟩⟩
theorem QnO(h:Xr F=(0,0)):Vld F:=by
 have hp:=Q2l h;have hu:=QsQ hp;unfold Xr at h;split at h
 ·cases h
 split at h
 ·cases h
 rw[XK (fun j hj=>by simpa using hp.rule j hj)] at h;simp only at h;rw[XK (fun j hj=>by simpa using hp.use j hj)] at h;simp only at h;cases h3:Xy F.length (Q31 F) with
 |some k=>rw[h3] at h;simp only[Prod.mk.injEq] at h;exact Q6F
 |none=>
  rw[h3] at h;simp only at h;cases h4:Xy F.length (fun k=>!((Jg F).getD k false)) with
  |some k=>rw[h4] at h;simp only[Prod.mk.injEq] at h;exact Q6F
  |none=>
   refine⟨hu,fun i hi hr=>?_,fun i hi=>by simpa using Ko h4 i hi⟩;have:=Ko h3 i hi;rw[(Q2M hu.ok.bd hi).2 hr] at this;cases this
theorem Q6I(h:Xr F=(0,0)):0<F.length/\F.length<=40:=by
 unfold Xr at h;split at h
 ·cases h
 split at h
 ·cases h
 omega
end
abbrev Rdg(α:Type):Type:=Option (Except Nat α)
def rb{α β:Type}(x:Rdg α)(g:α->Rdg β):Rdg β:=match x with|none=>none|some (.error e)=>some (.error e)|some (.ok a)=>g a
def okR{α:Type}(a:α):Rdg α:=some (.ok a)
def erR{α:Type}(e:Nat):Rdg α:=some (.error e)
abbrev ndN(n:Int):Nd:=⟨1,n,[],[]⟩
abbrev ndB(bs:List UInt8):Nd:=⟨2,0,bs,[]⟩
abbrev ndL:Nd:=⟨3,0,[],[]⟩
abbrev ndR(ns:List (List UInt8)):Nd:=⟨4,0,[],ns⟩
def Y3(stop mx:Int):List UInt8->Bool->Int->Nat->Rdg (Int×Nat)
 |[],_,_,p=>erR p
 |c::l,later,n,p=>
  if (later&&decide ((c.toNat:Int)=stop))=true then okR (n,p+1)
  else if (!(decide (48<=c.toNat/\c.toNat<=57))||(later&&decide (n=0))||decide (mx<10*n+((c.toNat:Int) - 48)))=true then erR p
  else Y3 stop mx l true (10*n+((c.toNat:Int) - 48)) (p+1)
def leN:List UInt8->Int
 |[]=>0
 |c::l=>(c.toNat:Int)+256*leN l
def QU(big:Bool)(l:List UInt8):Int:=if big then leN l.reverse else leN l
def VZ(D:List UInt8)(at_:Nat)(n:Int):Rdg (List UInt8×Nat):=if (D.length:Int) - at_<n then erR D.length else okR ((D.drop at_).take n.toNat,at_+n.toNat)
def Yo(r:Rl)(D:List UInt8)(at_:Nat):Rdg (Int×Nat):=
 if r.kind=3 then Y3 r.stop r.mx (D.drop at_) false 0 at_
 else rb (VZ D at_ r.size) fun y=>if QU r.big y.1<r.mn\/r.mx<QU r.big y.1 then erR at_ else okR (QU r.big y.1,y.2)
def Q0e:List UInt8->List UInt8->Nat->Rdg Nat
 |[],_,p=>okR p
 |_::_,[],p=>erR p
 |b::bs,c::l,p=>if c=b then Q0e bs l (p+1) else erR p
def Ks(stop size:Int):List UInt8->Nat->Nat->Rdg Nat
 |[],_,p=>erR p
 |c::l,k,p=>if (c.toNat:Int)=stop then okR p else if (k:Int)=size then erR p else Ks stop size l (k+1) (p+1)
def Jz(one:Nat->Rdg (Nd×VF×Nat)):Nat->Nat->Rdg (VF×Nat)
 |0,p=>okR (.nil,p)
 |n+1,p=>rb (one p) fun y=>rb (Jz one n y.2.2) fun z=>okR (.cons y.1 y.2.1 z.1,z.2)
def V9(one:Nat->Rdg (Nd×VF×Nat))(D:List UInt8)(stop:Int):Nat->Nat->Rdg (VF×Nat)
 |0,_=>none
 |f+1,p=>match D[p]? with
  |none=>erR p
  |some c=>if (c.toNat:Int)=stop then okR (.nil,p+1) else rb (one p) fun y=>rb (V9 one D stop f y.2.2) fun z=>okR (.cons y.1 y.2.1 z.1,z.2)
def JK(one:Int->Nat->Rdg (Nd×VF×Nat)):List (List UInt8)->List Int->Nat->Rdg (List (List UInt8)×VF×Nat)
 |nm::nms,k::ks,p=>rb (one k p) fun y=>rb (JK one nms ks y.2.2) fun z=>if nm=[] then okR z else okR (nm::z.1,.cons y.1 y.2.1 z.2.1,z.2.2)
 |_,_,p=>okR ([],.nil,p)
def Qj(F:List Rl)(k:Int):Rl:=(F[k.toNat]?).getD (Xo [] 0)
def JP(F:List Rl)(ks:List Int)(c:UInt8):Option Nat:=ks.findIdx? fun k=>((Q07 F).getD k.toNat ZL) c.toNat
def QA(F:List Rl)(D:List UInt8):Nat->Int->Nat->Rdg (Nd×VF×Nat)
 |0,_,_=>none
 |f+1,k,p=>
  let r:=Qj F k
  if r.kind=1 then rb (Q0e r.bs (D.drop p) p) fun q=>okR (ndL,.nil,q)
  else if r.kind=2\/r.kind=3 then rb (Yo r D p) fun y=>okR (ndN y.1,.nil,y.2)
  else if r.kind=4 then rb (VZ D p r.size) fun y=>okR (ndB y.1,.nil,y.2)
  else if r.kind=10 then rb (Yo (Qj F r.count) D p) fun x=>rb (VZ D x.2 x.1) fun y=>okR (ndB y.1,.nil,y.2)
  else if r.kind=5 then rb (Ks r.stop r.size (D.drop p) 0 p) fun q=>okR (ndB ((D.drop p).take (q - p)),.nil,q+1)
  else if r.kind=6 then rb (Yo (Qj F r.count) D p) fun x=>rb (Jz (QA F D f r.elem) x.1.toNat x.2) fun z=>okR (ndL,z.1,z.2)
  else if r.kind=9 then rb (V9 (QA F D f r.elem) D r.stop (D.length+1) p) fun z=>okR (ndL,z.1,z.2)
  else if r.kind=8 then match D[p]? with
   |none=>erR p
   |some c=>match JP F r.parts c with
    |none=>erR p
    |some i=>rb (QA F D f (r.parts.getD i 0) p) fun y=>okR (ndL,.cons (ndN (i:Int)) .nil (.cons y.1 y.2.1 .nil),y.2.2)
  else rb (JK (QA F D f) r.names r.parts p) fun z=>okR (ndR z.1,z.2.1,z.2.2)
section
variable {α β:Type}
theorem QW{x:Rdg α}{g:α->Rdg β}{b:β}(h:rb x g=some (.ok b)):∃a,x=some (.ok a)/\g a=some (.ok b):=by
 unfold rb at h;split at h
 ·cases h
 ·cases h
 ·exact⟨_,rfl,h⟩
theorem Za{x:Rdg α}{g:α->Rdg β}(hx:∃y,x=some y)(hg:∀a,x=some (.ok a)->∃y,g a=some y):∃y,rb x g=some y:=by
 obtain⟨y,rfl⟩:=hx;cases y with
 |error e=>exact⟨_,rfl⟩
 |ok a=>exact hg a rfl
theorem Q4K{x:Rdg α}{g:α->Rdg β}{a:α}(h:x=some (.ok a)):rb x g=g a:=by rw[h];rfl
theorem Qv8{x:Rdg α}{g:α->Rdg β}{e:Nat}(h:x=some (.error e)):rb x g=some (.error e):=by rw[h];rfl
theorem QH{a b:α}(h:okR a=some (.ok b)):a=b:=by unfold okR at h;injection h with h;injection h
theorem V2{e:Nat}{b:α}(h:(erR e:Rdg α)=some (.ok b)):False:=by unfold erR at h;injection h with h;cases h
end
theorem Q8i(stop mx:Int):∀(l:List UInt8) (b:Bool) (n:Int) (p:Nat),∃y,Y3 stop mx l b n p=some y
 |[],_,_,p=>⟨_,rfl⟩
 |c::l,later,n,p=>by
  unfold Y3
  split
  ·exact⟨_,rfl⟩
  split
  ·exact⟨_,rfl⟩
  ·exact Q8i stop mx l true _ _
theorem Qc7{stop mx:Int}:∀{l:List UInt8} {b:Bool} {n:Int} {p:Nat} {m:Int} {q:Nat},Y3 stop mx l b n p=some (.ok (m,q))->p<q/\q<=p+l.length
 |[],_,_,p,m,q,h=>(V2 h).elim
 |c::l,later,n,p,m,q,h=>by
  unfold Y3 at h
  split at h
  ·have:=QH h
   injection this with h1 h2;exact Q6a
  split at h
  ·exact YK
  ·have:=Qc7 h;exact Q6a
theorem Q24(D:List UInt8)(p:Nat)(n:Int):∃y,VZ D p n=some y:=by unfold VZ;split<;>exact⟨_,rfl⟩
theorem J3{D:List UInt8}{p:Nat}{n:Int}{y:List UInt8×Nat}(h:VZ D p n=some (.ok y)):y=((D.drop p).take n.toNat,p+n.toNat)/\n<=(D.length:Int) - p:=by
 unfold VZ at h;split at h
 ·exact YK
 ·next hn=>exact⟨(QH h).symm,by omega⟩
theorem Q3R(r:Rl)(D:List UInt8)(p:Nat):∃y,Yo r D p=some y:=by
 unfold Yo;split
 ·exact Q8i _ _ _ _ _ _
 ·refine Za (Q24 _ _ _) fun a _=>?_
  split<;>exact⟨_,rfl⟩
def Qq2(r:Rl):Prop:=r.kind=3\/(r.kind=2/\1<=r.size)
theorem Vw{r:Rl}{D:List UInt8}{p q:Nat}{n:Int}(hr:Qq2 r)(hp:p<=D.length)(h:Yo r D p=some (.ok (n,q))):p<q/\q<=D.length:=by
 unfold Yo at h;split at h
 ·have:=Qc7 h;rw[List.length_drop] at this
  omega
 ·next h3=>
  obtain⟨y,hy,hg⟩:=QW h;obtain⟨rfl,hn⟩:=J3 hy;split at hg
  ·exact(V2 hg).elim
  ·have:=QH hg
   injection this with h1 h2;have:r.kind=2/\1<=r.size:=hr.resolve_left h3;simp only at h2;omega
theorem Q8M:∀(bs l:List UInt8) (p:Nat),∃y,Q0e bs l p=some y
 |[],l,p=>by cases l<;>exact⟨_,rfl⟩
 |_::_,[],p=>⟨_,rfl⟩
 |b::bs,c::l,p=>by
  unfold Q0e
  split
  ·exact Q8M bs l (p+1)
  ·exact⟨_,rfl⟩
theorem Q5p:∀{bs l:List UInt8} {p q:Nat},Q0e bs l p=some (.ok q)->q=p+bs.length/\bs=l.take bs.length/\bs.length<=l.length
 |[],l,p,q,h=>by
  have:q=p:=by cases l<;>exact(QH h).symm
  simp [this]
 |_::_,[],p,q,h=>(V2 h).elim
 |b::bs,c::l,p,q,h=>by
  unfold Q0e at h;split at h
  ·next e=>
   subst e;obtain⟨h1,h2,h3⟩:=Q5p h;refine⟨?_,?_,?_⟩
   ·exact Q6a
   ·rw[List.length_cons,List.take_succ_cons,<- h2]
   ·rw[List.length_cons,List.length_cons];omega
  ·exact YK
theorem Q8g(stop size:Int):∀(l:List UInt8) (k p:Nat),∃y,Ks stop size l k p=some y
 |[],_,p=>⟨_,rfl⟩
 |c::l,k,p=>by
  unfold Ks
  split
  ·exact⟨_,rfl⟩
  split
  ·exact⟨_,rfl⟩
  ·exact Q8g stop size l _ _
theorem Qcn{stop size:Int}:∀{l:List UInt8} {k p q:Nat},Ks stop size l k p=some (.ok q)->p<=q/\q<p+l.length
 |[],_,p,q,h=>(V2 h).elim
 |c::l,k,p,q,h=>by
  unfold Ks at h
  split at h
  ·have:=QH h;rw[List.length_cons];omega
  split at h
  ·exact YK
  ·have:=Qcn h;exact Q6a
section
variable {one:Nat->Rdg (Nd×VF×Nat)}{D:List UInt8}
def Far(one:Nat->Rdg (Nd×VF×Nat))(m:Nat):Prop:=∀(p:Nat) (y:Nd×VF×Nat),p<=m->one p=some (.ok y)->p<y.2.2/\y.2.2<=m
theorem KE{m:Nat}(h1:Far one m):∀{n p:Nat} {z:VF×Nat},p<=m->Jz one n p=some (.ok z)->p<=z.2/\z.2<=m/\p+n<=z.2
 |0,p,z,hp,h=>by rw[<- QH h];exact⟨Nat.le_refl _,hp,Nat.le_refl _⟩
 |n+1,p,z,hp,h=>by
  obtain⟨y,hy,hg⟩:=QW h;obtain⟨z',hz,hg⟩:=QW hg;have a:=h1 p y hp hy;have b:=KE h1 a.2 hz;rw[<- QH hg]
  simp only;omega
theorem Q0Z{stop:Int}(h1:Far one D.length):∀{f p:Nat} {z:VF×Nat},p<=D.length->V9 one D stop f p=some (.ok z)->p<z.2/\z.2<=D.length
 |0,p,z,hp,h=>by cases h
 |f+1,p,z,hp,h=>by
  unfold V9 at h
  split at h
  ·exact(V2 h).elim
  ·next c hc=>
   have hl:p<D.length:=(List.getElem?_eq_some_iff.1 hc).1
   split at h
   ·rw[<- QH h];exact⟨Nat.lt_succ_self _,hl⟩
   ·obtain⟨y,hy,hg⟩:=QW h;obtain⟨z',hz,hg⟩:=QW hg;have a:=h1 p y hp hy;have b:=Q0Z h1 a.2 hz;rw[<- QH hg]
    simp only;omega
theorem Q8X{one:Int->Nat->Rdg (Nd×VF×Nat)}{m:Nat}:∀{ns:List (List UInt8)} {ks:List Int} {p:Nat} {z:List (List UInt8)×VF×Nat},(∀k∈ks,Far (one k) m)->ns.length=ks.length->p<=m->JK one ns ks p=some (.ok z)->p+ks.length<=z.2.2/\z.2.2<=m
 |[],[],p,z,h1,hl,hp,h=>by rw[<- QH h];exact⟨Nat.le_refl _,hp⟩
 |[],_::_,p,z,h1,hl,hp,h=>by cases hl
 |_::_,[],p,z,h1,hl,hp,h=>by cases hl
 |nm::ns,k::ks,p,z,h1,hl,hp,h=>by
  unfold JK at h
  obtain⟨y,hy,hg⟩:=QW h;obtain⟨z',hz,hg⟩:=QW hg;have a:=h1 k List.mem_cons_self p y hp hy;have b:=Q8X Q9i QfM a.2 hz
  have:z.2.2=z'.2.2:=by
   split at hg
   ·rw[<- QH hg]
   ·rw[<- QH hg]
  rw[this,List.length_cons];omega
def Tot(one:Nat->Rdg (Nd×VF×Nat))(p m:Nat):Prop:=∀q,p<=q->q<=m->∃y,one q=some y
theorem Q4R{m:Nat}(h1:Far one m):∀{n p:Nat},p<=m->Tot one p m->∃y,Jz one n p=some y
 |0,p,hp,ht=>⟨_,rfl⟩
 |n+1,p,hp,ht=>by
  unfold Jz
  refine Za (ht p (Nat.le_refl _) hp) fun y hy=>?_
  have a:=h1 p y hp hy
  refine Za (Q4R h1 a.2 fun q h h'=>ht q Q2 h') fun z hz=>⟨_,rfl⟩
theorem Q71{stop:Int}(h1:Far one D.length):∀{f p:Nat},p<=D.length->D.length<f+p->Tot one p D.length->∃y,V9 one D stop f p=some y
 |0,p,hp,hf,ht=>absurd hf Q2
 |f+1,p,hp,hf,ht=>by
  unfold V9
  split
  ·exact⟨_,rfl⟩
  split
  ·exact⟨_,rfl⟩
  refine Za (ht p (Nat.le_refl _) hp) fun y hy=>?_
  have a:=h1 p y hp hy
  refine Za (Q71 h1 a.2 Q2 fun q h h'=>ht q Q2 h') fun z hz=>⟨_,rfl⟩
theorem Q5T{one:Int->Nat->Rdg (Nd×VF×Nat)}{m:Nat}:∀{ns:List (List UInt8)} {ks:List Int} {p:Nat},(∀k∈ks,Far (one k) m)->p<=m->(∀k∈ks,Tot (one k) (p+1) m)->(∀k∈ks.take 1,∃y,one k p=some y)->∃y,JK one ns ks p=some y
 |[],ks,p,h1,hp,ht,h0=>by cases ks<;>exact⟨_,rfl⟩
 |_::_,[],p,h1,hp,ht,h0=>⟨_,rfl⟩
 |nm::ns,k::ks,p,h1,hp,ht,h0=>by
  unfold JK
  refine Za (h0 k Qn) fun y hy=>?_
  have a:=h1 k List.mem_cons_self p y hp hy
  refine Za (Q5T Q9i a.2 (fun k hk q h h'=>ht k QhU q Q2 h') fun k hk=>ht k (List.mem_cons_of_mem _ (List.mem_of_mem_take hk)) _ Q2 a.2) fun z hz=>?_;split<;>exact⟨_,rfl⟩
end
section
variable {c:UInt8}{i p:Nat}{k:Int}{ks:List Int}
section
variable {F:List Rl}{D:List UInt8}
theorem Q9V{r:Rl}(h:F[k.toNat]? =some r):Qj F k=r:=by unfold Qj;rw[h];rfl
theorem VM(h:0<=k/\k<F.length):F[k.toNat]? =some (Qj F k):=by
 unfold Qj;rw[List.getElem?_eq_getElem (show k.toNat<F.length by omega)];rfl
theorem Usd.rok(hv:Usd F)(h:0<=k/\k<F.length):ROk F.length (Qj F k):=hv.ok _ _ (VM h)
theorem Usd.numK(hv:Usd F)(h:0<=k/\k<F.length)(hk:(Qj F k).kind=6\/(Qj F k).kind=10):Qq2 (Qj F (Qj F k).count):=by
 obtain⟨c,hc,h23⟩:=hv.use _ _ (VM h) hk;rw[Q9V hc];have:=hv.ok _ _ hc;rcases h23 with h2|h3
 ·exact .inr ⟨h2,(this.num h2).1⟩
 ·exact .inl h3
theorem Yb{l:List Int}(h:i<l.length):l.getD i 0∈l:=by
 refine QvX ?_;exact List.getElem_mem _
theorem Vo(h:JP F ks c=some i):i<ks.length:=by
 unfold JP at h;rw[List.findIdx?_eq_some_iff_getElem] at h;exact h.1
theorem Qen(h:JP F ks c=some i):((Q07 F).getD (ks.getD i 0).toNat ZL) c.toNat=true:=by
 have hl:=Vo h;unfold JP at h;rw[List.findIdx?_eq_some_iff_getElem] at h;obtain⟨_,this⟩:=h;have e:ks.getD i 0=ks[i]:=by rw[List.getD_eq_getElem?_getD,List.getElem?_eq_getElem hl];rfl
 rw[e];exact this.1
theorem XH(hv:Usd F):∀(f:Nat) {k:Int},0<=k/\k<F.length->Far (QA F D f k) D.length
 |0,k,hk,p,y,hp,h=>by cases h
 |f+1,k,hk,p,y,hp,h=>by
  have hr:=hv.rok hk;have hnk:=hv.numK hk
  unfold QA at h;obtain⟨r,e⟩:∃r,Qj F k=r:=⟨_,rfl⟩;simp only[e] at h hr hnk;split at h
  ·next h1=>
   obtain⟨q,hq,hg⟩:=QW h;obtain⟨a,_,c⟩:=Q5p hq;have:=hr.bs1 h1;rw[List.length_drop] at c;exact Q4A
  split at h
  ·next h23=>
   obtain⟨z,hz,hg⟩:=QW h
   have:=Vw (q:=z.2) (n:=z.1) (by
    rcases h23 with h2|h3
    ·exact .inr ⟨h2,(hr.num h2).1⟩
    ·exact .inl h3) hp hz
   rw[<- QH hg];exact this
  split at h
  ·next h4=>
   exact Qnl
  split at h
  ·next h10=>
   obtain⟨z,hz,hg⟩:=QW h;have a:=Vw (q:=z.2) (n:=z.1) (hnk (.inr h10)) hp hz;obtain⟨z',hz',hg⟩:=QW hg;obtain⟨rfl,hn⟩:=J3 hz';exact Q4A
  split at h
  ·next h5=>
   obtain⟨q,hq,hg⟩:=QW h;have a:=Qcn hq;rw[List.length_drop] at a;exact Q4A
  split at h
  ·next h6=>
   obtain⟨z,hz,hg⟩:=QW h;have a:=Vw (q:=z.2) (n:=z.1) (hnk (.inl h6)) hp hz;obtain⟨z',hz',hg⟩:=QW hg;have b:=KE (XH hv f Q5N) a.2 hz';exact Q4A
  split at h
  ·next h9=>
   obtain⟨z',hz',hg⟩:=QW h;have b:=Q0Z (XH hv f Q84) hp hz';rw[<- QH hg];exact b
  split at h
  ·next h8=>
   split at h
   ·exact YK
   ·next c hc=>
    split at h
    ·exact YK
    ·next i hi=>
     obtain⟨z,hz,hg⟩:=QW h;have b:=XH hv f (hr.parts (.inr h8) _ (Yb (Vo hi))) p z hp hz;rw[<- QH hg];exact b
  ·next h1 h23 h4 h10 h5 h6 h9 h8=>
   have h7:r.kind=7:=by
    have:=hr.kind;omega
   obtain⟨z,hz,hg⟩:=QW h;have b:=Q8X (fun k hk=>XH hv f QhM) (hr.seven h7).1 hp hz;have:=(hr.seven h7).2;exact Q4A
def Qgv(F:List Rl)(k:Nat):Nat:=cnt (fun j=>(VJ F k).getD j false) F.length
theorem Qox(hv:Vld F){k:Nat}(hk:k<F.length)(hi:i∈bg F k):Qgv F i<Qgv F k:=by
 have hbd:=hv.ok.bd;have hil:i<F.length:=hbd k i hi;refine Q3H _ (fun j _ h=>?_) ⟨i,hil,?_,?_⟩
 ·rw[Yu hbd hk];exact Rch.trans (.one hi) ((Yu hbd hil j).1 h)
 ·cases hh:(VJ F i).getD i false with
  |false=>rfl
  |true=>exact absurd ((Yu hbd hil _).1 hh) (hv.cyc i hil)
 ·rw[Yu hbd hk];exact .one hi
theorem Qcy(F:List Rl)(k:Nat):Qgv F k<=F.length:=Q6Q _ _
theorem QmM(hk:0<=k/\k<F.length){x:Int}(hx:x∈bl (Qj F k)):x.toNat∈bg F k.toNat:=by
 rw[Q4E (VM hk)];exact List.mem_map_of_mem hx
def Q1u(F:List Rl)(D:List UInt8)(k:Int)(p:Nat):Nat:=(D.length - p)*(F.length+1)+Qgv F k.toNat+1
theorem QlT{i:Int}{q:Nat}(hpq:p<q)(hq:q<=D.length):Q1u F D i q<Q1u F D k p:=by
 have h1:=Qcy F i.toNat;unfold Q1u;have h2:(D.length - q)*(F.length+1)+(F.length+1)<=(D.length - p)*(F.length+1):=by
  rw[<- Nat.succ_mul];exact Nat.mul_le_mul_right _ Q2
 omega
theorem Qpa(hv:Vld F){i:Int}(hk:0<=k/\k<F.length)(hi:i∈bl (Qj F k)):Q1u F D i p<Q1u F D k p:=by
 have:=Qox hv Q2 (QmM hk hi);unfold Q1u;omega
theorem Q26(hv:Vld F):∀(f:Nat) {k:Int} {p:Nat},0<=k/\k<F.length->p<=D.length->Q1u F D k p<=f->∃y,QA F D f k p=some y
 |0,k,p,hk,hp,hf=>by unfold Q1u at hf;omega
 |f+1,k,p,hk,hp,hf=>by
  have hr:=hv.toUsd.rok hk;have hnk:=hv.toUsd.numK hk
  have hbg:∀x∈bl (Qj F k),∃y,QA F D f x p=some y:=fun x hx=>
   Q26 hv f (Q6U hr x hx) hp (by have:=Qpa (D:=D) (p:=p) hv hk hx;omega)
  have htot:∀{x:Int} {q:Nat},0<=x/\x<F.length->p<q->Tot (QA F D f x) q D.length:=fun {x q} hx hq q' h h'=>
   Q26 hv f hx h' (by have:=QlT (F:=F) (D:=D) (k:=k) (i:=x) (p:=p) (q:=q') Q2 h';omega)
  unfold QA;obtain⟨r,e⟩:∃r,Qj F k=r:=⟨_,rfl⟩;simp only[e] at hr hnk hbg ⊢;split
  ·exact Za (Q8M _ _ _) fun _ _=>⟨_,rfl⟩
  split
  ·exact Za (Q3R _ _ _) fun _ _=>⟨_,rfl⟩
  split
  ·exact Za (Q24 _ _ _) fun _ _=>⟨_,rfl⟩
  split
  ·exact Za (Q3R _ _ _) fun _ _=>Za (Q24 _ _ _) fun _ _=>⟨_,rfl⟩
  split
  ·exact Za (Q8g _ _ _ _ _) fun _ _=>⟨_,rfl⟩
  split
  ·next h6=>
   refine Za (Q3R _ _ _) fun x hx=>?_;have a:=Vw (q:=x.2) (n:=x.1) (hnk (.inl h6)) hp hx;exact Za (Q4R (XH hv.toUsd f Q5N) a.2 (htot Q5N a.1)) fun _ _=>⟨_,rfl⟩
  split
  ·next h9=>
   refine Za (Q71 (XH hv.toUsd f Q84) hp Q2 fun q h h'=>?_) fun _ _=>⟨_,rfl⟩;rcases Nat.lt_or_ge p q with hq|hq
   ·exact htot Q84 hq q XU h'
   ·obtain rfl:p=q:=by omega
    refine hbg _ ?_;unfold bl Xg;rw[if_neg Q2,if_neg Q2,if_neg Q2,if_pos h9];exact Q2R
  split
  ·next h8=>
   split
   ·exact⟨_,rfl⟩
   ·split
    ·exact⟨_,rfl⟩
    ·next c hc i hi=>
     refine Za (hbg _ ?_) fun _ _=>⟨_,rfl⟩;unfold bl Xg;rw[if_neg Q2,if_neg Q2,if_pos h8];exact Yb (Vo hi)
  ·next h1 h23 h4 h10 h5 h6 h9 h8=>
   have h7:r.kind=7:=by
    have:=hr.kind;omega
   refine Za (Q5T QeZ hp (fun x hx=>htot (hr.parts (.inl h7) x hx) (Nat.lt_succ_self _)) fun x hx=>hbg x ?_) fun _ _=>⟨_,rfl⟩;unfold bl Xg;rw[if_neg Q2,if_pos h7];exact hx
end
end
def QoM(c:UInt8):Bool:=decide (48<=c.toNat/\c.toNat<=57)
def Q4f:Nat->List UInt8->Nat
 |n,[]=>n
 |n,c::r=>Q4f (10*n+(c.toNat - 48)) r
theorem QbH:∀(x:List UInt8) (n:Nat) (c:UInt8),Q4f n (x++[c])=10*Q4f n x+(c.toNat - 48)
 |[],n,c=>rfl
 |b::x,n,c=>QbH x _ c
theorem QcB:∀(x:List UInt8) (n:Nat),0<n->0<Q4f n x
 |[],n,h=>h
 |c::r,n,h=>QcB r _ Q2
theorem Qk8(m:Nat):∀(x:List UInt8),x.length=m+1->x.all QoM=true->(1<x.length->x.head?≠some 48)->Lib.decDigits (Q4f 0 x)=x:=by
 induction m using Nat.strongRecOn with
 |_ m ihm=>
  intro x hl ha hh;rcases List.eq_nil_or_concat x with rfl|⟨y,c,rfl⟩
  ·cases hl
  ·rw[List.concat_eq_append] at*;rw[List.all_append,Bool.and_eq_true] at ha
   have hc:48<=c.toNat/\c.toNat<=57:=by
    have h:=ha.2;simp only[List.all_cons,List.all_nil,Bool.and_true] at h;exact of_decide_eq_true h
   rw[QbH];cases y with
   |nil=>
    rw[Lib.decDigits,dif_pos (by show 10*Q4f 0 []+(c.toNat - 48)<10;show 10*0+(c.toNat - 48)<10;omega)];show [_]=[c];congr 1;refine UInt8.toNat.inj ?_;show (UInt8.ofNat (48+(10*0+(c.toNat - 48)))).toNat=c.toNat;exact QbC
   |cons b t=>
    have hb:b≠48:=fun e=>hh Qn (by rw[e];rfl);have hbd:48<=b.toNat/\b.toNat<=57:=by
     have h:=ha.1;rw[List.all_cons,Bool.and_eq_true] at h;exact of_decide_eq_true h.1
    have hb48:b.toNat≠48:=fun e=>hb (UInt8.toNat.inj (by rw[e];rfl));have hp:0<Q4f 0 (b::t):=QcB t _ (by show 0<10*0+(b.toNat - 48);omega);have ih:=ihm t.length (by simp at hl;omega) (b::t) rfl ha.1 (fun _ h=>hb (by simpa using h));rw[Lib.decDigits,dif_neg Q2,show (10*Q4f 0 (b::t)+(c.toNat - 48)) / 10=Q4f 0 (b::t) by omega,ih];congr 1;congr 1;refine UInt8.toNat.inj ?_;exact QbC
section
variable {c:UInt8}
def leW:Nat->Int->List UInt8
 |0,_=>[]
 |k+1,n=>UInt8.ofNat (n % 256).toNat::leW k (n / 256)
def Q0h(big:Bool)(k:Nat)(n:Int):List UInt8:=if big then (leW k n).reverse else leW k n
def YD(r:Rl):UInt8:=UInt8.ofNat (r.stop % 256).toNat
def Ku(r:Rl)(n:Int):List UInt8:=if r.kind=3 then Lib.itoa n++[YD r] else Q0h r.big r.size.toNat n
theorem Q3b:∀(k:Nat) (n:Int),(leW k n).length=k
 |0,n=>rfl
 |k+1,n=>by show (leW k _).length+1=_;rw[Q3b k]
theorem Q68(b:Bool)(k:Nat)(n:Int):(Q0h b k n).length=k:=by
 unfold Q0h;split
 ·rw[List.length_reverse,Q3b]
 ·exact Q3b k n
theorem QeV:∀l:List UInt8,0<=leN l
 |[]=>Int.le_refl _
 |c::l=>by have:=QeV l;unfold leN;omega
theorem QfS:∀l:List UInt8,leN l<256 ^ l.length
 |[]=>by decide
 |c::l=>by
  have:=QfS l;have hc:=c.toNat_lt
  unfold leN;rw[List.length_cons,Int.pow_succ];omega
theorem Qmi:∀l:List UInt8,leW l.length (leN l)=l
 |[]=>rfl
 |c::l=>by
  have hc:=c.toNat_lt;have h0:=QeV l
  show leW (l.length+1) _=_;unfold leW leN;have h1:((c.toNat:Int)+256*leN l) % 256=(c.toNat:Int):=by omega
  have h2:((c.toNat:Int)+256*leN l) / 256=leN l:=by omega
  rw[h1,h2,Qmi l];simp
theorem Q3K(b:Bool)(l:List UInt8):0<=QU b l:=by unfold QU;split<;>exact QeV _
theorem QlM(b:Bool)(l:List UInt8):Q0h b l.length (QU b l)=l:=by
 unfold QU Q0h;split
 ·have:=Qmi l.reverse;rw[List.length_reverse] at this;rw[this,List.reverse_reverse]
 ·exact Qmi l
theorem Qje{r:Rl}(h:(c.toNat:Int)=r.stop):YD r=c:=by
 unfold YD;have:=c.toNat_lt;rw[<- h,show (c.toNat:Int) % 256=c.toNat by omega];simp
theorem Qcu:QoM c=true↔48<=c.toNat/\c.toNat<=57:=by unfold QoM;simp
theorem Q5S{stop mx:Int}:∀{l:List UInt8} {n p:Nat} {m:Int} {q:Nat},Y3 stop mx l true (n:Int) p=some (.ok (m,q))->∃x c rest,l=x++c::rest/\x.all QoM=true/\m=(Q4f n x:Nat)/\q=p+x.length+1/\(c.toNat:Int)=stop/\(n=0->x=[])/\((n:Int)<=mx->m<=mx)
 |[],n,p,m,q,h=>(V2 h).elim
 |c::l,n,p,m,q,h=>by
  unfold Y3 at h
  split at h
  ·next hs=>
   have:=QH h
   injection this with h1 h2;simp only[Bool.true_and,decide_eq_true_eq] at hs;exact⟨[],c,l,rfl,rfl,h1.symm,h2.symm,hs,fun _=>rfl,fun h=>by omega⟩
  split at h
  ·exact YK
  ·next hs hd=>
   simp only[Bool.true_and,Bool.or_eq_true,Bool.not_eq_true',decide_eq_false_iff_not,decide_eq_true_eq,not_or,Decidable.not_not] at hd;have e:(10*(n:Int)+((c.toNat:Int) - 48))=((10*n+(c.toNat - 48):Nat):Int):=by omega
   rw[e] at h;obtain⟨x,c',rest,hl,ha,hm,hq,hc,hz,hb⟩:=Q5S h;refine⟨c::x,c',rest,by rw[hl];rfl,?_,hm,?_,hc,fun h0=>absurd h0 Q2,fun _=>hb Q2⟩
   ·rw[List.all_cons,ha,Qcu.2 hd.1.1];rfl
   ·exact Q6a
theorem Q4l{stop mx:Int}{l:List UInt8}{p:Nat}{m:Int}{q:Nat}(h:Y3 stop mx l false 0 p=some (.ok (m,q))):∃c rest,l=Lib.itoa m++c::rest/\q=p+(Lib.itoa m).length+1/\(c.toNat:Int)=stop/\0<=m/\m<=mx/\∃d,(Lib.itoa m).head? =some d/\48<=d.toNat/\d.toNat<=57/\(d.toNat:Int) - 48<=mx:=by
 cases l with
 |nil=>exact(V2 h).elim
 |cons c l=>
  unfold Y3 at h;rw[if_neg Qn] at h;split at h
  ·exact YK
  ·next hd=>
   simp only[Bool.false_and,Bool.or_false,Bool.or_eq_true,Bool.not_eq_true',decide_eq_false_iff_not,decide_eq_true_eq,not_or,Decidable.not_not] at hd;have e:(10*(0:Int)+((c.toNat:Int) - 48))=((c.toNat - 48:Nat):Int):=by omega
   rw[e] at h;obtain⟨x,c',rest,hl,ha,hm,hq,hc,hz,hb⟩:=Q5S h;have hx:(c::x).all QoM=true:=by rw[List.all_cons,ha,Qcu.2 hd.1];rfl
   have hv:Q4f 0 (c::x)=Q4f (c.toNat - 48) x:=by show Q4f (10*0+_) x=_;rw[Nat.mul_zero,Nat.zero_add]
   have hdec:Lib.itoa m=c::x:=by
    rw[Q5o Q2,hm,Int.toNat_natCast,<- hv];refine Qk8 x.length (c::x) rfl hx fun h1 h2=>?_;have hc48:c=48:=by simpa using h2
    subst hc48;have:=hz rfl;rw[this] at h1;simp at h1
   refine⟨c',rest,by rw[hdec,hl];rfl,by rw[hdec,List.length_cons];omega,hc,by omega,hb Q2,c,by rw[hdec];rfl,hd.1.1,hd.1.2,by omega⟩
section
variable {r:Rl}{D:List UInt8}{p q:Nat}{n:Int}
def seg(D:List UInt8)(p q:Nat):List UInt8:=(D.drop p).take (q - p)
theorem Qtl{x rest:List UInt8}(h:D.drop p=x++rest):seg D p (p+x.length)=x:=by
 unfold seg;rw[h,show p+x.length - p=x.length by omega,List.take_left]
theorem Q0X(hr:Qq2 r)(hp:p<=D.length)(h:Yo r D p=some (.ok (n,q))):Ku r n=seg D p q/\(r.kind=3->0<=n/\n<=r.mx)/\(r.kind≠3->r.mn<=n/\n<=r.mx)/\0<=n:=by
 have hfar:=Vw hr hp h;unfold Yo at h;unfold Ku;split at h
 ·next h3=>
  obtain⟨c,rest,hl,hq,hc,h0,h1,_⟩:=Q4l h;rw[if_pos h3,Qje hc];refine⟨?_,fun _=>⟨h0,h1⟩,fun h=>absurd h3 h,h0⟩;have:=Qtl (D:=D) (p:=p) (x:=Lib.itoa n++[c]) (rest:=rest) (by rw[hl];simp);rw[<- this];congr 1;rw[List.length_append,hq];rfl
 ·next h3=>
  obtain⟨y,hy,hg⟩:=QW h;obtain⟨rfl,hn⟩:=J3 hy;split at hg
  ·exact(V2 hg).elim
  ·next hb=>
   have:=QH hg;injection this with h1 h2;simp only at h1 h2 hb;rw[if_neg h3,<- h1];have hl:((D.drop p).take r.size.toNat).length=r.size.toNat:=by rw[List.length_take,List.length_drop];omega
   refine⟨?_,fun h=>absurd h h3,fun _=>by omega,Q3K _ _⟩;have:=QlM r.big ((D.drop p).take r.size.toNat);rw[hl] at this;rw[this,<- h2];unfold seg;congr 1;omega
structure JG(r:Rl):Prop where
 kind:r.kind=2\/r.kind=3
 num:r.kind=2->1<=r.size/\r.size<=4/\0<=r.mn/\r.mn<=r.mx/\r.mx<256 ^ r.size.toNat
 dec:r.kind=3->0<=r.mx/\r.mx<=999999999/\¬(48<=r.stop/\r.stop<=57)
 stop:r.kind=3->0<=r.stop/\r.stop<=255
 mn3:r.kind=3->r.mn=0
theorem JG.numK(h:JG r):Qq2 r:=by
 rcases h.kind with h2|h3
 ·exact .inr ⟨h2,(h.num h2).1⟩
 ·exact .inl h3
theorem JG.of{m:Nat}(h:ROk m r)(hk:r.kind=2\/r.kind=3):JG r:=by
 refine⟨hk,h.num,h.dec,fun h3=>h.stop (.inl h3),fun h3=>?_⟩;have hf:=h.formed;unfold Y4 at hf;simp only[Bool.and_eq_true,Bool.or_eq_true,beq_iff_eq] at hf;have:=hf.1.1.1.1.1.2;rcases this with h|h
 ·exact h.2
 ·omega
def Vl(r:Rl)(n:Int):Bool:=decide (r.mn<=n)&&decide (n<=r.mx)
theorem Q0M:Vl r n=true↔r.mn<=n/\n<=r.mx:=by unfold Vl;simp
theorem Qd2(hr:JG r)(hp:p<=D.length)(h:Yo r D p=some (.ok (n,q))):Vl r n=true:=by
 obtain⟨_,h3,h2,h0⟩:=Q0X hr.numK hp h;rw[Q0M];by_cases hk:r.kind=3
 ·have:=h3 hk;have:=hr.mn3 hk
  omega
 ·exact h2 hk
end
end
def VF.hdN:VF->Nd
 |.cons d _ _=>d
 |.nil=>⟨0,0,[],[]⟩
def QE(ns:List (List UInt8)):List (List UInt8):=ns.filter fun s=>s != []
def XB(F:List Rl)(r:Rl)(d:Nd)(p:VF):Bool:=
 if r.kind=1 then d.k==3&&p.len==0
 else if r.kind=2\/r.kind=3 then d.k==1&&Vl r d.n
 else if r.kind=4 then d.k==2&&decide ((d.bs.length:Int)=r.size)
 else if r.kind=10 then d.k==2&&Vl (Qj F r.count) (d.bs.length:Int)
 else if r.kind=5 then d.k==2&&decide ((d.bs.length:Int)<=r.size)&&!(d.bs.contains (YD r))
 else if r.kind=6 then d.k==3&&Vl (Qj F r.count) (p.len:Int)
 else if r.kind=9 then d.k==3
 else if r.kind=8 then d.k==3&&p.len==2&&p.hdN.k==1&&decide (0<=p.hdN.n)&&decide (p.hdN.n<(r.parts.length:Int))
 else d.k==4&&d.ns==QE r.names
def J0(F:List Rl)(r:Rl)(d:Nd)(p:VF):List UInt8:=
 if r.kind=1 then r.bs
 else if r.kind=2\/r.kind=3 then Ku r d.n
 else if r.kind=4 then d.bs
 else if r.kind=10 then Ku (Qj F r.count) (d.bs.length:Int)++d.bs
 else if r.kind=5 then d.bs++[YD r]
 else if r.kind=6 then Ku (Qj F r.count) (p.len:Int)
 else []
def Q7c(F:List Rl):List (List UInt8)->List Int->List UInt8->List (List UInt8×Option Int)×List UInt8
 |nm::nms,k::ks,acc=>if nm=[] then Q7c F nms ks (acc++(Qj F k).bs) else ((acc,some k)::(Q7c F nms ks []).1,(Q7c F nms ks []).2)
 |_,_,acc=>([],acc)
def VQ(F:List Rl)(r:Rl)(p:VF):List (List UInt8×Option Int):=
 if r.kind=6\/r.kind=9 then List.replicate p.len ([],some r.elem)
 else if r.kind=8 then [([],none),([],some (r.parts.getD p.hdN.n.toNat 0))]
 else if r.kind=7 then (Q7c F r.names r.parts []).1
 else []
def Q1E(F:List Rl)(r:Rl):List UInt8:=if r.kind=9 then [YD r] else if r.kind=7 then (Q7c F r.names r.parts []).2 else []
def XR(F:List Rl):VF->List (List UInt8×Option Int)->List UInt8->Nat->Except Nat (List UInt8×Nat)
 |.cons d p r,(pre,some k)::ps,suf,n=>
  if XB F (Qj F k) d p=true then
   match XR F p (VQ F (Qj F k) p) (Q1E F (Qj F k)) (n+1) with
   |.error e=>.error e
   |.ok (b,m)=>match XR F r ps suf m with
    |.error e=>.error e
    |.ok (b',m')=>.ok (pre++(J0 F (Qj F k) d p++b)++b',m')
  else .error n
 |.cons d p r,(pre,none)::ps,suf,n=>match XR F r ps suf (n+1) with
  |.error e=>.error e
  |.ok (b',m')=>.ok (pre++b',m')
 |.cons d p r,[],suf,n=>.ok (suf,n)
 |.nil,ps,suf,n=>.ok (suf,n)
def WrL(F:List Rl)(l:VF)(ps:List (List UInt8×Option Int))(suf b:List UInt8):Prop:=∀n,∃m,XR F l ps suf n=.ok (b,m)
def Wr(F:List Rl)(k:Int)(d:Nd)(p:VF)(b:List UInt8):Prop:=XB F (Qj F k) d p=true/\∃b',b=J0 F (Qj F k) d p++b'/\WrL F p (VQ F (Qj F k) p) (Q1E F (Qj F k)) b'
section
variable {F:List Rl}{D:List UInt8}{suf b b' pre:List UInt8}{ps:List (List UInt8×Option Int)}{d:Nd}{p r:VF}{k:Int}
theorem WrL.nil:WrL F .nil ps suf suf:=fun n=>⟨n,by unfold XR;rfl⟩
theorem WrL.cons(h:Wr F k d p b)(h':WrL F r ps suf b'):WrL F (.cons d p r) ((pre,some k)::ps) suf (pre++b++b'):=fun n=>by
 obtain⟨hf,b1,rfl,hw⟩:=h;obtain⟨m,hm⟩:=hw (n+1);obtain⟨m',hm'⟩:=h' m;refine⟨m',?_⟩;unfold XR;rw[if_pos hf,hm];simp only;rw[hm']
theorem WrL.skip(h':WrL F r ps suf b'):WrL F (.cons d p r) ((pre,none)::ps) suf (pre++b'):=fun n=>by
 obtain⟨m',hm'⟩:=h' (n+1);refine⟨m',?_⟩;unfold XR;rw[hm']
end
section
variable {k:Int}{r:Rl}
section
variable {F:List Rl}{D:List UInt8}
theorem Q6H{g:Nat->Int}:∀(n i:Nat),V0 g i n=0->∀j,i<=j->j<i+n->g j=0
 |0,i,h,j,h1,h2=>by omega
 |n+1,i,h,j,h1,h2=>by
  unfold V0 at h
  split at h
  ·next h0=>
   rcases Nat.lt_or_ge i j with hj|hj
   ·exact Q6H n (i+1) h j hj Q2
   ·obtain rfl:i=j:=by omega
    exact h0
  ·next h0=>exact absurd h h0
structure Fm(F:List Rl):Prop extends Vld F where
 len:0<F.length/\F.length<=40
 uses:∀i,i<F.length->VW F i=0
 confl:∀i,i<F.length->Jy F i=false
theorem Qu9(h:Xr F=(0,0)):Fm F:=by
 refine⟨QnO h,Q6I h,(Q2l h).use,?_⟩;have hp:=Q2l h;unfold Xr at h;split at h
 ·cases h
 split at h
 ·cases h
 rw[XK (fun j hj=>by simpa using hp.rule j hj)] at h;simp only at h;rw[XK (fun j hj=>by simpa using hp.use j hj)] at h;simp only at h;cases h3:Xy F.length (Q31 F) with
 |some k=>rw[h3] at h;simp only[Prod.mk.injEq] at h;exact Q6F
 |none=>
  rw[h3] at h;simp only at h;cases h4:Xy F.length (fun k=>!((Jg F).getD k false)) with
  |some k=>rw[h4] at h;simp only[Prod.mk.injEq] at h;exact Q6F
  |none=>
   rw[h4] at h;simp only at h;cases h5:Xy F.length (Jy F) with
   |some k=>rw[h5] at h;simp only[Prod.mk.injEq] at h;exact Q6F
   |none=>exact Ko h5
theorem Fm.seq(hv:Fm F)(hk:0<=k/\k<F.length)(h7:(Qj F k).kind=7):∀i:Nat,i<(Qj F k).parts.length->(Qj F k).names.getD i []=[]->(Qj F ((Qj F k).parts.getD i 0)).kind=1:=by
 intro i hi hn;have hr:=hv.toUsd.rok hk;have hg:=VM hk;have hu:=hv.uses k.toNat Q2;rw[Q2x hg] at hu;obtain⟨r,e⟩:∃r,Qj F k=r:=⟨_,rfl⟩;rw[e] at hr hu h7 hi hn ⊢;unfold K9 at hu;rw[if_neg (by rw[h7];simp [Qv,Z9]),if_neg (by rw[h7];decide)] at hu;have h:=Q6H _ 0 hu i Q2 (by rw[(hr.seven h7).1];omega);unfold VY at h;rw[if_pos (by rw[hn];rfl)] at h;have hp:=hr.parts (.inl h7) _ (Yb hi);rw[Q0W (VM hp)] at h;by_cases h1:(Qj F (r.parts.getD i 0)).kind=1
 ·exact h1
 ·rw[if_pos (by simpa using h1)] at h
  cases h
theorem Fm.numOk(hv:Fm F)(hk:0<=k/\k<F.length)(h:(Qj F k).kind=6\/(Qj F k).kind=10):JG (Qj F (Qj F k).count):=by
 obtain⟨c,hc,h23⟩:=hv.toUsd.use _ _ (VM hk) h;rw[Q9V hc];exact JG.of (hv.toUsd.ok _ _ hc) h23
theorem Q3I(h9:r.kind≠9)(h7:r.kind≠7):Q1E F r=[]:=by unfold Q1E;rw[if_neg h9,if_neg h7]
theorem Q5B{p:VF}(h:r.kind=6\/r.kind=9):VQ F r p=List.replicate p.len ([],some r.elem):=by unfold VQ;rw[if_pos h]
end
end
section
variable {c:UInt8}{k:Int}{p:Nat}{r:Rl}
section
variable {F:List Rl}{D:List UInt8}
def fir(F:List Rl)(k:Int)(c:UInt8):Bool:=((Q07 F).getD k.toNat ZL) c.toNat
theorem Qgc(hv:FOk F)(hk:0<=k/\k<F.length)(h:QaY (Qj F k) (c.toNat:Int)=true):fir F k c=true:=by
 unfold fir;rw[Qbm hv.bd Q2];refine⟨k.toNat,.inl rfl,?_⟩;unfold Q4G;rw[VM hk];have:=Qq5 (hv _ _ (VM hk)) (b:=c.toNat) c.toNat_lt;rw[<- this] at h;exact h
theorem Qm1(hv:FOk F){i:Int}(hk:0<=k/\k<F.length)(hi:i∈bl (Qj F k))(h:fir F i c=true):fir F k c=true:=by
 unfold fir at h ⊢;have hi':=Q6U (hv _ _ (VM hk)) i hi;rw[Qbm hv.bd Q2] at h ⊢;obtain⟨j,hj,ho⟩:=h;refine⟨j,.inr ?_,ho⟩;have hb:=QmM hk hi;rcases hj with rfl|hj
 ·exact .one hb
 ·exact Rch.trans (.one hb) hj
theorem Q6c{l:List UInt8}(h:D.drop p=c::l):D[p]? =some c:=by
 have:=congrArg (fun l=>l[0]?) h;simpa using this
theorem Zw(h:D[p]? =some c):D.drop p=c::D.drop (p+1):=by
 obtain⟨hl,hc⟩:=List.getElem?_eq_some_iff.1 h;rw[List.drop_eq_getElem_cons hl,hc]
theorem Q8Y(hr:JG r){q:Nat}{n:Int}(hp:p<=D.length)(h:Yo r D p=some (.ok (n,q))):∃c,D[p]? =some c/\QaY r (c.toNat:Int)=true:=by
 unfold Yo at h;unfold QaY;split at h
 ·next h3=>
  obtain⟨c,rest,hl,hq,hc,h0,h1,d,hd,hd1,hd2,hd3⟩:=Q4l h;refine⟨d,?_,?_⟩;rotate_left
  ·rw[if_neg Q2,if_neg Q2,if_neg Q2,if_pos h3,Xn.2 Q2]
   simp;omega
  ·cases hi:Lib.itoa n with
   |nil=>rw[hi] at hd;cases hd
   |cons a x=>
    rw[hi] at hd;have:a=d:=by simpa using hd
    subst this;rw[hi] at hl;exact Q6c hl
 ·next h3=>
  have h2:=hr.kind.resolve_right h3;obtain⟨a1,a2,a3,a4,a5⟩:=hr.num h2;obtain⟨y,hy,hg⟩:=QW h;obtain⟨rfl,hn⟩:=J3 hy;simp only at hg;split at hg
  ·exact(V2 hg).elim
  ·next hb=>
   clear hg hy h;have hk1:¬r.kind=1:=by omega
   simp only[if_neg hk1];rw[h2];simp only[true_and,if_true];obtain⟨big,hbig⟩:∃b,r.big=b:=⟨_,rfl⟩;obtain⟨size,hsz⟩:∃b,r.size=b:=⟨_,rfl⟩;obtain⟨mn,hmn⟩:∃b,r.mn=b:=⟨_,rfl⟩;obtain⟨mx,hmx⟩:∃b,r.mx=b:=⟨_,rfl⟩;rw[hbig,hsz,hmn,hmx] at hb;rw[hsz,hmx] at a5;rw[hbig,hsz,hmn,hmx];rw[hsz] at a1 a2 hn;rw[hmn] at a3 a4;rw[hmx] at a4;have hl:(D.drop p).length=D.length - p:=List.length_drop;obtain⟨l,hL⟩:∃l,D.drop p=l:=⟨_,rfl⟩;rw[hL] at hb hl;have hlen:size<=(l.length:Int):=by omega
   clear hn hl;cases l with
   |nil=>simp at hlen;omega
   |cons c l=>
    refine⟨c,Q6c hL,?_⟩;clear hL;have hc:=c.toNat_lt;rcases (show size=1\/size=2\/size=3\/size=4 by omega) with rfl|rfl|rfl|rfl
    ·cases big with
     |true=>simp [QU,leN] at hb a5 ⊢;omega
     |false=>simp [QU,leN] at hb a5 ⊢;split<;>omega
    ·match l,hlen with
     |d::l,_=>
      have hd:=d.toNat_lt;cases big with
      |true=>simp [QU,leN] at hb a5 ⊢;omega
      |false=>simp [QU,leN] at hb a5 ⊢;split<;>omega
    ·match l,hlen with
     |d::e::l,_=>
      have hd:=d.toNat_lt;have he:=e.toNat_lt;cases big with
      |true=>simp [QU,leN] at hb a5 ⊢;omega
      |false=>simp [QU,leN] at hb a5 ⊢;split<;>omega
    ·match l,hlen with
     |d::e::g::l,_=>
      have hd:=d.toNat_lt;have he:=e.toNat_lt;have hg:=g.toNat_lt;cases big with
      |true=>simp [QU,leN] at hb a5 ⊢;omega
      |false=>simp [QU,leN] at hb a5 ⊢;split<;>omega
theorem Qwt(h:r.kind=6\/r.kind=10):r.count∈bl r:=by unfold bl Xg;rw[if_pos h];exact Q2R
theorem Qwv(h:r.kind=9):r.elem∈bl r:=by unfold bl Xg;rw[if_neg Q2,if_neg Q2,if_neg Q2,if_pos h];exact Q2R
theorem QwN(h:r.kind=8){i:Nat}(hi:i<r.parts.length):r.parts.getD i 0∈bl r:=by unfold bl Xg;rw[if_neg Q2,if_neg Q2,if_pos h];exact Yb hi
theorem Qwq(h:r.kind=7){x:Int}(hx:x∈r.parts.take 1):x∈bl r:=by unfold bl Xg;rw[if_neg Q2,if_pos h];exact hx
theorem Fm.fir_count(hv:Fm F)(hk:0<=k/\k<F.length)(h:(Qj F k).kind=6\/(Qj F k).kind=10){x:Int×Nat}(hp:p<=D.length)(hx:Yo (Qj F (Qj F k).count) D p=some (.ok x)):∃c,D[p]? =some c/\fir F k c=true:=by
 obtain⟨c,hc,hf⟩:=Q8Y (n:=x.1) (q:=x.2) (hv.numOk hk h) hp hx;exact⟨c,hc,Qm1 hv.toUsd.ok hk (Qwt h) (Qgc hv.toUsd.ok ((hv.toUsd.rok hk).count h) hf)⟩
theorem Q0s(hv:Fm F):∀(f:Nat) {k:Int},0<=k/\k<F.length->∀(p:Nat) (y:Nd×VF×Nat),p<=D.length->QA F D f k p=some (.ok y)->∃c,D[p]? =some c/\fir F k c=true
 |0,k,hk,p,y,hp,h=>by cases h
 |f+1,k,hk,p,y,hp,h=>by
  have hr:=hv.toUsd.rok hk
  have hcount:=fun h p x hp hx=>hv.fir_count (D:=D) hk h (p:=p) (x:=x) hp hx;have hown:=fun c h=>Qgc hv.toUsd.ok hk (c:=c) h;have hbg:=fun c i hi h=>Qm1 hv.toUsd.ok hk (i:=i) (c:=c) hi h;have hfar:=XH (D:=D) hv.toUsd (f+1) hk p y hp h;have hsome:∃c,D[p]? =some c:=⟨_,List.getElem?_eq_getElem Q2⟩;unfold QA at h;simp only at h;obtain⟨r,e⟩:∃r,Qj F k=r:=⟨_,rfl⟩;simp only[e] at h hr hcount hown hbg;split at h
  ·next h1=>
   obtain⟨q,hq,hg⟩:=QW h;obtain⟨a,b,c⟩:=Q5p hq;have hb:=hr.bs1 h1;obtain⟨x,hx⟩:=hsome;refine⟨x,hx,hown x ?_⟩;unfold QaY;rw[if_pos h1];rw[Zw hx] at b;cases hbs:r.bs with
   |nil=>rw[hbs] at hb;cases hb
   |cons u v=>
    rw[hbs] at b;simp at b;rw[b.1];simp
  split at h
  ·next h1 h23=>
   obtain⟨z,hz,hg⟩:=QW h;obtain⟨c,hc,hf⟩:=Q8Y (n:=z.1) (q:=z.2) (JG.of hr h23) hp hz;exact⟨c,hc,hown c hf⟩
  split at h
  ·next h1 h23 h4=>
   obtain⟨x,hx⟩:=hsome;refine⟨x,hx,hown x ?_⟩;unfold QaY;rw[if_neg h1,if_neg Q2,if_neg Q2,if_neg Q2,if_neg Q2,if_neg Q2,h4];rfl
  split at h
  ·next h1 h23 h4 h10=>
   obtain⟨x,hx,hg⟩:=QW h;exact hcount (.inr h10) p x hp hx
  split at h
  ·next h1 h23 h4 h10 h5=>
   obtain⟨q,hq,hg⟩:=QW h;obtain⟨x,hx⟩:=hsome;refine⟨x,hx,hown x ?_⟩;unfold QaY;rw[if_neg h1,if_neg Q2,if_neg Q2,if_neg Q2,if_pos h5];rw[Zw hx] at hq;unfold Ks at hq;split at hq
   ·next hs=>rw[<- hs];simp
   split at hq
   ·exact(V2 hq).elim
   ·next hs hz=>
    have:=hr.size5 h5;simp;left;omega
  split at h
  ·next h1 h23 h4 h10 h5 h6=>
   obtain⟨x,hx,hg⟩:=QW h;exact hcount (.inl h6) p x hp hx
  split at h
  ·next h1 h23 h4 h10 h5 h6 h9=>
   obtain⟨z,hz,hg⟩:=QW h;unfold V9 at hz;split at hz
   ·exact(V2 hz).elim
   ·next c hc=>
    split at hz
    ·next hs=>
     refine⟨c,hc,hown c ?_⟩;unfold QaY;rw[if_neg h1,if_neg Q2,if_neg Q2,if_neg Q2,if_neg Q2,if_pos h9,hs];simp
    ·obtain⟨y,hy,hg⟩:=QW hz;obtain⟨c,hc,hf⟩:=Q0s hv f Q84 p y hp hy;exact⟨c,hc,hbg c _ (Qwv h9) hf⟩
  split at h
  ·next h1 h23 h4 h10 h5 h6 h9 h8=>
   split at h
   ·exact YK
   ·split at h
    ·exact YK
    ·next c hc _ i hi=>exact⟨c,hc,hbg c _ (QwN h8 (Vo hi)) (Qen hi)⟩
  ·next h1 h23 h4 h10 h5 h6 h9 h8=>
   have h7:r.kind=7:=by
    have:=hr.kind;omega
   have hs7:=hr.seven h7;obtain⟨z,hz,hg⟩:=QW h;have hp7:=hr.parts (.inl h7);have hb7:=fun x hx=>Qwq h7 (x:=x) hx;obtain⟨ks,hks⟩:∃ks,r.parts=ks:=⟨_,rfl⟩;obtain⟨ns,hns⟩:∃ns,r.names=ns:=⟨_,rfl⟩;rw[hks] at hs7 hz hp7 hb7;rw[hns] at hs7 hz;cases ns with
   |nil=>exact absurd hs7.1 (by have:=hs7.2;simp only[List.length_nil];omega)
   |cons nm ns=>
    cases ks with
    |nil=>exact absurd hs7.1 Qn
    |cons x ks=>
     unfold JK at hz;obtain⟨y,hy,hg⟩:=QW hz;obtain⟨c,hc,hf⟩:=Q0s hv f (hp7 x List.mem_cons_self) p y hp hy;exact⟨c,hc,hbg c _ (hb7 x Qn) hf⟩
end
end
def Q33:VF->Prop
 |.nil=>True
 |.cons d p r=>Xu d p.len=0/\Q33 p/\Q33 r
section
variable {F:List Rl}{D:List UInt8}
theorem QiM{d:Nd}{n:Nat}(h:Xu d n=0):(d.k≠1->d.n=0)/\(d.k≠2->d.bs=[])/\(d.k≠4->d.ns=[])/\(d.k<3->n=0)/\(d.k=4->d.ns.length=n):=by
 unfold Xu at h;split at h
 ·cases h
 split at h
 ·cases h
 ·next h1 h2=>
  unfold QgE at h2;simp only[Bool.or_eq_true,decide_eq_true_eq,not_or,not_and] at h2;obtain⟨⟨⟨⟨a,b⟩,c⟩,e⟩,g⟩:=h2;refine⟨fun h=>by have:=a h;omega,fun h=>?_,fun h=>?_,fun h=>by have:=e h;omega,fun h=>by have:=g h;omega⟩
  ·have:=b h;exact List.length_eq_zero_iff.1 Q2
  ·have:=c h;exact List.length_eq_zero_iff.1 Q2
end
open Go.RowKit
section
variable {B B' b o:Nat}{F p:VF}{d:Nd}{v:Value}{w w':World}
def Hd(w:World)(B:Nat)(d:Nd)(np:Nat)(Q:Nat->Nat->Prop)(sb sn sp:Value):Prop:=
 ∃Ab nb cb An nn cn Ap cp,sb=.slice Ab nb cb/\sn=.slice An nn cn/\sp=.slice Ap np cp/\nb<=cb/\nn<=cn/\np<=cp/\cp<=maxLen/\
  Rd w B 1 Ab nb (bv d.bs)/\Rd w B 1 An nn (sv d.ns)/\(0<np->∃b o,Ap=some ⟨b,o,none⟩/\b<B/\Q b o)
def YT(w:World)(b o:Nat)(d:Nd)(sb sn sp:Value):Prop:=
 w.cell? ⟨b,o,none⟩=some (.int .i64 d.k)/\w.cell? ⟨b,o+1,none⟩=some (.int .i64 d.n)/\w.cell? ⟨b,o+2,none⟩=some sb/\w.cell? ⟨b,o+3,none⟩=some sn/\w.cell? ⟨b,o+4,none⟩=some sp
def FIn(w:World)(B:Nat):VF->Nat->Nat->Prop
 |.nil,_,_=>True
 |.cons d p r,b,o=>(∃sb sn sp,YT w b o d sb sn sp/\Hd w B d p.len (FIn w B p) sb sn sp)/\FIn w B r b (o+5)
def QwJ(d:Nd):Prop:=-9223372036854775808<=d.k/\d.k<=9223372036854775807/\-9223372036854775808<=d.n/\d.n<=9223372036854775807
def VIn(w:World)(B:Nat)(v:Value)(d:Nd)(p:VF):Prop:=
 ∃sb sn sp,v=.agg #[.int .i64 d.k,.int .i64 d.n,sb,sn,sp]/\Hd w B d p.len (FIn w B p) sb sn sp
theorem Hd.mono{np:Nat}{Q Q':Nat->Nat->Prop}{sb sn sp:Value}(h:Hd w B d np Q sb sn sp)(hk:∀p:Addr,p.block<B->w'.cell? p=w.cell? p)(hB:B<=B')(hQ:∀b o,b<B->Q b o->Q' b o):Hd w' B' d np Q' sb sn sp:=by
 obtain⟨Ab,nb,cb,An,nn,cn,Ap,cp,h1,h2,h3,h4,h5,h6,h6',h7,h8,h9⟩:=h;refine⟨Ab,nb,cb,An,nn,cn,Ap,cp,h1,h2,h3,h4,h5,h6,h6',(h7.keep hk).more hB,(h8.keep hk).more hB,fun h0=>?_⟩;obtain⟨b,o,e,hb,hq⟩:=h9 h0;exact⟨b,o,e,by omega,hQ b o hb hq⟩
theorem FIn.keep(hk:∀p:Addr,p.block<B->w'.cell? p=w.cell? p)(hB:B<=B'):∀(F:VF) (b o:Nat),b<B->FIn w B F b o->FIn w' B' F b o:=by
 intro F;induction F with
 |nil=>intro b o _ _;trivial
 |cons d p r ih1 ih2=>
  rintro b o hb ⟨⟨sb,sn,sp,⟨c0,c1,c2,c3,c4⟩,hd⟩,hr⟩;refine⟨⟨sb,sn,sp,⟨(hk _ hb).trans c0,(hk _ hb).trans c1,(hk _ hb).trans c2,(hk _ hb).trans c3,(hk _ hb).trans c4⟩,hd.mono hk hB ih1⟩,ih2 b _ hb hr⟩
theorem VIn.keep{w w':World}{B B':Nat}{v:Value}{d:Nd}{p:VF}(h:VIn w B v d p)(hk:∀p:Addr,p.block<B->w'.cell? p=w.cell? p)(hB:B<=B'):VIn w' B' v d p:=by
 obtain⟨sb,sn,sp,e,h⟩:=h;exact⟨sb,sn,sp,e,h.mono hk hB (FIn.keep hk hB p)⟩
theorem VIn.below(h:VIn w B v d p)(hb:Below B' w w')(h1:B<=B'):VIn w' B v d p:=h.keep (fun q hq=>hb.cell Q2) XU
theorem VIn.on(h:VIn w w.heap.size v d p)(hb:Below w.heap.size w w'):VIn w' w'.heap.size v d p:=h.keep QlR hb.size
theorem FIn.below(h:FIn w B F b o)(hb0:b<B)(hb:Below B' w w')(h1:B<=B'):FIn w' B F b o:=FIn.keep (fun q hq=>hb.cell Q2) XU F b o hb0 h
theorem FIn.on(h:FIn w w.heap.size F b o)(hb0:b<w.heap.size)(hb:Below w.heap.size w w'):FIn w' w'.heap.size F b o:=FIn.keep QlR hb.size F b o hb0 h
theorem FIn.drop:∀(F:VF) (b o i:Nat),FIn w B F b o->FIn w B (F.drop i) b (o+i*5):=by
 intro F;induction F with
 |nil=>intro b o i _;cases i<;>trivial
 |cons d p r _ ih=>
  intro b o i h;cases i with
  |zero=>rw[Nat.zero_mul,Nat.add_zero];exact h
  |succ i=>
   have:=ih b (o+5) i h.2;rw[show o+(i+1)*5=o+5+i*5 by omega];exact this
theorem FIn.at_{i:Nat}{r:VF}(h:FIn w B F b o)(hd:F.drop i=.cons d p r):∃sb sn sp,YT w b (o+i*5) d sb sn sp/\Hd w B d p.len (FIn w B p) sb sn sp:=by
 have:=FIn.drop F b o i h;rw[hd] at this;exact this.1
end
section
variable {Ab An Ap:Option Addr}{cb cn cp nb nn np:Nat}{n:Int}{w:World}
theorem Q59(hn1:(n != 0)=true)(hb1:0<nb):
  Calls Tryz.prog 142 #[.agg #[.int .i64 1,.int .i64 n,.slice Ab nb cb,.slice An nn cn,.slice Ap np cp]] w fun e w'=>e=.returned (.int .i64 6)/\Below w.heap.size w w':=by
 have hmf:=Zx;have hb1':(0:Int)<(nb:Int):=by omega
 go_enter Tryz.func142,Tryz.ntmps142;go_wp2_with fail
 refine(Qs (t:=true) [1,2,3,4] 1 Xk rfl rfl (by repeat(first|exact Xm _ _ _ _ _ _ _|refine Ql ?_)) Q1 Q1).mono ?_;rintro e w' ⟨rfl,rfl⟩;go_wp2_with fail
 refine(Qs (t:=true) [1] 1 Xk rfl rfl (by repeat(first|exact Xm _ _ _ _ _ _ _|refine Ql ?_)) Q1 Q1).mono ?_;rintro e w' ⟨rfl,rfl⟩;go_wp2_with fail
 refine(Qs (t:=false) [2] 1 Xk rfl rfl (by repeat(first|exact Xm _ _ _ _ _ _ _|refine Ql ?_)) Q1 Q1).mono ?_;rintro e w' ⟨rfl,rfl⟩;go_wp2_with fail
 go_ret;exact⟨rfl,(by repeat(first|exact Below.refl _ _|(refine Below.alloc ?_ ZP _)))⟩
theorem Q3w(hn1:(n != 0)=true)(hb0:nb=0)(hs1:0<nn):
  Calls Tryz.prog 142 #[.agg #[.int .i64 1,.int .i64 n,.slice Ab nb cb,.slice An nn cn,.slice Ap np cp]] w fun e w'=>e=.returned (.int .i64 6)/\Below w.heap.size w w':=by
 have hmf:=Zx;subst hb0;have hs1':(0:Int)<(nn:Int):=by omega
 go_enter Tryz.func142,Tryz.ntmps142;go_wp2_with fail
 refine(Qs (t:=true) [1,2,3,4] 1 Xk rfl rfl (by repeat(first|exact Xm _ _ _ _ _ _ _|refine Ql ?_)) Q1 Q1).mono ?_;rintro e w' ⟨rfl,rfl⟩;go_wp2_with fail
 refine(Qs (t:=true) [1] 1 Xk rfl rfl (by repeat(first|exact Xm _ _ _ _ _ _ _|refine Ql ?_)) Q1 Q1).mono ?_;rintro e w' ⟨rfl,rfl⟩;go_wp2_with fail
 refine(Qs (t:=false) [4] 1 Xk rfl rfl (by repeat(first|exact Xm _ _ _ _ _ _ _|refine Ql ?_)) Q1 Q1).mono ?_;rintro e w' ⟨rfl,rfl⟩;go_wp2_with fail
 go_ret;exact⟨rfl,(by repeat(first|exact Below.refl _ _|(refine Below.alloc ?_ ZP _)))⟩
theorem Q1e(hn1:(n != 0)=true)(hb0:nb=0)(hs0:nn=0)(hp1:0<np):
  Calls Tryz.prog 142 #[.agg #[.int .i64 1,.int .i64 n,.slice Ab nb cb,.slice An nn cn,.slice Ap np cp]] w fun e w'=>e=.returned (.int .i64 6)/\Below w.heap.size w w':=by
 have hmf:=Zx;subst hb0;subst hs0;have hp1':(0:Int)<(np:Int):=by omega
 go_enter Tryz.func142,Tryz.ntmps142;go_wp2_with fail
 refine(Qs (t:=true) [1,2,3,4] 1 Xk rfl rfl (by repeat(first|exact Xm _ _ _ _ _ _ _|refine Ql ?_)) Q1 Q1).mono ?_;rintro e w' ⟨rfl,rfl⟩;go_wp2_with fail
 refine(Qs (t:=true) [1] 1 Xk rfl rfl (by repeat(first|exact Xm _ _ _ _ _ _ _|refine Ql ?_)) Q1 Q1).mono ?_;rintro e w' ⟨rfl,rfl⟩;go_wp2_with fail
 refine(Qs (t:=false) [3,4] 1 Xk rfl rfl (by repeat(first|exact Xm _ _ _ _ _ _ _|refine Ql ?_)) Q1 Q1).mono ?_;rintro e w' ⟨rfl,rfl⟩;go_wp2_with fail
 go_ret;exact⟨rfl,(by repeat(first|exact Below.refl _ _|(refine Below.alloc ?_ ZP _)))⟩
theorem Q5h(hn0:(n != 0)=false)(hb1:0<nb):
  Calls Tryz.prog 142 #[.agg #[.int .i64 1,.int .i64 n,.slice Ab nb cb,.slice An nn cn,.slice Ap np cp]] w fun e w'=>e=.returned (.int .i64 6)/\Below w.heap.size w w':=by
 have hmf:=Zx;have hb1':(0:Int)<(nb:Int):=by omega
 go_enter Tryz.func142,Tryz.ntmps142;go_wp2_with fail
 refine(Qs (t:=true) [1,2,3,4] 1 Xk rfl rfl (by repeat(first|exact Xm _ _ _ _ _ _ _|refine Ql ?_)) Q1 Q1).mono ?_;rintro e w' ⟨rfl,rfl⟩;go_wp2_with fail
 refine(Qs (t:=false) [2] 1 Xk rfl rfl (by repeat(first|exact Xm _ _ _ _ _ _ _|refine Ql ?_)) Q1 Q1).mono ?_;rintro e w' ⟨rfl,rfl⟩;go_wp2_with fail
 go_ret;exact⟨rfl,(by repeat(first|exact Below.refl _ _|(refine Below.alloc ?_ ZP _)))⟩
theorem Q3u(hn0:(n != 0)=false)(hb0:nb=0)(hs1:0<nn):
  Calls Tryz.prog 142 #[.agg #[.int .i64 1,.int .i64 n,.slice Ab nb cb,.slice An nn cn,.slice Ap np cp]] w fun e w'=>e=.returned (.int .i64 6)/\Below w.heap.size w w':=by
 have hmf:=Zx;subst hb0;have hs1':(0:Int)<(nn:Int):=by omega
 go_enter Tryz.func142,Tryz.ntmps142;go_wp2_with fail
 refine(Qs (t:=true) [1,2,3,4] 1 Xk rfl rfl (by repeat(first|exact Xm _ _ _ _ _ _ _|refine Ql ?_)) Q1 Q1).mono ?_;rintro e w' ⟨rfl,rfl⟩;go_wp2_with fail
 refine(Qs (t:=false) [4] 1 Xk rfl rfl (by repeat(first|exact Xm _ _ _ _ _ _ _|refine Ql ?_)) Q1 Q1).mono ?_;rintro e w' ⟨rfl,rfl⟩;go_wp2_with fail
 go_ret;exact⟨rfl,(by repeat(first|exact Below.refl _ _|(refine Below.alloc ?_ ZP _)))⟩
theorem Q1c(hn0:(n != 0)=false)(hb0:nb=0)(hs0:nn=0)(hp1:0<np):
  Calls Tryz.prog 142 #[.agg #[.int .i64 1,.int .i64 n,.slice Ab nb cb,.slice An nn cn,.slice Ap np cp]] w fun e w'=>e=.returned (.int .i64 6)/\Below w.heap.size w w':=by
 have hmf:=Zx;subst hb0;subst hs0;have hp1':(0:Int)<(np:Int):=by omega
 go_enter Tryz.func142,Tryz.ntmps142;go_wp2_with fail
 refine(Qs (t:=true) [1,2,3,4] 1 Xk rfl rfl (by repeat(first|exact Xm _ _ _ _ _ _ _|refine Ql ?_)) Q1 Q1).mono ?_;rintro e w' ⟨rfl,rfl⟩;go_wp2_with fail
 refine(Qs (t:=false) [3,4] 1 Xk rfl rfl (by repeat(first|exact Xm _ _ _ _ _ _ _|refine Ql ?_)) Q1 Q1).mono ?_;rintro e w' ⟨rfl,rfl⟩;go_wp2_with fail
 go_ret;exact⟨rfl,(by repeat(first|exact Below.refl _ _|(refine Below.alloc ?_ ZP _)))⟩
theorem Q7E(hn1:(n != 0)=true):
  Calls Tryz.prog 142 #[.agg #[.int .i64 2,.int .i64 n,.slice Ab nb cb,.slice An nn cn,.slice Ap np cp]] w fun e w'=>e=.returned (.int .i64 6)/\Below w.heap.size w w':=by
 have hmf:=Zx;go_enter Tryz.func142,Tryz.ntmps142;go_wp2_with fail
 refine(Qs (t:=true) [1,2,3,4] 2 Xk rfl rfl (by repeat(first|exact Xm _ _ _ _ _ _ _|refine Ql ?_)) Q1 Q1).mono ?_;rintro e w' ⟨rfl,rfl⟩;go_wp2_with fail
 refine(Qs (t:=false) [1] 2 Xk rfl rfl (by repeat(first|exact Xm _ _ _ _ _ _ _|refine Ql ?_)) Q1 Q1).mono ?_;rintro e w' ⟨rfl,rfl⟩;go_wp2_with fail
 go_ret;exact⟨rfl,(by repeat(first|exact Below.refl _ _|(refine Below.alloc ?_ ZP _)))⟩
theorem Q3j(hn0:(n != 0)=false)(hb1:0<nb)(hs1:0<nn):
  Calls Tryz.prog 142 #[.agg #[.int .i64 2,.int .i64 n,.slice Ab nb cb,.slice An nn cn,.slice Ap np cp]] w fun e w'=>e=.returned (.int .i64 6)/\Below w.heap.size w w':=by
 have hmf:=Zx;have hb1':(0:Int)<(nb:Int):=by omega
 have hs1':(0:Int)<(nn:Int):=by omega
 go_enter Tryz.func142,Tryz.ntmps142;go_wp2_with fail
 refine(Qs (t:=true) [1,2,3,4] 2 Xk rfl rfl (by repeat(first|exact Xm _ _ _ _ _ _ _|refine Ql ?_)) Q1 Q1).mono ?_;rintro e w' ⟨rfl,rfl⟩;go_wp2_with fail
 refine(Qs (t:=true) [2] 2 Xk rfl rfl (by repeat(first|exact Xm _ _ _ _ _ _ _|refine Ql ?_)) Q1 Q1).mono ?_;rintro e w' ⟨rfl,rfl⟩;go_wp2_with fail
 refine(Qs (t:=false) [4] 2 Xk rfl rfl (by repeat(first|exact Xm _ _ _ _ _ _ _|refine Ql ?_)) Q1 Q1).mono ?_;rintro e w' ⟨rfl,rfl⟩;go_wp2_with fail
 go_ret;exact⟨rfl,(by repeat(first|exact Below.refl _ _|(refine Below.alloc ?_ ZP _)))⟩
theorem Q1f(hn0:(n != 0)=false)(hb1:0<nb)(hs0:nn=0)(hp1:0<np):
  Calls Tryz.prog 142 #[.agg #[.int .i64 2,.int .i64 n,.slice Ab nb cb,.slice An nn cn,.slice Ap np cp]] w fun e w'=>e=.returned (.int .i64 6)/\Below w.heap.size w w':=by
 have hmf:=Zx;have hb1':(0:Int)<(nb:Int):=by omega
 subst hs0;have hp1':(0:Int)<(np:Int):=by omega
 go_enter Tryz.func142,Tryz.ntmps142;go_wp2_with fail
 refine(Qs (t:=true) [1,2,3,4] 2 Xk rfl rfl (by repeat(first|exact Xm _ _ _ _ _ _ _|refine Ql ?_)) Q1 Q1).mono ?_;rintro e w' ⟨rfl,rfl⟩;go_wp2_with fail
 refine(Qs (t:=true) [2] 2 Xk rfl rfl (by repeat(first|exact Xm _ _ _ _ _ _ _|refine Ql ?_)) Q1 Q1).mono ?_;rintro e w' ⟨rfl,rfl⟩;go_wp2_with fail
 refine(Qs (t:=false) [3,4] 2 Xk rfl rfl (by repeat(first|exact Xm _ _ _ _ _ _ _|refine Ql ?_)) Q1 Q1).mono ?_;rintro e w' ⟨rfl,rfl⟩;go_wp2_with fail
 go_ret;exact⟨rfl,(by repeat(first|exact Below.refl _ _|(refine Below.alloc ?_ ZP _)))⟩
theorem Q2E(hn0:(n != 0)=false)(hb0:nb=0)(hs1:0<nn):
  Calls Tryz.prog 142 #[.agg #[.int .i64 2,.int .i64 n,.slice Ab nb cb,.slice An nn cn,.slice Ap np cp]] w fun e w'=>e=.returned (.int .i64 6)/\Below w.heap.size w w':=by
 have hmf:=Zx;subst hb0;have hs1':(0:Int)<(nn:Int):=by omega
 go_enter Tryz.func142,Tryz.ntmps142;go_wp2_with fail
 refine(Qs (t:=true) [1,2,3,4] 2 Xk rfl rfl (by repeat(first|exact Xm _ _ _ _ _ _ _|refine Ql ?_)) Q1 Q1).mono ?_;rintro e w' ⟨rfl,rfl⟩;go_wp2_with fail
 refine(Qs (t:=false) [4] 2 Xk rfl rfl (by repeat(first|exact Xm _ _ _ _ _ _ _|refine Ql ?_)) Q1 Q1).mono ?_;rintro e w' ⟨rfl,rfl⟩;go_wp2_with fail
 go_ret;exact⟨rfl,(by repeat(first|exact Below.refl _ _|(refine Below.alloc ?_ ZP _)))⟩
theorem Q18(hn0:(n != 0)=false)(hb0:nb=0)(hs0:nn=0)(hp1:0<np):
  Calls Tryz.prog 142 #[.agg #[.int .i64 2,.int .i64 n,.slice Ab nb cb,.slice An nn cn,.slice Ap np cp]] w fun e w'=>e=.returned (.int .i64 6)/\Below w.heap.size w w':=by
 have hmf:=Zx;subst hb0;subst hs0;have hp1':(0:Int)<(np:Int):=by omega
 go_enter Tryz.func142,Tryz.ntmps142;go_wp2_with fail
 refine(Qs (t:=true) [1,2,3,4] 2 Xk rfl rfl (by repeat(first|exact Xm _ _ _ _ _ _ _|refine Ql ?_)) Q1 Q1).mono ?_;rintro e w' ⟨rfl,rfl⟩;go_wp2_with fail
 refine(Qs (t:=false) [3,4] 2 Xk rfl rfl (by repeat(first|exact Xm _ _ _ _ _ _ _|refine Ql ?_)) Q1 Q1).mono ?_;rintro e w' ⟨rfl,rfl⟩;go_wp2_with fail
 go_ret;exact⟨rfl,(by repeat(first|exact Below.refl _ _|(refine Below.alloc ?_ ZP _)))⟩
end
section
variable {Ab An Ap:Option Addr}{cb cn cp nb nn np:Nat}{n:Int}{w:World}
theorem Q7o(hn1:(n != 0)=true):
  Calls Tryz.prog 142 #[.agg #[.int .i64 3,.int .i64 n,.slice Ab nb cb,.slice An nn cn,.slice Ap np cp]] w fun e w'=>e=.returned (.int .i64 6)/\Below w.heap.size w w':=by
 have hmf:=Zx;go_enter Tryz.func142,Tryz.ntmps142;go_wp2_with fail
 refine(Qs (t:=true) [1,2,3,4] 3 Xk rfl rfl (by repeat(first|exact Xm _ _ _ _ _ _ _|refine Ql ?_)) Q1 Q1).mono ?_;rintro e w' ⟨rfl,rfl⟩;go_wp2_with fail
 refine(Qs (t:=false) [1] 3 Xk rfl rfl (by repeat(first|exact Xm _ _ _ _ _ _ _|refine Ql ?_)) Q1 Q1).mono ?_;rintro e w' ⟨rfl,rfl⟩;go_wp2_with fail
 go_ret;exact⟨rfl,(by repeat(first|exact Below.refl _ _|(refine Below.alloc ?_ ZP _)))⟩
theorem Q5a(hn0:(n != 0)=false)(hb1:0<nb):
  Calls Tryz.prog 142 #[.agg #[.int .i64 3,.int .i64 n,.slice Ab nb cb,.slice An nn cn,.slice Ap np cp]] w fun e w'=>e=.returned (.int .i64 6)/\Below w.heap.size w w':=by
 have hmf:=Zx;have hb1':(0:Int)<(nb:Int):=by omega
 go_enter Tryz.func142,Tryz.ntmps142;go_wp2_with fail
 refine(Qs (t:=true) [1,2,3,4] 3 Xk rfl rfl (by repeat(first|exact Xm _ _ _ _ _ _ _|refine Ql ?_)) Q1 Q1).mono ?_;rintro e w' ⟨rfl,rfl⟩;go_wp2_with fail
 refine(Qs (t:=false) [2] 3 Xk rfl rfl (by repeat(first|exact Xm _ _ _ _ _ _ _|refine Ql ?_)) Q1 Q1).mono ?_;rintro e w' ⟨rfl,rfl⟩;go_wp2_with fail
 go_ret;exact⟨rfl,(by repeat(first|exact Below.refl _ _|(refine Below.alloc ?_ ZP _)))⟩
theorem Q2F(hn0:(n != 0)=false)(hb0:nb=0)(hs1:0<nn):
  Calls Tryz.prog 142 #[.agg #[.int .i64 3,.int .i64 n,.slice Ab nb cb,.slice An nn cn,.slice Ap np cp]] w fun e w'=>e=.returned (.int .i64 6)/\Below w.heap.size w w':=by
 have hmf:=Zx;subst hb0;have hs1':(0:Int)<(nn:Int):=by omega
 go_enter Tryz.func142,Tryz.ntmps142;go_wp2_with fail
 refine(Qs (t:=true) [1,2,3,4] 3 Xk rfl rfl (by repeat(first|exact Xm _ _ _ _ _ _ _|refine Ql ?_)) Q1 Q1).mono ?_;rintro e w' ⟨rfl,rfl⟩;go_wp2_with fail
 refine(Qs (t:=false) [4] 3 Xk rfl rfl (by repeat(first|exact Xm _ _ _ _ _ _ _|refine Ql ?_)) Q1 Q1).mono ?_;rintro e w' ⟨rfl,rfl⟩;go_wp2_with fail
 go_ret;exact⟨rfl,(by repeat(first|exact Below.refl _ _|(refine Below.alloc ?_ ZP _)))⟩
theorem Q7s(hn1:(n != 0)=true):
  Calls Tryz.prog 142 #[.agg #[.int .i64 4,.int .i64 n,.slice Ab nb cb,.slice An nn cn,.slice Ap np cp]] w fun e w'=>e=.returned (.int .i64 6)/\Below w.heap.size w w':=by
 have hmf:=Zx;go_enter Tryz.func142,Tryz.ntmps142;go_wp2_with fail
 refine(Qs (t:=true) [1,2,3,4] 4 Xk rfl rfl (by repeat(first|exact Xm _ _ _ _ _ _ _|refine Ql ?_)) Q1 Q1).mono ?_;rintro e w' ⟨rfl,rfl⟩;go_wp2_with fail
 refine(Qs (t:=false) [1] 4 Xk rfl rfl (by repeat(first|exact Xm _ _ _ _ _ _ _|refine Ql ?_)) Q1 Q1).mono ?_;rintro e w' ⟨rfl,rfl⟩;go_wp2_with fail
 go_ret;exact⟨rfl,(by repeat(first|exact Below.refl _ _|(refine Below.alloc ?_ ZP _)))⟩
theorem Q5k(hn0:(n != 0)=false)(hb1:0<nb):
  Calls Tryz.prog 142 #[.agg #[.int .i64 4,.int .i64 n,.slice Ab nb cb,.slice An nn cn,.slice Ap np cp]] w fun e w'=>e=.returned (.int .i64 6)/\Below w.heap.size w w':=by
 have hmf:=Zx;have hb1':(0:Int)<(nb:Int):=by omega
 go_enter Tryz.func142,Tryz.ntmps142;go_wp2_with fail
 refine(Qs (t:=true) [1,2,3,4] 4 Xk rfl rfl (by repeat(first|exact Xm _ _ _ _ _ _ _|refine Ql ?_)) Q1 Q1).mono ?_;rintro e w' ⟨rfl,rfl⟩;go_wp2_with fail
 refine(Qs (t:=false) [2] 4 Xk rfl rfl (by repeat(first|exact Xm _ _ _ _ _ _ _|refine Ql ?_)) Q1 Q1).mono ?_;rintro e w' ⟨rfl,rfl⟩;go_wp2_with fail
 go_ret;exact⟨rfl,(by repeat(first|exact Below.refl _ _|(refine Below.alloc ?_ ZP _)))⟩
theorem Q0I(hn0:(n != 0)=false)(hb0:nb=0)(hs1:0<nn)(hp1:0<np)(hne:¬nn=np):
  Calls Tryz.prog 142 #[.agg #[.int .i64 4,.int .i64 n,.slice Ab nb cb,.slice An nn cn,.slice Ap np cp]] w fun e w'=>e=.returned (.int .i64 6)/\Below w.heap.size w w':=by
 have hmf:=Zx;subst hb0;have hs1':(0:Int)<(nn:Int):=by omega
 have hp1':(0:Int)<(np:Int):=by omega
 have hne':((nn:Int) != (np:Int))=true:=by rw[bne_iff_ne];omega
 clear hne;go_enter Tryz.func142,Tryz.ntmps142;go_wp2_with fail
 refine(Qs (t:=true) [1,2,3,4] 4 Xk rfl rfl (by repeat(first|exact Xm _ _ _ _ _ _ _|refine Ql ?_)) Q1 Q1).mono ?_;rintro e w' ⟨rfl,rfl⟩;go_wp2_with fail
 refine(Qs (t:=true) [4] 4 Xk rfl rfl (by repeat(first|exact Xm _ _ _ _ _ _ _|refine Ql ?_)) Q1 Q1).mono ?_;rintro e w' ⟨rfl,rfl⟩;go_wp2_with fail
 refine(Qs (t:=true) [3,4] 4 Xk rfl rfl (by repeat(first|exact Xm _ _ _ _ _ _ _|refine Ql ?_)) Q1 Q1).mono ?_;rintro e w' ⟨rfl,rfl⟩;go_wp2_with fail
 refine(Qs (t:=true) [4] 4 Xk rfl rfl (by repeat(first|exact Xm _ _ _ _ _ _ _|refine Ql ?_)) Q1 Q1).mono ?_;rintro e w' ⟨rfl,rfl⟩;go_wp2_with fail
 go_ret;exact⟨rfl,(by repeat(first|exact Below.refl _ _|(refine Below.alloc ?_ ZP _)))⟩
theorem Q0i(hn0:(n != 0)=false)(hb0:nb=0)(hs1:0<nn)(hp0:np=0)(hne:¬nn=np):
  Calls Tryz.prog 142 #[.agg #[.int .i64 4,.int .i64 n,.slice Ab nb cb,.slice An nn cn,.slice Ap np cp]] w fun e w'=>e=.returned (.int .i64 6)/\Below w.heap.size w w':=by
 have hmf:=Zx;subst hb0;have hs1':(0:Int)<(nn:Int):=by omega
 subst hp0;have hne':((nn:Int) != (0:Int))=true:=by rw[bne_iff_ne];omega
 clear hne;go_enter Tryz.func142,Tryz.ntmps142;go_wp2_with fail
 refine(Qs (t:=true) [1,2,3,4] 4 Xk rfl rfl (by repeat(first|exact Xm _ _ _ _ _ _ _|refine Ql ?_)) Q1 Q1).mono ?_;rintro e w' ⟨rfl,rfl⟩;go_wp2_with fail
 refine(Qs (t:=true) [4] 4 Xk rfl rfl (by repeat(first|exact Xm _ _ _ _ _ _ _|refine Ql ?_)) Q1 Q1).mono ?_;rintro e w' ⟨rfl,rfl⟩;go_wp2_with fail
 refine(Qs (t:=true) [4] 4 Xk rfl rfl (by repeat(first|exact Xm _ _ _ _ _ _ _|refine Ql ?_)) Q1 Q1).mono ?_;rintro e w' ⟨rfl,rfl⟩;go_wp2_with fail
 go_ret;exact⟨rfl,(by repeat(first|exact Below.refl _ _|(refine Below.alloc ?_ ZP _)))⟩
theorem Q0a(hn0:(n != 0)=false)(hb0:nb=0)(hs0:nn=0)(hp1:0<np)(hne:¬nn=np):
  Calls Tryz.prog 142 #[.agg #[.int .i64 4,.int .i64 n,.slice Ab nb cb,.slice An nn cn,.slice Ap np cp]] w fun e w'=>e=.returned (.int .i64 6)/\Below w.heap.size w w':=by
 have hmf:=Zx;subst hb0;subst hs0;have hp1':(0:Int)<(np:Int):=by omega
 have hne':((0:Int) != (np:Int))=true:=by rw[bne_iff_ne];omega
 clear hne;go_enter Tryz.func142,Tryz.ntmps142;go_wp2_with fail
 refine(Qs (t:=true) [1,2,3,4] 4 Xk rfl rfl (by repeat(first|exact Xm _ _ _ _ _ _ _|refine Ql ?_)) Q1 Q1).mono ?_;rintro e w' ⟨rfl,rfl⟩;go_wp2_with fail
 refine(Qs (t:=true) [3,4] 4 Xk rfl rfl (by repeat(first|exact Xm _ _ _ _ _ _ _|refine Ql ?_)) Q1 Q1).mono ?_;rintro e w' ⟨rfl,rfl⟩;go_wp2_with fail
 refine(Qs (t:=true) [4] 4 Xk rfl rfl (by repeat(first|exact Xm _ _ _ _ _ _ _|refine Ql ?_)) Q1 Q1).mono ?_;rintro e w' ⟨rfl,rfl⟩;go_wp2_with fail
 go_ret;exact⟨rfl,(by repeat(first|exact Below.refl _ _|(refine Below.alloc ?_ ZP _)))⟩
end
section
variable {Ab An Ap:Option Addr}{cb cn cp nb nn np:Nat}{n:Int}{ns:List (List UInt8)}{w:World}
theorem Q2q(hr:Rd w w.heap.size 1 An nn (sv ns))(hncap:nn<=cn)(hnn:nn<=9223372036854775807)(hx:Small ns)(hn1:(n != 0)=true)(hb0:nb=0)(hs0:nn=0)(hp0:np=0):
  Calls Tryz.prog 142 #[.agg #[.int .i64 1,.int .i64 n,.slice Ab nb cb,.slice An nn cn,.slice Ap np cp]] w fun e w'=>e=.returned (.int .i64 (V8 ns np))/\Below w.heap.size w w':=by
 have hmf:=Zx;have HL:=Q4B;have HR:=Q3 hr;have HX:=Q3 hx;clear hr hx;have hb0':¬(0:Int)<(nb:Int):=by omega
 have hb0'':¬0<nb:=by omega
 clear hb0;have hs0':¬(0:Int)<(nn:Int):=by omega
 have hs0'':¬0<nn:=by omega
 clear hs0;have hp0':¬(0:Int)<(np:Int):=by omega
 have hp0'':¬0<np:=by omega
 clear hp0;go_enter Tryz.func142,Tryz.ntmps142;go_wp2_with fail
 refine(Qs (t:=true) [1,2,3,4] 1 Xk rfl rfl (by repeat(first|exact Xm _ _ _ _ _ _ _|refine Ql ?_)) Q1 Q1).mono ?_;rintro e w' ⟨rfl,rfl⟩;go_wp2_with fail
 refine(Qs (t:=true) [1] 1 Xk rfl rfl (by repeat(first|exact Xm _ _ _ _ _ _ _|refine Ql ?_)) Q1 Q1).mono ?_;rintro e w' ⟨rfl,rfl⟩;go_wp2_with fail
 refine(Qs (t:=false) [4] 1 Xk rfl rfl (by repeat(first|exact Xm _ _ _ _ _ _ _|refine Ql ?_)) Q1 Q1).mono ?_;rintro e w' ⟨rfl,rfl⟩;have h600:¬600<np:=by omega
 have h600':¬(600:Int)<(np:Int):=by omega
 have HN6:=Q3 h600;go_wp2_with fail
 refine(Xa (xs:=ns) ((HR.out.below (by repeat(first|exact Below.refl _ _|(refine Below.alloc ?_ ZP _)))).more ZR) hnn HX.out).mono ?_;rintro e w2 ⟨rfl,hb2⟩;have HB2:=Q3 (show Below w.heap.size w w2 from XF (by repeat(first|exact Below.refl _ _|(refine Below.alloc ?_ ZP _))) hb2);have hbox:w2.cell? ⟨w.heap.size,3,none⟩=some (.slice An nn cn):=(hb2.cell ZR).trans (by repeat(first|exact Qbe _ _ _ _ _ _ _|refine Ql ?_));clear hb2;by_cases hall:ns.all Qk=true
 ·have HALL:=Q3 hall
  rw[HALL.out];clear hall;go_wp2_with fail
  go_loop [76] (Q0k ns) (fun k=>nn - (intOf k).toNat)
  case atStart=>exact⟨0,Nat.zero_le _,rfl,by simp⟩
  case round=>
   obtain⟨i,hi,rfl,hd⟩:=hrel;rw[HL.out] at hi;have HD:=Q3 hd;clear hd;by_cases hlt:i<nn
   ·omega
   ·have HT:=Q51
    go_wp2_with fail
    exact VB
 ·have HALL:=Q4w
  have HT:=Q52;rw[HALL.out];clear hall;go_wp2_with fail
  exact VB
theorem Q1W(hr:Rd w w.heap.size 1 An nn (sv ns))(hncap:nn<=cn)(hnn:nn<=9223372036854775807)(hx:Small ns)(hn0:(n != 0)=false)(hb0:nb=0)(hs0:nn=0)(hp0:np=0):
  Calls Tryz.prog 142 #[.agg #[.int .i64 1,.int .i64 n,.slice Ab nb cb,.slice An nn cn,.slice Ap np cp]] w fun e w'=>e=.returned (.int .i64 (V8 ns np))/\Below w.heap.size w w':=by
 have hmf:=Zx;have HL:=Q4B;have HR:=Q3 hr;have HX:=Q3 hx;clear hr hx;have hb0':¬(0:Int)<(nb:Int):=by omega
 have hb0'':¬0<nb:=by omega
 clear hb0;have hs0':¬(0:Int)<(nn:Int):=by omega
 have hs0'':¬0<nn:=by omega
 clear hs0;have hp0':¬(0:Int)<(np:Int):=by omega
 have hp0'':¬0<np:=by omega
 clear hp0;go_enter Tryz.func142,Tryz.ntmps142;go_wp2_with fail
 refine(Qs (t:=true) [1,2,3,4] 1 Xk rfl rfl (by repeat(first|exact Xm _ _ _ _ _ _ _|refine Ql ?_)) Q1 Q1).mono ?_;rintro e w' ⟨rfl,rfl⟩;go_wp2_with fail
 refine(Qs (t:=false) [4] 1 Xk rfl rfl (by repeat(first|exact Xm _ _ _ _ _ _ _|refine Ql ?_)) Q1 Q1).mono ?_;rintro e w' ⟨rfl,rfl⟩;have h600:¬600<np:=by omega
 have h600':¬(600:Int)<(np:Int):=by omega
 have HN6:=Q3 h600;go_wp2_with fail
 refine(Xa (xs:=ns) ((HR.out.below (by repeat(first|exact Below.refl _ _|(refine Below.alloc ?_ ZP _)))).more ZR) hnn HX.out).mono ?_;rintro e w2 ⟨rfl,hb2⟩;have HB2:=Q3 (show Below w.heap.size w w2 from XF (by repeat(first|exact Below.refl _ _|(refine Below.alloc ?_ ZP _))) hb2);have hbox:w2.cell? ⟨w.heap.size,3,none⟩=some (.slice An nn cn):=(hb2.cell ZR).trans (by repeat(first|exact Qbe _ _ _ _ _ _ _|refine Ql ?_));clear hb2;by_cases hall:ns.all Qk=true
 ·have HALL:=Q3 hall
  rw[HALL.out];clear hall;go_wp2_with fail
  go_loop [76] (Q0k ns) (fun k=>nn - (intOf k).toNat)
  case atStart=>exact⟨0,Nat.zero_le _,rfl,by simp⟩
  case round=>
   obtain⟨i,hi,rfl,hd⟩:=hrel;rw[HL.out] at hi;have HD:=Q3 hd;clear hd;by_cases hlt:i<nn
   ·omega
   ·have HT:=Q51
    go_wp2_with fail
    exact VB
 ·have HALL:=Q4w
  have HT:=Q52;rw[HALL.out];clear hall;go_wp2_with fail
  exact VB
end
section
variable {Ab An Ap:Option Addr}{cb cn cp nb nn np:Nat}{n:Int}{ns:List (List UInt8)}{w:World}
theorem Q2t(hr:Rd w w.heap.size 1 An nn (sv ns))(hncap:nn<=cn)(hnn:nn<=9223372036854775807)(hx:Small ns)(hn0:(n != 0)=false)(hb1:0<nb)(hs0:nn=0)(hp0:np=0):
  Calls Tryz.prog 142 #[.agg #[.int .i64 2,.int .i64 n,.slice Ab nb cb,.slice An nn cn,.slice Ap np cp]] w fun e w'=>e=.returned (.int .i64 (V8 ns np))/\Below w.heap.size w w':=by
 have hmf:=Zx;have HL:=Q4B;have HR:=Q3 hr;have HX:=Q3 hx;clear hr hx;have hb1':(0:Int)<(nb:Int):=by omega
 have hs0':¬(0:Int)<(nn:Int):=by omega
 have hs0'':¬0<nn:=by omega
 clear hs0;have hp0':¬(0:Int)<(np:Int):=by omega
 have hp0'':¬0<np:=by omega
 clear hp0;go_enter Tryz.func142,Tryz.ntmps142;go_wp2_with fail
 refine(Qs (t:=true) [1,2,3,4] 2 Xk rfl rfl (by repeat(first|exact Xm _ _ _ _ _ _ _|refine Ql ?_)) Q1 Q1).mono ?_;rintro e w' ⟨rfl,rfl⟩;go_wp2_with fail
 refine(Qs (t:=true) [2] 2 Xk rfl rfl (by repeat(first|exact Xm _ _ _ _ _ _ _|refine Ql ?_)) Q1 Q1).mono ?_;rintro e w' ⟨rfl,rfl⟩;go_wp2_with fail
 refine(Qs (t:=false) [4] 2 Xk rfl rfl (by repeat(first|exact Xm _ _ _ _ _ _ _|refine Ql ?_)) Q1 Q1).mono ?_;rintro e w' ⟨rfl,rfl⟩;have h600:¬600<np:=by omega
 have h600':¬(600:Int)<(np:Int):=by omega
 have HN6:=Q3 h600;go_wp2_with fail
 refine(Xa (xs:=ns) ((HR.out.below (by repeat(first|exact Below.refl _ _|(refine Below.alloc ?_ ZP _)))).more ZR) hnn HX.out).mono ?_;rintro e w2 ⟨rfl,hb2⟩;have HB2:=Q3 (show Below w.heap.size w w2 from XF (by repeat(first|exact Below.refl _ _|(refine Below.alloc ?_ ZP _))) hb2);have hbox:w2.cell? ⟨w.heap.size,3,none⟩=some (.slice An nn cn):=(hb2.cell ZR).trans (by repeat(first|exact Qbe _ _ _ _ _ _ _|refine Ql ?_));clear hb2;by_cases hall:ns.all Qk=true
 ·have HALL:=Q3 hall
  rw[HALL.out];clear hall;go_wp2_with fail
  go_loop [76] (Q0k ns) (fun k=>nn - (intOf k).toNat)
  case atStart=>exact⟨0,Nat.zero_le _,rfl,by simp⟩
  case round=>
   obtain⟨i,hi,rfl,hd⟩:=hrel;rw[HL.out] at hi;have HD:=Q3 hd;clear hd;by_cases hlt:i<nn
   ·omega
   ·have HT:=Q51
    go_wp2_with fail
    exact VB
 ·have HALL:=Q4w
  have HT:=Q52;rw[HALL.out];clear hall;go_wp2_with fail
  exact VB
theorem Q1V(hr:Rd w w.heap.size 1 An nn (sv ns))(hncap:nn<=cn)(hnn:nn<=9223372036854775807)(hx:Small ns)(hn0:(n != 0)=false)(hb0:nb=0)(hs0:nn=0)(hp0:np=0):
  Calls Tryz.prog 142 #[.agg #[.int .i64 2,.int .i64 n,.slice Ab nb cb,.slice An nn cn,.slice Ap np cp]] w fun e w'=>e=.returned (.int .i64 (V8 ns np))/\Below w.heap.size w w':=by
 have hmf:=Zx;have HL:=Q4B;have HR:=Q3 hr;have HX:=Q3 hx;clear hr hx;have hb0':¬(0:Int)<(nb:Int):=by omega
 have hb0'':¬0<nb:=by omega
 clear hb0;have hs0':¬(0:Int)<(nn:Int):=by omega
 have hs0'':¬0<nn:=by omega
 clear hs0;have hp0':¬(0:Int)<(np:Int):=by omega
 have hp0'':¬0<np:=by omega
 clear hp0;go_enter Tryz.func142,Tryz.ntmps142;go_wp2_with fail
 refine(Qs (t:=true) [1,2,3,4] 2 Xk rfl rfl (by repeat(first|exact Xm _ _ _ _ _ _ _|refine Ql ?_)) Q1 Q1).mono ?_;rintro e w' ⟨rfl,rfl⟩;go_wp2_with fail
 refine(Qs (t:=false) [4] 2 Xk rfl rfl (by repeat(first|exact Xm _ _ _ _ _ _ _|refine Ql ?_)) Q1 Q1).mono ?_;rintro e w' ⟨rfl,rfl⟩;have h600:¬600<np:=by omega
 have h600':¬(600:Int)<(np:Int):=by omega
 have HN6:=Q3 h600;go_wp2_with fail
 refine(Xa (xs:=ns) ((HR.out.below (by repeat(first|exact Below.refl _ _|(refine Below.alloc ?_ ZP _)))).more ZR) hnn HX.out).mono ?_;rintro e w2 ⟨rfl,hb2⟩;have HB2:=Q3 (show Below w.heap.size w w2 from XF (by repeat(first|exact Below.refl _ _|(refine Below.alloc ?_ ZP _))) hb2);have hbox:w2.cell? ⟨w.heap.size,3,none⟩=some (.slice An nn cn):=(hb2.cell ZR).trans (by repeat(first|exact Qbe _ _ _ _ _ _ _|refine Ql ?_));clear hb2;by_cases hall:ns.all Qk=true
 ·have HALL:=Q3 hall
  rw[HALL.out];clear hall;go_wp2_with fail
  go_loop [76] (Q0k ns) (fun k=>nn - (intOf k).toNat)
  case atStart=>exact⟨0,Nat.zero_le _,rfl,by simp⟩
  case round=>
   obtain⟨i,hi,rfl,hd⟩:=hrel;rw[HL.out] at hi;have HD:=Q3 hd;clear hd;by_cases hlt:i<nn
   ·omega
   ·have HT:=Q51
    go_wp2_with fail
    exact VB
 ·have HALL:=Q4w
  have HT:=Q52;rw[HALL.out];clear hall;go_wp2_with fail
  exact VB
end
section
variable {Ab An Ap:Option Addr}{cb cn cp nb nn np:Nat}{n:Int}{ns:List (List UInt8)}{w:World}
theorem Q25(hr:Rd w w.heap.size 1 An nn (sv ns))(hncap:nn<=cn)(hnn:nn<=9223372036854775807)(hx:Small ns)(hn0:(n != 0)=false)(hb0:nb=0)(hs0:nn=0)(hp1:0<np):
  Calls Tryz.prog 142 #[.agg #[.int .i64 3,.int .i64 n,.slice Ab nb cb,.slice An nn cn,.slice Ap np cp]] w fun e w'=>e=.returned (.int .i64 (V8 ns np))/\Below w.heap.size w w':=by
 have hmf:=Zx;have HL:=Q4B;have HR:=Q3 hr;have HX:=Q3 hx;clear hr hx;have hb0':¬(0:Int)<(nb:Int):=by omega
 have hb0'':¬0<nb:=by omega
 clear hb0;have hs0':¬(0:Int)<(nn:Int):=by omega
 have hs0'':¬0<nn:=by omega
 clear hs0;have hp1':(0:Int)<(np:Int):=by omega
 go_enter Tryz.func142,Tryz.ntmps142;go_wp2_with fail
 refine(Qs (t:=true) [1,2,3,4] 3 Xk rfl rfl (by repeat(first|exact Xm _ _ _ _ _ _ _|refine Ql ?_)) Q1 Q1).mono ?_;rintro e w' ⟨rfl,rfl⟩;go_wp2_with fail
 refine(Qs (t:=true) [3,4] 3 Xk rfl rfl (by repeat(first|exact Xm _ _ _ _ _ _ _|refine Ql ?_)) Q1 Q1).mono ?_;rintro e w' ⟨rfl,rfl⟩;go_wp2_with fail
 refine(Qs (t:=false) [4] 3 Xk rfl rfl (by repeat(first|exact Xm _ _ _ _ _ _ _|refine Ql ?_)) Q1 Q1).mono ?_;rintro e w' ⟨rfl,rfl⟩;by_cases h600:600<np
 ·have HT:=Q3 (Q9N (ns:=ns) h600)
  have h600':(600:Int)<(np:Int):=by omega
  go_wp2_with fail
  go_ret;exact⟨by rw[HT.out];rfl,(by repeat(first|exact Below.refl _ _|(refine Below.alloc ?_ ZP _)))⟩
 ·have h600':¬(600:Int)<(np:Int):=by omega
  have HN6:=Q3 h600;go_wp2_with fail
  refine(Xa (xs:=ns) ((HR.out.below (by repeat(first|exact Below.refl _ _|(refine Below.alloc ?_ ZP _)))).more ZR) hnn HX.out).mono ?_;rintro e w2 ⟨rfl,hb2⟩;have HB2:=Q3 (show Below w.heap.size w w2 from XF (by repeat(first|exact Below.refl _ _|(refine Below.alloc ?_ ZP _))) hb2);have hbox:w2.cell? ⟨w.heap.size,3,none⟩=some (.slice An nn cn):=(hb2.cell ZR).trans (by repeat(first|exact Qbe _ _ _ _ _ _ _|refine Ql ?_));clear hb2;by_cases hall:ns.all Qk=true
  ·have HALL:=Q3 hall
   rw[HALL.out];clear hall;go_wp2_with fail
   go_loop [76] (Q0k ns) (fun k=>nn - (intOf k).toNat)
   case atStart=>exact⟨0,Nat.zero_le _,rfl,by simp⟩
   case round=>
    obtain⟨i,hi,rfl,hd⟩:=hrel;rw[HL.out] at hi;have HD:=Q3 hd;clear hd;by_cases hlt:i<nn
    ·omega
    ·have HT:=Q51
     go_wp2_with fail
     exact VB
  ·have HALL:=Q4w
   have HT:=Q52;rw[HALL.out];clear hall;go_wp2_with fail
   exact VB
theorem Q2n(hr:Rd w w.heap.size 1 An nn (sv ns))(hncap:nn<=cn)(hnn:nn<=9223372036854775807)(hx:Small ns)(hn0:(n != 0)=false)(hb0:nb=0)(hs0:nn=0)(hp0:np=0):
  Calls Tryz.prog 142 #[.agg #[.int .i64 3,.int .i64 n,.slice Ab nb cb,.slice An nn cn,.slice Ap np cp]] w fun e w'=>e=.returned (.int .i64 (V8 ns np))/\Below w.heap.size w w':=by
 have hmf:=Zx;have HL:=Q4B;have HR:=Q3 hr;have HX:=Q3 hx;clear hr hx;have hb0':¬(0:Int)<(nb:Int):=by omega
 have hb0'':¬0<nb:=by omega
 clear hb0;have hs0':¬(0:Int)<(nn:Int):=by omega
 have hs0'':¬0<nn:=by omega
 clear hs0;have hp0':¬(0:Int)<(np:Int):=by omega
 have hp0'':¬0<np:=by omega
 clear hp0;go_enter Tryz.func142,Tryz.ntmps142;go_wp2_with fail
 refine(Qs (t:=true) [1,2,3,4] 3 Xk rfl rfl (by repeat(first|exact Xm _ _ _ _ _ _ _|refine Ql ?_)) Q1 Q1).mono ?_;rintro e w' ⟨rfl,rfl⟩;go_wp2_with fail
 refine(Qs (t:=false) [4] 3 Xk rfl rfl (by repeat(first|exact Xm _ _ _ _ _ _ _|refine Ql ?_)) Q1 Q1).mono ?_;rintro e w' ⟨rfl,rfl⟩;have h600:¬600<np:=by omega
 have h600':¬(600:Int)<(np:Int):=by omega
 have HN6:=Q3 h600;go_wp2_with fail
 refine(Xa (xs:=ns) ((HR.out.below (by repeat(first|exact Below.refl _ _|(refine Below.alloc ?_ ZP _)))).more ZR) hnn HX.out).mono ?_;rintro e w2 ⟨rfl,hb2⟩;have HB2:=Q3 (show Below w.heap.size w w2 from XF (by repeat(first|exact Below.refl _ _|(refine Below.alloc ?_ ZP _))) hb2);have hbox:w2.cell? ⟨w.heap.size,3,none⟩=some (.slice An nn cn):=(hb2.cell ZR).trans (by repeat(first|exact Qbe _ _ _ _ _ _ _|refine Ql ?_));clear hb2;by_cases hall:ns.all Qk=true
 ·have HALL:=Q3 hall
  rw[HALL.out];clear hall;go_wp2_with fail
  go_loop [76] (Q0k ns) (fun k=>nn - (intOf k).toNat)
  case atStart=>exact⟨0,Nat.zero_le _,rfl,by simp⟩
  case round=>
   obtain⟨i,hi,rfl,hd⟩:=hrel;rw[HL.out] at hi;have HD:=Q3 hd;clear hd;by_cases hlt:i<nn
   ·omega
   ·have HT:=Q51
    go_wp2_with fail
    exact VB
 ·have HALL:=Q4w
  have HT:=Q52;rw[HALL.out];clear hall;go_wp2_with fail
  exact VB
end
end Go.Proofs.YtphkhfdmlcnoeaaGreatDoor
