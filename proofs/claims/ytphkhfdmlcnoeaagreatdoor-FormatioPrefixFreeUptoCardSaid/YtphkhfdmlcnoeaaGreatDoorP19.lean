import Derived.Test.YtphkhfdmlcnoeaaGreatDoorP17
namespace Go.Proofs.YtphkhfdmlcnoeaaGreatDoor
set_option linter.unusedVariables false
set_option linter.unusedSimpArgs false
def leW:Nat→Int→List UInt8
 |0,_=>[]
 |k+1,n=>UInt8.ofNat (n % 256).toNat::leW k (n / 256)
def JX(big:Bool)(k:Nat)(n:Int):List UInt8:=if big then (leW k n).reverse else leW k n
def Zk(r:Rl):UInt8:=UInt8.ofNat (r.stop % 256).toNat
def VN(r:Rl)(n:Int):List UInt8:=if r.kind=3 then Lib.itoa n++[Zk r] else JX r.big r.size.toNat n
theorem Q1r:∀(k:Nat) (n:Int),(leW k n).length=k
 |0,n=>rfl
 |k+1,n=>by show (leW k _).length+1=_;rw[Q1r k]
theorem Q0c(b:Bool)(k:Nat)(n:Int):(JX b k n).length=k:=by
 unfold JX
 split
 ·rw[List.length_reverse,Q1r]
 ·exact Q1r k n
theorem Q8B:∀l:List UInt8,0≤leN l
 |[]=>Int.le_refl _
 |c::l=>by have:=Q8B l;unfold leN;omega
theorem Q86:∀l:List UInt8,leN l<256 ^ l.length
 |[]=>by decide
 |c::l=>by
  have:=Q86 l;have hc:=c.toNat_lt
  unfold leN
  rw[List.length_cons,Int.pow_succ]
  omega
theorem QaE:∀(k:Nat) (n:Int),0≤n→n<256 ^ k→leN (leW k n)=n
 |0,n,h0,h1=>by
  have:n=0:=by simp at h1;omega
  rw[this];rfl
 |k+1,n,h0,h1=>by
  unfold leW leN
  rw[Int.pow_succ] at h1;rw[QaE k (n / 256) (by omega) (by omega)]
  have:(UInt8.ofNat (n % 256).toNat).toNat=(n % 256).toNat:=by
   rw[UInt8.toNat_ofNat'];exact Nat.mod_eq_of_lt (by omega)
  rw[this]
  omega
theorem Qbb:∀l:List UInt8,leW l.length (leN l)=l
 |[]=>rfl
 |c::l=>by
  have hc:=c.toNat_lt;have h0:=Q8B l
  show leW (l.length+1) _=_
  unfold leW leN
  have h1:((c.toNat:Int)+256*leN l) % 256=(c.toNat:Int):=by omega
  have h2:((c.toNat:Int)+256*leN l) / 256=leN l:=by omega
  rw[h1,h2,Qbb l]
  simp
theorem Q1u(b:Bool)(l:List UInt8):0≤QR b l:=by unfold QR;split<;>exact Q8B _
theorem QaF(b:Bool)(k:Nat){n:Int}(h0:0≤n)(h1:n<256 ^ k):QR b (JX b k n)=n:=by
 unfold QR JX
 split
 ·rw[List.reverse_reverse];exact QaE k n h0 h1
 ·exact QaE k n h0 h1
theorem Qct(b:Bool)(l:List UInt8):JX b l.length (QR b l)=l:=by
 unfold QR JX
 split
 ·have:=Qbb l.reverse;rw[List.length_reverse] at this;rw[this,List.reverse_reverse]
 ·exact Qbb l
theorem Q5k:∀(x:List UInt8) (n:Nat),n≤JW n x
 |[],n=>Nat.le_refl _
 |c::r,n=>Nat.le_trans (by omega) (Q5k r (10*n+(c.toNat - 48)))
theorem Yw{r:Rl}{c:UInt8}(h:(c.toNat:Int)=r.stop):Zk r=c:=by
 unfold Zk
 have:=c.toNat_lt;rw[← h,show (c.toNat:Int) % 256=c.toNat by omega]
 simp
theorem KJ{r:Rl}(h:0≤r.stop∧r.stop≤255):((Zk r).toNat:Int)=r.stop:=by
 unfold Zk
 rw[UInt8.toNat_ofNat',Nat.mod_eq_of_lt (by omega)]
 omega
theorem Q1j{c:UInt8}:Q6l c=true↔48≤c.toNat∧c.toNat≤57:=by unfold Q6l;simp
theorem Q2T{stop mx:Int}:∀{l:List UInt8} {n p:Nat} {m:Int} {q:Nat},ZN stop mx l true (n:Int) p=some (.ok (m,q))→∃x c rest,l=x++c::rest∧x.all Q6l=true∧m=(JW n x:Nat)∧q=p+x.length+1∧(c.toNat:Int)=stop∧(n=0→x=[])∧((n:Int)≤mx→m≤mx)
 |[],n,p,m,q,h=>(Xa h).elim
 |c::l,n,p,m,q,h=>by
  unfold ZN at h
  split at h
  ·next hs=>
   have:=Qv h
   injection this with h1 h2
   simp only[Bool.true_and,decide_eq_true_eq] at hs
   exact⟨[],c,l,rfl,rfl,h1.symm,h2.symm,hs,fun _=>rfl,fun h=>by omega⟩
  split at h
  ·exact(Xa h).elim
  ·next hs hd=>
   simp only[Bool.true_and,Bool.or_eq_true,Bool.not_eq_true',decide_eq_false_iff_not,decide_eq_true_eq,not_or,Decidable.not_not] at hd
   have e:(10*(n:Int)+((c.toNat:Int) - 48))=((10*n+(c.toNat - 48):Nat):Int):=by omega
   rw[e] at h;obtain⟨x,c',rest,hl,ha,hm,hq,hc,hz,hb⟩:=Q2T h;refine⟨c::x,c',rest,by rw[hl];rfl,?_,hm,?_,hc,fun h0=>absurd h0 (by omega),fun _=>hb (by omega)⟩
   ·rw[List.all_cons,ha,Q1j.2 hd.1.1];rfl
   ·rw[List.length_cons];omega
theorem Q4L{stop mx:Int}{l:List UInt8}{p:Nat}{m:Int}{q:Nat}(h:ZN stop mx l false 0 p=some (.ok (m,q))):∃c rest,l=Lib.itoa m++c::rest∧q=p+(Lib.itoa m).length+1∧(c.toNat:Int)=stop∧0≤m∧m≤mx∧∃d,(Lib.itoa m).head? =some d∧48≤d.toNat∧d.toNat≤57∧(d.toNat:Int) - 48≤mx:=by
 cases l with
 |nil=>exact(Xa h).elim
 |cons c l=>
  unfold ZN at h
  rw[if_neg (by simp)] at h
  split at h
  ·exact(Xa h).elim
  ·next hd=>
   simp only[Bool.false_and,Bool.or_false,Bool.or_eq_true,Bool.not_eq_true',decide_eq_false_iff_not,decide_eq_true_eq,not_or,Decidable.not_not] at hd
   have e:(10*(0:Int)+((c.toNat:Int) - 48))=((c.toNat - 48:Nat):Int):=by omega
   rw[e] at h;obtain⟨x,c',rest,hl,ha,hm,hq,hc,hz,hb⟩:=Q2T h
   have hx:(c::x).all Q6l=true:=by rw[List.all_cons,ha,Q1j.2 hd.1];rfl
   have hv:JW 0 (c::x)=JW (c.toNat - 48) x:=by show JW (10*0+_) x=_;rw[Nat.mul_zero,Nat.zero_add]
   have hdec:Lib.itoa m=c::x:=by
    rw[KN (by omega),hm,Int.toNat_natCast,← hv]
    refine Q61 x.length (c::x) rfl hx fun h1 h2=>?_
    have hc48:c=48:=by simpa using h2
    subst hc48;have:=hz rfl;rw[this] at h1
    simp at h1
   refine⟨c',rest,by rw[hdec,hl];rfl,by rw[hdec,List.length_cons];omega,hc,by omega,hb (by omega),c,by rw[hdec];rfl,hd.1.1,hd.1.2,by omega⟩
theorem Yy{stop mx:Int}{c:UInt8}{rest:List UInt8}(hc:(c.toNat:Int)=stop)(hs:¬(48≤stop∧stop≤57)):∀{x:List UInt8} {n p:Nat},x.all Q6l=true→(JW n x:Int)≤mx→(n=0→x=[])→ZN stop mx (x++c::rest) true (n:Int) p=some (.ok ((JW n x:Nat),p+x.length+1))
 |[],n,p,ha,hm,h0=>by
  show ZN stop mx (c::rest) true n p=_
  unfold ZN
  rw[if_pos (by simp [hc])]
  rfl
 |d::x,n,p,ha,hm,h0=>by
  rw[List.all_cons,Bool.and_eq_true,Q1j] at ha;have hv:JW n (d::x)=JW (10*n+(d.toNat - 48)) x:=rfl;rw[hv] at hm ⊢;have hge:=Q5k x (10*n+(d.toNat - 48))
  have hn:n≠0:=fun e=>by cases h0 e
  show ZN stop mx (d::(x++c::rest)) true n p=_
  unfold ZN
  rw[if_neg (by simp;omega),if_neg (by simp;omega)]
  have e:(10*(n:Int)+((d.toNat:Int) - 48))=((10*n+(d.toNat - 48):Nat):Int):=by omega
  rw[e,Yy hc hs ha.2 hm (fun e=>by omega),List.length_cons]
  congr 3
  omega
theorem Q8n{stop mx n:Int}{c:UInt8}{rest:List UInt8}{p:Nat}(hc:(c.toNat:Int)=stop)(hs:¬(48≤stop∧stop≤57))(h0:0≤n)(h1:n≤mx)(hu:n≤9999999999):ZN stop mx (Lib.itoa n++c::rest) false 0 p=some (.ok (n,p+(Lib.itoa n).length+1)):=by
 obtain⟨u,rfl⟩:∃u:Nat,n=(u:Int):=⟨n.toNat,by omega⟩
 have hB:Qab (Lib.itoa (u:Int))=true:=by
  have h1:=Q4H (v:=(u:Int)) (by omega) hu;rw[QdP] at h1
  split at h1
  ·assumption
  ·cases h1
 have hval:JW 0 (Lib.itoa (u:Int))=u:=by rw[KN (by omega),Int.toNat_natCast];exact Qbx u
 obtain⟨x,hx⟩:∃x,Lib.itoa (u:Int)=x:=⟨_,rfl⟩;rw[hx] at hB hval ⊢
 unfold Qab at hB
 simp only[Bool.and_eq_true,decide_eq_true_eq,Bool.not_eq_true',Bool.and_eq_false_iff,decide_eq_false_iff_not,beq_eq_false_iff_ne] at hB
 obtain⟨⟨⟨hl,_⟩,hz⟩,ha⟩:=hB
 cases x with
 |nil=>simp at hl
 |cons d x=>
  rw[List.all_cons,Bool.and_eq_true,Q1j] at ha
  have hv:JW 0 (d::x)=JW (d.toNat - 48) x:=by show JW (10*0+_) x=_;rw[Nat.mul_zero,Nat.zero_add]
  rw[hv] at hval;have hge:=Q5k x (d.toNat - 48)
  show ZN stop mx (d::(x++c::rest)) false 0 p=_
  unfold ZN
  rw[if_neg (by simp),if_neg (by simp;omega)]
  have e:(10*(0:Int)+((d.toNat:Int) - 48))=((d.toNat - 48:Nat):Int):=by omega
  rw[e,Yy hc hs ha.2 (by omega) (fun e=>?_),hval,List.length_cons]
  ·congr 3
   omega
  ·have hd:d=48:=by
    have:d.toNat=48:=by omega
    exact UInt8.toNat_inj.1 this
   subst hd
   cases x with
   |nil=>rfl
   |cons _ _=>simp at hz
section
variable {r:Rl}{D:List UInt8}{p q:Nat}{n:Int}
def seg(D:List UInt8)(p q:Nat):List UInt8:=(D.drop p).take (q - p)
theorem KG{a b c:Nat}(h1:a≤b)(h2:b≤c):seg D a b++seg D b c=seg D a c:=by
 unfold seg
 obtain⟨i,rfl⟩:∃i,b=a+i:=⟨b - a,by omega⟩;obtain⟨j,rfl⟩:∃j,c=a+i+j:=⟨c - (a+i),by omega⟩;rw[show a+i - a=i by omega,show a+i+j - (a+i)=j by omega,show a+i+j - a=i+j by omega,← List.drop_drop,List.take_add]
theorem Q6j(D:List UInt8)(p:Nat):seg D p p=[]:=by unfold seg;rw[Nat.sub_self,List.take_zero]
theorem QcQ{c:UInt8}(h:D[p]? =some c):seg D p (p+1)=[c]:=by
 unfold seg
 obtain⟨hl,hc⟩:=List.getElem?_eq_some_iff.1 h;rw[show p+1 - p=1 by omega,List.drop_eq_getElem_cons hl,hc]
 rfl
theorem Q7Z{x rest:List UInt8}(h:D.drop p=x++rest):seg D p (p+x.length)=x:=by
 unfold seg
 rw[h,show p+x.length - p=x.length by omega,List.take_left]
theorem Yg(hr:QdQ r)(hp:p≤D.length)(h:JV r D p=some (.ok (n,q))):VN r n=seg D p q∧(r.kind=3→0≤n∧n≤r.mx)∧(r.kind≠3→r.mn≤n∧n≤r.mx)∧0≤n:=by
 have hfar:=Zl hr hp h
 unfold JV at h
 unfold VN
 split at h
 ·next h3=>
  obtain⟨c,rest,hl,hq,hc,h0,h1,_⟩:=Q4L h;rw[if_pos h3,Yw hc];refine⟨?_,fun _=>⟨h0,h1⟩,fun h=>absurd h3 h,h0⟩;have:=Q7Z (D:=D) (p:=p) (x:=Lib.itoa n++[c]) (rest:=rest) (by rw[hl];simp);rw[← this]
  congr 1
  rw[List.length_append,hq]
  rfl
 ·next h3=>
  obtain⟨y,hy,hg⟩:=Qy h;obtain⟨rfl,hn⟩:=Zn hy
  split at hg
  ·exact(Xa hg).elim
  ·next hb=>
   have:=Qv hg
   injection this with h1 h2
   simp only at h1 h2 hb
   rw[if_neg h3,← h1]
   have hl:((D.drop p).take r.size.toNat).length=r.size.toNat:=by rw[List.length_take,List.length_drop];omega
   refine⟨?_,fun h=>absurd h h3,fun _=>by omega,Q1u _ _⟩;have:=Qct r.big ((D.drop p).take r.size.toNat);rw[hl] at this;rw[this,← h2]
   unfold seg
   congr 1
   omega
structure J6(r:Rl):Prop where
 kind:r.kind=2∨r.kind=3
 num:r.kind=2→1≤r.size∧r.size≤4∧0≤r.mn∧r.mn≤r.mx∧r.mx<256 ^ r.size.toNat
 dec:r.kind=3→0≤r.mx∧r.mx≤999999999∧¬(48≤r.stop∧r.stop≤57)
 stop:r.kind=3→0≤r.stop∧r.stop≤255
 mn3:r.kind=3→r.mn=0
theorem J6.numK(h:J6 r):QdQ r:=by
 rcases h.kind with h2|h3
 ·exact .inr ⟨h2,(h.num h2).1⟩
 ·exact .inl h3
theorem J6.of{m:Nat}(h:ROk m r)(hk:r.kind=2∨r.kind=3):J6 r:=by
 refine⟨hk,h.num,h.dec,fun h3=>h.stop (.inl h3),fun h3=>?_⟩;have hf:=h.formed
 unfold Vd at hf
 simp only[Bool.and_eq_true,Bool.or_eq_true,beq_iff_eq] at hf
 have:=hf.1.1.1.1.1.2
 rcases this with h|h
 ·exact h.2
 ·omega
def Ju(r:Rl)(n:Int):Bool:=decide (r.mn≤n)&&decide (n≤r.mx)
theorem Q12:Ju r n=true↔r.mn≤n∧n≤r.mx:=by unfold Ju;simp
theorem Q3h(hr:J6 r)(hp:p≤D.length)(h:JV r D p=some (.ok (n,q))):Ju r n=true:=by
 obtain⟨_,h3,h2,h0⟩:=Yg hr.numK hp h;rw[Q12]
 by_cases hk:r.kind=3
 ·have:=h3 hk;have:=hr.mn3 hk
  omega
 ·exact h2 hk
theorem Q0k(hr:J6 r)(hn:Ju r n=true){rest:List UInt8}(hD:D.drop p=VN r n++rest):JV r D p=some (.ok (n,p+(VN r n).length)):=by
 rw[Q12] at hn
 unfold JV
 unfold VN at hD ⊢
 split
 ·next h3=>
  have hd:=hr.dec h3;have hs:=hr.stop h3;have hm:=hr.mn3 h3;rw[if_pos h3] at hD;rw[hD,List.append_assoc];rw[show [Zk r]++rest=Zk r::rest from rfl,Q8n (KJ hs) hd.2.2 (by omega) (by omega) (by omega),List.length_append]
  rfl
 ·next h3=>
  have h2:=hr.kind.resolve_right h3;have hz:=hr.num h2;rw[if_neg h3] at hD;have hl:=Q0c r.big r.size.toNat n
  have hDl:r.size.toNat≤(D.drop p).length:=by rw[hD,List.length_append,hl];omega
  rw[List.length_drop] at hDl
  have ht:ZQ D p r.size=some (.ok (JX r.big r.size.toNat n,p+r.size.toNat)):=by
   unfold ZQ
   rw[if_neg (by omega),hD];have:=List.take_left (l₁:=JX r.big r.size.toNat n) (l₂:=rest);rw[hl] at this;rw[this]
   rfl
  rw[Xl ht,QaF r.big _ (by omega) (by omega),if_neg (by omega),hl]
  rfl
end
def VF.hdN:VF→Nd
 |.cons d _ _=>d
 |.nil=>⟨0,0,[],[]⟩
def QZ(ns:List (List UInt8)):List (List UInt8):=ns.filter fun s=>s != []
def X8(F:List Rl)(r:Rl)(d:Nd)(p:VF):Bool:=
 if r.kind=1 then d.k==3&&p.len==0
 else if r.kind=2∨r.kind=3 then d.k==1&&Ju r d.n
 else if r.kind=4 then d.k==2&&decide ((d.bs.length:Int)=r.size)
 else if r.kind=10 then d.k==2&&Ju (Qd F r.count) (d.bs.length:Int)
 else if r.kind=5 then d.k==2&&decide ((d.bs.length:Int)≤r.size)&&!(d.bs.contains (Zk r))
 else if r.kind=6 then d.k==3&&Ju (Qd F r.count) (p.len:Int)
 else if r.kind=9 then d.k==3
 else if r.kind=8 then d.k==3&&p.len==2&&p.hdN.k==1&&decide (0≤p.hdN.n)&&decide (p.hdN.n<(r.parts.length:Int))
 else d.k==4&&d.ns==QZ r.names
def Xy(F:List Rl)(r:Rl)(d:Nd)(p:VF):List UInt8:=
 if r.kind=1 then r.bs
 else if r.kind=2∨r.kind=3 then VN r d.n
 else if r.kind=4 then d.bs
 else if r.kind=10 then VN (Qd F r.count) (d.bs.length:Int)++d.bs
 else if r.kind=5 then d.bs++[Zk r]
 else if r.kind=6 then VN (Qd F r.count) (p.len:Int)
 else []
def V0(F:List Rl):List (List UInt8)→List Int→List UInt8→List (List UInt8×Option Int)×List UInt8
 |nm::nms,k::ks,acc=>if nm=[] then V0 F nms ks (acc++(Qd F k).bs) else ((acc,some k)::(V0 F nms ks []).1,(V0 F nms ks []).2)
 |_,_,acc=>([],acc)
def Za(F:List Rl)(r:Rl)(p:VF):List (List UInt8×Option Int):=
 if r.kind=6∨r.kind=9 then List.replicate p.len ([],some r.elem)
 else if r.kind=8 then [([],none),([],some (r.parts.getD p.hdN.n.toNat 0))]
 else if r.kind=7 then (V0 F r.names r.parts []).1
 else []
def Vw(F:List Rl)(r:Rl):List UInt8:=if r.kind=9 then [Zk r] else if r.kind=7 then (V0 F r.names r.parts []).2 else []
def X7(F:List Rl):VF→List (List UInt8×Option Int)→List UInt8→Nat→Except Nat (List UInt8×Nat)
 |.cons d p r,(pre,some k)::ps,suf,n=>
  if X8 F (Qd F k) d p=true then
   match X7 F p (Za F (Qd F k) p) (Vw F (Qd F k)) (n+1) with
   |.error e=>.error e
   |.ok (b,m)=>match X7 F r ps suf m with
    |.error e=>.error e
    |.ok (b',m')=>.ok (pre++(Xy F (Qd F k) d p++b)++b',m')
  else .error n
 |.cons d p r,(pre,none)::ps,suf,n=>match X7 F r ps suf (n+1) with
  |.error e=>.error e
  |.ok (b',m')=>.ok (pre++b',m')
 |.cons d p r,[],suf,n=>.ok (suf,n)
 |.nil,ps,suf,n=>.ok (suf,n)
def WrL(F:List Rl)(l:VF)(ps:List (List UInt8×Option Int))(suf b:List UInt8):Prop:=∀n,∃m,X7 F l ps suf n=.ok (b,m)
def Wr(F:List Rl)(k:Int)(d:Nd)(p:VF)(b:List UInt8):Prop:=X8 F (Qd F k) d p=true∧∃b',b=Xy F (Qd F k) d p++b'∧WrL F p (Za F (Qd F k) p) (Vw F (Qd F k)) b'
section
variable {F:List Rl}{D:List UInt8}{suf b b' pre:List UInt8}{ps:List (List UInt8×Option Int)}{d:Nd}{p r:VF}{k:Int}
theorem WrL.nil:WrL F .nil ps suf suf:=fun n=>⟨n,by unfold X7;rfl⟩
theorem WrL.cons(h:Wr F k d p b)(h':WrL F r ps suf b'):WrL F (.cons d p r) ((pre,some k)::ps) suf (pre++b++b'):=fun n=>by
 obtain⟨hf,b1,rfl,hw⟩:=h;obtain⟨m,hm⟩:=hw (n+1);obtain⟨m',hm'⟩:=h' m;refine⟨m',?_⟩
 unfold X7
 rw[if_pos hf,hm]
 simp only
 rw[hm']
theorem WrL.skip(h':WrL F r ps suf b'):WrL F (.cons d p r) ((pre,none)::ps) suf (pre++b'):=fun n=>by
 obtain⟨m',hm'⟩:=h' (n+1);refine⟨m',?_⟩
 unfold X7
 rw[hm']
theorem Wr.leaf(hf:X8 F (Qd F k) d p=true)(hp:p=.nil)(ht:Vw F (Qd F k)=[])(hb:b=Xy F (Qd F k) d p):Wr F k d p b:=by
 subst hp;refine⟨hf,[],by rw[hb,List.append_nil],?_⟩;rw[ht];exact WrL.nil
theorem Q4K{stop size:Int}:∀{l:List UInt8} {k p q:Nat},Jd stop size l k p=some (.ok q)→∃x c rest,l=x++c::rest∧q=p+x.length∧(c.toNat:Int)=stop∧(∀y∈x,(y.toNat:Int)≠stop)∧((k:Int)≤size→(k:Int)+x.length≤size)
 |[],_,p,q,h=>(Xa h).elim
 |c::l,k,p,q,h=>by
  unfold Jd at h
  split at h
  ·next hc=>
   have:=Qv h;exact⟨[],c,l,rfl,by simp [this],hc,by simp,fun h=>by simpa using h⟩
  split at h
  ·exact(Xa h).elim
  ·next hc hs=>
   obtain⟨x,c',rest,hl,hq,hc',hx,hz⟩:=Q4K h;refine⟨c::x,c',rest,by rw[hl];rfl,by rw[List.length_cons];omega,hc',fun y hy=>?_,fun h=>?_⟩
   ·rcases List.mem_cons.1 hy with rfl|hy
    ·exact hc
    ·exact hx y hy
   ·rw[List.length_cons];have:=hz (by omega)
    omega
theorem Q2S{stop size:Int}{c:UInt8}{rest:List UInt8}(hc:(c.toNat:Int)=stop):∀{x:List UInt8} {k p:Nat},(∀y∈x,(y.toNat:Int)≠stop)→(k:Int)+x.length≤size→Jd stop size (x++c::rest) k p=some (.ok (p+x.length))
 |[],k,p,hx,hz=>by
  show Jd stop size (c::rest) k p=_
  unfold Jd
  rw[if_pos hc]
  rfl
 |y::x,k,p,hx,hz=>by
  rw[List.length_cons] at hz
  show Jd stop size (y::(x++c::rest)) k p=_
  unfold Jd
  rw[if_neg (hx y List.mem_cons_self),if_neg (by omega),Q2S hc (fun y hy=>hx y (List.mem_cons_of_mem _ hy)) (by omega),List.length_cons]
  congr 2
  omega
theorem Q0h{rest:List UInt8}:∀{bs:List UInt8} {p:Nat},Vj bs (bs++rest) p=some (.ok (p+bs.length))
 |[],p=>by cases rest<;>rfl
 |c::bs,p=>by
  show Vj (c::bs) (c::(bs++rest)) p=_
  unfold Vj
  rw[if_pos rfl,Q0h,List.length_cons]
  congr 2
  omega
theorem Q23{n:Int}{x rest:List UInt8}{p:Nat}(hp:p≤D.length)(hD:D.drop p=x++rest)(hn:n=x.length):ZQ D p n=some (.ok (x,p+x.length)):=by
 unfold ZQ
 have hl:(D.drop p).length=x.length+rest.length:=by rw[hD,List.length_append]
 rw[List.length_drop] at hl;rw[if_neg (by omega),hD,hn,Int.toNat_natCast,List.take_left]
 rfl
theorem Q4E{e:Int}{one:Nat→Rdg (Nd×VF×Nat)}(hfar:Far one D.length)(h1:∀(p:Nat) (y:Nd×VF×Nat),p≤D.length→one p=some (.ok y)→Wr F e y.1 y.2.1 (seg D p y.2.2)):∀{n p:Nat} {z:VF×Nat},p≤D.length→Ze one n p=some (.ok z)→z.1.len=n∧∀suf,WrL F z.1 (List.replicate n ([],some e)) suf (seg D p z.2++suf)
 |0,p,z,hp,h=>by
  rw[← Qv h];exact⟨rfl,fun suf=>by rw[Q6j];exact WrL.nil⟩
 |n+1,p,z,hp,h=>by
  obtain⟨y,hy,hg⟩:=Qy h;obtain⟨z',hz,hg⟩:=Qy hg;have a:=hfar p y hp hy;have c:=JK hfar a.2 hz;obtain⟨hl,hw⟩:=Q4E hfar h1 a.2 hz;rw[← Qv hg];refine⟨by show z'.1.len+1=_;rw[hl],fun suf=>?_⟩;have:=WrL.cons (pre:=[]) (h1 p y hp hy) (hw suf)
  simp only
  rw[← KG (Nat.le_of_lt a.1) c.1,List.append_assoc];exact this
theorem Q5T{e stop:Int}{r:Rl}(hst:stop=r.stop){one:Nat→Rdg (Nd×VF×Nat)}(hfar:Far one D.length)(h1:∀(p:Nat) (y:Nd×VF×Nat),p≤D.length→one p=some (.ok y)→Wr F e y.1 y.2.1 (seg D p y.2.2)):∀{f p:Nat} {z:VF×Nat},p≤D.length→Zs one D stop f p=some (.ok z)→WrL F z.1 (List.replicate z.1.len ([],some e)) [Zk r] (seg D p z.2)
 |0,p,z,hp,h=>by cases h
 |f+1,p,z,hp,h=>by
  unfold Zs at h
  split at h
  ·exact(Xa h).elim
  ·next c hc=>
   split at h
   ·next hs=>
    rw[← Qv h]
    simp only
    rw[QcQ hc,Yw (by rw[hs,hst])];exact WrL.nil
   ·obtain⟨y,hy,hg⟩:=Qy h;obtain⟨z',hz,hg⟩:=Qy hg;have a:=hfar p y hp hy;have c:=Yf hfar a.2 hz;have hw:=Q5T hst hfar h1 a.2 hz;rw[← Qv hg];have:=WrL.cons (pre:=[]) (h1 p y hp hy) hw
    simp only
    rw[← KG (Nat.le_of_lt a.1) (Nat.le_of_lt c.1)];exact this
theorem Q6e{one:Int→Nat→Rdg (Nd×VF×Nat)}:∀{ns:List (List UInt8)} {ks:List Int} {p:Nat} {z:List (List UInt8)×VF×Nat},(∀k∈ks,Far (one k) D.length)→(∀k∈ks,∀(p:Nat) (y:Nd×VF×Nat),p≤D.length→one k p=some (.ok y)→Wr F k y.1 y.2.1 (seg D p y.2.2))→ns.length=ks.length→(∀i:Nat,i<ks.length→ns.getD i []=[]→∀(p:Nat) (y:Nd×VF×Nat),p≤D.length→one (ks.getD i 0) p=some (.ok y)→seg D p y.2.2=(Qd F (ks.getD i 0)).bs)→p≤D.length→Zt one ns ks p=some (.ok z)→z.1=QZ ns∧∀acc,WrL F z.2.1 (V0 F ns ks acc).1 (V0 F ns ks acc).2 (acc++seg D p z.2.2)
 |[],[],p,z,hfar,h1,hl,h0,hp,h=>by
  rw[← Qv h];refine⟨rfl,fun acc=>?_⟩
  simp only
  rw[Q6j,List.append_nil];exact WrL.nil
 |[],_::_,p,z,hfar,h1,hl,h0,hp,h=>by cases hl
 |_::_,[],p,z,hfar,h1,hl,h0,hp,h=>by cases hl
 |nm::ns,k::ks,p,z,hfar,h1,hl,h0,hp,h=>by
  unfold Zt at h
  obtain⟨y,hy,hg⟩:=Qy h;obtain⟨z',hz,hg⟩:=Qy hg;have a:=hfar k List.mem_cons_self p y hp hy
  have hl':ns.length=ks.length:=by simpa using hl
  have c:=Q1x (fun k hk=>hfar k (List.mem_cons_of_mem _ hk)) hl' a.2 hz;obtain⟨hn,hw⟩:=Q6e (fun k hk=>hfar k (List.mem_cons_of_mem _ hk)) (fun k hk=>h1 k (List.mem_cons_of_mem _ hk)) hl' (fun i hi hni=>h0 (i+1) (by rw[List.length_cons];omega) (by simpa using hni)) a.2 hz
  by_cases hnm:nm=[]
  ·rw[if_pos hnm] at hg;rw[← Qv hg];have hlit:=h0 0 (by simp) (by simpa using hnm) p y hp hy;refine⟨by rw[hn,hnm];rfl,fun acc=>?_⟩
   have e:V0 F (nm::ns) (k::ks) acc=V0 F ns ks (acc++(Qd F k).bs):=by
    rw[V0,if_pos hnm]
   rw[e,← KG (Nat.le_of_lt a.1) (by omega),hlit,← List.append_assoc];exact hw _
  ·rw[if_neg hnm] at hg;rw[← Qv hg];refine⟨?_,fun acc=>?_⟩
   ·simp only
    rw[hn]
    unfold QZ
    rw[List.filter_cons_of_pos (by simpa using hnm)]
   ·have e:V0 F (nm::ns) (k::ks) acc=((acc,some k)::(V0 F ns ks []).1,(V0 F ns ks []).2):=by
     rw[V0,if_neg hnm]
    rw[e]
    simp only
    rw[← KG (Nat.le_of_lt a.1) (by omega),← List.append_assoc];have:=hw [];rw[List.nil_append] at this;exact WrL.cons (pre:=acc) (h1 k List.mem_cons_self p y hp hy) this
end
section
variable {F:List Rl}{D:List UInt8}
theorem Q3c{g:Nat→Int}:∀(n i:Nat),Jo g i n=0→∀j,i≤j→j<i+n→g j=0
 |0,i,h,j,h1,h2=>by omega
 |n+1,i,h,j,h1,h2=>by
  unfold Jo at h
  split at h
  ·next h0=>
   rcases Nat.lt_or_ge i j with hj|hj
   ·exact Q3c n (i+1) h j hj (by omega)
   ·obtain rfl:i=j:=by omega
    exact h0
  ·next h0=>exact absurd h h0
structure Fm(F:List Rl):Prop extends Vld F where
 len:0<F.length∧F.length≤40
 uses:∀i,i<F.length→V8 F i=0
 confl:∀i,i<F.length→J9 F i=false
theorem Qey(h:XC F=(0,0)):Fm F:=by
 refine⟨Qe9 h,Q7Q h,(Q33 h).use,?_⟩;have hp:=Q33 h
 unfold XC at h
 split at h
 ·cases h
 split at h
 ·cases h
 rw[XH (fun j hj=>by simpa using hp.rule j hj)] at h
 simp only at h
 rw[XH (fun j hj=>by simpa using hp.use j hj)] at h
 simp only at h
 cases h3:Xw F.length (Q1g F) with
 |some k=>rw[h3] at h;simp only[Prod.mk.injEq] at h;exact absurd h.1 (by decide)
 |none=>
  rw[h3] at h
  simp only at h
  cases h4:Xw F.length (fun k=>!((Vz F).getD k false)) with
  |some k=>rw[h4] at h;simp only[Prod.mk.injEq] at h;exact absurd h.1 (by decide)
  |none=>
   rw[h4] at h
   simp only at h
   cases h5:Xw F.length (J9 F) with
   |some k=>rw[h5] at h;simp only[Prod.mk.injEq] at h;exact absurd h.1 (by decide)
   |none=>exact Yi h5
theorem Fm.seq(hv:Fm F){k:Int}(hk:0≤k∧k<F.length)(h7:(Qd F k).kind=7):∀i:Nat,i<(Qd F k).parts.length→(Qd F k).names.getD i []=[]→(Qd F ((Qd F k).parts.getD i 0)).kind=1:=by
 intro i hi hn;have hr:=hv.toUsd.rok hk;have hg:=V6 hk;have hu:=hv.uses k.toNat (by omega);rw[Q0J hg] at hu;obtain⟨r,e⟩:∃r,Qd F k=r:=⟨_,rfl⟩;rw[e] at hr hu h7 hi hn ⊢
 unfold Yl at hu
 rw[if_neg (by rw[h7];simp [QP,ZC]),if_neg (by rw[h7];decide)] at hu;have h:=Q3c _ 0 hu i (by omega) (by rw[(hr.seven h7).1];omega)
 unfold Va at h
 rw[if_pos (by rw[hn];rfl)] at h;have hp:=hr.parts (.inl h7) _ (ZX hi);rw[KP (V6 hp)] at h
 by_cases h1:(Qd F (r.parts.getD i 0)).kind=1
 ·exact h1
 ·rw[if_pos (by simpa using h1)] at h
  cases h
theorem Fm.numOk(hv:Fm F){k:Int}(hk:0≤k∧k<F.length)(h:(Qd F k).kind=6∨(Qd F k).kind=10):J6 (Qd F (Qd F k).count):=by
 obtain⟨c,hc,h23⟩:=hv.toUsd.use _ _ (V6 hk) h;rw[Q5g hc];exact J6.of (hv.toUsd.ok _ _ hc) h23
theorem X6{r:Rl}(h9:r.kind≠9)(h7:r.kind≠7):Vw F r=[]:=by unfold Vw;rw[if_neg h9,if_neg h7]
theorem Jz{r:Rl}{p:VF}(h:r.kind=6∨r.kind=9):Za F r p=List.replicate p.len ([],some r.elem):=by unfold Za;rw[if_pos h]
theorem KF(hv:Fm F):∀(f:Nat) {k:Int},0≤k∧k<F.length→∀(p:Nat) (y:Nd×VF×Nat),p≤D.length→Qx F D f k p=some (.ok y)→Wr F k y.1 y.2.1 (seg D p y.2.2)
 |0,k,hk,p,y,hp,h=>by cases h
 |f+1,k,hk,p,y,hp,h=>by
  have hr:=hv.toUsd.rok hk;have hno:=hv.numOk hk;have hseq:=hv.seq hk
  have hlit:∀{x:Int},(Qd F x).kind=1→∀(p:Nat) (y:Nd×VF×Nat),p≤D.length→Qx F D f x p=some (.ok y)→seg D p y.2.2=(Qd F x).bs:=by
   intro x hx p y hp h
   cases f with
   |zero=>cases h
   |succ f=>
    unfold Qx at h
    simp only at h
    rw[if_pos hx] at h;obtain⟨q,hq,hg⟩:=Qy h;obtain⟨a,b,c⟩:=Q1h hq;rw[← Qv hg]
    simp only
    unfold seg
    rw[a,show p+(Qd F x).bs.length - p=(Qd F x).bs.length by omega];exact b.symm
  unfold Qx at h
  simp only at h
  obtain⟨r,e⟩:∃r,Qd F k=r:=⟨_,rfl⟩
  simp only[e] at h hr hno hseq
  split at h
  ·next h1=>
   obtain⟨q,hq,hg⟩:=Qy h;obtain⟨a,b,c⟩:=Q1h hq;rw[← Qv hg];refine Wr.leaf ?_ rfl (by rw[e];exact X6 (by omega) (by omega)) ?_
   ·rw[e];unfold X8;rw[if_pos h1];rfl
   ·rw[e];unfold Xy;rw[if_pos h1]
    simp only
    unfold seg
    rw[a,show p+r.bs.length - p=r.bs.length by omega];exact b.symm
  split at h
  ·next h1 h23=>
   obtain⟨z,hz,hg⟩:=Qy h;have hN:=J6.of hr h23;have a:=Yg (n:=z.1) (q:=z.2) hN.numK hp hz;have b:=Q3h (n:=z.1) (q:=z.2) hN hp hz;rw[← Qv hg];refine Wr.leaf ?_ rfl (by rw[e];exact X6 (by omega) (by omega)) ?_
   ·rw[e];unfold X8;rw[if_neg h1,if_pos h23];simp only;rw[b];rfl
   ·rw[e];unfold Xy;rw[if_neg h1,if_pos h23];exact a.1.symm
  split at h
  ·next h1 h23 h4=>
   obtain⟨z,hz,hg⟩:=Qy h;obtain⟨rfl,hn⟩:=Zn hz;have h4':=hr.size4 h4
   have hl:((D.drop p).take r.size.toNat).length=r.size.toNat:=by rw[List.length_take,List.length_drop];omega
   rw[← Qv hg];refine Wr.leaf ?_ rfl (by rw[e];exact X6 (by omega) (by omega)) ?_
   ·rw[e];unfold X8;rw[if_neg h1,if_neg h23,if_pos h4];simp only;rw[hl]
    simp
    omega
   ·rw[e];unfold Xy;rw[if_neg h1,if_neg h23,if_pos h4]
    simp only
    unfold seg
    rw[show p+r.size.toNat - p=r.size.toNat by omega]
  split at h
  ·next h1 h23 h4 h10=>
   obtain⟨x,hx,hg⟩:=Qy h;have hN:=hno (.inr h10);have a:=Yg (n:=x.1) (q:=x.2) hN.numK hp hx;have b:=Q3h (n:=x.1) (q:=x.2) hN hp hx;have c:=Zl (n:=x.1) (q:=x.2) hN.numK hp hx;obtain⟨z,hz,hg⟩:=Qy hg;obtain⟨rfl,hn⟩:=Zn hz
   have hl:((D.drop x.2).take x.1.toNat).length=x.1.toNat:=by rw[List.length_take,List.length_drop];omega
   have hl':(((D.drop x.2).take x.1.toNat).length:Int)=x.1:=by rw[hl];omega
   rw[← Qv hg];refine Wr.leaf ?_ rfl (by rw[e];exact X6 (by omega) (by omega)) ?_
   ·rw[e];unfold X8;rw[if_neg h1,if_neg h23,if_neg h4,if_pos h10];simp only;rw[hl',b];rfl
   ·rw[e];unfold Xy;rw[if_neg h1,if_neg h23,if_neg h4,if_pos h10]
    simp only
    rw[hl',a.1,← KG (Nat.le_of_lt c.1) (Nat.le_add_right x.2 x.1.toNat)]
    congr 1
    unfold seg
    rw[show x.2+x.1.toNat - x.2=x.1.toNat by omega]
  split at h
  ·next h1 h23 h4 h10 h5=>
   obtain⟨q,hq,hg⟩:=Qy h;obtain⟨x,c,rest,hl,hqq,hc,hx,hz⟩:=Q4K hq;have h5':=hr.size5 h5;have hz':=hz (by omega)
   have hs:seg D p q=x:=by rw[hqq];exact Q7Z hl
   have hs':(D.drop p).take (q - p)=x:=hs;have hsc:Zk r=c:=Yw hc;rw[← Qv hg];refine Wr.leaf ?_ rfl (by rw[e];exact X6 (by omega) (by omega)) ?_
   ·rw[e];unfold X8;rw[if_neg h1,if_neg h23,if_neg h4,if_neg h10,if_pos h5];simp only;rw[hs',hsc]
    have:x.contains c=false:=by
     rw[Bool.eq_false_iff];intro hcon;rw[List.contains_iff_mem] at hcon;exact hx c hcon hc
    rw[this]
    simp
    omega
   ·rw[e];unfold Xy;rw[if_neg h1,if_neg h23,if_neg h4,if_neg h10,if_pos h5]
    simp only
    rw[hs',hsc];have:=Q7Z (D:=D) (p:=p) (x:=x++[c]) (rest:=rest) (by rw[hl];simp);rw[← this,List.length_append,hqq]
    rfl
  split at h
  ·next h1 h23 h4 h10 h5 h6=>
   obtain⟨x,hx,hg⟩:=Qy h;have hN:=hno (.inl h6);have a:=Yg (n:=x.1) (q:=x.2) hN.numK hp hx;have b:=Q3h (n:=x.1) (q:=x.2) hN hp hx;have c:=Zl (n:=x.1) (q:=x.2) hN.numK hp hx;obtain⟨z,hz,hg⟩:=Qy hg;have hf:=QX (D:=D) hv.toUsd f (hr.elem (.inl h6));obtain⟨hl,hw⟩:=Q4E hf (fun p y hp h=>KF hv f (hr.elem (.inl h6)) p y hp h) c.2 hz;have d:=JK hf c.2 hz
   have hl':(z.1.len:Int)=x.1:=by rw[hl];omega
   rw[← Qv hg];refine⟨?_,seg D x.2 z.2,?_,?_⟩
   ·rw[e];unfold X8;rw[if_neg h1,if_neg h23,if_neg h4,if_neg h10,if_neg h5,if_pos h6];simp only;rw[hl',b];rfl
   ·rw[e];unfold Xy;rw[if_neg h1,if_neg h23,if_neg h4,if_neg h10,if_neg h5,if_pos h6]
    simp only
    rw[hl',a.1,KG (Nat.le_of_lt c.1) d.1]
   ·rw[e,Jz (.inl h6),X6 (by omega) (by omega)]
    simp only
    rw[hl];have:=hw [];rwa [List.append_nil] at this
  split at h
  ·next h1 h23 h4 h10 h5 h6 h9=>
   obtain⟨z,hz,hg⟩:=Qy h;have hf:=QX (D:=D) hv.toUsd f (hr.elem (.inr h9));have hw:=Q5T rfl hf (fun p y hp h=>KF hv f (hr.elem (.inr h9)) p y hp h) hp hz;rw[← Qv hg];refine⟨?_,seg D p z.2,?_,?_⟩
   ·rw[e];unfold X8;rw[if_neg h1,if_neg h23,if_neg h4,if_neg h10,if_neg h5,if_neg h6,if_pos h9];rfl
   ·rw[e];unfold Xy;rw[if_neg h1,if_neg h23,if_neg h4,if_neg h10,if_neg h5,if_neg h6];rfl
   ·rw[e,Jz (.inr h9)]
    unfold Vw
    rw[if_pos h9];exact hw
  split at h
  ·next h1 h23 h4 h10 h5 h6 h9 h8=>
   split at h
   ·exact(Xa h).elim
   ·split at h
    ·exact(Xa h).elim
    ·next c hc i hi=>
     obtain⟨z,hz,hg⟩:=Qy h;have hil:=Jc hi;have hw:=KF hv f (hr.parts (.inr h8) _ (ZX hil)) p z hp hz;rw[← Qv hg];refine⟨?_,seg D p z.2.2,?_,?_⟩
     ·rw[e];unfold X8;rw[if_neg h1,if_neg h23,if_neg h4,if_neg h10,if_neg h5,if_neg h6,if_neg h9,if_pos h8]
      simp [VF.len,VF.hdN]
      omega
     ·rw[e];unfold Xy;rw[if_neg h1,if_neg h23,if_neg h4,if_neg h10,if_neg h5,if_neg h6];rfl
     ·rw[e,X6 (by omega) (by omega)]
      unfold Za
      rw[if_neg (by omega),if_pos h8];have:=WrL.skip (F:=F) (d:=ndN (i:Int)) (p:=.nil) (pre:=[]) (WrL.cons (pre:=[]) (ps:=[]) hw (WrL.nil (ps:=[]) (suf:=[])))
      simpa [VF.hdN] using this
  ·next h1 h23 h4 h10 h5 h6 h9 h8=>
   have h7:r.kind=7:=by
    have:=hr.kind
    omega
   have hs7:=hr.seven h7;obtain⟨z,hz,hg⟩:=Qy h;obtain⟨hn,hw⟩:=Q6e (fun k hk=>QX hv.toUsd f (hr.parts (.inl h7) k hk)) (fun k hk=>KF hv f (hr.parts (.inl h7) k hk)) hs7.1 (fun i hi hni p y hp h=>hlit (hseq h7 i hi hni) p y hp h) hp hz;rw[← Qv hg];refine⟨?_,seg D p z.2.2,?_,?_⟩
   ·rw[e];unfold X8;rw[if_neg h1,if_neg h23,if_neg h4,if_neg h10,if_neg h5,if_neg h6,if_neg h9,if_neg h8]
    simp only
    rw[hn]
    simp
   ·rw[e];unfold Xy;rw[if_neg h1,if_neg h23,if_neg h4,if_neg h10,if_neg h5,if_neg h6];rfl
   ·rw[e]
    unfold Za Vw
    rw[if_neg (by omega),if_neg h8,if_pos h7,if_neg h9,if_pos h7];have:=hw [];rwa [List.nil_append] at this
theorem Qaq(hv:Fm F){f:Nat}{d:Nd}{l:VF}(h:Qx F D f 0 0=some (.ok (d,l,D.length)))(n:Nat):∃m,X7 F (.cons d l .nil) [([],some 0)] [] n=.ok (D,m):=by
 have hw:=KF hv f ⟨by omega,by have:=hv.len;omega⟩ 0 _ (by omega) h;have:=WrL.cons (pre:=[]) (ps:=[]) hw (WrL.nil (ps:=[]) (suf:=[]))
 have hs:seg D 0 D.length=D:=by unfold seg;simp
 simp only[hs,List.nil_append,List.append_nil] at this
 exact this n
end
section
variable {F:List Rl}{D:List UInt8}
def fir(F:List Rl)(k:Int)(c:UInt8):Bool:=((K8 F).getD k.toNat Zx) c.toNat
theorem Q8V(hv:FOk F){k:Int}(hk:0≤k∧k<F.length){c:UInt8}(h:Q5I (Qd F k) (c.toNat:Int)=true):fir F k c=true:=by
 unfold fir
 rw[Q6K hv.bd (by omega)];refine⟨k.toNat,.inl rfl,?_⟩
 unfold Q25
 rw[V6 hk];have:=QcD (hv _ _ (V6 hk)) (b:=c.toNat) c.toNat_lt;rw[← this] at h;exact h
theorem Qbp(hv:FOk F){k i:Int}(hk:0≤k∧k<F.length){c:UInt8}(hi:i∈bl (Qd F k))(h:fir F i c=true):fir F k c=true:=by
 unfold fir at h ⊢
 have hi':=Q2y (hv _ _ (V6 hk)) i hi;rw[Q6K hv.bd (by omega)] at h ⊢;obtain⟨j,hj,ho⟩:=h;refine⟨j,.inr ?_,ho⟩;have hb:=QbM hk hi
 rcases hj with rfl|hj
 ·exact .one hb
 ·exact Rch.trans (.one hb) hj
theorem Q0b{p:Nat}{c:UInt8}{l:List UInt8}(h:D.drop p=c::l):D[p]? =some c:=by
 have:=congrArg (fun l=>l[0]?) h
 simpa using this
theorem Z9{p:Nat}{c:UInt8}(h:D[p]? =some c):D.drop p=c::D.drop (p+1):=by
 obtain⟨hl,hc⟩:=List.getElem?_eq_some_iff.1 h;rw[List.drop_eq_getElem_cons hl,hc]
theorem Q4M{r:Rl}(hr:J6 r){p q:Nat}{n:Int}(hp:p≤D.length)(h:JV r D p=some (.ok (n,q))):∃c,D[p]? =some c∧Q5I r (c.toNat:Int)=true:=by
 unfold JV at h
 unfold Q5I
 split at h
 ·next h3=>
  obtain⟨c,rest,hl,hq,hc,h0,h1,d,hd,hd1,hd2,hd3⟩:=Q4L h;refine⟨d,?_,?_⟩
  rotate_left
  ·rw[if_neg (by omega),if_neg (by omega),if_neg (by omega),if_pos h3,Xr.2 (by omega)]
   simp
   omega
  ·cases hi:Lib.itoa n with
   |nil=>rw[hi] at hd;cases hd
   |cons a x=>
    rw[hi] at hd
    have:a=d:=by simpa using hd
    subst this;rw[hi] at hl;exact Q0b hl
 ·next h3=>
  have h2:=hr.kind.resolve_right h3;obtain⟨a1,a2,a3,a4,a5⟩:=hr.num h2;obtain⟨y,hy,hg⟩:=Qy h;obtain⟨rfl,hn⟩:=Zn hy
  simp only at hg
  split at hg
  ·exact(Xa hg).elim
  ·next hb=>
   clear hg hy h
   have hk1:¬r.kind=1:=by omega
   simp only[if_neg hk1]
   rw[h2]
   simp only[true_and,if_true]
   obtain⟨big,hbig⟩:∃b,r.big=b:=⟨_,rfl⟩;obtain⟨size,hsz⟩:∃b,r.size=b:=⟨_,rfl⟩;obtain⟨mn,hmn⟩:∃b,r.mn=b:=⟨_,rfl⟩;obtain⟨mx,hmx⟩:∃b,r.mx=b:=⟨_,rfl⟩;rw[hbig,hsz,hmn,hmx] at hb;rw[hsz,hmx] at a5;rw[hbig,hsz,hmn,hmx];rw[hsz] at a1 a2 hn;rw[hmn] at a3 a4;rw[hmx] at a4;have hl:(D.drop p).length=D.length - p:=List.length_drop;obtain⟨l,hL⟩:∃l,D.drop p=l:=⟨_,rfl⟩;rw[hL] at hb hl
   have hlen:size≤(l.length:Int):=by omega
   clear hn hl
   cases l with
   |nil=>simp at hlen;omega
   |cons c l=>
    refine⟨c,Q0b hL,?_⟩;clear hL;have hc:=c.toNat_lt
    rcases (show size=1∨size=2∨size=3∨size=4 by omega) with rfl|rfl|rfl|rfl
    ·cases big with
     |true=>simp [QR,leN] at hb a5 ⊢;omega
     |false=>simp [QR,leN] at hb a5 ⊢;split<;>omega
    ·match l,hlen with
     |d::l,_=>
      have hd:=d.toNat_lt
      cases big with
      |true=>simp [QR,leN] at hb a5 ⊢;omega
      |false=>simp [QR,leN] at hb a5 ⊢;split<;>omega
    ·match l,hlen with
     |d::e::l,_=>
      have hd:=d.toNat_lt;have he:=e.toNat_lt
      cases big with
      |true=>simp [QR,leN] at hb a5 ⊢;omega
      |false=>simp [QR,leN] at hb a5 ⊢;split<;>omega
    ·match l,hlen with
     |d::e::g::l,_=>
      have hd:=d.toNat_lt;have he:=e.toNat_lt;have hg:=g.toNat_lt
      cases big with
      |true=>simp [QR,leN] at hb a5 ⊢;omega
      |false=>simp [QR,leN] at hb a5 ⊢;split<;>omega
theorem Qg0{r:Rl}(h:r.kind=6∨r.kind=10):r.count∈bl r:=by unfold bl Xs;rw[if_pos h];exact List.mem_singleton.2 rfl
theorem Qft{r:Rl}(h:r.kind=9):r.elem∈bl r:=by unfold bl Xs;rw[if_neg (by omega),if_neg (by omega),if_neg (by omega),if_pos h];exact List.mem_singleton.2 rfl
theorem Qfz{r:Rl}(h:r.kind=8){i:Nat}(hi:i<r.parts.length):r.parts.getD i 0∈bl r:=by unfold bl Xs;rw[if_neg (by omega),if_neg (by omega),if_pos h];exact ZX hi
theorem QfM{r:Rl}(h:r.kind=7){x:Int}(hx:x∈r.parts.take 1):x∈bl r:=by unfold bl Xs;rw[if_neg (by omega),if_pos h];exact hx
theorem Fm.fir_count(hv:Fm F){k:Int}(hk:0≤k∧k<F.length)(h:(Qd F k).kind=6∨(Qd F k).kind=10){p:Nat}{x:Int×Nat}(hp:p≤D.length)(hx:JV (Qd F (Qd F k).count) D p=some (.ok x)):∃c,D[p]? =some c∧fir F k c=true:=by
 obtain⟨c,hc,hf⟩:=Q4M (n:=x.1) (q:=x.2) (hv.numOk hk h) hp hx;exact⟨c,hc,Qbp hv.toUsd.ok hk (Qg0 h) (Q8V hv.toUsd.ok ((hv.toUsd.rok hk).count h) hf)⟩
theorem VT(hv:Fm F):∀(f:Nat) {k:Int},0≤k∧k<F.length→∀(p:Nat) (y:Nd×VF×Nat),p≤D.length→Qx F D f k p=some (.ok y)→∃c,D[p]? =some c∧fir F k c=true
 |0,k,hk,p,y,hp,h=>by cases h
 |f+1,k,hk,p,y,hp,h=>by
  have hr:=hv.toUsd.rok hk
  have hcount:=fun h p x hp hx=>hv.fir_count (D:=D) hk h (p:=p) (x:=x) hp hx
  have hown:=fun c h=>Q8V hv.toUsd.ok hk (c:=c) h
  have hbg:=fun c i hi h=>Qbp hv.toUsd.ok hk (i:=i) (c:=c) hi h
  have hfar:=QX (D:=D) hv.toUsd (f+1) hk p y hp h;have hsome:∃c,D[p]? =some c:=⟨_,List.getElem?_eq_getElem (by omega)⟩
  unfold Qx at h
  simp only at h
  obtain⟨r,e⟩:∃r,Qd F k=r:=⟨_,rfl⟩
  simp only[e] at h hr hcount hown hbg
  split at h
  ·next h1=>
   obtain⟨q,hq,hg⟩:=Qy h;obtain⟨a,b,c⟩:=Q1h hq;have hb:=hr.bs1 h1;obtain⟨x,hx⟩:=hsome;refine⟨x,hx,hown x ?_⟩
   unfold Q5I
   rw[if_pos h1];rw[Z9 hx] at b
   cases hbs:r.bs with
   |nil=>rw[hbs] at hb;cases hb
   |cons u v=>
    rw[hbs] at b
    simp at b
    rw[b.1]
    simp
  split at h
  ·next h1 h23=>
   obtain⟨z,hz,hg⟩:=Qy h;obtain⟨c,hc,hf⟩:=Q4M (n:=z.1) (q:=z.2) (J6.of hr h23) hp hz;exact⟨c,hc,hown c hf⟩
  split at h
  ·next h1 h23 h4=>
   obtain⟨x,hx⟩:=hsome;refine⟨x,hx,hown x ?_⟩
   unfold Q5I
   rw[if_neg h1,if_neg (by omega),if_neg (by omega),if_neg (by omega),if_neg (by omega),if_neg (by omega),h4]
   rfl
  split at h
  ·next h1 h23 h4 h10=>
   obtain⟨x,hx,hg⟩:=Qy h;exact hcount (.inr h10) p x hp hx
  split at h
  ·next h1 h23 h4 h10 h5=>
   obtain⟨q,hq,hg⟩:=Qy h;obtain⟨x,hx⟩:=hsome;refine⟨x,hx,hown x ?_⟩
   unfold Q5I
   rw[if_neg h1,if_neg (by omega),if_neg (by omega),if_neg (by omega),if_pos h5];rw[Z9 hx] at hq
   unfold Jd at hq
   split at hq
   ·next hs=>rw[← hs];simp
   split at hq
   ·exact(Xa hq).elim
   ·next hs hz=>
    have:=hr.size5 h5
    simp
    left
    omega
  split at h
  ·next h1 h23 h4 h10 h5 h6=>
   obtain⟨x,hx,hg⟩:=Qy h;exact hcount (.inl h6) p x hp hx
  split at h
  ·next h1 h23 h4 h10 h5 h6 h9=>
   obtain⟨z,hz,hg⟩:=Qy h
   unfold Zs at hz
   split at hz
   ·exact(Xa hz).elim
   ·next c hc=>
    split at hz
    ·next hs=>
     refine⟨c,hc,hown c ?_⟩
     unfold Q5I
     rw[if_neg h1,if_neg (by omega),if_neg (by omega),if_neg (by omega),if_neg (by omega),if_pos h9,hs]
     simp
    ·obtain⟨y,hy,hg⟩:=Qy hz;obtain⟨c,hc,hf⟩:=VT hv f (hr.elem (.inr h9)) p y hp hy;exact⟨c,hc,hbg c _ (Qft h9) hf⟩
  split at h
  ·next h1 h23 h4 h10 h5 h6 h9 h8=>
   split at h
   ·exact(Xa h).elim
   ·split at h
    ·exact(Xa h).elim
    ·next c hc _ i hi=>exact⟨c,hc,hbg c _ (Qfz h8 (Jc hi)) (Q7r hi)⟩
  ·next h1 h23 h4 h10 h5 h6 h9 h8=>
   have h7:r.kind=7:=by
    have:=hr.kind
    omega
   have hs7:=hr.seven h7;obtain⟨z,hz,hg⟩:=Qy h;have hp7:=hr.parts (.inl h7)
   have hb7:=fun x hx=>QfM h7 (x:=x) hx
   obtain⟨ks,hks⟩:∃ks,r.parts=ks:=⟨_,rfl⟩;obtain⟨ns,hns⟩:∃ns,r.names=ns:=⟨_,rfl⟩;rw[hks] at hs7 hz hp7 hb7;rw[hns] at hs7 hz
   cases ns with
   |nil=>exact absurd hs7.1 (by have:=hs7.2;simp only[List.length_nil];omega)
   |cons nm ns=>
    cases ks with
    |nil=>exact absurd hs7.1 (by simp)
    |cons x ks=>
     unfold Zt at hz
     obtain⟨y,hy,hg⟩:=Qy hz;obtain⟨c,hc,hf⟩:=VT hv f (hp7 x List.mem_cons_self) p y hp hy;exact⟨c,hc,hbg c _ (hb7 x (by simp)) hf⟩
theorem Q6g{stop mx:Int}{E:List UInt8}:∀{l:List UInt8} {b:Bool} {n:Int} {p:Nat} {y:Int×Nat},ZN stop mx l b n p=some (.ok y)→ZN stop mx (l++E) b n p=some (.ok y)
 |[],b,n,p,y,h=>(Xa h).elim
 |c::l,b,n,p,y,h=>by
  show ZN stop mx (c::(l++E)) b n p=_
  unfold ZN at h ⊢
  split at h
  ·next hs=>rw[if_pos hs];exact h
  split at h
  ·exact(Xa h).elim
  ·next hs hd=>rw[if_neg hs,if_neg hd];exact Q6g h
theorem Q64{E:List UInt8}:∀{bs l:List UInt8} {p q:Nat},Vj bs l p=some (.ok q)→Vj bs (l++E) p=some (.ok q)
 |[],l,p,q,h=>by
  have:q=p:=by cases l<;>exact(Qv h).symm
  subst this
  cases (l++E)<;>rfl
 |_::_,[],p,q,h=>(Xa h).elim
 |b::bs,c::l,p,q,h=>by
  show Vj (b::bs) (c::(l++E)) p=_
  unfold Vj at h ⊢
  split at h
  ·next hc=>rw[if_pos hc];exact Q64 h
  ·exact(Xa h).elim
theorem Q6Q{stop size:Int}{E:List UInt8}:∀{l:List UInt8} {k p q:Nat},Jd stop size l k p=some (.ok q)→Jd stop size (l++E) k p=some (.ok q)
 |[],k,p,q,h=>(Xa h).elim
 |c::l,k,p,q,h=>by
  show Jd stop size (c::(l++E)) k p=_
  unfold Jd at h ⊢
  split at h
  ·next hc=>rw[if_pos hc];exact h
  split at h
  ·exact(Xa h).elim
  ·next hc hs=>rw[if_neg hc,if_neg hs];exact Q6Q h
theorem Q1f{E:List UInt8}{p:Nat}(hp:p≤D.length):(D++E).drop p=D.drop p++E:=List.drop_append_of_le_length hp
theorem Q1S{E:List UInt8}{p:Nat}{n:Int}{y:List UInt8×Nat}(hp:p≤D.length)(h:ZQ D p n=some (.ok y)):ZQ (D++E) p n=some (.ok y):=by
 obtain⟨rfl,hn⟩:=Zn h
 unfold ZQ
 rw[if_neg (by rw[List.length_append];omega),Q1f hp,List.take_append_of_le_length (by rw[List.length_drop];omega)]
 rfl
theorem Q2E{E:List UInt8}{r:Rl}{p:Nat}{y:Int×Nat}(hp:p≤D.length)(h:JV r D p=some (.ok y)):JV r (D++E) p=some (.ok y):=by
 unfold JV at h ⊢
 split at h
 ·next h3=>rw[if_pos h3,Q1f hp];exact Q6g h
 ·next h3=>
  obtain⟨z,hz,hg⟩:=Qy h;rw[if_neg h3,Xl (Q1S hp hz)];exact hg
def Ext(one one':Nat→Rdg (Nd×VF×Nat))(m:Nat):Prop:=∀(p:Nat) (y:Nd×VF×Nat),p≤m→one p=some (.ok y)→one' p=some (.ok y)
theorem Q2K{one one':Nat→Rdg (Nd×VF×Nat)}{m:Nat}(hf:Far one m)(he:Ext one one' m):∀{n p:Nat} {z:VF×Nat},p≤m→Ze one n p=some (.ok z)→Ze one' n p=some (.ok z)
 |0,p,z,hp,h=>h
 |n+1,p,z,hp,h=>by
  obtain⟨y,hy,hg⟩:=Qy h;obtain⟨z',hz,hg⟩:=Qy hg;have a:=hf p y hp hy
  unfold Ze
  rw[Xl (he p y hp hy),Xl (Q2K hf he a.2 hz)];exact hg
theorem Q4q{one one':Nat→Rdg (Nd×VF×Nat)}{E:List UInt8}{stop:Int}(hf:Far one D.length)(he:Ext one one' D.length):∀{f f' p:Nat} {z:VF×Nat},f≤f'→p≤D.length→Zs one D stop f p=some (.ok z)→Zs one' (D++E) stop f' p=some (.ok z)
 |0,f',p,z,hff,hp,h=>by cases h
 |f+1,0,p,z,hff,hp,h=>by omega
 |f+1,f'+1,p,z,hff,hp,h=>by
  unfold Zs at h ⊢
  split at h
  ·exact(Xa h).elim
  ·next c hc=>
   have hl:p<D.length:=(List.getElem?_eq_some_iff.1 hc).1;rw[List.getElem?_append_left hl,hc]
   simp only
   split at h
   ·next hs=>rw[if_pos hs];exact h
   ·next hs=>
    obtain⟨y,hy,hg⟩:=Qy h;obtain⟨z',hz,hg⟩:=Qy hg;have a:=hf p y hp hy;rw[if_neg hs,Xl (he p y hp hy),Xl (Q4q hf he (by omega) a.2 hz)];exact hg
theorem Q4N{one one':Int→Nat→Rdg (Nd×VF×Nat)}{m:Nat}:∀{ns:List (List UInt8)} {ks:List Int} {p:Nat} {z:List (List UInt8)×VF×Nat},(∀k∈ks,Far (one k) m)→(∀k∈ks,Ext (one k) (one' k) m)→p≤m→Zt one ns ks p=some (.ok z)→Zt one' ns ks p=some (.ok z)
 |[],ks,p,z,hf,he,hp,h=>by cases ks<;>exact h
 |_::_,[],p,z,hf,he,hp,h=>h
 |nm::ns,k::ks,p,z,hf,he,hp,h=>by
  unfold Zt at h ⊢
  obtain⟨y,hy,hg⟩:=Qy h;obtain⟨z',hz,hg⟩:=Qy hg;have a:=hf k List.mem_cons_self p y hp hy;rw[Xl (he k List.mem_cons_self p y hp hy),Xl (Q4N (fun k hk=>hf k (List.mem_cons_of_mem _ hk)) (fun k hk=>he k (List.mem_cons_of_mem _ hk)) a.2 hz)];exact hg
theorem Ym(hv:Fm F){E:List UInt8}:∀(f f':Nat) {k:Int},f≤f'→0≤k∧k<F.length→Ext (Qx F D f k) (Qx F (D++E) f' k) D.length
 |0,f',k,hff,hk,p,y,hp,h=>by cases h
 |f+1,0,k,hff,hk,p,y,hp,h=>by omega
 |f+1,f'+1,k,hff,hk,p,y,hp,h=>by
  have hr:=hv.toUsd.rok hk;have hno:=hv.numOk hk
  unfold Qx at h ⊢
  simp only at h ⊢
  obtain⟨r,e⟩:∃r,Qd F k=r:=⟨_,rfl⟩
  simp only[e] at h hr hno ⊢
  split at h
  ·next h1=>
   obtain⟨q,hq,hg⟩:=Qy h;rw[if_pos h1,Q1f hp,Xl (Q64 hq)];exact hg
  split at h
  ·next h1 h23=>
   obtain⟨z,hz,hg⟩:=Qy h;rw[if_neg h1,if_pos h23,Xl (Q2E hp hz)];exact hg
  split at h
  ·next h1 h23 h4=>
   obtain⟨z,hz,hg⟩:=Qy h;rw[if_neg h1,if_neg h23,if_pos h4,Xl (Q1S hp hz)];exact hg
  split at h
  ·next h1 h23 h4 h10=>
   obtain⟨x,hx,hg⟩:=Qy h;obtain⟨z,hz,hg⟩:=Qy hg;have c:=Zl (n:=x.1) (q:=x.2) (hno (.inr h10)).numK hp hx;rw[if_neg h1,if_neg h23,if_neg h4,if_pos h10,Xl (Q2E hp hx),Xl (Q1S c.2 hz)];exact hg
  split at h
  ·next h1 h23 h4 h10 h5=>
   obtain⟨q,hq,hg⟩:=Qy h;have a:=Q2R hq;rw[List.length_drop] at a;rw[if_neg h1,if_neg h23,if_neg h4,if_neg h10,if_pos h5,Q1f hp,Xl (Q6Q hq),List.take_append_of_le_length (by rw[List.length_drop];omega)];exact hg
  split at h
  ·next h1 h23 h4 h10 h5 h6=>
   obtain⟨x,hx,hg⟩:=Qy h;obtain⟨z,hz,hg⟩:=Qy hg;have c:=Zl (n:=x.1) (q:=x.2) (hno (.inl h6)).numK hp hx;rw[if_neg h1,if_neg h23,if_neg h4,if_neg h10,if_neg h5,if_pos h6,Xl (Q2E hp hx),Xl (Q2K (QX hv.toUsd f (hr.elem (.inl h6))) (Ym hv f f' (by omega) (hr.elem (.inl h6))) c.2 hz)];exact hg
  split at h
  ·next h1 h23 h4 h10 h5 h6 h9=>
   obtain⟨z,hz,hg⟩:=Qy h;rw[if_neg h1,if_neg h23,if_neg h4,if_neg h10,if_neg h5,if_neg h6,if_pos h9,Xl (Q4q (QX hv.toUsd f (hr.elem (.inr h9))) (Ym hv f f' (by omega) (hr.elem (.inr h9))) (by rw[List.length_append];omega) hp hz)];exact hg
  split at h
  ·next h1 h23 h4 h10 h5 h6 h9 h8=>
   rw[if_neg h1,if_neg h23,if_neg h4,if_neg h10,if_neg h5,if_neg h6,if_neg h9,if_pos h8]
   split at h
   ·exact(Xa h).elim
   ·next c hc=>
    rw[List.getElem?_append_left (List.getElem?_eq_some_iff.1 hc).1,hc]
    simp only
    split at h
    ·exact(Xa h).elim
    ·next i hi=>
     obtain⟨z,hz,hg⟩:=Qy h;rw[Xl (Ym hv f f' (by omega) (hr.parts (.inr h8) _ (ZX (Jc hi))) p z hp hz)];exact hg
  ·next h1 h23 h4 h10 h5 h6 h9 h8=>
   have h7:r.kind=7:=by
    have:=hr.kind
    omega
   obtain⟨z,hz,hg⟩:=Qy h;rw[if_neg h1,if_neg h23,if_neg h4,if_neg h10,if_neg h5,if_neg h6,if_neg h9,if_neg h8,Xl (Q4N (fun k hk=>QX hv.toUsd f (hr.parts (.inl h7) k hk)) (fun k hk=>Ym hv f f' (by omega) (hr.parts (.inl h7) k hk)) hp hz)];exact hg
end
open Go.RowKit
def Hd(w:World)(B:Nat)(d:Nd)(np:Nat)(Q:Nat→Nat→Prop)(sb sn sp:Value):Prop:=
 ∃Ab nb cb An nn cn Ap cp,sb=.slice Ab nb cb∧sn=.slice An nn cn∧sp=.slice Ap np cp∧nb≤cb∧nn≤cn∧np≤cp∧cp≤maxLen∧
  Rd w B 1 Ab nb (bv d.bs)∧Rd w B 1 An nn (sv d.ns)∧(0<np→∃b o,Ap=some ⟨b,o,none⟩∧b<B∧Q b o)
def VK(w:World)(b o:Nat)(d:Nd)(sb sn sp:Value):Prop:=
 w.cell? ⟨b,o,none⟩=some (.int .i64 d.k)∧w.cell? ⟨b,o+1,none⟩=some (.int .i64 d.n)∧w.cell? ⟨b,o+2,none⟩=some sb∧w.cell? ⟨b,o+3,none⟩=some sn∧w.cell? ⟨b,o+4,none⟩=some sp
def FIn(w:World)(B:Nat):VF→Nat→Nat→Prop
 |.nil,_,_=>True
 |.cons d p r,b,o=>(∃sb sn sp,VK w b o d sb sn sp∧Hd w B d p.len (FIn w B p) sb sn sp)∧FIn w B r b (o+5)
def Q84(d:Nd):Prop:=-9223372036854775808≤d.k∧d.k≤9223372036854775807∧-9223372036854775808≤d.n∧d.n≤9223372036854775807
def VIn(w:World)(B:Nat)(v:Value)(d:Nd)(p:VF):Prop:=
 ∃sb sn sp,v=.agg #[.int .i64 d.k,.int .i64 d.n,sb,sn,sp]∧Hd w B d p.len (FIn w B p) sb sn sp
theorem Hd.mono{w w':World}{B B':Nat}{d:Nd}{np:Nat}{Q Q':Nat→Nat→Prop}{sb sn sp:Value}(h:Hd w B d np Q sb sn sp)(hk:∀p:Addr,p.block<B→w'.cell? p=w.cell? p)(hB:B≤B')(hQ:∀b o,b<B→Q b o→Q' b o):Hd w' B' d np Q' sb sn sp:=by
 obtain⟨Ab,nb,cb,An,nn,cn,Ap,cp,h1,h2,h3,h4,h5,h6,h6',h7,h8,h9⟩:=h
 refine⟨Ab,nb,cb,An,nn,cn,Ap,cp,h1,h2,h3,h4,h5,h6,h6',(h7.keep hk).more hB,(h8.keep hk).more hB,fun h0=>?_⟩
 obtain⟨b,o,e,hb,hq⟩:=h9 h0
 exact⟨b,o,e,by omega,hQ b o hb hq⟩
theorem FIn.keep{w w':World}{B B':Nat}(hk:∀p:Addr,p.block<B→w'.cell? p=w.cell? p)(hB:B≤B'):∀(F:VF) (b o:Nat),b<B→FIn w B F b o→FIn w' B' F b o:=by
 intro F
 induction F with
 |nil=>intro b o _ _;trivial
 |cons d p r ih1 ih2=>
  rintro b o hb ⟨⟨sb,sn,sp,⟨c0,c1,c2,c3,c4⟩,hd⟩,hr⟩
  refine⟨⟨sb,sn,sp,⟨(hk _ hb).trans c0,(hk _ hb).trans c1,(hk _ hb).trans c2,(hk _ hb).trans c3,(hk _ hb).trans c4⟩,hd.mono hk hB ih1⟩,ih2 b _ hb hr⟩
theorem VIn.keep{w w':World}{B B':Nat}{v:Value}{d:Nd}{p:VF}(h:VIn w B v d p)(hk:∀p:Addr,p.block<B→w'.cell? p=w.cell? p)(hB:B≤B'):VIn w' B' v d p:=by
 obtain⟨sb,sn,sp,e,h⟩:=h
 exact⟨sb,sn,sp,e,h.mono hk hB (FIn.keep hk hB p)⟩
theorem VIn.below{w w':World}{B B':Nat}{v:Value}{d:Nd}{p:VF}(h:VIn w B v d p)(hb:Below B' w w')(h1:B≤B'):VIn w' B v d p:=h.keep (fun q hq=>hb.cell (by omega)) (Nat.le_refl _)
theorem VIn.on{w w':World}{v:Value}{d:Nd}{p:VF}(h:VIn w w.heap.size v d p)(hb:Below w.heap.size w w'):VIn w' w'.heap.size v d p:=h.keep (fun q hq=>hb.cell hq) hb.size
theorem FIn.below{w w':World}{B B' b o:Nat}{F:VF}(h:FIn w B F b o)(hb0:b<B)(hb:Below B' w w')(h1:B≤B'):FIn w' B F b o:=FIn.keep (fun q hq=>hb.cell (by omega)) (Nat.le_refl _) F b o hb0 h
theorem FIn.on{w w':World}{b o:Nat}{F:VF}(h:FIn w w.heap.size F b o)(hb0:b<w.heap.size)(hb:Below w.heap.size w w'):FIn w' w'.heap.size F b o:=FIn.keep (fun q hq=>hb.cell hq) hb.size F b o hb0 h
theorem FIn.drop{w:World}{B:Nat}:∀(F:VF) (b o i:Nat),FIn w B F b o→FIn w B (F.drop i) b (o+i*5):=by
 intro F
 induction F with
 |nil=>intro b o i _;cases i<;>trivial
 |cons d p r _ ih=>
  intro b o i h
  cases i with
  |zero=>rw[Nat.zero_mul,Nat.add_zero];exact h
  |succ i=>
   have:=ih b (o+5) i h.2
   rw[show o+(i+1)*5=o+5+i*5 by omega]
   exact this
theorem FIn.at_{w:World}{B b o i:Nat}{F:VF}{d:Nd}{p r:VF}(h:FIn w B F b o)(hd:F.drop i=.cons d p r):∃sb sn sp,VK w b (o+i*5) d sb sn sp∧Hd w B d p.len (FIn w B p) sb sn sp:=by
 have:=FIn.drop F b o i h
 rw[hd] at this
 exact this.1
set_option maxRecDepth 100000 in
set_option maxHeartbeats 1000000 in
theorem Q2h{w:World}{n:Int}{Ab An Ap:Option Addr}{nb cb nn cn np cp:Nat}(hn1:(n != 0)=true)(hb1:0<nb):
  Calls Tryz.prog 142 #[.agg #[.int .i64 1,.int .i64 n,.slice Ab nb cb,.slice An nn cn,.slice Ap np cp]] w fun e w'=>e=.returned (.int .i64 6)∧Below w.heap.size w w':=by
 have hmf:=Zf
 have hb1':(0:Int)<(nb:Int):=by omega
 go_enter Tryz.func142,Tryz.ntmps142
 go_wp2_with fail
 refine(Qq (t:=true) [1,2,3,4] 1 (by simp only[Q4]) rfl rfl (by repeat(first|exact Xo _ _ _ _ _ _ _|refine Qh ?_)) (by decide) (by decide)).mono ?_
 rintro e w' ⟨rfl,rfl⟩
 go_wp2_with fail
 refine(Qq (t:=true) [1] 1 (by simp only[Q4]) rfl rfl (by repeat(first|exact Xo _ _ _ _ _ _ _|refine Qh ?_)) (by decide) (by decide)).mono ?_
 rintro e w' ⟨rfl,rfl⟩
 go_wp2_with fail
 refine(Qq (t:=false) [2] 1 (by simp only[Q4]) rfl rfl (by repeat(first|exact Xo _ _ _ _ _ _ _|refine Qh ?_)) (by decide) (by decide)).mono ?_
 rintro e w' ⟨rfl,rfl⟩
 go_wp2_with fail
 go_ret
 exact⟨rfl,(by repeat(first|exact Below.refl _ _|(refine Below.alloc ?_ (by first|exact Nat.le_refl _|(simp only[Q4];omega)) _)))⟩
set_option maxRecDepth 100000 in
set_option maxHeartbeats 1000000 in
theorem Q0Z{w:World}{n:Int}{Ab An Ap:Option Addr}{nb cb nn cn np cp:Nat}(hn1:(n != 0)=true)(hb0:nb=0)(hs1:0<nn):
  Calls Tryz.prog 142 #[.agg #[.int .i64 1,.int .i64 n,.slice Ab nb cb,.slice An nn cn,.slice Ap np cp]] w fun e w'=>e=.returned (.int .i64 6)∧Below w.heap.size w w':=by
 have hmf:=Zf
 subst hb0
 have hs1':(0:Int)<(nn:Int):=by omega
 go_enter Tryz.func142,Tryz.ntmps142
 go_wp2_with fail
 refine(Qq (t:=true) [1,2,3,4] 1 (by simp only[Q4]) rfl rfl (by repeat(first|exact Xo _ _ _ _ _ _ _|refine Qh ?_)) (by decide) (by decide)).mono ?_
 rintro e w' ⟨rfl,rfl⟩
 go_wp2_with fail
 refine(Qq (t:=true) [1] 1 (by simp only[Q4]) rfl rfl (by repeat(first|exact Xo _ _ _ _ _ _ _|refine Qh ?_)) (by decide) (by decide)).mono ?_
 rintro e w' ⟨rfl,rfl⟩
 go_wp2_with fail
 refine(Qq (t:=false) [4] 1 (by simp only[Q4]) rfl rfl (by repeat(first|exact Xo _ _ _ _ _ _ _|refine Qh ?_)) (by decide) (by decide)).mono ?_
 rintro e w' ⟨rfl,rfl⟩
 go_wp2_with fail
 go_ret
 exact⟨rfl,(by repeat(first|exact Below.refl _ _|(refine Below.alloc ?_ (by first|exact Nat.le_refl _|(simp only[Q4];omega)) _)))⟩
set_option maxRecDepth 100000 in
set_option maxHeartbeats 1000000 in
theorem KW{w:World}{n:Int}{Ab An Ap:Option Addr}{nb cb nn cn np cp:Nat}(hn1:(n != 0)=true)(hb0:nb=0)(hs0:nn=0)(hp1:0<np):
  Calls Tryz.prog 142 #[.agg #[.int .i64 1,.int .i64 n,.slice Ab nb cb,.slice An nn cn,.slice Ap np cp]] w fun e w'=>e=.returned (.int .i64 6)∧Below w.heap.size w w':=by
 have hmf:=Zf
 subst hb0
 subst hs0
 have hp1':(0:Int)<(np:Int):=by omega
 go_enter Tryz.func142,Tryz.ntmps142
 go_wp2_with fail
 refine(Qq (t:=true) [1,2,3,4] 1 (by simp only[Q4]) rfl rfl (by repeat(first|exact Xo _ _ _ _ _ _ _|refine Qh ?_)) (by decide) (by decide)).mono ?_
 rintro e w' ⟨rfl,rfl⟩
 go_wp2_with fail
 refine(Qq (t:=true) [1] 1 (by simp only[Q4]) rfl rfl (by repeat(first|exact Xo _ _ _ _ _ _ _|refine Qh ?_)) (by decide) (by decide)).mono ?_
 rintro e w' ⟨rfl,rfl⟩
 go_wp2_with fail
 refine(Qq (t:=false) [3,4] 1 (by simp only[Q4]) rfl rfl (by repeat(first|exact Xo _ _ _ _ _ _ _|refine Qh ?_)) (by decide) (by decide)).mono ?_
 rintro e w' ⟨rfl,rfl⟩
 go_wp2_with fail
 go_ret
 exact⟨rfl,(by repeat(first|exact Below.refl _ _|(refine Below.alloc ?_ (by first|exact Nat.le_refl _|(simp only[Q4];omega)) _)))⟩
set_option maxRecDepth 100000 in
set_option maxHeartbeats 1000000 in
theorem Q2k{w:World}{n:Int}{Ab An Ap:Option Addr}{nb cb nn cn np cp:Nat}(hn0:(n != 0)=false)(hb1:0<nb):
  Calls Tryz.prog 142 #[.agg #[.int .i64 1,.int .i64 n,.slice Ab nb cb,.slice An nn cn,.slice Ap np cp]] w fun e w'=>e=.returned (.int .i64 6)∧Below w.heap.size w w':=by
 have hmf:=Zf
 have hb1':(0:Int)<(nb:Int):=by omega
 go_enter Tryz.func142,Tryz.ntmps142
 go_wp2_with fail
 refine(Qq (t:=true) [1,2,3,4] 1 (by simp only[Q4]) rfl rfl (by repeat(first|exact Xo _ _ _ _ _ _ _|refine Qh ?_)) (by decide) (by decide)).mono ?_
 rintro e w' ⟨rfl,rfl⟩
 go_wp2_with fail
 refine(Qq (t:=false) [2] 1 (by simp only[Q4]) rfl rfl (by repeat(first|exact Xo _ _ _ _ _ _ _|refine Qh ?_)) (by decide) (by decide)).mono ?_
 rintro e w' ⟨rfl,rfl⟩
 go_wp2_with fail
 go_ret
 exact⟨rfl,(by repeat(first|exact Below.refl _ _|(refine Below.alloc ?_ (by first|exact Nat.le_refl _|(simp only[Q4];omega)) _)))⟩
set_option maxRecDepth 100000 in
set_option maxHeartbeats 1000000 in
theorem Q17{w:World}{n:Int}{Ab An Ap:Option Addr}{nb cb nn cn np cp:Nat}(hn0:(n != 0)=false)(hb0:nb=0)(hs1:0<nn):
  Calls Tryz.prog 142 #[.agg #[.int .i64 1,.int .i64 n,.slice Ab nb cb,.slice An nn cn,.slice Ap np cp]] w fun e w'=>e=.returned (.int .i64 6)∧Below w.heap.size w w':=by
 have hmf:=Zf
 subst hb0
 have hs1':(0:Int)<(nn:Int):=by omega
 go_enter Tryz.func142,Tryz.ntmps142
 go_wp2_with fail
 refine(Qq (t:=true) [1,2,3,4] 1 (by simp only[Q4]) rfl rfl (by repeat(first|exact Xo _ _ _ _ _ _ _|refine Qh ?_)) (by decide) (by decide)).mono ?_
 rintro e w' ⟨rfl,rfl⟩
 go_wp2_with fail
 refine(Qq (t:=false) [4] 1 (by simp only[Q4]) rfl rfl (by repeat(first|exact Xo _ _ _ _ _ _ _|refine Qh ?_)) (by decide) (by decide)).mono ?_
 rintro e w' ⟨rfl,rfl⟩
 go_wp2_with fail
 go_ret
 exact⟨rfl,(by repeat(first|exact Below.refl _ _|(refine Below.alloc ?_ (by first|exact Nat.le_refl _|(simp only[Q4];omega)) _)))⟩
set_option maxRecDepth 100000 in
set_option maxHeartbeats 1000000 in
theorem KT{w:World}{n:Int}{Ab An Ap:Option Addr}{nb cb nn cn np cp:Nat}(hn0:(n != 0)=false)(hb0:nb=0)(hs0:nn=0)(hp1:0<np):
  Calls Tryz.prog 142 #[.agg #[.int .i64 1,.int .i64 n,.slice Ab nb cb,.slice An nn cn,.slice Ap np cp]] w fun e w'=>e=.returned (.int .i64 6)∧Below w.heap.size w w':=by
 have hmf:=Zf
 subst hb0
 subst hs0
 have hp1':(0:Int)<(np:Int):=by omega
 go_enter Tryz.func142,Tryz.ntmps142
 go_wp2_with fail
 refine(Qq (t:=true) [1,2,3,4] 1 (by simp only[Q4]) rfl rfl (by repeat(first|exact Xo _ _ _ _ _ _ _|refine Qh ?_)) (by decide) (by decide)).mono ?_
 rintro e w' ⟨rfl,rfl⟩
 go_wp2_with fail
 refine(Qq (t:=false) [3,4] 1 (by simp only[Q4]) rfl rfl (by repeat(first|exact Xo _ _ _ _ _ _ _|refine Qh ?_)) (by decide) (by decide)).mono ?_
 rintro e w' ⟨rfl,rfl⟩
 go_wp2_with fail
 go_ret
 exact⟨rfl,(by repeat(first|exact Below.refl _ _|(refine Below.alloc ?_ (by first|exact Nat.le_refl _|(simp only[Q4];omega)) _)))⟩
set_option maxRecDepth 100000 in
set_option maxHeartbeats 1000000 in
theorem Q3U{w:World}{n:Int}{Ab An Ap:Option Addr}{nb cb nn cn np cp:Nat}(hn1:(n != 0)=true):
  Calls Tryz.prog 142 #[.agg #[.int .i64 2,.int .i64 n,.slice Ab nb cb,.slice An nn cn,.slice Ap np cp]] w fun e w'=>e=.returned (.int .i64 6)∧Below w.heap.size w w':=by
 have hmf:=Zf
 go_enter Tryz.func142,Tryz.ntmps142
 go_wp2_with fail
 refine(Qq (t:=true) [1,2,3,4] 2 (by simp only[Q4]) rfl rfl (by repeat(first|exact Xo _ _ _ _ _ _ _|refine Qh ?_)) (by decide) (by decide)).mono ?_
 rintro e w' ⟨rfl,rfl⟩
 go_wp2_with fail
 refine(Qq (t:=false) [1] 2 (by simp only[Q4]) rfl rfl (by repeat(first|exact Xo _ _ _ _ _ _ _|refine Qh ?_)) (by decide) (by decide)).mono ?_
 rintro e w' ⟨rfl,rfl⟩
 go_wp2_with fail
 go_ret
 exact⟨rfl,(by repeat(first|exact Below.refl _ _|(refine Below.alloc ?_ (by first|exact Nat.le_refl _|(simp only[Q4];omega)) _)))⟩
set_option maxRecDepth 100000 in
set_option maxHeartbeats 1000000 in
theorem Q0R{w:World}{n:Int}{Ab An Ap:Option Addr}{nb cb nn cn np cp:Nat}(hn0:(n != 0)=false)(hb1:0<nb)(hs1:0<nn):
  Calls Tryz.prog 142 #[.agg #[.int .i64 2,.int .i64 n,.slice Ab nb cb,.slice An nn cn,.slice Ap np cp]] w fun e w'=>e=.returned (.int .i64 6)∧Below w.heap.size w w':=by
 have hmf:=Zf
 have hb1':(0:Int)<(nb:Int):=by omega
 have hs1':(0:Int)<(nn:Int):=by omega
 go_enter Tryz.func142,Tryz.ntmps142
 go_wp2_with fail
 refine(Qq (t:=true) [1,2,3,4] 2 (by simp only[Q4]) rfl rfl (by repeat(first|exact Xo _ _ _ _ _ _ _|refine Qh ?_)) (by decide) (by decide)).mono ?_
 rintro e w' ⟨rfl,rfl⟩
 go_wp2_with fail
 refine(Qq (t:=true) [2] 2 (by simp only[Q4]) rfl rfl (by repeat(first|exact Xo _ _ _ _ _ _ _|refine Qh ?_)) (by decide) (by decide)).mono ?_
 rintro e w' ⟨rfl,rfl⟩
 go_wp2_with fail
 refine(Qq (t:=false) [4] 2 (by simp only[Q4]) rfl rfl (by repeat(first|exact Xo _ _ _ _ _ _ _|refine Qh ?_)) (by decide) (by decide)).mono ?_
 rintro e w' ⟨rfl,rfl⟩
 go_wp2_with fail
 go_ret
 exact⟨rfl,(by repeat(first|exact Below.refl _ _|(refine Below.alloc ?_ (by first|exact Nat.le_refl _|(simp only[Q4];omega)) _)))⟩
set_option maxRecDepth 100000 in
set_option maxHeartbeats 1000000 in
theorem KQ{w:World}{n:Int}{Ab An Ap:Option Addr}{nb cb nn cn np cp:Nat}(hn0:(n != 0)=false)(hb1:0<nb)(hs0:nn=0)(hp1:0<np):
  Calls Tryz.prog 142 #[.agg #[.int .i64 2,.int .i64 n,.slice Ab nb cb,.slice An nn cn,.slice Ap np cp]] w fun e w'=>e=.returned (.int .i64 6)∧Below w.heap.size w w':=by
 have hmf:=Zf
 have hb1':(0:Int)<(nb:Int):=by omega
 subst hs0
 have hp1':(0:Int)<(np:Int):=by omega
 go_enter Tryz.func142,Tryz.ntmps142
 go_wp2_with fail
 refine(Qq (t:=true) [1,2,3,4] 2 (by simp only[Q4]) rfl rfl (by repeat(first|exact Xo _ _ _ _ _ _ _|refine Qh ?_)) (by decide) (by decide)).mono ?_
 rintro e w' ⟨rfl,rfl⟩
 go_wp2_with fail
 refine(Qq (t:=true) [2] 2 (by simp only[Q4]) rfl rfl (by repeat(first|exact Xo _ _ _ _ _ _ _|refine Qh ?_)) (by decide) (by decide)).mono ?_
 rintro e w' ⟨rfl,rfl⟩
 go_wp2_with fail
 refine(Qq (t:=false) [3,4] 2 (by simp only[Q4]) rfl rfl (by repeat(first|exact Xo _ _ _ _ _ _ _|refine Qh ?_)) (by decide) (by decide)).mono ?_
 rintro e w' ⟨rfl,rfl⟩
 go_wp2_with fail
 go_ret
 exact⟨rfl,(by repeat(first|exact Below.refl _ _|(refine Below.alloc ?_ (by first|exact Nat.le_refl _|(simp only[Q4];omega)) _)))⟩
set_option maxRecDepth 100000 in
set_option maxHeartbeats 1000000 in
theorem Q0N{w:World}{n:Int}{Ab An Ap:Option Addr}{nb cb nn cn np cp:Nat}(hn0:(n != 0)=false)(hb0:nb=0)(hs1:0<nn):
  Calls Tryz.prog 142 #[.agg #[.int .i64 2,.int .i64 n,.slice Ab nb cb,.slice An nn cn,.slice Ap np cp]] w fun e w'=>e=.returned (.int .i64 6)∧Below w.heap.size w w':=by
 have hmf:=Zf
 subst hb0
 have hs1':(0:Int)<(nn:Int):=by omega
 go_enter Tryz.func142,Tryz.ntmps142
 go_wp2_with fail
 refine(Qq (t:=true) [1,2,3,4] 2 (by simp only[Q4]) rfl rfl (by repeat(first|exact Xo _ _ _ _ _ _ _|refine Qh ?_)) (by decide) (by decide)).mono ?_
 rintro e w' ⟨rfl,rfl⟩
 go_wp2_with fail
 refine(Qq (t:=false) [4] 2 (by simp only[Q4]) rfl rfl (by repeat(first|exact Xo _ _ _ _ _ _ _|refine Qh ?_)) (by decide) (by decide)).mono ?_
 rintro e w' ⟨rfl,rfl⟩
 go_wp2_with fail
 go_ret
 exact⟨rfl,(by repeat(first|exact Below.refl _ _|(refine Below.alloc ?_ (by first|exact Nat.le_refl _|(simp only[Q4];omega)) _)))⟩
set_option maxRecDepth 100000 in
set_option maxHeartbeats 1000000 in
theorem KR{w:World}{n:Int}{Ab An Ap:Option Addr}{nb cb nn cn np cp:Nat}(hn0:(n != 0)=false)(hb0:nb=0)(hs0:nn=0)(hp1:0<np):
  Calls Tryz.prog 142 #[.agg #[.int .i64 2,.int .i64 n,.slice Ab nb cb,.slice An nn cn,.slice Ap np cp]] w fun e w'=>e=.returned (.int .i64 6)∧Below w.heap.size w w':=by
 have hmf:=Zf
 subst hb0
 subst hs0
 have hp1':(0:Int)<(np:Int):=by omega
 go_enter Tryz.func142,Tryz.ntmps142
 go_wp2_with fail
 refine(Qq (t:=true) [1,2,3,4] 2 (by simp only[Q4]) rfl rfl (by repeat(first|exact Xo _ _ _ _ _ _ _|refine Qh ?_)) (by decide) (by decide)).mono ?_
 rintro e w' ⟨rfl,rfl⟩
 go_wp2_with fail
 refine(Qq (t:=false) [3,4] 2 (by simp only[Q4]) rfl rfl (by repeat(first|exact Xo _ _ _ _ _ _ _|refine Qh ?_)) (by decide) (by decide)).mono ?_
 rintro e w' ⟨rfl,rfl⟩
 go_wp2_with fail
 go_ret
 exact⟨rfl,(by repeat(first|exact Below.refl _ _|(refine Below.alloc ?_ (by first|exact Nat.le_refl _|(simp only[Q4];omega)) _)))⟩
set_option maxRecDepth 100000 in
set_option maxHeartbeats 1000000 in
theorem Q3X{w:World}{n:Int}{Ab An Ap:Option Addr}{nb cb nn cn np cp:Nat}(hn1:(n != 0)=true):
  Calls Tryz.prog 142 #[.agg #[.int .i64 3,.int .i64 n,.slice Ab nb cb,.slice An nn cn,.slice Ap np cp]] w fun e w'=>e=.returned (.int .i64 6)∧Below w.heap.size w w':=by
 have hmf:=Zf
 go_enter Tryz.func142,Tryz.ntmps142
 go_wp2_with fail
 refine(Qq (t:=true) [1,2,3,4] 3 (by simp only[Q4]) rfl rfl (by repeat(first|exact Xo _ _ _ _ _ _ _|refine Qh ?_)) (by decide) (by decide)).mono ?_
 rintro e w' ⟨rfl,rfl⟩
 go_wp2_with fail
 refine(Qq (t:=false) [1] 3 (by simp only[Q4]) rfl rfl (by repeat(first|exact Xo _ _ _ _ _ _ _|refine Qh ?_)) (by decide) (by decide)).mono ?_
 rintro e w' ⟨rfl,rfl⟩
 go_wp2_with fail
 go_ret
 exact⟨rfl,(by repeat(first|exact Below.refl _ _|(refine Below.alloc ?_ (by first|exact Nat.le_refl _|(simp only[Q4];omega)) _)))⟩
set_option maxRecDepth 100000 in
set_option maxHeartbeats 1000000 in
theorem Q2i{w:World}{n:Int}{Ab An Ap:Option Addr}{nb cb nn cn np cp:Nat}(hn0:(n != 0)=false)(hb1:0<nb):
  Calls Tryz.prog 142 #[.agg #[.int .i64 3,.int .i64 n,.slice Ab nb cb,.slice An nn cn,.slice Ap np cp]] w fun e w'=>e=.returned (.int .i64 6)∧Below w.heap.size w w':=by
 have hmf:=Zf
 have hb1':(0:Int)<(nb:Int):=by omega
 go_enter Tryz.func142,Tryz.ntmps142
 go_wp2_with fail
 refine(Qq (t:=true) [1,2,3,4] 3 (by simp only[Q4]) rfl rfl (by repeat(first|exact Xo _ _ _ _ _ _ _|refine Qh ?_)) (by decide) (by decide)).mono ?_
 rintro e w' ⟨rfl,rfl⟩
 go_wp2_with fail
 refine(Qq (t:=false) [2] 3 (by simp only[Q4]) rfl rfl (by repeat(first|exact Xo _ _ _ _ _ _ _|refine Qh ?_)) (by decide) (by decide)).mono ?_
 rintro e w' ⟨rfl,rfl⟩
 go_wp2_with fail
 go_ret
 exact⟨rfl,(by repeat(first|exact Below.refl _ _|(refine Below.alloc ?_ (by first|exact Nat.le_refl _|(simp only[Q4];omega)) _)))⟩
set_option maxRecDepth 100000 in
set_option maxHeartbeats 1000000 in
theorem Q0F{w:World}{n:Int}{Ab An Ap:Option Addr}{nb cb nn cn np cp:Nat}(hn0:(n != 0)=false)(hb0:nb=0)(hs1:0<nn):
  Calls Tryz.prog 142 #[.agg #[.int .i64 3,.int .i64 n,.slice Ab nb cb,.slice An nn cn,.slice Ap np cp]] w fun e w'=>e=.returned (.int .i64 6)∧Below w.heap.size w w':=by
 have hmf:=Zf
 subst hb0
 have hs1':(0:Int)<(nn:Int):=by omega
 go_enter Tryz.func142,Tryz.ntmps142
 go_wp2_with fail
 refine(Qq (t:=true) [1,2,3,4] 3 (by simp only[Q4]) rfl rfl (by repeat(first|exact Xo _ _ _ _ _ _ _|refine Qh ?_)) (by decide) (by decide)).mono ?_
 rintro e w' ⟨rfl,rfl⟩
 go_wp2_with fail
 refine(Qq (t:=false) [4] 3 (by simp only[Q4]) rfl rfl (by repeat(first|exact Xo _ _ _ _ _ _ _|refine Qh ?_)) (by decide) (by decide)).mono ?_
 rintro e w' ⟨rfl,rfl⟩
 go_wp2_with fail
 go_ret
 exact⟨rfl,(by repeat(first|exact Below.refl _ _|(refine Below.alloc ?_ (by first|exact Nat.le_refl _|(simp only[Q4];omega)) _)))⟩
set_option maxRecDepth 100000 in
set_option maxHeartbeats 1000000 in
theorem Q3K{w:World}{n:Int}{Ab An Ap:Option Addr}{nb cb nn cn np cp:Nat}(hn1:(n != 0)=true):
  Calls Tryz.prog 142 #[.agg #[.int .i64 4,.int .i64 n,.slice Ab nb cb,.slice An nn cn,.slice Ap np cp]] w fun e w'=>e=.returned (.int .i64 6)∧Below w.heap.size w w':=by
 have hmf:=Zf
 go_enter Tryz.func142,Tryz.ntmps142
 go_wp2_with fail
 refine(Qq (t:=true) [1,2,3,4] 4 (by simp only[Q4]) rfl rfl (by repeat(first|exact Xo _ _ _ _ _ _ _|refine Qh ?_)) (by decide) (by decide)).mono ?_
 rintro e w' ⟨rfl,rfl⟩
 go_wp2_with fail
 refine(Qq (t:=false) [1] 4 (by simp only[Q4]) rfl rfl (by repeat(first|exact Xo _ _ _ _ _ _ _|refine Qh ?_)) (by decide) (by decide)).mono ?_
 rintro e w' ⟨rfl,rfl⟩
 go_wp2_with fail
 go_ret
 exact⟨rfl,(by repeat(first|exact Below.refl _ _|(refine Below.alloc ?_ (by first|exact Nat.le_refl _|(simp only[Q4];omega)) _)))⟩
set_option maxRecDepth 100000 in
set_option maxHeartbeats 1000000 in
theorem Q2g{w:World}{n:Int}{Ab An Ap:Option Addr}{nb cb nn cn np cp:Nat}(hn0:(n != 0)=false)(hb1:0<nb):
  Calls Tryz.prog 142 #[.agg #[.int .i64 4,.int .i64 n,.slice Ab nb cb,.slice An nn cn,.slice Ap np cp]] w fun e w'=>e=.returned (.int .i64 6)∧Below w.heap.size w w':=by
 have hmf:=Zf
 have hb1':(0:Int)<(nb:Int):=by omega
 go_enter Tryz.func142,Tryz.ntmps142
 go_wp2_with fail
 refine(Qq (t:=true) [1,2,3,4] 4 (by simp only[Q4]) rfl rfl (by repeat(first|exact Xo _ _ _ _ _ _ _|refine Qh ?_)) (by decide) (by decide)).mono ?_
 rintro e w' ⟨rfl,rfl⟩
 go_wp2_with fail
 refine(Qq (t:=false) [2] 4 (by simp only[Q4]) rfl rfl (by repeat(first|exact Xo _ _ _ _ _ _ _|refine Qh ?_)) (by decide) (by decide)).mono ?_
 rintro e w' ⟨rfl,rfl⟩
 go_wp2_with fail
 go_ret
 exact⟨rfl,(by repeat(first|exact Below.refl _ _|(refine Below.alloc ?_ (by first|exact Nat.le_refl _|(simp only[Q4];omega)) _)))⟩
set_option maxRecDepth 100000 in
set_option maxHeartbeats 1000000 in
theorem KE{w:World}{n:Int}{Ab An Ap:Option Addr}{nb cb nn cn np cp:Nat}(hn0:(n != 0)=false)(hb0:nb=0)(hs1:0<nn)(hp1:0<np)(hne:¬nn=np):
  Calls Tryz.prog 142 #[.agg #[.int .i64 4,.int .i64 n,.slice Ab nb cb,.slice An nn cn,.slice Ap np cp]] w fun e w'=>e=.returned (.int .i64 6)∧Below w.heap.size w w':=by
 have hmf:=Zf
 subst hb0
 have hs1':(0:Int)<(nn:Int):=by omega
 have hp1':(0:Int)<(np:Int):=by omega
 have hne':((nn:Int) != (np:Int))=true:=by rw[bne_iff_ne];omega
 clear hne
 go_enter Tryz.func142,Tryz.ntmps142
 go_wp2_with fail
 refine(Qq (t:=true) [1,2,3,4] 4 (by simp only[Q4]) rfl rfl (by repeat(first|exact Xo _ _ _ _ _ _ _|refine Qh ?_)) (by decide) (by decide)).mono ?_
 rintro e w' ⟨rfl,rfl⟩
 go_wp2_with fail
 refine(Qq (t:=true) [4] 4 (by simp only[Q4]) rfl rfl (by repeat(first|exact Xo _ _ _ _ _ _ _|refine Qh ?_)) (by decide) (by decide)).mono ?_
 rintro e w' ⟨rfl,rfl⟩
 go_wp2_with fail
 refine(Qq (t:=true) [3,4] 4 (by simp only[Q4]) rfl rfl (by repeat(first|exact Xo _ _ _ _ _ _ _|refine Qh ?_)) (by decide) (by decide)).mono ?_
 rintro e w' ⟨rfl,rfl⟩
 go_wp2_with fail
 refine(Qq (t:=true) [4] 4 (by simp only[Q4]) rfl rfl (by repeat(first|exact Xo _ _ _ _ _ _ _|refine Qh ?_)) (by decide) (by decide)).mono ?_
 rintro e w' ⟨rfl,rfl⟩
 go_wp2_with fail
 go_ret
 exact⟨rfl,(by repeat(first|exact Below.refl _ _|(refine Below.alloc ?_ (by first|exact Nat.le_refl _|(simp only[Q4];omega)) _)))⟩
set_option maxRecDepth 100000 in
set_option maxHeartbeats 1000000 in
theorem KC{w:World}{n:Int}{Ab An Ap:Option Addr}{nb cb nn cn np cp:Nat}(hn0:(n != 0)=false)(hb0:nb=0)(hs1:0<nn)(hp0:np=0)(hne:¬nn=np):
  Calls Tryz.prog 142 #[.agg #[.int .i64 4,.int .i64 n,.slice Ab nb cb,.slice An nn cn,.slice Ap np cp]] w fun e w'=>e=.returned (.int .i64 6)∧Below w.heap.size w w':=by
 have hmf:=Zf
 subst hb0
 have hs1':(0:Int)<(nn:Int):=by omega
 subst hp0
 have hne':((nn:Int) != (0:Int))=true:=by rw[bne_iff_ne];omega
 clear hne
 go_enter Tryz.func142,Tryz.ntmps142
 go_wp2_with fail
 refine(Qq (t:=true) [1,2,3,4] 4 (by simp only[Q4]) rfl rfl (by repeat(first|exact Xo _ _ _ _ _ _ _|refine Qh ?_)) (by decide) (by decide)).mono ?_
 rintro e w' ⟨rfl,rfl⟩
 go_wp2_with fail
 refine(Qq (t:=true) [4] 4 (by simp only[Q4]) rfl rfl (by repeat(first|exact Xo _ _ _ _ _ _ _|refine Qh ?_)) (by decide) (by decide)).mono ?_
 rintro e w' ⟨rfl,rfl⟩
 go_wp2_with fail
 refine(Qq (t:=true) [4] 4 (by simp only[Q4]) rfl rfl (by repeat(first|exact Xo _ _ _ _ _ _ _|refine Qh ?_)) (by decide) (by decide)).mono ?_
 rintro e w' ⟨rfl,rfl⟩
 go_wp2_with fail
 go_ret
 exact⟨rfl,(by repeat(first|exact Below.refl _ _|(refine Below.alloc ?_ (by first|exact Nat.le_refl _|(simp only[Q4];omega)) _)))⟩
set_option maxRecDepth 100000 in
set_option maxHeartbeats 1000000 in
theorem K2{w:World}{n:Int}{Ab An Ap:Option Addr}{nb cb nn cn np cp:Nat}(hn0:(n != 0)=false)(hb0:nb=0)(hs0:nn=0)(hp1:0<np)(hne:¬nn=np):
  Calls Tryz.prog 142 #[.agg #[.int .i64 4,.int .i64 n,.slice Ab nb cb,.slice An nn cn,.slice Ap np cp]] w fun e w'=>e=.returned (.int .i64 6)∧Below w.heap.size w w':=by
 have hmf:=Zf
 subst hb0
 subst hs0
 have hp1':(0:Int)<(np:Int):=by omega
 have hne':((0:Int) != (np:Int))=true:=by rw[bne_iff_ne];omega
 clear hne
 go_enter Tryz.func142,Tryz.ntmps142
 go_wp2_with fail
 refine(Qq (t:=true) [1,2,3,4] 4 (by simp only[Q4]) rfl rfl (by repeat(first|exact Xo _ _ _ _ _ _ _|refine Qh ?_)) (by decide) (by decide)).mono ?_
 rintro e w' ⟨rfl,rfl⟩
 go_wp2_with fail
 refine(Qq (t:=true) [3,4] 4 (by simp only[Q4]) rfl rfl (by repeat(first|exact Xo _ _ _ _ _ _ _|refine Qh ?_)) (by decide) (by decide)).mono ?_
 rintro e w' ⟨rfl,rfl⟩
 go_wp2_with fail
 refine(Qq (t:=true) [4] 4 (by simp only[Q4]) rfl rfl (by repeat(first|exact Xo _ _ _ _ _ _ _|refine Qh ?_)) (by decide) (by decide)).mono ?_
 rintro e w' ⟨rfl,rfl⟩
 go_wp2_with fail
 go_ret
 exact⟨rfl,(by repeat(first|exact Below.refl _ _|(refine Below.alloc ?_ (by first|exact Nat.le_refl _|(simp only[Q4];omega)) _)))⟩
set_option maxRecDepth 100000 in
set_option maxHeartbeats 1000000 in
theorem Q0m{w:World}{n:Int}{Ab An Ap:Option Addr}{nb cb nn cn np cp:Nat}{ns:List (List UInt8)}(hr:Rd w w.heap.size 1 An nn (sv ns))(hncap:nn≤cn)(hnn:nn≤9223372036854775807)(hx:Small ns)(hn1:(n != 0)=true)(hb0:nb=0)(hs0:nn=0)(hp0:np=0):
  Calls Tryz.prog 142 #[.agg #[.int .i64 1,.int .i64 n,.slice Ab nb cb,.slice An nn cn,.slice Ap np cp]] w fun e w'=>e=.returned (.int .i64 (Jx ns np))∧Below w.heap.size w w':=by
 have hmf:=Zf
 have HL:=Lib.hid (show ns.length=nn by have:=hr.len;rw[XB] at this;exact this)
 have HR:=Lib.hid hr
 have HX:=Lib.hid hx
 clear hr hx
 have hb0':¬(0:Int)<(nb:Int):=by omega
 have hb0'':¬0<nb:=by omega
 clear hb0
 have hs0':¬(0:Int)<(nn:Int):=by omega
 have hs0'':¬0<nn:=by omega
 clear hs0
 have hp0':¬(0:Int)<(np:Int):=by omega
 have hp0'':¬0<np:=by omega
 clear hp0
 go_enter Tryz.func142,Tryz.ntmps142
 go_wp2_with fail
 refine(Qq (t:=true) [1,2,3,4] 1 (by simp only[Q4]) rfl rfl (by repeat(first|exact Xo _ _ _ _ _ _ _|refine Qh ?_)) (by decide) (by decide)).mono ?_
 rintro e w' ⟨rfl,rfl⟩
 go_wp2_with fail
 refine(Qq (t:=true) [1] 1 (by simp only[Q4]) rfl rfl (by repeat(first|exact Xo _ _ _ _ _ _ _|refine Qh ?_)) (by decide) (by decide)).mono ?_
 rintro e w' ⟨rfl,rfl⟩
 go_wp2_with fail
 refine(Qq (t:=false) [4] 1 (by simp only[Q4]) rfl rfl (by repeat(first|exact Xo _ _ _ _ _ _ _|refine Qh ?_)) (by decide) (by decide)).mono ?_
 rintro e w' ⟨rfl,rfl⟩
 have h600:¬600<np:=by omega
 have h600':¬(600:Int)<(np:Int):=by omega
 have HN6:=Lib.hid h600
 go_wp2_with fail
 refine(Xe (xs:=ns) ((HR.out.below (by repeat(first|exact Below.refl _ _|(refine Below.alloc ?_ (by first|exact Nat.le_refl _|(simp only[Q4];omega)) _)))).more (by simp only[Q4];omega)) hnn HX.out).mono ?_
 rintro e w2 ⟨rfl,hb2⟩
 have HB2:=Lib.hid (show Below w.heap.size w w2 from Qz (by repeat(first|exact Below.refl _ _|(refine Below.alloc ?_ (by first|exact Nat.le_refl _|(simp only[Q4];omega)) _))) hb2)
 have hbox:w2.cell? ⟨w.heap.size,3,none⟩=some (.slice An nn cn):=(hb2.cell (by simp only[Q4];omega)).trans (by repeat(first|exact Q5U _ _ _ _ _ _ _|refine Qh ?_))
 clear hb2
 by_cases hall:ns.all QG=true
 ·have HALL:=Lib.hid hall
  rw[HALL.out]
  clear hall
  go_wp2_with fail
  go_loop [76] (Kj ns) (fun k=>nn - (intOf k).toNat)
  case atStart=>exact⟨0,Nat.zero_le _,rfl,by simp⟩
  case round=>
   obtain⟨i,hi,rfl,hd⟩:=hrel
   rw[HL.out] at hi
   have HD:=Lib.hid hd
   clear hd
   by_cases hlt:i<nn
   ·omega
   ·have HT:=Lib.hid (Kb HN6.out HALL.out (by have:=HD.out;rwa [List.take_of_length_le (by rw[HL.out];omega)] at this))
    go_wp2_with fail
    go_ret
    exact⟨by rw[HT.out];rfl,HB2.out⟩
 ·have HALL:=Lib.hid (show ns.all QG=false by simpa using hall)
  have HT:=Lib.hid (YP HN6.out HALL.out)
  rw[HALL.out]
  clear hall
  go_wp2_with fail
  go_ret
  exact⟨by rw[HT.out];rfl,HB2.out⟩
set_option maxRecDepth 100000 in
set_option maxHeartbeats 1000000 in
theorem Q0q{w:World}{n:Int}{Ab An Ap:Option Addr}{nb cb nn cn np cp:Nat}{ns:List (List UInt8)}(hr:Rd w w.heap.size 1 An nn (sv ns))(hncap:nn≤cn)(hnn:nn≤9223372036854775807)(hx:Small ns)(hn0:(n != 0)=false)(hb0:nb=0)(hs0:nn=0)(hp0:np=0):
  Calls Tryz.prog 142 #[.agg #[.int .i64 1,.int .i64 n,.slice Ab nb cb,.slice An nn cn,.slice Ap np cp]] w fun e w'=>e=.returned (.int .i64 (Jx ns np))∧Below w.heap.size w w':=by
 have hmf:=Zf
 have HL:=Lib.hid (show ns.length=nn by have:=hr.len;rw[XB] at this;exact this)
 have HR:=Lib.hid hr
 have HX:=Lib.hid hx
 clear hr hx
 have hb0':¬(0:Int)<(nb:Int):=by omega
 have hb0'':¬0<nb:=by omega
 clear hb0
 have hs0':¬(0:Int)<(nn:Int):=by omega
 have hs0'':¬0<nn:=by omega
 clear hs0
 have hp0':¬(0:Int)<(np:Int):=by omega
 have hp0'':¬0<np:=by omega
 clear hp0
 go_enter Tryz.func142,Tryz.ntmps142
 go_wp2_with fail
 refine(Qq (t:=true) [1,2,3,4] 1 (by simp only[Q4]) rfl rfl (by repeat(first|exact Xo _ _ _ _ _ _ _|refine Qh ?_)) (by decide) (by decide)).mono ?_
 rintro e w' ⟨rfl,rfl⟩
 go_wp2_with fail
 refine(Qq (t:=false) [4] 1 (by simp only[Q4]) rfl rfl (by repeat(first|exact Xo _ _ _ _ _ _ _|refine Qh ?_)) (by decide) (by decide)).mono ?_
 rintro e w' ⟨rfl,rfl⟩
 have h600:¬600<np:=by omega
 have h600':¬(600:Int)<(np:Int):=by omega
 have HN6:=Lib.hid h600
 go_wp2_with fail
 refine(Xe (xs:=ns) ((HR.out.below (by repeat(first|exact Below.refl _ _|(refine Below.alloc ?_ (by first|exact Nat.le_refl _|(simp only[Q4];omega)) _)))).more (by simp only[Q4];omega)) hnn HX.out).mono ?_
 rintro e w2 ⟨rfl,hb2⟩
 have HB2:=Lib.hid (show Below w.heap.size w w2 from Qz (by repeat(first|exact Below.refl _ _|(refine Below.alloc ?_ (by first|exact Nat.le_refl _|(simp only[Q4];omega)) _))) hb2)
 have hbox:w2.cell? ⟨w.heap.size,3,none⟩=some (.slice An nn cn):=(hb2.cell (by simp only[Q4];omega)).trans (by repeat(first|exact Q5U _ _ _ _ _ _ _|refine Qh ?_))
 clear hb2
 by_cases hall:ns.all QG=true
 ·have HALL:=Lib.hid hall
  rw[HALL.out]
  clear hall
  go_wp2_with fail
  go_loop [76] (Kj ns) (fun k=>nn - (intOf k).toNat)
  case atStart=>exact⟨0,Nat.zero_le _,rfl,by simp⟩
  case round=>
   obtain⟨i,hi,rfl,hd⟩:=hrel
   rw[HL.out] at hi
   have HD:=Lib.hid hd
   clear hd
   by_cases hlt:i<nn
   ·omega
   ·have HT:=Lib.hid (Kb HN6.out HALL.out (by have:=HD.out;rwa [List.take_of_length_le (by rw[HL.out];omega)] at this))
    go_wp2_with fail
    go_ret
    exact⟨by rw[HT.out];rfl,HB2.out⟩
 ·have HALL:=Lib.hid (show ns.all QG=false by simpa using hall)
  have HT:=Lib.hid (YP HN6.out HALL.out)
  rw[HALL.out]
  clear hall
  go_wp2_with fail
  go_ret
  exact⟨by rw[HT.out];rfl,HB2.out⟩
set_option maxRecDepth 100000 in
set_option maxHeartbeats 1000000 in
theorem Q0A{w:World}{n:Int}{Ab An Ap:Option Addr}{nb cb nn cn np cp:Nat}{ns:List (List UInt8)}(hr:Rd w w.heap.size 1 An nn (sv ns))(hncap:nn≤cn)(hnn:nn≤9223372036854775807)(hx:Small ns)(hn0:(n != 0)=false)(hb1:0<nb)(hs0:nn=0)(hp0:np=0):
  Calls Tryz.prog 142 #[.agg #[.int .i64 2,.int .i64 n,.slice Ab nb cb,.slice An nn cn,.slice Ap np cp]] w fun e w'=>e=.returned (.int .i64 (Jx ns np))∧Below w.heap.size w w':=by
 have hmf:=Zf
 have HL:=Lib.hid (show ns.length=nn by have:=hr.len;rw[XB] at this;exact this)
 have HR:=Lib.hid hr
 have HX:=Lib.hid hx
 clear hr hx
 have hb1':(0:Int)<(nb:Int):=by omega
 have hs0':¬(0:Int)<(nn:Int):=by omega
 have hs0'':¬0<nn:=by omega
 clear hs0
 have hp0':¬(0:Int)<(np:Int):=by omega
 have hp0'':¬0<np:=by omega
 clear hp0
 go_enter Tryz.func142,Tryz.ntmps142
 go_wp2_with fail
 refine(Qq (t:=true) [1,2,3,4] 2 (by simp only[Q4]) rfl rfl (by repeat(first|exact Xo _ _ _ _ _ _ _|refine Qh ?_)) (by decide) (by decide)).mono ?_
 rintro e w' ⟨rfl,rfl⟩
 go_wp2_with fail
 refine(Qq (t:=true) [2] 2 (by simp only[Q4]) rfl rfl (by repeat(first|exact Xo _ _ _ _ _ _ _|refine Qh ?_)) (by decide) (by decide)).mono ?_
 rintro e w' ⟨rfl,rfl⟩
 go_wp2_with fail
 refine(Qq (t:=false) [4] 2 (by simp only[Q4]) rfl rfl (by repeat(first|exact Xo _ _ _ _ _ _ _|refine Qh ?_)) (by decide) (by decide)).mono ?_
 rintro e w' ⟨rfl,rfl⟩
 have h600:¬600<np:=by omega
 have h600':¬(600:Int)<(np:Int):=by omega
 have HN6:=Lib.hid h600
 go_wp2_with fail
 refine(Xe (xs:=ns) ((HR.out.below (by repeat(first|exact Below.refl _ _|(refine Below.alloc ?_ (by first|exact Nat.le_refl _|(simp only[Q4];omega)) _)))).more (by simp only[Q4];omega)) hnn HX.out).mono ?_
 rintro e w2 ⟨rfl,hb2⟩
 have HB2:=Lib.hid (show Below w.heap.size w w2 from Qz (by repeat(first|exact Below.refl _ _|(refine Below.alloc ?_ (by first|exact Nat.le_refl _|(simp only[Q4];omega)) _))) hb2)
 have hbox:w2.cell? ⟨w.heap.size,3,none⟩=some (.slice An nn cn):=(hb2.cell (by simp only[Q4];omega)).trans (by repeat(first|exact Q5U _ _ _ _ _ _ _|refine Qh ?_))
 clear hb2
 by_cases hall:ns.all QG=true
 ·have HALL:=Lib.hid hall
  rw[HALL.out]
  clear hall
  go_wp2_with fail
  go_loop [76] (Kj ns) (fun k=>nn - (intOf k).toNat)
  case atStart=>exact⟨0,Nat.zero_le _,rfl,by simp⟩
  case round=>
   obtain⟨i,hi,rfl,hd⟩:=hrel
   rw[HL.out] at hi
   have HD:=Lib.hid hd
   clear hd
   by_cases hlt:i<nn
   ·omega
   ·have HT:=Lib.hid (Kb HN6.out HALL.out (by have:=HD.out;rwa [List.take_of_length_le (by rw[HL.out];omega)] at this))
    go_wp2_with fail
    go_ret
    exact⟨by rw[HT.out];rfl,HB2.out⟩
 ·have HALL:=Lib.hid (show ns.all QG=false by simpa using hall)
  have HT:=Lib.hid (YP HN6.out HALL.out)
  rw[HALL.out]
  clear hall
  go_wp2_with fail
  go_ret
  exact⟨by rw[HT.out];rfl,HB2.out⟩
set_option maxRecDepth 100000 in
set_option maxHeartbeats 1000000 in
theorem Q0z{w:World}{n:Int}{Ab An Ap:Option Addr}{nb cb nn cn np cp:Nat}{ns:List (List UInt8)}(hr:Rd w w.heap.size 1 An nn (sv ns))(hncap:nn≤cn)(hnn:nn≤9223372036854775807)(hx:Small ns)(hn0:(n != 0)=false)(hb0:nb=0)(hs0:nn=0)(hp0:np=0):
  Calls Tryz.prog 142 #[.agg #[.int .i64 2,.int .i64 n,.slice Ab nb cb,.slice An nn cn,.slice Ap np cp]] w fun e w'=>e=.returned (.int .i64 (Jx ns np))∧Below w.heap.size w w':=by
 have hmf:=Zf
 have HL:=Lib.hid (show ns.length=nn by have:=hr.len;rw[XB] at this;exact this)
 have HR:=Lib.hid hr
 have HX:=Lib.hid hx
 clear hr hx
 have hb0':¬(0:Int)<(nb:Int):=by omega
 have hb0'':¬0<nb:=by omega
 clear hb0
 have hs0':¬(0:Int)<(nn:Int):=by omega
 have hs0'':¬0<nn:=by omega
 clear hs0
 have hp0':¬(0:Int)<(np:Int):=by omega
 have hp0'':¬0<np:=by omega
 clear hp0
 go_enter Tryz.func142,Tryz.ntmps142
 go_wp2_with fail
 refine(Qq (t:=true) [1,2,3,4] 2 (by simp only[Q4]) rfl rfl (by repeat(first|exact Xo _ _ _ _ _ _ _|refine Qh ?_)) (by decide) (by decide)).mono ?_
 rintro e w' ⟨rfl,rfl⟩
 go_wp2_with fail
 refine(Qq (t:=false) [4] 2 (by simp only[Q4]) rfl rfl (by repeat(first|exact Xo _ _ _ _ _ _ _|refine Qh ?_)) (by decide) (by decide)).mono ?_
 rintro e w' ⟨rfl,rfl⟩
 have h600:¬600<np:=by omega
 have h600':¬(600:Int)<(np:Int):=by omega
 have HN6:=Lib.hid h600
 go_wp2_with fail
 refine(Xe (xs:=ns) ((HR.out.below (by repeat(first|exact Below.refl _ _|(refine Below.alloc ?_ (by first|exact Nat.le_refl _|(simp only[Q4];omega)) _)))).more (by simp only[Q4];omega)) hnn HX.out).mono ?_
 rintro e w2 ⟨rfl,hb2⟩
 have HB2:=Lib.hid (show Below w.heap.size w w2 from Qz (by repeat(first|exact Below.refl _ _|(refine Below.alloc ?_ (by first|exact Nat.le_refl _|(simp only[Q4];omega)) _))) hb2)
 have hbox:w2.cell? ⟨w.heap.size,3,none⟩=some (.slice An nn cn):=(hb2.cell (by simp only[Q4];omega)).trans (by repeat(first|exact Q5U _ _ _ _ _ _ _|refine Qh ?_))
 clear hb2
 by_cases hall:ns.all QG=true
 ·have HALL:=Lib.hid hall
  rw[HALL.out]
  clear hall
  go_wp2_with fail
  go_loop [76] (Kj ns) (fun k=>nn - (intOf k).toNat)
  case atStart=>exact⟨0,Nat.zero_le _,rfl,by simp⟩
  case round=>
   obtain⟨i,hi,rfl,hd⟩:=hrel
   rw[HL.out] at hi
   have HD:=Lib.hid hd
   clear hd
   by_cases hlt:i<nn
   ·omega
   ·have HT:=Lib.hid (Kb HN6.out HALL.out (by have:=HD.out;rwa [List.take_of_length_le (by rw[HL.out];omega)] at this))
    go_wp2_with fail
    go_ret
    exact⟨by rw[HT.out];rfl,HB2.out⟩
 ·have HALL:=Lib.hid (show ns.all QG=false by simpa using hall)
  have HT:=Lib.hid (YP HN6.out HALL.out)
  rw[HALL.out]
  clear hall
  go_wp2_with fail
  go_ret
  exact⟨by rw[HT.out];rfl,HB2.out⟩
set_option maxRecDepth 100000 in
set_option maxHeartbeats 1000000 in
theorem Q0v{w:World}{n:Int}{Ab An Ap:Option Addr}{nb cb nn cn np cp:Nat}{ns:List (List UInt8)}(hr:Rd w w.heap.size 1 An nn (sv ns))(hncap:nn≤cn)(hnn:nn≤9223372036854775807)(hx:Small ns)(hn0:(n != 0)=false)(hb0:nb=0)(hs0:nn=0)(hp1:0<np):
  Calls Tryz.prog 142 #[.agg #[.int .i64 3,.int .i64 n,.slice Ab nb cb,.slice An nn cn,.slice Ap np cp]] w fun e w'=>e=.returned (.int .i64 (Jx ns np))∧Below w.heap.size w w':=by
 have hmf:=Zf
 have HL:=Lib.hid (show ns.length=nn by have:=hr.len;rw[XB] at this;exact this)
 have HR:=Lib.hid hr
 have HX:=Lib.hid hx
 clear hr hx
 have hb0':¬(0:Int)<(nb:Int):=by omega
 have hb0'':¬0<nb:=by omega
 clear hb0
 have hs0':¬(0:Int)<(nn:Int):=by omega
 have hs0'':¬0<nn:=by omega
 clear hs0
 have hp1':(0:Int)<(np:Int):=by omega
 go_enter Tryz.func142,Tryz.ntmps142
 go_wp2_with fail
 refine(Qq (t:=true) [1,2,3,4] 3 (by simp only[Q4]) rfl rfl (by repeat(first|exact Xo _ _ _ _ _ _ _|refine Qh ?_)) (by decide) (by decide)).mono ?_
 rintro e w' ⟨rfl,rfl⟩
 go_wp2_with fail
 refine(Qq (t:=true) [3,4] 3 (by simp only[Q4]) rfl rfl (by repeat(first|exact Xo _ _ _ _ _ _ _|refine Qh ?_)) (by decide) (by decide)).mono ?_
 rintro e w' ⟨rfl,rfl⟩
 go_wp2_with fail
 refine(Qq (t:=false) [4] 3 (by simp only[Q4]) rfl rfl (by repeat(first|exact Xo _ _ _ _ _ _ _|refine Qh ?_)) (by decide) (by decide)).mono ?_
 rintro e w' ⟨rfl,rfl⟩
 by_cases h600:600<np
 ·have HT:=Lib.hid (Q5K (ns:=ns) h600)
  have h600':(600:Int)<(np:Int):=by omega
  go_wp2_with fail
  go_ret
  exact⟨by rw[HT.out];rfl,(by repeat(first|exact Below.refl _ _|(refine Below.alloc ?_ (by first|exact Nat.le_refl _|(simp only[Q4];omega)) _)))⟩
 ·have h600':¬(600:Int)<(np:Int):=by omega
  have HN6:=Lib.hid h600
  go_wp2_with fail
  refine(Xe (xs:=ns) ((HR.out.below (by repeat(first|exact Below.refl _ _|(refine Below.alloc ?_ (by first|exact Nat.le_refl _|(simp only[Q4];omega)) _)))).more (by simp only[Q4];omega)) hnn HX.out).mono ?_
  rintro e w2 ⟨rfl,hb2⟩
  have HB2:=Lib.hid (show Below w.heap.size w w2 from Qz (by repeat(first|exact Below.refl _ _|(refine Below.alloc ?_ (by first|exact Nat.le_refl _|(simp only[Q4];omega)) _))) hb2)
  have hbox:w2.cell? ⟨w.heap.size,3,none⟩=some (.slice An nn cn):=(hb2.cell (by simp only[Q4];omega)).trans (by repeat(first|exact Q5U _ _ _ _ _ _ _|refine Qh ?_))
  clear hb2
  by_cases hall:ns.all QG=true
  ·have HALL:=Lib.hid hall
   rw[HALL.out]
   clear hall
   go_wp2_with fail
   go_loop [76] (Kj ns) (fun k=>nn - (intOf k).toNat)
   case atStart=>exact⟨0,Nat.zero_le _,rfl,by simp⟩
   case round=>
    obtain⟨i,hi,rfl,hd⟩:=hrel
    rw[HL.out] at hi
    have HD:=Lib.hid hd
    clear hd
    by_cases hlt:i<nn
    ·omega
    ·have HT:=Lib.hid (Kb HN6.out HALL.out (by have:=HD.out;rwa [List.take_of_length_le (by rw[HL.out];omega)] at this))
     go_wp2_with fail
     go_ret
     exact⟨by rw[HT.out];rfl,HB2.out⟩
  ·have HALL:=Lib.hid (show ns.all QG=false by simpa using hall)
   have HT:=Lib.hid (YP HN6.out HALL.out)
   rw[HALL.out]
   clear hall
   go_wp2_with fail
   go_ret
   exact⟨by rw[HT.out];rfl,HB2.out⟩
set_option maxRecDepth 100000 in
set_option maxHeartbeats 1000000 in
theorem Q07{w:World}{n:Int}{Ab An Ap:Option Addr}{nb cb nn cn np cp:Nat}{ns:List (List UInt8)}(hr:Rd w w.heap.size 1 An nn (sv ns))(hncap:nn≤cn)(hnn:nn≤9223372036854775807)(hx:Small ns)(hn0:(n != 0)=false)(hb0:nb=0)(hs0:nn=0)(hp0:np=0):
  Calls Tryz.prog 142 #[.agg #[.int .i64 3,.int .i64 n,.slice Ab nb cb,.slice An nn cn,.slice Ap np cp]] w fun e w'=>e=.returned (.int .i64 (Jx ns np))∧Below w.heap.size w w':=by
 have hmf:=Zf
 have HL:=Lib.hid (show ns.length=nn by have:=hr.len;rw[XB] at this;exact this)
 have HR:=Lib.hid hr
 have HX:=Lib.hid hx
 clear hr hx
 have hb0':¬(0:Int)<(nb:Int):=by omega
 have hb0'':¬0<nb:=by omega
 clear hb0
 have hs0':¬(0:Int)<(nn:Int):=by omega
 have hs0'':¬0<nn:=by omega
 clear hs0
 have hp0':¬(0:Int)<(np:Int):=by omega
 have hp0'':¬0<np:=by omega
 clear hp0
 go_enter Tryz.func142,Tryz.ntmps142
 go_wp2_with fail
 refine(Qq (t:=true) [1,2,3,4] 3 (by simp only[Q4]) rfl rfl (by repeat(first|exact Xo _ _ _ _ _ _ _|refine Qh ?_)) (by decide) (by decide)).mono ?_
 rintro e w' ⟨rfl,rfl⟩
 go_wp2_with fail
 refine(Qq (t:=false) [4] 3 (by simp only[Q4]) rfl rfl (by repeat(first|exact Xo _ _ _ _ _ _ _|refine Qh ?_)) (by decide) (by decide)).mono ?_
 rintro e w' ⟨rfl,rfl⟩
 have h600:¬600<np:=by omega
 have h600':¬(600:Int)<(np:Int):=by omega
 have HN6:=Lib.hid h600
 go_wp2_with fail
 refine(Xe (xs:=ns) ((HR.out.below (by repeat(first|exact Below.refl _ _|(refine Below.alloc ?_ (by first|exact Nat.le_refl _|(simp only[Q4];omega)) _)))).more (by simp only[Q4];omega)) hnn HX.out).mono ?_
 rintro e w2 ⟨rfl,hb2⟩
 have HB2:=Lib.hid (show Below w.heap.size w w2 from Qz (by repeat(first|exact Below.refl _ _|(refine Below.alloc ?_ (by first|exact Nat.le_refl _|(simp only[Q4];omega)) _))) hb2)
 have hbox:w2.cell? ⟨w.heap.size,3,none⟩=some (.slice An nn cn):=(hb2.cell (by simp only[Q4];omega)).trans (by repeat(first|exact Q5U _ _ _ _ _ _ _|refine Qh ?_))
 clear hb2
 by_cases hall:ns.all QG=true
 ·have HALL:=Lib.hid hall
  rw[HALL.out]
  clear hall
  go_wp2_with fail
  go_loop [76] (Kj ns) (fun k=>nn - (intOf k).toNat)
  case atStart=>exact⟨0,Nat.zero_le _,rfl,by simp⟩
  case round=>
   obtain⟨i,hi,rfl,hd⟩:=hrel
   rw[HL.out] at hi
   have HD:=Lib.hid hd
   clear hd
   by_cases hlt:i<nn
   ·omega
   ·have HT:=Lib.hid (Kb HN6.out HALL.out (by have:=HD.out;rwa [List.take_of_length_le (by rw[HL.out];omega)] at this))
    go_wp2_with fail
    go_ret
    exact⟨by rw[HT.out];rfl,HB2.out⟩
 ·have HALL:=Lib.hid (show ns.all QG=false by simpa using hall)
  have HT:=Lib.hid (YP HN6.out HALL.out)
  rw[HALL.out]
  clear hall
  go_wp2_with fail
  go_ret
  exact⟨by rw[HT.out];rfl,HB2.out⟩
end Go.Proofs.YtphkhfdmlcnoeaaGreatDoor
