import Derived.Test.YtphkhfdmlcnoeaaGreatDoorP10
namespace Go.Proofs.YtphkhfdmlcnoeaaGreatDoor
set_option linter.unusedVariables false
set_option linter.unusedSimpArgs false
set_option maxRecDepth 1000000
set_option maxHeartbeats 32000000
section
variable {c:UInt8}
def leW:Nat->Int->List UInt8
 |0,_=>[]
 |k+1,n=>UInt8.ofNat (n % 256).toNat::leW k (n / 256)
def V4(big:Bool)(k:Nat)(n:Int):List UInt8:=if big then (leW k n).reverse else leW k n
def ZJ(r:Rl):UInt8:=UInt8.ofNat (r.stop % 256).toNat
def Z2(r:Rl)(n:Int):List UInt8:=if r.kind=3 then Lib.itoa n++[ZJ r] else V4 r.big r.size.toNat n
theorem Q3r:∀(k:Nat) (n:Int),(leW k n).length=k
 |0,n=>rfl
 |k+1,n=>by show (leW k _).length+1=_;rw[Q3r k]
theorem Q2k(b:Bool)(k:Nat)(n:Int):(V4 b k n).length=k:=by
 unfold V4;split
 ·rw[List.length_reverse,Q3r]
 ·exact Q3r k n
theorem QeJ:∀l:List UInt8,0<=leN l
 |[]=>Int.le_refl _
 |c::l=>by have:=QeJ l;unfold leN;omega
theorem Qfi:∀l:List UInt8,leN l<256 ^ l.length
 |[]=>by decide
 |c::l=>by
  have:=Qfi l;have hc:=c.toNat_lt
  unfold leN;rw[List.length_cons,Int.pow_succ];omega
theorem QkL:∀l:List UInt8,leW l.length (leN l)=l
 |[]=>rfl
 |c::l=>by
  have hc:=c.toNat_lt;have h0:=QeJ l
  show leW (l.length+1) _=_;unfold leW leN;have h1:((c.toNat:Int)+256*leN l) % 256=(c.toNat:Int):=by omega
  have h2:((c.toNat:Int)+256*leN l) / 256=leN l:=by omega
  rw[h1,h2,QkL l];simp
theorem Q4k(b:Bool)(l:List UInt8):0<=X3 b l:=by unfold X3;split<;>exact QeJ _
theorem QlY(b:Bool)(l:List UInt8):V4 b l.length (X3 b l)=l:=by
 unfold X3 V4;split
 ·have:=QkL l.reverse;rw[List.length_reverse] at this;rw[this,List.reverse_reverse]
 ·exact QkL l
theorem Qi3{r:Rl}(h:(c.toNat:Int)=r.stop):ZJ r=c:=by
 unfold ZJ;have:=c.toNat_lt;rw[<- h,show (c.toNat:Int) % 256=c.toNat by omega];simp
theorem Qbh:Qo6 c=true↔48<=c.toNat/\c.toNat<=57:=by unfold Qo6;simp
theorem Q6x{stop mx:Int}:∀{l:List UInt8} {n p:Nat} {m:Int} {q:Nat},Qcr stop mx l true (n:Int) p=some (.ok (m,q))->∃x c rest,l=x++c::rest/\x.all Qo6=true/\m=(Q4r n x:Nat)/\q=p+x.length+1/\(c.toNat:Int)=stop/\(n=0->x=[])/\((n:Int)<=mx->m<=mx)
 |[],n,p,m,q,h=>(Kt h).elim
 |c::l,n,p,m,q,h=>by
  unfold Qcr at h
  split at h
  ·next hs=>
   have:=XU h
   injection this with h1 h2;simp only[Bool.true_and,decide_eq_true_eq] at hs;exact⟨[],c,l,rfl,rfl,h1.symm,h2.symm,hs,fun _=>rfl,fun h=>by omega⟩
  split at h
  ·exact Q4E
  ·next hs hd=>
   simp only[Bool.true_and,Bool.or_eq_true,Bool.not_eq_true',decide_eq_false_iff_not,decide_eq_true_eq,not_or,Decidable.not_not] at hd;have e:(10*(n:Int)+((c.toNat:Int) - 48))=((10*n+(c.toNat - 48):Nat):Int):=by omega
   rw[e] at h;obtain⟨x,c',rest,hl,ha,hm,hq,hc,hz,hb⟩:=Q6x h;refine⟨c::x,c',rest,by rw[hl];rfl,?_,hm,?_,hc,fun h0=>absurd h0 Q3,fun _=>hb Q3⟩
   ·rw[List.all_cons,ha,Qbh.2 hd.1.1];rfl
   ·exact Q7N
theorem Qjd{stop mx:Int}{l:List UInt8}{p:Nat}{m:Int}{q:Nat}(h:Qcr stop mx l false 0 p=some (.ok (m,q))):∃c rest,l=Lib.itoa m++c::rest/\q=p+(Lib.itoa m).length+1/\(c.toNat:Int)=stop/\0<=m/\m<=mx/\∃d,(Lib.itoa m).head? =some d/\48<=d.toNat/\d.toNat<=57/\(d.toNat:Int) - 48<=mx:=by
 cases l with
 |nil=>exact(Kt h).elim
 |cons c l=>
  unfold Qcr at h;rw[if_neg Qn] at h;split at h
  ·exact Q4E
  ·next hd=>
   simp only[Bool.false_and,Bool.or_false,Bool.or_eq_true,Bool.not_eq_true',decide_eq_false_iff_not,decide_eq_true_eq,not_or,Decidable.not_not] at hd;have e:(10*(0:Int)+((c.toNat:Int) - 48))=((c.toNat - 48:Nat):Int):=by omega
   rw[e] at h;obtain⟨x,c',rest,hl,ha,hm,hq,hc,hz,hb⟩:=Q6x h;have hx:(c::x).all Qo6=true:=by rw[List.all_cons,ha,Qbh.2 hd.1];rfl
   have hv:Q4r 0 (c::x)=Q4r (c.toNat - 48) x:=by show Q4r (10*0+_) x=_;rw[Nat.mul_zero,Nat.zero_add]
   have hdec:Lib.itoa m=c::x:=by
    rw[QoY Q3,hm,Int.toNat_natCast,<- hv];refine QkI x.length (c::x) rfl hx fun h1 h2=>?_;have hc48:c=48:=by simpa using h2
    subst hc48;have:=hz rfl;rw[this] at h1;simp at h1
   refine⟨c',rest,by rw[hdec,hl];rfl,by rw[hdec,List.length_cons];omega,hc,by omega,hb Q3,c,by rw[hdec];rfl,hd.1.1,hd.1.2,by omega⟩
section
variable {r:Rl}{D:List UInt8}{p q:Nat}{n:Int}
def seg(D:List UInt8)(p q:Nat):List UInt8:=(D.drop p).take (q - p)
theorem Qt8{x rest:List UInt8}(h:D.drop p=x++rest):seg D p (p+x.length)=x:=by
 unfold seg;rw[h,show p+x.length - p=x.length by omega,List.take_left]
theorem QiE(hr:Qq3 r)(hp:p<=D.length)(h:Q4i r D p=some (.ok (n,q))):Z2 r n=seg D p q/\(r.kind=3->0<=n/\n<=r.mx)/\(r.kind≠3->r.mn<=n/\n<=r.mx)/\0<=n:=by
 have hfar:=Q11 hr hp h;unfold Q4i at h;unfold Z2;split at h
 ·next h3=>
  obtain⟨c,rest,hl,hq,hc,h0,h1,_⟩:=Qjd h;rw[if_pos h3,Qi3 hc];refine⟨?_,fun _=>⟨h0,h1⟩,fun h=>absurd h3 h,h0⟩;have:=Qt8 (D:=D) (p:=p) (x:=Lib.itoa n++[c]) (rest:=rest) (by rw[hl];simp);rw[<- this];congr 1;rw[List.length_append,hq];rfl
 ·next h3=>
  obtain⟨y,hy,hg⟩:=JA h;obtain⟨rfl,hn⟩:=Q0T hy;split at hg
  ·exact(Kt hg).elim
  ·next hb=>
   have:=XU hg;injection this with h1 h2;simp only at h1 h2 hb;rw[if_neg h3,<- h1];have hl:((D.drop p).take r.size.toNat).length=r.size.toNat:=by rw[List.length_take,List.length_drop];omega
   refine⟨?_,fun h=>absurd h h3,fun _=>by omega,Q4k _ _⟩;have:=QlY r.big ((D.drop p).take r.size.toNat);rw[hl] at this;rw[this,<- h2];unfold seg;congr 1;omega
structure JO(r:Rl):Prop where
 kind:r.kind=2\/r.kind=3
 num:r.kind=2->1<=r.size/\r.size<=4/\0<=r.mn/\r.mn<=r.mx/\r.mx<256 ^ r.size.toNat
 dec:r.kind=3->0<=r.mx/\r.mx<=999999999/\¬(48<=r.stop/\r.stop<=57)
 stop:r.kind=3->0<=r.stop/\r.stop<=255
 mn3:r.kind=3->r.mn=0
theorem JO.numK(h:JO r):Qq3 r:=by
 rcases h.kind with h2|h3
 ·exact .inr ⟨h2,(h.num h2).1⟩
 ·exact .inl h3
theorem JO.of{m:Nat}(h:ROk m r)(hk:r.kind=2\/r.kind=3):JO r:=by
 refine⟨hk,h.num,h.dec,fun h3=>h.stop (.inl h3),fun h3=>?_⟩;have hf:=h.formed;unfold Xd at hf;simp only[Bool.and_eq_true,Bool.or_eq_true,beq_iff_eq] at hf;have:=hf.1.1.1.1.1.2;rcases this with h|h
 ·exact h.2
 ·omega
def XP(r:Rl)(n:Int):Bool:=decide (r.mn<=n)&&decide (n<=r.mx)
theorem QcG:XP r n=true↔r.mn<=n/\n<=r.mx:=by unfold XP;simp
end
end
def VF.hdN:VF->Nd
 |.cons d _ _=>d
 |.nil=>⟨0,0,[],[]⟩
def QF(ns:List (List UInt8)):List (List UInt8):=ns.filter fun s=>s != []
def X0(F:List Rl)(r:Rl)(d:Nd)(p:VF):Bool:=
 if r.kind=1 then d.k==3&&p.len==0
 else if r.kind=2\/r.kind=3 then d.k==1&&XP r d.n
 else if r.kind=4 then d.k==2&&decide ((d.bs.length:Int)=r.size)
 else if r.kind=10 then d.k==2&&XP (Qh F r.count) (d.bs.length:Int)
 else if r.kind=5 then d.k==2&&decide ((d.bs.length:Int)<=r.size)&&!(d.bs.contains (ZJ r))
 else if r.kind=6 then d.k==3&&XP (Qh F r.count) (p.len:Int)
 else if r.kind=9 then d.k==3
 else if r.kind=8 then d.k==3&&p.len==2&&p.hdN.k==1&&decide (0<=p.hdN.n)&&decide (p.hdN.n<(r.parts.length:Int))
 else d.k==4&&d.ns==QF r.names
def Zo(F:List Rl)(r:Rl)(d:Nd)(p:VF):List UInt8:=
 if r.kind=1 then r.bs
 else if r.kind=2\/r.kind=3 then Z2 r d.n
 else if r.kind=4 then d.bs
 else if r.kind=10 then Z2 (Qh F r.count) (d.bs.length:Int)++d.bs
 else if r.kind=5 then d.bs++[ZJ r]
 else if r.kind=6 then Z2 (Qh F r.count) (p.len:Int)
 else []
def Q7z(F:List Rl):List (List UInt8)->List Int->List UInt8->List (List UInt8×Option Int)×List UInt8
 |nm::nms,k::ks,acc=>if nm=[] then Q7z F nms ks (acc++(Qh F k).bs) else ((acc,some k)::(Q7z F nms ks []).1,(Q7z F nms ks []).2)
 |_,_,acc=>([],acc)
def JE(F:List Rl)(r:Rl)(p:VF):List (List UInt8×Option Int):=
 if r.kind=6\/r.kind=9 then List.replicate p.len ([],some r.elem)
 else if r.kind=8 then [([],none),([],some (r.parts.getD p.hdN.n.toNat 0))]
 else if r.kind=7 then (Q7z F r.names r.parts []).1
 else []
def Q1R(F:List Rl)(r:Rl):List UInt8:=if r.kind=9 then [ZJ r] else if r.kind=7 then (Q7z F r.names r.parts []).2 else []
def XA(F:List Rl):VF->List (List UInt8×Option Int)->List UInt8->Nat->Except Nat (List UInt8×Nat)
 |.cons d p r,(pre,some k)::ps,suf,n=>
  if X0 F (Qh F k) d p=true then
   match XA F p (JE F (Qh F k) p) (Q1R F (Qh F k)) (n+1) with
   |.error e=>.error e
   |.ok (b,m)=>match XA F r ps suf m with
    |.error e=>.error e
    |.ok (b',m')=>.ok (pre++(Zo F (Qh F k) d p++b)++b',m')
  else .error n
 |.cons d p r,(pre,none)::ps,suf,n=>match XA F r ps suf (n+1) with
  |.error e=>.error e
  |.ok (b',m')=>.ok (pre++b',m')
 |.cons d p r,[],suf,n=>.ok (suf,n)
 |.nil,ps,suf,n=>.ok (suf,n)
def WrL(F:List Rl)(l:VF)(ps:List (List UInt8×Option Int))(suf b:List UInt8):Prop:=∀n,∃m,XA F l ps suf n=.ok (b,m)
def Wr(F:List Rl)(k:Int)(d:Nd)(p:VF)(b:List UInt8):Prop:=X0 F (Qh F k) d p=true/\∃b',b=Zo F (Qh F k) d p++b'/\WrL F p (JE F (Qh F k) p) (Q1R F (Qh F k)) b'
section
variable {F:List Rl}{D:List UInt8}{suf b b' pre:List UInt8}{ps:List (List UInt8×Option Int)}{d:Nd}{p r:VF}{k:Int}
theorem WrL.nil:WrL F .nil ps suf suf:=fun n=>⟨n,by unfold XA;rfl⟩
theorem WrL.cons(h:Wr F k d p b)(h':WrL F r ps suf b'):WrL F (.cons d p r) ((pre,some k)::ps) suf (pre++b++b'):=fun n=>by
 obtain⟨hf,b1,rfl,hw⟩:=h;obtain⟨m,hm⟩:=hw (n+1);obtain⟨m',hm'⟩:=h' m;refine⟨m',?_⟩;unfold XA;rw[if_pos hf,hm];simp only;rw[hm']
theorem WrL.skip(h':WrL F r ps suf b'):WrL F (.cons d p r) ((pre,none)::ps) suf (pre++b'):=fun n=>by
 obtain⟨m',hm'⟩:=h' (n+1);refine⟨m',?_⟩;unfold XA;rw[hm']
end
section
variable {k:Int}{r:Rl}
section
variable {F:List Rl}{D:List UInt8}
theorem Q7J{g:Nat->Int}:∀(n i:Nat),J0 g i n=0->∀j,i<=j->j<i+n->g j=0
 |0,i,h,j,h1,h2=>by omega
 |n+1,i,h,j,h1,h2=>by
  unfold J0 at h
  split at h
  ·next h0=>
   rcases Nat.lt_or_ge i j with hj|hj
   ·exact Q7J n (i+1) h j hj Q3
   ·obtain rfl:i=j:=by omega
    exact h0
  ·next h0=>exact absurd h h0
structure Fm(F:List Rl):Prop extends Vld F where
 len:0<F.length/\F.length<=40
 uses:∀i,i<F.length->JC F i=0
 confl:∀i,i<F.length->ZF F i=false
theorem Qub(h:Xf F=(0,0)):Fm F:=by
 refine⟨QtH h,QdX h,(Q6Q h).use,?_⟩;have hp:=Q6Q h;unfold Xf at h;split at h
 ·cases h
 split at h
 ·cases h
 rw[Xp (fun j hj=>by simpa using hp.rule j hj)] at h;simp only at h;rw[Xp (fun j hj=>by simpa using hp.use j hj)] at h;simp only at h;cases h3:Xl F.length (Q1u F) with
 |some k=>rw[h3] at h;simp only[Prod.mk.injEq] at h;exact Q6J
 |none=>
  rw[h3] at h;simp only at h;cases h4:Xl F.length (fun k=>!((Zk F).getD k false)) with
  |some k=>rw[h4] at h;simp only[Prod.mk.injEq] at h;exact Q6J
  |none=>
   rw[h4] at h;simp only at h;cases h5:Xl F.length (ZF F) with
   |some k=>rw[h5] at h;simp only[Prod.mk.injEq] at h;exact Q6J
   |none=>exact K1 h5
theorem Fm.seq(hv:Fm F)(hk:0<=k/\k<F.length)(h7:(Qh F k).kind=7):∀i:Nat,i<(Qh F k).parts.length->(Qh F k).names.getD i []=[]->(Qh F ((Qh F k).parts.getD i 0)).kind=1:=by
 intro i hi hn;have hr:=hv.toUsd.rok hk;have hg:=Q6g hk;have hu:=hv.uses k.toNat Q3;rw[Q0z hg] at hu;obtain⟨r,e⟩:∃r,Qh F k=r:=⟨_,rfl⟩;rw[e] at hr hu h7 hi hn ⊢;unfold J3 at hu;rw[if_neg (by rw[h7];simp [QE,XR]),if_neg (by rw[h7];decide)] at hu;have h:=Q7J _ 0 hu i Q3 (by rw[(hr.seven h7).1];omega);unfold Zq at h;rw[if_pos (by rw[hn];rfl)] at h;have hp:=hr.parts (.inl h7) _ (Q8B hi);rw[VT (Q6g hp)] at h;by_cases h1:(Qh F (r.parts.getD i 0)).kind=1
 ·exact h1
 ·rw[if_pos (by simpa using h1)] at h
  cases h
theorem Fm.numOk(hv:Fm F)(hk:0<=k/\k<F.length)(h:(Qh F k).kind=6\/(Qh F k).kind=10):JO (Qh F (Qh F k).count):=by
 obtain⟨c,hc,h23⟩:=hv.toUsd.use _ _ (Q6g hk) h;rw[QaB hc];exact JO.of (hv.toUsd.ok _ _ hc) h23
theorem Q1l(h9:r.kind≠9)(h7:r.kind≠7):Q1R F r=[]:=by unfold Q1R;rw[if_neg h9,if_neg h7]
theorem Q7m{p:VF}(h:r.kind=6\/r.kind=9):JE F r p=List.replicate p.len ([],some r.elem):=by unfold JE;rw[if_pos h]
end
end
def Vk:VF->Prop
 |.nil=>True
 |.cons d p r=>QJ d p.len=0/\Vk p/\Vk r
section
variable {F:List Rl}{D:List UInt8}
theorem YY{d:Nd}{n:Nat}(h:QJ d n=0):(d.k≠1->d.n=0)/\(d.k≠2->d.bs=[])/\(d.k≠4->d.ns=[])/\(d.k<3->n=0)/\(d.k=4->d.ns.length=n):=by
 unfold QJ at h;split at h
 ·cases h
 split at h
 ·cases h
 ·next h1 h2=>
  unfold QcD at h2;simp only[Bool.or_eq_true,decide_eq_true_eq,not_or,not_and] at h2;obtain⟨⟨⟨⟨a,b⟩,c⟩,e⟩,g⟩:=h2;refine⟨fun h=>by have:=a h;omega,fun h=>?_,fun h=>?_,fun h=>by have:=e h;omega,fun h=>by have:=g h;omega⟩
  ·have:=b h;exact List.length_eq_zero_iff.1 Q3
  ·have:=c h;exact List.length_eq_zero_iff.1 Q3
end
open Go.RowKit
section
variable {B B' b o:Nat}{F p:VF}{d:Nd}{v:Value}{w w':World}
def Hd(w:World)(B:Nat)(d:Nd)(np:Nat)(Q:Nat->Nat->Prop)(sb sn sp:Value):Prop:=
 ∃Ab nb cb An nn cn Ap cp,sb=.slice Ab nb cb/\sn=.slice An nn cn/\sp=.slice Ap np cp/\nb<=cb/\nn<=cn/\np<=cp/\cp<=maxLen/\
  Rd w B 1 Ab nb (bv d.bs)/\Rd w B 1 An nn (sv d.ns)/\(0<np->∃b o,Ap=some ⟨b,o,none⟩/\b<B/\Q b o)
def VW(w:World)(b o:Nat)(d:Nd)(sb sn sp:Value):Prop:=
 w.cell? ⟨b,o,none⟩=some (.int .i64 d.k)/\w.cell? ⟨b,o+1,none⟩=some (.int .i64 d.n)/\w.cell? ⟨b,o+2,none⟩=some sb/\w.cell? ⟨b,o+3,none⟩=some sn/\w.cell? ⟨b,o+4,none⟩=some sp
def FIn(w:World)(B:Nat):VF->Nat->Nat->Prop
 |.nil,_,_=>True
 |.cons d p r,b,o=>(∃sb sn sp,VW w b o d sb sn sp/\Hd w B d p.len (FIn w B p) sb sn sp)/\FIn w B r b (o+5)
def QdU(d:Nd):Prop:=-9223372036854775808<=d.k/\d.k<=9223372036854775807/\-9223372036854775808<=d.n/\d.n<=9223372036854775807
def VIn(w:World)(B:Nat)(v:Value)(d:Nd)(p:VF):Prop:=
 ∃sb sn sp,v=.agg #[.int .i64 d.k,.int .i64 d.n,sb,sn,sp]/\Hd w B d p.len (FIn w B p) sb sn sp
theorem Hd.mono{np:Nat}{Q Q':Nat->Nat->Prop}{sb sn sp:Value}(h:Hd w B d np Q sb sn sp)(hk:∀p:Addr,p.block<B->w'.cell? p=w.cell? p)(hB:B<=B')(hQ:∀b o,b<B->Q b o->Q' b o):Hd w' B' d np Q' sb sn sp:=by
 obtain⟨Ab,nb,cb,An,nn,cn,Ap,cp,h1,h2,h3,h4,h5,h6,h6',h7,h8,h9⟩:=h;refine⟨Ab,nb,cb,An,nn,cn,Ap,cp,h1,h2,h3,h4,h5,h6,h6',(h7.keep hk).more hB,(h8.keep hk).more hB,fun h0=>?_⟩;obtain⟨b,o,e,hb,hq⟩:=h9 h0;exact⟨b,o,e,by omega,hQ b o hb hq⟩
theorem FIn.keep(hk:∀p:Addr,p.block<B->w'.cell? p=w.cell? p)(hB:B<=B'):∀(F:VF) (b o:Nat),b<B->FIn w B F b o->FIn w' B' F b o:=by
 intro F;induction F with
 |nil=>intro b o _ _;trivial
 |cons d p r ih1 ih2=>
  rintro b o hb ⟨⟨sb,sn,sp,⟨c0,c1,c2,c3,c4⟩,hd⟩,hr⟩;refine⟨⟨sb,sn,sp,⟨(hk _ hb).trans c0,(hk _ hb).trans c1,(hk _ hb).trans c2,(hk _ hb).trans c3,(hk _ hb).trans c4⟩,hd.mono hk hB ih1⟩,ih2 b _ hb hr⟩
theorem VIn.keep{w w':World}{B B':Nat}{v:Value}{d:Nd}{p:VF}(h:VIn w B v d p)(hk:∀p:Addr,p.block<B->w'.cell? p=w.cell? p)(hB:B<=B'):VIn w' B' v d p:=by
 obtain⟨sb,sn,sp,e,h⟩:=h;exact⟨sb,sn,sp,e,h.mono hk hB (FIn.keep hk hB p)⟩
theorem VIn.below(h:VIn w B v d p)(hb:Below B' w w')(h1:B<=B'):VIn w' B v d p:=h.keep (fun q hq=>hb.cell Q3) Xr
theorem VIn.on(h:VIn w w.heap.size v d p)(hb:Below w.heap.size w w'):VIn w' w'.heap.size v d p:=h.keep Q9A hb.size
theorem FIn.below(h:FIn w B F b o)(hb0:b<B)(hb:Below B' w w')(h1:B<=B'):FIn w' B F b o:=FIn.keep (fun q hq=>hb.cell Q3) Xr F b o hb0 h
theorem FIn.on(h:FIn w w.heap.size F b o)(hb0:b<w.heap.size)(hb:Below w.heap.size w w'):FIn w' w'.heap.size F b o:=FIn.keep Q9A hb.size F b o hb0 h
theorem FIn.drop:∀(F:VF) (b o i:Nat),FIn w B F b o->FIn w B (F.drop i) b (o+i*5):=by
 intro F;induction F with
 |nil=>intro b o i _;cases i<;>trivial
 |cons d p r _ ih=>
  intro b o i h;cases i with
  |zero=>rw[Nat.zero_mul,Nat.add_zero];exact h
  |succ i=>
   have:=ih b (o+5) i h.2;rw[show o+(i+1)*5=o+5+i*5 by omega];exact this
theorem FIn.at_{i:Nat}{r:VF}(h:FIn w B F b o)(hd:F.drop i=.cons d p r):∃sb sn sp,VW w b (o+i*5) d sb sn sp/\Hd w B d p.len (FIn w B p) sb sn sp:=by
 have:=FIn.drop F b o i h;rw[hd] at this;exact this.1
end
section
variable {Ab An Ap:Option Addr}{cb cn cp nb nn np:Nat}{n:Int}{w:World}
theorem Q5M(hn1:(n != 0)=true)(hb1:0<nb):
  Calls Tryz.prog 142 #[.agg #[.int .i64 1,.int .i64 n,.slice Ab nb cb,.slice An nn cn,.slice Ap np cp]] w fun e w'=>e=.returned (.int .i64 6)/\Below w.heap.size w w':=by
 have hmf:=Z9;have hb1':(0:Int)<(nb:Int):=by omega
 go_enter Tryz.func142,Tryz.ntmps142;go_wp2_with fail
 refine(Qq (t:=true) [1,2,3,4] 1 Xa rfl rfl (by repeat(first|exact Xb _ _ _ _ _ _ _|refine Qj ?_)) Q1 Q1).mono ?_;rintro e w' ⟨rfl,rfl⟩;go_wp2_with fail
 refine(Qq (t:=true) [1] 1 Xa rfl rfl (by repeat(first|exact Xb _ _ _ _ _ _ _|refine Qj ?_)) Q1 Q1).mono ?_;rintro e w' ⟨rfl,rfl⟩;go_wp2_with fail
 refine(Qq (t:=false) [2] 1 Xa rfl rfl (by repeat(first|exact Xb _ _ _ _ _ _ _|refine Qj ?_)) Q1 Q1).mono ?_;rintro e w' ⟨rfl,rfl⟩;go_wp2_with fail
 go_ret;exact⟨rfl,(by repeat(first|exact Below.refl _ _|(refine Below.alloc ?_ Zu _)))⟩
theorem Q3k(hn1:(n != 0)=true)(hb0:nb=0)(hs1:0<nn):
  Calls Tryz.prog 142 #[.agg #[.int .i64 1,.int .i64 n,.slice Ab nb cb,.slice An nn cn,.slice Ap np cp]] w fun e w'=>e=.returned (.int .i64 6)/\Below w.heap.size w w':=by
 have hmf:=Z9;subst hb0;have hs1':(0:Int)<(nn:Int):=by omega
 go_enter Tryz.func142,Tryz.ntmps142;go_wp2_with fail
 refine(Qq (t:=true) [1,2,3,4] 1 Xa rfl rfl (by repeat(first|exact Xb _ _ _ _ _ _ _|refine Qj ?_)) Q1 Q1).mono ?_;rintro e w' ⟨rfl,rfl⟩;go_wp2_with fail
 refine(Qq (t:=true) [1] 1 Xa rfl rfl (by repeat(first|exact Xb _ _ _ _ _ _ _|refine Qj ?_)) Q1 Q1).mono ?_;rintro e w' ⟨rfl,rfl⟩;go_wp2_with fail
 refine(Qq (t:=false) [4] 1 Xa rfl rfl (by repeat(first|exact Xb _ _ _ _ _ _ _|refine Qj ?_)) Q1 Q1).mono ?_;rintro e w' ⟨rfl,rfl⟩;go_wp2_with fail
 go_ret;exact⟨rfl,(by repeat(first|exact Below.refl _ _|(refine Below.alloc ?_ Zu _)))⟩
theorem Q1r(hn1:(n != 0)=true)(hb0:nb=0)(hs0:nn=0)(hp1:0<np):
  Calls Tryz.prog 142 #[.agg #[.int .i64 1,.int .i64 n,.slice Ab nb cb,.slice An nn cn,.slice Ap np cp]] w fun e w'=>e=.returned (.int .i64 6)/\Below w.heap.size w w':=by
 have hmf:=Z9;subst hb0;subst hs0;have hp1':(0:Int)<(np:Int):=by omega
 go_enter Tryz.func142,Tryz.ntmps142;go_wp2_with fail
 refine(Qq (t:=true) [1,2,3,4] 1 Xa rfl rfl (by repeat(first|exact Xb _ _ _ _ _ _ _|refine Qj ?_)) Q1 Q1).mono ?_;rintro e w' ⟨rfl,rfl⟩;go_wp2_with fail
 refine(Qq (t:=true) [1] 1 Xa rfl rfl (by repeat(first|exact Xb _ _ _ _ _ _ _|refine Qj ?_)) Q1 Q1).mono ?_;rintro e w' ⟨rfl,rfl⟩;go_wp2_with fail
 refine(Qq (t:=false) [3,4] 1 Xa rfl rfl (by repeat(first|exact Xb _ _ _ _ _ _ _|refine Qj ?_)) Q1 Q1).mono ?_;rintro e w' ⟨rfl,rfl⟩;go_wp2_with fail
 go_ret;exact⟨rfl,(by repeat(first|exact Below.refl _ _|(refine Below.alloc ?_ Zu _)))⟩
theorem Q5z(hn0:(n != 0)=false)(hb1:0<nb):
  Calls Tryz.prog 142 #[.agg #[.int .i64 1,.int .i64 n,.slice Ab nb cb,.slice An nn cn,.slice Ap np cp]] w fun e w'=>e=.returned (.int .i64 6)/\Below w.heap.size w w':=by
 have hmf:=Z9;have hb1':(0:Int)<(nb:Int):=by omega
 go_enter Tryz.func142,Tryz.ntmps142;go_wp2_with fail
 refine(Qq (t:=true) [1,2,3,4] 1 Xa rfl rfl (by repeat(first|exact Xb _ _ _ _ _ _ _|refine Qj ?_)) Q1 Q1).mono ?_;rintro e w' ⟨rfl,rfl⟩;go_wp2_with fail
 refine(Qq (t:=false) [2] 1 Xa rfl rfl (by repeat(first|exact Xb _ _ _ _ _ _ _|refine Qj ?_)) Q1 Q1).mono ?_;rintro e w' ⟨rfl,rfl⟩;go_wp2_with fail
 go_ret;exact⟨rfl,(by repeat(first|exact Below.refl _ _|(refine Below.alloc ?_ Zu _)))⟩
theorem Q2R(hn0:(n != 0)=false)(hb0:nb=0)(hs1:0<nn):
  Calls Tryz.prog 142 #[.agg #[.int .i64 1,.int .i64 n,.slice Ab nb cb,.slice An nn cn,.slice Ap np cp]] w fun e w'=>e=.returned (.int .i64 6)/\Below w.heap.size w w':=by
 have hmf:=Z9;subst hb0;have hs1':(0:Int)<(nn:Int):=by omega
 go_enter Tryz.func142,Tryz.ntmps142;go_wp2_with fail
 refine(Qq (t:=true) [1,2,3,4] 1 Xa rfl rfl (by repeat(first|exact Xb _ _ _ _ _ _ _|refine Qj ?_)) Q1 Q1).mono ?_;rintro e w' ⟨rfl,rfl⟩;go_wp2_with fail
 refine(Qq (t:=false) [4] 1 Xa rfl rfl (by repeat(first|exact Xb _ _ _ _ _ _ _|refine Qj ?_)) Q1 Q1).mono ?_;rintro e w' ⟨rfl,rfl⟩;go_wp2_with fail
 go_ret;exact⟨rfl,(by repeat(first|exact Below.refl _ _|(refine Below.alloc ?_ Zu _)))⟩
theorem Q1t(hn0:(n != 0)=false)(hb0:nb=0)(hs0:nn=0)(hp1:0<np):
  Calls Tryz.prog 142 #[.agg #[.int .i64 1,.int .i64 n,.slice Ab nb cb,.slice An nn cn,.slice Ap np cp]] w fun e w'=>e=.returned (.int .i64 6)/\Below w.heap.size w w':=by
 have hmf:=Z9;subst hb0;subst hs0;have hp1':(0:Int)<(np:Int):=by omega
 go_enter Tryz.func142,Tryz.ntmps142;go_wp2_with fail
 refine(Qq (t:=true) [1,2,3,4] 1 Xa rfl rfl (by repeat(first|exact Xb _ _ _ _ _ _ _|refine Qj ?_)) Q1 Q1).mono ?_;rintro e w' ⟨rfl,rfl⟩;go_wp2_with fail
 refine(Qq (t:=false) [3,4] 1 Xa rfl rfl (by repeat(first|exact Xb _ _ _ _ _ _ _|refine Qj ?_)) Q1 Q1).mono ?_;rintro e w' ⟨rfl,rfl⟩;go_wp2_with fail
 go_ret;exact⟨rfl,(by repeat(first|exact Below.refl _ _|(refine Below.alloc ?_ Zu _)))⟩
theorem Q81(hn1:(n != 0)=true):
  Calls Tryz.prog 142 #[.agg #[.int .i64 2,.int .i64 n,.slice Ab nb cb,.slice An nn cn,.slice Ap np cp]] w fun e w'=>e=.returned (.int .i64 6)/\Below w.heap.size w w':=by
 have hmf:=Z9;go_enter Tryz.func142,Tryz.ntmps142;go_wp2_with fail
 refine(Qq (t:=true) [1,2,3,4] 2 Xa rfl rfl (by repeat(first|exact Xb _ _ _ _ _ _ _|refine Qj ?_)) Q1 Q1).mono ?_;rintro e w' ⟨rfl,rfl⟩;go_wp2_with fail
 refine(Qq (t:=false) [1] 2 Xa rfl rfl (by repeat(first|exact Xb _ _ _ _ _ _ _|refine Qj ?_)) Q1 Q1).mono ?_;rintro e w' ⟨rfl,rfl⟩;go_wp2_with fail
 go_ret;exact⟨rfl,(by repeat(first|exact Below.refl _ _|(refine Below.alloc ?_ Zu _)))⟩
theorem Q3J(hn0:(n != 0)=false)(hb1:0<nb)(hs1:0<nn):
  Calls Tryz.prog 142 #[.agg #[.int .i64 2,.int .i64 n,.slice Ab nb cb,.slice An nn cn,.slice Ap np cp]] w fun e w'=>e=.returned (.int .i64 6)/\Below w.heap.size w w':=by
 have hmf:=Z9;have hb1':(0:Int)<(nb:Int):=by omega
 have hs1':(0:Int)<(nn:Int):=by omega
 go_enter Tryz.func142,Tryz.ntmps142;go_wp2_with fail
 refine(Qq (t:=true) [1,2,3,4] 2 Xa rfl rfl (by repeat(first|exact Xb _ _ _ _ _ _ _|refine Qj ?_)) Q1 Q1).mono ?_;rintro e w' ⟨rfl,rfl⟩;go_wp2_with fail
 refine(Qq (t:=true) [2] 2 Xa rfl rfl (by repeat(first|exact Xb _ _ _ _ _ _ _|refine Qj ?_)) Q1 Q1).mono ?_;rintro e w' ⟨rfl,rfl⟩;go_wp2_with fail
 refine(Qq (t:=false) [4] 2 Xa rfl rfl (by repeat(first|exact Xb _ _ _ _ _ _ _|refine Qj ?_)) Q1 Q1).mono ?_;rintro e w' ⟨rfl,rfl⟩;go_wp2_with fail
 go_ret;exact⟨rfl,(by repeat(first|exact Below.refl _ _|(refine Below.alloc ?_ Zu _)))⟩
theorem Q1y(hn0:(n != 0)=false)(hb1:0<nb)(hs0:nn=0)(hp1:0<np):
  Calls Tryz.prog 142 #[.agg #[.int .i64 2,.int .i64 n,.slice Ab nb cb,.slice An nn cn,.slice Ap np cp]] w fun e w'=>e=.returned (.int .i64 6)/\Below w.heap.size w w':=by
 have hmf:=Z9;have hb1':(0:Int)<(nb:Int):=by omega
 subst hs0;have hp1':(0:Int)<(np:Int):=by omega
 go_enter Tryz.func142,Tryz.ntmps142;go_wp2_with fail
 refine(Qq (t:=true) [1,2,3,4] 2 Xa rfl rfl (by repeat(first|exact Xb _ _ _ _ _ _ _|refine Qj ?_)) Q1 Q1).mono ?_;rintro e w' ⟨rfl,rfl⟩;go_wp2_with fail
 refine(Qq (t:=true) [2] 2 Xa rfl rfl (by repeat(first|exact Xb _ _ _ _ _ _ _|refine Qj ?_)) Q1 Q1).mono ?_;rintro e w' ⟨rfl,rfl⟩;go_wp2_with fail
 refine(Qq (t:=false) [3,4] 2 Xa rfl rfl (by repeat(first|exact Xb _ _ _ _ _ _ _|refine Qj ?_)) Q1 Q1).mono ?_;rintro e w' ⟨rfl,rfl⟩;go_wp2_with fail
 go_ret;exact⟨rfl,(by repeat(first|exact Below.refl _ _|(refine Below.alloc ?_ Zu _)))⟩
theorem Q2X(hn0:(n != 0)=false)(hb0:nb=0)(hs1:0<nn):
  Calls Tryz.prog 142 #[.agg #[.int .i64 2,.int .i64 n,.slice Ab nb cb,.slice An nn cn,.slice Ap np cp]] w fun e w'=>e=.returned (.int .i64 6)/\Below w.heap.size w w':=by
 have hmf:=Z9;subst hb0;have hs1':(0:Int)<(nn:Int):=by omega
 go_enter Tryz.func142,Tryz.ntmps142;go_wp2_with fail
 refine(Qq (t:=true) [1,2,3,4] 2 Xa rfl rfl (by repeat(first|exact Xb _ _ _ _ _ _ _|refine Qj ?_)) Q1 Q1).mono ?_;rintro e w' ⟨rfl,rfl⟩;go_wp2_with fail
 refine(Qq (t:=false) [4] 2 Xa rfl rfl (by repeat(first|exact Xb _ _ _ _ _ _ _|refine Qj ?_)) Q1 Q1).mono ?_;rintro e w' ⟨rfl,rfl⟩;go_wp2_with fail
 go_ret;exact⟨rfl,(by repeat(first|exact Below.refl _ _|(refine Below.alloc ?_ Zu _)))⟩
theorem Q1x(hn0:(n != 0)=false)(hb0:nb=0)(hs0:nn=0)(hp1:0<np):
  Calls Tryz.prog 142 #[.agg #[.int .i64 2,.int .i64 n,.slice Ab nb cb,.slice An nn cn,.slice Ap np cp]] w fun e w'=>e=.returned (.int .i64 6)/\Below w.heap.size w w':=by
 have hmf:=Z9;subst hb0;subst hs0;have hp1':(0:Int)<(np:Int):=by omega
 go_enter Tryz.func142,Tryz.ntmps142;go_wp2_with fail
 refine(Qq (t:=true) [1,2,3,4] 2 Xa rfl rfl (by repeat(first|exact Xb _ _ _ _ _ _ _|refine Qj ?_)) Q1 Q1).mono ?_;rintro e w' ⟨rfl,rfl⟩;go_wp2_with fail
 refine(Qq (t:=false) [3,4] 2 Xa rfl rfl (by repeat(first|exact Xb _ _ _ _ _ _ _|refine Qj ?_)) Q1 Q1).mono ?_;rintro e w' ⟨rfl,rfl⟩;go_wp2_with fail
 go_ret;exact⟨rfl,(by repeat(first|exact Below.refl _ _|(refine Below.alloc ?_ Zu _)))⟩
end
section
variable {Ab An Ap:Option Addr}{cb cn cp nb nn np:Nat}{n:Int}{w:World}
theorem Q87(hn1:(n != 0)=true):
  Calls Tryz.prog 142 #[.agg #[.int .i64 3,.int .i64 n,.slice Ab nb cb,.slice An nn cn,.slice Ap np cp]] w fun e w'=>e=.returned (.int .i64 6)/\Below w.heap.size w w':=by
 have hmf:=Z9;go_enter Tryz.func142,Tryz.ntmps142;go_wp2_with fail
 refine(Qq (t:=true) [1,2,3,4] 3 Xa rfl rfl (by repeat(first|exact Xb _ _ _ _ _ _ _|refine Qj ?_)) Q1 Q1).mono ?_;rintro e w' ⟨rfl,rfl⟩;go_wp2_with fail
 refine(Qq (t:=false) [1] 3 Xa rfl rfl (by repeat(first|exact Xb _ _ _ _ _ _ _|refine Qj ?_)) Q1 Q1).mono ?_;rintro e w' ⟨rfl,rfl⟩;go_wp2_with fail
 go_ret;exact⟨rfl,(by repeat(first|exact Below.refl _ _|(refine Below.alloc ?_ Zu _)))⟩
theorem Q5N(hn0:(n != 0)=false)(hb1:0<nb):
  Calls Tryz.prog 142 #[.agg #[.int .i64 3,.int .i64 n,.slice Ab nb cb,.slice An nn cn,.slice Ap np cp]] w fun e w'=>e=.returned (.int .i64 6)/\Below w.heap.size w w':=by
 have hmf:=Z9;have hb1':(0:Int)<(nb:Int):=by omega
 go_enter Tryz.func142,Tryz.ntmps142;go_wp2_with fail
 refine(Qq (t:=true) [1,2,3,4] 3 Xa rfl rfl (by repeat(first|exact Xb _ _ _ _ _ _ _|refine Qj ?_)) Q1 Q1).mono ?_;rintro e w' ⟨rfl,rfl⟩;go_wp2_with fail
 refine(Qq (t:=false) [2] 3 Xa rfl rfl (by repeat(first|exact Xb _ _ _ _ _ _ _|refine Qj ?_)) Q1 Q1).mono ?_;rintro e w' ⟨rfl,rfl⟩;go_wp2_with fail
 go_ret;exact⟨rfl,(by repeat(first|exact Below.refl _ _|(refine Below.alloc ?_ Zu _)))⟩
theorem Q32(hn0:(n != 0)=false)(hb0:nb=0)(hs1:0<nn):
  Calls Tryz.prog 142 #[.agg #[.int .i64 3,.int .i64 n,.slice Ab nb cb,.slice An nn cn,.slice Ap np cp]] w fun e w'=>e=.returned (.int .i64 6)/\Below w.heap.size w w':=by
 have hmf:=Z9;subst hb0;have hs1':(0:Int)<(nn:Int):=by omega
 go_enter Tryz.func142,Tryz.ntmps142;go_wp2_with fail
 refine(Qq (t:=true) [1,2,3,4] 3 Xa rfl rfl (by repeat(first|exact Xb _ _ _ _ _ _ _|refine Qj ?_)) Q1 Q1).mono ?_;rintro e w' ⟨rfl,rfl⟩;go_wp2_with fail
 refine(Qq (t:=false) [4] 3 Xa rfl rfl (by repeat(first|exact Xb _ _ _ _ _ _ _|refine Qj ?_)) Q1 Q1).mono ?_;rintro e w' ⟨rfl,rfl⟩;go_wp2_with fail
 go_ret;exact⟨rfl,(by repeat(first|exact Below.refl _ _|(refine Below.alloc ?_ Zu _)))⟩
theorem Q86(hn1:(n != 0)=true):
  Calls Tryz.prog 142 #[.agg #[.int .i64 4,.int .i64 n,.slice Ab nb cb,.slice An nn cn,.slice Ap np cp]] w fun e w'=>e=.returned (.int .i64 6)/\Below w.heap.size w w':=by
 have hmf:=Z9;go_enter Tryz.func142,Tryz.ntmps142;go_wp2_with fail
 refine(Qq (t:=true) [1,2,3,4] 4 Xa rfl rfl (by repeat(first|exact Xb _ _ _ _ _ _ _|refine Qj ?_)) Q1 Q1).mono ?_;rintro e w' ⟨rfl,rfl⟩;go_wp2_with fail
 refine(Qq (t:=false) [1] 4 Xa rfl rfl (by repeat(first|exact Xb _ _ _ _ _ _ _|refine Qj ?_)) Q1 Q1).mono ?_;rintro e w' ⟨rfl,rfl⟩;go_wp2_with fail
 go_ret;exact⟨rfl,(by repeat(first|exact Below.refl _ _|(refine Below.alloc ?_ Zu _)))⟩
theorem Q5D(hn0:(n != 0)=false)(hb1:0<nb):
  Calls Tryz.prog 142 #[.agg #[.int .i64 4,.int .i64 n,.slice Ab nb cb,.slice An nn cn,.slice Ap np cp]] w fun e w'=>e=.returned (.int .i64 6)/\Below w.heap.size w w':=by
 have hmf:=Z9;have hb1':(0:Int)<(nb:Int):=by omega
 go_enter Tryz.func142,Tryz.ntmps142;go_wp2_with fail
 refine(Qq (t:=true) [1,2,3,4] 4 Xa rfl rfl (by repeat(first|exact Xb _ _ _ _ _ _ _|refine Qj ?_)) Q1 Q1).mono ?_;rintro e w' ⟨rfl,rfl⟩;go_wp2_with fail
 refine(Qq (t:=false) [2] 4 Xa rfl rfl (by repeat(first|exact Xb _ _ _ _ _ _ _|refine Qj ?_)) Q1 Q1).mono ?_;rintro e w' ⟨rfl,rfl⟩;go_wp2_with fail
 go_ret;exact⟨rfl,(by repeat(first|exact Below.refl _ _|(refine Below.alloc ?_ Zu _)))⟩
theorem Q0E(hn0:(n != 0)=false)(hb0:nb=0)(hs1:0<nn)(hp1:0<np)(hne:¬nn=np):
  Calls Tryz.prog 142 #[.agg #[.int .i64 4,.int .i64 n,.slice Ab nb cb,.slice An nn cn,.slice Ap np cp]] w fun e w'=>e=.returned (.int .i64 6)/\Below w.heap.size w w':=by
 have hmf:=Z9;subst hb0;have hs1':(0:Int)<(nn:Int):=by omega
 have hp1':(0:Int)<(np:Int):=by omega
 have hne':((nn:Int) != (np:Int))=true:=by rw[bne_iff_ne];omega
 clear hne;go_enter Tryz.func142,Tryz.ntmps142;go_wp2_with fail
 refine(Qq (t:=true) [1,2,3,4] 4 Xa rfl rfl (by repeat(first|exact Xb _ _ _ _ _ _ _|refine Qj ?_)) Q1 Q1).mono ?_;rintro e w' ⟨rfl,rfl⟩;go_wp2_with fail
 refine(Qq (t:=true) [4] 4 Xa rfl rfl (by repeat(first|exact Xb _ _ _ _ _ _ _|refine Qj ?_)) Q1 Q1).mono ?_;rintro e w' ⟨rfl,rfl⟩;go_wp2_with fail
 refine(Qq (t:=true) [3,4] 4 Xa rfl rfl (by repeat(first|exact Xb _ _ _ _ _ _ _|refine Qj ?_)) Q1 Q1).mono ?_;rintro e w' ⟨rfl,rfl⟩;go_wp2_with fail
 refine(Qq (t:=true) [4] 4 Xa rfl rfl (by repeat(first|exact Xb _ _ _ _ _ _ _|refine Qj ?_)) Q1 Q1).mono ?_;rintro e w' ⟨rfl,rfl⟩;go_wp2_with fail
 go_ret;exact⟨rfl,(by repeat(first|exact Below.refl _ _|(refine Below.alloc ?_ Zu _)))⟩
theorem Q0c(hn0:(n != 0)=false)(hb0:nb=0)(hs1:0<nn)(hp0:np=0)(hne:¬nn=np):
  Calls Tryz.prog 142 #[.agg #[.int .i64 4,.int .i64 n,.slice Ab nb cb,.slice An nn cn,.slice Ap np cp]] w fun e w'=>e=.returned (.int .i64 6)/\Below w.heap.size w w':=by
 have hmf:=Z9;subst hb0;have hs1':(0:Int)<(nn:Int):=by omega
 subst hp0;have hne':((nn:Int) != (0:Int))=true:=by rw[bne_iff_ne];omega
 clear hne;go_enter Tryz.func142,Tryz.ntmps142;go_wp2_with fail
 refine(Qq (t:=true) [1,2,3,4] 4 Xa rfl rfl (by repeat(first|exact Xb _ _ _ _ _ _ _|refine Qj ?_)) Q1 Q1).mono ?_;rintro e w' ⟨rfl,rfl⟩;go_wp2_with fail
 refine(Qq (t:=true) [4] 4 Xa rfl rfl (by repeat(first|exact Xb _ _ _ _ _ _ _|refine Qj ?_)) Q1 Q1).mono ?_;rintro e w' ⟨rfl,rfl⟩;go_wp2_with fail
 refine(Qq (t:=true) [4] 4 Xa rfl rfl (by repeat(first|exact Xb _ _ _ _ _ _ _|refine Qj ?_)) Q1 Q1).mono ?_;rintro e w' ⟨rfl,rfl⟩;go_wp2_with fail
 go_ret;exact⟨rfl,(by repeat(first|exact Below.refl _ _|(refine Below.alloc ?_ Zu _)))⟩
theorem Q0K(hn0:(n != 0)=false)(hb0:nb=0)(hs0:nn=0)(hp1:0<np)(hne:¬nn=np):
  Calls Tryz.prog 142 #[.agg #[.int .i64 4,.int .i64 n,.slice Ab nb cb,.slice An nn cn,.slice Ap np cp]] w fun e w'=>e=.returned (.int .i64 6)/\Below w.heap.size w w':=by
 have hmf:=Z9;subst hb0;subst hs0;have hp1':(0:Int)<(np:Int):=by omega
 have hne':((0:Int) != (np:Int))=true:=by rw[bne_iff_ne];omega
 clear hne;go_enter Tryz.func142,Tryz.ntmps142;go_wp2_with fail
 refine(Qq (t:=true) [1,2,3,4] 4 Xa rfl rfl (by repeat(first|exact Xb _ _ _ _ _ _ _|refine Qj ?_)) Q1 Q1).mono ?_;rintro e w' ⟨rfl,rfl⟩;go_wp2_with fail
 refine(Qq (t:=true) [3,4] 4 Xa rfl rfl (by repeat(first|exact Xb _ _ _ _ _ _ _|refine Qj ?_)) Q1 Q1).mono ?_;rintro e w' ⟨rfl,rfl⟩;go_wp2_with fail
 refine(Qq (t:=true) [4] 4 Xa rfl rfl (by repeat(first|exact Xb _ _ _ _ _ _ _|refine Qj ?_)) Q1 Q1).mono ?_;rintro e w' ⟨rfl,rfl⟩;go_wp2_with fail
 go_ret;exact⟨rfl,(by repeat(first|exact Below.refl _ _|(refine Below.alloc ?_ Zu _)))⟩
end
section
variable {Ab An Ap:Option Addr}{cb cn cp nb nn np:Nat}{n:Int}{ns:List (List UInt8)}{w:World}
theorem Q2i(hr:Rd w w.heap.size 1 An nn (sv ns))(hncap:nn<=cn)(hnn:nn<=9223372036854775807)(hx:Small ns)(hn1:(n != 0)=true)(hb0:nb=0)(hs0:nn=0)(hp0:np=0):
  Calls Tryz.prog 142 #[.agg #[.int .i64 1,.int .i64 n,.slice Ab nb cb,.slice An nn cn,.slice Ap np cp]] w fun e w'=>e=.returned (.int .i64 (JQ ns np))/\Below w.heap.size w w':=by
 have hmf:=Z9;have HL:=Q4z;have HR:=Q2 hr;have HX:=Q2 hx;clear hr hx;have hb0':¬(0:Int)<(nb:Int):=by omega
 have hb0'':¬0<nb:=by omega
 clear hb0;have hs0':¬(0:Int)<(nn:Int):=by omega
 have hs0'':¬0<nn:=by omega
 clear hs0;have hp0':¬(0:Int)<(np:Int):=by omega
 have hp0'':¬0<np:=by omega
 clear hp0;go_enter Tryz.func142,Tryz.ntmps142;go_wp2_with fail
 refine(Qq (t:=true) [1,2,3,4] 1 Xa rfl rfl (by repeat(first|exact Xb _ _ _ _ _ _ _|refine Qj ?_)) Q1 Q1).mono ?_;rintro e w' ⟨rfl,rfl⟩;go_wp2_with fail
 refine(Qq (t:=true) [1] 1 Xa rfl rfl (by repeat(first|exact Xb _ _ _ _ _ _ _|refine Qj ?_)) Q1 Q1).mono ?_;rintro e w' ⟨rfl,rfl⟩;go_wp2_with fail
 refine(Qq (t:=false) [4] 1 Xa rfl rfl (by repeat(first|exact Xb _ _ _ _ _ _ _|refine Qj ?_)) Q1 Q1).mono ?_;rintro e w' ⟨rfl,rfl⟩;have h600:¬600<np:=by omega
 have h600':¬(600:Int)<(np:Int):=by omega
 have HN6:=Q2 h600;go_wp2_with fail
 refine(X1 (xs:=ns) ((HR.out.below (by repeat(first|exact Below.refl _ _|(refine Below.alloc ?_ Zu _)))).more Zp) hnn HX.out).mono ?_;rintro e w2 ⟨rfl,hb2⟩;have HB2:=Q2 (show Below w.heap.size w w2 from X9 (by repeat(first|exact Below.refl _ _|(refine Below.alloc ?_ Zu _))) hb2);have hbox:w2.cell? ⟨w.heap.size,3,none⟩=some (.slice An nn cn):=(hb2.cell Zp).trans (by repeat(first|exact QbR _ _ _ _ _ _ _|refine Qj ?_));clear hb2;by_cases hall:ns.all QA=true
 ·have HALL:=Q2 hall
  rw[HALL.out];clear hall;go_wp2_with fail
  go_loop [76] (Q0I ns) (fun k=>nn - (intOf k).toNat)
  case atStart=>exact⟨0,Nat.zero_le _,rfl,by simp⟩
  case round=>
   obtain⟨i,hi,rfl,hd⟩:=hrel;rw[HL.out] at hi;have HD:=Q2 hd;clear hd;by_cases hlt:i<nn
   ·omega
   ·have HT:=Q5q
    go_wp2_with fail
    exact Vf
 ·have HALL:=Q4D
  have HT:=Q59;rw[HALL.out];clear hall;go_wp2_with fail
  exact Vf
theorem Q2t(hr:Rd w w.heap.size 1 An nn (sv ns))(hncap:nn<=cn)(hnn:nn<=9223372036854775807)(hx:Small ns)(hn0:(n != 0)=false)(hb0:nb=0)(hs0:nn=0)(hp0:np=0):
  Calls Tryz.prog 142 #[.agg #[.int .i64 1,.int .i64 n,.slice Ab nb cb,.slice An nn cn,.slice Ap np cp]] w fun e w'=>e=.returned (.int .i64 (JQ ns np))/\Below w.heap.size w w':=by
 have hmf:=Z9;have HL:=Q4z;have HR:=Q2 hr;have HX:=Q2 hx;clear hr hx;have hb0':¬(0:Int)<(nb:Int):=by omega
 have hb0'':¬0<nb:=by omega
 clear hb0;have hs0':¬(0:Int)<(nn:Int):=by omega
 have hs0'':¬0<nn:=by omega
 clear hs0;have hp0':¬(0:Int)<(np:Int):=by omega
 have hp0'':¬0<np:=by omega
 clear hp0;go_enter Tryz.func142,Tryz.ntmps142;go_wp2_with fail
 refine(Qq (t:=true) [1,2,3,4] 1 Xa rfl rfl (by repeat(first|exact Xb _ _ _ _ _ _ _|refine Qj ?_)) Q1 Q1).mono ?_;rintro e w' ⟨rfl,rfl⟩;go_wp2_with fail
 refine(Qq (t:=false) [4] 1 Xa rfl rfl (by repeat(first|exact Xb _ _ _ _ _ _ _|refine Qj ?_)) Q1 Q1).mono ?_;rintro e w' ⟨rfl,rfl⟩;have h600:¬600<np:=by omega
 have h600':¬(600:Int)<(np:Int):=by omega
 have HN6:=Q2 h600;go_wp2_with fail
 refine(X1 (xs:=ns) ((HR.out.below (by repeat(first|exact Below.refl _ _|(refine Below.alloc ?_ Zu _)))).more Zp) hnn HX.out).mono ?_;rintro e w2 ⟨rfl,hb2⟩;have HB2:=Q2 (show Below w.heap.size w w2 from X9 (by repeat(first|exact Below.refl _ _|(refine Below.alloc ?_ Zu _))) hb2);have hbox:w2.cell? ⟨w.heap.size,3,none⟩=some (.slice An nn cn):=(hb2.cell Zp).trans (by repeat(first|exact QbR _ _ _ _ _ _ _|refine Qj ?_));clear hb2;by_cases hall:ns.all QA=true
 ·have HALL:=Q2 hall
  rw[HALL.out];clear hall;go_wp2_with fail
  go_loop [76] (Q0I ns) (fun k=>nn - (intOf k).toNat)
  case atStart=>exact⟨0,Nat.zero_le _,rfl,by simp⟩
  case round=>
   obtain⟨i,hi,rfl,hd⟩:=hrel;rw[HL.out] at hi;have HD:=Q2 hd;clear hd;by_cases hlt:i<nn
   ·omega
   ·have HT:=Q5q
    go_wp2_with fail
    exact Vf
 ·have HALL:=Q4D
  have HT:=Q59;rw[HALL.out];clear hall;go_wp2_with fail
  exact Vf
end
section
variable {Ab An Ap:Option Addr}{cb cn cp nb nn np:Nat}{n:Int}{ns:List (List UInt8)}{w:World}
theorem Q2s(hr:Rd w w.heap.size 1 An nn (sv ns))(hncap:nn<=cn)(hnn:nn<=9223372036854775807)(hx:Small ns)(hn0:(n != 0)=false)(hb1:0<nb)(hs0:nn=0)(hp0:np=0):
  Calls Tryz.prog 142 #[.agg #[.int .i64 2,.int .i64 n,.slice Ab nb cb,.slice An nn cn,.slice Ap np cp]] w fun e w'=>e=.returned (.int .i64 (JQ ns np))/\Below w.heap.size w w':=by
 have hmf:=Z9;have HL:=Q4z;have HR:=Q2 hr;have HX:=Q2 hx;clear hr hx;have hb1':(0:Int)<(nb:Int):=by omega
 have hs0':¬(0:Int)<(nn:Int):=by omega
 have hs0'':¬0<nn:=by omega
 clear hs0;have hp0':¬(0:Int)<(np:Int):=by omega
 have hp0'':¬0<np:=by omega
 clear hp0;go_enter Tryz.func142,Tryz.ntmps142;go_wp2_with fail
 refine(Qq (t:=true) [1,2,3,4] 2 Xa rfl rfl (by repeat(first|exact Xb _ _ _ _ _ _ _|refine Qj ?_)) Q1 Q1).mono ?_;rintro e w' ⟨rfl,rfl⟩;go_wp2_with fail
 refine(Qq (t:=true) [2] 2 Xa rfl rfl (by repeat(first|exact Xb _ _ _ _ _ _ _|refine Qj ?_)) Q1 Q1).mono ?_;rintro e w' ⟨rfl,rfl⟩;go_wp2_with fail
 refine(Qq (t:=false) [4] 2 Xa rfl rfl (by repeat(first|exact Xb _ _ _ _ _ _ _|refine Qj ?_)) Q1 Q1).mono ?_;rintro e w' ⟨rfl,rfl⟩;have h600:¬600<np:=by omega
 have h600':¬(600:Int)<(np:Int):=by omega
 have HN6:=Q2 h600;go_wp2_with fail
 refine(X1 (xs:=ns) ((HR.out.below (by repeat(first|exact Below.refl _ _|(refine Below.alloc ?_ Zu _)))).more Zp) hnn HX.out).mono ?_;rintro e w2 ⟨rfl,hb2⟩;have HB2:=Q2 (show Below w.heap.size w w2 from X9 (by repeat(first|exact Below.refl _ _|(refine Below.alloc ?_ Zu _))) hb2);have hbox:w2.cell? ⟨w.heap.size,3,none⟩=some (.slice An nn cn):=(hb2.cell Zp).trans (by repeat(first|exact QbR _ _ _ _ _ _ _|refine Qj ?_));clear hb2;by_cases hall:ns.all QA=true
 ·have HALL:=Q2 hall
  rw[HALL.out];clear hall;go_wp2_with fail
  go_loop [76] (Q0I ns) (fun k=>nn - (intOf k).toNat)
  case atStart=>exact⟨0,Nat.zero_le _,rfl,by simp⟩
  case round=>
   obtain⟨i,hi,rfl,hd⟩:=hrel;rw[HL.out] at hi;have HD:=Q2 hd;clear hd;by_cases hlt:i<nn
   ·omega
   ·have HT:=Q5q
    go_wp2_with fail
    exact Vf
 ·have HALL:=Q4D
  have HT:=Q59;rw[HALL.out];clear hall;go_wp2_with fail
  exact Vf
theorem Q2x(hr:Rd w w.heap.size 1 An nn (sv ns))(hncap:nn<=cn)(hnn:nn<=9223372036854775807)(hx:Small ns)(hn0:(n != 0)=false)(hb0:nb=0)(hs0:nn=0)(hp0:np=0):
  Calls Tryz.prog 142 #[.agg #[.int .i64 2,.int .i64 n,.slice Ab nb cb,.slice An nn cn,.slice Ap np cp]] w fun e w'=>e=.returned (.int .i64 (JQ ns np))/\Below w.heap.size w w':=by
 have hmf:=Z9;have HL:=Q4z;have HR:=Q2 hr;have HX:=Q2 hx;clear hr hx;have hb0':¬(0:Int)<(nb:Int):=by omega
 have hb0'':¬0<nb:=by omega
 clear hb0;have hs0':¬(0:Int)<(nn:Int):=by omega
 have hs0'':¬0<nn:=by omega
 clear hs0;have hp0':¬(0:Int)<(np:Int):=by omega
 have hp0'':¬0<np:=by omega
 clear hp0;go_enter Tryz.func142,Tryz.ntmps142;go_wp2_with fail
 refine(Qq (t:=true) [1,2,3,4] 2 Xa rfl rfl (by repeat(first|exact Xb _ _ _ _ _ _ _|refine Qj ?_)) Q1 Q1).mono ?_;rintro e w' ⟨rfl,rfl⟩;go_wp2_with fail
 refine(Qq (t:=false) [4] 2 Xa rfl rfl (by repeat(first|exact Xb _ _ _ _ _ _ _|refine Qj ?_)) Q1 Q1).mono ?_;rintro e w' ⟨rfl,rfl⟩;have h600:¬600<np:=by omega
 have h600':¬(600:Int)<(np:Int):=by omega
 have HN6:=Q2 h600;go_wp2_with fail
 refine(X1 (xs:=ns) ((HR.out.below (by repeat(first|exact Below.refl _ _|(refine Below.alloc ?_ Zu _)))).more Zp) hnn HX.out).mono ?_;rintro e w2 ⟨rfl,hb2⟩;have HB2:=Q2 (show Below w.heap.size w w2 from X9 (by repeat(first|exact Below.refl _ _|(refine Below.alloc ?_ Zu _))) hb2);have hbox:w2.cell? ⟨w.heap.size,3,none⟩=some (.slice An nn cn):=(hb2.cell Zp).trans (by repeat(first|exact QbR _ _ _ _ _ _ _|refine Qj ?_));clear hb2;by_cases hall:ns.all QA=true
 ·have HALL:=Q2 hall
  rw[HALL.out];clear hall;go_wp2_with fail
  go_loop [76] (Q0I ns) (fun k=>nn - (intOf k).toNat)
  case atStart=>exact⟨0,Nat.zero_le _,rfl,by simp⟩
  case round=>
   obtain⟨i,hi,rfl,hd⟩:=hrel;rw[HL.out] at hi;have HD:=Q2 hd;clear hd;by_cases hlt:i<nn
   ·omega
   ·have HT:=Q5q
    go_wp2_with fail
    exact Vf
 ·have HALL:=Q4D
  have HT:=Q59;rw[HALL.out];clear hall;go_wp2_with fail
  exact Vf
end
section
variable {Ab An Ap:Option Addr}{cb cn cp nb nn np:Nat}{n:Int}{ns:List (List UInt8)}{w:World}
theorem Q2q(hr:Rd w w.heap.size 1 An nn (sv ns))(hncap:nn<=cn)(hnn:nn<=9223372036854775807)(hx:Small ns)(hn0:(n != 0)=false)(hb0:nb=0)(hs0:nn=0)(hp1:0<np):
  Calls Tryz.prog 142 #[.agg #[.int .i64 3,.int .i64 n,.slice Ab nb cb,.slice An nn cn,.slice Ap np cp]] w fun e w'=>e=.returned (.int .i64 (JQ ns np))/\Below w.heap.size w w':=by
 have hmf:=Z9;have HL:=Q4z;have HR:=Q2 hr;have HX:=Q2 hx;clear hr hx;have hb0':¬(0:Int)<(nb:Int):=by omega
 have hb0'':¬0<nb:=by omega
 clear hb0;have hs0':¬(0:Int)<(nn:Int):=by omega
 have hs0'':¬0<nn:=by omega
 clear hs0;have hp1':(0:Int)<(np:Int):=by omega
 go_enter Tryz.func142,Tryz.ntmps142;go_wp2_with fail
 refine(Qq (t:=true) [1,2,3,4] 3 Xa rfl rfl (by repeat(first|exact Xb _ _ _ _ _ _ _|refine Qj ?_)) Q1 Q1).mono ?_;rintro e w' ⟨rfl,rfl⟩;go_wp2_with fail
 refine(Qq (t:=true) [3,4] 3 Xa rfl rfl (by repeat(first|exact Xb _ _ _ _ _ _ _|refine Qj ?_)) Q1 Q1).mono ?_;rintro e w' ⟨rfl,rfl⟩;go_wp2_with fail
 refine(Qq (t:=false) [4] 3 Xa rfl rfl (by repeat(first|exact Xb _ _ _ _ _ _ _|refine Qj ?_)) Q1 Q1).mono ?_;rintro e w' ⟨rfl,rfl⟩;by_cases h600:600<np
 ·have HT:=Q2 (Q5P (ns:=ns) h600)
  have h600':(600:Int)<(np:Int):=by omega
  go_wp2_with fail
  go_ret;exact⟨by rw[HT.out];rfl,(by repeat(first|exact Below.refl _ _|(refine Below.alloc ?_ Zu _)))⟩
 ·have h600':¬(600:Int)<(np:Int):=by omega
  have HN6:=Q2 h600;go_wp2_with fail
  refine(X1 (xs:=ns) ((HR.out.below (by repeat(first|exact Below.refl _ _|(refine Below.alloc ?_ Zu _)))).more Zp) hnn HX.out).mono ?_;rintro e w2 ⟨rfl,hb2⟩;have HB2:=Q2 (show Below w.heap.size w w2 from X9 (by repeat(first|exact Below.refl _ _|(refine Below.alloc ?_ Zu _))) hb2);have hbox:w2.cell? ⟨w.heap.size,3,none⟩=some (.slice An nn cn):=(hb2.cell Zp).trans (by repeat(first|exact QbR _ _ _ _ _ _ _|refine Qj ?_));clear hb2;by_cases hall:ns.all QA=true
  ·have HALL:=Q2 hall
   rw[HALL.out];clear hall;go_wp2_with fail
   go_loop [76] (Q0I ns) (fun k=>nn - (intOf k).toNat)
   case atStart=>exact⟨0,Nat.zero_le _,rfl,by simp⟩
   case round=>
    obtain⟨i,hi,rfl,hd⟩:=hrel;rw[HL.out] at hi;have HD:=Q2 hd;clear hd;by_cases hlt:i<nn
    ·omega
    ·have HT:=Q5q
     go_wp2_with fail
     exact Vf
  ·have HALL:=Q4D
   have HT:=Q59;rw[HALL.out];clear hall;go_wp2_with fail
   exact Vf
theorem Q2u(hr:Rd w w.heap.size 1 An nn (sv ns))(hncap:nn<=cn)(hnn:nn<=9223372036854775807)(hx:Small ns)(hn0:(n != 0)=false)(hb0:nb=0)(hs0:nn=0)(hp0:np=0):
  Calls Tryz.prog 142 #[.agg #[.int .i64 3,.int .i64 n,.slice Ab nb cb,.slice An nn cn,.slice Ap np cp]] w fun e w'=>e=.returned (.int .i64 (JQ ns np))/\Below w.heap.size w w':=by
 have hmf:=Z9;have HL:=Q4z;have HR:=Q2 hr;have HX:=Q2 hx;clear hr hx;have hb0':¬(0:Int)<(nb:Int):=by omega
 have hb0'':¬0<nb:=by omega
 clear hb0;have hs0':¬(0:Int)<(nn:Int):=by omega
 have hs0'':¬0<nn:=by omega
 clear hs0;have hp0':¬(0:Int)<(np:Int):=by omega
 have hp0'':¬0<np:=by omega
 clear hp0;go_enter Tryz.func142,Tryz.ntmps142;go_wp2_with fail
 refine(Qq (t:=true) [1,2,3,4] 3 Xa rfl rfl (by repeat(first|exact Xb _ _ _ _ _ _ _|refine Qj ?_)) Q1 Q1).mono ?_;rintro e w' ⟨rfl,rfl⟩;go_wp2_with fail
 refine(Qq (t:=false) [4] 3 Xa rfl rfl (by repeat(first|exact Xb _ _ _ _ _ _ _|refine Qj ?_)) Q1 Q1).mono ?_;rintro e w' ⟨rfl,rfl⟩;have h600:¬600<np:=by omega
 have h600':¬(600:Int)<(np:Int):=by omega
 have HN6:=Q2 h600;go_wp2_with fail
 refine(X1 (xs:=ns) ((HR.out.below (by repeat(first|exact Below.refl _ _|(refine Below.alloc ?_ Zu _)))).more Zp) hnn HX.out).mono ?_;rintro e w2 ⟨rfl,hb2⟩;have HB2:=Q2 (show Below w.heap.size w w2 from X9 (by repeat(first|exact Below.refl _ _|(refine Below.alloc ?_ Zu _))) hb2);have hbox:w2.cell? ⟨w.heap.size,3,none⟩=some (.slice An nn cn):=(hb2.cell Zp).trans (by repeat(first|exact QbR _ _ _ _ _ _ _|refine Qj ?_));clear hb2;by_cases hall:ns.all QA=true
 ·have HALL:=Q2 hall
  rw[HALL.out];clear hall;go_wp2_with fail
  go_loop [76] (Q0I ns) (fun k=>nn - (intOf k).toNat)
  case atStart=>exact⟨0,Nat.zero_le _,rfl,by simp⟩
  case round=>
   obtain⟨i,hi,rfl,hd⟩:=hrel;rw[HL.out] at hi;have HD:=Q2 hd;clear hd;by_cases hlt:i<nn
   ·omega
   ·have HT:=Q5q
    go_wp2_with fail
    exact Vf
 ·have HALL:=Q4D
  have HT:=Q59;rw[HALL.out];clear hall;go_wp2_with fail
  exact Vf
end
section
variable {Ab An Ap:Option Addr}{cb cn cp nb nn np:Nat}{n:Int}{ns:List (List UInt8)}{w:World}
theorem Q2o(hr:Rd w w.heap.size 1 An nn (sv ns))(hncap:nn<=cn)(hnn:nn<=9223372036854775807)(hx:Small ns)(hn0:(n != 0)=false)(hb0:nb=0)(hs1:0<nn)(hp1:0<np)(heq:nn=np):
  Calls Tryz.prog 142 #[.agg #[.int .i64 4,.int .i64 n,.slice Ab nb cb,.slice An nn cn,.slice Ap np cp]] w fun e w'=>e=.returned (.int .i64 (JQ ns np))/\Below w.heap.size w w':=by
 have hmf:=Z9;have HL:=Q4z;have HR:=Q2 hr;have HX:=Q2 hx;clear hr hx;have hne':((nn:Int) != (np:Int))=false:=by rw[bne_eq_false_iff_eq];omega
 have hle:=Nat.le_of_eq heq;clear heq;have hb0':¬(0:Int)<(nb:Int):=by omega
 have hb0'':¬0<nb:=by omega
 clear hb0;have hs1':(0:Int)<(nn:Int):=by omega
 have hp1':(0:Int)<(np:Int):=by omega
 go_enter Tryz.func142,Tryz.ntmps142;go_wp2_with fail
 refine(Qq (t:=true) [1,2,3,4] 4 Xa rfl rfl (by repeat(first|exact Xb _ _ _ _ _ _ _|refine Qj ?_)) Q1 Q1).mono ?_;rintro e w' ⟨rfl,rfl⟩;go_wp2_with fail
 refine(Qq (t:=true) [4] 4 Xa rfl rfl (by repeat(first|exact Xb _ _ _ _ _ _ _|refine Qj ?_)) Q1 Q1).mono ?_;rintro e w' ⟨rfl,rfl⟩;go_wp2_with fail
 refine(Qq (t:=true) [3,4] 4 Xa rfl rfl (by repeat(first|exact Xb _ _ _ _ _ _ _|refine Qj ?_)) Q1 Q1).mono ?_;rintro e w' ⟨rfl,rfl⟩;go_wp2_with fail
 refine(Qq (t:=true) [4] 4 Xa rfl rfl (by repeat(first|exact Xb _ _ _ _ _ _ _|refine Qj ?_)) Q1 Q1).mono ?_;rintro e w' ⟨rfl,rfl⟩;by_cases h600:600<np
 ·have HT:=Q2 (Q5P (ns:=ns) h600)
  have h600':(600:Int)<(np:Int):=by omega
  go_wp2_with fail
  go_ret;exact⟨by rw[HT.out];rfl,(by repeat(first|exact Below.refl _ _|(refine Below.alloc ?_ Zu _)))⟩
 ·have h600':¬(600:Int)<(np:Int):=by omega
  have HN6:=Q2 h600;go_wp2_with fail
  refine(X1 (xs:=ns) ((HR.out.below (by repeat(first|exact Below.refl _ _|(refine Below.alloc ?_ Zu _)))).more Zp) hnn HX.out).mono ?_;rintro e w2 ⟨rfl,hb2⟩;have HB2:=Q2 (show Below w.heap.size w w2 from X9 (by repeat(first|exact Below.refl _ _|(refine Below.alloc ?_ Zu _))) hb2);have hbox:w2.cell? ⟨w.heap.size,3,none⟩=some (.slice An nn cn):=(hb2.cell Zp).trans (by repeat(first|exact QbR _ _ _ _ _ _ _|refine Qj ?_));clear hb2;by_cases hall:ns.all QA=true
  ·have HALL:=Q2 hall
   rw[HALL.out];clear hall;go_wp2_with fail
   go_loop [76] (Q0I ns) (fun k=>nn - (intOf k).toNat)
   case atStart=>exact⟨0,Nat.zero_le _,rfl,by simp⟩
   case round=>
    obtain⟨i,hi,rfl,hd⟩:=hrel;rw[HL.out] at hi;have HD:=Q2 hd;clear hd;by_cases hlt:i<nn
    ·obtain⟨b,o,s,rfl,hb,hy,hc⟩:=Vb HR.out hlt
     have HY:=Q2 hy;have hc':w2.cell? ⟨b,o+i,none⟩=some (.string s):=(HB2.out.cell JU).trans hc;have HRW:=Q2 ((HR.out.below HB2.out).cut (k:=0) (m:=i) (c:=cn) Q3 hncap);have hcut:=Q3W (P:=Tryz.prog) slS (some ⟨b,o,none⟩) nn cn i Q3;have hli:(i:Int)<(nn:Int):=by omega
     have h0:(0:Int)<=(i:Int):=by omega
     clear hy hc;go_wp2_with fail
     refine(Y3 (xs:=ns.take i) (by have:=HRW.out;rwa [Qu0] at this) Q3).mono ?_;rintro e w3 ⟨rfl,rfl⟩;clear hcut;by_cases hdup:XR (ns.take i) s.data.toList=true
     ·have HDUP:=Q2 hdup
      have HT:=Q2 (QeI HN6.out HALL.out (QhD HY.out hdup));rw[HDUP.out];clear hdup;go_wp2_with fail
      exact Vf
     ·have HDUP:=Q2 (show XR (ns.take i) s.data.toList=false by simpa using hdup)
      rw[HDUP.out];clear hdup;go_wp2_with fail
      go_round
      case rel=>exact⟨i+1,by rw[HL.out];omega,by go_num,QcL HY.out HD.out HDUP.out⟩
      case measure=>simp [intOf];omega
    ·have HT:=Q5q
     go_wp2_with fail
     exact Vf
  ·have HALL:=Q4D
   have HT:=Q59;rw[HALL.out];clear hall;go_wp2_with fail
   exact Vf
theorem Q2m(hr:Rd w w.heap.size 1 An nn (sv ns))(hncap:nn<=cn)(hnn:nn<=9223372036854775807)(hx:Small ns)(hn0:(n != 0)=false)(hb0:nb=0)(hs0:nn=0)(hp0:np=0)(heq:nn=np):
  Calls Tryz.prog 142 #[.agg #[.int .i64 4,.int .i64 n,.slice Ab nb cb,.slice An nn cn,.slice Ap np cp]] w fun e w'=>e=.returned (.int .i64 (JQ ns np))/\Below w.heap.size w w':=by
 have hmf:=Z9;have HL:=Q4z;have HR:=Q2 hr;have HX:=Q2 hx;clear hr hx;have hne':((nn:Int) != (np:Int))=false:=by rw[bne_eq_false_iff_eq];omega
 have hle:=Nat.le_of_eq heq;clear heq;have hb0':¬(0:Int)<(nb:Int):=by omega
 have hb0'':¬0<nb:=by omega
 clear hb0;have hs0':¬(0:Int)<(nn:Int):=by omega
 have hs0'':¬0<nn:=by omega
 clear hs0;have hp0':¬(0:Int)<(np:Int):=by omega
 have hp0'':¬0<np:=by omega
 clear hp0;go_enter Tryz.func142,Tryz.ntmps142;go_wp2_with fail
 refine(Qq (t:=true) [1,2,3,4] 4 Xa rfl rfl (by repeat(first|exact Xb _ _ _ _ _ _ _|refine Qj ?_)) Q1 Q1).mono ?_;rintro e w' ⟨rfl,rfl⟩;go_wp2_with fail
 refine(Qq (t:=true) [4] 4 Xa rfl rfl (by repeat(first|exact Xb _ _ _ _ _ _ _|refine Qj ?_)) Q1 Q1).mono ?_;rintro e w' ⟨rfl,rfl⟩;have h600:¬600<np:=by omega
 have h600':¬(600:Int)<(np:Int):=by omega
 have HN6:=Q2 h600;go_wp2_with fail
 refine(X1 (xs:=ns) ((HR.out.below (by repeat(first|exact Below.refl _ _|(refine Below.alloc ?_ Zu _)))).more Zp) hnn HX.out).mono ?_;rintro e w2 ⟨rfl,hb2⟩;have HB2:=Q2 (show Below w.heap.size w w2 from X9 (by repeat(first|exact Below.refl _ _|(refine Below.alloc ?_ Zu _))) hb2);have hbox:w2.cell? ⟨w.heap.size,3,none⟩=some (.slice An nn cn):=(hb2.cell Zp).trans (by repeat(first|exact QbR _ _ _ _ _ _ _|refine Qj ?_));clear hb2;by_cases hall:ns.all QA=true
 ·have HALL:=Q2 hall
  rw[HALL.out];clear hall;go_wp2_with fail
  go_loop [76] (Q0I ns) (fun k=>nn - (intOf k).toNat)
  case atStart=>exact⟨0,Nat.zero_le _,rfl,by simp⟩
  case round=>
   obtain⟨i,hi,rfl,hd⟩:=hrel;rw[HL.out] at hi;have HD:=Q2 hd;clear hd;by_cases hlt:i<nn
   ·omega
   ·have HT:=Q5q
    go_wp2_with fail
    exact Vf
 ·have HALL:=Q4D
  have HT:=Q59;rw[HALL.out];clear hall;go_wp2_with fail
  exact Vf
end
section
variable {d:Nd}{np:Nat}
theorem Q2I(h:d.k<1\/4<d.k):QJ d np=5:=by unfold QJ;rw[if_pos h]
theorem Q93(d:Nd)(np:Nat):QcD d np=true↔((d.k≠1/\d.n≠0)\/(d.k≠2/\0<d.bs.length)\/(d.k≠4/\0<d.ns.length)\/(d.k<3/\0<np)\/(d.k=4/\d.ns.length≠np)):=by
 unfold QcD;simp only[Bool.or_eq_true,decide_eq_true_eq];constructor
 ·rintro((((h|h)|h)|h)|h)
  ·exact .inl h
  ·exact .inr (.inl h)
  ·exact .inr (.inr (.inl h))
  ·exact .inr (.inr (.inr (.inl h)))
  ·exact .inr (.inr (.inr (.inr h)))
 ·rintro(h|h|h|h|h)
  ·exact .inl (.inl (.inl (.inl h)))
  ·exact .inl (.inl (.inl (.inr h)))
  ·exact .inl (.inl (.inr h))
  ·exact .inl (.inr h)
  ·exact .inr h
theorem Q2e(hk:¬(d.k<1\/4<d.k))(h:(d.k≠1/\d.n≠0)\/(d.k≠2/\0<d.bs.length)\/(d.k≠4/\0<d.ns.length)\/(d.k<3/\0<np)\/(d.k=4/\d.ns.length≠np)):QJ d np=6:=by
 unfold QJ;rw[if_neg hk,if_pos ((Q93 d np).2 h)]
theorem Q6h(hk:¬(d.k<1\/4<d.k))(h:¬((d.k≠1/\d.n≠0)\/(d.k≠2/\0<d.bs.length)\/(d.k≠4/\0<d.ns.length)\/(d.k<3/\0<np)\/(d.k=4/\d.ns.length≠np))):QJ d np=JQ d.ns np:=by
 unfold QJ JQ;rw[if_neg hk,if_neg (fun h'=>h ((Q93 d np).1 h'))]
theorem Q03{w:World}{v:Value}{p:VF}(h:VIn w w.heap.size v d p)(hx:Small d.ns)(hnn:d.ns.length<=9223372036854775807):
  Calls Tryz.prog 142 #[v] w fun e w'=>e=.returned (.int .i64 (QJ d p.len))/\Below w.heap.size w w':=by
 obtain⟨sb,sn,sp,rfl,Ab,nb,cb,An,nn,cn,Ap,cp,rfl,rfl,rfl,hbc,hnc,hpc,hpm,hrb,hrn,hp⟩:=h;have eb:d.bs.length=nb:=by have:=hrb.len;rw[QM] at this;exact this
 have en:d.ns.length=nn:=by have:=hrn.len;rw[Xw] at this;exact this
 rw[en] at hnn;obtain⟨k,n,bs,ns⟩:=d;simp only at eb en hrb hrn hx ⊢;by_cases hk:k<1\/4<k
 ·rw[Q2I (by exact hk)];exact QiF hk
 ·obtain⟨np,hnp⟩:∃np,p.len=np:=⟨_,rfl⟩
  rw[hnp];by_cases h1:k=1
  ·subst h1
   by_cases hn:n=0
   ·have hn0:(n != 0)=false:=by simp [hn]
    by_cases hb0:nb=0
    ·skip
     by_cases hs0:nn=0
     ·skip
      by_cases hp0:np=0
      ·skip
       refine Q4Q ?_;exact Q2t hrn hnc hnn hx hn0 hb0 hs0 hp0
      ·have hp1:0<np:=by omega
       refine JF ?_;exact Q1t hn0 hb0 hs0 hp1
     ·have hs1:0<nn:=by omega
      refine JF ?_;exact Q2R hn0 hb0 hs1
    ·have hb1:0<nb:=by omega
     refine JF ?_;exact Q5z hn0 hb1
   ·have hn1:(n != 0)=true:=by simp [hn]
    by_cases hb0:nb=0
    ·skip
     by_cases hs0:nn=0
     ·skip
      by_cases hp0:np=0
      ·skip
       refine Q4Q ?_;exact Q2i hrn hnc hnn hx hn1 hb0 hs0 hp0
      ·have hp1:0<np:=by omega
       refine JF ?_;exact Q1r hn1 hb0 hs0 hp1
     ·have hs1:0<nn:=by omega
      refine JF ?_;exact Q3k hn1 hb0 hs1
    ·have hb1:0<nb:=by omega
     refine JF ?_;exact Q5M hn1 hb1
  ·by_cases h2:k=2
   ·subst h2
    by_cases hn:n=0
    ·have hn0:(n != 0)=false:=by simp [hn]
     by_cases hb0:nb=0
     ·skip
      by_cases hs0:nn=0
      ·skip
       by_cases hp0:np=0
       ·skip
        refine Q4Q ?_;exact Q2x hrn hnc hnn hx hn0 hb0 hs0 hp0
       ·have hp1:0<np:=by omega
        refine JF ?_;exact Q1x hn0 hb0 hs0 hp1
      ·have hs1:0<nn:=by omega
       refine JF ?_;exact Q2X hn0 hb0 hs1
     ·have hb1:0<nb:=by omega
      by_cases hs0:nn=0
      ·skip
       by_cases hp0:np=0
       ·skip
        refine Q4Q ?_;exact Q2s hrn hnc hnn hx hn0 hb1 hs0 hp0
       ·have hp1:0<np:=by omega
        refine JF ?_;exact Q1y hn0 hb1 hs0 hp1
      ·have hs1:0<nn:=by omega
       refine JF ?_;exact Q3J hn0 hb1 hs1
    ·have hn1:(n != 0)=true:=by simp [hn]
     refine JF ?_;exact Q81 hn1
   ·by_cases h3:k=3
    ·subst h3
     by_cases hn:n=0
     ·have hn0:(n != 0)=false:=by simp [hn]
      by_cases hb0:nb=0
      ·skip
       by_cases hs0:nn=0
       ·skip
        by_cases hp0:np=0
        ·skip
         refine Q4Q ?_;exact Q2u hrn hnc hnn hx hn0 hb0 hs0 hp0
        ·have hp1:0<np:=by omega
         refine Q4Q ?_;exact Q2q hrn hnc hnn hx hn0 hb0 hs0 hp1
       ·have hs1:0<nn:=by omega
        refine JF ?_;exact Q32 hn0 hb0 hs1
      ·have hb1:0<nb:=by omega
       refine JF ?_;exact Q5N hn0 hb1
     ·have hn1:(n != 0)=true:=by simp [hn]
      refine JF ?_;exact Q87 hn1
    ·obtain rfl:k=4:=by omega
     by_cases hn:n=0
     ·have hn0:(n != 0)=false:=by simp [hn]
      by_cases hb0:nb=0
      ·skip
       by_cases hs0:nn=0
       ·skip
        by_cases hp0:np=0
        ·skip
         refine Q4Q ?_;exact Q2m hrn hnc hnn hx hn0 hb0 hs0 hp0 Q3
        ·have hp1:0<np:=by omega
         by_cases hne:nn=np
         ·omega
         ·refine JF ?_;exact Q0K hn0 hb0 hs0 hp1 hne
       ·have hs1:0<nn:=by omega
        by_cases hp0:np=0
        ·skip
         by_cases hne:nn=np
         ·omega
         ·refine JF ?_;exact Q0c hn0 hb0 hs1 hp0 hne
        ·have hp1:0<np:=by omega
         by_cases hne:nn=np
         ·refine Q4Q ?_;exact Q2o hrn hnc hnn hx hn0 hb0 hs1 hp1 hne
         ·refine JF ?_;exact Q0E hn0 hb0 hs1 hp1 hne
      ·have hb1:0<nb:=by omega
       refine JF ?_;exact Q5D hn0 hb1
     ·have hn1:(n != 0)=true:=by simp [hn]
      refine JF ?_;exact Q86 hn1
end
section
variable {d:Nd}{l lev n num:Nat}{p r:VF}{v:Value}{w:World}
theorem JD(c i:Int)(w:World):Calls Tryz.prog 103 #[.int .i64 c,.int .i64 i] w fun e w'=>e=.returned (.agg #[.int .i64 c,.int .i64 i])/\w.alloc (.cells #[.int .i64 c,.int .i64 i] 32)=w':=by
 go_enter Tryz.func103,Tryz.ntmps103;go_wp2
 exact bodyPost_ret (v:=.agg #[.int .i64 c,.int .i64 i]) (by simp [results,Tryz.results103,go_sem]) rfl ⟨rfl,rfl⟩
def XI(d:Nd):Prop:=QdU d/\d.bs.length<=1048576/\d.ns.length<=1048576/\∀x∈d.ns,x.length<=1048576
def XD:VF->Prop
 |.nil=>True
 |.cons d p r=>XI d/\p.len<=1048576/\XD p/\XD r
theorem XD.drop:∀(F:VF) (i:Nat),XD F->XD (F.drop i):=by
 intro F;induction F with
 |nil=>intro i _;cases i<;>trivial
 |cons d p r _ ih=>
  intro i h;cases i with
  |zero=>exact h
  |succ i=>exact ih i h.2.2.2
theorem XI.small(h:XI d):Small d.ns:=fun x hx=>Nat.le_trans (h.2.2.2 x hx) Q3
def Q4w(w:World)(r:Sum (Int×Int) Nat)(e:Ending)(w':World):Prop:=
 Below w.heap.size w w'/\((∃c i,r=.inl (c,i)/\e=.returned (.tuple #[.int .i64 0,.agg #[.int .i64 c,.int .i64 i]]))\/(∃m:Nat,r=.inr m/\e=.returned (.tuple #[.int .i64 (m:Int),.agg #[.int .i64 0,.int .i64 0]])))
theorem Q7x(d:Nd)(p r:VF)(n l:Nat):Xg (.cons d p r) n l=match Xg (.cons d p .nil) n l with|.inl f=>.inl f|.inr m=>Xg r m l:=by
 by_cases h1:600<=n\/10<l
 ·rw[Zz h1,Zz h1]
 ·by_cases h2:QJ d p.len≠0
  ·rw[XZ h1 h2,XZ h1 h2]
  ·cases hp:Xg p (n+1) (l+1) with
   |inl f=>rw[Zv h1 h2 hp,Zv h1 h2 hp]
   |inr m=>rw[ZM h1 h2 hp,ZM h1 h2 hp];rfl
theorem Qpe{f:Int×Int}(h:Xg (.cons d p .nil) n l=.inl f):Xg (.cons d p r) n l=.inl f:=by rw[Q7x,h]
theorem Qq1{m:Nat}(h:Xg (.cons d p .nil) n l=.inr m):Xg (.cons d p r) n l=Xg r m l:=by rw[Q7x,h]
theorem Qf9(hv:VIn w w.heap.size v d p)(h:600<=num\/10<lev)(hn:num<=600)(hl:lev<=11):
  Calls Tryz.prog 101 #[v,.int .i64 (num:Int),.int .i64 (lev:Int)] w (Q4w w (Xg (.cons d p .nil) num lev)):=by
 have HC:=Q2 (Zz (d:=d) (p:=p) (r:=.nil) h);obtain⟨sb,sn,sp,rfl,Ab,nb,cb,An,nn,cn,Ap,cp,rfl,rfl,rfl,hbc,hnc,hpc,hpm,hrb,hrn,hp⟩:=hv;clear hrb hrn hp;rcases h with h|h
 ·have h':(600:Int)<=(num:Int):=by omega
  go_enter Tryz.func101,Tryz.ntmps101;go_wp2_with (go_at_call 103;refine(JD _ _ _).mono ?_;rintro e w' ⟨rfl,rfl⟩)
  refine QjH ?_;exact Qku
 ·by_cases h6:(600:Int)<=(num:Int)
  ·go_enter Tryz.func101,Tryz.ntmps101
   go_wp2_with (go_at_call 103;refine(JD _ _ _).mono ?_;rintro e w' ⟨rfl,rfl⟩)
   refine QjH ?_;exact Qku
  ·have h':(10:Int)<(lev:Int):=by omega
   go_enter Tryz.func101,Tryz.ntmps101;go_wp2_with (go_at_call 103;refine(JD _ _ _).mono ?_;rintro e w' ⟨rfl,rfl⟩)
   refine QjH ?_;exact Qku
theorem Qei(hv:VIn w w.heap.size v d p)(hf:XI d)(hn:num<600)(hl:lev<=10)(hc:QJ d p.len≠0):
  Calls Tryz.prog 101 #[v,.int .i64 (num:Int),.int .i64 (lev:Int)] w (Q4w w (Xg (.cons d p .nil) num lev)):=by
 have HC:=Q2 (XZ (d:=d) (p:=p) (r:=.nil) (num:=num) (lev:=lev) Q3 hc);have HV:=Q2 hv;obtain⟨sb,sn,sp,rfl,Ab,nb,cb,An,nn,cn,Ap,cp,rfl,rfl,rfl,hbc,hnc,hpc,hpm,hrb,hrn,hp⟩:=hv;have hnc0:(QJ d p.len != 0)=true:=by simp [hc]
 have HF:=Q2 hf;clear hrb hrn hp hf hc;have h1:¬(600:Int)<=(num:Int):=by omega
 have h2:¬(10:Int)<(lev:Int):=by omega
 go_enter Tryz.func101,Tryz.ntmps101;go_wp2_with fail
 refine(Q03 (d:=d) (p:=p) Q8N HF.out.small (by have:=HF.out.2.2.1;omega)).mono ?_;rintro e w2 ⟨rfl,hb2⟩;have F1:=Q9u;simp only[QB] at F1;obtain⟨z,c0,c1,f0,f1⟩:=F1;have HB2:=Q94;clear hb2;go_wp2_with (go_at_call 103;refine(JD _ _ _).mono ?_;rintro e w' ⟨rfl,rfl⟩)
 refine bodyPost_ret (v:=.tuple #[.int .i64 0,.agg #[.int .i64 (QJ d p.len),.int .i64 (num:Int)]]) (by simp [results,Tryz.results101,go_sem,c0,c1,z]) rfl ?_;exact⟨Kv (Z0 HB2.out Q3 _ _) _,.inl ⟨_,_,HC.out,rfl⟩⟩
def Qtx(w:World)(g:Nat)(p:VF)(n l:Nat)(next k:Value)(wr:World):Prop:=
 ∃i m:Nat,i<=p.len/\k=.int .i64 (i:Int)/\next=.int .i64 (m:Int)/\m<=600/\Xg p n l=Xg (p.drop i) m l/\Below w.heap.size w wr/\FC wr g 0 0
def Qq4(d:Nd)(p:VF):Prop:=XI d->XD p->p.len<=1048576->∀(w:World) (v:Value) (num lev:Nat),VIn w w.heap.size v d p->num<=600->lev<=11->
 Calls Tryz.prog 101 #[v,.int .i64 (num:Int),.int .i64 (lev:Int)] w (Q4w w (Xg (.cons d p .nil) num lev))
theorem Ql1{F:VF}{i:Nat}(h:VF.All Qq4 (F.drop i))(hd:F.drop i=.cons d p r)(hf:XD (F.drop i)):∀(w:World) (v:Value) (num lev:Nat),VIn w w.heap.size v d p->num<=600->lev<=11->
  Calls Tryz.prog 101 #[v,.int .i64 (num:Int),.int .i64 (lev:Int)] w (Q4w w (Xg (.cons d p .nil) num lev)):=by
 rw[hd] at h hf;exact h.1 hf.1 hf.2.2.1 hf.2.1
theorem QbW(hall:VF.All Qq4 p)(hv:VIn w w.heap.size v d p)(hf:XI d)(hfp:XD p)(hpl:p.len<=1048576)(hn:num<600)(hl:lev<=10)(hc:QJ d p.len=0):
  Calls Tryz.prog 101 #[v,.int .i64 (num:Int),.int .i64 (lev:Int)] w (Q4w w (Xg (.cons d p .nil) num lev)):=by
 have HV:=Q2 hv;obtain⟨sb,sn,sp,rfl,Ab,nb,cb,An,nn,cn,Ap,cp,rfl,rfl,rfl,hbc,hnc,hpc,hpm,hrb,hrn,hp⟩:=hv;have HNC:=Q2 hc;have HF:=Q2 hf;have HFP:=Q2 hfp;have HALL:=Q2 hall;have HP:=Q2 hp;clear hrb hrn hp hf hc hfp hall;have h1:¬(600:Int)<=(num:Int):=by omega
 have h2:¬(10:Int)<(lev:Int):=by omega
 go_enter Tryz.func101,Tryz.ntmps101;go_wp2_with fail
 refine(Q03 (d:=d) (p:=p) Q8N HF.out.small (by have:=HF.out.2.2.1;omega)).mono ?_;rintro e w2 ⟨rfl,hb2⟩;rw[HNC.out];have F1:=Q9u;simp only[QB] at F1;have HF1:=Q2 F1;have hbox:w2.cell? ⟨w.heap.size,4,none⟩=some (.slice Ap p.len cp):=(hb2.cell Zp).trans (Qj Qn);have HB2:=Q94;clear hb2 F1;obtain⟨np,hnp⟩:∃np,p.len=np:=⟨_,rfl⟩;have HNP:=Q2 hnp;rw[hnp] at hbox hpl hpc ⊢;clear hnp;go_wp2_with fail
 go_loopw [9,33] (Qtx w (w.heap.size+1) p (num+1) (lev+1)) (fun _ k _=>np - (intOf k).toNat)
 case atStart=>exact⟨0,num+1,Nat.zero_le _,rfl,by go_num,by omega,by rw[VF.drop_zero],HB2.out,HF1.out⟩
 case round=>
  obtain⟨i,m,hi,rfl,rfl,hm,hch,hbw,hfc⟩:=hrel;rw[HNP.out] at hi;have HCH:=Q2 hch;have HBW:=Q2 hbw;have HFC:=Q2 hfc;have hzw:=hbw.size;have hzf:w.heap.size+1<wr.heap.size:=hfc.1;clear hch hbw hfc hbox;by_cases hlt:i<np
  ·obtain⟨b,o,hAp,hb,hfin⟩:=HP.out Q7I
   subst hAp;obtain⟨d',p',hdr⟩:=VF.drop_cons (F:=p) (i:=i) Qd2;obtain⟨sb',sn',sp',⟨k0,k1,k2,k3,k4⟩,hd'⟩:=hfin.at_ hdr;have HV':Hid (VIn w w.heap.size (.agg #[.int .i64 d'.k,.int .i64 d'.n,sb',sn',sp']) d' p'):=Qfs;obtain⟨Ab',nb',cb',An',nn',cn',Ap',cp',rfl,rfl,rfl,_⟩:=hd';have q0:=(HBW.out.cell JU).trans k0;have q1:=(HBW.out.cell JU).trans k1;have q2:=(HBW.out.cell JU).trans k2;have q3:=(HBW.out.cell JU).trans k3;have q4:=(HBW.out.cell JU).trans k4;clear k0 k1 k2 k3 k4 hfin;have HDR:=Q2 hdr;clear hdr;have hli:(i:Int)<(np:Int):=by omega
   have h0:(0:Int)<=(i:Int):=by omega
   have hct:=Ql1 (VF.all_drop HALL.out i) HDR.out (XD.drop p i HFP.out);have HCT:=Q2 hct;clear hct;go_wp2_with fail
   refine(HCT.out _ _ m (lev+1) ((HV'.out.below HBW.out Xr).keep (fun q hq=>(Q39 _ _ _).cell Q3) Zp) hm Q3).mono ?_;intro e w3 hend;obtain⟨hb3,hres⟩:=hend;have F3:=(FC.new (wr.alloc (.cells #[.int .i64 d'.k,.int .i64 d'.n,.slice Ab' nb' cb',.slice An' nn' cn',.slice Ap' p'.len cp'] 30)) 0 0).on hb3;simp only[QB] at F3;have R3:=(HFC.out.on (Q39 _ _ _)).on hb3;have HB3:=Q2 (show Below w.heap.size w w3 from X9 HBW.out (X9 (Q39 _ _ _) hb3));have HF3:=Q2 F3;have HR3:=Q2 R3;have hz3:wr.heap.size+1<w3.heap.size:=F3.1;clear hb3 F3 R3;rcases hres with ⟨c,ix,hr,rfl⟩|⟨m',hr,rfl⟩
   ·have hc0:(c==0)=false:=by
     have:=VP _ _ _ _ _ hr;simpa using this
    have hneq:=Q35 c ix 0 0;have HR:=Q2 (show Xg (.cons d p .nil) num lev=.inl (c,ix) from Zv Q3 (by rw[HNC.out];simp) (by rw[HCH.out,HDR.out];exact Qpe hr));obtain⟨z3,a0,a1,g0,g1⟩:=HF3.out;obtain⟨z4,r0,r1,e0,e1⟩:=HR3.out;clear hr z4 r0 r1 e0 e1;have P1:=HF3.out.put c ix;have P2:=(HR3.out.far (g:=wr.heap.size+1) (o:=0) (v:=.int .i64 c) Q3).far (g:=wr.heap.size+1) (o:=1) (v:=.int .i64 ix) Q3;have PB:=Z0 HB3.out (g:=wr.heap.size+1) Q3 (.int .i64 c) (.int .i64 ix);go_wp2_with fail
    obtain⟨W4,hW4⟩:∃W4,((w3.setCell ⟨wr.heap.size+1,0,none⟩ (.int .i64 c)).setCell ⟨wr.heap.size+1,1,none⟩ (.int .i64 ix))=W4:=⟨_,rfl⟩;rw[hW4] at P1 P2 PB ⊢;have HPB:=Q2 PB;clear hW4 PB z3 a0 a1 g0 g1;obtain⟨z3,a0,a1,g0,g1⟩:=P1;obtain⟨z4,r0,r1,e0,e1⟩:=P2;go_region
    go_wp2_with fail
    refine bodyPost_ret (v:=.tuple #[.int .i64 0,.agg #[.int .i64 c,.int .i64 ix]]) Qno rfl ?_;exact⟨(Z0 HPB.out Q3 _ _).drew,.inl ⟨_,_,HR.out,rfl⟩⟩
   ·have HR:=Q2 (show Xg p (num+1) (lev+1)=Xg (p.drop (i+1)) m' (lev+1) by rw[HCH.out,HDR.out];exact Qq1 hr)
    have hm':m'<=600:=(Q1k _ _ _ _ hr).2 hm;have hneq:=Q35 0 0 0 0;obtain⟨z3,a0,a1,g0,g1⟩:=HF3.out;clear hr;go_wp2_with fail
    go_roundw
    case rel=>exact⟨i+1,m',by rw[HNP.out];omega,by go_num,rfl,hm',HR.out,Z0 HB3.out Q3 _ _,(HR3.out.far Q3).far Q3⟩
    case measure=>simp [intOf];omega
  ·have HR:=Q2 (show Xg (.cons d p .nil) num lev=.inr m by
    rw[ZM (m:=m) Q3 (by rw[HNC.out];simp) (by rw[HCH.out,VF.drop_nil (by rw[HNP.out];omega)];rfl)];rfl)
   obtain⟨z4,r0,r1,e0,e1⟩:=HFC.out;go_wp2_with fail
   refine bodyPost_ret (v:=.tuple #[.int .i64 (m:Int),.agg #[.int .i64 0,.int .i64 0]]) Qno rfl ?_;exact⟨Z0 HBW.out Q3 _ _,.inr ⟨m,HR.out,rfl⟩⟩
theorem QeS(d:Nd)(p:VF)(hall:VF.All Qq4 p):Qq4 d p:=by
 intro hf hfp hpl w v num lev hv hn hl;by_cases h:600<=num\/10<lev
 ·exact Qf9 hv h hn hl
 ·by_cases hc:QJ d p.len=0
  ·exact QbW hall hv hf hfp hpl Q3 Q3 hc
  ·exact Qei hv hf Q3 Q3 hc
theorem Q3u(hf:XI d)(hfp:XD p)(hpl:p.len<=1048576)(hv:VIn w w.heap.size v d p)(hn:num<=600)(hl:lev<=11):
  Calls Tryz.prog 101 #[v,.int .i64 (num:Int),.int .i64 (lev:Int)] w (Q4w w (Xg (.cons d p .nil) num lev)):=
 VF.all_each QeS d p hf hfp hpl w v num lev hv hn hl
end
section
variable {l:VF}{n:Int}
section
variable {F:List Rl}{D:List UInt8}
def Sz(d:Nd)(l:VF):Prop:=XI d/\XD l/\l.len<=1048576
theorem QpW{r:Rl}(hr:JO r){p q:Nat}(hp:p<=D.length)(h:Q4i r D p=some (.ok (n,q))):0<=n/\n<4294967296:=by
 have a:=QiE hr.numK hp h;refine⟨a.2.2.2,?_⟩;by_cases h3:r.kind=3
 ·have:=a.2.1 h3;have:=hr.dec h3
  omega
 ·have h2:=hr.kind.resolve_right h3;have b:=a.2.2.1 h3;obtain⟨c1,c2,c3,c4,c5⟩:=hr.num h2
  rcases (show r.size=1\/r.size=2\/r.size=3\/r.size=4 by omega) with e|e|e|e<;>rw[e] at c5<;>simp at c5<;>omega
end
end
open Go.ChangeShapes Go.WideShapes Go.ChangeAt Go.RowKit Go.Deep
def Q8i(ns:List (List UInt8)):Nat:=(ns.map fun x=>x.length+1).sum
def ndw(d:Nd):Nat:=d.bs.length+Q8i d.ns+1
def VF.fsz:VF->Nat
 |.nil=>0
 |.cons d p r=>ndw d+p.fsz+r.fsz
def VF.Ok:VF->Prop
 |.nil=>True
 |.cons d p r=>QdU d/\p.Ok/\r.Ok
def VF.ofL:List (Nd×VF)->VF
 |[]=>.nil
 |x::r=>.cons x.1 x.2 (VF.ofL r)
theorem QaA:∀(l:List (Nd×VF)),(VF.ofL l).len=l.length:=by
 intro l;induction l with
 |nil=>rfl
 |cons x r ih=>simp [VF.ofL,VF.len,ih]
theorem QtX{W:World}{B:Nat}:∀(l:List (Nd×VF)) (b o:Nat),(∀i x,l[i]? =some x->∃sb sn sp,VW W b (o+i*5) x.1 sb sn sp/\Hd W B x.1 x.2.len (FIn W B x.2) sb sn sp)->FIn W B (VF.ofL l) b o:=by
 intro l;induction l with
 |nil=>intro b o _;trivial
 |cons x r ih=>
  intro b o h;refine⟨by have:=h 0 x rfl;simpa using this,ih b (o+5) fun i y hy=>?_⟩;have:=h (i+1) y Q8Z;rw[show o+(i+1)*5=o+5+i*5 by omega] at this;exact this
theorem QtL:∀(l:List (Nd×VF)),(∀(i:Nat) (x:Nd×VF),l[i]? =some x->QdU x.1/\x.2.Ok)->(VF.ofL l).Ok:=by
 intro l;induction l with
 |nil=>intro _;trivial
 |cons x r ih=>intro h;exact⟨(h 0 x rfl).1,(h 0 x rfl).2,ih fun i y hy=>h (i+1) y Q8Z⟩
theorem QmX{ns:List (List UInt8)}{x:List UInt8}(h:x∈ns):x.length+1<=Q8i ns:=by
 induction ns with
 |nil=>cases h
 |cons y r ih=>
  unfold Q8i at*
  simp only[List.map_cons,List.sum_cons];rcases List.mem_cons.1 h with rfl|h
  ·omega
  ·have:=ih h;omega
theorem Qke(ns:List (List UInt8)):ns.length<=Q8i ns:=by
 induction ns with
 |nil=>simp [Q8i]
 |cons y r ih=>
  unfold Q8i at*
  exact Qjp
theorem Qg9:∀(F:VF),F.len<=F.fsz:=by
 intro F;induction F with
 |nil=>simp [VF.len,VF.fsz]
 |cons d p r _ ih=>simp only[VF.len,VF.fsz,ndw];omega
theorem Qhd{d:Nd}(h:QdU d)(hw:ndw d<=1048576):XI d:=by
 unfold ndw at hw;refine⟨h,by omega,by have:=Qke d.ns;omega,fun x hx=>?_⟩;have:=QmX hx;omega
theorem Que:∀(F:VF),F.Ok->F.fsz<=1048576->XD F:=by
 intro F;induction F with
 |nil=>intro _ _;trivial
 |cons d p r ih1 ih2=>
  intro h hw;simp only[VF.fsz] at hw;exact⟨Qhd h.1 Q3,by have:=Qg9 p;omega,ih1 h.2.1 Q3,ih2 h.2.2 Q3⟩
theorem Qvh{d:Nd}{p:VF}(hd:QdU d)(hp:p.Ok)(hw:ndw d+p.fsz<=1048576):Sz d p:=
 ⟨Qhd hd Q3,Que p hp Q3,by have:=Qg9 p;omega⟩
section
variable {H:Type}{enc:TypeId×Value->H}{W:World}
theorem Qj3(ss:List ByteArray):Rows.uptoBulkAll (strs (H:=H) ss)=Q8i (ss.map fun s=>s.data.toList):=by
 induction ss with
 |nil=>rfl
 |cons s r ih=>
  have e:strs (H:=H) (s::r)=DataW.lit (.string s.data.toList)::strs r:=by simp [strs]
  rw[e];simp only[Rows.uptoBulkAll,Rows.uptoBulk,List.map_cons];rw[ih];simp [Q8i]
theorem Q6B{fuel:Nat}{cs:List Value}{x:DataW H×List MemPlace}(h:DataW.trod enc Tryz.prog W 0 (fun _=>true) true fuel 27 cs=some x):
  ∃(A:Option Addr) (n c:Nat) (ns:List (List UInt8)),cs=[.slice A n c]/\Rd W W.heap.size 1 A n (sv ns)/\n<=c/\Q8i ns+1<=Rows.uptoBulk x.1:=by
 rcases open_strings Tryz.underlying27 Tryz.underlying9 Q5 h with ⟨hcs,hx⟩|⟨a,len,cap,ss,hcs,_,hl,hm,hz,hx,hcell,_⟩
 ·exact⟨none,0,0,[],hcs,Qoi,Nat.le_refl _,by simp [Q8i];exact Xy x.1⟩
 ·subst hx
  have hz':ss.length=cap:=by simpa using hz
  refine⟨some a,len,cap,(ss.take len).map (fun s=>s.data.toList),hcs,⟨by simp [sv];omega,fun hn=>?_⟩,hl,?_⟩
  ·have h0:=hcell 0 Q3
   have hs:a.spot=none:=by simpa [Addr.add] using World.cell?_spot h0
   obtain⟨b,o,sp⟩:=a;simp only at hs;subst hs;refine⟨b,o,rfl,World.block_lt_of_cell? W _ Qex,fun j u hu=>?_⟩;have e:(⟨b,o,none⟩:Addr).add j=⟨b,o+j,none⟩:=by unfold Addr.add;split<;>simp_all
   rw[<- e];simp only[sv,List.map_map,List.getElem?_map,List.getElem?_take] at hu;split at hu
   ·rename_i hj
    have hjl:j<ss.length:=by omega
    rw[List.getElem?_eq_getElem hjl] at hu;simp only[Option.map_some,Option.some.injEq,Function.comp] at hu;rw[hcell j hjl,List.getD_eq_getElem?_getD,List.getElem?_eq_getElem hjl];rw[<- hu];rfl
   ·simp at hu
  ·simp only[Rows.uptoBulk]
   rw[Qj3 (ss.take len)];omega
theorem Q67{fuel:Nat}{cs:List Value}{x:DataW H×List MemPlace}(h:DataW.trod enc Tryz.prog W 0 (fun _=>true) true fuel 25 cs=some x):
  ∃(A:Option Addr) (n c:Nat) (bs:List UInt8),cs=[.slice A n c]/\Rd W W.heap.size 1 A n (bv bs)/\n<=c/\bs.length=n/\n+1<=Rows.uptoBulk x.1:=by
 rcases open_ints Tryz.underlying25 Tryz.underlying5 Q5 h with ⟨hcs,hx⟩|⟨a,len,cap,zs,hcs,_,hl,hm,hz,hx,hcell,hwz⟩
 ·exact Qog
 ·subst hx
  have hz':zs.length=cap:=by simpa using hz
  have hr:=Q2E hl hz' hcell;obtain⟨bs,hbl,hbe⟩:=Q2a (zs.take len) Qr6;rw[hbe] at hr;have hbl':bs.length=len:=by rw[hbl,List.length_take];omega
  refine⟨_,_,_,bs,hcs,hr,hl,hbl',?_⟩;have h1:=Qly;exact Qo7
theorem Qaw{α:Type}(n:Nat)(P:Nat->α->Prop)(h:∀i,i<n->∃x,P i x):∃l:List α,l.length=n/\∀i x,l[i]? =some x->P i x:=by
 induction n with
 |zero=>exact⟨[],rfl,fun i x h=>by simp at h⟩
 |succ n ih=>
  obtain⟨l,hl,hp⟩:=ih fun i hi=>h i Q3;obtain⟨x,hx⟩:=h n Q3;refine⟨l++[x],by simp [hl],fun i y hy=>?_⟩;by_cases hi:i<l.length
  ·rw[List.getElem?_append_left hi] at hy;exact hp i y hy
  ·rw[List.getElem?_append_right Q3] at hy
   obtain⟨k,hk⟩:∃k,i - l.length=k:=⟨_,rfl⟩;rw[hk] at hy;cases k with
   |zero=>
    simp at hy;subst hy;obtain rfl:i=n:=by omega
    exact hx
   |succ k=>simp at hy
theorem QtD(l:List (Nd×VF))(E:List (DataW H))(hl:l.length=E.length)(h:∀(i:Nat) (x:Nd×VF) (e:DataW H),l[i]? =some x->E[i]? =some e->ndw x.1+x.2.fsz<=Rows.uptoBulk e):(VF.ofL l).fsz<=Rows.uptoBulkAll E:=by
 induction l generalizing E with
 |nil=>simp [VF.ofL,VF.fsz]
 |cons b l ih=>
  cases E with
  |nil=>simp at hl
  |cons e E=>
   simp only[Rows.uptoBulkAll,VF.ofL,VF.fsz];have h1:=h 0 b e rfl rfl;have h2:=ih E QdI fun i x y hx hy=>h (i+1) x y Q7G Q8Z;omega
theorem QfS(b o j:Nat):(⟨b,o,none⟩:Addr).add j=⟨b,o+j,none⟩:=by unfold Addr.add;split<;>simp_all
theorem Q7V:∀(fuel:Nat) (cs:List Value) (x:DataW H×List MemPlace),DataW.trod enc Tryz.prog W 0 (fun _=>true) true fuel 30 cs=some x->
  ∃(d:Nd) (p:VF) (sb sn sp:Value),cs=[.int .i64 d.k,.int .i64 d.n,sb,sn,sp]/\Hd W W.heap.size d p.len (FIn W W.heap.size p) sb sn sp/\QdU d/\p.Ok/\ndw d+p.fsz<=Rows.uptoBulk x.1:=by
 intro fuel;induction fuel using Nat.strongRecOn with
 |ind fuel ih=>
  intro cs x h;obtain⟨xs,n,rfl,rfl,hl,hlen,hf⟩:=DataW.trod_struct Tryz.underlying30 h;obtain⟨y0,y1,y2,y3,y4,rfl⟩:∃y0 y1 y2 y3 y4,xs=[y0,y1,y2,y3,y4]:=by
   match xs,hlen with
   |[y0,y1,y2,y3,y4],_=>exact⟨y0,y1,y2,y3,y4,rfl⟩
  have hC:Tryz.prog.cellsOf 30=5:=by kernel_rfl
  rw[hC] at hl;obtain⟨c0,c1,c2,c3,c4,rfl⟩:∃c0 c1 c2 c3 c4,cs=[c0,c1,c2,c3,c4]:=by
   match cs,hl with
   |[c0,c1,c2,c3,c4],_=>exact⟨c0,c1,c2,c3,c4,rfl⟩
  have k3:Tryz.prog.cellsOf 3=1:=by kernel_rfl
  have k5:Tryz.prog.cellsOf 25=1:=by kernel_rfl
  have k6:Tryz.prog.cellsOf 27=1:=by kernel_rfl
  have k7:Tryz.prog.cellsOf 28=1:=by kernel_rfl
  have f0:DataW.trod enc Tryz.prog W 0 (fun _=>true) true n 3 [c0]=some y0:=by have h:=hf 0 _ rfl;simpa [k3] using h
  have f1:DataW.trod enc Tryz.prog W 0 (fun _=>true) true n 3 [c1]=some y1:=by have h:=hf 1 _ rfl;simpa [k3] using h
  have f2:DataW.trod enc Tryz.prog W 0 (fun _=>true) true n 25 [c2]=some y2:=by have h:=hf 2 _ rfl;simpa [k5] using h
  have f3:DataW.trod enc Tryz.prog W 0 (fun _=>true) true n 27 [c3]=some y3:=by have h:=hf 3 _ rfl;simpa [k6] using h
  have f4:DataW.trod enc Tryz.prog W 0 (fun _=>true) true n 28 [c4]=some y4:=by have h:=hf 4 _ rfl;simpa [k7] using h
  obtain⟨kk,e0,e1,w0⟩:=DataW.trod_int Tryz.underlying3 f0;obtain⟨nn,e2,e3,w1⟩:=DataW.trod_int Tryz.underlying3 f1;obtain⟨Ab,nb,cb,bs,e4,hrb,hlb,hbl,hbk⟩:=Q67 f2;obtain⟨An,nm,cn,ns,e5,hrn,hln,hnk⟩:=Q6B f3;simp only[List.cons.injEq,and_true] at e0 e2 e4 e5;subst e0 e2 e4 e5;have hkb:=bounds_i64 w0;have hnb:=bounds_i64 w1;rcases DataW.trod_slice Tryz.underlying28 f4 with ⟨hcs,hx⟩|⟨a,l,c,elems,rest,n',hfu,hcs,hx,_,hl',hm,hel0,hel,_,_⟩
  ·simp only[List.cons.injEq,and_true] at hcs
   subst hcs;refine⟨⟨kk,nn,bs,ns⟩,.nil,_,_,_,rfl,⟨Ab,nb,cb,An,nm,cn,none,0,rfl,rfl,rfl,hlb,hln,Nat.le_refl _,Nat.zero_le _,hrb,hrn,fun h=>absurd h (Nat.lt_irrefl _)⟩,⟨hkb.1,hkb.2,hnb.1,hnb.2⟩,trivial,?_⟩;have b0:=Xy y0.1;have b1:=Xy y1.1;have b4:=Xy y4.1;simp only[List.map_cons,List.map_nil,Rows.uptoBulk,Rows.uptoBulkAll,VF.fsz,ndw];omega
  ·simp only[List.cons.injEq,and_true] at hcs
   subst hcs;have hn':n'<n+1:=by omega
   have each:∀i,i<l->∃y:(Nd×VF)×(Value×Value×Value),(∃cs',W.cells? 0 (a.add (i*5)) 5=some cs'/\cs'=[.int .i64 y.1.1.k,.int .i64 y.1.1.n,y.2.1,y.2.2.1,y.2.2.2])/\Hd W W.heap.size y.1.1 y.1.2.len (FIn W W.heap.size y.1.2) y.2.1 y.2.2.1 y.2.2.2/\(QdU y.1.1/\y.1.2.Ok)/\(∀e,(elems.map (·.1))[i]? =some e->ndw y.1.1+y.1.2.fsz<=Rows.uptoBulk e):=by
    intro i hlt;have hel':=hel i hlt;rw[hC,List.getElem?_eq_getElem (show i<elems.length by omega)] at hel';obtain⟨cs',hc,ht⟩:=Option.bind_eq_some_iff.1 hel';obtain⟨d,p,sb,sn,sp,hcs',hd,hok,hpo,hw⟩:=ih n' hn' cs' _ ht
    exact⟨((d,p),(sb,sn,sp)),⟨cs',hc,hcs'⟩,hd,⟨hok,hpo⟩,fun e he=>by
     rw[List.getElem?_map,List.getElem?_eq_getElem (show i<elems.length by omega)] at he
     simp only[Option.map_some,Option.some.injEq] at he
     subst he
     exact hw⟩
   obtain⟨ys,hyl,hys⟩:=Qaw l _ each;refine⟨⟨kk,nn,bs,ns⟩,VF.ofL (ys.map (·.1)),_,_,_,rfl,⟨Ab,nb,cb,An,nm,cn,some a,c,rfl,rfl,by rw[QaA,List.length_map,hyl],hlb,hln,by rw[QaA,List.length_map,hyl];exact hl',hm,hrb,hrn,fun h0=>?_⟩,⟨hkb.1,hkb.2,hnb.1,hnb.2⟩,?_,?_⟩
   ·rw[QaA,List.length_map,hyl] at h0
    have hy0:ys[0]? =some ys[0]:=List.getElem?_eq_getElem Q3;obtain⟨⟨cs0,hc0,hcs0⟩,_⟩:=hys 0 _ hy0;obtain⟨_,_,hat0⟩:=World.cells?_some hc0;have hcell0:=hat0 0 Q3;have hs:a.spot=none:=by rw[hcs0] at hcell0;simpa [Addr.add] using World.cell?_spot hcell0
    obtain⟨b,o,sp⟩:=a;simp only at hs;subst hs;have hadd:∀i j,((⟨b,o,none⟩:Addr).add (i*5)).add j=⟨b,o+i*5+j,none⟩:=fun i j=>by rw[QfS,QfS]
    refine⟨b,o,rfl,?_,QtX _ b o fun i x hx=>?_⟩
    ·rw[hcs0] at hcell0
     have:=World.block_lt_of_cell? W _ hcell0;simpa [Addr.add] using this
    ·rw[List.getElem?_map] at hx
     cases hy:ys[i]? with
     |none=>rw[hy] at hx;simp at hx
     |some y=>
      rw[hy] at hx;simp only[Option.map_some,Option.some.injEq] at hx;subst hx;obtain⟨⟨cs1,hc1,hcs1⟩,hd,_⟩:=hys i y hy;obtain⟨_,_,hat⟩:=World.cells?_some hc1;rw[hcs1] at hat;have q0:=hat 0 Q3;have q1:=hat 1 Q3;have q2:=hat 2 Q3;have q3:=hat 3 Q3;have q4:=hat 4 Q3;rw[hadd] at q0 q1 q2 q3 q4;exact⟨_,_,_,⟨by simpa using q0,by simpa using q1,by simpa using q2,by simpa using q3,by simpa using q4⟩,hd⟩
   ·refine QtL _ fun i x hx=>?_
    rw[List.getElem?_map] at hx;cases hy:ys[i]? with
    |none=>rw[hy] at hx;simp at hx
    |some y=>
     rw[hy] at hx;simp only[Option.map_some,Option.some.injEq] at hx;subst hx;exact(hys i y hy).2.2.1
   ·have hsz:=QtD (ys.map (·.1)) (elems.map (·.1)) (by simp [hyl,hel0]) fun i x e hx he=>by
     rw[List.getElem?_map] at hx;cases hy:ys[i]? with
     |none=>rw[hy] at hx;simp at hx
     |some y=>
      rw[hy] at hx;simp only[Option.map_some,Option.some.injEq] at hx;subst hx;exact(hys i y hy).2.2.2 e he
    have b0:=Xy y0.1;have b1:=Xy y1.1;have hy4:y4.1=.slice (elems.map (·.1)) (rest.map (·.1)):=by rw[hx]
    simp only[List.map_cons,List.map_nil,Rows.uptoBulk,Rows.uptoBulkAll,ndw,hy4];omega
theorem QdG{base:Nat}{v:Value}{d:DataW H}{p:List MemPlace}(hv:Value.okWide Tryz.prog W .any base 30 v)(h:DataW.Trod enc Tryz.prog W 0 (fun _=>true) true 30 v d p)(hb:Rows.uptoBulk d<=1048576):
  ∃(nd:Nd) (F:VF),VIn W W.heap.size v nd F/\Sz nd F:=by
 obtain⟨cs,rfl,hsz⟩:=okWide_struct Tryz.underlying30 hv;obtain⟨fuel,hf⟩:=h;obtain⟨nd,F,sb,sn,sp,hcs,hd,hok,hpo,hw⟩:=Q7V fuel _ _ hf;refine⟨nd,F,⟨sb,sn,sp,?_,hd⟩,Qvh hok hpo (Nat.le_trans hw hb)⟩;have:cs.toList=[.int .i64 nd.k,.int .i64 nd.n,sb,sn,sp]:=by simpa [Value.cells] using hcs
 cases cs
 simp at this;rw[this]
end
section
variable {C0:World->Prop}{K:Act->(World->Prop)->Prop}{R:Value->World->Prop}{a:Act}{k:Nat}{ι:Type}
def Zy(P:Program)(R:Value->World->Prop)(B:List PanicEntry->World->Prop):Result Next->Prop
 |.ok (.value u) w'=>R u w'
 |.ok .skip w'=>R undef w'
 |.ok (.enter f args) w'=>Calls P f args w' (fun e w''=>(∃v,e=.returned v/\R v w'')\/∃ch,e=.panicked ch/\B ch w'')
 |_=>False
theorem Zy.of{P:Program}{B:List PanicEntry->World->Prop}{r:Result Next}(h:ZN P R r):Zy P R B r:=by
 cases r with
 |ok n w'=>
  cases n<;>simp only[ZN] at h<;>simp only[Zy]
  case value u=>exact h
  case skip=>exact h
  case enter f args=>exact h.mono fun e w'' h=>.inl h
 |halt x w'=>simp only[ZN] at h
class Pan[dq:DQ](Q:Exit->Act->World->Prop)(B:outParam (List PanicEntry->World->Prop)):Prop where
 on:∀a ch w,a.defers=DQ.D->B ch w->Q (.panic ch) a w
instance [dq:DQ]{Q:Exit->Act->World->Prop}{B:List PanicEntry->World->Prop}{K:Act->World->Prop}[h:Pan Q B]:Pan (Exit.then K Q) B:=⟨fun a ch w hd hb=>h.on a ch w hd hb⟩
instance [dq:DQ]{Q:Exit->Act->World->Prop}{B:List PanicEntry->World->Prop}{id:Nat}[h:Pan Q B]:Pan (Exit.inBlock id Q) B:=⟨fun a ch w hd hb=>h.on a ch w hd hb⟩
theorem Pan.body{P:Program}{fn:Func}{R:Ending->World->Prop}{B:List PanicEntry->World->Prop}(h:∀ch w,B ch w->R (.panicked ch) w):@Pan dq0 (bodyPost P fn R) B:=@Pan.mk dq0 _ _ fun a ch w hd hb=>⟨hd,h ch w hb⟩
theorem Oper.wp_of_loudP{P:Program}{o:Oper}{w:World}{B:List PanicEntry->World->Prop}{K:Act->World->Prop}{Q:Exit->Act->World->Prop}(h:Zy P R B ((execOp a.eval o).run P w))(hk:∀v w',R v w'->K (a.put o.dst v) w')(hb:∀ch w',B ch w'->Q (.panic ch) a w'):o.wp P a w K Q:=by
 unfold Oper.wp;generalize (execOp a.eval o).run P w=r at h;cases r with
 |ok n w'=>
  cases n<;>simp only[Zy] at h<;>simp only[Oper.upon]
  case value u=>exact hk _ _ h
  case skip=>exact hk _ _ h
  case enter f args=>
   refine h.mono fun e w'' h=>?_;rcases h with ⟨v,he,hr⟩|⟨ch,he,hr⟩
   ·subst he;exact hk _ _ hr
   ·subst he;exact hb _ _ hr
 |halt x w'=>simp only[Zy] at h
def pE[dq:DQ](P:Program)(ops:Array Oper)(N:Nat)(M:List Nat)(W:World)(E:Env)(O:List Qf)(o:Oper)(ι:Type)(V:ι->Value)(G:ι->List Qf)(p:ι->Prop)(B:List PanicEntry->World->Prop):Prop:=
 ∀a w,Ag N E a->Wd M W O w->Region.wanted o (yielded ops a.tmps)=true/\Zy P (fun v w'=>∃i,v=V i/\p i/\Wd M W (G i) w') B ((execOp a.eval o).run P w)
def JB{ι:Type}(V:ι->Value)(p:ι->Prop)(M:List Nat)(W:World)(G:ι->List Qf)(B:List PanicEntry->World->Prop)(e:Ending)(w':World):Prop:=X7 V p M W G e w'\/∃ch,e=.panicked ch/\B ch w'
section
variable {P:Program}{ops:Array Oper}{Q:Exit->Act->World->Prop}{N:Nat}{E E':Env}{o:Oper}{rest:List Oper}{M:List Nat}{W:World}{O O0:List Qf}{d:Nat}{B:List PanicEntry->World->Prop}{T:List Nat}{f:Nat}{listed:Array Bool}
theorem Q0V[dq:DQ]{V:ι->Value}{G:ι->List Qf}{p:ι->Prop}[hB:Pan Q B](h1:pE P ops N M W E O o ι V G p B)(hd:o.dst=some d)(hN:d<N)(h:∀i,p i->lE P ops Q N M W ((d,V i)::E) (G i) rest):lE P ops Q N M W E O (o::rest):=fun a w ha hW=>by
 obtain⟨hw,hl⟩:=h1 a w ha hW;refine wpList_step fun K hK=>?_;rw[if_pos hw];refine Oper.wp_of_loudP hl ?_ (fun ch w' hb=>hB.on a ch w' ha.df hb);exact QjX
theorem Qv1[dq:DQ]{V:ι->Value}{p:ι->Prop}{G:ι->List Qf}{f:FuncId}{args:Array Value}(hw:Qo ops E o=some true)(hv:∀ρ w,Ev E ρ->(execOp ρ o).run P w=.ok (.enter f args) w)
  (hc:∀w,Wd M W O w->Calls P f args w (JB V p M W G B)):pE P ops N M W E O o ι V G p B:=fun a w ha hW=>by
 refine⟨ha.want hw,?_⟩;rw[hv a.eval w ha.ev];refine(hc w hW).mono ?_;rintro e w' (⟨i,rfl,hp,hW'⟩|⟨ch,rfl,hb⟩)
 ·exact .inl ⟨_,rfl,i,rfl,hp,hW'⟩
 ·exact .inr ⟨ch,rfl,hb⟩
theorem J9[dq:DQ](V:ι->Value)(p:ι->Prop)(G:ι->List Qf){f:FuncId}{xs:List Operand}{ts:Array TypeId}{vs:List Value}[he:En P f](ho:o.op=.call { callee:=.value (.func f),args:=xs.toArray,argTypes:=ts })(hw:Qo ops E o=some true)(hx:evs E xs=some vs)
  (hc:∀w,Wd M W O w->Calls P f vs.toArray w (JB V p M W G B)):pE P ops N M W E O o ι V G p B:=
 Qv1 hw (fun ρ w ha=>QeO ho hx ρ w ha) hc
def stepPn(P:Program)(ops:Array Oper)(C0:World->Prop)(T:List Nat)(B:List PanicEntry->World->Prop)(i:Nat)(a:Act)(D:World->Prop)(K:Act->(World->Prop)->Prop):Prop:=
 match ops[i]? with
 |none=>K a D
 |some o=>(Region.wanted o (yielded ops a.tmps)=false/\K (a.put o.dst undef) D)\/(Region.wanted o (yielded ops a.tmps)=true/\
   ∃(ι:Type) (V:ι->Value) (G:ι->World->Prop),(∀w,D w->Zy P (fun v w'=>∃i,v=V i/\G i w') B ((execOp a.eval o).run P w))/\(∀x,Stb (G x)/\(i∈T\/∀w,G x w->C0 w))/\∀x,K (a.put o.dst (V x)) (G x))
def QaD(P:Program)(ops:Array Oper)(C0:World->Prop)(T:List Nat)(B:List PanicEntry->World->Prop)(Q:Exit->Act->World->Prop):Nat->Array Bool->Act->(World->Prop)->Prop
 |0,listed,a,D=>Region.ready .any ops listed=[]/\∀w,D w->Q .normal a w
 |f+1,listed,a,D=>(Region.ready .any ops listed=[]->∀w,D w->Q .normal a w)/\∀i∈Region.ready .any ops listed,stepPn P ops C0 T B i a D (QaD P ops C0 T B Q f (listed.setIfInBounds i true))
theorem Q6f(a:Act)(d:Option Nat)(v:Value):(a.put d v).defers=a.defers:=by cases d<;>rfl
theorem QeC[dq:DQ](hB:Pan Q B):∀(f:Nat) (listed:Array Bool) (a:Act) (D:World->Prop),a.defers=DQ.D->QaD P ops C0 T B Q f listed a D->∀w,D w->wpAny P .any ops Q f listed a w:=by
 intro f;induction f with
 |zero=>intro listed a D hd h w hw;exact⟨h.1,h.2 w hw⟩
 |succ f ih=>
  intro listed a D hd h w hw;refine⟨fun h0=>h.1 h0 w hw,fun i hi=>?_⟩;have hs:=h.2 i hi;unfold stepPn at hs;unfold wpOp;split
  ·rename_i ho;simp only[ho] at hs;exact ih _ _ _ hd hs w hw
  ·rename_i o ho
   simp only[ho] at hs;rcases hs with ⟨hwt,hk⟩|⟨hwt,ι,V,G,hr,hG,hk⟩
   ·rw[if_neg (by rw[hwt];decide)]
    exact ih _ _ _ ((Q6f _ _ _).trans hd) hk w hw
   ·rw[if_pos hwt]
    refine .inl (Oper.wp_of_loudP (hr w hw) ?_ (fun ch w' hb=>hB.on a ch w' hd hb));rintro v w' ⟨j,rfl,hj⟩;exact ih _ _ _ ((Q6f _ _ _).trans hd) (hk j) w' hj
theorem Zj.stepPn{C0:World->Prop}{i:Nat}{o:Oper}{a:Act}{v:Value}{D:World->Prop}{K:Act->(World->Prop)->Prop}(hi:ops[i]? =some o)(h:Zj P ops C0 o a v)(hD:Stb D)(hC:∀w,D w->C0 w)(hk:K (a.put o.dst v) D):stepPn P ops C0 T B i a D K:=by
 have h0:=Zj.step (T:=T) hi h hD hC hk;unfold Yg at h0;unfold Go.Proofs.YtphkhfdmlcnoeaaGreatDoor.stepPn;simp only[hi] at h0 ⊢;rcases h0 with h0|⟨hw,ι,V,G,h1,h2,h3⟩
 ·exact .inl h0
 ·exact .inr ⟨hw,ι,V,G,fun w hw=>.of (h1 w hw),h2,h3⟩
theorem Q6N{i:Nat}{oi:Oper}{v:Value}(hi:ops[i]? =some oi)(hsel:∀(j:Nat) (o:Oper) cs b,ops[j]? =some o->o.op≠ .select cs b)(hT:∀t∈T,∃f,Go.Proofs.YtphkhfdmlcnoeaaGreatDoor.waits ops f t i=true):
  ∀(f:Nat) (listed:Array Bool) (a:Act) (D:World->Prop),Clo ops listed->Stb D->(∀w,D w->C0 w)->
   (∀j oj,ops[j]? =some oj->j≠i->listed.getD j true=false->(∀e∈oj.after,Region.binds .any e=true->e.on≠i)->oi.apart ops oj=true)->
   i∈Region.ready .any ops listed->Zj P ops C0 oi a v->
   QaD P ops C0 T B Q f (listed.setIfInBounds i true) (a.put oi.dst v) D->QaD P ops C0 T B Q (f+1) listed a D:=by
 intro f;induction f with
 |zero=>
  intro listed a D hcl hD hC _ hr hy H;refine⟨fun h=>Qap,fun j hj=>?_⟩;by_cases hji:j=i
  ·subst hji;exact hy.stepPn hi hD hC H
  ·have:=ready_mono hj hji
   rw[H.1] at this;cases this
 |succ f ih=>
  intro listed a D hcl hD hC hfree hr hy H;refine⟨fun h=>Qap,fun j hj=>?_⟩;by_cases hji:j=i
  ·subst hji;exact hy.stepPn hi hD hC H
  ·have h1:=H.2 j (ready_mono hj hji)
   obtain⟨hjun,oj,hoj,hall⟩:=mem_ready.1 hj;have hjT:j∉T:=fun hm=>by
    obtain⟨f',hf'⟩:=hT j hm;have h1:=hcl.waits f' j i oj hoj hall hf';have h0:=(mem_ready.1 hr).1;rcases Nat.lt_or_ge i listed.size with h'|h'
    ·simp [h'] at h0 h1;rw[h0] at h1;cases h1
    ·simp [Array.getElem?_eq_none h'] at h1
   have hnot:∀e∈oj.after,Region.binds .any e=true->e.on≠i:=fun e he hb heq=>by
    have h1:=hall e he hb;have h0:=(mem_ready.1 hr).1;rw[heq] at h1;rcases Nat.lt_or_ge i listed.size with h'|h'
    ·simp [h'] at h0 h1;rw[h0] at h1;cases h1
    ·simp [Array.getElem?_eq_none h'] at h1
   obtain⟨a1,a2,a3⟩:=Oper.apart_spec (hfree j oj hoj hji hjun hnot);have hfree':∀k ok,ops[k]? =some ok->k≠i->(listed.setIfInBounds j true).getD k true=false->
     (∀e∈ok.after,Region.binds .any e=true->e.on≠i)->oi.apart ops ok=true:=fun k ok hk hki hun hno=>by
    refine hfree k ok hk hki ?_ hno;by_cases hjk:j=k
    ·subst hjk;exact hjun
    ·rw[getD_set_ne true hjk] at hun;exact hun
   have go:∀u (G:World->Prop),Stb G->(∀w,G w->C0 w)->QaD P ops C0 T B Q f ((listed.setIfInBounds i true).setIfInBounds j true) ((a.put oi.dst v).put oj.dst u) G->QaD P ops C0 T B Q (f+1) (listed.setIfInBounds j true) (a.put oj.dst u) G:=by
    intro u G hG hGC hk;refine Qqx ?_;exact hk
   unfold Go.Proofs.YtphkhfdmlcnoeaaGreatDoor.stepPn at h1 ⊢;simp only[hoj] at h1 ⊢;rw[wanted_put oj a oi.dst v a1,execOp_put oj (fun cs b=>hsel j oj cs b hoj) a oi.dst v a1] at h1;rcases h1 with ⟨hw,hk⟩|⟨hw,ι,V,G,hr1,hG,hk⟩
   ·exact .inl ⟨hw,go _ _ hD hC hk⟩
   ·exact Qso
def dP[dq:DQ](P:Program)(ops:Array Oper)(Q:Exit->Act->World->Prop)(N:Nat)(M:List Nat)(W:World)(O0:List Qf)(T:List Nat)(B:List PanicEntry->World->Prop)(f:Nat)(listed:Array Bool)(E:Env)(O:List Qf):Prop:=
 Clo ops listed->∀a,Ag N E a->QaD P ops (Wd M W O0) T B Q f listed a (Wd M W O)
theorem Q3f[dq:DQ](O0:List Qf)(T:List Nat:=[]){id:Nat}{l:List Oper}(hm:P.follows .mixedOrders=true)(hB:Pan Q B)(h:dP P l.toArray Q N M W O0 T B l.length (Array.replicate l.length false) E O):sE P Q N M W E O (.region id l.toArray true):=fun a w ha hw=>
 wp_region_any hm (by simpa using QeC hB _ _ _ _ ha.df (h (by simpa using Q9s l.toArray) a ha) _ hw.drew)
theorem ZT[dq:DQ](k:Nat)(ho:ops[k]? =some o)(hB:Qh5 ops T listed k=true)(hT:Qm M W O0 O)(h1:oE P ops (Wd M W O0) N E E' o)(h2:dP P ops Q N M W O0 T B f (listed.setIfInBounds k true) E' O):dP P ops Q N M W O0 T B (f+1) listed E O:=fun hcl a ha=>by
 unfold Qh5 at hB;simp only[Bool.and_eq_true,List.all_eq_true] at hB;obtain⟨⟨⟨hTw,hr⟩,hf⟩,hs⟩:=hB;have hr':k∈Region.ready .any ops listed:=by simpa using hr
 have hTT:∀t∈T,∃f,waits ops f t k=true:=fun t ht=>⟨_,hTw t ht⟩;have h:=h1 a ha;split at h
 ·rename_i hw
  obtain⟨v,hv,hE⟩:=h;exact Q6N ho Qa3 hTT f listed a _ hcl Wd.stb hT QaJ hr' (.inl ⟨hw,hv⟩) (h2 Q3a _ hE)
 ·rename_i hw
  exact Q6N ho Qa3 hTT f listed a _ hcl Wd.stb hT QaJ hr' Qh2 (h2 Q3a _ h)
theorem QmL[dq:DQ]{V:ι->Value}{G:ι->List Qf}{p:ι->Prop}(ho:ops[k]? =some o)(ha:Ag N E a)(hne:∃w,Wd M W O w)(h1:pE P ops N M W E O o ι V G p B)(hT:∀i,k∈T\/Qm M W O0 (G i))(hk:∀i,p i->K (a.put o.dst (V i)) (Wd M W (G i))):stepPn P ops (Wd M W O0) T B k a (Wd M W O) K:=by
 unfold stepPn;simp only[ho];obtain⟨w0,hw0⟩:=hne;refine .inr ⟨(h1 a w0 ha hw0).1,{ i:ι // p i },fun i=>V i.1,fun i=>Wd M W (G i.1),fun w hw=>?_,fun i=>⟨Wd.stb,hT i.1⟩,fun i=>hk i.1 i.2⟩;have h:=(h1 a w ha hw).2;generalize (execOp a.eval o).run P w=r at h;cases r with
 |ok n w'=>
  cases n<;>simp only[Zy] at h ⊢
  case value u=>obtain⟨i,h1,h2,h3⟩:=h;exact Q9C
  case skip=>obtain⟨i,h1,h2,h3⟩:=h;exact Q9C
  case enter f args=>
   refine h.mono fun e w'' h=>?_;rcases h with ⟨v,he,i,h1,h2,h3⟩|h
   ·exact .inl ⟨v,he,⟨i,h2⟩,h1,h3⟩
   ·exact .inr h
 |halt x w'=>simp only[Zy] at h
theorem QoK{D:World->Prop}(hne:¬∃w,D w){o:Oper}(ho:ops[k]? =some o)(hw:Region.wanted o (yielded ops a.tmps)=true):stepPn P ops C0 T B k a D K:=by
 unfold stepPn;exact Qrf
theorem QhC[dq:DQ](k:Nat){V:ι->Value}{G:ι->List Qf}{p:ι->Prop}(hB:Region.ready .any ops listed=[k])(ho:ops[k]? =some o)(hw:Qo ops E o=some true)(h1:pE P ops N M W E O o ι V G p B)(hT:∀i,k∈T\/Qm M W O0 (G i))(hd:o.dst=some d)(hN:d<N)(h:∀i,p i->dP P ops Q N M W O0 T B f (listed.setIfInBounds k true) ((d,V i)::E) (G i)):dP P ops Q N M W O0 T B (f+1) listed E O:=fun hcl a ha=>by
 refine⟨fun h0=>absurd Q8O Qn,fun i hi=>?_⟩;rw[hB] at hi;rw[List.mem_singleton] at hi;subst hi;have hr':i∈Region.ready .any ops listed:=by rw[hB];exact Qdu
 by_cases hne:∃w,Wd M W O w
 ·exact QmL ho ha hne h1 hT fun x hp=>h x hp Q3a _ QdO
 ·exact QoK hne ho Jh
theorem pE.of[dq:DQ]{ι:Type}{V:ι->Value}{G:ι->List Qf}{p:ι->Prop}(h:uE P ops N M W E O o ι V G p):pE P ops N M W E O o ι V G p B:=fun a w ha hw=>⟨(h a w ha hw).1,.of (h a w ha hw).2⟩
theorem QgW[dq:DQ](h:xE Q N M W E O .normal)(hB:Region.ready .any ops listed=[]):dP P ops Q N M W O0 T B 0 listed E O:=fun _ a ha=>⟨hB,fun w hw=>h a w ha hw⟩
end
end
section
variable {g m:Nat}{o o':Obj}
def Qf.ap(x y:Qf):Prop:=∀b,x.foot=some b->y.foot=some b->(x.w||y.w)=false
section
variable {M:List Nat}{W w w':World}{O O' L:List Qf}
theorem Wd.pairs(h:Wd M W O w):O.Pairwise Qf.ap:=by
 rw[List.pairwise_iff_getElem];intro i j hi hj hij b hx hy;cases hw:(O[i].w||O[j].w) with
 |false=>rfl
 |true=>exact absurd (h.nd i j _ _ b (List.getElem?_eq_getElem hi) (List.getElem?_eq_getElem hj) hx hy hw) Q3
theorem Wd.of_pairs(k:XM M W w)(h1:∀x∈O,x.on w)(h2:∀x∈O,∀b,x.foot=some b->b<W.heap.size->(if x.w then b∈M else b∉M))(h3:O.Pairwise Qf.ap):Wd M W O w:=by
 refine⟨k,fun i x hx=>h1 x Q07,fun i x b hx=>h2 x Q07 b,fun i j x y b hx hy hfx hfy hw=>?_⟩;obtain⟨hi,rfl⟩:=List.getElem?_eq_some_iff.1 hx;obtain⟨hj,rfl⟩:=List.getElem?_eq_some_iff.1 hy;rw[List.pairwise_iff_getElem] at h3;rcases Nat.lt_trichotomy i j with hij|hij|hij
 ·rw[h3 i j hi hj hij b hfx hfy] at hw;cases hw
 ·exact hij
 ·rw[Bool.or_comm,h3 j i hj hi hij b hfy hfx] at hw;cases hw
theorem Wd.onAll(h:Wd M W O w):∀x∈O,x.on w:=fun x hx=>by
 obtain⟨i,hi,rfl⟩:=List.mem_iff_getElem.1 hx;exact h.own i _ (List.getElem?_eq_getElem hi)
theorem Wd.newAll(h:Wd M W O w):∀x∈O,∀b,x.foot=some b->b<W.heap.size->(if x.w then b∈M else b∉M):=fun x hx b hb=>by
 obtain⟨i,hi,rfl⟩:=List.mem_iff_getElem.1 hx;exact h.new i _ b (List.getElem?_eq_getElem hi) hb
theorem Wd.perm(h:Wd M W O w)(hp:O.Perm O'):Wd M W O' w:=
 .of_pairs h.k (fun x hx=>h.onAll x (hp.mem_iff.2 hx)) (fun x hx=>h.newAll x (hp.mem_iff.2 hx)) (h.pairs.perm hp fun hxy b hy hx=>by rw[Bool.or_comm];exact hxy b hx hy)
theorem Wd.sub(h:Wd M W O w)(hs:O'.Sublist O):Wd M W O' w:=
 .of_pairs h.k (fun x hx=>h.onAll x (hs.subset hx)) (fun x hx=>h.newAll x (hs.subset hx)) (h.pairs.sublist hs)
structure New(L:List Qf)(m:Nat)(w:World):Prop where
 rd:∀x∈L,x.w=false
 on:∀x∈L,x.on w
 far:∀x∈L,∀b,x.foot=some b->m<=b
theorem New.nil(m:Nat)(w:World):New [] m w:=⟨by simp,by simp,by simp⟩
theorem New.app{L L':List Qf}(h:New L m w)(h':New L' m w):New (L++L') m w:=
 ⟨fun x hx=>(List.mem_append.1 hx).elim (h.rd x) (h'.rd x),fun x hx=>(List.mem_append.1 hx).elim (h.on x) (h'.on x),fun x hx=>(List.mem_append.1 hx).elim (h.far x) (h'.far x)⟩
theorem New.less{m':Nat}(h:New L m w)(hm:m'<=m):New L m' w:=⟨h.rd,h.on,fun x hx b hb=>Nat.le_trans hm (h.far x hx b hb)⟩
theorem Wd.addL(h:Wd M W O w)(hm:W.heap.size<=m)(hO:∀x∈O,∀b,x.foot=some b->b<m)(hL:New L m w):Wd M W (O++L) w:=by
 refine .of_pairs h.k (fun x hx=>(List.mem_append.1 hx).elim (h.onAll x) (hL.on x)) (fun x hx b hb hlt=>?_) ?_
 ·rcases List.mem_append.1 hx with hx|hx
  ·exact h.newAll x hx b hb hlt
  ·have:=hL.far x hx b hb
   omega
 ·rw[List.pairwise_append]
  refine⟨h.pairs,?_,fun x hx y hy b hbx hby=>?_⟩
  ·rw[List.pairwise_iff_getElem]
   intro i j hi hj hij b hx hy;rw[hL.rd _ (List.getElem_mem hi),hL.rd _ (List.getElem_mem hj)];rfl
  ·have:=hO x hx b hbx
   have:=hL.far y hy b hby;omega
def QpX(L:List Qf)(φ:World->Prop):Prop:=∀w,(∀x∈L,x.on w)->φ w
theorem QpX.of{φ:World->Prop}(h:QpX L φ)(hw:Wd M W O w)(hs:∀x∈L,x∈O):φ w:=h w fun x hx=>hw.onAll x (hs x hx)
theorem XM.mono{M M':List Nat}(h:XM M W w)(hM:∀b∈M,b∈M'):XM M' W w:=⟨h.os,h.tape,h.output,h.size,fun k hk hn=>h.block k hk fun hm=>hn (hM k hm)⟩
theorem Wd.wrote(h:Wd M W (.blk g o::O) w)(hk:XM [g] w w')(ho:w'.heap[g]? =some o'):Wd M W (.blk g o'::O) w':=
 h.upd (i:=0) (x:=.blk g o) (y:=.blk g o') rfl rfl rfl ⟨hk.os,hk.tape,hk.output,hk.size,fun k hk1 hn=>hk.block k hk1 (by
  simp only[List.mem_singleton]
  intro e
  subst e
  exact hn rfl)⟩ ho (fun b hb=>.inl hb)
theorem Wd.wroteL(h:Wd M W (.blk g o::O) w)(hk:XM [g] w w')(ho:w'.heap[g]? =some o')(hL:New L w.heap.size w'):Wd M W (.blk g o'::(O++L)) w':=by
 have h1:=h.wrote hk ho;have:=h1.addL (m:=w.heap.size) (L:=L) h.k.size (fun x hx b hb=>?_) hL
 ·exact this
 ·rcases List.mem_cons.1 hx with rfl|hx
  ·cases hb
   exact(Array.getElem?_eq_some_iff.1 (h.own 0 _ rfl)).1
  ·exact(h.onAll x Q1M).lt hb
theorem Wd.made(h:Wd M W O w)(hb:Below w.heap.size w w')(hL:New L w.heap.size w'):Wd M W (O++L) w':=
 (h.on hb).addL (m:=w.heap.size) h.k.size (fun x hx b hb=>(h.onAll x hx).lt hb) hL
theorem Wd.blkH(h:Wd M W (.blk g o::O) w):w.heap[g]? =some o:=h.own 0 _ rfl
theorem Wd.startB(h:W.heap[g]? =some o):Wd [g] W [.blk g o] W:=(Wd.start [g] W).add (y:=.blk g o) h (fun b hb _=>by cases hb;exact List.mem_singleton.2 rfl) Qn
end
end
section
variable {A:Option Addr}{L:List Qf}{c:Nat}{cs:List Value}{d:Nd}{l:VF}{v:Value}{w:World}
def Zn(L:List Qf)(v:Value)(d:Nd)(l:VF):Prop:=∃sb sn sp,v=.agg #[.int .i64 d.k,.int .i64 d.n,sb,sn,sp]/\QpX L fun w=>Hd w w.heap.size d l.len (FIn w w.heap.size l) sb sn sp
def Q1U(L:List Qf)(cs:List Value)(l:VF):Prop:=cs.length=l.len*5/\QpX L fun w=>∀b o,b<w.heap.size->(∀j u,cs[j]? =some u->w.cell? ⟨b,o+j,none⟩=some u)->FIn w w.heap.size l b o
theorem Zn.vin(h:Zn L v d l)(hw:∀x∈L,x.on w):VIn w w.heap.size v d l:=by
 obtain⟨sb,sn,sp,e,h⟩:=h;exact⟨sb,sn,sp,e,h w hw⟩
theorem FIn.snoc{w:World}{B:Nat}{d:Nd}{p:VF}:∀{F:VF} {b o:Nat},FIn w B F b o->(∃sb sn sp,VW w b (o+F.len*5) d sb sn sp/\Hd w B d p.len (FIn w B p) sb sn sp)->FIn w B (F.snoc d p) b o
 |.nil,b,o,h,hn=>⟨by simpa [VF.len] using hn,trivial⟩
 |.cons d' p' r,b,o,h,hn=>⟨h.1,FIn.snoc h.2 (by
  have e:o+5+r.len*5=o+(r.len+1)*5:=by omega
  rw[e]
  exact hn)⟩
theorem Q1U.nil:Q1U [] [] .nil:=⟨rfl,fun w _ b o _ _=>trivial⟩
theorem Q1U.snoc{L L':List Qf}{cs:List Value}{l:VF}{k n:Int}{sb sn sp:Value}{d:Nd}{p:VF}(h:Q1U L cs l)(hv:Zn L' (.agg #[.int .i64 k,.int .i64 n,sb,sn,sp]) d p):Q1U (L++L') (cs++[.int .i64 k,.int .i64 n,sb,sn,sp]) (l.snoc d p):=by
 obtain⟨hl,h⟩:=h;obtain⟨sb',sn',sp',e,hv⟩:=hv;simp only[Value.agg.injEq,Array.mk.injEq,List.cons.injEq,Value.int.injEq,true_and,and_true] at e;obtain⟨e1,e2,e3,e4,e5⟩:=e;subst e1 e2 e3 e4 e5;refine⟨by rw[List.length_append,hl,VF.len_snoc];simp only[List.length_cons,List.length_nil];omega,fun w hw b o hb hc=>?_⟩
 have h1:=h w (fun x hx=>hw x (List.mem_append_left _ hx)) b o hb (fun j u hu=>hc j u (by
  rw[List.getElem?_append_left (List.getElem?_eq_some_iff.1 hu).1];exact hu))
 have hat:∀i u,[Value.int .i64 d.k,.int .i64 d.n,sb,sn,sp][i]? =some u->w.cell? ⟨b,o+l.len*5+i,none⟩=some u:=fun i u hu=>by
  have:=hc (cs.length+i) u (by rw[List.getElem?_append_right (Nat.le_add_right _ _),Nat.add_sub_cancel_left];exact hu);rw[hl] at this;rw[Nat.add_assoc];exact this
 exact h1.snoc ⟨sb,sn,sp,⟨hat 0 _ rfl,hat 1 _ rfl,hat 2 _ rfl,hat 3 _ rfl,hat 4 _ rfl⟩,hv w fun x hx=>hw x (List.mem_append_right _ hx)⟩
theorem J7(w:World)(B s:Nat):Rd w B s none 0 []:=⟨by simp,fun h=>absurd h Qe0⟩
theorem Zn.num(n:Int):Zn [] (.agg #[.int .i64 1,.int .i64 n,.slice none 0 0,.slice none 0 0,.slice none 0 0]) (ndN n) .nil:=
 ⟨_,_,_,rfl,fun w _=>⟨none,0,0,none,0,0,none,0,rfl,rfl,rfl,Nat.le_refl _,Nat.le_refl _,Nat.le_refl _,Nat.zero_le _,J7 _ _ _,J7 _ _ _,fun h=>absurd h (Nat.lt_irrefl 0)⟩⟩
theorem Zn.bytes{n:Nat}{bs:List UInt8}(hc:n<=c):Zn [.rd A n 1 (bv bs)] (.agg #[.int .i64 2,.int .i64 0,.slice A n c,.slice none 0 0,.slice none 0 0]) (ndB bs) .nil:=
 ⟨_,_,_,rfl,fun w hw=>⟨A,n,c,none,0,0,none,0,rfl,rfl,rfl,hc,Nat.le_refl _,Nat.le_refl _,Nat.zero_le _,hw _ List.mem_cons_self,J7 _ _ _,fun h=>absurd h Qe0⟩⟩
theorem Q1U.at_(h:Q1U L cs l)(hr:Rd w w.heap.size 5 A l.len cs)(hw:∀x∈L,x.on w):0<l.len->∃b o,A=some ⟨b,o,none⟩/\b<w.heap.size/\FIn w w.heap.size l b o:=fun h0=>by
 obtain⟨b,o,e,hb,hc⟩:=hr.2 h0;exact⟨b,o,e,hb,h.2 w hw b o hb hc⟩
theorem Zn.list(h:Q1U L cs l)(hc:l.len<=c)(hm:c<=maxLen):Zn (.rd A l.len 5 cs::L) (.agg #[.int .i64 3,.int .i64 0,.slice none 0 0,.slice none 0 0,.slice A l.len c]) ndL l:=
 ⟨_,_,_,rfl,fun w hw=>⟨none,0,0,none,0,0,A,c,rfl,rfl,rfl,Nat.le_refl _,Nat.le_refl _,hc,hm,J7 _ _ _,J7 _ _ _,h.at_ (hw _ List.mem_cons_self) fun x hx=>hw x Q1M⟩⟩
theorem Zn.cells(h:Zn L v d l):∃sb sn sp,v=.agg #[.int .i64 d.k,.int .i64 d.n,sb,sn,sp]:=by
 obtain⟨sb,sn,sp,e,_⟩:=h;exact⟨sb,sn,sp,e⟩
end
section
variable {bytes m:Nat}{c:UInt8}{e t t':TypeId}{w:World}{x y:Operand}
theorem Wd.tail{M:List Nat}{W:World}{x:Qf}{O:List Qf}(h:Wd M W (x::O) w):Wd M W O w:=
 ⟨h.k,fun i y hy=>h.own (i+1) y Q8Z,fun i y b hy hf hl=>h.new (i+1) y b Q8Z hf hl,fun i j y z b hy hz hf hg hw=>by
  have:=h.nd (i+1) (j+1) y z b Q8Z (by simpa using hz) hf hg hw
  omega⟩
section
variable {P:Program}{ops:Array Oper}{C:World->Prop}{N:Nat}{E:Env}{o:Oper}{d:Nat}
theorem QvT(ho:o.op=.binOp .shr t x y t')(hd:o.dst=some d)(hN:d<N)(hw:Qo ops E o=some true)(hx:ev E x=some (.int .u8 (c.toNat:Int)))(hy:ev E y=some (.int .u64 4)):oE P ops C N E ((d,.int .u8 ((c.toNat / 16:Nat):Int))::E) o:=
 Q0n ho hd hN hw hx hy fun w=>by
  rw[binOp_shr,shift_shr_u8 (h₀:=by decide) (h₁:=by decide)];have:(c.toNat:Int) / 2 ^ (4:Int).toNat=((c.toNat / 16:Nat):Int):=by
   rw[show (2:Int) ^ (4:Int).toNat=16 by decide];omega
  rw[this];rfl
theorem Qp9(c:UInt8):bits .and .u8 (c.toNat:Int) 15=((c.toNat % 16:Nat):Int):=by
 have h:∀n:Fin 256,bits .and .u8 ((n:Nat):Int) 15=(((n:Nat) % 16:Nat):Int):=by decide+kernel
 exact h ⟨c.toNat,c.toNat_lt⟩
theorem QvE(ho:o.op=.binOp .and t x y t')(hd:o.dst=some d)(hN:d<N)(hw:Qo ops E o=some true)(hx:ev E x=some (.int .u8 (c.toNat:Int)))(hy:ev E y=some (.int .u8 15)):oE P ops C N E ((d,.int .u8 ((c.toNat % 16:Nat):Int))::E) o:=
 Q0n ho hd hN hw hx hy fun w=>by rw[binOp_and,intBits_and,Qp9];rfl
theorem Quo(hm:m<255)(ho:o.op=.binOp .add t x y t')(hd:o.dst=some d)(hN:d<N)(hw:Qo ops E o=some true)(hx:ev E x=some (.int .u8 (m:Int)))(hy:ev E y=some (.int .u8 1)):oE P ops C N E ((d,.int .u8 ((m+1:Nat):Int))::E) o:=
 Qhf ho hd hN hw hx hy (by
  have h:∀n:Fin 255,IntKind.u8.wrap (((n:Nat):Int)+1)=(((n:Nat)+1:Nat):Int):=by decide+kernel
  exact h ⟨m,hm⟩)
end
theorem Qpi(h:m<16):(⟨#[48,49,50,51,52,53,54,55,56,57,97,98,99,100,101,102]⟩:ByteArray).extract m (m+1)=⟨#[hx m]⟩:=by
 have h':∀n:Fin 16,(⟨#[48,49,50,51,52,53,54,55,56,57,97,98,99,100,101,102]⟩:ByteArray).extract n (n+1)=⟨#[hx n]⟩:=by decide+kernel
 exact h' ⟨m,h⟩
theorem Q2n(a b:List UInt8):(⟨a.toArray⟩:ByteArray)++⟨b.toArray⟩=⟨(a++b).toArray⟩:=by
 refine Qjc ?_;simp
section
variable {P:Program}{ops:Array Oper}{N:Nat}{E:Env}{o:Oper}{M:List Nat}{W:World}{O:List Qf}
theorem Qeo(hT:SlT P t e 1 bytes)(a b:ByteArray)(w:World):
  (Instr.buildSlice t 2 #[(0,.string a),(1,.string b)]).run P w=.ok (.slice (some ⟨w.heap.size,0,none⟩) 2 2) (w.alloc (.cells [Value.string a,.string b].toArray e)):=by
 obtain⟨i,z,hi,hz,hsz,hby,hzs⟩:=hT.info;refine run_buildSlice w t e 2 _ [Value.string a,.string b].toArray i z hT.und hi hz KP KP ?_;rw[hsz];have hZ:∀Z:Array Value,Z.size=2->Instr.fill (fun i=>some (i*1,1)) Z [(0,Value.string a),(1,Value.string b)]=some #[.string a,.string b]:=by
  rintro⟨l⟩ h;match l,h with
  |[z0,z1],_=>rfl
 exact hZ _ Qn
theorem Qka{a b:ByteArray}[hT:Sl P t e 1 bytes](ho:o.op=.buildSlice t 2 #[(0,x),(1,y)])(hw:Qo ops E o=some true)(hx:ev E x=some (.string a))(hy:ev E y=some (.string b)):
  uE P ops N M W E O o Nat (fun b=>.slice (some ⟨b,0,none⟩) 2 2) (fun g=>.blk g (.cells [Value.string a,.string b].toArray e (0,0))::O) (fun _=>True):=
 VJ (xs:=[(0,x),(1,y)]) (vs:=[(0,.string a),(1,.string b)]) ho hw (by simp [evp,hx,hy]) (fun w=>Qeo hT.h a b w)
end
theorem QtC{M:List Nat}{W:World}{O:List Qf}{g c:Nat}{A:Option Addr}{ws:List (List UInt8)}(u:Bool)(s:List UInt8)(hn:ws.length<=1048576)(hw:Wd M W (.blk g (.cells [.slice A ws.length c].toArray 27 (0,0))::.row A ws.length c 9 1 (sv ws)::O) w):
  Calls Tryz.prog 122 ([Value.bool u,.string ⟨s.toArray⟩].toArray++#[.pointer (some ⟨g,0,none⟩)]) w (X7 (fun _:Option Addr×Nat=>.tuple #[]) (fun _=>True) M W (fun y=>.blk g (.cells [.slice y.1 (ws++ifW u s).length y.2].toArray 27 (0,0))::.row y.1 (ws++ifW u s).length y.2 9 1 (sv (ws++ifW u s))::O)):=by
 rw[show ([Value.bool u,.string ⟨s.toArray⟩].toArray++#[.pointer (some ⟨g,0,none⟩)]:Array Value)=#[.bool u,.string ⟨s.toArray⟩,.pointer (some ⟨g,0,none⟩)] by simp];cases u with
 |false=>
  go_enter Tryz.func122,Tryz.ntmps122;refine Qz (M:=M) (W:=W) (N:=10) (E:=[(0,.bool false),(1,.string ⟨s.toArray⟩),(2,.pointer Q6S)]) (O:=.blk g (.cells [.slice A ws.length c].toArray 27 (0,0))::.row A ws.length c 9 1 (sv ws)::O) ?_ XW hw;repeat(first|refine Q4 zM ?_|refine Qg ?_|refine Qa ?_|refine Q6 ?_|refine Qp ?_|refine Q8 rfl ?_)
  refine Zi Kf rfl (fun w hw=>⟨(A,c),rfl,trivial,?_⟩);rw[show ws++ifW false s=ws from List.append_nil ws];exact hw
 |true=>
  go_enter Tryz.func122,Tryz.ntmps122;refine Qz (M:=M) (W:=W) (N:=10) (E:=[(0,.bool true),(1,.string ⟨s.toArray⟩),(2,.pointer Q6S)]) (O:=.blk g (.cells [.slice A ws.length c].toArray 27 (0,0))::.row A ws.length c 9 1 (sv ws)::O) ?_ XW hw;repeat(first|refine Q4 zM ?_|refine Q4 (zB 0) ?_|refine Qd (J4 (size:=1) (cs:=[.string ⟨s.toArray⟩]) rfl rfl rfl rfl rfl Q1) rfl Q1 (fun bn _=>?_)|refine Qd (Zt (news:=[.string ⟨s.toArray⟩]) 2 rfl rfl rfl rfl rfl Q84 Qen Q3) rfl Q1 (fun y _=>?_)|refine yS 1 ?_|refine Qg ?_|refine Qa ?_|refine Q6 ?_|refine Q9 rfl ?_)
  refine Zi Kf rfl (fun w hw=>⟨y,rfl,trivial,?_⟩);have h:=hw.tail;rw[show (ws++ifW true s).length=ws.length+1 by simp [ifW],QtJ];exact h
theorem QaT:Lib.fields [108,105,116,101,114,97,108,32,110,117,109,98,101,114,32,100,101,99,105,109,97,108,32,98,121,116,101,115,32,117,110,116,105,108,32,99,111,117,110,116,101,100,32,115,101,113,117,101,110,99,101,32,99,104,111,105,99,101,32,114,101,112,101,97,116,32,98,108,111,98]=Q6M:=by decide+kernel
theorem Qil{M:List Nat}{W:World}{O:List Qf}(hg:GV W)(hw:Wd M W O w)(hgw:GV w):
  Calls Tryz.prog 121 #[.string ⟨#[108,105,116,101,114,97,108,32,110,117,109,98,101,114,32,100,101,99,105,109,97,108,32,98,121,116,101,115,32,117,110,116,105,108,32,99,111,117,110,116,101,100,32,115,101,113,117,101,110,99,101,32,99,104,111,105,99,101,32,114,101,112,101,97,116,32,98,108,111,98]⟩] w (X7 (fun b:Nat=>.slice (some ⟨b,0,none⟩) 10 10) (fun _=>True) M W (fun b=>.rd (some ⟨b,0,none⟩) 10 1 (sv Q6M)::O)):=by
 refine(Tryz.strings_Fields _ w Q1 (by
  intro j b hb
  have h:∀x∈(⟨#[108,105,116,101,114,97,108,32,110,117,109,98,101,114,32,100,101,99,105,109,97,108,32,98,121,116,101,115,32,117,110,116,105,108,32,99,111,117,110,116,101,100,32,115,101,113,117,101,110,99,101,32,99,104,111,105,99,101,32,114,101,112,101,97,116,32,98,108,111,98]⟩:ByteArray).data.toList,x.toNat<128:=by decide+kernel
  exact h b (List.mem_of_getElem? hb)) hgw.sp).mono ?_
 rintro e w' ⟨he,hw'⟩;have hk:Lib.fields (⟨#[108,105,116,101,114,97,108,32,110,117,109,98,101,114,32,100,101,99,105,109,97,108,32,98,121,116,101,115,32,117,110,116,105,108,32,99,111,117,110,116,101,100,32,115,101,113,117,101,110,99,101,32,99,104,111,105,99,101,32,114,101,112,101,97,116,32,98,108,111,98]⟩:ByteArray).data.toList=Q6M:=QaT;rw[hk] at he hw';subst he hw';refine⟨w.heap.size,rfl,trivial,hw.push QrL ⟨rfl,fun _=>⟨w.heap.size,0,rfl,by simp,fun j u hu=>?_⟩⟩ (fun b' hb'=>by cases hb';exact Nat.le_refl _)⟩;rw[Nat.zero_add];exact(cell_of_row _ w.heap.size j _ _ (0,0) Qez).trans (by rw[List.getElem?_toArray];exact hu)
end
section
variable {e:TypeId}{n:Nat}
theorem Q97{Q:Exit->Act->World->Prop}{N:Nat}{M:List Nat}{W:World}{E:Env}{O:List Qf}{ex:Exit}(i:Nat){b s:Nat}{cs:List Value}(hO:O[i]? =some (.blk b (.cells cs.toArray e (0,0))))(hl:cs.length=n*s)(hn:n<=maxLen)(h:xE Q N M W E (O.set i (.row (some ⟨b,0,none⟩) n n e s cs)) ex):xE Q N M W E O ex:=fun a w ha hW=>h a w ha (hW.blk_row hO hl hn)
theorem row_rd{w:World}{A:Option Addr}{c s:Nat}{xs:List Value}(h:(Qf.row A n c e s xs).on w)(hs:0<s):Rd w w.heap.size s A n xs/\n<=c:=by
 have h':w.ownsRow 0 e s (.slice A n c) n xs:=h;rcases h'.2 with ⟨hv,h0⟩|⟨g,cap,cur,hv,_,hg,h1,h2,h3,h4⟩
 ·simp only[Value.slice.injEq] at hv
  exact⟨⟨h'.1,fun hn=>absurd hn Q3⟩,by omega⟩
 ·simp only[Value.slice.injEq] at hv
  obtain⟨rfl,_,rfl⟩:=hv;refine⟨⟨h'.1,fun hn=>⟨g,0,rfl,(Array.getElem?_eq_some_iff.1 hg).1,fun j u hu=>?_⟩⟩,h1⟩;rw[Nat.zero_add];refine(cell_of_row w g j cur e (0,0) hg).trans ?_;have hj:j<n*s:=by
   rcases Nat.lt_or_ge j (n*s) with hj|hj
   ·exact hj
   ·rw[List.getElem?_eq_none (by rw[h'.1];exact hj)] at hu;cases hu
  rw[<- h4,List.getElem?_take,if_pos hj] at hu;rw[<- hu];simp
section
variable {P:Program}{ops:Array Oper}{N:Nat}{E:Env}{o:Oper}{M:List Nat}{W:World}{O:List Qf}
theorem QmP{t:TypeId}{x:Operand}{p:Addr}{v:Value}[hT:T1 P t](ho:o.op=.load t x)(hw:Qo ops E o=some true)(hx:ev E x=some (.pointer (some p)))(hc:∀w,Wd M W O w->w.cell? p=some v):uE P ops N M W E O o Unit (fun _=>v) (fun _=>O) (fun _=>True):=
 Q00 hw fun ρ w ha hW=>⟨(),w,by
  obtain⟨ds,hu,hr,hi⟩:=hT.h
  have hagg:(isAgg t).run P w=.ok false w:=by
   unfold isAgg
   rw[Sem.run_bind,run_underlying hu w]
   cases ds<;>simp_all
  simp [execOp,ho,ha.eval hx,Instr.loadAt,Instr.sureAddr,loadVar,Sem.run_bind,hagg,hc w hW,go_sem],trivial,hW⟩
end
theorem QiS{k:Int}(h:1<=k/\k<=10):(sv Q6M)[(k - 1).toNat]? =some (.string ⟨(JP k).toArray⟩):=by
 rcases (show k=1\/k=2\/k=3\/k=4\/k=5\/k=6\/k=7\/k=8\/k=9\/k=10 by omega) with rfl|rfl|rfl|rfl|rfl|rfl|rfl|rfl|rfl|rfl<;>rfl
theorem Qpb{bs:List UInt8}{i:Nat}{c:UInt8}(h:bs[i]? =some c):Vu (bs.take i)++([hx (c.toNat / 16)]++[hx (c.toNat % 16)])=Vu (bs.take (i+1)):=by
 rw[List.take_add_one,h];unfold Vu;simp [Qca]
theorem Q7n(bs:List UInt8):(Vu bs).length=2*bs.length:=by
 induction bs with
 |nil=>rfl
 |cons c l ih=>
  show (Qca c++Vu l).length=_;rw[List.length_append,ih,List.length_cons];show 2+_=_;omega
theorem V9(l:List UInt8):(⟨l.toArray⟩:ByteArray).size=l.length:=by simp [ByteArray.size]
theorem Kh{l:List UInt8}(h:QA l=true):l.length<=32:=by
 unfold QA at h;rw[Bool.and_eq_true,Bool.and_eq_true,decide_eq_true_eq] at h;exact h.1.1
theorem Q0X{ws ws':List (List UInt8)}{u:Bool}{s:List UInt8}{m:Nat}(h:ws++ifW u s=ws')(hm:ws.length<=m):ws'.length<=m+1:=by
 rw[<- h,List.length_append];unfold ifW;split<;>simp<;>omega
structure NSm(n:Nat)(r:Rl):Prop where
 stop:0<=r.stop/\r.stop<=4294967295
 size:0<=r.size/\r.size<=4294967295
 mn:0<=r.mn/\r.mn<=4294967295
 mx:0<=r.mx/\r.mx<=4294967295
 count:0<=r.count/\r.count<n
 elem:0<=r.elem/\r.elem<n
theorem Qlc{r:Rl}(h:ROk n r)(hn:0<n):NSm n r:=by
 have hz:=QnQ h;have hk:=h.kind;have a6:r.kind=2->r.mx<=4294967295:=fun h2=>by
  obtain⟨b1,b2,_,_,b5⟩:=h.num h2;generalize r.size=size at b1 b2 b5;rcases (show size=1\/size=2\/size=3\/size=4 by omega) with rfl|rfl|rfl|rfl<;>simp at b5<;>omega
 refine⟨?_,?_,?_,?_,?_,?_⟩
 ·by_cases hu:r.kind=3\/r.kind=5\/r.kind=9
  ·have:=h.stop hu;omega
  ·rw[hz.stop Q3 Q3 Q3];omega
 ·by_cases h2:r.kind=2
  ·have:=h.num h2;omega
  ·by_cases h4:r.kind=4
   ·have:=h.size4 h4;omega
   ·by_cases h5:r.kind=5
    ·have:=h.size5 h5;omega
    ·rw[hz.size h2 h4 h5];omega
 ·by_cases h2:r.kind=2
  ·have:=h.num h2;have:=a6 h2;omega
  ·rw[hz.mn h2];omega
 ·by_cases h2:r.kind=2
  ·have:=h.num h2;have:=a6 h2;omega
  ·by_cases h3:r.kind=3
   ·have:=h.dec h3;omega
   ·rw[hz.mx h2 h3];omega
 ·by_cases hu:r.kind=6\/r.kind=10
  ·exact h.count hu
  ·rw[hz.count Q3 Q3];omega
 ·by_cases hu:r.kind=6\/r.kind=9
  ·exact h.elem hu
  ·rw[hz.elem Q3 Q3];omega
end
def Qvl(W:World)(l:List UInt8)(e:Ending)(w':World):Prop:=e=.returned (.string ⟨l.toArray⟩)/\Below W.heap.size W w'
theorem QdS{F:List Rl}{r:Rl}{A Ab An Ap:Option Addr}{n c cb cn cp:Nat}{W:World}(hf:QS W W.heap.size A n F)(hl:RuL W r Ab cb An cn Ap cp)(hL:LOk F r)(hn0:0<n)(hg:GV W)(hj:(Lib.join (Y2 F r) [32]).length<=1000000):
  Calls Tryz.prog 90 #[.agg #[.slice A n c],.agg (ruC r (.slice Ab r.bs.length cb) (.slice An r.names.length cn) (.slice Ap r.parts.length cp)).toArray] W (Qvl W (Q2N F r)):=by
 have hlen:F.length=n:=hf.1;have hN:=Qlc (hlen▸hL.ok) hn0;have hk:=hL.ok.kind;have hb16:=hL.ok.bs16;have hp12:=hL.ok.p12;obtain⟨b,o,rfl⟩:=hf.addr hn0;obtain⟨rc,Ac,cc,Ad,cd,Ae,ce,hrc,hgc,_⟩:=hf.rl (i:=r.count.toNat) (by have:=hN.count;omega);obtain⟨rm,Am,cm,Bm,dm,Cm,em,hrm,hgm,_⟩:=hf.rl (i:=r.elem.toNat) (by have:=hN.elem;omega);have HNC:=Q2 (Q3d hrc);have HNM:=Q2 (Q3d hrm);have HFM:=Q2 hf;have HL:=Q2 hl;have HLO:=Q2 hL;have HG:=Q2 hg;have HJ:=Q2 hj;have HLEN:=Q2 hlen;have hks:=hN.stop;have hkz:=hN.size;have hkn:=hN.mn;have hkx:=hN.mx;have hkc:=hN.count;have hke:=hN.elem;clear hrc hrm hf hl hL hg hj hlen hN;have hkw:=QiS hk;go_enter Tryz.func90,Tryz.ntmps90;refine Qz (M:=[]) (W:=W) (N:=146) (E:=[Q0s,Qh3]) (O:=[]) ?_ mc3 QR;repeat(first|refine Q4 zA ?_|refine Qd YT rfl Q1 (fun br _=>?_)|refine Qg ?_|refine Qa ?_|refine Q6 ?_)
 rename_i bf _ _;refine QjD (ι:=Nat×Nat) Qd6 (fun y=>[Q5c,Q9a,(5,.pointer (some ⟨y.1,0,none⟩))]) (fun y=>[.blk y.1 (.cells [.slice (some ⟨y.2,0,none⟩) 2 2].toArray 27 (0,0)),.row (some ⟨y.2,0,none⟩) 2 2 9 1 (sv [r.name,JP r.kind]),Qf.blk br Q98,Qf.blk bf Q5o]) ?_ ?_
 ·refine JJ [] Q5 ?_;refine Qc 0 rfl Q5 Xt zF ?_;refine Qc 1 rfl Q5 Xt (zB 0) ?_;refine Qc 3 rfl Q5 Xt zF ?_;refine Qc 4 rfl Q5 Xt (zB 0) ?_;refine Qc 5 rfl Q5 Xt zQ ?_;refine Q6u 2 9 Q5 (Jr rfl rfl Qsv KZ rfl Q1 (fun bz _=>?_)) (Jr rfl rfl Q9B KZ rfl Q1 (fun g _=>?_))
  ·refine Qc 6 rfl Q5 Q0G KJ ?_;refine Q6u 7 9 Q5 (Jr rfl rfl QnS KZ rfl Q1 (fun _ _=>?_)) (Jr rfl rfl Q9B Q1G rfl Q1 (fun g _=>?_))
   ·refine Q6u 8 9 Q5 (Jr rfl rfl Q9X Q1G rfl Q1 (fun bs _=>?_)) (Jr rfl rfl Q9B Q1G rfl Q1 (fun g _=>?_))
    ·refine QL 9 Q5 rfl rfl Q9B Q22 rfl Q1 (fun g _=>?_);refine X6 10 Q5 rfl rfl Qjz Q22 rfl (fun _ _=>?_);refine X8 ?_ Q5;refine Q97 1 (n:=2) (s:=1) rfl rfl Q1 ?_;exact XB (g,bs) [0,1,3,4] Q1 trivial Jf rfl
    ·refine QL 8 Q5 rfl rfl Q9X Q22 rfl Q1 (fun bs _=>?_);refine X6 10 Q5 rfl rfl Qho Q22 rfl (fun _ _=>?_);refine X8 ?_ Q5;refine QfI ?_;exact XB (g,bs) [1,0,3,4] Q1 trivial Jf rfl
   ·refine QL 7 Q5 rfl rfl (QmP rfl rfl rfl (fun w hw=>hw.cell_rd 1 rfl hkw)) Q1G rfl Q1 (fun _ _=>?_);refine QL 8 Q5 rfl rfl Q9X Q22 rfl Q1 (fun bs _=>?_);refine X6 10 Q5 rfl rfl Qho Q22 rfl (fun _ _=>?_);refine X8 ?_ Q5;refine QfI ?_;exact XB (g,bs) [1,0,3,4] Q1 trivial Jf rfl
  ·refine QL 2 Q5 rfl rfl Qsv Q1G rfl Q1 (fun bz _=>?_);refine Qc 6 rfl Q5 V7 KJ ?_;refine QL 7 Q5 rfl rfl QnS Q1G rfl Q1 (fun _ _=>?_);refine QL 8 Q5 rfl rfl Q9X Q22 rfl Q1 (fun bs _=>?_);refine X6 10 Q5 rfl rfl Q3A Q22 rfl (fun _ _=>?_);refine X8 ?_ Q5;refine QfI ?_;exact XB (g,bs) [2,0,3,4] Q1 trivial Jf rfl
 rintro⟨g,bs⟩ _;show sE _ _ _ _ _ [Q5c,Q9a,Q6k] [Qf.blk g (.cells [.slice VC [r.name,JP r.kind].length 2].toArray 27 (0,0)),Qf.row VC [r.name,JP r.kind].length 2 9 1 (sv [r.name,JP r.kind]),Qf.blk br Q98,Qf.blk bf Q5o] _;generalize hw0:[r.name,JP r.kind]=ws0;have hl0:ws0.length<=2:=by rw[<- hw0];exact Nat.le_refl _
 repeat(first|refine Q4 zM ?_|refine Q4 zA ?_|refine Q4 zF ?_|refine Q4 (zB 2) ?_|refine Qg ?_|refine Qa ?_|refine Q6 ?_|refine Qi ?_|refine Q4 zL ?_|refine Q4 (Yz rfl rfl Q1 rfl rfl rfl (by rfl)) ?_|refine Q4 Qsh ?_)
 refine QK (ι:=Nat) (fun i=>i<=r.bs.length) (fun i=>r.bs.length - i) (fun i=>[Q5c,Q9a,Q6k,QhF,(7,.bool (r.kind==2)),(8,.string ⟨(Vu (r.bs.take i)).toArray⟩),(29,.slice Ab r.bs.length cb),(30,.int .i64 (r.bs.length:Int)),(31,.int .i64 (i:Int))]) Qsd 0 [0,1,2,3] Q1 Z4 Qlm rfl ?_;rintro i hi;by_cases hin:i<r.bs.length
 ·obtain⟨bb,ob,hA,_,hbc⟩:=HL.out.b.2 Q3;subst hA;obtain⟨cc,hcc⟩:∃cc,r.bs[i]? =some cc:=⟨_,List.getElem?_eq_getElem hin⟩;have hcell:W.cell? ⟨bb,ob+i,none⟩=some (.int .u8 (cc.toNat:Int)):=hbc i _ (by unfold bv;rw[List.getElem?_map,hcc];rfl);have hlt:cc.toNat<256:=cc.toNat_lt;have HCC:=Q2 hcc;clear hcc hbc
  repeat(first|refine Q4 zA ?_|refine Q4 zC ?_|refine Q4 (Z5 rfl rfl Q1 rfl rfl rfl hin) ?_|refine Qg ?_|refine Qa ?_|refine Q6 ?_|refine Qp ?_|refine Q9 rfl ?_|refine Qi ?_|refine Q4 zlt ?_)
  repeat(first|refine Qe zM ?_|refine Qe zA ?_|refine Qe (QvT rfl rfl Q1 rfl rfl rfl) ?_|refine Qe (QvE rfl rfl Q1 rfl rfl rfl) ?_|refine Qe (Quo Q3 rfl rfl Q1 rfl rfl rfl) ?_|(refine Qe (Qkw Tryz.underlying9 rfl rfl Q1 rfl rfl rfl rfl Q3 (by first|(show cc.toNat / 16+1<=16;omega)|(show cc.toNat % 16+1<=16;omega))) ?_;rw[Qpi Q3])|(refine Qe Qdl ?_;rw[Q2n])|refine JW ?_|refine Xm Q5 Q5 ?_)
  refine Qm4 ?_
  refine Qt (i+1) [0,1,2,3] Q1 hin (by show r.bs.length - (i+1)<r.bs.length - i;omega) (.cons rfl rfl (.cons rfl rfl (.cons rfl rfl (.cons rfl rfl (.cons rfl rfl (.cons rfl (by rw[<- Qpb HCC.out]) Q5u)))))) rfl
 have htk:r.bs.take i=r.bs:=List.take_of_length_le Q3;rw[htk];repeat(first|refine Q4 zA ?_|refine Q4 zF ?_|refine Q4 (zB 2) ?_|refine Qg ?_|refine Qa ?_|refine Q6 ?_|refine Q8 rfl ?_|refine Xx ?_|refine Q4 zlf ?_)
 refine QjD (ι:=Unit) Qd6 (fun _=>[Q5c,Q9a,Q6k,QhF,(7,.bool (r.kind==2)),(8,.string ⟨(Vu r.bs).toArray⟩),(11,.string ⟨(if r.big then Qcx else Ys).toArray⟩)]) Qsd ?_ ?_
 ·refine X2 rfl (fun hb=>?_) (fun hb=>?_)
  ·skip
   repeat(first|refine Q4 zA ?_|refine Qg ?_|refine Q6 ?_)
   exact QsI
  ·refine Qp ?_;exact QsI
 rintro _ _;repeat(first|refine Q4 zM ?_|refine Q4 zF ?_|refine Q4 (zB 2) ?_|refine Qd Q69 rfl Q1 (fun y1 _=>?_)|refine Qg ?_|refine Qa ?_|refine Q6 ?_|refine Q4 (Yz rfl rfl Q1 rfl rfl rfl (by rfl)) ?_)
 generalize hw1:ws0++ifW (r.kind==1) (Vu r.bs)=ws1;have hl1:=Q0X hw1 hl0;refine JJ [6] Q5 ?_;refine Qcl ?_;refine Qc 2 rfl Q5 Xt (Ql (f:=123) rfl rfl Q1 rfl rfl (fun w hw=>Yc w)) ?_;refine Qkp ?_;refine QL 6 Q5 rfl rfl Q69 JR rfl Q1 (fun y2 _=>?_);refine X8 ?_ Q5;generalize hw2:ws1++ifW (XS r.kind) (Lib.itoa r.stop)=ws2;have hl2:=Q0X hw2 hl1;refine Qa ?_;refine JJ [6] Q5 ?_;refine Qcl ?_;refine Qc 2 rfl Q5 Xt (Ql (f:=124) rfl rfl Q1 rfl rfl (fun w hw=>Q0m w)) ?_;refine Qkp ?_;refine QL 6 Q5 rfl rfl Q69 JR rfl Q1 (fun y3 _=>?_);refine X8 ?_ Q5;generalize hw3:ws2++ifW (XT r.kind) (Lib.itoa r.size)=ws3;have hl3:=Q0X hw3 hl2;repeat(first|refine Q4 zM ?_|refine Q4 zF ?_|refine Q4 (zB 2) ?_|refine Qd Q69 rfl Q1 (fun y4 _=>?_)|refine Q4 (Ql (f:=114) rfl rfl Q1 rfl rfl (fun w hw=>Q2d Q10 Q3 Q3)) ?_|refine Qg ?_|refine Qa ?_|refine Q6 ?_)
 generalize hw4:ws3++ifW (r.kind==2) (if r.big then Qcx else Ys)=ws4;have hl4:=Q0X hw4 hl3;repeat(first|refine Qd Q69 rfl Q1 (fun y5 _=>?_)|refine Qg ?_|refine Qa ?_)
 generalize hw5:ws4++ifW (r.kind==2) (Lib.itoa r.mn)=ws5;have hl5:=Q0X hw5 hl4;refine JJ [6] Q5 ?_;refine Qcl ?_;refine Qc 2 rfl Q5 Xt Qsp ?_;refine Qkp ?_;refine QL 6 Q5 rfl rfl Q69 JR rfl Q1 (fun y6 _=>?_);refine X8 ?_ Q5;generalize hw6:ws5++ifW (Z8 r.kind) (Lib.itoa r.mx)=ws6;have hl6:=Q0X hw6 hl5;refine Qa ?_;refine JJ [10] Q5 ?_;refine Qcl ?_;refine Qc 2 rfl Q5 Xt Q3g ?_;refine QqE ?_;refine Qc 7 rfl Q5 Xt (QG rfl rfl Q1 rfl rfl rfl hkc) ?_;refine Qc 8 rfl Q5 Xt zF ?_;refine Qc 9 rfl Q5 Xt zR ?_;refine QL 10 Q5 rfl rfl Q69 JR rfl Q1 (fun y7 _=>?_);refine X8 ?_ Q5;generalize hw7:ws6++ifW (QE r.kind) (rc.name)=ws7;have hl7:=Q0X hw7 hl6;refine Qa ?_;refine JJ [10] Q5 ?_;refine Qcl ?_;refine Qc 2 rfl Q5 Xt (Ql (f:=127) rfl rfl Q1 rfl rfl (fun w hw=>Q3y w)) ?_;refine QqE ?_;refine Qc 7 rfl Q5 Xt (QG rfl rfl Q1 rfl rfl rfl hke) ?_;refine Qc 8 rfl Q5 Xt zF ?_;refine Qc 9 rfl Q5 Xt zR ?_;refine QL 10 Q5 rfl rfl Q69 JR rfl Q1 (fun y8 _=>?_);refine X8 ?_ Q5;generalize hw8:ws7++ifW (JS r.kind) (rm.name)=ws8;have hl8:=Q0X hw8 hl7;repeat(first|refine Q4 zM ?_|refine Q4 zF ?_|refine Q4 (zB 2) ?_|refine Qg ?_|refine Qa ?_|refine Q6 ?_|refine Qi ?_|refine Q4 zL ?_)
 have hh:ws8=Q4x F r:=by
  rw[<- hw8,<- hw7,<- hw6,<- hw5,<- hw4,<- hw3,<- hw2,<- hw1,<- hw0];unfold Q4x;rw[HNC.out,HNM.out]
 have HH:=Q2 hh;clear hw0 hw1 hw2 hw3 hw4 hw5 hw6 hw7 hw8 hl0 hl1 hl2 hl3 hl4 hl5 hl6 hl7 hh
 refine QK (ι:=Nat×Option Addr×Nat) (fun y=>y.1<=r.parts.length) (fun y=>r.parts.length - y.1) (fun y=>[Q5c,Q9a,Q6k,QhF,(113,.slice Ap r.parts.length cp),(114,.int .i64 (r.parts.length:Int)),(115,.int .i64 (y.1:Int))]) (fun y=>[Qf.blk g (.cells [.slice y.2.1 (ws8++(List.range y.1).map (XF F r)).length y.2.2].toArray 27 (0,0)),Qf.row y.2.1 (ws8++(List.range y.1).map (XF F r)).length y.2.2 9 1 (sv (ws8++(List.range y.1).map (XF F r))),Qf.blk br Q98,Qf.blk bf Q5o]) (0,y8.1,y8.2) [0,1,2,3] Q1 Z4 KW (by
  show _=[Qf.blk g (.cells [.slice y8.1 (ws8++(List.range 0).map (XF F r)).length y8.2].toArray 27 (0,0)),Qf.row y8.1 (ws8++(List.range 0).map (XF F r)).length y8.2 9 1 (sv (ws8++(List.range 0).map (XF F r))),Qf.blk br (.cells (ruC r (.slice Ab r.bs.length cb) (.slice An r.names.length cn) (.slice Ap r.parts.length cp)).toArray 65 (0,0)),Qf.blk bf (.cells [.slice (some ⟨b,o,none⟩) n c].toArray 24 (0,0))]
  rw[show (List.range 0).map (XF F r)=[] from rfl,List.append_nil]
  rfl) ?_
 rintro⟨i,A',c'⟩ hi;have hi':i<=r.parts.length:=hi;clear hi;show sE _ _ _ _ _ [Q5c,Q9a,Q6k,QhF,(113,.slice Ap r.parts.length cp),(114,.int .i64 (r.parts.length:Int)),(115,.int .i64 (i:Int))] [Qf.blk g (.cells [.slice A' (ws8++(List.range i).map (XF F r)).length c'].toArray 27 (0,0)),Qf.row A' (ws8++(List.range i).map (XF F r)).length c' 9 1 (sv (ws8++(List.range i).map (XF F r))),Qf.blk br Q98,Qf.blk bf Q5o] _;obtain⟨wp,hwp⟩:∃wp,wp=ws8++(List.range i).map (XF F r):=⟨_,rfl⟩;have hlp:wp.length<=100:=by rw[hwp,List.length_append,List.length_map,List.length_range];omega
 rw[<- hwp];have HWP:=Q2 hwp;clear hwp;by_cases hin:i<r.parts.length
 ·obtain⟨bp,op,hA,_,hpc⟩:=HL.out.p.2 Q3;subst hA;obtain⟨x,hx⟩:∃x,r.parts[i]? =some x:=⟨_,List.getElem?_eq_getElem hin⟩;have hcp:W.cell? ⟨bp,op+i,none⟩=some (.int .i64 x):=hpc i _ (by unfold iv;rw[List.getElem?_map,hx];rfl)
  have hxn:0<=x/\x<(n:Int):=by
   have h78:r.kind=7\/r.kind=8:=by
    refine Classical.byContradiction fun hno=>?_;have:=(QnQ HLO.out.ok).parts Q3 Q3;rw[this] at hin;exact absurd hin Qn
   have:=HLO.out.ok.parts h78 x Q07;rw[HLEN.out] at this;exact this
  obtain⟨rx,Ax,cx,Bx,dx,Cx,ex,hrx,hgx,_⟩:=HFM.out.rl (i:=x.toNat) Q3;have hnx:=Q3d hrx;have hnl:rx.name.length<=32:=by rw[<- hnx];exact Kh (HLO.out.all x (by rw[HLEN.out];exact hxn))
  have hgp:r.parts.getD i 0=x:=by rw[List.getD_eq_getElem?_getD,hx];rfl
  have HX:=Q2 (show K3 F (r.parts.getD i 0)=rx.name by rw[hgp,hnx]);clear hx hrx hnx hgp hpc;have hstep:∀q,q=XF F r i->wp++[q]=ws8++(List.range (i+1)).map (XF F r):=fun q hq=>by rw[hq,HWP.out,List.range_succ,List.map_append,List.append_assoc];rfl
  have HST:=Q2 hstep;clear hstep;by_cases h7:r.kind=7
  ·have hk7:(r.kind==7)=true:=beq_iff_eq.2 h7;have hnp:=(HLO.out.ok.seven h7).1;obtain⟨bn,on,hAn,_,hnc⟩:=HL.out.n.2 Q3;subst hAn;obtain⟨l,hl'⟩:∃l,r.names[i]? =some l:=⟨_,List.getElem?_eq_getElem Q3⟩;have hcn:W.cell? ⟨bn,on+i,none⟩=some (.string ⟨l.toArray⟩):=hnc i _ (by unfold sv;rw[List.getElem?_map,hl'];rfl)
   have hinn:i<r.names.length:=by omega
   have hll:l.length<=32:=by
    rcases HLO.out.part h7 l (List.mem_of_getElem? hl') with rfl|h
    ·decide
    ·exact Kh h
   have HGN:=Q2 (show r.names.getD i []=l by rw[List.getD_eq_getElem?_getD,hl'];rfl);clear hl' hnc hnp;by_cases he:l=[]
   ·subst he
    repeat(first|refine Q4 zM ?_|refine Q4 zA ?_|refine Q4 zF ?_|refine Q4 (zB 2) ?_|refine Q4 (zB 3) ?_|refine Q4 zC ?_|refine Q4 zR ?_|refine Q4 QcC ?_|refine Q4 Q6T ?_|(refine Q4 Qdl ?_;rw[Q2n])|refine Qd Q69 rfl Q1 (fun yz _=>?_)|refine Qg ?_|refine Qa ?_|refine Q6 ?_|refine Qp ?_|refine Q9 rfl ?_|refine Qi ?_|refine Q4 zea ?_|refine Q4 Q4m ?_|refine Q4 zP ?_|refine Q4 QkZ ?_)
    refine Qt (i+1,yz.1,yz.2) [0,1,2,3] Q1 hin (by show r.parts.length - (i+1)<r.parts.length - i;omega) (.cons rfl rfl (.cons rfl rfl (.cons rfl rfl (.cons rfl rfl (.cons rfl rfl (.cons rfl rfl (.cons rfl (by go_num) .nil))))))) ?_;have hq:=HST.out ([45]++[58]++rx.name) (by unfold XF;rw[hk7,HGN.out,HX.out];rfl);show [Qf.blk g (.cells [.slice yz.1 (wp++[[45]++[58]++rx.name]).length yz.2].toArray 27 (0,0)),Qf.row yz.1 (wp++[[45]++[58]++rx.name]).length yz.2 9 1 (sv (wp++[[45]++[58]++rx.name])),_,_]=[Qf.blk g (.cells [.slice yz.1 (ws8++(List.range (i+1)).map (XF F r)).length yz.2].toArray 27 (0,0)),Qf.row yz.1 (ws8++(List.range (i+1)).map (XF F r)).length yz.2 9 1 (sv (ws8++(List.range (i+1)).map (XF F r))),_,_];rw[hq];rfl
   ·have hle:((⟨l.toArray⟩:ByteArray).data.toList==(⟨#[]⟩:ByteArray).data.toList)=false:=beq_eq_false_iff_ne.2 (by simpa using he)
    repeat(first|refine Q4 zM ?_|refine Q4 zA ?_|refine Q4 zF ?_|refine Q4 (zB 2) ?_|refine Q4 (zB 3) ?_|refine Q4 zC ?_|refine Q4 zR ?_|refine Q4 QcC ?_|refine Q4 Q6T ?_|(refine Q4 Qdl ?_;rw[Q2n])|refine Qd Q69 rfl Q1 (fun yz _=>?_)|refine Qg ?_|refine Qa ?_|refine Q6 ?_|refine Qp ?_|refine Q9 rfl ?_|refine Q8 rfl ?_|refine Qi ?_|refine Q4 zea ?_|refine Q4 Q4m ?_|refine Q4 zP ?_|refine Q4 zsa ?_)
    refine Qt (i+1,yz.1,yz.2) [0,1,2,3] Q1 hin (by show r.parts.length - (i+1)<r.parts.length - i;omega) (.cons rfl rfl (.cons rfl rfl (.cons rfl rfl mc2))) ?_;have hq:=HST.out (l++[58]++rx.name) (by unfold XF;rw[hk7,HGN.out,HX.out,beq_eq_false_iff_ne.2 he];rfl);show [Qf.blk g (.cells [.slice yz.1 (wp++[l++[58]++rx.name]).length yz.2].toArray 27 (0,0)),Qf.row yz.1 (wp++[l++[58]++rx.name]).length yz.2 9 1 (sv (wp++[l++[58]++rx.name])),_,_]=[Qf.blk g (.cells [.slice yz.1 (ws8++(List.range (i+1)).map (XF F r)).length yz.2].toArray 27 (0,0)),Qf.row yz.1 (ws8++(List.range (i+1)).map (XF F r)).length yz.2 9 1 (sv (ws8++(List.range (i+1)).map (XF F r))),_,_];rw[hq];rfl
  ·have hk7:(r.kind==7)=false:=beq_eq_false_iff_ne.2 h7
   repeat(first|refine Q4 zM ?_|refine Q4 zA ?_|refine Q4 zF ?_|refine Q4 (zB 2) ?_|refine Q4 (zB 3) ?_|refine Q4 zC ?_|refine Q4 zR ?_|refine Q4 QcC ?_|refine Q4 Q6T ?_|(refine Q4 Qdl ?_;rw[Q2n])|refine Qd Q69 rfl Q1 (fun yz _=>?_)|refine Qg ?_|refine Qa ?_|refine Q6 ?_|refine Qp ?_|refine Q9 rfl ?_|refine Q8 rfl ?_|refine Qi ?_|refine Q4 zea ?_|refine Q4 Q4m ?_|refine Q4 zP ?_)
   refine Qt (i+1,yz.1,yz.2) [0,1,2,3] Q1 hin (by show r.parts.length - (i+1)<r.parts.length - i;omega) (.cons rfl rfl (.cons rfl rfl (.cons rfl rfl mc2))) ?_;have hq:=HST.out ([]++rx.name) (by unfold XF;rw[hk7,HX.out];rfl);show [Qf.blk g (.cells [.slice yz.1 (wp++[[]++rx.name]).length yz.2].toArray 27 (0,0)),Qf.row yz.1 (wp++[[]++rx.name]).length yz.2 9 1 (sv (wp++[[]++rx.name])),_,_]=[Qf.blk g (.cells [.slice yz.1 (ws8++(List.range (i+1)).map (XF F r)).length yz.2].toArray 27 (0,0)),Qf.row yz.1 (ws8++(List.range (i+1)).map (XF F r)).length yz.2 9 1 (sv (ws8++(List.range (i+1)).map (XF F r))),_,_];rw[hq];rfl
 have hlw:wp=Y2 F r:=by
  rw[HWP.out,HH.out,show i=r.parts.length by omega];rfl
 have hjw:(Lib.join wp [32]).length<=1000000:=by rw[hlw];exact HJ.out
 have HLW:=Q2 hlw;clear hlw;repeat(first|refine Q4 zA ?_|refine Q4 (zB 0) ?_|refine Q4 (Ql (f:=128) rfl rfl Q1 rfl rfl (fun w hw=>QbX (row_rd Q5n Q1).1 (row_rd Q5n Q1).2 Q3 hjw)) ?_|(refine Q4 Qdl ?_;rw[Q2n])|refine Qg ?_|refine Qa ?_|refine Q6 ?_|refine Q8 rfl ?_|refine Xx ?_|refine QC ?_|refine Q4 zlf ?_)
 refine Q7 mc4 rfl (.tmp rfl) (fun w hw=>⟨?_,hw.k.below⟩);unfold Q2N;rw[HLW.out]
section
variable {A Ab An Ap:Option Addr}{W:World}{c cb cn cp m n:Nat}{early:List Rl}{r:Rl}
theorem QcE(he:QS W W.heap.size A m early)(hl:RuL W r Ab cb An cn Ap cp)(hs:RSm r)(hm:m<=1048576)(hn:n<=1048576)(hk1:(r.kind==1)=true)(hk7:(r.kind==7)=false)(hk8:(r.kind==8)=false):
  Calls Tryz.prog 115 #[.agg (ruC r (.slice Ab r.bs.length cb) (.slice An r.names.length cn) (.slice Ap r.parts.length cp)).toArray,.slice A m c,.int .i64 (n:Int)] W (Je W (Xs r early n)):=by
 have HE:=Q2 he;have HL:=Q2 hl;have HS:=Q2 hs;have hnm:(⟨r.name.toArray⟩:ByteArray).size<=9223372036854775807:=by
  exact Qg0
 obtain⟨C,hC⟩:∃C,Xs r early n=C:=⟨_,rfl⟩;have HC:=Q2 hC;rw[hC];clear hC he hl hs;go_enter Tryz.func115,Tryz.ntmps115;refine Qz (M:=[]) (W:=W) (N:=84) (E:=QgD) (O:=[]) ?_ XW QR;repeat(first|refine Q4 zA ?_|refine Q4 zF ?_|refine Q4 (zB 0) ?_|refine yB fun br=>?_|refine Q4 Qhx ?_|refine Qg ?_|refine Qa ?_|refine Q6 ?_|refine Qi ?_|refine Q4 zO ?_)
 refine X2 rfl (fun h1=>?_) (fun h1=>?_)
 ·skip
  refine mc7 ?_
  refine Q7 (.inr rfl) rfl (.tmp rfl) (fun w hw=>Qr ?_ hw);exact Qgg
 refine Qgj ?_
 refine X2 rfl (fun h2=>?_) (fun h2=>?_)
 ·skip
  refine mc7 ?_
  refine Q7 (.inr rfl) rfl (.tmp rfl) (fun w hw=>Qr ?_ hw);exact QfW
 refine QgS ?_
 refine X2 rfl (fun h3=>?_) (fun h3=>?_)
 ·skip
  refine mc7 ?_
  refine Q7 (.inr rfl) rfl (.tmp rfl) (fun w hw=>Qr ?_ hw);exact Qh4
 refine QhG ?_
 refine X2 rfl (fun h4=>?_) (fun h4=>?_)
 ·skip
  refine mc7 ?_
  refine Q7 (.inr rfl) rfl (.tmp rfl) (fun w hw=>Qr ?_ hw);exact Qht
 refine Qrz ?_
 refine X2 rfl (fun h5=>?_) (fun h5=>?_)
 ·skip
  refine mc7 ?_
  refine Q7 (.inr rfl) rfl (.tmp rfl) (fun w hw=>Qr ?_ hw);rw[<- HC.out];simp [Xs,hk1,hk7,hk8,h1,h2,h3,h4,h5]
 refine Qsq ?_
 refine X2 rfl (fun h6=>?_) (fun h6=>?_)
 ·skip
  refine mc7 ?_
  refine Q7 (.inr rfl) rfl (.tmp rfl) (fun w hw=>Qr ?_ hw);rw[<- HC.out];simp [Xs,hk1,hk7,hk8,h1,h2,h3,h4,h5,h6]
 refine QrJ ?_
 refine X2 rfl (fun h10=>?_) (fun h10=>?_)
 ·skip
  refine mc7 ?_
  refine Q7 (.inr rfl) rfl (.tmp rfl) (fun w hw=>Qr ?_ hw);rw[<- HC.out];simp [Xs,hk1,hk7,hk8,h1,h2,h3,h4,h5,h6,h10]
 refine Qgh ?_
 refine X2 rfl (fun h11=>?_) (fun h11=>?_)
 ·skip
  refine mc7 ?_
  refine Q7 (.inr rfl) rfl (.tmp rfl) (fun w hw=>Qr ?_ hw);exact QkG
 refine Qg8 ?_
 refine Q7 (.inr rfl) rfl (.tmp rfl) (fun w hw=>Qr ?_ hw);exact QkG
theorem QbU(he:QS W W.heap.size A m early)(hl:RuL W r Ab cb An cn Ap cp)(hs:RSm r)(hm:m<=1048576)(hn:n<=1048576)(hk1:(r.kind==1)=false)(hk7:(r.kind==7)=true)(hk8:(r.kind==8)=false):
  Calls Tryz.prog 115 #[.agg (ruC r (.slice Ab r.bs.length cb) (.slice An r.names.length cn) (.slice Ap r.parts.length cp)).toArray,.slice A m c,.int .i64 (n:Int)] W (Je W (Xs r early n)):=by
 have HE:=Q2 he;have HL:=Q2 hl;have HS:=Q2 hs;have hnm:(⟨r.name.toArray⟩:ByteArray).size<=9223372036854775807:=by
  exact Qg0
 obtain⟨C,hC⟩:∃C,Xs r early n=C:=⟨_,rfl⟩;have HC:=Q2 hC;rw[hC];clear hC he hl hs;go_enter Tryz.func115,Tryz.ntmps115;refine Qz (M:=[]) (W:=W) (N:=84) (E:=QgD) (O:=[]) ?_ XW QR;repeat(first|refine Q4 zA ?_|refine Q4 zF ?_|refine Q4 (zB 0) ?_|refine yB fun br=>?_|refine Q4 Qhx ?_|refine Qg ?_|refine Qa ?_|refine Q6 ?_|refine Qi ?_|refine Q4 zO ?_)
 refine X2 rfl (fun h1=>?_) (fun h1=>?_)
 ·skip
  refine mc7 ?_
  refine Q7 (.inr rfl) rfl (.tmp rfl) (fun w hw=>Qr ?_ hw);exact Qgg
 refine Qgj ?_
 refine X2 rfl (fun h2=>?_) (fun h2=>?_)
 ·skip
  refine mc7 ?_
  refine Q7 (.inr rfl) rfl (.tmp rfl) (fun w hw=>Qr ?_ hw);exact QfW
 refine QgS ?_
 refine X2 rfl (fun h3=>?_) (fun h3=>?_)
 ·skip
  refine mc7 ?_
  refine Q7 (.inr rfl) rfl (.tmp rfl) (fun w hw=>Qr ?_ hw);exact Qh4
 refine QhG ?_
 refine X2 rfl (fun h4=>?_) (fun h4=>?_)
 ·skip
  refine mc7 ?_
  refine Q7 (.inr rfl) rfl (.tmp rfl) (fun w hw=>Qr ?_ hw);exact Qht
 refine Qmc ?_
 refine X2 rfl (fun h6=>?_) (fun h6=>?_)
 ·skip
  refine mc7 ?_
  refine Q7 (.inr rfl) rfl (.tmp rfl) (fun w hw=>Qr ?_ hw);exact QlL
 repeat(first|refine Q4 zM ?_|refine Q4 zA ?_|refine Q4 zF ?_|refine Q4 (zB 0) ?_|refine Qg ?_|refine Qa ?_|refine Q6 ?_|refine Q4 zL ?_|refine Q4 zea ?_|refine Q4 znr ?_|refine Q4 zY ?_)
 refine X2 rfl (fun h7=>?_) (fun h7=>?_)
 ·skip
  refine mc7 ?_
  refine Q7 (.inr rfl) rfl (.tmp rfl) (fun w hw=>Qr ?_ hw);rw[<- HC.out];simp [Xs,hk1,hk7,hk8,h1,h2,h3,h4,h6,h7]
 refine Qrz ?_
 refine X2 rfl (fun h8=>?_) (fun h8=>?_)
 ·rw[h8]
  repeat(first|refine Q4 zA ?_|refine Qg ?_|refine Qa ?_|refine Q6 ?_|refine Qp ?_|refine Q9 rfl ?_|refine QC ?_|refine Qk ?_|refine Qu ?_)
  refine Q7 (.inr rfl) rfl (.tmp rfl) (fun w hw=>Qr ?_ hw);rw[<- HC.out];simp [Xs,hk1,hk7,hk8,h1,h2,h3,h4,h6,h7,h8]
 refine QrJ ?_
 refine X2 rfl (fun h10=>?_) (fun h10=>?_)
 ·skip
  refine mc7 ?_
  refine Q7 (.inr rfl) rfl (.tmp rfl) (fun w hw=>Qr ?_ hw);rw[<- HC.out];simp [Xs,hk1,hk7,hk8,h1,h2,h3,h4,h6,h7,h8,h10]
 refine Qgh ?_
 refine X2 rfl (fun h11=>?_) (fun h11=>?_)
 ·skip
  refine mc7 ?_
  refine Q7 (.inr rfl) rfl (.tmp rfl) (fun w hw=>Qr ?_ hw);exact QnC
 refine Qg8 ?_
 refine Q7 (.inr rfl) rfl (.tmp rfl) (fun w hw=>Qr ?_ hw);exact QnC
theorem QbN(he:QS W W.heap.size A m early)(hl:RuL W r Ab cb An cn Ap cp)(hs:RSm r)(hm:m<=1048576)(hn:n<=1048576)(hk1:(r.kind==1)=false)(hk7:(r.kind==7)=false)(hk8:(r.kind==8)=true):
  Calls Tryz.prog 115 #[.agg (ruC r (.slice Ab r.bs.length cb) (.slice An r.names.length cn) (.slice Ap r.parts.length cp)).toArray,.slice A m c,.int .i64 (n:Int)] W (Je W (Xs r early n)):=by
 have HE:=Q2 he;have HL:=Q2 hl;have HS:=Q2 hs;have hnm:(⟨r.name.toArray⟩:ByteArray).size<=9223372036854775807:=by
  exact Qg0
 obtain⟨C,hC⟩:∃C,Xs r early n=C:=⟨_,rfl⟩;have HC:=Q2 hC;rw[hC];clear hC he hl hs;go_enter Tryz.func115,Tryz.ntmps115;refine Qz (M:=[]) (W:=W) (N:=84) (E:=QgD) (O:=[]) ?_ XW QR;repeat(first|refine Q4 zA ?_|refine Q4 zF ?_|refine Q4 (zB 0) ?_|refine yB fun br=>?_|refine Q4 Qhx ?_|refine Qg ?_|refine Qa ?_|refine Q6 ?_|refine Qi ?_|refine Q4 zO ?_)
 refine X2 rfl (fun h1=>?_) (fun h1=>?_)
 ·skip
  refine mc7 ?_
  refine Q7 (.inr rfl) rfl (.tmp rfl) (fun w hw=>Qr ?_ hw);exact Qgg
 refine Qgj ?_
 refine X2 rfl (fun h2=>?_) (fun h2=>?_)
 ·skip
  refine mc7 ?_
  refine Q7 (.inr rfl) rfl (.tmp rfl) (fun w hw=>Qr ?_ hw);exact QfW
 refine QgS ?_
 refine X2 rfl (fun h3=>?_) (fun h3=>?_)
 ·skip
  refine mc7 ?_
  refine Q7 (.inr rfl) rfl (.tmp rfl) (fun w hw=>Qr ?_ hw);exact Qh4
 refine QhG ?_
 refine X2 rfl (fun h4=>?_) (fun h4=>?_)
 ·skip
  refine mc7 ?_
  refine Q7 (.inr rfl) rfl (.tmp rfl) (fun w hw=>Qr ?_ hw);exact Qht
 refine Qmc ?_
 refine X2 rfl (fun h6=>?_) (fun h6=>?_)
 ·skip
  refine mc7 ?_
  refine Q7 (.inr rfl) rfl (.tmp rfl) (fun w hw=>Qr ?_ hw);exact QlL
 repeat(first|refine Q4 zM ?_|refine Q4 zA ?_|refine Q4 zF ?_|refine Q4 (zB 0) ?_|refine Qg ?_|refine Qa ?_|refine Q6 ?_|refine Q8 rfl ?_|refine Q4 zL ?_|refine Q4 Q37 ?_|refine Q4 (Q06 rfl rfl Q1 rfl rfl rfl (by first|assumption|rfl)) ?_|refine Q4 zY ?_|refine Q4 zN ?_|refine Q4 zS ?_)
 refine X2 rfl (fun h9=>?_) (fun h9=>?_)
 ·rw[h9]
  refine mc7 ?_
  refine Q7 (.inr rfl) rfl (.tmp rfl) (fun w hw=>Qr ?_ hw);rw[<- HC.out];simp [Xs,hk1,hk7,hk8,h1,h2,h3,h4,h6,h9]
 refine Qsq ?_
 refine X2 rfl (fun h10=>?_) (fun h10=>?_)
 ·skip
  refine mc7 ?_
  refine Q7 (.inr rfl) rfl (.tmp rfl) (fun w hw=>Qr ?_ hw);rw[<- HC.out];simp [Xs,hk1,hk7,hk8,h1,h2,h3,h4,h6,h9,h10]
 refine Qgh ?_
 refine X2 rfl (fun h11=>?_) (fun h11=>?_)
 ·skip
  refine mc7 ?_
  refine Q7 (.inr rfl) rfl (.tmp rfl) (fun w hw=>Qr ?_ hw);exact Qjg
 refine Qg8 ?_
 refine Q7 (.inr rfl) rfl (.tmp rfl) (fun w hw=>Qr ?_ hw);exact Qjg
theorem Qc5(he:QS W W.heap.size A m early)(hl:RuL W r Ab cb An cn Ap cp)(hs:RSm r)(hm:m<=1048576)(hn:n<=1048576)(hk1:(r.kind==1)=false)(hk7:(r.kind==7)=false)(hk8:(r.kind==8)=false):
  Calls Tryz.prog 115 #[.agg (ruC r (.slice Ab r.bs.length cb) (.slice An r.names.length cn) (.slice Ap r.parts.length cp)).toArray,.slice A m c,.int .i64 (n:Int)] W (Je W (Xs r early n)):=by
 have HE:=Q2 he;have HL:=Q2 hl;have HS:=Q2 hs;have hnm:(⟨r.name.toArray⟩:ByteArray).size<=9223372036854775807:=by
  exact Qg0
 obtain⟨C,hC⟩:∃C,Xs r early n=C:=⟨_,rfl⟩;have HC:=Q2 hC;rw[hC];clear hC he hl hs;go_enter Tryz.func115,Tryz.ntmps115;refine Qz (M:=[]) (W:=W) (N:=84) (E:=QgD) (O:=[]) ?_ XW QR;repeat(first|refine Q4 zA ?_|refine Q4 zF ?_|refine Q4 (zB 0) ?_|refine yB fun br=>?_|refine Q4 Qhx ?_|refine Qg ?_|refine Qa ?_|refine Q6 ?_|refine Qi ?_|refine Q4 zO ?_)
 refine X2 rfl (fun h1=>?_) (fun h1=>?_)
 ·skip
  refine mc7 ?_
  refine Q7 (.inr rfl) rfl (.tmp rfl) (fun w hw=>Qr ?_ hw);exact Qgg
 refine Qgj ?_
 refine X2 rfl (fun h2=>?_) (fun h2=>?_)
 ·skip
  refine mc7 ?_
  refine Q7 (.inr rfl) rfl (.tmp rfl) (fun w hw=>Qr ?_ hw);exact QfW
 refine QgS ?_
 refine X2 rfl (fun h3=>?_) (fun h3=>?_)
 ·skip
  refine mc7 ?_
  refine Q7 (.inr rfl) rfl (.tmp rfl) (fun w hw=>Qr ?_ hw);exact Qh4
 refine QhG ?_
 refine X2 rfl (fun h4=>?_) (fun h4=>?_)
 ·skip
  refine mc7 ?_
  refine Q7 (.inr rfl) rfl (.tmp rfl) (fun w hw=>Qr ?_ hw);exact Qht
 refine Qmc ?_
 refine X2 rfl (fun h6=>?_) (fun h6=>?_)
 ·skip
  refine mc7 ?_
  refine Q7 (.inr rfl) rfl (.tmp rfl) (fun w hw=>Qr ?_ hw);exact QlL
 repeat(first|refine Q4 zM ?_|refine Q4 zA ?_|refine Q4 zF ?_|refine Q4 (zB 0) ?_|refine Qg ?_|refine Qa ?_|refine Q6 ?_|refine Q8 rfl ?_|refine Q4 zL ?_|refine Q4 Q37 ?_|refine Q4 (YV rfl rfl Q1 rfl rfl rfl (by first|assumption|rfl)) ?_|refine Q4 zN ?_|refine Q4 zS ?_)
 refine X2 rfl (fun h10=>?_) (fun h10=>?_)
 ·skip
  refine mc7 ?_
  refine Q7 (.inr rfl) rfl (.tmp rfl) (fun w hw=>Qr ?_ hw);rw[<- HC.out];simp [Xs,hk1,hk7,hk8,h1,h2,h3,h4,h6,h10]
 refine Qgh ?_
 refine X2 rfl (fun h11=>?_) (fun h11=>?_)
 ·skip
  refine mc7 ?_
  refine Q7 (.inr rfl) rfl (.tmp rfl) (fun w hw=>Qr ?_ hw);exact QmS
 refine Qg8 ?_
 refine Q7 (.inr rfl) rfl (.tmp rfl) (fun w hw=>Qr ?_ hw);exact QmS
theorem Q5K(he:QS W W.heap.size A m early)(hl:RuL W r Ab cb An cn Ap cp)(hs:RSm r)(hm:m<=1048576)(hn:n<=1048576):
  Calls Tryz.prog 115 #[.agg (ruC r (.slice Ab r.bs.length cb) (.slice An r.names.length cn) (.slice Ap r.parts.length cp)).toArray,.slice A m c,.int .i64 (n:Int)] W (Je W (Xs r early n)):=by
 by_cases h1:r.kind=1
 ·exact QcE he hl hs hm hn (beq_iff_eq.2 h1) Q9k Q9k
 ·by_cases h7:r.kind=7
  ·exact QbU he hl hs hm hn Q9k (beq_iff_eq.2 h7) Q9k
  ·by_cases h8:r.kind=8
   ·exact QbN he hl hs hm hn Q9k Q9k (beq_iff_eq.2 h8)
   ·exact Qc5 he hl hs hm hn (beq_eq_false_iff_ne.2 h1) (beq_eq_false_iff_ne.2 h7) (beq_eq_false_iff_ne.2 h8)
end
end Go.Proofs.YtphkhfdmlcnoeaaGreatDoor
