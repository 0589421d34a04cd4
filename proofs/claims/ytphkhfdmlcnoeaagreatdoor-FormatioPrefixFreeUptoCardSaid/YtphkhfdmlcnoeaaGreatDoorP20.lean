import Derived.Test.YtphkhfdmlcnoeaaGreatDoorP19
namespace Go.Proofs.YtphkhfdmlcnoeaaGreatDoor
set_option linter.unusedVariables false
set_option linter.unusedSimpArgs false
def Kq:VF→Prop
 |.nil=>True
 |.cons d p r=>Xi d p.len=0∧Kq p∧Kq r
section
variable {F:List Rl}{D:List UInt8}
theorem Q8t{l:VF}(h:l.len=0):l=.nil:=by cases l with
 |nil=>rfl
 |cons d p r=>simp [VF.len] at h
theorem Yp{d:Nd}{n:Nat}(h:Xi d n=0):(d.k≠1→d.n=0)∧(d.k≠2→d.bs=[])∧(d.k≠4→d.ns=[])∧(d.k<3→n=0)∧(d.k=4→d.ns.length=n):=by
 unfold Xi at h
 split at h
 ·cases h
 split at h
 ·cases h
 ·next h1 h2=>
  unfold Q9m at h2
  simp only[Bool.or_eq_true,decide_eq_true_eq,not_or,not_and] at h2
  obtain⟨⟨⟨⟨a,b⟩,c⟩,e⟩,g⟩:=h2;refine⟨fun h=>by have:=a h;omega,fun h=>?_,fun h=>?_,fun h=>by have:=e h;omega,fun h=>by have:=g h;omega⟩
  ·have:=b h;exact List.length_eq_zero_iff.1 (by omega)
  ·have:=c h;exact List.length_eq_zero_iff.1 (by omega)
theorem Qbd{d:Nd}{n:Nat}(h:Xi d n=0)(hk:d.k=1):d=ndN d.n∧n=0:=by
 have hf:=Yp h;obtain⟨k,m,bs,ns⟩:=d
 simp only at hk hf ⊢
 subst hk;rw[hf.2.1 (by decide),hf.2.2.1 (by decide)];exact⟨rfl,hf.2.2.2.1 (by decide)⟩
theorem Q3m{d:Nd}{n:Nat}(h:Xi d n=0)(hk:d.k=2):d=ndB d.bs∧n=0:=by
 have hf:=Yp h;obtain⟨k,m,bs,ns⟩:=d
 simp only at hk hf ⊢
 subst hk;rw[hf.1 (by decide),hf.2.2.1 (by decide)];exact⟨rfl,hf.2.2.2.1 (by decide)⟩
theorem Q2u{d:Nd}{n:Nat}(h:Xi d n=0)(hk:d.k=3):d=ndL:=by
 have hf:=Yp h;obtain⟨k,m,bs,ns⟩:=d
 simp only at hk hf ⊢
 subst hk;rw[hf.1 (by decide),hf.2.1 (by decide),hf.2.2.1 (by decide)]
theorem QeH{d:Nd}{n:Nat}(h:Xi d n=0)(hk:d.k=4):d=ndR d.ns∧d.ns.length=n:=by
 have hf:=Yp h;obtain⟨k,m,bs,ns⟩:=d
 simp only at hk hf ⊢
 subst hk;rw[hf.1 (by decide),hf.2.1 (by decide)];exact⟨rfl,hf.2.2.2.2 rfl⟩
theorem Jg:∀(l:VF) (ps:List (List UInt8×Option Int)) (suf:List UInt8) (n:Nat) (b:List UInt8) (m:Nat),X7 F l ps suf n=.ok (b,m)→WrL F l ps suf b
 |.nil,ps,suf,n,b,m,h=>by
  unfold X7 at h
  injection h with h
  injection h with h1 h2
  rw[← h1];exact WrL.nil
 |.cons d p r,[],suf,n,b,m,h=>by
  unfold X7 at h
  injection h with h
  injection h with h1 h2
  rw[← h1]
  exact fun n=>⟨n,by unfold X7;rfl⟩
 |.cons d p r,(pre,none)::ps,suf,n,b,m,h=>by
  unfold X7 at h
  split at h
  ·cases h
  ·next b' m' hr=>
   injection h with h
   injection h with h1 h2
   rw[← h1];exact WrL.skip (Jg r ps suf _ b' m' hr)
 |.cons d p r,(pre,some k)::ps,suf,n,b,m,h=>by
  unfold X7 at h
  split at h
  ·next hf=>
   split at h
   ·cases h
   ·next b1 m1 hp=>
    split at h
    ·cases h
    ·next b' m' hr=>
     injection h with h
     injection h with h1 h2
     rw[← h1];exact WrL.cons ⟨hf,b1,rfl,Jg p _ _ _ b1 m1 hp⟩ (Jg r ps suf _ b' m' hr)
  ·cases h
theorem WrL.inv{d:Nd}{p r:VF}{pre suf b:List UInt8}{k:Int}{ps:List (List UInt8×Option Int)}(h:WrL F (.cons d p r) ((pre,some k)::ps) suf b):∃b1 b2,b=pre++b1++b2∧Wr F k d p b1∧WrL F r ps suf b2:=by
 obtain⟨m,h⟩:=h 0
 unfold X7 at h
 split at h
 ·next hf=>
  split at h
  ·cases h
  ·next b1 m1 hp=>
   split at h
   ·cases h
   ·next b' m' hr=>
    injection h with h
    injection h with h1 h2
    exact⟨_,b',h1.symm,⟨hf,b1,rfl,Jg p _ _ _ b1 m1 hp⟩,Jg r ps suf _ b' m' hr⟩
 ·cases h
theorem WrL.inv_skip{d:Nd}{p r:VF}{pre suf b:List UInt8}{ps:List (List UInt8×Option Int)}(h:WrL F (.cons d p r) ((pre,none)::ps) suf b):∃b2,b=pre++b2∧WrL F r ps suf b2:=by
 obtain⟨m,h⟩:=h 0
 unfold X7 at h
 split at h
 ·cases h
 ·next b' m' hr=>
  injection h with h
  injection h with h1 h2
  exact⟨b',h1.symm,Jg r ps suf _ b' m' hr⟩
theorem WrL.inv_nil{suf b:List UInt8}{ps:List (List UInt8×Option Int)}(h:WrL F .nil ps suf b):b=suf:=by
 obtain⟨m,h⟩:=h 0
 unfold X7 at h
 injection h with h
 injection h with h1 h2
 exact h1.symm
def Rds(F:List Rl)(D:List UInt8)(d:Nd)(l:VF):Prop:=∀(k:Int) (b:List UInt8) (p f:Nat) (rest:List UInt8),0≤k∧k<F.length→Wr F k d l b→p≤D.length→D.drop p=b++rest→Jw F D k p≤f→Qx F D f k p=some (.ok (d,l,p+b.length))
theorem Vo{p:Nat}{a b:List UInt8}(h:D.drop p=a++b):D.drop (p+a.length)=b:=by rw[← List.drop_drop,h,List.drop_left]
theorem KD{p:Nat}{a b:List UInt8}(hp:p≤D.length)(h:D.drop p=a++b):p+a.length≤D.length:=by
 have:=congrArg List.length h;rw[List.length_drop,List.length_append] at this
 omega
theorem Q45{e:Int}(he:0≤e∧e<F.length){f:Nat}:∀(l:VF) (b rest:List UInt8) (p:Nat),VF.All (Rds F D) l→WrL F l (List.replicate l.len ([],some e)) [] b→p≤D.length→D.drop p=b++rest→(∀q,p≤q→q≤D.length→Jw F D e q≤f)→Ze (Qx F D f e) l.len p=some (.ok (l,p+b.length))
 |.nil,b,rest,p,ha,hw,hp,hD,hf=>by
  have:=hw.inv_nil;subst this
  rfl
 |.cons d l r,b,rest,p,ha,hw,hp,hD,hf=>by
  have hw':WrL F (.cons d l r) (([],some e)::List.replicate r.len ([],some e)) [] b:=hw;obtain⟨b1,b2,rfl,h1,h2⟩:=hw'.inv;rw[List.nil_append,List.append_assoc] at hD;have hr:=ha.1 e b1 p f (b2++rest) he h1 hp hD (hf p (Nat.le_refl _) hp)
  show Ze _ (r.len+1) p=_
  unfold Ze
  rw[Xl hr]
  simp only
  rw[Xl (Q45 he r b2 rest (p+b1.length) ha.2 h2 (KD hp hD) (Vo hD) fun q h h'=>hf q (by omega) h')];rw[List.nil_append,List.length_append,← Nat.add_assoc]
  rfl
theorem Q79(hv:Fm F){e:Int}(he:0≤e∧e<F.length){f:Nat}{r0:Rl}(hs:0≤r0.stop∧r0.stop≤255)(hc:fir F e (Zk r0)=false):∀(l:VF) (b rest:List UInt8) (g p:Nat),VF.All (Rds F D) l→WrL F l (List.replicate l.len ([],some e)) [Zk r0] b→p≤D.length→D.drop p=b++rest→(∀q,p≤q→q≤D.length→Jw F D e q≤f)→D.length<g+p→Zs (Qx F D f e) D r0.stop g p=some (.ok (l,p+b.length))
 |l,b,rest,0,p,ha,hw,hp,hD,hf,hg=>absurd hg (by omega)
 |.nil,b,rest,g+1,p,ha,hw,hp,hD,hf,hg=>by
  have:=hw.inv_nil;subst this
  unfold Zs
  rw[Q0b hD]
  simp only
  rw[if_pos (KJ hs)]
  rfl
 |.cons d l r,b,rest,g+1,p,ha,hw,hp,hD,hf,hg=>by
  have hw':WrL F (.cons d l r) (([],some e)::List.replicate r.len ([],some e)) [Zk r0] b:=hw;obtain⟨b1,b2,rfl,h1,h2⟩:=hw'.inv;rw[List.nil_append,List.append_assoc] at hD;have hr:=ha.1 e b1 p f (b2++rest) he h1 hp hD (hf p (Nat.le_refl _) hp);obtain⟨c,hcc,hfir⟩:=VT hv f he p _ hp hr;have hfar:=QX (D:=D) hv.toUsd f he p _ hp hr
  simp only at hfar
  unfold Zs
  rw[hcc]
  simp only
  have hne:¬(c.toNat:Int)=r0.stop:=fun h=>by
   rw[Yw h,hfir] at hc
   cases hc
  rw[if_neg hne,Xl hr]
  simp only
  rw[Xl (Q79 hv he hs hc r b2 rest g (p+b1.length) ha.2 h2 (KD hp hD) (Vo hD) (fun q h h'=>hf q (by omega) h') (by omega))];rw[List.nil_append,List.length_append,← Nat.add_assoc]
  rfl
theorem Kn{nm:List UInt8}{ns:List (List UInt8)}(h:nm≠[]):QZ (nm::ns)=nm::QZ ns:=by unfold QZ;rw[List.filter_cons_of_pos (by simpa using h)]
theorem Q01{nm:List UInt8}{ns:List (List UInt8)}(h:nm=[]):QZ (nm::ns)=QZ ns:=by unfold QZ;rw[List.filter_cons_of_neg (by simp [h])]
theorem Qao{x:Int}(hx:(Qd F x).kind=1){f p:Nat}{rest:List UInt8}(hf:0<f)(hD:D.drop p=(Qd F x).bs++rest):Qx F D f x p=some (.ok (ndL,.nil,p+(Qd F x).bs.length)):=by
 cases f with
 |zero=>omega
 |succ f=>
  unfold Qx
  simp only
  rw[if_pos hx,hD,Xl Q0h]
  rfl
theorem Q2Y{f:Nat}:∀(ns:List (List UInt8)) (ks:List Int) (l:VF) (acc b:List UInt8),ns.length=ks.length→(∀k∈ks,0≤k∧k<F.length)→(∀i:Nat,i<ks.length→ns.getD i []=[]→(Qd F (ks.getD i 0)).kind=1)→l.len=(QZ ns).length→VF.All (Rds F D) l→WrL F l (V0 F ns ks acc).1 (V0 F ns ks acc).2 b→∃b',b=acc++b'∧∀(p:Nat) (rest:List UInt8),p≤D.length→D.drop p=b'++rest→(∀k∈ks,∀q,p<q→q≤D.length→Jw F D k q≤f)→(∀k∈ks.take 1,Jw F D k p≤f)→(∀k∈ks,Far (Qx F D f k) D.length)→Zt (Qx F D f) ns ks p=some (.ok (QZ ns,l,p+b'.length))
 |[],ks,l,acc,b,hl,hk,h0,hn,ha,hw=>by
  have:=Q8t (l:=l) (by simpa [QZ] using hn);subst this
  have e:V0 F [] ks acc=([],acc):=by cases ks<;>rfl
  rw[e] at hw;have:=hw.inv_nil;refine⟨[],by rw[this];simp,fun p rest hp hD hf h1 hfar=>?_⟩
  cases ks<;>rfl
 |_::_,[],l,acc,b,hl,hk,h0,hn,ha,hw=>by cases hl
 |nm::ns,k::ks,l,acc,b,hl,hk,h0,hn,ha,hw=>by
  have hl':ns.length=ks.length:=by simpa using hl
  have hk':∀k∈ks,0≤k∧k<F.length:=fun k h=>hk k (List.mem_cons_of_mem _ h)
  have h0':∀i:Nat,i<ks.length→ns.getD i []=[]→(Qd F (ks.getD i 0)).kind=1:=fun i hi hni=>by
   have:=h0 (i+1) (by rw[List.length_cons];omega) (by simpa using hni)
   simpa using this
  by_cases hnm:nm=[]
  ·rw[V0,if_pos hnm] at hw;rw[Q01 hnm] at hn;obtain⟨b',hb,hread⟩:=Q2Y (f:=f) ns ks l (acc++(Qd F k).bs) b hl' hk' h0' hn ha hw;refine⟨(Qd F k).bs++b',by rw[hb,List.append_assoc],fun p rest hp hD hf h1 hfar=>?_⟩;rw[List.append_assoc] at hD
   have hlit:(Qd F k).kind=1:=by simpa using h0 0 (by simp) (by simpa using hnm)
   have hfk:=h1 k (by simp);have hr:=Qao (f:=f) hlit (by unfold Jw at hfk;omega) hD;have hfa:=hfar k List.mem_cons_self p _ hp hr
   simp only at hfa
   unfold Zt
   rw[Xl hr]
   simp only
   rw[Xl (hread (p+(Qd F k).bs.length) rest (KD hp hD) (Vo hD) (fun k hk q h h'=>hf k (List.mem_cons_of_mem _ hk) q (by omega) h') (fun k hk=>hf k (List.mem_cons_of_mem _ (List.mem_of_mem_take hk)) _ (by omega) (KD hp hD)) fun k hk=>hfar k (List.mem_cons_of_mem _ hk))];rw[if_pos hnm,Q01 hnm,List.length_append,← Nat.add_assoc]
   rfl
  ·rw[V0,if_neg hnm] at hw;rw[Kn hnm] at hn
   match l,hn,ha,hw with
   |.cons d l1 r,hn,ha,hw=>
    obtain⟨b1,b2,rfl,hw1,hw2⟩:=WrL.inv hw
    have hn':r.len=(QZ ns).length:=by simpa [VF.len] using hn
    obtain⟨b',hb,hread⟩:=Q2Y (f:=f) ns ks r [] b2 hl' hk' h0' hn' ha.2 hw2;rw[List.nil_append] at hb;subst hb;refine⟨b1++b2,by rw[List.append_assoc],fun p rest hp hD hf h1 hfar=>?_⟩;rw[List.append_assoc] at hD;have hr:=ha.1 k b1 p f (b2++rest) (hk k List.mem_cons_self) hw1 hp hD (h1 k (by simp));have hfa:=hfar k List.mem_cons_self p _ hp hr
    simp only at hfa
    unfold Zt
    rw[Xl hr]
    simp only
    rw[Xl (hread (p+b1.length) rest (KD hp hD) (Vo hD) (fun k hk q h h'=>hf k (List.mem_cons_of_mem _ hk) q (by omega) h') (fun k hk=>hf k (List.mem_cons_of_mem _ (List.mem_of_mem_take hk)) _ (by omega) (KD hp hD)) fun k hk=>hfar k (List.mem_cons_of_mem _ hk))];rw[if_neg hnm,Kn hnm,List.length_append,← Nat.add_assoc]
    rfl
theorem Q4F{S:List (Nat→Bool)}:∀{l:List Int} {s:Nat→Bool},VZ S s l=false→∀(i:Nat) (c:Nat),i<l.length→c<256→(S.getD (l.getD i 0).toNat Zx) c=true→s c=false∧∀j:Nat,j<i→(S.getD (l.getD j 0).toNat Zx) c=false
 |[],s,h,i,c,hi,hc,hs=>by cases hi
 |x::l,s,h,i,c,hi,hc,hs=>by
  unfold VZ at h
  rw[Bool.or_eq_false_iff] at h
  cases i with
  |zero=>
   refine⟨?_,fun j hj=>by omega⟩;have h1:=h.1;rw[List.any_eq_false] at h1;have:=h1 c (List.mem_range.2 hc)
   simp only[List.getD_cons_zero] at hs
   rw[hs] at this
   simpa using this
  |succ i=>
   obtain⟨a,b⟩:=Q4F h.2 i c (by simpa using hi) hc (by simpa using hs)
   unfold orS at a
   rw[Bool.or_eq_false_iff] at a;refine⟨a.1,fun j hj=>?_⟩
   cases j with
   |zero=>simpa using a.2
   |succ j=>simpa using b j (by omega)
theorem Fm.choose(hv:Fm F){k:Int}(hk:0≤k∧k<F.length)(h8:(Qd F k).kind=8){i:Nat}{c:UInt8}(hi:i<(Qd F k).parts.length)(h:fir F ((Qd F k).parts.getD i 0) c=true):ZY F (Qd F k).parts c=some i:=by
 have hc:=hv.confl k.toNat (by omega);rw[Q05 (V6 hk)] at hc
 unfold VI at hc
 rw[if_neg (by omega),if_pos h8] at hc;obtain⟨_,hb⟩:=Q4F hc i c.toNat hi c.toNat_lt h
 unfold ZY
 rw[List.findIdx?_eq_some_iff_getElem]
 have hget:∀{j:Nat} (hj:j<(Qd F k).parts.length),(Qd F k).parts[j]=(Qd F k).parts.getD j 0:=fun {j} hj=>by rw[List.getD_eq_getElem?_getD,List.getElem?_eq_getElem hj];rfl
 refine⟨hi,?_,fun j hj=>?_⟩
 ·rw[hget hi];exact h
 ·rw[hget (Nat.lt_trans hj hi),hb j hj];exact Bool.false_ne_true
theorem Fm.stop_ok(hv:Fm F){k:Int}(hk:0≤k∧k<F.length)(h9:(Qd F k).kind=9):fir F (Qd F k).elem (Zk (Qd F k))=false:=by
 have hc:=hv.confl k.toNat (by omega);rw[Q05 (V6 hk)] at hc
 unfold VI at hc
 rw[if_pos h9] at hc
 unfold fir
 have hs:=(hv.toUsd.rok hk).stop (.inr (.inr h9));have:=KJ hs;rw[show (Zk (Qd F k)).toNat=(Qd F k).stop.toNat by omega];exact hc
theorem Q6A(hv:Fm F)(d:Nd)(l:VF)(hall:VF.All (Rds F D) l)(hg:Xi d l.len=0)(hgl:Kq l):Rds F D d l:=by
 intro k b p f rest hk hw hp hD hf;have hr:=hv.toUsd.rok hk;have hno:=hv.numOk hk;have hseq:=hv.seq hk
 have hch:=fun h8 i c hi h=>hv.choose hk h8 (i:=i) (c:=c) hi h
 have hstop:=hv.stop_ok hk
 have hfb:=fun x hx=>Q9q (D:=D) (p:=p) hv.toVld hk (i:=x) hx
 have hff:=fun(x:Int) (q:Nat) (h:p<q) (h':q≤D.length)=>Q7k (F:=F) (D:=D) (k:=k) (i:=x) h h'
 obtain⟨hfit,b',rfl,hwp⟩:=hw
 cases f with
 |zero=>unfold Jw at hf;omega
 |succ f=>
  unfold Qx
  simp only
  obtain⟨r,e⟩:∃r,Qd F k=r:=⟨_,rfl⟩
  simp only[e] at hr hno hseq hch hstop hfit hwp hD hfb ⊢
  unfold X8 at hfit
  unfold Xy at hD ⊢
  split
  ·next h1=>
   rw[if_pos h1] at hfit hD;rw[X6 (by omega) (by omega)] at hwp
   simp only[Bool.and_eq_true,beq_iff_eq] at hfit
   have hl:=Q8t hfit.2;subst hl;have hb:=hwp.inv_nil;subst hb;rw[List.append_nil] at hD ⊢;rw[hD,Xl Q0h,Q2u hg hfit.1]
   rfl
  split
  ·next h1 h23=>
   rw[if_neg h1,if_pos h23] at hfit hD;rw[X6 (by omega) (by omega)] at hwp
   simp only[Bool.and_eq_true,beq_iff_eq] at hfit
   obtain⟨hd,hl⟩:=Qbd hg hfit.1;have hl:=Q8t hl;subst hl;have hb:=hwp.inv_nil;subst hb;rw[List.append_nil] at hD ⊢;rw[Xl (Q0k (J6.of hr h23) hfit.2 hD)];rw[← hd]
   rfl
  split
  ·next h1 h23 h4=>
   rw[if_neg h1,if_neg h23,if_pos h4] at hfit hD;rw[X6 (by omega) (by omega)] at hwp
   simp only[Bool.and_eq_true,beq_iff_eq,decide_eq_true_eq] at hfit
   obtain⟨hd,hl⟩:=Q3m hg hfit.1;have hl:=Q8t hl;subst hl;have hb:=hwp.inv_nil;subst hb;rw[List.append_nil] at hD ⊢;rw[Xl (Q23 hp hD hfit.2.symm)]
   simp only
   rw[← hd]
   rfl
  split
  ·next h1 h23 h4 h10=>
   rw[if_neg h1,if_neg h23,if_neg h4,if_pos h10] at hfit hD;rw[X6 (by omega) (by omega)] at hwp
   simp only[Bool.and_eq_true,beq_iff_eq] at hfit
   obtain⟨hd,hl⟩:=Q3m hg hfit.1;have hl:=Q8t hl;subst hl;have hb:=hwp.inv_nil;subst hb;rw[List.append_nil,List.append_assoc] at hD;rw[Xl (Q0k (hno (.inr h10)) hfit.2 hD)]
   simp only
   rw[Xl (Q23 (KD hp hD) (Vo hD) rfl)]
   simp only
   rw[← hd,List.append_nil,List.length_append,← Nat.add_assoc]
   rfl
  split
  ·next h1 h23 h4 h10 h5=>
   rw[if_neg h1,if_neg h23,if_neg h4,if_neg h10,if_pos h5] at hfit hD;rw[X6 (by omega) (by omega)] at hwp
   simp only[Bool.and_eq_true,beq_iff_eq,decide_eq_true_eq,Bool.not_eq_true'] at hfit
   obtain⟨hd,hl⟩:=Q3m hg hfit.1.1;have hl:=Q8t hl;subst hl;have hb:=hwp.inv_nil;subst hb;rw[List.append_nil] at hD ⊢
   have hD':D.drop p=d.bs++Zk r::rest:=by rw[hD];simp
   have hsn:=KJ (hr.stop (.inr (.inl h5)))
   have hu:=Q2S (rest:=rest) (size:=r.size) (k:=0) (p:=p) hsn (x:=d.bs) (fun y hy h=>by
    have:d.bs.contains (Zk r)=true:=by
     rw[Yw h,List.contains_iff_mem];exact hy
    rw[hfit.2] at this
    cases this) (by omega)
   rw[hD',Xl hu];rw[show p+d.bs.length - p=d.bs.length by omega,List.take_left,← hd,List.length_append]
   rfl
  split
  ·next h1 h23 h4 h10 h5 h6=>
   rw[if_neg h1,if_neg h23,if_neg h4,if_neg h10,if_neg h5,if_pos h6] at hfit hD;rw[Jz (.inl h6),X6 (by omega) (by omega)] at hwp
   simp only[Bool.and_eq_true,beq_iff_eq] at hfit
   have hd:=Q2u hg hfit.1;rw[List.append_assoc] at hD;have hn:=Q0k (hno (.inl h6)) hfit.2 hD;have hnf:=Zl (hno (.inl h6)).numK hp hn
   rw[Xl hn,Int.toNat_natCast,Xl (Q45 (hr.elem (.inl h6)) l b' rest _ hall hwp (KD hp hD) (Vo hD) fun q h h'=>by
    have:=hff r.elem q (by omega) h'
    omega)]
   rw[hd,List.length_append,← Nat.add_assoc]
   rfl
  split
  ·next h1 h23 h4 h10 h5 h6 h9=>
   rw[if_neg h1,if_neg h23,if_neg h4,if_neg h10,if_neg h5,if_neg h6] at hD;rw[if_neg h1,if_neg h23,if_neg h4,if_neg h10,if_neg h5,if_neg h6,if_pos h9] at hfit;rw[Jz (.inr h9)] at hwp
   unfold Vw at hwp
   rw[if_pos h9] at hwp;have hd:=Q2u hg (by simpa using hfit);rw[List.nil_append] at hD ⊢
   rw[Xl (Q79 hv (hr.elem (.inr h9)) (hr.stop (.inr (.inr h9))) (hstop h9) l b' rest (D.length+1) p hall hwp hp hD (fun q h h'=>by
    rcases Nat.lt_or_ge p q with hq|hq
    ·have:=hff r.elem q hq h'
     omega
    ·obtain rfl:p=q:=by omega
     have:=hfb r.elem (Qft h9)
     omega) (by omega))]
   rw[hd]
   rfl
  split
  ·next h1 h23 h4 h10 h5 h6 h9 h8=>
   rw[if_neg h1,if_neg h23,if_neg h4,if_neg h10,if_neg h5,if_neg h6] at hD;rw[if_neg h1,if_neg h23,if_neg h4,if_neg h10,if_neg h5,if_neg h6,if_neg h9,if_pos h8] at hfit;rw[X6 (by omega) (by omega)] at hwp
   unfold Za at hwp
   rw[if_neg (by omega),if_pos h8] at hwp
   simp only[Bool.and_eq_true,beq_iff_eq,decide_eq_true_eq] at hfit
   obtain⟨⟨⟨⟨hf3,hf2⟩,hf1⟩,hfa⟩,hfc⟩:=hfit;have hd:=Q2u hg hf3
   match l,hf2,hf1,hfa,hfc,hall,hgl,hwp with
   |.cons d0 p0 (.cons d1 p1 .nil),_,hf1,hfa,hfc,hall,hgl,hwp=>
    simp only[VF.hdN] at hf1 hfa hfc hwp
    obtain⟨hd0,hp0⟩:=Qbd hgl.1 hf1;have hp0:=Q8t hp0;subst hp0;obtain⟨b2,hb2,hw2⟩:=hwp.inv_skip;obtain⟨b3,b4,hb3,hw3,hw4⟩:=hw2.inv;have:=hw4.inv_nil;subst this;rw[List.nil_append] at hb2;rw[List.nil_append,List.append_nil] at hb3;rw[hb3] at hb2;subst hb2;rw[List.nil_append] at hD ⊢;obtain⟨i,hi⟩:∃i:Nat,d0.n=(i:Int):=⟨d0.n.toNat,by omega⟩;rw[hi] at hfc hw3 hd0;rw[Int.toNat_natCast] at hw3
    have hil:i<r.parts.length:=by omega
    have hread:=hall.2.1 (r.parts.getD i 0) _ p f rest (hr.parts (.inr h8) _ (ZX hil)) hw3 hp hD (by have:=hfb _ (Qfz h8 hil);omega);obtain⟨c,hc,hfir⟩:=VT hv f (hr.parts (.inr h8) _ (ZX hil)) p _ hp hread;rw[hc]
    simp only
    rw[hch h8 i c hil hfir]
    simp only
    rw[Xl hread,hd,hd0]
    rfl
  ·next h1 h23 h4 h10 h5 h6 h9 h8=>
   have h7:r.kind=7:=by
    have:=hr.kind
    omega
   have hs7:=hr.seven h7;rw[if_neg h1,if_neg h23,if_neg h4,if_neg h10,if_neg h5,if_neg h6] at hD;rw[if_neg h1,if_neg h23,if_neg h4,if_neg h10,if_neg h5,if_neg h6,if_neg h9,if_neg h8] at hfit
   unfold Za Vw at hwp
   rw[if_neg (by omega),if_neg h8,if_pos h7,if_neg h9,if_pos h7] at hwp
   simp only[Bool.and_eq_true,beq_iff_eq] at hfit
   obtain⟨hd,hl⟩:=QeH hg hfit.1;obtain⟨b'',hb,hread⟩:=Q2Y (f:=f) r.names r.parts l [] b' hs7.1 (hr.parts (.inl h7)) (hseq h7) (by rw[← hl,hfit.2]) hall hwp;rw[List.nil_append] at hb;subst hb;rw[List.nil_append] at hD ⊢;rw[Xl (hread p rest hp hD (fun x hx q h h'=>by have:=hff x q h h';omega) (fun x hx=>by have:=hfb x (QfM h7 hx);omega) fun x hx=>QX hv.toUsd f (hr.parts (.inl h7) x hx))];rw[← hfit.2,← hd]
   rfl
theorem Q3x(hv:Fm F):∀(l:VF),Kq l→VF.All (Rds F D) l
 |.nil,h=>trivial
 |.cons d p r,h=>⟨Q6A hv d p (Q3x hv p h.2.1) h.1 h.2.1,Q3x hv r h.2.2⟩
theorem Q7U(hv:Fm F){d:Nd}{l:VF}(hg:Xi d l.len=0)(hgl:Kq l){n m:Nat}(h:X7 F (.cons d l .nil) [([],some 0)] [] n=.ok (D,m)){f:Nat}(hf:Jw F D 0 0≤f):Qx F D f 0 0=some (.ok (d,l,D.length)):=by
 obtain⟨b1,b2,hb,hw,hw2⟩:=(Jg _ _ _ _ _ _ h).inv;have:=hw2.inv_nil;subst this;rw[List.nil_append,List.append_nil] at hb;subst hb;have:=Q6A hv d l (Q3x hv l hgl) hg hgl 0 D 0 f [] ⟨by omega,by have:=hv.len;omega⟩ hw (by omega) (by simp) hf;rwa [Nat.zero_add] at this
end
end Go.Proofs.YtphkhfdmlcnoeaaGreatDoor
