import Derived.Test.YtphkhfdmlcnoeaaGreatDoorQ21
namespace Go.Proofs.YtphkhfdmlcnoeaaGreatDoor
set_option linter.unusedVariables false
set_option linter.unusedSimpArgs false
set_option maxRecDepth 1000000
set_option maxHeartbeats 32000000
section
variable {k:Int}{p:Nat}
section
variable {F:List Rl}{D:List UInt8}{a:List Int}
theorem JI.le(h:JI F a)(hk:0<=k/\k<F.length):lk a k<=Zd F a (Qj F k):=by
 have:=h.eq _ _ (VM hk);unfold lk;omega
theorem Q8a(h:JI F a)(hk:0<=k/\k<F.length)(hr:JG (Qj F k)){q:Nat}{n:Int}(hp:p<=D.length)(hn:Yo (Qj F k) D p=some (.ok (n,q))):lk a k<=(q:Int) - p:=by
 have hle:=h.le hk;unfold Yo at hn;unfold Zd at hle;split at hn
 ·next h3=>
  obtain⟨c,rest,hl,hq,hc,h0,h1,d,hd,_⟩:=Q4l hn;rw[if_neg Q2,if_neg Q2,if_pos h3] at hle;have:1<=(Lib.itoa n).length:=by
   cases hi:Lib.itoa n with
   |nil=>rw[hi] at hd;cases hd
   |cons a b=>simp
  omega
 ·next h3=>
  have h2:=hr.kind.resolve_right h3;have:=hr.num h2;obtain⟨y,hy,hg⟩:=QW hn;obtain⟨rfl,hn'⟩:=J3 hy;rw[if_neg Q2,if_pos (.inl h2)] at hle;split at hg
  ·exact(V2 hg).elim
  ·have:=QH hg
   injection this with e1 e2;simp only at e2;omega
theorem Q3z{one:Nat->Rdg (Nd×VF×Nat)}{m:Nat}{e:Int}(he:0<=e)(hf:Far one m)(h1:∀p y,p<=m->one p=some (.ok y)->e<=(y.2.2:Int) - p):∀{n p:Nat} {z:VF×Nat},p<=m->Jz one n p=some (.ok z)->(n:Int)*e<=(z.2:Int) - p
 |0,p,z,hp,h=>by
  rw[<- QH h]
  simp
 |n+1,p,z,hp,h=>by
  obtain⟨y,hy,hg⟩:=QW h;obtain⟨z',hz,hg⟩:=QW hg;have a:=hf p y hp hy;have b:=h1 p y hp hy;have c:=Q3z he hf h1 a.2 hz;rw[<- QH hg]
  simp only;have:((n+1:Nat):Int)*e=(n:Int)*e+e:=by rw[Int.natCast_add,Int.add_mul];simp
  omega
theorem Q8l(g:Int->Int):∀(l:List Int) (s:Int),l.foldl (fun s x=>s+g x) s=s+(l.map g).sum
 |[],s=>by simp
 |x::l,s=>by rw[List.foldl_cons,Q8l g l,List.map_cons,List.sum_cons];omega
theorem Q4D{one:Int->Nat->Rdg (Nd×VF×Nat)}{m:Nat}:∀{ns:List (List UInt8)} {ks:List Int} {p:Nat} {z:List (List UInt8)×VF×Nat},(∀k∈ks,Far (one k) m)->(∀k∈ks,∀p y,p<=m->one k p=some (.ok y)->lk a k<=(y.2.2:Int) - p)->ns.length=ks.length->p<=m->JK one ns ks p=some (.ok z)->(ks.map (lk a)).sum<=(z.2.2:Int) - p
 |[],[],p,z,hf,h1,hl,hp,h=>by
  rw[<- QH h]
  simp
 |[],_::_,p,z,hf,h1,hl,hp,h=>by cases hl
 |_::_,[],p,z,hf,h1,hl,hp,h=>by cases hl
 |nm::ns,k::ks,p,z,hf,h1,hl,hp,h=>by
  unfold JK at h
  obtain⟨y,hy,hg⟩:=QW h;obtain⟨z',hz,hg⟩:=QW hg;have a:=hf k List.mem_cons_self p y hp hy;have b:=h1 k List.mem_cons_self p y hp hy;have c:=Q4D (fun k hk=>hf k QhU) Q9i QfM a.2 hz
  have:z.2.2=z'.2.2:=by
   split at hg
   ·rw[<- QH hg]
   ·rw[<- QH hg]
  rw[this,List.map_cons,List.sum_cons];omega
theorem Q8s(g:Int->Int):∀(l:List Int) (s:Int),l.foldl (fun s x=>min s (g x)) s<=s/\∀x∈l,l.foldl (fun s x=>min s (g x)) s<=g x
 |[],s=>⟨Int.le_refl _,by simp⟩
 |x::l,s=>by
  obtain⟨h1,h2⟩:=Q8s g l (min s (g x));rw[List.foldl_cons];refine⟨by omega,fun y hy=>?_⟩
  rcases List.mem_cons.1 hy with rfl|hy
  ·omega
  ·exact h2 y hy
theorem YM(hv:Fm F)(hfix:JI F a):∀(f:Nat) {k:Int},0<=k/\k<F.length->∀(p:Nat) (y:Nd×VF×Nat),p<=D.length->QA F D f k p=some (.ok y)->lk a k<=(y.2.2:Int) - p
 |0,k,hk,p,y,hp,h=>by cases h
 |f+1,k,hk,p,y,hp,h=>by
  have hr:=hv.toUsd.rok hk;have hno:=hv.numOk hk;have hle:=hfix.le hk;have hfar:=XH (D:=D) hv.toUsd (f+1) hk p y hp h
  have hnl:=fun h6 q n hn=>Q8a (D:=D) hfix (hr.count h6) (hno h6) (p:=p) (q:=q) (n:=n) hp hn;have hnl2:=fun h23 q n hn=>Q8a (D:=D) hfix hk (JG.of hr h23) (p:=p) (q:=q) (n:=n) hp hn;have hmn:=fun h6=>Q12 (VM (hr.count h6));unfold QA at h;simp only at h;unfold Zd at hle;obtain⟨r,e⟩:∃r,Qj F k=r:=⟨_,rfl⟩;simp only[e] at h hr hno hle hnl hnl2 hmn;split at h
  ·next h1=>
   rw[if_pos h1] at hle;obtain⟨q,hq,hg⟩:=QW h;obtain⟨a',_,c⟩:=Q5p hq;exact Q4A
  split at h
  ·next h1 h23=>
   obtain⟨z,hz,hg⟩:=QW h;rw[<- QH hg];exact hnl2 h23 z.2 z.1 hz
  split at h
  ·next h1 h23 h4=>
   rw[if_neg h1,if_pos (.inr h4)] at hle;exact Qnl
  split at h
  ·next h1 h23 h4 h10=>
   rw[if_neg h1,if_neg Q2,if_neg Q2,if_pos h10,hmn (.inr h10)] at hle;obtain⟨x,hx,hg⟩:=QW h;have b:=hnl (.inr h10) x.2 x.1 hx;have c:=Qd2 (n:=x.1) (q:=x.2) (hno (.inr h10)) hp hx;have d:=Q0X (n:=x.1) (q:=x.2) (hno (.inr h10)).numK hp hx;rw[Q0M] at c;obtain⟨z,hz,hg⟩:=QW hg;obtain⟨rfl,hn⟩:=J3 hz;exact Q4A
  split at h
  ·next h1 h23 h4 h10 h5=>
   exact Qsb
  split at h
  ·next h1 h23 h4 h10 h5 h6=>
   rw[if_neg h1,if_neg Q2,if_neg Q2,if_neg h10,if_pos h6,hmn (.inl h6)] at hle;obtain⟨x,hx,hg⟩:=QW h;have b:=hnl (.inl h6) x.2 x.1 hx;have c:=Qd2 (n:=x.1) (q:=x.2) (hno (.inl h6)) hp hx;have d:=Q0X (n:=x.1) (q:=x.2) (hno (.inl h6)).numK hp hx;have g:=QmY;rw[Q0M] at c;obtain⟨z,hz,hg⟩:=QW hg;have m:=Q3z (hfix.nn _) (XH (D:=D) hv.toUsd f Q5N) (fun p y hp h=>YM hv hfix f Q5N p y hp h) g.2 hz;have hmul:=Int.mul_le_mul_of_nonneg_right c.1 (hfix.nn r.elem.toNat);rw[<- QH hg];simp only;have e1:((x.1.toNat:Nat):Int)=x.1:=by omega
   rw[e1] at m;unfold lk at hle b ⊢;omega
  split at h
  ·next h1 h23 h4 h10 h5 h6 h9=>
   exact Qsb
  split at h
  ·next h1 h23 h4 h10 h5 h6 h9 h8=>
   rw[if_neg h1,if_neg Q2,if_neg Q2,if_neg h10,if_neg h6,if_neg Q2,if_pos h8] at hle;split at h
   ·exact YK
   ·split at h
    ·exact YK
    ·next c hc _ i hi=>
     obtain⟨z,hz,hg⟩:=QW h;have hm:=Yb (Vo hi);have b:=YM hv hfix f (hr.parts (.inr h8) _ hm) p z hp hz;have d:=(Q8s (lk a) r.parts 1001).2 _ hm;rw[<- QH hg];simp only;unfold Q2p at hle;omega
  ·next h1 h23 h4 h10 h5 h6 h9 h8=>
   have h7:r.kind=7:=by
    have:=hr.kind;omega
   rw[if_neg h1,if_neg Q2,if_neg Q2,if_neg h10,if_neg h6,if_pos h7] at hle;obtain⟨z,hz,hg⟩:=QW h;have b:=Q4D QeZ (fun k hk=>YM hv hfix f QhM) (hr.seven h7).1 hp hz;rw[<- QH hg];simp only;unfold Q2f at hle;rw[Q8l (lk a)] at hle;omega
theorem QcU(hv:Usd F):∀(m:Nat) (out:List Int),Lst F out->slk out<m->∃b,JI F b
 |0,out,h,hm=>by omega
 |m+1,out,h,hm=>by
  by_cases hall:∀(i:Nat) (r:Rl),F[i]? =some r->min (Zd F out r) 1001=out.getD i 0
  ·exact⟨out,h.fix hall⟩
  ·simp only[Classical.not_forall] at hall
   obtain⟨i,r,hr,hne⟩:=hall;exact QcU hv m _ (h.put hv hr) (by have:=h.slk_lt hr hne;omega)
theorem Qt6(hv:Usd F):∃b,JI F b:=QcU hv _ _ (Lst.start F fun i r hr=>QhR hv (fun j=>by
 refine QgH ?_
 split<;>exact Int.le_refl _) hr) (Nat.lt_succ_self _)
theorem QeT(hv:Fm F){f:Nat}(hk:0<=k/\k<F.length){y:Nd×VF×Nat}(hp:p<=D.length)(h:QA F D f k p=some (.ok y)):(Q09 F).getD k.toNat 0<=(y.2.2:Int) - p:=by
 obtain⟨b,hb⟩:=Qt6 hv.toUsd;rw[Q60 hv.toVld hb Q2];exact YM hv hb f hk p y hp h
end
end
open Go.RowKit
section
variable {F p:VF}{d:Nd}{i:Nat}{ns:List (List UInt8)}{rc:Bool}
def Q2u(d:Nd)(np:Nat)(body:List UInt8):List UInt8:=num d.k++(if d.k=1 then num d.n else if d.k=2 then YB d.bs else num (np:Int)++body)
def Zf:VF->Bool->List (List UInt8)->List UInt8
 |.nil,_,_=>[]
 |.cons d p r,rc,ns=>(if rc then YB (ns.headD []) else [])++(Q2u d p.len (Zf p (d.k==4) d.ns)++Zf r rc ns.tail)
def Zv(d:Nd)(p:VF):List UInt8:=Q2u d p.len (Zf p (d.k==4) d.ns)
theorem Qfs(F:VF):∀(rc:Bool) (ns:List (List UInt8)) (i:Nat),Zf F rc ns=Zf (F.take i) rc ns++Zf (F.drop i) rc (ns.drop i):=by
 induction F with
 |nil=>intro rc ns i;cases i<;>rfl
 |cons d p r _ ih=>
  intro rc ns i;cases i with
  |zero=>rw[VF.take_zero,VF.drop_zero,List.drop_zero];rfl
  |succ i=>
   show _=Zf (.cons d p (r.take i)) rc ns++Zf (r.drop i) rc (ns.drop (i+1));simp only[Zf];rw[ih rc ns.tail i,List.drop_tail];simp only[List.append_assoc]
theorem Q3E(F:VF):∀(rc:Bool) (ns:List (List UInt8)) (i:Nat) (d:Nd) (p r:VF),F.drop i=.cons d p r->
  Zf (F.take (i+1)) rc ns=Zf (F.take i) rc ns++((if rc then YB ((ns.drop i).headD []) else [])++Zv d p):=by
 induction F with
 |nil=>intro rc ns i d p r h;cases i<;>simp [VF.drop] at h
 |cons d' p' r' _ ih=>
  intro rc ns i d p r h;cases i with
  |zero=>
   rw[VF.drop_zero] at h;injection h with h1 h2 h3;subst h1 h2 h3;show Zf (.cons d' p' (r'.take 0)) rc ns=_;rw[VF.take_zero,VF.take_zero];simp [Zf,Zv]
  |succ i=>
   show Zf (.cons d' p' (r'.take (i+1))) rc ns=Zf (.cons d' p' (r'.take i)) rc ns++_;simp only[Zf];rw[ih rc ns.tail i d p r h,List.drop_tail];simp only[List.append_assoc]
theorem Q0l:(Zf (F.take i) rc ns).length<=(Zf F rc ns).length:=by
 rw[Qfs F rc ns i,List.length_append];omega
theorem Q7b(h1:¬d.k=1)(h2:¬d.k=2):Zv d p=num d.k++(num (p.len:Int)++Zf p (d.k==4) d.ns):=by
 unfold Zv Q2u;rw[if_neg h1,if_neg h2]
theorem Qlf(h1:d.k=1):Zv d p=num d.k++num d.n:=by unfold Zv Q2u;rw[if_pos h1]
theorem QeU(h2:d.k=2):Zv d p=num d.k++YB d.bs:=by unfold Zv Q2u;rw[if_neg Q2,if_pos h2]
theorem Q8c{r:VF}(h:F.drop i=.cons d p r):(Zv d p).length<=(Zf F rc ns).length:=by
 have h1:=Q3E F rc ns i d p r h;have h2:=Q0l (F:=F) (rc:=rc) (ns:=ns) (i:=i+1);rw[h1] at h2;simp only[List.length_append] at h2;omega
def Ki:VF->Prop
 |.nil=>True
 |.cons d p r=>Xu d p.len=0/\Ki p/\Ki r
theorem Ki.drop:∀(F:VF) (i:Nat),Ki F->Ki (F.drop i):=by
 intro F;induction F with
 |nil=>intro i _;cases i<;>trivial
 |cons d p r _ ih=>
  intro i h;cases i with
  |zero=>exact h
  |succ i=>exact ih i h.2.2
theorem Q7Q(F:VF):∀(num lev m:Nat),XY F num lev=.inr m->Ki F:=by
 induction F with
 |nil=>intro _ _ _ _;trivial
 |cons d p r ih1 ih2=>
  intro num lev m h;by_cases h1:600<=num\/10<lev
  ·rw[Vi h1] at h;cases h
  ·by_cases h2:Xu d p.len≠0
   ·rw[Vf h1 h2] at h;cases h
   ·cases hp:XY p (num+1) (lev+1) with
    |inl f=>rw[Yx h1 h2 hp] at h;cases h
    |inr k=>
     rw[Yp h1 h2 hp] at h;exact⟨by simpa using h2,ih1 _ _ _ hp,ih2 _ _ _ h⟩
theorem QeW{np:Nat}(h:Xu d np=0):(1<=d.k/\d.k<=4)/\(d.k=1\/d.n=0)/\(d.k=2\/d.bs=[])/\(d.k=4\/d.ns=[])/\(3<=d.k\/np=0)/\(d.k=4->d.ns.length=np)/\np<=600/\d.ns.all Qk=true/\d.ns.Nodup:=by
 by_cases hk:d.k<1\/4<d.k
 ·rw[Q6s hk] at h;cases h
 ·by_cases hf:(d.k≠1/\d.n≠0)\/(d.k≠2/\0<d.bs.length)\/(d.k≠4/\0<d.ns.length)\/(d.k<3/\0<np)\/(d.k=4/\d.ns.length≠np)
  ·rw[Q6Y hk hf] at h;cases h
  ·rw[Qba hk hf] at h
   have h6:¬600<np:=fun h'=>by rw[Q9N h'] at h;cases h
   have h7:d.ns.all Qk=true:=by
    cases e:d.ns.all Qk with
    |true=>rfl
    |false=>rw[QjQ h6 e] at h;cases h
   have h8:d.ns.Nodup:=by
    by_cases e:d.ns.Nodup
    ·exact e
    ·rw[Qkv h6 h7 e] at h;cases h
   have z:∀{α:Type} (l:List α),¬0<l.length->l=[]:=fun l hl=>List.eq_nil_of_length_eq_zero Q2;refine⟨by omega,by omega,?_,?_,by omega,by omega,by omega,h7,h8⟩
   ·by_cases e:d.k=2
    ·exact .inl e
    ·exact .inr (z _ Q2)
   ·by_cases e:d.k=4
    ·exact .inl e
    ·exact .inr (z _ Q2)
def Qa3(w:World)(s:ByteArray):Nat:=grownCap w s.size 0 5
def KN(w:World)(s:ByteArray):World:=w.drew.alloc (.cells (bytesRow s (Qa3 w s)) 5 ((bytesRow s (Qa3 w s)).size,(bytesRow s (Qa3 w s)).size+1))
theorem Qj3(s:ByteArray)(w:World):(convert 9 25 (.string s)).run Tryz.prog w=.ok (.slice (some ⟨w.heap.size,0,none⟩) s.size (Qa3 w s)) (KN w s):=
 run_bytes_of_string w 9 25 5 s Tryz.underlying9 Tryz.underlying25 Tryz.underlying5
theorem Qaa(w:World)(s:ByteArray):Below w.heap.size w (KN w s):=((Below.refl _ _).drew).alloc XU _
theorem Qcl(w:World)(s:ByteArray):(KN w s).heap.size=w.heap.size+1:=by simp [KN]
theorem QnL(w:World)(s:ByteArray):Rd (KN w s) (KN w s).heap.size 1 (some ⟨w.heap.size,0,none⟩) s.size (bv s.data.toList):=by
 refine⟨by simp [bv],fun _=>⟨_,_,rfl,by rw[Qcl];omega,fun j u hu=>?_⟩⟩;have hj:j<s.size:=by
  have:=(List.getElem?_eq_some_iff.1 hu).1;simpa [bv] using this
 unfold KN;rw[Nat.zero_add];have e:=cell_of_row (w.drew.alloc (.cells (bytesRow s (Qa3 w s)) 5 ((bytesRow s (Qa3 w s)).size,(bytesRow s (Qa3 w s)).size+1))) w.heap.size j (bytesRow s (Qa3 w s)) 5 _ (heap_alloc_new w.drew _);rw[e];have:(bytesRow s (Qa3 w s))[j]? =some (.int .u8 (s[j].toNat:Int)):=by
  unfold bytesRow;rw[Array.getElem?_append_left (by simpa using hj)];rw[Array.getElem?_map,Array.getElem?_eq_getElem (by simpa using hj)];rfl
 rw[this,<- hu];simp only[bv,List.getElem?_map,Qaj hj,Option.map_some]
theorem QiJ(w:World)(s:ByteArray)(g:Nat)(hg:g=w.heap.size):Rd (KN w s) (KN w s).heap.size 1 (some ⟨g,0,none⟩) s.size (bv s.data.toList):=by subst hg;exact QnL w s
end
section
variable {A:Option Addr}{W1 w:World}{c i:Nat}{d:Nd}{ns:List (List UInt8)}{p:VF}{rc:Bool}{v:Value}
def QmA(d:Nd)(p:VF):Prop:=J5 d->ZV p->p.len<=1048576->Xu d p.len=0->Ki p->(Zv d p).length<=1099511627776->∀(w:World) (v:Value),VIn w w.heap.size v d p->
 Calls Tryz.prog 102 #[v] w (KF w (Zv d p))
theorem QfX(hv:VIn w w.heap.size v d p)(hf:J5 d)(hk:d.k=1):Calls Tryz.prog 102 #[v] w (KF w (Zv d p)):=by
 have HE:=Q3 (Qlf (d:=d) (p:=p) hk);obtain⟨sb,sn,sp,rfl,Ab,nb,cb,An,nn,cn,Ap,cp,rfl,rfl,rfl,hbc,hnc,hpc,hpm,hrb,hrn,hp⟩:=hv;obtain⟨⟨h1,h2,h3,h4⟩,_⟩:=hf;have hl1:=Ji d.k h1 h2;have hl2:=Ji d.n h3 h4;have hk1:(d.k==1)=true:=by simp [hk]
 clear hrb hrn hp hk;go_enter Tryz.func102,Tryz.ntmps102;go_wp2_with fail
 refine(Zn d.k _ h1 h2).mono ?_;rintro e w1 ⟨A1,c1,rfl,hown1,hb1⟩;have hz1:=hb1.size;have q0:w1.cell? ⟨w.heap.size,0,none⟩=some (.int .i64 d.k):=Q4F;have q1:w1.cell? ⟨w.heap.size,1,none⟩=some (.int .i64 d.n):=Q4F;simp only[QL] at hz1 hown1;have HB1:=Qo0;clear hb1;go_wp2_with fail
 refine(Zn d.n _ h3 h4).mono ?_;rintro e w2 ⟨A2,c2,rfl,hown2,hb2⟩;have hz2:=hb2.size;have HB2:=Q3 (XF HB1.out hb2);have hown1':=Qak;go_wp2_with (at_builtin;refine Zm _ slB rfl (.tmp 13) (.tmp 16) rfl (w.heap.size+1) A1 (num d.k).length c1 (bv (num d.k)) rfl hown1' _ A2 (num d.n).length c2 (bv (num d.n)) rfl (Rd.of_own hown2) (Vj _) Q2 Q2 HB2.out Q2 ?_;intro A3 c3 w3 hown3 _ hb3)
 exact QlC
theorem QaE(hv:VIn w w.heap.size v d p)(hf:J5 d)(hk:d.k=2):Calls Tryz.prog 102 #[v] w (KF w (Zv d p)):=by
 have HE:=Q3 (QeU (d:=d) (p:=p) hk);obtain⟨sb,sn,sp,rfl,Ab,nb,cb,An,nn,cn,Ap,cp,rfl,rfl,rfl,hbc,hnc,hpc,hpm,hrb,hrn,hp⟩:=hv;obtain⟨⟨h1,h2,h3,h4⟩,hbl,_⟩:=hf;have hl1:=Ji d.k h1 h2;have hnb:d.bs.length=nb:=by have:=hrb.len;rw[XD] at this;exact this
 have hl2:=Q3Z d.bs Q2;have hnb':nb<=1048576:=by omega
 have hk1:(d.k==1)=false:=by simp [hk]
 have hk2:(d.k==2)=true:=by simp [hk]
 have HRB:=Q3 hrb;clear hrb hrn hp hk hnb;go_enter Tryz.func102,Tryz.ntmps102;go_wp2_with fail
 refine(Zn d.k _ h1 h2).mono ?_;rintro e w1 ⟨A1,c1,rfl,hown1,hb1⟩;have hz1:=hb1.size;have q0:w1.cell? ⟨w.heap.size,0,none⟩=some (.int .i64 d.k):=Q4F;have q2:w1.cell? ⟨w.heap.size,2,none⟩=some (.slice Ab nb cb):=Q4F;simp only[QL] at hz1 hown1;have HB1:=Qo0;clear hb1;go_wp2_with fail
 refine(Q4C (bs:=d.bs) ((HRB.out.below HB1.out).more HB1.out.size) Q2).mono ?_;rintro e w2 ⟨A2,c2,rfl,hown2,hb2⟩;have hz2:=hb2.size;have HB2:=Q3 (XF HB1.out hb2);have hown1':=Qak;go_wp2_with (at_builtin;refine Zm _ slB rfl (.tmp 20) (.tmp 23) rfl (w.heap.size+1) A1 (num d.k).length c1 (bv (num d.k)) rfl hown1' _ A2 (YB d.bs).length c2 (bv (YB d.bs)) rfl (Rd.of_own hown2) (Vj _) Q2 Q2 HB2.out Q2 ?_;intro A3 c3 w3 hown3 _ hb3)
 exact QlC
def Q9q(w W1:World)(pre:List UInt8)(p:VF)(rc:Bool)(ns:List (List UInt8))(out k:Value)(wr:World):Prop:=
 ∃(i:Nat) (A:Option Addr) (c:Nat),i<=p.len/\k=.int .i64 (i:Int)/\out=.slice A (pre++Zf (p.take i) rc ns).length c/\
  wr.ownsRow W1.heap.size 5 1 (.slice A (pre++Zf (p.take i) rc ns).length c) (pre++Zf (p.take i) rc ns).length (bv (pre++Zf (p.take i) rc ns))/\Below W1.heap.size W1 wr
theorem Qly{r F:VF}(h:VF.All QmA (F.drop i))(hd:F.drop i=.cons d p r)(hf:ZV (F.drop i))(hg:Ki (F.drop i))(hl:(Zv d p).length<=1099511627776):∀(w:World) (v:Value),VIn w w.heap.size v d p->
  Calls Tryz.prog 102 #[v] w (KF w (Zv d p)):=by
 rw[hd] at h hf hg;exact h.1 hf.1 hf.2.2.1 hf.2.1 hg.1 hg.2.1 hl
theorem Q97{w3:World}{nk nnp:List UInt8}(h:w3.ownsRow W1.heap.size 5 1 (.slice A (nk.length+nnp.length) c) (nk.length+nnp.length) (bv nk++bv nnp))(hb:Below W1.heap.size W1 w3):
  Q9q w W1 (nk++nnp) p rc ns (.slice A (nk.length+nnp.length) c) (.int .i64 0) w3:=by
 have e:nk++nnp++Zf (p.take 0) rc ns=nk++nnp:=by rw[VF.take_zero];simp [Zf]
 refine⟨0,A,c,Nat.zero_le _,rfl,?_,?_,hb⟩
 ·rw[e,List.length_append]
 ·rw[e,List.length_append,KU];exact h
theorem Qb9{w4:World}{pre add:List UInt8}{n:Nat}{xs:List Value}(hi:i<p.len)(hadd:Zf (p.take (i+1)) rc ns=Zf (p.take i) rc ns++add)(h:w4.ownsRow W1.heap.size 5 1 (.slice A n c) n xs)(hx:xs=bv (pre++Zf (p.take i) rc ns)++bv add)(hn:n=(pre++Zf (p.take i) rc ns).length+add.length)(hb:Below W1.heap.size W1 w4):
  Q9q w W1 pre p rc ns (.slice A n c) (.int .i64 ((i:Int)+1)) w4:=by
 subst hx hn;have e:pre++Zf (p.take (i+1)) rc ns=(pre++Zf (p.take i) rc ns)++add:=by rw[hadd,List.append_assoc]
 refine⟨i+1,A,c,hi,by go_num,?_,?_,hb⟩
 ·rw[e];simp only[List.length_append]
 ·rw[e,List.length_append,KU];exact h
theorem Qqh(F:VF)(ns:List (List UInt8))(i:Nat)(d:Nd)(p r:VF)(h:F.drop i=.cons d p r):Zf (F.take (i+1)) false ns=Zf (F.take i) false ns++Zv d p:=by
 rw[Q3E F false ns i d p r h];simp
theorem QjN(F:VF)(ns:List (List UInt8))(i:Nat)(d:Nd)(p r:VF)(s:List UInt8)(h:F.drop i=.cons d p r)(hs:ns[i]? =some s):Zf (F.take (i+1)) true ns=Zf (F.take i) true ns++(YB s++Zv d p):=by
 rw[Q3E F true ns i d p r h];have:(ns.drop i).headD []=s:=by
  have e:(ns.drop i)[0]? =some s:=by rw[List.getElem?_drop];simpa using hs
  cases hd:ns.drop i with
  |nil=>rw[hd] at e;simp at e
  |cons x l=>rw[hd] at e;simp at e;simp [e]
 rw[this];simp
theorem QcW(hall:VF.All QmA p)(hv:VIn w w.heap.size v d p)(hf:J5 d)(hfp:ZV p)(hgp:Ki p)(hpl:p.len<=1048576)(hk:d.k=3)(hlen:(Zv d p).length<=1099511627776):Calls Tryz.prog 102 #[v] w (KF w (Zv d p)):=by
 have he:=Q7b (d:=d) (p:=p) Q2 Q2;have hrc:(d.k==4)=false:=by simp [hk]
 rw[hrc] at he;rw[he] at hlen;have HRC:=Q3 hrc;obtain⟨sb,sn,sp,rfl,Ab,nb,cb,An,nn,cn,Ap,cp,rfl,rfl,rfl,hbc,hnc,hpc,hpm,hrb,hrn,hp⟩:=hv;obtain⟨⟨h1,h2,h3,h4⟩,_⟩:=hf;have hl1:=Ji d.k h1 h2;have hl2:=Ji (p.len:Int) Q2 Q2;have hk1:(d.k==1)=false:=by simp [hk]
 have hk2:(d.k==2)=false:=by simp [hk]
 have HP:=Q3 hp;have HFP:=Q3 hfp;have HGP:=Q3 hgp;have HALL:=Q3 hall;simp only[List.length_append] at hlen;obtain⟨np,hnp⟩:∃np,p.len=np:=⟨_,rfl⟩;have HNP:=Q3 hnp;rw[hnp] at hpl hpc hl2 hlen he ⊢;have HE:=Q3 he;clear he;clear hrb hrn hp hk hfp hgp hall hnp;go_enter Tryz.func102,Tryz.ntmps102;go_wp2_with fail
 refine(Zn d.k _ h1 h2).mono ?_;rintro e w1 ⟨A1,c1,rfl,hown1,hb1⟩;have hz1:=hb1.size;have q0:w1.cell? ⟨w.heap.size,0,none⟩=some (.int .i64 d.k):=Q4F;have q4:w1.cell? ⟨w.heap.size,4,none⟩=some (.slice Ap np cp):=Q4F;have HW1:=Q3 hb1;clear hb1;go_wp2_with fail
 refine(Zn (np:Int) _ Q2 Q2).mono ?_;rintro e w2 ⟨A2,c2,rfl,hown2,hb2⟩;have hz2:=hb2.size;have HB2:=Q3 (HW1.out.trans (hb2.mono hz1));have hown1':=Qak;obtain⟨W1,hW1⟩:∃W1,w.alloc (.cells #[.int .i64 d.k,.int .i64 d.n,.slice Ab nb cb,.slice An nn cn,.slice Ap np cp] 30)=W1:=⟨_,rfl⟩;have hW1z:W1.heap.size=w.heap.size+1:=by rw[<- hW1];simp
 have HWB:=Qnt;rw[hW1] at hown1 hown1' hz1 HB2 HW1;have HBX:=Q3 (show W1.cell? Q0N=some (.int .i64 d.k)/\W1.cell? ⟨w.heap.size,4,none⟩=some (.slice Ap np cp) by rw[<- hW1];exact⟨by simp,by simp⟩);have HZ:=Q3 hW1z;clear hW1 hb2;generalize num d.k=nk at*
 generalize num (np:Int)=nnp at*
 have hzle:w.heap.size<W1.heap.size:=by omega
 clear hW1z;go_wp2_with (at_builtin;refine Zm _ slB rfl (.tmp 25) (.tmp 29) rfl W1.heap.size A1 nk.length c1 (bv nk) rfl hown1' _ A2 nnp.length c2 (bv nnp) rfl (Rd.of_own hown2) (Vj _) Q2 Q2 HB2.out Q2 ?_;intro A3 c3 w3 hown3 _ hb3;have q40:=(hb3.cell (p:=⟨w.heap.size,4,none⟩) (by exact hzle)).trans HBX.out.2)
 go_loopw [3,34] (Q9q w W1 (nk++nnp) p false d.ns) (fun _ k _=>np - (intOf k).toNat)
 case atStart=>exact Q97 hown3 hb3
 case round=>
  clear hown3 hb3 q40 hown1 hown1' hown2 q0 q4 HB2 HW1 hz1 hz2;obtain⟨i,A,c,hi,rfl,rfl,hown,hbw⟩:=hrel;rw[HNP.out] at hi;have HBW:=Q3 hbw;have HWR:=Qni;have hzw:=hbw.size;have r0:wr.cell? ⟨w.heap.size,0,none⟩=some (.int .i64 d.k):=(hbw.cell (by exact hzle)).trans HBX.out.1;clear hbw;by_cases hlt:i<np
  ·obtain⟨b,o,hAp,hb,hfin⟩:=HP.out Qbx
   subst hAp;obtain⟨d',p',hdr⟩:=VF.drop_cons (F:=p) (i:=i) Qd1;have hl':(Zv d' p').length<=1099511627776:=Nat.le_trans (Q8c (rc:=false) (ns:=d.ns) hdr) Q2;have hlacc:=Q0l (F:=p) (rc:=false) (ns:=d.ns) (i:=i);have hlacc2:=Q0l (F:=p) (rc:=false) (ns:=d.ns) (i:=i+1);obtain⟨sb',sn',sp',⟨k0,k1,k2,k3,k4⟩,hd'⟩:=hfin.at_ hdr;have HV':Hid (VIn w w.heap.size (.agg #[.int .i64 d'.k,.int .i64 d'.n,sb',sn',sp']) d' p'):=Qf9;obtain⟨Ab',nb',cb',An',nn',cn',Ap',cp',rfl,rfl,rfl,_⟩:=hd';have q0:=(HWR.out.cell Vb).trans k0;have q1:=(HWR.out.cell Vb).trans k1;have q2:=(HWR.out.cell Vb).trans k2;have q3:=(HWR.out.cell Vb).trans k3;have q4:=(HWR.out.cell Vb).trans k4;clear k0 k1 k2 k3 k4 hfin;have HCT:=QqR;have HADD:=Q3 (Qqh p d.ns i d' p' _ hdr);clear hdr;have hrc':=HRC.out;have hzlt:w.heap.size<wr.heap.size:=by omega
   have r0':∀ob,(wr.alloc ob).cell? ⟨w.heap.size,0,none⟩=some (.int .i64 d.k):=fun ob=>Ql r0;have hli:(i:Int)<(np:Int):=by omega
   have h0:(0:Int)<=(i:Int):=by omega
   obtain⟨acc,hacc⟩:∃acc,nk++nnp++Zf (p.take i) false d.ns=acc:=⟨_,rfl⟩;have HACC:=Q3 hacc;have hal:acc.length=nk.length+nnp.length+(Zf (p.take i) false d.ns).length:=by rw[<- hacc];simp;omega
   rw[hacc] at hown ⊢;have hal':acc.length<=1099511627776:=by omega
   clear hacc hal;go_wp2_with fail
   refine(HCT.out _ _ ((HV'.out.below HWR.out XU).keep (fun q hq=>(YR _ _).cell Q2) ZR)).mono ?_;rintro e w4 ⟨A4,c4,rfl,hown4,hb4⟩;have hz4:=hb4.size;have HB4:=Q3 (show Below W1.heap.size W1 w4 from HBW.out.trans ((XF (YR wr _) hb4).mono hzw));have hown':=Kj (Kj hown (YR wr _) XU) hb4 ZR;clear hb4;go_wp2_with (at_builtin;refine Zm _ slB rfl (.tmp 51) (.tmp 53) rfl W1.heap.size A acc.length c (bv acc) rfl hown' _ A4 (Zv d' p').length c4 (bv (Zv d' p')) rfl (Rd.of_own hown4) (Vj _) Q2 (by have:=HB4.out.size;omega) HB4.out (Nat.le_refl _) ?_;intro A5 c5 w5 hown5 _ hb5)
   exact⟨Qb9 Qd1 HADD.out hown5 (by rw[HACC.out]) (by rw[HACC.out]) hb5,by simp [intOf];omega⟩
  ·have HAL:=Q3 (show p.take i=p from VF.take_all Qbx)
   go_wp2_with fail
   go_ret;rw[HE.out];refine KF.as (Q2z hown Q2) rfl ?_ HWR.out;rw[HAL.out,List.append_assoc]
end
section
variable {d:Nd}{p:VF}{v:Value}{w:World}
theorem Qjp{wr w6 w7:World}{base e s n:Nat}{xs:List Value}(hg:w6.grownBy w7 v.ownBlock)(hown:wr.ownsRow base e s v n xs)(hz:wr.heap.size<w6.heap.size):∀o,w7.cell? ⟨wr.heap.size,o,none⟩=w6.cell? ⟨wr.heap.size,o,none⟩:=by
 intro o;have h:=hg.block wr.heap.size hz (fun e=>by have:=(hown.lt _ e.symm).2;omega);simp only[World.cell?,h]
theorem QdV(hall:VF.All QmA p)(hv:VIn w w.heap.size v d p)(hf:J5 d)(hfp:ZV p)(hgp:Ki p)(hpl:p.len<=1048576)(hk:d.k=4)(hnl:d.ns.length=p.len)(hlen:(Zv d p).length<=1099511627776):Calls Tryz.prog 102 #[v] w (KF w (Zv d p)):=by
 have he:=Q7b (d:=d) (p:=p) Q2 Q2;have hrc:(d.k==4)=true:=by simp [hk]
 rw[hrc] at he;rw[he] at hlen;have HRC:=Q3 hrc;obtain⟨sb,sn,sp,rfl,Ab,nb,cb,An,nn,cn,Ap,cp,rfl,rfl,rfl,hbc,hnc,hpc,hpm,hrb,hrn,hp⟩:=hv;obtain⟨⟨h1,h2,h3,h4⟩,_,_,hf4⟩:=hf;have hl1:=Ji d.k h1 h2;have hl2:=Ji (p.len:Int) Q2 Q2;have hk1:(d.k==1)=false:=by simp [hk]
 have hk2:(d.k==2)=false:=by simp [hk]
 have HRN:=Q3 hrn;have hnn:nn=p.len:=by have:=hrn.len;rw[Z8] at this;omega
 have HP:=Q3 hp;have HFP:=Q3 hfp;have HGP:=Q3 hgp;have HALL:=Q3 hall;simp only[List.length_append] at hlen;obtain⟨np,hnp⟩:∃np,p.len=np:=⟨_,rfl⟩;have HNP:=Q3 hnp;rw[hnp] at hpl hpc hl2 hlen he hnl hnn ⊢;have HE:=Q3 he;clear he;have HNS:=Q3 hf4;clear hrb hrn hp hk hfp hgp hall hnp hf4;have hnn1:nn<=np:=by omega
 have hnn2:np<=nn:=by omega
 clear hnn hnl;go_enter Tryz.func102,Tryz.ntmps102;go_wp2_with fail
 refine(Zn d.k _ h1 h2).mono ?_;rintro e w1 ⟨A1,c1,rfl,hown1,hb1⟩;have hz1:=hb1.size;have q0:w1.cell? ⟨w.heap.size,0,none⟩=some (.int .i64 d.k):=Q4F;have q4:w1.cell? ⟨w.heap.size,4,none⟩=some (.slice Ap np cp):=Q4F;have HW1:=Q3 hb1;clear hb1;go_wp2_with fail
 refine(Zn (np:Int) _ Q2 Q2).mono ?_;rintro e w2 ⟨A2,c2,rfl,hown2,hb2⟩;have hz2:=hb2.size;have HB2:=Q3 (HW1.out.trans (hb2.mono hz1));have hown1':=Qak;obtain⟨W1,hW1⟩:∃W1,w.alloc (.cells #[.int .i64 d.k,.int .i64 d.n,.slice Ab nb cb,.slice An nn cn,.slice Ap np cp] 30)=W1:=⟨_,rfl⟩;have hW1z:W1.heap.size=w.heap.size+1:=by rw[<- hW1];simp
 have HWB:=Qnt;rw[hW1] at hown1 hown1' hz1 HB2 HW1;have HBX:=Q3 (show W1.cell? Q0N=some (.int .i64 d.k)/\W1.cell? ⟨w.heap.size,4,none⟩=some (.slice Ap np cp)/\W1.cell? ⟨w.heap.size,3,none⟩=some (.slice An nn cn) by rw[<- hW1];exact⟨by simp,by simp,by simp⟩);have HZ:=Q3 hW1z;clear hW1 hb2;generalize num d.k=nk at*
 generalize num (np:Int)=nnp at*
 have hzle:w.heap.size<W1.heap.size:=by omega
 clear hW1z;go_wp2_with (at_builtin;refine Zm _ slB rfl (.tmp 25) (.tmp 29) rfl W1.heap.size A1 nk.length c1 (bv nk) rfl hown1' _ A2 nnp.length c2 (bv nnp) rfl (Rd.of_own hown2) (Vj _) Q2 Q2 HB2.out Q2 ?_;intro A3 c3 w3 hown3 _ hb3;have q40:=(hb3.cell (p:=⟨w.heap.size,4,none⟩) (by exact hzle)).trans HBX.out.2.1)
 go_loopw [3,34] (Q9q w W1 (nk++nnp) p true d.ns) (fun _ k _=>np - (intOf k).toNat)
 case atStart=>exact Q97 hown3 hb3
 case round=>
  clear hown3 hb3 q40 hown1 hown1' hown2 q0 q4 HB2 HW1 hz1 hz2;obtain⟨i,A,c,hi,rfl,rfl,hown,hbw⟩:=hrel;rw[HNP.out] at hi;have HBW:=Q3 hbw;have HWR:=Qni;have hzw:=hbw.size;have r0:wr.cell? ⟨w.heap.size,0,none⟩=some (.int .i64 d.k):=(hbw.cell (by exact hzle)).trans HBX.out.1;clear hbw;by_cases hlt:i<np
  ·obtain⟨b,o,hAp,hb,hfin⟩:=HP.out Qbx
   subst hAp;obtain⟨d',p',hdr⟩:=VF.drop_cons (F:=p) (i:=i) Qd1;have hl':(Zv d' p').length<=1099511627776:=Nat.le_trans (Q8c (rc:=true) (ns:=d.ns) hdr) Q2;have hlacc:=Q0l (F:=p) (rc:=true) (ns:=d.ns) (i:=i);have hlacc2:=Q0l (F:=p) (rc:=true) (ns:=d.ns) (i:=i+1);obtain⟨sb',sn',sp',⟨k0,k1,k2,k3,k4⟩,hd'⟩:=hfin.at_ hdr;have HV':Hid (VIn w w.heap.size (.agg #[.int .i64 d'.k,.int .i64 d'.n,sb',sn',sp']) d' p'):=Qf9;obtain⟨Ab',nb',cb',An',nn',cn',Ap',cp',rfl,rfl,rfl,_⟩:=hd';have q0:=(HWR.out.cell Vb).trans k0;have q1:=(HWR.out.cell Vb).trans k1;have q2:=(HWR.out.cell Vb).trans k2;have q3:=(HWR.out.cell Vb).trans k3;have q4:=(HWR.out.cell Vb).trans k4;clear k0 k1 k2 k3 k4 hfin;have HCT:=QqR;have hni:i<nn:=by omega
   obtain⟨bn,on,s,hAn,hbn,hsn,hcn⟩:=KZ HRN.out hni;subst hAn;have HADD:=Q3 (QjN p d.ns i d' p' _ _ hdr hsn);have hsl:s.size<=1048576:=by simpa using HNS.out _ (List.mem_of_getElem? hsn)
   have hchl:(YB s.data.toList).length<=1048586:=by
    have h1:=Q3Z s.data.toList (by simpa using (show s.size<=140737488355318 by omega));have h2:s.data.toList.length=s.size:=by simp
    omega
   rw[HADD.out] at hlacc2;simp only[List.length_append] at hlacc2;have s3:wr.cell? ⟨w.heap.size,3,none⟩=some (.slice (some ⟨bn,on,none⟩) nn cn):=(HBW.out.cell (by exact hzle)).trans HBX.out.2.2;have sc:wr.cell? ⟨bn,on+i,none⟩=some (.string s):=(HWR.out.cell (by exact hbn)).trans hcn;have hni':(i:Int)<(nn:Int):=by omega
   have hcv:=Qj3 s;have s3':∀ob,(wr.alloc ob).cell? ⟨w.heap.size,3,none⟩=some (.slice (some ⟨bn,on,none⟩) nn cn):=fun ob=>Ql s3;have sc':∀ob,(wr.alloc ob).cell? ⟨bn,on+i,none⟩=some (.string s):=fun ob=>Ql sc;clear hsn hcn;clear hdr;have hrc':=HRC.out;have hzlt:w.heap.size<wr.heap.size:=by omega
   have r0':∀ob,(wr.alloc ob).cell? ⟨w.heap.size,0,none⟩=some (.int .i64 d.k):=fun ob=>Ql r0;have hli:(i:Int)<(np:Int):=by omega
   have h0:(0:Int)<=(i:Int):=by omega
   obtain⟨acc,hacc⟩:∃acc,nk++nnp++Zf (p.take i) true d.ns=acc:=⟨_,rfl⟩;have HACC:=Q3 hacc;have hal:acc.length=nk.length+nnp.length+(Zf (p.take i) true d.ns).length:=by rw[<- hacc];simp;omega
   rw[hacc] at hown ⊢;have hal':acc.length<=1099511627776:=by omega
   clear hacc hal;go_wp2_with fail
   have hb5:=Qaa (wr.alloc (.cells #[.int .i64 d'.k,.int .i64 d'.n,.slice Ab' nb' cb',.slice An' nn' cn',.slice Ap' p'.len cp'] 30)) s;have hz5:=hb5.size;refine(Q4C (bs:=s.data.toList) (QiJ _ _ _ Xk) Q2).mono ?_;rintro e w6 ⟨A6,c6,rfl,hown6,hb6⟩;have hz6:=hb6.size;have HB6:=Q3 (show Below wr.heap.size wr w6 from XF (XF (YR _ _) hb5) hb6);have hz66:=HB6.out.size
   have HX:=(show YT w6 wr.heap.size 0 d' (.slice Ab' nb' cb') (.slice An' nn' cn') (.slice Ap' p'.len cp') from by
    have hk:∀o,w6.cell? ⟨wr.heap.size,o,none⟩=(wr.alloc (.cells #[.int .i64 d'.k,.int .i64 d'.n,.slice Ab' nb' cb',.slice An' nn' cn',.slice Ap' p'.len cp'] 30)).cell? ⟨wr.heap.size,o,none⟩:=fun o=>(XF hb5 hb6).cell Qn
    exact⟨(hk 0).trans Qn,(hk 1).trans Qn,(hk 2).trans Qn,(hk 3).trans Qn,(hk 4).trans Qn⟩)
   have hown':=Kj hown HB6.out XU;have hzx:wr.heap.size<w6.heap.size:=by simp only[QL] at hz5;omega
   clear hcv hb5 hb6;generalize YB s.data.toList=ch at*
   obtain⟨x0,x1,x2,x3,x4⟩:=HX;go_wp2_with (at_builtin;refine QbM _ slB rfl (.tmp 42) (.tmp 49) rfl W1.heap.size A acc.length c (bv acc) rfl hown' _ A6 ch.length c6 (bv ch) rfl (Rd.of_own hown6) (Vj _) Q2 Q2 ?_;intro A7 c7 w7 hown7 hg7 hb7;have hx7:=Qjp hg7 hown hzx;have y0:=(hx7 0).trans x0;have y1:=(hx7 1).trans x1;have y2:=(hx7 2).trans x2;have y3:=(hx7 3).trans x3;have y4:=(hx7 4).trans x4;clear hx7)
   have HB7:=Q3 (show Below W1.heap.size W1 w7 from HBW.out.trans ((HB6.out.mono hzw).trans hb7));have HW7:=Q3 (show Below w.heap.size w w7 from XF HWB.out HB7.out);have hz7:=HB7.out.size;refine(HCT.out _ _ (HV'.out.on HW7.out)).mono ?_;rintro e w4 ⟨A4,c4,rfl,hown4,hb4⟩;have hz4:=hb4.size;have HB4:=Q3 (show Below W1.heap.size W1 w4 from HB7.out.trans (hb4.mono hz7));have hown8:=Kj hown7 hb4 XU;clear hb4;go_wp2_with (at_builtin;refine Zm _ slB rfl (.tmp 51) (.tmp 53) rfl W1.heap.size A7 (acc.length+ch.length) c7 (bv acc++bv ch) rfl hown8 _ A4 (Zv d' p').length c4 (bv (Zv d' p')) rfl (Rd.of_own hown4) (Vj _) Q2 (by have:=HB4.out.size;omega) HB4.out (Nat.le_refl _) ?_;intro A5 c5 w5 hown5 _ hb5)
   exact⟨Qb9 Qd1 HADD.out hown5 (by rw[HACC.out,KU,List.append_assoc]) (by rw[HACC.out,List.length_append];omega) hb5,by simp [intOf];omega⟩
  ·have HAL:=Q3 (show p.take i=p from VF.take_all Qbx)
   go_wp2_with fail
   go_ret;rw[HE.out];refine KF.as (Q2z hown Q2) rfl ?_ HWR.out;rw[HAL.out,List.append_assoc]
theorem QcD(d:Nd)(p:VF)(hall:VF.All QmA p):QmA d p:=by
 intro hf hfp hpl hc hg hlen w v hv;obtain⟨⟨k1,k4⟩,_,_,_,_,hnl,_⟩:=QeW hc;by_cases h1:d.k=1
 ·exact QfX hv hf h1
 ·by_cases h2:d.k=2
  ·exact QaE hv hf h2
  ·by_cases h3:d.k=3
   ·exact QcW hall hv hf hfp hg hpl h3 hlen
   ·exact QdV hall hv hf hfp hg hpl Q2 (hnl Q2) hlen
theorem QaD(hf:J5 d)(hfp:ZV p)(hpl:p.len<=1048576)(hc:Xu d p.len=0)(hg:Ki p)(hlen:(Zv d p).length<=1099511627776)(hv:VIn w w.heap.size v d p):
  Calls Tryz.prog 102 #[v] w (KF w (Zv d p)):=VF.all_each QcD d p hf hfp hpl hc hg hlen w v hv
end
section
variable {d:Nd}{m:Nat}{p:VF}{v:Value}{w:World}
def ZX(d:Nd)(p:VF):Int×Int:=match XY (.cons d p .nil) 0 1 with|.inl f=>f|.inr _=>if 4000<(Zv d p).length then (14,-1) else (0,0)
theorem Qdi{f:Int×Int}(h:XY (.cons d p .nil) 0 1=.inl f):ZX d p=f:=by unfold ZX;rw[h]
theorem QnQ(h:XY (.cons d p .nil) 0 1=.inr m)(hl:4000<(Zv d p).length):ZX d p=(14,-1):=by unfold ZX;rw[h];simp only;rw[if_pos hl]
theorem QpJ(h:XY (.cons d p .nil) 0 1=.inr m)(hl:¬4000<(Zv d p).length):ZX d p=(0,0):=by unfold ZX;rw[h];simp only;rw[if_neg hl]
structure Mod(d:Nd)(p:VF):Prop where
 nd:J5 d
 fp:ZV p
 pl:p.len<=1048576
 el:(Zv d p).length<=1099511627776
theorem QhW{base g o:Nat}{e s n:Nat}{x:Value}{xs:List Value}(h:w.ownsRow base e s v n xs)(hg:g<base):(w.setCell ⟨g,o,none⟩ x).ownsRow base e s v n xs:=by
 refine⟨h.1,?_⟩;rcases h.2 with hn|⟨k,cap,cur,hv,hk,hh,r⟩
 ·exact .inl hn
 ·refine .inr ⟨k,cap,cur,hv,hk,?_,r⟩
  rw[Below.heap_setCell _ _ _ _ (by simp only;omega)];exact hh
def QrU(w:World)(d:Nd)(p:VF)(e:Ending)(w':World):Prop:=
 Below w.heap.size w w'/\((∃c i,c≠0/\ZX d p=(c,i)/\e=.returned (.tuple #[.slice none 0 0,.agg #[.int .i64 c,.int .i64 i]]))\/
  (∃A c m,XY (.cons d p .nil) 0 1=.inr m/\ZX d p=(0,0)/\(Zv d p).length<=4000/\e=.returned (.tuple #[.slice A (Zv d p).length c,.agg #[.int .i64 0,.int .i64 0]])/\w'.ownsRow w.heap.size 5 1 (.slice A (Zv d p).length c) (Zv d p).length (bv (Zv d p))))
theorem Q7D(hm:Mod d p)(hv:VIn w w.heap.size v d p):Calls Tryz.prog 69 #[v] w (QrU w d p):=by
 have HV:=Q3 hv;have HM:=Q3 hm;obtain⟨sb,sn,sp,rfl,Ab,nb,cb,An,nn,cn,Ap,cp,rfl,rfl,rfl,hbc,hnc,hpc,hpm,hrb,hrn,hp⟩:=hv;clear hrb hrn hp hm;go_enter Tryz.func69,Tryz.ntmps69;go_wp2_with fail
 refine(Q3n (num:=0) (lev:=1) HM.out.nd HM.out.fp HM.out.pl Q86 Q2 Q2).mono ?_;rintro e w2 ⟨hb2,hres⟩;have F1:=Q93;simp only[QL] at F1
 have HBX:=Q3 (show YT w2 w.heap.size 0 d (.slice Ab nb cb) (.slice An nn cn) (.slice Ap p.len cp) from by
  have hk:∀o,w2.cell? ⟨w.heap.size,o,none⟩=_:=fun o=>hb2.cell ZR
  exact ⟨(hk 0).trans (Ql Qn),(hk 1).trans (Ql Qn),(hk 2).trans (Ql Qn),(hk 3).trans (Ql Qn),(hk 4).trans (Ql Qn)⟩)
 have HB2:=Q94;have HF1:=Q3 F1;have hz2:w.heap.size+1<w2.heap.size:=F1.1;clear hb2 F1;rcases hres with ⟨c,ix,hr,rfl⟩|⟨m,hr,rfl⟩
 ·have hc:=K6 _ _ _ _ _ hr
  have hc0:(c==0)=false:=by simpa using hc
  have hneq:=Q3B c ix 0 0;have HF:=Q3 (Qdi hr);have HC:=Q3 hc;have P2:=QlO;have P1:=FC.new w2 c ix;have PB:=QnY;clear hr hc;go_wp2_with fail
  obtain⟨W4,hW4⟩:∃W4,w2.alloc (.cells #[.int .i64 c,.int .i64 ix] 32)=W4:=⟨_,rfl⟩;rw[hW4] at P1 P2 PB ⊢;have HPB:=Q3 PB;clear hW4 PB;obtain⟨z3,a0,a1,g0,g1⟩:=P1;obtain⟨z4,r0,r1,e0,e1⟩:=P2;go_region
  go_wp2_with fail
  refine QmN ?_;exact Qlw
 ·have hneq:=Q3B 0 0 0 0
  have hg:=Q7Q _ _ _ _ hr;have HR:=Q3 hr;obtain⟨x0,x1,x2,x3,x4⟩:=HBX.out;simp only[Nat.zero_add] at x1 x2 x3 x4;have y0:=fun ob=>Ql (o:=ob) x0;have y1:=fun ob=>Ql (o:=ob) x1;have y2:=fun ob=>Ql (o:=ob) x2;have y3:=fun ob=>Ql (o:=ob) x3;have y4:=fun ob=>Ql (o:=ob) x4;clear hr;go_wp2_with fail
  refine(QaD HM.out.nd HM.out.fp HM.out.pl hg.1 hg.2.1 HM.out.el (HV.out.on (Q48 HB2.out _))).mono ?_;rintro e w3 ⟨A3,c3,rfl,hown3,hb3⟩;have HB3:=Q3 (show Below w.heap.size w w3 from XF (Q48 HB2.out _) hb3);have HR3:=Q3 ((HF1.out.alloc (.cells #[.int .i64 0,.int .i64 0] 32)).on hb3);have HOWN:=Q3 hown3;obtain⟨z4,r0,r1,e0,e1⟩:=HR3.out;have hel:=HM.out.el;clear hb3 hown3 x0 x1 x2 x3 x4 y0 y1 y2 y3 y4;by_cases hbig:4000<(Zv d p).length
  ·have HF:=Q3 (QnQ HR.out hbig)
   have hbig':(4000:Int)<((Zv d p).length:Int):=by omega
   go_wp2_with (go_at_call 103;refine(V1 _ _ _).mono ?_;rintro e w' ⟨rfl,rfl⟩)
   refine bodyPost_ret (v:=.tuple #[.slice none 0 0,.agg #[.int .i64 14,.int .i64 (-1)]]) Qlr rfl ?_;exact⟨Q48 (Jb HB3.out Q2 _ _) _,.inl ⟨14,-1,by decide,HF.out,rfl⟩⟩
  ·have HF:=Q3 (QpJ HR.out hbig)
   have hbig':¬(4000:Int)<((Zv d p).length:Int):=by omega
   go_wp2_with fail
   refine bodyPost_ret (v:=.tuple #[.slice A3 (Zv d p).length c3,.agg #[.int .i64 0,.int .i64 0]]) Qlr rfl ?_;refine⟨Jb HB3.out Q2 _ _,.inr ⟨A3,c3,m,HR.out,HF.out,by omega,rfl,?_⟩⟩;exact Q2z (QhW (QhW HOWN.out ZR) ZR) ZR
theorem Q6x(hm:Mod d p)(hv:VIn w w.heap.size v d p):Calls Tryz.prog 34 #[v] w fun e w'=>e=.returned (.agg #[.int .i64 (ZX d p).1,.int .i64 (ZX d p).2])/\Below w.heap.size w w':=by
 have HV:=Q3 hv;have HM:=Q3 hm;obtain⟨sb,sn,sp,rfl,Ab,nb,cb,An,nn,cn,Ap,cp,rfl,rfl,rfl,hbc,hnc,hpc,hpm,hrb,hrn,hp⟩:=hv;clear hrb hrn hp hm;go_enter Tryz.func34,Tryz.ntmps34;go_wp2_with fail
 refine(Q7D HM.out Q86).mono ?_;rintro e w2 ⟨hb2,hres⟩;have F1:=Q93;simp only[QL] at F1;have HB2:=Q94;have HF1:=Q3 F1;have hz2:w.heap.size+1<w2.heap.size:=F1.1;clear hb2 F1;obtain⟨A,n,c,cd,ix,he,hf⟩:∃A n c cd ix,e=.returned (.tuple #[.slice A n c,.agg #[.int .i64 cd,.int .i64 ix]])/\ZX d p=(cd,ix):=by
  rcases hres with ⟨c,i,_,h,he⟩|⟨A,c,m,_,h,_,he,_⟩
  ·exact QaU
  ·exact QaU
 subst he;have HF:=Q3 hf;clear hf hres;obtain⟨z4,r0,r1,e0,e1⟩:=HF1.out;go_wp2_with fail
 refine Qjz ?_;exact QnA
end
theorem Q9B:∀{F:VF},Ki F->Q33 F
 |.nil,_=>trivial
 |.cons d p r,h=>⟨h.1,Q9B h.2.1,Q9B h.2.2⟩
def Q00(F:List Rl)(D:List UInt8):Nat:=(D.length+1)*(F.length+1)
theorem QaC{F:List Rl}{D:List UInt8}:Q1u F D 0 0<=Q00 F D:=by
 unfold Q1u Q00;have:=Qcy F (0:Int).toNat;rw[Nat.sub_zero,Nat.succ_mul];omega
abbrev ndZ:Nd:=⟨0,0,[],[]⟩
def Vd(F:List Rl)(D:List UInt8):(Nd×VF)×(Int×Int):=
 if Qz F≠(0,0) then ((ndZ,.nil),Qz F)
 else if 1000<D.length then ((ndZ,.nil),(3,-2))
 else match QA F D (Q00 F D) 0 0 with
  |none=>((ndZ,.nil),(1,0))
  |some (.error e)=>((ndZ,.nil),(1,(e:Int)))
  |some (.ok y)=>if y.2.2<D.length then ((ndZ,.nil),(1,(y.2.2:Int))) else if ZX y.1 y.2.1≠(0,0) then ((ndZ,.nil),(14,-2)) else ((y.1,y.2.1),(0,0))
def Kx(F:List Rl)(d:Nd)(l:VF):List UInt8×(Int×Int):=
 if Qz F≠(0,0) then ([],Qz F)
 else if ZX d l≠(0,0) then ([],ZX d l)
 else match XR F (.cons d l .nil) [([],some 0)] [] 0 with
  |.error e=>([],(13,(e:Int)))
  |.ok (b,_)=>if 1000<b.length then ([],(14,-2)) else (b,(0,0))
section
variable {F:List Rl}{D:List UInt8}{d:Nd}{l:VF}
theorem Q0R(h:Qz F=(0,0)):Fm F:=by
 refine Qu9 ?_;unfold Qz at h;split at h
 ·exact h
 ·next hc=>simpa using hc
theorem Qoy(h:(Xr F).1=0):Xr F=(0,0):=by
 unfold Xr at h ⊢;split at h
 ·exact Q6w
 split at h
 ·exact Q6w
 next h0 h1=>
 rw[if_neg h0,if_neg h1];cases e1:Xy F.length (fun k=>J8 F k != 0) with
 |some k=>
  rw[e1] at h;have:=(Q14 e1).2.1;simp only at h;rw[h] at this;cases this
 |none=>
  rw[e1] at h;simp only at h ⊢;cases e2:Xy F.length (fun k=>VW F k != 0) with
  |some k=>
   rw[e2] at h;have:=(Q14 e2).2.1;simp only at h;rw[h] at this;cases this
  |none=>
   rw[e2] at h;simp only at h ⊢;cases e3:Xy F.length (Q31 F) with
   |some k=>rw[e3] at h;exact Q6G
   |none=>
    rw[e3] at h;simp only at h ⊢;cases e4:Xy F.length (fun k=>!((Jg F).getD k false)) with
    |some k=>rw[e4] at h;exact Q6G
    |none=>
     rw[e4] at h;simp only at h ⊢;cases e5:Xy F.length (Jy F) with
     |some k=>rw[e5] at h;exact Q6G
     |none=>rfl
theorem QmG(h:(Qz F).1=0):Qz F=(0,0):=by
 unfold Qz at h ⊢;split at h
 ·next hc=>exact absurd (Qoy h) hc
 ·next hc=>
  rw[if_neg hc];split at h
  ·exact Q6w
  ·next hl=>rw[if_neg hl]
theorem QiH(h:ZX d l=(0,0)):Xu d l.len=0/\Q33 l:=by
 unfold ZX at h;split at h
 ·next f hf=>
  subst h;exact absurd rfl (K6 _ _ _ _ _ hf)
 ·next m hm=>
  have:=Q7Q _ _ _ _ hm;exact⟨this.1,Q9B this.2.1⟩
theorem Qil(hv:Fm F)(D:List UInt8):∃y,QA F D (Q00 F D) 0 0=some y:=Q26 hv.toVld _ Qkp JR QaC
theorem QcO(hv:Fm F){y:Nd×VF×Nat}(h:QA F D (Q00 F D) 0 0=some (.ok y)):0<y.2.2/\y.2.2<=D.length:=XH hv.toUsd _ Qkp 0 y JR h
theorem QgS(h:(Vd F D).2.1=0):Qz F=(0,0)/\D.length<=1000/\∃d l,Vd F D=((d,l),(0,0))/\QA F D (Q00 F D) 0 0=some (.ok (d,l,D.length))/\ZX d l=(0,0):=by
 unfold Vd at h ⊢;split at h
 ·next h0=>exact absurd (QmG h) h0
 next h0=>
 have h0:Qz F=(0,0):=by simpa using h0
 rw[if_neg (by simpa using h0)];split at h
 ·exact Q6w
 next h1=>
 refine⟨h0,by omega,?_⟩;rw[if_neg h1];split at h
 ·exact Q6w
 ·exact Q6G
 ·next y hy=>
  have hfar:=QcO (Q0R h0) hy;obtain⟨d,l,q⟩:=y;simp only at h hfar;split at h
  ·exact Q6G
  ·next hq=>
   have hq:q=D.length:=by omega
   subst hq;split at h
   ·exact Q6w
   ·next hval=>
    refine⟨d,l,?_,hy,by simpa using hval⟩;simp only;rw[if_neg Q2,if_neg hval]
theorem QiX(h:(Vd F D).2.1=0):(Q09 F).getD 0 0<=(D.length:Int)/\∃c,D[0]? =some c/\fir F 0 c=true:=by
 obtain⟨h0,_,d,l,he,hr,hval⟩:=QgS h;have hv:=Q0R h0;have hk:0<=(0:Int)/\(0:Int)<F.length:=Qkp;refine⟨?_,Q0s hv _ hk 0 _ JR hr⟩;have:=QeT hv hk JR hr;simpa using this
end
section
variable {D:List UInt8}{F:List Rl}{W:World}
structure Py where
 Ab:Option Addr
 nb:Nat
 cb:Nat
 An:Option Addr
 nn:Nat
 cn:Nat
 Ap:Option Addr
 np:Nat
 cp:Nat
 L:List Qf
abbrev Py.cells(y:Py)(d:Nd):List Value:=[.int .i64 d.k,.int .i64 d.n,.slice y.Ab y.nb y.cb,.slice y.An y.nn y.cn,.slice y.Ap y.np y.cp]
def QbX(F:List Rl)(D:List UInt8)(W:World)(e:Ending)(w':World):Prop:=∃y:Py,e=.returned (.tuple #[.agg (y.cells (Vd F D).1.1).toArray,.agg #[.int .i64 (Vd F D).2.1,.int .i64 (Vd F D).2.2]])/\XO y.L (.agg (y.cells (Vd F D).1.1).toArray) (Vd F D).1.1 (Vd F D).1.2/\New y.L W.heap.size w'/\Below W.heap.size W w'
theorem XO.zero:XO [] (.agg #[.int .i64 0,.int .i64 0,.slice none 0 0,.slice none 0 0,.slice none 0 0]) ndZ .nil:=
 ⟨_,_,_,rfl,fun w _=>⟨none,0,0,none,0,0,none,0,rfl,rfl,rfl,Nat.le_refl _,Nat.le_refl _,Nat.le_refl _,Nat.zero_le _,ZZ _ _ _,ZZ _ _ _,fun h=>absurd h (Nat.lt_irrefl 0)⟩⟩
theorem Q3t{w:World}{c x:Int}(h:Vd F D=((ndZ,.nil),(c,x)))(hb:Below W.heap.size W w):QbX F D W (.returned (.tuple #[.agg #[.int .i64 0,.int .i64 0,.slice none 0 0,.slice none 0 0,.slice none 0 0],.agg #[.int .i64 c,.int .i64 x]])) w:=
 ⟨⟨none,0,0,none,0,0,none,0,0,[]⟩,by rw[h],by rw[h];exact XO.zero,New.nil _ _,hb⟩
theorem Qhi{P:Program}{fn:Func}{R:Ending->World->Prop}{N:Nat}{M:List Nat}{E:Env}{O:List Qf}{e:Exit}(he:e=.normal\/e=.ret)(h:xE (bodyPost P fn R) N M W E O e):xE (bodyPostD P fn R) N M W E O e:=fun a w ha hw=>by
 have h:=h a w ha hw;rcases he with rfl|rfl
 ·obtain⟨hd,v,h1,h2⟩:=h
  exact QnM
 ·obtain⟨hd,v,h1,h2⟩:=h
  exact QnM
theorem QcP{A A2:Option Addr}{n c m c2:Nat}(hf:X3 W W.heap.size A n F)(hs:FSm F)(hc:n<=c)(hg:GV W)(hz:Qz F≠(0,0)):
  Calls Tryz.prog 11 #[.agg #[.slice A n c],.slice A2 m c2] W (QbX F D W):=by
 have HF:=Q3 hf;have HS:=Q3 hs;have HG:=Q3 hg;have HZ:=Q3 hz;obtain⟨⟨a,b⟩,hab⟩:∃p,Qz F=p:=⟨_,rfl⟩;have HAB:=Q3 hab;clear hf hs hg hz hab;go_enter_defers Tryz.func11,Tryz.ntmps11;refine Qy (M:=[]) (W:=W) (N:=49) (E:=[V6,QfD]) (O:=[]) ?_ mc3 Xs;refine yq<|yr ?_;refine yB fun b2=>?_;refine yA fun b4=>?_;refine yA fun b5=>?_;refine QjP ?_;refine Q4 Qqx ?_;refine yA fun b6=>?_;refine Q2Q ?_;have hne:(!(a==0&&b==0))=true:=by
  have h:=HZ.out;rw[HAB.out] at h;refine Q4r ?_;by_cases h0:a=0
  ·exact .inr fun h1=>h (by rw[h0,h1])
  ·exact .inl h0
 refine QvU ?_;refine Qi 0 rfl Q5 Zi QhL ?_;refine Qi 1 rfl Q5 Zi (zD 0) ?_;refine QB 2 Q5 rfl rfl QdB YH rfl (fun _ _=>?_);rw[Qq (by rfl)];refine QB 3 Q5 rfl rfl Yf YH rfl (fun _ _=>?_);rw[Qq (by rfl)];refine Xi ?_ Q5;refine yn<|yt<|yc ?_;refine Qhi (.inr rfl) (Z1 (.inr rfl) rfl Q4t YW (fun w hw=>?_));have e:Vd F D=((ndZ,.nil),(a,b)):=by unfold Vd;rw[if_pos HZ.out,HAB.out]
 exact Q3t e hw.k.below
end
theorem Qfo{F:List Rl}{D:List UInt8}{A A2:Option Addr}{n c m c2:Nat}{W:World}(hf:X3 W W.heap.size A n F)(hs:FSm F)(hc:n<=c)(hg:GV W)(hz:Qz F=(0,0))(hd:Rd W W.heap.size 1 A2 m (bv D))(hl:1000<D.length):
  Calls Tryz.prog 11 #[.agg #[.slice A n c],.slice A2 m c2] W (QbX F D W):=by
 have HF:=Q3 hf;have HS:=Q3 hs;have HG:=Q3 hg;have HZ:=Q3 hz;have hm:1000<(m:Int):=by have:=hd.len;rw[XD] at this;omega
 clear hf hs hg hz hd;go_enter_defers Tryz.func11,Tryz.ntmps11;refine Qy (M:=[]) (W:=W) (N:=49) (E:=[V6,QfD]) (O:=[]) ?_ mc3 Xs;refine yq<|yr ?_;refine yB fun b2=>?_;refine yA fun b4=>?_;refine yA fun b5=>?_;refine QjP ?_;refine Q4 QhX ?_;refine yA fun b6=>?_;refine Q2Q ?_;have hne:(!((0:Int)==0&&(0:Int)==0))=false:=rfl;refine QdD ?_;refine yl<|yn<|y0<|ys<|yn<|yq<|yq<|yr<|yo zM<|yo zL<|yo zgt<|yl<|yn<|y1<|yq<|yr ?_;refine Q4 QhL ?_;refine Q4 QhS ?_;refine yW 2 ?_;refine yW 1 ?_;refine yl<|yn<|yt<|yc ?_;refine Qhi (.inr rfl) (Z1 (.inr rfl) rfl Q4t YW (fun w hw=>?_));have e:Vd F D=((ndZ,.nil),(3,-2)):=by unfold Vd;rw[if_neg (by simp [HZ.out]),if_pos hl]
 exact Q3t e hw.k.below
section
variable {A:Option Addr}{W w:World}{bs:List UInt8}{c n:Nat}
theorem Rd.up{s:Nat}{xs:List Value}(h:Rd W W.heap.size s A n xs)(hb:Below W.heap.size W w):Rd w w.heap.size s A n xs:=(h.below hb).more hb.size
theorem VI{r:Rl}{sb sn sp:Value}{n:Int}:Calls Tryz.prog 108 #[.agg (ruC r sb sn sp).toArray,.int .i64 n] W fun e w'=>e=.returned (.bool (Vl r n))/\Below W.heap.size W w':=by
 obtain⟨name,kind,bs,size,big,mn,mx,stop,count,elem,names,parts⟩:=r;simp only[ruC];go_enter Tryz.func108,Tryz.ntmps108;refine Qy (M:=[]) (W:=W) (N:=15) (E:=[QvV,(1,.int .i64 n)]) (O:=[]) ?_ mc3 Xs;by_cases h1:mn<=n
 ·obtain⟨b,hb⟩:∃b,decide (n<=mx)=b:=⟨_,rfl⟩;refine Qa (Q6 ?_);refine yB fun b2=>?_;refine QdE ?_;refine QI (Qa (Q6 ?_));refine Q4 zM ?_;refine Qno ?_;refine Q4 zht ?_;refine QrD ?_;refine Qno ?_;refine Q4 (Q5D rfl rfl Q1 rfl rfl rfl Qx) ?_;refine Q4 zY ?_;refine QdE ?_;refine QI (Qu ?_);exact Qb mc4 rfl (.tmp rfl) (fun w hw=>⟨by unfold Vl;simp only;rw[decide_eq_true h1,hb];rfl,hw.k.below⟩)
 ·refine Qa (Q6 ?_);refine yB fun b2=>?_;refine QdE ?_;refine QI (Qa (Q6 ?_));refine Q4 zM ?_;refine Qno ?_;refine Q4 zhf ?_;refine Q4 zM ?_;refine Q4 zS ?_;refine Q4 zS ?_;refine Q4 zS ?_;refine Q4 zS ?_;refine Q4 zN ?_;refine QdE ?_;refine QI (Qu ?_);exact Qb mc4 rfl (.tmp rfl) (fun w hw=>⟨by unfold Vl;simp only;rw[decide_eq_false h1];rfl,hw.k.below⟩)
theorem Qda(s:ByteArray)(W:World):Calls Tryz.prog 112 #[.string s] W fun e w'=>e=.returned (.bool (s.data.toList==[]))/\Below W.heap.size W w':=by
 go_enter Tryz.func112,Tryz.ntmps112;refine Qy (M:=[]) (W:=W) (N:=5) (E:=[(0,.string s)]) (O:=[]) ?_ J1 Xs;refine Qa (Q6 ?_);refine QdE ?_;refine QI (Qa (Q6 ?_));refine Q4 zM ?_;refine Q4 QlY ?_;refine QdE ?_;refine QI (Qu ?_);exact Q50
theorem QvS{B i:Nat}(h:Rd w B 1 A n (bv bs))(hi:i<n):∃b o c,A=some ⟨b,o,none⟩/\b<B/\bs[i]? =some c/\w.cell? ⟨b,o+i,none⟩=some (.int .u8 (c.toNat:Int)):=by
 have hl:bs.length=n:=by have:=h.len;rw[XD] at this;exact this
 obtain⟨b,o,e,hb,hc⟩:=h.2 Q2;have hx:bs[i]? =some bs[i]:=List.getElem?_eq_getElem Q2;refine⟨b,o,bs[i],e,hb,hx,hc i _ ?_⟩;unfold bv;rw[List.getElem?_map,hx];rfl
theorem Q6f(hr:Rd W W.heap.size 1 A n (bv bs))(hn:n<=1048576)(x:UInt8):Calls Tryz.prog 145 #[.slice A n c,.int .u8 (x.toNat:Int)] W fun e w'=>∃i:Int,e=.returned (.int .i64 i)/\(decide (0<=i))=bs.contains x/\Below W.heap.size W w':=by
 have HR:=Q3 hr;have hl:bs.length=n:=by have:=hr.len;rw[XD] at this;exact this
 clear hr;go_enter Tryz.func145,Tryz.ntmps145;refine Qy (M:=[]) (W:=W) (N:=19) (E:=[(0,.slice A n c),(1,.int .u8 (x.toNat:Int))]) (O:=[]) ?_ (Ag.cons (Ag.cons (Ag.nil rfl rfl) rfl) rfl) (Wd.start [] W);refine Qa (Q6 ?_);refine Q4 zA ?_;refine Qc ?_;refine QI (Qa (Qa (Q6 ?_)));refine Q4 zM ?_;refine Q4 zL ?_;refine Q4 zM ?_;refine Qc ?_;refine QI (Qh ?_);refine Zb (ι:=Nat) (fun k=>k<=n/\∀y∈bs.take k,y≠x) (fun k=>n - k) (fun k=>[(0,.slice A n c),(1,.int .u8 (x.toNat:Int)),(7,.int .i64 (n:Int)),(8,.int .i64 (k:Int))]) (fun _=>[]) 0 ⟨Nat.zero_le _,by simp⟩ (.cons rfl rfl (.cons rfl rfl (.cons rfl rfl (.cons rfl rfl .nil)))) (fun w hw=>hw) ?_;rintro k ⟨hk,hall⟩;have HA:=Q3 hall;clear hall;by_cases hkn:k<n
 ·obtain⟨b,o,y,rfl,hb,hy,hc⟩:=QvS HR.out hkn
  by_cases hxy:y=x
  ·subst hxy
   have he:((y.toNat:Int)==(y.toNat:Int))=true:=by simp
   refine Qa (Q6 ?_);refine Q4 zlt ?_;refine Qc ?_;refine QI (Qa (Q8 rfl (Qp (QI (Qa (Qh (Qa (Q6 ?_))))))));refine Q4 zM ?_;refine Q4 zA ?_;refine Qc ?_;refine QI (Qa (Q6 ?_));refine Q4 zM ?_;refine Q4 zM ?_;refine Q4 zM ?_;refine Q4 (zi1 (hj:=hkn)) ?_;refine Q4 (zG hc) ?_;refine Q4 zea ?_;refine Qc ?_;refine QI (Q8 rfl (Qa (Q6 ?_)));refine Q4 zM ?_;refine Q4 zA ?_;refine Qc ?_;refine QI (Qu (Qt (Qo (Qo (Qt (Qo ?_))))));refine Qb (by exact .inr rfl) rfl (.tmp rfl) (fun w hw=>⟨(k:Int),rfl,?_,hw.k.below⟩);rw[decide_eq_true Q2];symm;rw[List.contains_iff_mem];exact List.mem_of_getElem? hy
  ·have he:((x.toNat:Int)==(y.toNat:Int))=false:=by
    rw[beq_eq_false_iff_ne];intro e;exact hxy (UInt8.toNat_inj.1 Q2)
   refine Qa (Q6 ?_);refine Q4 zlt ?_;refine Qc ?_;refine QI (Qa (Q8 rfl (Qp (QI (Qa (Qh (Qa (Q6 ?_))))))));refine Q4 zM ?_;refine Q4 zA ?_;refine Qc ?_;refine QI (Qa (Q6 ?_));refine Q4 zM ?_;refine Q4 zM ?_;refine Q4 zM ?_;refine Q4 (zi1 (hj:=hkn)) ?_;refine Q4 (zG hc) ?_;refine Q4 zea ?_;refine Qc ?_;refine QI (Q7 rfl (Qp (QI (Q6 ?_))));refine Q4 zP ?_;refine Q4 zM ?_;refine Qc ?_;refine X7 (k+1) ⟨hkn,fun z hz=>?_⟩ Q2 (.cons rfl rfl (.cons rfl rfl (.cons rfl rfl (.cons rfl (by go_num) .nil)))) (fun w hw=>hw);rw[List.take_add_one,hy] at hz;simp only[Option.toList_some,List.mem_append,List.mem_singleton] at hz;rcases hz with hz|rfl
   ·exact HA.out z hz
   ·exact hxy
 ·refine Qa (Q6 ?_);refine Q4 zlf ?_;refine Qc ?_;refine QI (Qa (Q7 rfl (Xe (QI (Qa (Q6 ?_))))));refine Q4 zA ?_;refine Qc ?_;refine QI (Qu ?_);refine Qb (by exact .inr rfl) rfl (.tmp rfl) (fun w hw=>⟨-1,rfl,?_,hw.k.below⟩);rw[decide_eq_false Q2]
  symm;rw[<- Bool.not_eq_true,List.contains_iff_mem];intro hm;have:bs.take k=bs:=List.take_of_length_le Q2;exact HA.out x (by rw[this];exact hm) rfl
theorem Q1g(hr:Rd W W.heap.size 1 A n (bv bs))(hn:n<=1048576)(x:UInt8):Calls Tryz.prog 109 #[.slice A n c,.int .u8 (x.toNat:Int)] W fun e w'=>e=.returned (.bool (bs.contains x))/\Below W.heap.size W w':=by
 have HR:=Q3 hr;clear hr;go_enter Tryz.func109,Tryz.ntmps109;refine Qy (M:=[]) (W:=W) (N:=9) (E:=[Qve,(1,.int .u8 (x.toNat:Int))]) (O:=[]) ?_ mc3 Xs;refine Qa (Q6 ?_);refine QdE ?_;refine QI (Qa (Q6 ?_));refine QrD ?_;refine Qd (QC (fun i:Int=>.int .i64 i) (fun i=>decide (0<=i)=bs.contains x) (fun _=>[]) rfl rfl rfl (fun w hw=>(Q6f (HR.out.up hw.k.below) hn x).mono Qos)) rfl Q1 (fun i hi=>?_);refine Q4 (Q91 rfl rfl Q1 rfl rfl rfl Qx) ?_;refine QdE ?_;refine QI (Qu ?_);exact Q50
theorem Q56{A2:Option Addr}{m c2:Nat}{xs ys:List (List UInt8)}(h1:Rd W W.heap.size 1 A n (sv xs))(h2:Rd W W.heap.size 1 A2 m (sv ys))(hn:n<=1048576):Calls Tryz.prog 113 #[.slice A n c,.slice A2 m c2] W fun e w'=>e=.returned (.bool (xs==ys))/\Below W.heap.size W w':=by
 have H1:=Q3 h1;have H2:=Q3 h2;have hl1:xs.length=n:=by have:=h1.len;unfold sv at this;simpa using this
 have hl2:ys.length=m:=by have:=h2.len;unfold sv at this;simpa using this
 clear h1 h2;go_enter Tryz.func113,Tryz.ntmps113;refine Qy (M:=[]) (W:=W) (N:=26) (E:=[(0,.slice A n c),(1,.slice A2 m c2)]) (O:=[]) ?_ (Ag.cons (Ag.cons (Ag.nil rfl rfl) rfl) rfl) (Wd.start [] W);by_cases hnm:n=m
 case neg=>
  have hne:(xs==ys)=false:=by
   rw[beq_eq_false_iff_ne];intro e;rw[e] at hl1;omega
  refine Qa (Q6 ?_);refine Q4 zA ?_;refine Qc ?_;refine QI (Qa (Qa (Q6 ?_)));refine Q4 zM ?_;refine Q4 zL ?_;refine Q4 zM ?_;refine Q4 zL ?_;refine Q4 znt ?_;refine Qc ?_;refine QI (Q8 rfl (Qa (Q6 ?_)));refine Q4 zA ?_;refine Qc ?_;refine QI (Qu (Qo ?_));exact Qb (by exact .inr rfl) rfl (.tmp rfl) (fun w hw=>⟨by rw[hne],hw.k.below⟩)
 subst hnm;refine Qa (Q6 ?_);refine Q4 zA ?_;refine Qc ?_;refine QI (Qa (Qa (Q6 ?_)));refine Q4 zM ?_;refine Q4 zL ?_;refine Q4 zM ?_;refine Q4 zL ?_;refine Q4 znf ?_;refine Qc ?_;refine QI (Q7 rfl (Qp (QI (Qa (Qa (Q6 ?_))))));refine Q4 zM ?_;refine Q4 zL ?_;refine Q4 zM ?_;refine Qc ?_;refine QI (Qh ?_);refine Zb (ι:=Nat) (fun k=>k<=n/\xs.take k=ys.take k) (fun k=>n - k) (fun k=>[(0,.slice A n c),(1,.slice A2 n c2),(12,.int .i64 (n:Int)),(13,.int .i64 (k:Int))]) (fun _=>[]) 0 ⟨Nat.zero_le _,rfl⟩ (.cons rfl rfl (.cons rfl rfl (.cons rfl rfl (.cons rfl rfl .nil)))) (fun w hw=>hw) ?_;rintro k ⟨hk,hall⟩;have HA:=Q3 hall;clear hall;by_cases hkn:k<n
 ·obtain⟨b,o,s,rfl,hb,hs,hc⟩:=KZ H1.out hkn;obtain⟨b2,o2,s2,rfl,hb2,hs2,hc2⟩:=KZ H2.out hkn
  by_cases hss:s.data.toList=s2.data.toList
  ·have he:(s.data.toList != s2.data.toList)=false:=bne_eq_false_iff_eq.2 hss;refine Qa (Q6 ?_);refine Q4 zlt ?_;refine Qc ?_;refine QI (Qa (Q8 rfl (Qp (QI (Qa (Qh (Qa (Q6 ?_))))))));refine Q4 zM ?_;refine Q4 zA ?_;refine Qc ?_;refine QI (Qa (Xh Q5 Q5 ?_));refine Q9 zM ?_;refine Q9 zM ?_;refine Q9 (zi1 (hj:=hkn)) ?_;refine Q9 (zG hc) ?_;refine Q9 zM ?_;refine Q9 zM ?_;refine Q9 (zi1 (hj:=hkn)) ?_;refine Q9 (zG hc2) ?_;refine Q9 (Yl rfl rfl Q1 rfl rfl rfl Qx) ?_;refine XV ?_;refine QI (Q7 rfl (Qp (QI (Q6 ?_))));refine Q4 zP ?_;refine Q4 zM ?_;refine Qc ?_;refine X7 (k+1) ⟨hkn,?_⟩ Q2 (.cons rfl rfl (.cons rfl rfl (.cons rfl rfl (.cons rfl (by go_num) .nil)))) (fun w hw=>hw);rw[List.take_add_one,List.take_add_one,HA.out,hs,hs2,hss]
  ·have he:(s.data.toList != s2.data.toList)=true:=bne_iff_ne.2 hss
   have hne:(xs==ys)=false:=by
    rw[beq_eq_false_iff_ne];intro e;rw[e,hs2] at hs;exact hss (Option.some.inj hs).symm
   refine Qa (Q6 ?_);refine Q4 zlt ?_;refine Qc ?_;refine QI (Qa (Q8 rfl (Qp (QI (Qa (Qh (Qa (Q6 ?_))))))));refine Q4 zM ?_;refine Q4 zA ?_;refine Qc ?_;refine QI (Qa (Xh Q5 Q5 ?_));refine Q9 zM ?_;refine Q9 zM ?_;refine Q9 (zi1 (hj:=hkn)) ?_;refine Q9 (zG hc) ?_;refine Q9 zM ?_;refine Q9 zM ?_;refine Q9 (zi1 (hj:=hkn)) ?_;refine Q9 (zG hc2) ?_;refine Q9 (Yl rfl rfl Q1 rfl rfl rfl Qx) ?_;refine XV ?_;refine QI (Q8 rfl (Qa (Q6 ?_)));refine Q4 zA ?_;refine Qc ?_;refine QI (Qu (Qt (Qo (Qo (Qt (Qo ?_))))));exact Qb (by exact .inr rfl) rfl (.tmp rfl) (fun w hw=>⟨by rw[hne],hw.k.below⟩)
 ·refine Qa (Q6 ?_);refine Q4 zlf ?_;refine Qc ?_;refine QI (Qa (Q7 rfl (Xe (QI (Qa (Q6 ?_))))));refine Q4 zA ?_;refine Qc ?_;refine QI (Qu ?_);refine Qb (by exact .inr rfl) rfl (.tmp rfl) (fun w hw=>⟨?_,hw.k.below⟩);have h3:xs.take k=xs:=List.take_of_length_le Q2;have h4:ys.take k=ys:=List.take_of_length_le Q2;have:=HA.out;rw[h3,h4] at this;rw[this,beq_self_eq_true]
end
section
variable {A:Option Addr}{b c j n:Nat}{e t:TypeId}{ns:List (List UInt8)}{s:List UInt8}{x:Operand}{xs:List Value}
section
variable {P:Program}{ops:Array Oper}{N:Nat}{E:Env}{o:Oper}{M:List Nat}{W:World}{O:List Qf}
theorem Qn2{u:TypeId}(hT:SlT P t e 1 1)(hu:P.underlying u=some .string)(hz0:(P.info? e).bind (·.zero)=some (.int .u8 0))(ty:TypeId)(w:World)(A:Option Addr)(n c:Nat)(xs:List Value)(hown:w.ownsRow 0 e 1 (.slice A n c) n xs)(s:ByteArray)(hb:n+s.size<=140737488355328):
  ∃A' c' w',(Builtin.append_ #[t,u] ty #[.slice A n c,.string s]).run P w=.ok (.slice A' (n+s.size) c') w'/\w'.ownsRow 0 e 1 (.slice A' (n+s.size) c') (n+s.size) (xs++Lib.strCells s)/\w.grownBy w' (Value.slice A n c).ownBlock/\(∀b,(Value.slice A' (n+s.size) c').ownBlock=some b->(Value.slice A n c).ownBlock=some b\/w.heap.size<=b):=by
 obtain⟨i,z,hi,hz,hs,hby,hzs⟩:=hT.info;rw[hi] at hz0;have hz1:i.zero=some (.int .u8 0):=hz0;have hmx:n+s.size<=maxLen:=Nat.le_trans hb Q1;obtain⟨v',w',hrun,h2,h3,_⟩:=Lib.run_append_own_string (P:=P) (w:=w) 0 t u ty e i hT.und hu hi hz1 hs hby (.slice A n c) n xs hown s hmx hb JR;have hform:∃A' c',v'=.slice A' (n+s.size) c':=by
  rcases h2.2 with ⟨hv,h0⟩|⟨g,cap,cur,hv,_⟩
  ·exact⟨none,0,by rw[hv,h0]⟩
  ·exact⟨_,_,hv⟩
 obtain⟨A',c',rfl⟩:=hform;refine⟨A',c',w',hrun,h2,h3,fun b hb'=>?_⟩;rcases hown.2 with ⟨hv,rfl⟩|⟨g,cap,cur,hv,_,hg,hnc,hcm,hcs,htk⟩
 ·simp only[Value.slice.injEq] at hv
  obtain⟨rfl,_,rfl⟩:=hv;have hx:xs=[]:=Qmp;subst hx;obtain⟨v2,w2,hrun2,h22,_⟩:=Lib.run_append_own_string (P:=P) (w:=w) w.heap.size t u ty e i hT.und hu hi hz1 hs hby (.slice none 0 0) 0 [] (World.ownsRow_nil w _ _ _) s hmx hb XU;rw[hrun] at hrun2;injection hrun2 with e1 e2;subst e1;exact .inr (h22.lt b hb').1
 ·simp only[Value.slice.injEq] at hv
  obtain⟨rfl,_,rfl⟩:=hv;by_cases hroom:n+s.size<=c
  ·left
   have hre:=Lib.run_append_room_string (P:=P) (w:=w) t u ty e i hT.und hu hi hs g n c cur hg s hroom (by rw[hcs];omega);rw[hrun] at hre;injection hre with e1 e2;rw[e1] at hb';exact hb'
  ·right
   have hre:=Lib.run_append_grow_string (P:=P) (w:=w) t u ty e i _ hT.und hu hi hz1 ⟨g,0,none⟩ n c xs (by rw[hs];exact hown.1) (hown.cells (g:=g) rfl) s Q2 Q2 (growslice_fits Q2 (by rw[hby];omega));rw[hrun] at hre;injection hre with e1 e2;rw[e1] at hb';cases hb';exact Q0n
theorem Q7R(i:Nat){u:TypeId}{s:Operand}{str:ByteArray}[hT:Sl P t e 1 1](hu:P.underlying u=some .string)(hz0:(P.info? e).bind (·.zero)=some (.int .u8 0))(ho:o.op=.call { callee:=.builtin .append,args:=#[s,x],argTypes:=#[t,u] })(hw:Qm ops E o=some true)(hs:ev E s=some (.slice A n c))(hx:ev E x=some (.string str))
  (hO:O[i]? =some (.row A n c e 1 xs)) (hbytes:n+str.size<=140737488355328):
  uE P ops N M W E O o (Option Addr×Nat) (fun q=>.slice q.1 (n+str.size) q.2) (fun q=>O.set i (.row q.1 (n+str.size) q.2 e 1 (xs++Lib.strCells str))) (fun q=>True):=
 Q1L hw fun ρ w ha hW=>by
  obtain⟨A',c',w',hrun,h2,h3,h4⟩:=Qn2 (P:=P) hT.h hu hz0 o.type w A n c xs Q7a str hbytes;refine⟨(A',c'),w',?_,trivial,hW.upd hO rfl rfl h3 h2 h4⟩;unfold execOp;simp only[ho,resolve,invoke,builtin,Sem.run_bind,Sem.run_pure,Result.andThen_ok,List.map_toArray,List.map_cons,List.map_nil,ha.eval hs,ha.eval hx,hrun]
theorem QpX(i:Nat){q m c2 bytes:Nat}{z:Value}[hT:Sl P t e 1 bytes](hz:∀w,(zeroValue e).run P w=.ok z w)(hz1:z.oneCell'=true)(hzc:z.cells=#[z])(ho:o.op=.call { callee:=.builtin .clear,args:=#[x],argTypes:=#[t] })(hw:Qm ops E o=some true)(hx:ev E x=some (.slice (some ⟨b,q,none⟩) m c2))(hO:O[i]? =some (.row (some ⟨b,0,none⟩) n c e 1 xs))(hm:0<m)(hq:q+m<=n):
  uE P ops N M W E O o Unit (fun _=>.tuple #[]) (fun _=>O.set i (.row (some ⟨b,0,none⟩) n c e 1 (Zk xs q (List.replicate m z)))) (fun _=>True):=
 Q1L hw fun ρ w ha hW=>by
  obtain⟨cur,hb,h2,h3,h4,h5⟩:=QaZ Q7a;have hcell:∀j,j<m->(w.cell? ⟨b,q+j,none⟩).isSome=true:=fun j hj=>by
   rw[cell_of_row w b (q+j) cur.toArray e (0,0) hb];simp;omega
  have hrun:=Lib.run_clear_slice (P:=P) w t e o.type z hT.h.und hz hzc hz1 b q m c2 hm hcell (fun j hj=>by simp [World.frozen?,hb]);refine⟨(),w.setCells b q (List.replicate m z),?_,trivial,hW.upd hO rfl rfl (Yt b _ w q) (Ky (JD _ w q cur hb) h2 h3 (by rw[Z5];exact h4) (by rw[<- h5,Qjl _ _ _ _ (by rw[List.length_replicate];omega)])) Q4N⟩;unfold execOp;simp only[ho,resolve,invoke,builtin,Sem.run_bind,Sem.run_pure,Result.andThen_ok,List.map_toArray,List.map_cons,List.map_nil,ha.eval hx,hrun]
end
def IsE(ns:List (List UInt8))(i:Int):Prop:=(i=-1/\∀s∈ns,s≠[])\/∃k:Nat,i=(k:Int)/\ns[k]? =some []/\∀s∈ns.take k,s≠[]
theorem KT(s:ByteArray)(W:World):Calls Tryz.prog 112 ([Value.string s].toArray++#[]) W fun e w'=>e=.returned (.bool (s.data.toList==[]))/\Below W.heap.size W w':=Qda s W
theorem Q5H{W:World}(hr:Rd W W.heap.size 1 A n (sv ns))(hn:n<=1048576):Calls Tryz.prog 146 #[.slice A n c,.func (.func 112) #[] #[]] W fun e w'=>∃i,e=.returned (.int .i64 i)/\IsE ns i/\Below W.heap.size W w':=by
 have HR:=Q3 hr;have hl:ns.length=n:=by have:=hr.len;unfold sv at this;simpa using this
 clear hr;go_enter Tryz.func146,Tryz.ntmps146;refine Qy (M:=[]) (W:=W) (N:=19) (E:=[(0,.slice A n c),(1,.func (.func 112) #[] #[])]) (O:=[]) ?_ (Ag.cons (Ag.cons (Ag.nil rfl rfl) rfl) rfl) (Wd.start [] W);refine yq<|yr<|yo zA<|yl<|yn<|yq<|yq<|yr<|yo zM<|yo zL<|yo zM<|yl<|yn<|yb ?_;refine Zb (ι:=Nat) (fun k=>k<=n/\∀s∈ns.take k,s≠[]) (fun k=>n - k) (fun k=>[(0,.slice A n c),(1,.func (.func 112) #[] #[]),(7,.int .i64 (n:Int)),(8,.int .i64 (k:Int))]) (fun _=>[]) 0 ⟨Nat.zero_le _,by simp⟩ (.cons rfl rfl (.cons rfl rfl (.cons rfl rfl (.cons rfl rfl .nil)))) (fun w hw=>hw) ?_;rintro k ⟨hk,hall⟩;have HA:=Q3 hall;clear hall;by_cases hkn:k<n
 ·obtain⟨b,o,s,rfl,hb,hs,hc⟩:=KZ HR.out hkn;have HSS:=Q3 hs;clear hs
  by_cases hse:s.data.toList=[]
  ·have he:(s.data.toList==[])=true:=by rw[hse];rfl
   refine yq<|yr<|yo zlt<|yl<|yn<|yq<|y1<|ys<|yn<|yq<|yb<|yq<|yr<|yo zM<|yo zA<|yl<|yn<|yq<|yr<|yo zM<|yo zM<|yo zM<|yo (zi1 (hj:=hkn))<|yo (zG hc) ?_;refine Q4 (Jw rfl rfl Q1 rfl rfl rfl (fun w hw=>KT _ w)) ?_;rw[he];refine yl<|yn<|y1<|yq<|yr<|yo zM<|yo zA<|yl<|yn<|yt<|yk<|yc<|yc<|yk<|yc ?_;exact Qb (by exact .inr rfl) rfl (.tmp rfl) (fun w hw=>⟨(k:Int),rfl,.inr ⟨k,rfl,by rw[HSS.out,hse],HA.out⟩,hw.k.below⟩)
  ·have he:(s.data.toList==[])=false:=beq_eq_false_iff_ne.2 hse;refine yq<|yr<|yo zlt<|yl<|yn<|yq<|y1<|ys<|yn<|yq<|yb<|yq<|yr<|yo zM<|yo zA<|yl<|yn<|yq<|yr<|yo zM<|yo zM<|yo zM<|yo (zi1 (hj:=hkn))<|yo (zG hc) ?_;refine Q4 (Jw rfl rfl Q1 rfl rfl rfl (fun w hw=>KT _ w)) ?_;rw[he];refine yl<|yn<|y0<|ys<|yn<|yr<|yo zP<|yo zM<|yl ?_;refine X7 (k+1) ⟨hkn,fun z hz=>?_⟩ Q2 (.cons rfl rfl (.cons rfl rfl (.cons rfl rfl (.cons rfl (by go_num) .nil)))) (fun w hw=>hw);rw[List.take_add_one,HSS.out] at hz
   simp only[Option.toList_some,List.mem_append,List.mem_singleton] at hz;rcases hz with hz|rfl
   ·exact HA.out z hz
   ·exact hse
 ·refine yq<|yr<|yo zlf<|yl<|yn<|yq<|y0<|ye<|yn<|yq<|yr<|yo zA<|yl<|yn<|yt ?_;refine Qb mc4 rfl (.tmp rfl) (fun w hw=>⟨-1,rfl,.inl ⟨rfl,?_⟩,hw.k.below⟩);have h3:ns.take k=ns:=QfZ;have:=HA.out;rwa [h3] at this
def Qti(b c:Nat)(ns:List (List UInt8))(W:World)(e:Ending)(w':World):Prop:=e=.returned (.slice (some ⟨b,0,none⟩) (QE ns).length c)/\XP [b] W w'/\Rd w' w'.heap.size 1 (some ⟨b,0,none⟩) (QE ns).length (sv (QE ns))
theorem Q90(h:∀s∈ns,s≠[]):QE ns=ns:=by
 unfold QE;rw[List.filter_eq_self];intro s hs;simpa using h s hs
theorem Q67(h:ns[j]? =some s):QE (ns.take (j+1))=QE (ns.take j)++if s=[] then [] else [s]:=by
 unfold QE;rw[List.take_add_one,h,List.filter_append];congr 1;by_cases hs:s=[]
 ·rw[if_pos hs,hs];rfl
 ·rw[if_neg hs]
  simp [hs]
theorem QtV{l:List (List UInt8)}{u:List UInt8}(h:l[j]? =some u):(sv l)[j]? =some (.string ⟨u.toArray⟩):=by
 unfold sv;rw[List.getElem?_map,h];rfl
theorem Qu3(l:List (List UInt8))(j:Nat)(u:List UInt8):(sv l).set j (.string ⟨u.toArray⟩)=sv (l.set j u):=by
 unfold sv;rw[List.map_set]
theorem Qpx{A:List (List UInt8)}(h:A.length<=j):(A++ns.drop A.length)[j]? =ns[j]?:=by
 rw[List.getElem?_append_right h,List.getElem?_drop];congr 1;omega
theorem Qql{A:List (List UInt8)}(h:A.length<ns.length):(A++ns.drop A.length).set A.length s=A++[s]++ns.drop (A++[s]).length:=by
 rw[List.set_append_right _ _ (Nat.le_refl _),Nat.sub_self,List.drop_eq_getElem_cons h,List.set_cons_zero,List.length_append];simp
structure Dl where
 j:Nat
theorem QiQ{W:World}(h:(Qf.row (some ⟨b,0,none⟩) n c 9 1 (sv ns)).on W)(hn:n<=1048576):Calls Tryz.prog 110 #[.slice (some ⟨b,0,none⟩) n c,.func (.func 112) #[] #[]] W (Qti b c ns W):=by
 have hl:ns.length=n:=by have:=h.1;rw[Z8] at this;omega
 have hlt:b<W.heap.size:=h.lt (b:=b) rfl;have hwd:Wd [b] W [.row (some ⟨b,0,none⟩) n c 9 1 (sv ns)] W:=(Wd.start [b] W).add (y:=.row V7 n c 9 1 (sv ns)) h (fun q hq _=>by cases hq;exact List.mem_singleton.2 rfl) Qn;have hnc:=JZ 0 hwd rfl;clear h;go_enter Tryz.func110,Tryz.ntmps110;refine Qy (M:=[b]) (W:=W) (N:=42) (E:=[QsW,QuX]) (O:=[.row V7 n c 9 1 (sv ns)]) ?_ mc3 hwd;clear hwd;refine yq<|yr<|yo zA<|yl<|yn<|yq<|yr<|yo zM<|yo zM ?_;refine Qd (QC (fun i:Int=>.int .i64 i) (fun i=>IsE ns i) (fun _=>_) rfl rfl rfl (fun w hw=>(Q5H (Rd.of_own Kk) hn).mono Qos)) rfl Q1 (fun i hi=>?_);refine yo zA<|yl<|yn<|yq<|yq<|yr ?_;rcases hi with ⟨rfl,hall⟩|⟨k,rfl,hk,hall⟩
 ·have HA:=Q3 (Q90 hall);clear hall;refine yo zM<|yo zet<|yl<|yn<|y1<|yq<|yr<|yo zM<|yo zA<|yl<|yn<|yt<|yc ?_;refine Qb mc4 rfl (.tmp rfl) (fun w hw=>⟨?_,hw.k,?_⟩)
  ·rw[HA.out,hl]
  ·rw[HA.out,hl];exact Rd.of_own Kk
 ·have hkn:k<n:=by have:=(List.getElem?_eq_some_iff.1 hk).1;omega
  have hne:((k:Int)==-1)=false:=beq_eq_false_iff_ne.2 Q2;have HK:=Q3 hk;have HA:=Q3 (Q90 hall);have HC:=Q3 (show QE (ns.take (k+1))=ns.take k by rw[Q67 HK.out,if_pos rfl,List.append_nil,HA.out]);clear hall hk;refine yo zM<|yo zea<|yl<|yn<|y0<|ys<|yn<|yq<|yq<|yr<|yo zM<|yo zP<|yo zA<|yl<|yn<|yb ?_;refine Zb (ι:=Dl) (fun y=>k<y.j/\y.j<=n/\(QE (ns.take y.j)).length<y.j) (fun y=>n - y.j) (fun y=>[(0,.slice (some ⟨b,0,none⟩) n c),(1,.func (.func 112) #[] #[]),(5,.int .i64 ((QE (ns.take y.j)).length:Int)),(6,.int .i64 (y.j:Int))]) (fun y=>[.row (some ⟨b,0,none⟩) n c 9 1 (sv (QE (ns.take y.j)++ns.drop (QE (ns.take y.j)).length))]) ⟨k+1⟩ ⟨Nat.lt_succ_self k,hkn,by show (QE (ns.take (k+1))).length<k+1;rw[HC.out,List.length_take];omega⟩ (.cons rfl rfl (.cons rfl rfl (.cons rfl (by rw[HC.out,List.length_take,Nat.min_eq_left Q2]) (.cons rfl (by go_num) .nil)))) (fun w hw=>?_) ?_
  ·simp only
   rw[HC.out,List.length_take,Nat.min_eq_left Q2,List.take_append_drop];exact hw
  rintro⟨j⟩ ⟨hkj,hjn,hij⟩;replace hkj:k<j:=hkj;replace hjn:j<=n:=hjn;replace hij:(QE (ns.take j)).length<j:=hij;obtain⟨A,hA⟩:∃A,QE (ns.take j)=A:=⟨_,rfl⟩;have HAA:=Q3 hA;rw[hA] at hij;simp only[hA];clear hA;by_cases hjlt:j<n
  ·obtain⟨s,hs⟩:∃s,ns[j]? =some s:=⟨_,List.getElem?_eq_getElem Q2⟩;have hcell:(sv (A++ns.drop A.length))[j]? =some (.string ⟨s.toArray⟩):=QtV (by rw[Qpx Q2];exact hs);have HN:=Q3 (Q67 hs);clear hs
   by_cases hse:s=[]
   ·have he:((⟨s.toArray⟩:ByteArray).data.toList==[])=true:=by rw[hse];rfl
    have HM:=Q3 (show QE (ns.take (j+1))=A by rw[HN.out,if_pos hse,List.append_nil,HAA.out]);refine Qsk ?_;refine yo zO<|yl<|yn<|y0<|ys<|yn<|yr<|yo zM<|yo zP<|yo zA<|yl ?_;refine X7 ⟨j+1⟩ ⟨by show k<j+1;omega,hjlt,by show (QE (ns.take (j+1))).length<j+1;rw[HM.out];omega⟩ (by show n - (j+1)<n - j;omega) (.cons rfl rfl (.cons rfl rfl (.cons rfl (by rw[HM.out]) Qlk))) (fun w hw=>?_);simp only;rw[HM.out];exact hw
   ·have he:((⟨s.toArray⟩:ByteArray).data.toList==[])=false:=beq_eq_false_iff_ne.2 hse;have HM:=Q3 (show QE (ns.take (j+1))=A++[s] by rw[HN.out,if_neg hse,HAA.out]);refine Qsk ?_;refine yo zO<|yl<|yn<|y1<|yq<|yr<|yo zM<|yo zM<|yo zM ?_;refine Q4 (Xd rfl rfl Q1 rfl rfl rfl (show A.length<n by omega)) ?_;refine Qr (Vz 0 rfl rfl rfl rfl rfl rfl Q2) rfl (fun _ _=>?_);refine yl<|yn<|yr<|yo zM<|yo zP<|yo zA<|yl<|yn<|yr<|yo zM<|yo zP<|yo zA<|yl ?_;refine X7 ⟨j+1⟩ ⟨by show k<j+1;omega,hjlt,by show (QE (ns.take (j+1))).length<j+1;rw[HM.out,List.length_append];show A.length+1<j+1;omega⟩ (by show n - (j+1)<n - j;omega) (.cons rfl rfl (.cons rfl rfl (.cons rfl (by rw[HM.out,List.length_append];go_num) Qlk))) (fun w hw=>?_)
    simp only;rw[HM.out,<- Qql Q2,<- Qu3];have h:=hw;rw[Nat.zero_add] at h;exact h
  ·have hjn':j=n:=by omega
   have HZ:=Q3 (show QE ns=A by rw[<- HAA.out,List.take_of_length_le Q2]);have hc1:ZC (some ⟨b,0,none⟩) c A.length 1=some ⟨b,A.length,none⟩:=by
    unfold ZC;rw[if_neg Q2];simp [Addr.add_mid]
   have hc0:ZC (some ⟨b,0,none⟩) c 0 1=some ⟨b,0,none⟩:=by
    unfold ZC;rw[if_neg Q2];simp [Addr.add_mid]
   refine yq<|yq<|yr<|yo zM<|yo zM<|yo zL<|yo zlf<|yl<|yn<|y0<|ye<|yn<|yq<|yr<|yo zM<|yo zM ?_;refine Q4 (Q10 (l:=A.length) rfl rfl Q1 rfl rfl rfl Q2) ?_;rw[hc1];refine Qr (QpX 0 (z:=.string ⟨#[]⟩) (fun w=>by kernel_rfl) rfl rfl rfl rfl rfl rfl Q2 Q2) rfl (fun _ _=>?_);refine yl<|yn<|yq<|yr<|yo zM<|yo zM ?_;refine Q4 (Kg (h:=A.length) rfl rfl Q1 rfl rfl rfl Q2) ?_;rw[hc0];refine yo zA<|yl<|yn<|yt ?_;refine Qb mc4 rfl (.tmp rfl) (fun w hw=>⟨by rw[HZ.out],hw.k,?_⟩);rw[HZ.out];have h:=(Rd.of_own Kk).take (m:=A.length) Q2;have e:(Zk (sv (A++ns.drop A.length)) A.length (List.replicate (n - A.length) (.string ⟨#[]⟩))).take (A.length*1)=sv A:=by
    refine List.ext_getElem? fun q=>?_;rw[List.getElem?_take];split
    ·rw[Jr,if_neg Q2]
     unfold sv;rw[List.getElem?_map,List.getElem?_map,List.getElem?_append_left Q2]
    ·rw[List.getElem?_eq_none (by rw[Z8];omega)]
   rw[e] at h;exact h
end
section
variable {A:Option Addr}{B c g i:Nat}{F:List Rl}{W:World}{n:Int}{r:Rl}{xs:List UInt8}{z:Wz}
theorem Qcs(n:Int):IntKind.u8.wrap n=((UInt8.ofNat (n % 256).toNat).toNat:Int):=by
 have h:IntKind.u8.wrap n=n % 256:=rfl;have h0:=Int.emod_nonneg n (show (256:Int)≠0 by decide);have h1:=Int.emod_lt_of_pos n (show (0:Int)<256 by decide);rw[h,UInt8.toNat_ofNat_of_lt' (by show (n % 256).toNat<256;omega)];omega
theorem Qad:∀(m:Nat) (n:Int) (k:Nat),0<=n->k<m->(leW m n)[k]? =some (UInt8.ofNat (n / 2 ^ (8*k) % 256).toNat)
 |0,_,_,_,h=>absurd h (Nat.not_lt_zero _)
 |m+1,n,0,h0,_=>by simp [leW]
 |m+1,n,k+1,h0,h=>by
  rw[leW,List.getElem?_cons_succ,Qad m (n / 256) k (Int.ediv_nonneg h0 Q1) Q2,Int.ediv_ediv_of_nonneg (by decide:(0:Int)<=256)];rw[show (256:Int)*2 ^ (8*k)=2 ^ (8*(k+1)) by rw[show 8*(k+1)=8+8*k by omega,Int.pow_add];rfl]
theorem QfB{big:Bool}{m:Nat}(h0:0<=n)(hi:i<m):(Q0h big m n)[i]? =some (UInt8.ofNat (n / 2 ^ (8*(if big then m - 1 - i else i)) % 256).toNat):=by
 unfold Q0h;cases big with
 |false=>exact Qad m n i h0 hi
 |true=>
  show (leW m n).reverse[i]? =_;rw[List.getElem?_reverse (by rw[Q3b];exact hi),Q3b];exact Qad m n (m - 1 - i) h0 Q2
theorem Q7N{α:Type}{l:List α}{x:α}(h:l[i]? =some x):l.take (i+1)=l.take i++[x]:=by rw[List.take_add_one,h];rfl
theorem Q0v(h:JG r)(hc:Vl r n=true):(Ku r n).length<=30:=by
 obtain⟨h1,h2⟩:=Q0M.1 hc;unfold Ku;split
 ·next h3=>
  have a:=h.dec h3;have b:=h.mn3 h3;have:=Lib.itoa_length_le n Q2 Q2;rw[List.length_append];simp;omega
 ·next h3=>
  have a:=h.num (h.kind.resolve_right h3);rw[Q68];omega
theorem Qry{n:Nat}{w:World}{A':Option Addr}{b:List UInt8}{O:List Qf}{c':Nat}(i j:Nat)(h:Z6 W z B g F A c xs n)(hw:Wd (wM g A xs.length c) W O w)(hO:O[i]? =some (.blk g (z.obj A' (xs++b).length c' n)))(hP:O[j]? =some (KR A' c' (xs++b)))(hb:b.length<=30):WrE z g W A c xs (.ok (b,n)) n 30 (.returned (.tuple #[])) w:=
 Ye h i j hw hO hP rfl hb Q2
theorem Q69{n:Nat}(h:Z6 W z B g F A c xs n){sb sn sp:Value}(hr:JG r){x:Int}(hx:Vl r x=true)(hl:xs.length<=1099511627776):
  Calls Tryz.prog 84 #[.pointer (some ⟨g,0,none⟩),.agg (ruC r sb sn sp).toArray,.int .i64 x] W (WrE z g W A c xs (.ok (Ku r x,n)) n 30):=by
 have H:=Q3 h;have hwd:=h.wd;have hkind:=hr.kind;have hdec:=hr.dec;have hmn3:=hr.mn3;have hnum:=hr.num;have hlen:=Q0v hr hx;obtain⟨hx1,hx2⟩:=Q0M.1 hx;obtain⟨uy,hys⟩:∃uy,Ku r x=uy:=⟨_,rfl⟩;rw[hys] at hlen ⊢;have HYS:=Q3 hys;clear h hr hx hys;obtain⟨name,kind,bs,size,big,mn,mx,stop,count,elem,names,parts⟩:=r;obtain⟨Af,nn,cf⟩:=z;simp only at hkind hdec hmn3 hnum hx1 hx2;simp only[ruC];go_enter Tryz.func84,Tryz.ntmps84;refine Qy (M:=wM g A xs.length c) (W:=W) (N:=55) (E:=[J9,QhH,(2,.int .i64 x)]) (O:=[.blk g Qnz,.row A xs.length c 5 1 (bv xs)]) ?_ Ze hwd;clear hwd;by_cases h3:kind=3
 ·subst h3;have hd:=hdec rfl;have hm0:=hmn3 rfl;obtain⟨sB,hsB⟩:∃b:UInt8,UInt8.ofNat (stop % 256).toNat=b:=⟨_,rfl⟩
  have hcv:IntKind.u8.wrap stop=(sB.toNat:Int):=by rw[Qcs,hsB]
  obtain⟨it,hit⟩:∃it,Lib.itoa x=it:=⟨_,rfl⟩;have HY:=Q3 (show uy=it++[sB] by rw[<- HYS.out];unfold Ku YD;rw[if_pos rfl,hit,hsB]);have hil:it.length<=25:=by rw[<- hit];have:=Lib.itoa_length_le x Q2 Q2;omega
  have HG:=Q3 H.out.row;have hsz:(⟨it.toArray⟩:ByteArray).size=it.length:=by simp [ByteArray.size]
  have hl1:xs.length+(⟨it.toArray⟩:ByteArray).size=(xs++it).length:=by rw[hsz,List.length_append]
  have hb1:bv xs++Lib.strCells ⟨it.toArray⟩=bv (xs++it):=by unfold bv;rw[List.map_append];rfl
  have hl2:(xs++it).length+1=(xs++uy).length:=by rw[HY.out,List.length_append,List.length_append,List.length_append];rfl
  have hb2:bv (xs++it)++[.int .u8 (sB.toNat:Int)]=bv (xs++uy):=by rw[HY.out];unfold bv;simp
  have hbnd:(xs++it).length<=1099511627876:=by rw[List.length_append];omega
  have HIT:=Q3 hit;clear hit hsz;refine yq<|yr ?_;refine yB fun b4=>?_;refine yl<|yn<|yq<|yq<|yr<|yo zF<|yo (zB 0)<|yo zet<|yl<|yn<|y1<|yq ?_;refine Xw [.blk b4 QuN,.blk g Qnz] [15] Q5 ?_;refine Qi 0 rfl Q5 VN zM ?_;refine Qi 1 rfl Q5 VN zM ?_;refine Qi 2 rfl Q5 VN mc5 ?_;refine Qi 3 rfl Q5 VN zF ?_;refine Qi 4 rfl Q5 VN (zB 1) ?_;refine Qi 5 rfl Q5 VN zM ?_;refine Qi 6 rfl Q5 VN (Qg (f:=114) rfl rfl Q1 rfl rfl (fun w hw=>KS (H.out.gv w Q8m) Q2 Q2)) ?_;rw[HIT.out];refine Qi 8 rfl Q5 VN zF ?_;refine Qi 9 rfl Q5 VN (zB 0) ?_;refine Qi 10 rfl Q5 VN QhI ?_;refine Q6l 7 11 Q5 (V4 rfl rfl (Q7R 2 Tryz.underlying9 Q5 rfl rfl rfl rfl rfl Q2) (fun _=>.inr VN) rfl Q1 (fun z1 _=>?_)) (V4 rfl rfl Y1 Q1B rfl Q1 (fun bn _=>?_))
  ·rw[hl1,hb1];refine QX 11 Q5 rfl rfl Y1 Q1B rfl Q1 (fun bn _=>?_);refine QX 12 Q5 rfl rfl Q5V Q1B rfl Q1 (fun z2 _=>?_);rw[hl2,hb2];refine Qi 13 rfl Q5 Q0F mc5 ?_;refine Qi 14 rfl Q5 Q0F zF ?_;refine QB 15 Q5 rfl rfl Q2L ZA rfl (fun _ _=>?_);refine Xi ?_ Q5;refine yn<|yt<|yc ?_;exact QmD
  ·refine QX 7 Q5 rfl rfl (Q7R 3 Tryz.underlying9 Q5 rfl rfl rfl rfl rfl Q2) Q1B rfl Q1 (fun z1 _=>?_);rw[hl1,hb1];refine QX 12 Q5 rfl rfl Q5V Q1B rfl Q1 (fun z2 _=>?_);rw[hl2,hb2];refine Qi 13 rfl Q5 Q0F mc5 ?_;refine Qi 14 rfl Q5 Q0F zF ?_;refine QB 15 Q5 rfl rfl Q2L ZA rfl (fun _ _=>?_);refine Xi ?_ Q5;refine yn<|yt<|yc ?_;exact QmD
 ·have h2:kind=2:=hkind.resolve_right h3;subst h2;obtain⟨hs1,hs4,hm0,hmm,hmx⟩:=hnum rfl;obtain⟨sz,rfl⟩:∃sz:Nat,size=(sz:Int):=QkP
  have hx0:0<=x:=by omega
  have HY:=Q3 (show uy=Q0h big sz x by rw[<- HYS.out];unfold Ku;rw[if_neg QjF];rfl);have hyl:uy.length=sz:=by rw[HY.out,Q68]
  have hne3:((2:Int)==3)=false:=rfl;clear hdec hnum hkind hmn3;refine yq<|yr ?_;refine yB fun b4=>?_;refine yl<|yn<|yq<|yq<|yr<|yo zF<|yo (zB 0)<|yo zea<|yl<|yn<|y0<|ys<|yn<|yq<|yr<|yo zF<|yo (zB 0)<|yo zM<|yl<|yn<|yb ?_;refine Zb (ι:=Nat×Option Addr×Nat) (fun y=>y.1<=sz) (fun y=>sz - y.1) (fun y=>[J9,(2,.int .i64 x),Q8N,(27,.int .i64 (sz:Int)),(28,.int .i64 (y.1:Int))]) (fun y=>[.blk b4 QqJ,.blk g (.cells ([.slice Af nn cf,.slice y.2.1 (xs++uy.take y.1).length y.2.2,.int .i64 (n:Int)]:List Value).toArray 77 (0,0)),.row y.2.1 (xs++uy.take y.1).length y.2.2 5 1 (bv (xs++uy.take y.1))]) (0,A,c) JR QfY (fun w hw=>?_) ?_
  ·simp only[List.take_zero,List.append_nil]
   exact hw
  rintro⟨i,Ai,ci⟩ hi;replace hi:i<=sz:=hi;show sE _ _ _ _ _ [J9,(2,.int .i64 x),Q8N,(27,.int .i64 (sz:Int)),(28,.int .i64 (i:Int))] [.blk b4 QqJ,.blk g (.cells ([.slice Af nn cf,.slice Ai (xs++uy.take i).length ci,.int .i64 (n:Int)]:List Value).toArray 77 (0,0)),.row Ai (xs++uy.take i).length ci 5 1 (bv (xs++uy.take i))] _;by_cases hlt:i<sz
  ·obtain⟨k,hk⟩:∃k,(if big then sz - 1 - i else i)=k:=⟨_,rfl⟩
   have hk4:k<4:=by rw[<- hk];split<;>omega
   obtain⟨cB,hcB⟩:∃b:UInt8,UInt8.ofNat (x / 2 ^ (8*k) % 256).toNat=b:=⟨_,rfl⟩;have hcv:IntKind.u8.wrap (x / 2 ^ (8*(k:Int)).toNat)=(cB.toNat:Int):=by rw[Qcs,<- hcB];rw[show (8*(k:Int)).toNat=8*k by omega]
   have hy:uy[i]? =some cB:=by rw[HY.out,QfB hx0 hlt,hk,hcB]
   have hl1:(xs++uy.take i).length+1=(xs++uy.take (i+1)).length:=by rw[Q7N hy,List.length_append,List.length_append,List.length_append];rfl
   have hb1:bv (xs++uy.take i)++[.int .u8 (cB.toNat:Int)]=bv (xs++uy.take (i+1)):=by rw[Q7N hy];unfold bv;simp
   have hbnd:(xs++uy.take i).length<=1099511627876:=by rw[List.length_append,List.length_take];omega
   clear hcB hy;cases big with
   |true=>
    have hk':sz - 1 - i=k:=hk;have e1:(sz:Int) - 1 - (i:Int)=(k:Int):=by omega
    refine QqN ?_;refine yo zA<|yl<|yn<|yq<|yq<|yr<|yo zF<|yo (zB 0)<|yl<|yn<|y1<|yr<|yo zF<|yo (zB 0)<|yo zQ<|yo zM<|yo zQ ?_;refine Q4 Q7l ?_;refine yo zA<|yl<|yn ?_;rw[e1];refine Qse ?_;refine QX 9 Q5 rfl rfl Y1 Qal rfl Q1 (fun bn _=>?_);refine QX 10 Q5 rfl rfl Q5V Qal rfl Q1 (fun z2 _=>?_);refine Qmy ?_;refine QB 13 Q5 rfl rfl Q2L ZA rfl (fun _ _=>?_);refine Xi ?_ Q5;refine Q8Z ?_;exact Qsu
   |false=>
    have hk':i=k:=hk;subst hk';refine QqN ?_;refine yo zA<|yl<|yn<|yq<|yq<|yr<|yo zF<|yo (zB 0)<|yl<|yn<|y0<|ys<|yn ?_;refine Qse ?_;refine QX 9 Q5 rfl rfl Y1 Qal rfl Q1 (fun bn _=>?_);refine QX 10 Q5 rfl rfl Q5V Qal rfl Q1 (fun z2 _=>?_);refine Qmy ?_;refine QB 13 Q5 rfl rfl Q2L ZA rfl (fun _ _=>?_);refine Xi ?_ Q5;refine Q8Z ?_;exact Qsu
  ·have hie:uy.take i=uy:=QfZ;refine QeL ?_;refine Zc Yh rfl (fun w hw=>?_);rw[hie] at hw;exact Qry 1 2 H.out hw rfl rfl hlen
end
end Go.Proofs.YtphkhfdmlcnoeaaGreatDoor
