import Derived.Test.YtgdiadednlajgaaGreatDoorP42
namespace Go.Proofs.YtgdiadednlajgaaGreatDoor
set_option linter.unusedVariables false
set_option linter.unusedSimpArgs false
open Go.RowKit
def NumEnd(w:World)(r:Int×Int×Int×Int)(e:Ending)(w':World):Prop:=
 e=.returned (.tuple #[.int .i64 r.1,.int .i64 r.2.1,.agg #[.int .i64 r.2.2.1,.int .i64 r.2.2.2]])∧Below w.heap.size w w'
def Jq(k:Nat)(s:List UInt8):List UInt8:=if s=[] then [] else 112::Lib.itoa k
def Yz(i:Nat)(r:Rl):Rl:={ r with name:=114::Lib.itoa i,names:=r.names.mapIdx Jq }
def Za(F:List Rl):List Rl:=F.mapIdx Yz
section
variable {F:List Rl}
theorem JF(F:List Rl):(Za F).length=F.length:=by unfold Za;rw[List.length_mapIdx]
theorem Jt(F:List Rl)(i:Nat):(Za F)[i]? =(F[i]?).map (Yz i):=by unfold Za;rw[List.getElem?_mapIdx]
theorem Q7d{i j:Nat}(hi:i<9223372036854775808)(hj:j<9223372036854775808)(h:Lib.itoa (i:Int)=Lib.itoa (j:Int)):i=j:=by
 rw[Vl (by omega),Vl (by omega)] at h;have h1:=Q3U (u:=(i:Int).toNat) (by omega);have h2:=Q3U (u:=(j:Int).toNat) (by omega);rw[h,h2] at h1
 simp only[Lib.NumEnd.ok.injEq] at h1
 omega
theorem Q3F(c:UInt8)(hc:97≤c.toNat∧c.toNat≤122){i:Nat}(hi:i<9999999999):Qi (c::Lib.itoa (i:Int))=true:=by
 have hl:(Lib.itoa (i:Int)).length≤10:=by
  rw[Vl (by omega),Lib.decDigits_length];exact Kc 9 _ (by omega)
 unfold Qi
 rw[Bool.and_eq_true,Bool.and_eq_true,List.all_eq_true];refine⟨⟨?_,?_⟩,fun x hx=>?_⟩
 ·rw[List.length_cons];exact decide_eq_true (by omega)
 ·exact decide_eq_true hc
 ·rcases List.mem_cons.1 hx with rfl|hx
  ·exact Q0J hc.1 hc.2
  ·rw[Vl (by omega)] at hx;have:=JC _ _ hx;exact Q1Q this.1 this.2
theorem QaZ{i:Nat}(hi:i<F.length)(h40:F.length≤40):Xa ((Za F).take i) (114::Lib.itoa (i:Int))<0:=by
 rw[Q3n]
 ·decide
 ·intro j r hj hr hn
  have hji:j<i:=by
   rw[List.length_take] at hj
   omega
  rw[List.getElem?_take,if_pos hji,Jt] at hr
  cases hF:F[j]? with
  |none=>rw[hF] at hr;cases hr
  |some q=>
   rw[hF] at hr
   cases hr
   have hn:(114:UInt8)::Lib.itoa (j:Int)=114::Lib.itoa (i:Int):=hn;have:=Q7d (by omega) (by omega) (List.cons.inj hn).2
   omega
theorem Qcd{i:Nat}{r:Rl}(hi:i<F.length)(h40:F.length≤40){n:Nat}(h:X5 r (F.take i) n=0):X5 (Yz i r) ((Za F).take i) n=0:=by
 have h1:=Q37 h;have e1:Qi (Yz i r).name=true:=Q3F 114 (by decide) (by omega);have e2:Xa ((Za F).take i) (Yz i r).name<0:=QaZ hi h40
 unfold X5 at h ⊢
 rw[if_neg (by rw[h1.1];decide),if_neg (by rw[decide_eq_true_eq];omega)] at h;rw[if_neg (by rw[e1];decide),if_neg (by rw[decide_eq_true_eq];omega)];have e3:(Yz i r).names.length=r.names.length:=List.length_mapIdx;rw[e3];exact h
theorem Q3q(F:List Rl)(x:Int):Vf (Za F) x=Vf F x:=by
 unfold Vf
 rw[Jt]
 cases F[x.toNat]?<;>rfl
theorem QaR(F:List Rl)(x:Int):Jo (Za F) x=Jo F x:=by
 unfold Jo
 rw[Jt]
 cases F[x.toNat]?<;>rfl
theorem Q3e{g:Nat→Int}:∀(n i:Nat),(∀j,i≤j→j<i+n→g j=0)→Jp g i n=0
 |0,i,_=>rfl
 |n+1,i,h=>by
  rw[Jp,if_pos (h i (Nat.le_refl _) (by omega))]
  exact Q3e n (i+1) fun j h1 h2=>h j (by omega) (by omega)
theorem Qdh{i:Nat}{r:Rl}(h12:r.names.length≤12)(h:Jv F r=0):Jv (Za F) (Yz i r)=0:=by
 unfold Jv at h ⊢
 change (if (Qp r.kind&&!Zf (Vf (Za F) r.count))=true then 13 else if (r.kind != 7)=true then 0 else Jp (J2 (Za F) (Yz i r).names r.parts) 0 (Yz i r).names.length)=0
 rw[Q3q]
 split at h
 ·next h1=>rw[if_pos h1];exact h
 ·next h1=>
  rw[if_neg h1]
  split at h
  ·next h2=>rw[if_pos h2]
  ·next h2=>
   rw[if_neg h2];have hl:(Yz i r).names.length=r.names.length:=List.length_mapIdx;rw[hl]
   refine Q3e _ _ fun j _ hj=>?_
   have h0:=KN _ _ h j (by omega) (by omega)
   have hjl:j<r.names.length:=by omega
   have hget:(Yz i r).names.getD j []=Jq j r.names[j]:=by
    show (r.names.mapIdx Jq).getD j []=_
    rw[List.getD_eq_getElem?_getD,List.getElem?_mapIdx,List.getElem?_eq_getElem hjl]
    rfl
   unfold J2 at h0 ⊢
   rw[hget];rw[List.getD_eq_getElem?_getD,List.getElem?_eq_getElem hjl,Option.getD_some] at h0;have ek:Vf (Za F) (r.parts.getD j 0)=Vf F (r.parts.getD j 0):=Q3q F _;rw[ek]
   by_cases hs:r.names[j]=[]
   ·have e1:Jq j r.names[j]=[]:=by unfold Jq;rw[if_pos hs]
    rw[hs] at h0;rw[e1];exact h0
   ·have e1:Jq j r.names[j]=112::Lib.itoa (j:Int):=by unfold Jq;rw[if_neg hs]
    rw[e1,if_neg (by simp),if_neg (by rw[Q3F 112 (by decide) (by omega)];decide),if_neg]
    unfold Zu
    rw[List.contains_iff_mem];intro hm;obtain⟨q,hq,e2⟩:=List.mem_iff_getElem.1 hm
    have hq':q<j∧q<r.names.length:=by
     rw[List.length_take] at hq;have:(Yz i r).names.length=r.names.length:=hl
     omega
    rw[List.getElem_take] at e2;have e3:(Yz i r).names[q]'(by rw[hl];exact hq'.2)=Jq q r.names[q]:=List.getElem_mapIdx ..;rw[e3] at e2
    unfold Jq at e2
    split at e2
    ·cases e2
    ·have:=Q7d (i:=q) (j:=j) (by omega) (by omega) (List.cons.inj e2).2
     omega
theorem Qco(F:List Rl):bg (Za F)=bg F:=by
 funext i
 unfold bg
 rw[Jt]
 cases F[i]?<;>rfl
theorem Qd2(F:List Rl):Km (Za F)=Km F:=by
 funext k
 have e1:Zh (Za F)=Zh F:=by
  funext st out i
  unfold Zh
  rw[Qco]
 have e2:Zi (Za F)=Zi F:=by
  funext st out
  unfold Zi
  rw[e1,JF]
 unfold Km Zb
 rw[e2,JF]
theorem Qcn(F:List Rl)(out:List Bool)(i:Nat)(r:Rl):JB (Za F) out (Yz i r)=JB F out r:=by
 unfold JB
 have e:Jo (Za F) (Yz i r).count=Jo F r.count:=QaR F _;rw[e]
 rfl
theorem QcD(F:List Rl):ZC (Za F)=ZC F:=by
 have e1:Z5 (Za F)=Z5 F:=by
  funext out k
  unfold Z5
  rw[Jt]
  cases F[k]? with
  |none=>rfl
  |some r=>simp only[Option.map_some];rw[Qcn]
 have e2:Zl (Za F)=Zl F:=by
  funext out
  unfold Zl
  rw[e1,JF]
 unfold ZC
 rw[e2,JF]
theorem Q8Z(F:List Rl):JS (Za F)=JS F:=by
 have e1:JU (Za F)=JU F:=by
  funext S k
  unfold JU
  rw[Qco]
 have e2:ZQ (Za F)=ZQ F:=by
  funext S
  unfold ZQ
  rw[e1,JF]
 have e3:(Za F).map Yq=F.map Yq:=by
  refine List.ext_getElem? fun i=>?_
  rw[List.getElem?_map,List.getElem?_map,Jt]
  cases F[i]?<;>rfl
 unfold JS
 rw[e2,JF,e3]
theorem Qam(h:Xb F=(0,0)):Xb (Za F)=(0,0):=by
 have hp:=KP h
 unfold Xb at h ⊢
 rw[JF]
 split at h
 ·cases h
 next h0=>
 split at h
 ·cases h
 next h40=>
 rw[if_neg h0,if_neg h40]
 have er:∀j,j<F.length→Zt (Za F) j=0:=fun j hj=>by
  have hr:F[j]? =some F[j]:=List.getElem?_eq_getElem hj;have h1:=hp.rule j hj;rw[VT hr] at h1;rw[VT (r:=Yz j F[j]) (by rw[Jt,hr];rfl),JF];exact Qcd hj (by omega) h1
 have eu:∀j,j<F.length→JM (Za F) j=0:=fun j hj=>by
  have hr:F[j]? =some F[j]:=List.getElem?_eq_getElem hj;have h1:=hp.use j hj;have hok:=hp.fok j _ hr;rw[YP hr] at h1;rw[YP (r:=Yz j F[j]) (by rw[Jt,hr];rfl)];refine Qdh ?_ h1
  by_cases h7:F[j].kind=7
  ·rw[(hok.seven h7).1];exact hok.p12
  ·rw[(Q1m hok).names h7];decide
 have ec:ZM (Za F)=ZM F:=by
  funext k
  unfold ZM
  rw[Jt,Q8Z]
  cases F[k]?<;>rfl
 rw[Xy (fun j hj=>by simpa using er j hj)]
 simp only
 rw[Xy (fun j hj=>by simpa using eu j hj)]
 simp only
 rw[Qd2,QcD,ec];rw[Xy (fun j hj=>by simpa using hp.rule j hj)] at h
 simp only at h
 rw[Xy (fun j hj=>by simpa using hp.use j hj)] at h;exact h
end
def Q2v(i:Nat)(r:Rl):Rl:={ r with name:=114::Lib.itoa i,names:=(r.names.take 13).mapIdx Jq }
def Q1O(F:List Rl)(m:Nat):List Rl:=(F.take m).mapIdx Q2v
theorem Qal{F:List Rl}{m:Nat}{r:Rl}(h:F[m]? =some r):Q1O F (m+1)=Q1O F m++[Q2v m r]:=by
 obtain⟨hm,hr⟩:=List.getElem?_eq_some_iff.1 h
 unfold Q1O
 rw[List.take_add_one,h,Option.toList_some,List.mapIdx_concat,List.length_take,Nat.min_eq_left (by omega)]
theorem Qab{L:List (List UInt8)}{k:Nat}{s:List UInt8}(h:L[k]? =some s):(L.take (k+1)).mapIdx Jq=(L.take k).mapIdx Jq++[Jq k s]:=by
 obtain⟨hm,hr⟩:=List.getElem?_eq_some_iff.1 h;rw[List.take_add_one,h,Option.toList_some,List.mapIdx_concat,List.length_take,Nat.min_eq_left (by omega)]
theorem Qck{F:List Rl}(h40:F.length≤41)(h12:∀r∈F,r.names.length≤13):Q1O F F.length=Za F:=by
 unfold Q1O Za
 rw[List.take_length]
 apply List.ext_getElem?
 intro i;rw[List.getElem?_mapIdx,List.getElem?_mapIdx]
 cases hF:F[i]? with
 |none=>rfl
 |some r=>
  have h:=h12 r (List.mem_of_getElem? hF)
  show some (Q2v i r)=some (Yz i r)
  unfold Q2v Yz
  rw[List.take_of_length_le h]
theorem K2{i:Nat}(hi:i<100):(Lib.itoa (i:Int)).length≤10:=by
 rw[Vl (by omega),Lib.decDigits_length];exact Kc 9 _ (by omega)
theorem Q6m{k:Nat}(hk:k<100)(s:List UInt8):(Jq k s).length≤11:=by
 unfold Jq
 split
 ·exact Nat.zero_le _
 ·rw[List.length_cons];have:=K2 hk
  omega
theorem Qd5{i:Nat}{r:Rl}(hi:i<100)(h:RSm r):RSm (Q2v i r):=by
 refine⟨?_,h.bs,?_,h.parts,?_⟩
 ·show (114::Lib.itoa (i:Int)).length≤_
  rw[List.length_cons];have:=K2 hi
  omega
 ·show ((r.names.take 13).mapIdx Jq).length≤_
  rw[List.length_mapIdx,List.length_take]
  omega
 ·intro s hs;have hs:s∈(r.names.take 13).mapIdx Jq:=hs;obtain⟨k,hk,rfl⟩:=List.mem_iff_getElem.1 hs;rw[List.length_mapIdx,List.length_take] at hk;rw[List.getElem_mapIdx];have:=Q6m (k:=k) (by omega) ((r.names.take 13)[k]'(by rw[List.length_take];omega))
  omega
theorem Qdb{F:List Rl}{m:Nat}(hm:m≤41)(h:FSm F):FSm (Q1O F m):=by
 refine⟨?_,fun x hx=>?_⟩
 ·unfold Q1O
  rw[List.length_mapIdx,List.length_take]
  omega
 ·unfold Q1O at hx
  obtain⟨k,hk,rfl⟩:=List.mem_iff_getElem.1 hx;rw[List.length_mapIdx,List.length_take] at hk;rw[List.getElem_mapIdx];exact Qd5 (by omega) (h.2 _ (List.mem_of_mem_take (List.getElem_mem _)))
theorem Qbv(F:List Rl)(x:Int):VQ (Za F) x=VQ F x:=by
 unfold VQ
 rw[Jt]
 cases F[x.toNat]?<;>rfl
theorem Q89(F:List Rl)(old:List Int):Jz (Za F) old=Jz F old:=by
 unfold Jz
 apply List.ext_getElem?
 intro i;rw[List.getElem?_map,List.getElem?_map,Jt]
 cases F[i]? with
 |none=>rfl
 |some r=>
  show some (V2 (Za F) old (Yz i r))=some (V2 F old r)
  have e:VQ (Za F) (Yz i r).count=VQ F r.count:=Qbv F _
  unfold V2
  rw[e]
  rfl
theorem Qaf(F:List Rl):XG (Za F)=XG F:=by
 unfold XG ZV
 rw[JF,show Jz (Za F)=Jz F from funext (Q89 F)]
theorem QdP{F:List Rl}{k:Int}(h:Jw F k=(0,0)):inB k 0 ((F.length:Int) - 1)=true:=by
 unfold Jw at h
 split at h
 ·next hn=>exact absurd h hn
 ·split at h
  ·next h1=>exact h1
  ·cases h
theorem Qae{F:List Rl}(hc:Xb (Za F)=(0,0)):QO (Za F)=(0,0)∨QO (Za F)=(14,-1):=by
 unfold QO
 rw[hc,if_neg (fun h=>h rfl)]
 by_cases hl:2000<(J1 (Za F)).length
 ·rw[if_pos hl];exact .inr rfl
 ·rw[if_neg hl];exact .inl rfl
theorem Qdf{F:List Rl}{k:Int}(h:Jw F k=(0,0)):Jw (Za F) k=(0,0)∨Jw (Za F) k=(14,-1):=by
 have hin:=QdP h
 unfold Jw
 rw[JF,hin]
 rcases Qae (Qam (VP (Q32 h).1)) with h1|h1
 ·rw[h1,if_neg (fun h=>h rfl)];exact .inl rfl
 ·rw[h1,if_pos (by decide)];exact .inr rfl
theorem Q7G{F:List Rl}{k:Int}(h:Jw F k=(0,0))(h2:Jw (Za F) k=(0,0)):ZT (Za F) k=ZT F k:=by
 unfold ZT
 rw[if_pos h,if_pos h2]
 unfold QaY
 rw[Q8Z]
theorem Q7K{F:List Rl}{k:Int}(h:Jw F k=(0,0))(h2:Jw (Za F) k=(0,0)):Ju (Za F) k=Ju F k:=by
 unfold Ju
 rw[if_pos h,if_pos h2,Qaf]
theorem Qbc{F:List Rl}(h:Xb F=(0,0)):∀r∈F,r.names.length≤12:=by
 intro r hr;obtain⟨i,hi,rfl⟩:=List.mem_iff_getElem.1 hr;have hok:=(KP h).fok i _ (List.getElem?_eq_getElem hi)
 by_cases h7:F[i].kind=7
 ·rw[(hok.seven h7).1];exact hok.p12
 ·rw[(Q1m hok).names h7];decide
theorem Qdk{F:List Rl}{k:Int}(h:Jw F k=(0,0)):F.length≤40∧Q1O F F.length=Za F:=by
 have hc:=VP (Q32 h).1;have h40:=(Q1N hc).2;exact⟨h40,Qck (by omega) (fun r hr=>by have:=Qbc hc r hr;omega)⟩
theorem Qe0{F:List Rl}{k ca cb:Int}(h:Jw F k=(ca,cb))(hz:¬(ca,cb)=((0,0):Int×Int)):ca≠0:=by
 intro h0;subst h0
 unfold Jw at h
 split at h
 ·have h1:=Yf h;subst h1;exact hz rfl
 ·split at h
  ·cases h
   exact hz rfl
  ·cases h
end Go.Proofs.YtgdiadednlajgaaGreatDoor
