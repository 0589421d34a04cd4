import Derived.Test.YtgdiadednlajgaaGreatDoorP32
namespace Go.Proofs.YtgdiadednlajgaaGreatDoor
set_option linter.unusedVariables false
set_option linter.unusedSimpArgs false
theorem Qav:Q0l []=false:=rfl
def okB(bad:Bool)(N k:Nat):Bool:=!bad&&(((N - k:Nat):Int)==0)
section
variable {name w1:List UInt8}{rest:List (List UInt8)}{N k1 k2 k3 k4:Nat}{bad:Bool}
theorem XT{b:Bool}{A B:Prop}(h:b=false)(hB:B):if b then A else B:=by rw[h];exact hB
theorem Q0H{b:Bool}{A B:Prop}(h:b=true)(hA:A):if b then A else B:=by rw[h];exact hA
theorem Q0Q(h:k1<N):okB bad N k1=false:=by
 unfold okB
 rw[beq_eq_false_iff_ne.2 (by omega),Bool.and_false]
theorem Zq(h:bad=true):okB bad N k1=false:=by unfold okB;rw[h];rfl
theorem Q1W(h:bad=false)(h2:k1=N):okB bad N k1=true:=by unfold okB;rw[h,h2,Nat.sub_self];rfl
theorem JP{x:List UInt8}(h:Z0 x=true):Z9 x=some (XF x):=by unfold Z9;rw[if_pos h]
theorem VO{x:List UInt8}(h:Z0 x=false):Z9 x=none:=by unfold Z9;rw[if_neg (by rw[h];exact Bool.false_ne_true)]
theorem Q2I(ws:List (List UInt8)):QD name 1 ws=(match ws with|[x]=>if x=[] then none else (X3 x).map fun b=>({ QN name 1 with bs:=b },[])|_=>none):=rfl
theorem Q2K(ws:List (List UInt8)):QD name 2 ws=(match ws with|[a,o,m,x]=>(match Z9 a,Z9 m,Z9 x with|some a,some m,some x=>if o=V3∨o=Ze then some ({ QN name 2 with size:=a,big:=o==V3,mn:=m,mx:=x },[]) else none|_,_,_=>none)|_=>none):=rfl
theorem Q1B(ws:List (List UInt8)):QD name 3 ws=(match ws with|[a,b]=>(match Z9 a,Z9 b with|some a,some b=>some ({ QN name 3 with stop:=a,mx:=b },[])|_,_=>none)|_=>none):=rfl
theorem Q2R(ws:List (List UInt8)):QD name 4 ws=(match ws with|[a]=>(Z9 a).map fun a=>({ QN name 4 with size:=a },[])|_=>none):=rfl
theorem Q0R(ws:List (List UInt8)):QD name 5 ws=(match ws with|[a,b]=>(match Z9 a,Z9 b with|some a,some b=>some ({ QN name 5 with stop:=a,size:=b },[])|_,_=>none)|_=>none):=rfl
theorem Q1u(ws:List (List UInt8)):QD name 6 ws=(match ws with|[a,b]=>if Qi a&&Qi b then some (QN name 6,[a,b]) else none|_=>none):=rfl
theorem Q0X(ws:List (List UInt8)):QD name 9 ws=(match ws with|[a,b]=>(match Z9 a with|some a=>if Qi b then some ({ QN name 9 with stop:=a },[b]) else none|none=>none)|_=>none):=rfl
theorem Q1s(ws:List (List UInt8)):QD name 10 ws=(match ws with|[a]=>if Qi a then some (QN name 10,[a]) else none|_=>none):=rfl
theorem Q2T(ws:List (List UInt8)):QD name 7 ws=((Jl ws).map fun p=>({ QN name 7 with names:=p.1 },p.2)):=rfl
theorem Q5m(ws:List (List UInt8)):QD name 8 ws=(if ws.all Qi then some (QN name 8,ws) else none):=rfl
theorem Qfn{out:List UInt8}(hN:N=rest.length+2)(h1:k1=min (2+1) N)(hb:bad=((false||decide (N≤2))||!(Q0l (wAt (name::w1::rest) 2))))(ho:∀o,X3 (wAt (name::w1::rest) 2)=some o→wAt (name::w1::rest) 2≠[]→o=out):
  if okB bad N k1 then QD name 1 rest=some ({ QN name 1 with bs:=out },[]) else QD name 1 rest=none:=by
 rw[Q2I]
 match rest with
 |[]=>
  have e:okB bad N k1=false:=by rw[hb];unfold okB;simp [hN]
  exact XT e rfl
 |[a]=>
  have hN':N=3:=hN
  have hk:k1=3:=by omega
  have hw:wAt [name,w1,a] 2=a:=rfl;rw[hw] at hb ho
  simp only
  by_cases ha:a=[]
  ·have e:okB bad N k1=false:=by rw[hb,ha];unfold okB;simp [Qav]
   exact XT e (by rw[if_pos ha])
  ·rw[if_neg ha]
   cases hu:X3 a with
   |none=>
    have e:okB bad N k1=false:=by rw[hb];unfold okB Q0l;simp [hu]
    exact XT e rfl
   |some o=>
    have e:okB bad N k1=true:=by rw[hb,hN',hk];unfold okB Q0l;simp [hu,ha]
    rw[ho o hu ha];exact Q0H e rfl
 |a::b::t=>
  have hN':N=t.length+4:=by rw[hN];simp only[List.length_cons]
  have e:okB bad N k1=false:=by
   unfold okB
   rw[beq_eq_false_iff_ne.2 (by omega),Bool.and_false]
  exact XT e rfl
theorem QfO(hN:N=rest.length+2)(h1:k1=min (2+1) N)(hb:bad=((false||decide (N≤2))||!(Z0 (wAt (name::w1::rest) 2)))):
  if okB bad N k1 then QD name 4 rest=some ({ QN name 4 with size:=XF (wAt (name::w1::rest) 2) },[]) else QD name 4 rest=none:=by
 rw[Q2R]
 match rest with
 |[]=>exact XT (Zq (by rw[hb];simp [hN])) rfl
 |[a]=>
  have hN':N=3:=hN;have hw:wAt [name,w1,a] 2=a:=rfl;rw[hw] at hb ⊢
  simp only
  cases ha:Z0 a with
  |false=>rw[VO ha];exact XT (Zq (by rw[hb,ha];simp)) rfl
  |true=>rw[JP ha];exact Q0H (Q1W (by rw[hb,ha,hN'];rfl) (by omega)) rfl
 |a::b::t=>
  have hN':N=t.length+4:=by rw[hN];simp only[List.length_cons]
  exact XT (Q0Q (by omega)) rfl
theorem Qf0(hN:N=rest.length+2)(h1:k1=min (2+1) N)(hb:bad=((false||decide (N≤2))||!(Qi (wAt (name::w1::rest) 2)))):
  if okB bad N k1 then QD name 10 rest=some (QN name 10,[wAt (name::w1::rest) 2]) else QD name 10 rest=none:=by
 rw[Q1s]
 match rest with
 |[]=>exact XT (Zq (by rw[hb];simp [hN])) rfl
 |[a]=>
  have hN':N=3:=hN;have hw:wAt [name,w1,a] 2=a:=rfl;rw[hw] at hb ⊢
  simp only
  cases ha:Qi a with
  |false=>exact XT (Zq (by rw[hb,ha];simp)) rfl
  |true=>exact Q0H (Q1W (by rw[hb,ha,hN'];rfl) (by omega)) rfl
 |a::b::t=>
  have hN':N=t.length+4:=by rw[hN];simp only[List.length_cons]
  exact XT (Q0Q (by omega)) rfl
theorem Q5c{va vb:List UInt8→Bool}{X:Option (Rl×List (List UInt8))}{Y:List UInt8→List UInt8→Rl×List (List UInt8)}(hva:va []=false)(hvb:vb []=false)(hN:N=rest.length+2)(h1:k1=min (2+1) N)(h2:k2=min (k1+1) N)(hb:bad=((((false||decide (N≤2))||!(va (wAt (name::w1::rest) 2)))||decide (N≤k1))||!(vb (wAt (name::w1::rest) k1))))
  (hX:∀a b,rest=[a,b]→X=if va a&&vb b then some (Y a b) else none) (hno:(∀a b,rest≠[a,b])→X=none):
  if okB bad N k2 then X=some (Y (wAt (name::w1::rest) 2) (wAt (name::w1::rest) k1)) else X=none:=by
 match rest,hX,hno with
 |[],hX,hno=>exact XT (Zq (by rw[hb];simp [hN])) (hno (by simp))
 |[a],hX,hno=>
  have hN':N=3:=hN
  have hk:k1=3:=by omega
  exact XT (Zq (by rw[hb,hN',hk];simp)) (hno (by simp))
 |[a,b],hX,hno=>
  have hN':N=4:=hN
  have hk:k1=3:=by omega
  have hk2:k2=4:=by omega
  have hw:wAt [name,w1,a,b] 2=a:=rfl;have hw2:wAt [name,w1,a,b] 3=b:=rfl;rw[hk,hw,hw2,hN'] at hb;rw[hk,hw,hw2,hX a b rfl]
  cases ha:va a with
  |false=>exact XT (Zq (by rw[hb,ha];simp)) rfl
  |true=>
   cases hb':vb b with
   |false=>exact XT (Zq (by rw[hb,ha,hb'];simp)) rfl
   |true=>exact Q0H (Q1W (by rw[hb,ha,hb'];rfl) (by omega)) rfl
 |a::b::c::t,hX,hno=>
  have hN':N=t.length+5:=by rw[hN];simp only[List.length_cons]
  exact XT (Q0Q (by omega)) (hno (by simp))
theorem QfG(hN:N=rest.length+2)(h1:k1=min (2+1) N)(h2:k2=min (k1+1) N)(hb:bad=((((false||decide (N≤2))||!(Z0 (wAt (name::w1::rest) 2)))||decide (N≤k1))||!(Z0 (wAt (name::w1::rest) k1)))):
  if okB bad N k2 then QD name 3 rest=some ({ QN name 3 with stop:=XF (wAt (name::w1::rest) 2),mx:=XF (wAt (name::w1::rest) k1) },[]) else QD name 3 rest=none:=by
 refine Q5c (va:=Z0) (vb:=Z0) (Y:=fun a b=>({ QN name 3 with stop:=XF a,mx:=XF b },[])) rfl rfl hN h1 h2 hb (fun a b e=>?_) (fun hno=>?_)
 ·rw[e];rw[Q1B]
  simp only
  cases ha:Z0 a with
  |false=>rw[VO ha];rfl
  |true=>
   cases hb':Z0 b with
   |false=>rw[JP ha,VO hb'];rfl
   |true=>rw[JP ha,JP hb'];rfl
 ·rw[Q1B]
  match rest with
  |[]=>rfl
  |[a]=>rfl
  |[a,b]=>exact absurd rfl (hno a b)
  |a::b::c::t=>rfl
theorem QfB(hN:N=rest.length+2)(h1:k1=min (2+1) N)(h2:k2=min (k1+1) N)(hb:bad=((((false||decide (N≤2))||!(Z0 (wAt (name::w1::rest) 2)))||decide (N≤k1))||!(Z0 (wAt (name::w1::rest) k1)))):
  if okB bad N k2 then QD name 5 rest=some ({ QN name 5 with stop:=XF (wAt (name::w1::rest) 2),size:=XF (wAt (name::w1::rest) k1) },[]) else QD name 5 rest=none:=by
 refine Q5c (va:=Z0) (vb:=Z0) (Y:=fun a b=>({ QN name 5 with stop:=XF a,size:=XF b },[])) rfl rfl hN h1 h2 hb (fun a b e=>?_) (fun hno=>?_)
 ·rw[e];rw[Q0R]
  simp only
  cases ha:Z0 a with
  |false=>rw[VO ha];rfl
  |true=>
   cases hb':Z0 b with
   |false=>rw[JP ha,VO hb'];rfl
   |true=>rw[JP ha,JP hb'];rfl
 ·rw[Q0R]
  match rest with
  |[]=>rfl
  |[a]=>rfl
  |[a,b]=>exact absurd rfl (hno a b)
  |a::b::c::t=>rfl
theorem Qfs(hN:N=rest.length+2)(h1:k1=min (2+1) N)(h2:k2=min (k1+1) N)(hb:bad=((((false||decide (N≤2))||!(Qi (wAt (name::w1::rest) 2)))||decide (N≤k1))||!(Qi (wAt (name::w1::rest) k1)))):
  if okB bad N k2 then QD name 6 rest=some (QN name 6,[wAt (name::w1::rest) 2,wAt (name::w1::rest) k1]) else QD name 6 rest=none:=by
 refine Q5c (va:=Qi) (vb:=Qi) (Y:=fun a b=>(QN name 6,[a,b])) rfl rfl hN h1 h2 hb (fun a b e=>?_) (fun hno=>?_)
 ·rw[e];rw[Q1u]
 ·rw[Q1u]
  match rest with
  |[]=>rfl
  |[a]=>rfl
  |[a,b]=>exact absurd rfl (hno a b)
  |a::b::c::t=>rfl
theorem Qfp(hN:N=rest.length+2)(h1:k1=min (2+1) N)(h2:k2=min (k1+1) N)(hb:bad=((((false||decide (N≤2))||!(Z0 (wAt (name::w1::rest) 2)))||decide (N≤k1))||!(Qi (wAt (name::w1::rest) k1)))):
  if okB bad N k2 then QD name 9 rest=some ({ QN name 9 with stop:=XF (wAt (name::w1::rest) 2) },[wAt (name::w1::rest) k1]) else QD name 9 rest=none:=by
 refine Q5c (va:=Z0) (vb:=Qi) (Y:=fun a b=>({ QN name 9 with stop:=XF a },[b])) rfl rfl hN h1 h2 hb (fun a b e=>?_) (fun hno=>?_)
 ·rw[e];rw[Q0X]
  simp only
  cases ha:Z0 a with
  |false=>rw[VO ha];rfl
  |true=>
   rw[JP ha,Bool.true_and]
 ·rw[Q0X]
  match rest with
  |[]=>rfl
  |[a]=>rfl
  |[a,b]=>exact absurd rfl (hno a b)
  |a::b::c::t=>rfl
theorem QfA(hN:N=rest.length+2)(h1:k1=min (2+1) N)(h2:k2=min (k1+1) N)(h3:k3=min (k2+1) N)(h4:k4=min (k3+1) N)(hb:bad=((((((((false||decide (N≤2))||!(Z0 (wAt (name::w1::rest) 2)))||decide (N≤k1))||!(K8 (wAt (name::w1::rest) k1)))||decide (N≤k2))||!(Z0 (wAt (name::w1::rest) k2)))||decide (N≤k3))||!(Z0 (wAt (name::w1::rest) k3)))):
  if okB bad N k4 then QD name 2 rest=some ({ QN name 2 with size:=XF (wAt (name::w1::rest) 2),big:=wAt (name::w1::rest) k1==V3,mn:=XF (wAt (name::w1::rest) k2),mx:=XF (wAt (name::w1::rest) k3) },[]) else QD name 2 rest=none:=by
 rw[Q2K]
 match rest with
 |[]=>exact XT (Zq (by rw[hb];simp [hN])) rfl
 |[a]=>
  have hN':N=3:=hN
  have hk:k1=3:=by omega
  exact XT (Zq (by rw[hb,hN',hk];simp)) rfl
 |[a,b]=>
  have hN':N=4:=hN
  have hk:k1=3:=by omega
  have hk2:k2=4:=by omega
  exact XT (Zq (by rw[hb,hN',hk2];simp)) rfl
 |[a,b,c]=>
  have hN':N=5:=hN
  have hk3:k3=5:=by omega
  exact XT (Zq (by rw[hb,hN',hk3];simp)) rfl
 |[a,b,c,d]=>
  have hN':N=6:=hN
  have hk:k1=3:=by omega
  have hk2:k2=4:=by omega
  have hk3:k3=5:=by omega
  have hw:wAt [name,w1,a,b,c,d] 2=a:=rfl;have hw2:wAt [name,w1,a,b,c,d] 3=b:=rfl;have hw3:wAt [name,w1,a,b,c,d] 4=c:=rfl;have hw4:wAt [name,w1,a,b,c,d] 5=d:=rfl;rw[hk,hk2,hk3,hw,hw2,hw3,hw4,hN'] at hb;rw[hk,hk2,hk3,hw,hw2,hw3,hw4]
  simp only
  cases ha:Z0 a with
  |false=>rw[VO ha];exact XT (Zq (by rw[hb,ha];simp)) rfl
  |true=>
   rw[JP ha]
   cases hc:Z0 c with
   |false=>rw[VO hc];exact XT (Zq (by rw[hb,hc];simp)) rfl
   |true=>
    rw[JP hc]
    cases hd:Z0 d with
    |false=>rw[VO hd];exact XT (Zq (by rw[hb,hd];simp)) rfl
    |true=>
     rw[JP hd]
     simp only
     by_cases ho:b=V3∨b=Ze
     ·rw[if_pos ho]
      have hob:K8 b=true:=by
       unfold K8
       rcases ho with e|e<;>rw[e]<;>rfl
      exact Q0H (Q1W (by rw[hb,ha,hc,hd,hob];rfl) (by omega)) rfl
     ·rw[if_neg ho]
      have hob:K8 b=false:=by
       unfold K8
       rw[Bool.or_eq_false_iff,beq_eq_false_iff_ne,beq_eq_false_iff_ne];exact⟨fun e=>ho (.inl e),fun e=>ho (.inr e)⟩
      exact XT (Zq (by rw[hb,hob];simp)) rfl
 |a::b::c::d::e::t=>
  have hN':N=t.length+7:=by rw[hN];simp only[List.length_cons]
  exact XT (Q0Q (by omega)) rfl
theorem Qa1(w:List UInt8):Yb w=if Q2x true w then none else some (Ye w,Q3K true w):=by
 have h1:Q2x true w=((!(Xp 58 w).2.2||(!((Xp 58 w).1==[45])&&!(Qi (Xp 58 w).1)))||!(Qi (Xp 58 w).2.1)):=rfl;have h2:Q3K true w=(Xp 58 w).2.1:=rfl;have h3:Ye w=if (Xp 58 w).1==[45] then [] else (Xp 58 w).1:=rfl;rw[h1,h2,h3]
 unfold Yb
 cases (Xp 58 w).2.2<;>cases ((Xp 58 w).1==[45])<;>cases Qi (Xp 58 w).1<;>cases Qi (Xp 58 w).2.1<;>rfl
theorem Q0N:∀ws:List (List UInt8),Jl ws=if ws.any (Q2x true) then none else some (ws.map Ye,ws.map (Q3K true))
 |[]=>rfl
 |w::l=>by
  unfold Jl
  rw[Qa1 w,Q0N l,List.any_cons]
  cases Q2x true w<;>cases l.any (Q2x true)<;>rfl
theorem Q9y:∀ws:List (List UInt8),ws.any (Q2x false)=!(ws.all Qi)
 |[]=>rfl
 |w::l=>by
  rw[List.any_cons,List.all_cons,Q9y l,show Q2x false w=!(Qi w) from rfl]
  cases Qi w<;>cases l.all Qi<;>rfl
theorem QbD:∀ws:List (List UInt8),ws.map (Q3K false)=ws
 |[]=>rfl
 |w::l=>by rw[List.map_cons,QbD l];rfl
theorem Q7q{j:Nat}(hN:N=rest.length+2)(hj:j=N):wIn (name::w1::rest) 2 j=rest:=by
 have h:=QcJ (ws:=name::w1::rest) (k:=2);rw[hj,hN];exact h
theorem Qfm{y:PaY}(hN:N=rest.length+2)(hj:y.j=N)(h:PaI true (name::w1::rest) N 2 false [] y):
  if okB y.b N y.j then QD name 7 rest=some ({ QN name 7 with names:=y.nm },y.ns) else QD name 7 rest=none:=by
 have hb:=h.b;have hns:=h.ns;have hnm:=h.nm;rw[Q7q hN hj] at hb hns hnm;rw[Bool.false_or] at hb;rw[Q2T,Q0N,hnm,hns,← hb]
 cases hyb:y.b with
 |true=>exact XT (Zq rfl) rfl
 |false=>exact Q0H (Q1W rfl hj) rfl
theorem Qfk{y:PaY}(hN:N=rest.length+2)(hj:y.j=N)(h:PaI false (name::w1::rest) N 2 false [] y):
  (if okB y.b N y.j then QD name 8 rest=some (QN name 8,y.ns) else QD name 8 rest=none)∧y.nm=[]:=by
 have hb:=h.b;have hns:=h.ns;have hnm:=h.nm;rw[Q7q hN hj] at hb hns;rw[Bool.false_or,Q9y] at hb;refine⟨?_,hnm⟩;rw[Q5m,hns,QbD]
 cases hyb:y.b with
 |true=>
  rw[hyb] at hb;refine XT (Zq rfl) ?_;rw[if_neg];intro e;rw[e] at hb
  cases hb
 |false=>
  rw[hyb] at hb;refine Q0H (Q1W rfl hj) ?_;rw[if_pos]
  ·rfl
  ·cases ha:rest.all Qi with
   |true=>rfl
   |false=>rw[ha] at hb;cases hb
end
open Go.RowKit
theorem Q78(x:List UInt8):∀(zs:List (List UInt8)) (i:Nat),Lib.idxFromS (zs.map fun l=>(⟨l.toArray⟩:ByteArray)) ⟨x.toArray⟩ i=match zs.findIdx? (·==x) with|some j=>((i+j:Nat):Int)|none=>-1
 |[],i=>rfl
 |z::zs,i=>by
  rw[List.map_cons,Lib.idxFromS,List.findIdx?_cons]
  by_cases h:z=x
  ·subst h
   simp
  ·have h1:¬(⟨z.toArray⟩:ByteArray)=⟨x.toArray⟩:=by
    intro e
    apply h
    have:=congrArg (fun s:ByteArray=>s.data.toList) e
    simpa using this
   have h2:(z==x)=false:=beq_eq_false_iff_ne.2 h;rw[h2,if_neg h1,if_neg Bool.false_ne_true,Q78 x zs (i+1)]
   cases zs.findIdx? (·==x) with
   |none=>rfl
   |some j=>
    show ((i+1+j:Nat):Int)=((i+(j+1):Nat):Int)
    congr 1
    omega
theorem Q7H{w:World}{b:Nat}{x:List UInt8}(hr:Rd w w.heap.size 1 (some ⟨b,0,none⟩) 10 (sv JA)):Calls Tryz.prog 76 #[.slice (some ⟨b,0,none⟩) 10 10,.string ⟨x.toArray⟩] w fun e w'=>e=.returned (.int .i64 (kwK x - 1))∧Below w.heap.size w w':=by
 refine(Tryz.slices_Index_string b 0 10 10 (JA.map fun l=>(⟨l.toArray⟩:ByteArray)) ⟨x.toArray⟩ w (by decide) (by decide) (fun j hj=>?_)).mono ?_
 ·obtain⟨b',o,e,_,hc⟩:=hr.2 (by decide)
  cases e
  refine hc j _ ?_;rw[List.length_map] at hj
  unfold sv
  rw[List.getElem?_map,List.getD_eq_getElem?_getD,List.getElem?_map,List.getElem?_eq_getElem hj]
  rfl
 ·rintro e w' ⟨rfl,rfl⟩
  refine⟨?_,Below.refl _ _⟩
  have h:Lib.idxOfS ((JA.map fun l=>(⟨l.toArray⟩:ByteArray)).take 10) ⟨x.toArray⟩=kwK x - 1:=by
   rw[show (JA.map fun l=>(⟨l.toArray⟩:ByteArray)).take 10=JA.map fun l=>(⟨l.toArray⟩:ByteArray) from rfl]
   unfold Lib.idxOfS
   rw[Q78]
   unfold kwK
   cases JA.findIdx? (·==x) with
   |none=>rfl
   |some j=>simp only;omega
  rw[h]
theorem Qbs{M:List Nat}{W w:World}{O:List Qg}{l:List UInt8}(hg:GV w)(hl:l.length≤1048576)(hw:Wd M W O w):
  Calls Tryz.prog 74 #[.string ⟨l.toArray⟩,.string ⟨#[32]⟩] w (QW (fun b:Nat=>.slice (some ⟨b,0,none⟩) (spl 32 l).length (spl 32 l).length) (fun _=>True) M W (fun b=>.rd (some ⟨b,0,none⟩) (spl 32 l).length 1 (sv (spl 32 l))::O)):=by
 obtain⟨m,hm⟩:=hg.ml;refine(Tryz.strings_Split ⟨l.toArray⟩ ⟨#[32]⟩ m w (by rw[Xh];omega) hm (by decide)).mono ?_
 rintro e w' ⟨rfl,rfl⟩
 have hd:(Lib.splitB ⟨#[32]⟩ 0 (Lib.countB ⟨l.toArray⟩ ⟨#[32]⟩) ⟨l.toArray⟩).map (fun s=>s.data.toList)=spl 32 l:=(Lib.splitB_data _ _ _ _).trans (Q41 32 l)
 have hlen:(spl 32 l).length=Lib.countB ⟨l.toArray⟩ ⟨#[32]⟩+1:=by
  rw[← hd,List.length_map];exact Lib.splitB_all ⟨#[32]⟩ (by decide) 0 _ _ rfl
 have hcs:(Lib.splitB ⟨#[32]⟩ 0 (Lib.countB ⟨l.toArray⟩ ⟨#[32]⟩) ⟨l.toArray⟩).map Value.string=sv (spl 32 l):=by
  rw[← hd]
  unfold sv
  rw[List.map_map]
  refine List.map_congr_left fun s _=>?_
  show Value.string s=Value.string ⟨s.data.toList.toArray⟩
  rw[show (⟨s.data.toList.toArray⟩:ByteArray)=s from Lib.mk_data s]
 rw[hcs,← hlen];refine⟨w.heap.size,rfl,trivial,hw.push ((Below.refl _ _).alloc (Nat.le_refl _) _) ⟨by rw[Q1R,Nat.mul_one],fun _=>⟨w.heap.size,0,rfl,by simp,fun j u hu=>?_⟩⟩ (fun b' hb'=>?_)⟩
 ·rw[Nat.zero_add];exact(cell_of_row _ w.heap.size j _ _ (0,0) (heap_alloc_new _ _)).trans (by rw[List.getElem?_toArray];exact hu)
 ·simp only[Qg.foot] at hb'
  split at hb'
  ·cases hb'
  ·cases hb';exact Nat.le_refl _
end Go.Proofs.YtgdiadednlajgaaGreatDoor
