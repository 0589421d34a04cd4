import Derived.Test.YtgdiadednlajgaaGreatDoorP35
import Derived.Test.YtgdiadednlajgaaGreatDoorP30
namespace Go.Proofs.YtgdiadednlajgaaGreatDoor
set_option linter.unusedVariables false
set_option linter.unusedSimpArgs false
theorem Q4R:∀{x o:List UInt8},X3 x=some o→o.length≤x.length
 |[],o,h=>by
  rw[X3] at h
  cases h
  exact Nat.le_refl _
 |[_],o,h=>by
  rw[X3] at h
  cases h
 |a::b::l,o,h=>by
  rw[X3] at h
  split at h
  ·cases h
  ·cases hu:X3 l with
   |none=>rw[hu] at h;cases h
   |some o'=>
    rw[hu] at h
    cases h
    have:=Q4R hu
    simp only[List.length_cons]
    omega
structure KSz(B:Nat)(name:List UInt8)(n:Nat)(x:Rl)(refs:List (List UInt8)):Prop where
 name:x.name=name
 bs:x.bs.length≤B
 nn:x.names.length≤n
 each:∀s∈x.names,s.length≤B
 parts:x.parts=[]
 rf:refs.length≤n
 use:(Qp x.kind=true∨XJ x.kind=true)→refs.length=(if Qp x.kind then 1 else 0)+(if XJ x.kind then 1 else 0)
theorem Q9Z(w:List UInt8):(Ye w).length≤w.length:=by
 unfold Ye
 split
 ·exact Nat.zero_le _
 ·exact(Q1z 58 w).1
theorem Q8f{name:List UInt8}{k:Int}{ws:List (List UInt8)}{x:Rl}{refs:List (List UInt8)}{B:Nat}(hB:∀w∈ws,w.length≤B)(h:QD name k ws=some (x,refs)):KSz B name ws.length x refs:=by
 have mk:∀(y:Rl) (rs:List (List UInt8)),some (y,rs)=some (x,refs)→KSz B name ws.length y rs→KSz B name ws.length x refs:=by
  intro y rs e hk
  cases e
  exact hk
 have dull:∀(y:Rl),y.name=name→y.bs=[]→y.names=[]→y.parts=[]→∀(rs:List (List UInt8)),rs.length≤ws.length→((Qp y.kind=true∨XJ y.kind=true)→rs.length=(if Qp y.kind then 1 else 0)+(if XJ y.kind then 1 else 0))→KSz B name ws.length y rs:=by
  intro y h1 h2 h3 h4 rs h5 h6;exact⟨h1,by rw[h2];exact Nat.zero_le _,by rw[h3];exact Nat.zero_le _,(by rw[h3];intro s hs;cases hs),h4,h5,h6⟩
 unfold QD at h
 by_cases k1:k=1
 ·subst k1;rw[if_pos rfl] at h
  match ws,hB,h,mk with
  |[],_,h,_=>cases h
  |[a],hB,h,mk=>
   simp only at h
   split at h
   ·cases h
   ·cases hu:X3 a with
    |none=>rw[hu] at h;cases h
    |some o=>
     rw[hu] at h;refine mk _ _ h ⟨rfl,?_,Nat.zero_le _,fun s hs=>(by cases hs),rfl,Nat.zero_le _,fun hh=>?_⟩
     ·have:=Q4R hu;have h2:=hB a (by simp)
      show o.length≤B
      omega
     ·rcases hh with hh|hh<;>cases (show false=true from hh)
  |_::_::_,_,h,_=>cases h
 rw[if_neg k1] at h
 by_cases k2:k=2
 ·subst k2;rw[if_pos rfl] at h
  match ws,h,mk,dull with
  |[],h,_,_=>cases h
  |[_],h,_,_=>cases h
  |[_,_],h,_,_=>cases h
  |[_,_,_],h,_,_=>cases h
  |[a,o,m,x'],h,mk,dull=>
   simp only at h
   split at h
   ·split at h
    ·exact mk _ _ h (dull _ rfl rfl rfl rfl _ (Nat.zero_le _) fun hh=>by rcases hh with hh|hh<;>cases (show false=true from hh))
    ·cases h
   ·cases h
  |_::_::_::_::_::_,h,_,_=>cases h
 rw[if_neg k2] at h
 by_cases k3:k=3
 ·subst k3;rw[if_pos rfl] at h
  match ws,h,mk,dull with
  |[],h,_,_=>cases h
  |[_],h,_,_=>cases h
  |[a,b],h,mk,dull=>
   simp only at h
   split at h
   ·exact mk _ _ h (dull _ rfl rfl rfl rfl _ (Nat.zero_le _) fun hh=>by rcases hh with hh|hh<;>cases (show false=true from hh))
   ·cases h
  |_::_::_::_,h,_,_=>cases h
 rw[if_neg k3] at h
 by_cases k4:k=4
 ·subst k4;rw[if_pos rfl] at h
  match ws,h,mk,dull with
  |[],h,_,_=>cases h
  |[a],h,mk,dull=>
   simp only at h
   cases hn:Z9 a with
   |none=>rw[hn] at h;cases h
   |some v=>
    rw[hn] at h;exact mk _ _ h (dull _ rfl rfl rfl rfl _ (Nat.zero_le _) fun hh=>by rcases hh with hh|hh<;>cases (show false=true from hh))
  |_::_::_,h,_,_=>cases h
 rw[if_neg k4] at h
 by_cases k5:k=5
 ·subst k5;rw[if_pos rfl] at h
  match ws,h,mk,dull with
  |[],h,_,_=>cases h
  |[_],h,_,_=>cases h
  |[a,b],h,mk,dull=>
   simp only at h
   split at h
   ·exact mk _ _ h (dull _ rfl rfl rfl rfl _ (Nat.zero_le _) fun hh=>by rcases hh with hh|hh<;>cases (show false=true from hh))
   ·cases h
  |_::_::_::_,h,_,_=>cases h
 rw[if_neg k5] at h
 by_cases k6:k=6
 ·subst k6;rw[if_pos rfl] at h
  match ws,h,mk,dull with
  |[],h,_,_=>cases h
  |[_],h,_,_=>cases h
  |[a,b],h,mk,dull=>
   simp only at h
   split at h
   ·exact mk _ _ h (dull _ rfl rfl rfl rfl _ (Nat.le_refl _) fun _=>rfl)
   ·cases h
  |_::_::_::_,h,_,_=>cases h
 rw[if_neg k6] at h
 by_cases k9:k=9
 ·subst k9;rw[if_pos rfl] at h
  match ws,h,mk,dull with
  |[],h,_,_=>cases h
  |[_],h,_,_=>cases h
  |[a,b],h,mk,dull=>
   simp only at h
   split at h
   ·split at h
    ·exact mk _ _ h (dull _ rfl rfl rfl rfl _ (by simp) fun _=>rfl)
    ·cases h
   ·cases h
  |_::_::_::_,h,_,_=>cases h
 rw[if_neg k9] at h
 by_cases k10:k=10
 ·subst k10;rw[if_pos rfl] at h
  match ws,h,mk,dull with
  |[],h,_,_=>cases h
  |[a],h,mk,dull=>
   simp only at h
   split at h
   ·exact mk _ _ h (dull _ rfl rfl rfl rfl _ (Nat.le_refl _) fun _=>rfl)
   ·cases h
  |_::_::_,h,_,_=>cases h
 rw[if_neg k10] at h
 by_cases k7:k=7
 ·subst k7;rw[if_pos rfl,Q0N] at h
  split at h
  ·cases h
  ·refine mk _ _ h ⟨rfl,Nat.zero_le _,?_,?_,rfl,?_,fun hh=>?_⟩
   ·show (ws.map Ye).length≤ws.length
    rw[List.length_map];exact Nat.le_refl _
   ·intro s hs;obtain⟨w,hw,rfl⟩:=List.mem_map.1 (show s∈ws.map Ye from hs);exact Nat.le_trans (Q9Z w) (hB w hw)
   ·show (ws.map (Q3K true)).length≤ws.length
    rw[List.length_map];exact Nat.le_refl _
   ·rcases hh with hh|hh<;>cases (show false=true from hh)
 rw[if_neg k7] at h
 by_cases k8:k=8
 ·subst k8;rw[if_pos rfl] at h
  split at h
  ·exact mk _ _ h (dull _ rfl rfl rfl rfl _ (Nat.le_refl _) fun hh=>by rcases hh with hh|hh<;>cases (show false=true from hh))
  ·cases h
 rw[if_neg k8] at h
 cases h
theorem Q33{l:List UInt8}{x:Rl}{refs:List (List UInt8)}(hl:l.length≤2000)(h:Zo l=some (x,refs)):x.name.length≤2000∧KSz 2000 x.name 2001 x refs:=by
 obtain⟨h1,h2⟩:=YK 32 l
 unfold Zo at h
 match hs:spl 32 l,h,h1,h2 with
 |[],h,_,_=>cases (show (none:Option (Rl×List (List UInt8)))=some (x,refs) from h)
 |[_],h,_,_=>cases (show (none:Option (Rl×List (List UInt8)))=some (x,refs) from h)
 |name::kw::ws,h,h1,h2=>
  rw[V5] at h
  split at h
  ·have hk:=Q8f (B:=2000) (fun w hw=>by have:=h2 w (by simp [hw]);omega) h;have hn:=h2 name (by simp)
   simp only[List.length_cons] at h1
   have e:=hk.name;refine⟨by rw[e];omega,rfl,hk.bs,?_,hk.each,hk.parts,?_,hk.use⟩
   ·have:=hk.nn;omega
   ·have:=hk.rf;omega
  ·cases h
theorem Q9b{s t r:List UInt8}{k:Int}(hs:s≠[])(h:Xp 10 s=(t,r,false)):QS k (spl 10 s)=.error k:=by
 rw[(Q58 h).1,QS,if_neg hs]
theorem QaW{s t r:List UInt8}{k:Int}{e:Bool}(hs:s≠[])(h:Xp 10 s=(t,r,e))(hb:Zo t=none):QS k (spl 10 s)=.error k:=by
 cases e with
 |false=>exact Q9b hs h
 |true=>
  rw[(Vo h).1]
  cases hr:spl 10 r with
  |nil=>exact absurd hr (Kz 10 r)
  |cons m t'=>rw[QS,hb]
theorem Qdu{s t r:List UInt8}{k:Int}{x:Rl×List (List UInt8)}(h:Xp 10 s=(t,r,true))(hb:Zo t=some x):QS k (spl 10 s)=(match QS (k+1) (spl 10 r) with|.ok xs=>.ok (x::xs)|.error e=>.error e):=by
 rw[(Vo h).1]
 cases hr:spl 10 r with
 |nil=>exact absurd hr (Kz 10 r)
 |cons m t'=>
  rw[QS,hb]
  rfl
theorem Q9J{F G:List Rl}(h:F.map Rl.name=G.map Rl.name)(s:List UInt8):Xa F s=Xa G s:=by
 have e:∀L:List Rl,L.findIdx? (fun r=>r.name==s)=(L.map Rl.name).findIdx? (fun n=>n==s):=by
  intro L
  induction L with
  |nil=>rfl
  |cons x l ih=>rw[List.map_cons,List.findIdx?_cons,List.findIdx?_cons,ih]
 unfold Xa
 rw[e F,e G,h]
theorem Q47{F G:List Rl}(h:F.map Rl.name=G.map Rl.name):∀refs:List (List UInt8),Xe F refs=Xe G refs
 |[]=>rfl
 |s::l=>by rw[Xe,Xe,Q9J h s,Q47 h l]
theorem Q5T{F G:List Rl}(h:F.map Rl.name=G.map Rl.name)(p:Rl×List (List UInt8)):Xf F p=Xf G p:=by
 unfold Xf
 rw[Q47 h]
theorem Q4n{F:List Rl}{x r:Rl}{refs:List (List UInt8)}(h:Xf F (x,refs)=some r):r.name=x.name∧r.bs=x.bs∧r.names=x.names∧r.parts.length≤refs.length∧r.kind=x.kind:=by
 unfold Xf at h
 have hp:∀{refs:List (List UInt8)} {ns:List Int},Xe F refs=some ns→ns.length=refs.length:=by
  intro refs
  induction refs with
  |nil=>intro ns e;rw[Xe] at e;cases e;rfl
  |cons s l ih=>
   intro ns e;rw[Xe] at e
   split at e
   ·cases e
   ·cases hl:Xe F l with
    |none=>rw[hl] at e;cases e
    |some ms=>
     rw[hl] at e
     cases e
     rw[List.length_cons,List.length_cons,ih hl]
 cases hns:Xe F refs with
 |none=>simp only[hns] at h;cases h
 |some ns=>
  simp only[hns] at h
  cases h
  have hl:=hp hns;refine⟨rfl,rfl,rfl,?_,rfl⟩
  show (if XJ x.kind then (if Qp x.kind then ns.tail else ns).tail else (if Qp x.kind then ns.tail else ns)).length≤refs.length
  have h1:(if Qp x.kind then ns.tail else ns).length≤ns.length:=by
   split
   ·rw[List.length_tail];omega
   ·exact Nat.le_refl _
  split
  ·rw[List.length_tail]
   omega
  ·omega
theorem QbE{w:World}{A:Option Addr}{n:Nat}{cur:List RlY}(hr:Rd w w.heap.size 12 A n (QR cur))(hn:cur.length=n)(hf:∀y∈cur,RlF y w):Xq w w.heap.size A n (cur.map RlY.x):=by
 refine⟨by rw[List.length_map];exact hn,fun h0=>?_⟩;obtain⟨b,o,e,hb,hc⟩:=hr.2 h0;refine⟨b,o,e,hb,fun i r hi=>?_⟩;rw[List.getElem?_map] at hi
 cases hy:cur[i]? with
 |none=>rw[hy] at hi;cases hi
 |some y=>
  rw[hy] at hi
  cases hi
  have hcell:∀j v,j<12→y.cells[j]? =some v→w.cell? ⟨b,o+i*12+j,none⟩=some v:=fun j v hj hv=>by
   rw[Nat.add_assoc];exact hc (i*12+j) v (by rw[ZZ cur i y j hy hj];exact hv)
  have hfy:=hf y (List.mem_of_getElem? hy);refine⟨.slice y.Ab y.x.bs.length y.cb,.slice y.An y.x.names.length y.cn,.slice y.Ap y.x.parts.length y.cp,⟨hcell 0 _ (by decide) rfl,hcell 1 _ (by decide) rfl,hcell 2 _ (by decide) rfl,hcell 3 _ (by decide) rfl,hcell 4 _ (by decide) rfl,hcell 5 _ (by decide) rfl,hcell 6 _ (by decide) rfl,hcell 7 _ (by decide) rfl,hcell 8 _ (by decide) rfl,hcell 9 _ (by decide) rfl,hcell 10 _ (by decide) rfl,hcell 11 _ (by decide) rfl⟩,?_⟩;exact⟨_,_,_,_,_,_,_,_,_,rfl,rfl,rfl,hfy.r.cb,hfy.r.cn,hfy.r.cp,hfy.r.b,hfy.r.n,hfy.r.p⟩
theorem Qce{w:World}{A:Option Addr}{n c:Nat}{e:TypeId}{cur:List RlY}(h:(Qg.row A n c e 12 (QR cur)).on w)(hn:cur.length=n)(hf:∀y∈cur,RlF y w):Xq w w.heap.size A n (cur.map RlY.x):=QbE (XN h (by decide)).1 hn hf
open Go.RowKit
theorem Wd.swapL{M:List Nat}{W w:World}{L P O:List Qg}(h:Wd M W (L++(P++O)) w):Wd M W (P++(L++O)) w:=by
 refine h.ofMap (fun i=>if i<P.length then L.length+i else if i<P.length+L.length then i - P.length else i) (fun i j h=>by (repeat' split at h)<;>omega) (fun i x hx=>?_)
 by_cases h1:i<P.length
 ·rw[if_pos h1];rw[List.getElem?_append_left h1] at hx;rw[List.getElem?_append_right (by omega),Nat.add_sub_cancel_left,List.getElem?_append_left h1];exact hx
 ·rw[if_neg h1];rw[List.getElem?_append_right (by omega)] at hx
  by_cases h2:i<P.length+L.length
  ·rw[if_pos h2];rw[List.getElem?_append_left (by omega)] at hx;rw[List.getElem?_append_left (by omega)];exact hx
  ·rw[if_neg h2];rw[List.getElem?_append_right (by omega)] at hx;rw[List.getElem?_append_right (by omega),List.getElem?_append_right (by omega)];rw[show i - L.length - P.length=i - P.length - L.length by omega];exact hx
theorem Wd.swap5{M:List Nat}{W w:World}{L O:List Qg}{a b c d e:Qg}(h:Wd M W (L++(a::b::c::d::e::O)) w):Wd M W (a::b::c::d::e::(L++O)) w:=Wd.swapL (P:=[a,b,c,d,e]) h
theorem Wd.swap41{M:List Nat}{W w:World}{L O:List Qg}{a b c d e:Qg}(h:Wd M W (a::(L++(b::c::d::e::O))) w):Wd M W (a::b::c::d::e::(L++O)) w:=
 Wd.swapL (L:=[b,c,d,e]) (P:=[a]) (Wd.swapL (L:=a::L) (P:=[b,c,d,e]) h)
theorem Q0Y{w:World}{A:Option Addr}{n c s:Nat}{e:TypeId}{xs:List Value}(h:(Qg.row A n c e s xs).on w)(h0:0<n):∃b,A=some ⟨b,0,none⟩:=by
 have h':w.ownsRow 0 e s (.slice A n c) n xs:=h
 rcases h'.2 with ⟨hv,_⟩|⟨g,cap,cur,hv,_⟩
 ·simp only[Value.slice.injEq] at hv
  omega
 ·simp only[Value.slice.injEq] at hv
  exact⟨g,hv.1⟩
def Kk{α:Type}(l:List α):Except Int (List α)→Except Int (List α)
 |.ok xs=>.ok (l++xs)
 |.error e=>.error e
theorem Q3V{α:Type}(a b:List α)(x:Except Int (List α)):Kk a (Kk b x)=Kk (a++b) x:=by
 cases x with
 |error e=>rfl
 |ok xs=>simp [Kk]
theorem Q3h{α:Type}(x:Except Int (List α)):Kk [] x=x:=by cases x<;>rfl
theorem QbU{s t r:List UInt8}{k:Int}{x:Rl×List (List UInt8)}(h:Xp 10 s=(t,r,true))(hb:Zo t=some x):QS k (spl 10 s)=Kk [x] (QS (k+1) (spl 10 r)):=by
 rw[Qdu h hb]
 cases QS (k+1) (spl 10 r)<;>rfl
abbrev prL(y:RlY):Rl×List (List UInt8):=(y.x,y.refs)
def Jx(L:List RlY):List Value:=L.map fun y=>.slice y.Ar y.refs.length y.cr
theorem Q6Z(L:List RlY)(y:RlY):Jx (L++[y])=Jx L++[.slice y.Ar y.refs.length y.cr]:=by simp [Jx]
structure PrY where
 F:List Rl
 A:Option Addr
 c:Nat
 e:Int×Int
 ats:List Qg
abbrev PrY.v(y:PrY):Value:=.tuple #[.agg #[.slice y.A y.F.length y.c],.agg #[.int .i64 y.e.1,.int .i64 y.e.2]]
structure PrI(s:List UInt8)(y:PrY):Prop where
 e:Zn s=(y.F,y.e)
 c:y.F.length≤y.c
 sm:FSm y.F
 w:∀a∈y.ats,a.w=false
 f:∀w,(∀a∈y.ats,a.on w)→Xq w w.heap.size y.A y.F.length y.F
theorem Y8{W w:World}{O:List Qg}{s:List UInt8}{a b:Int}(h:Zn s=([],a,b))(hw:Wd [] W O w):QW PrY.v (PrI s) [] W (fun y=>y.ats++O) (.returned (.tuple #[.agg #[.slice none 0 0],.agg #[.int .i64 a,.int .i64 b]])) w:=
 ⟨⟨[],none,0,(a,b),[]⟩,rfl,⟨h,Nat.le_refl _,⟨Nat.zero_le _,fun r hr=>(by cases hr)⟩,fun a ha=>(by cases ha),fun w _=>⟨rfl,fun h0=>absurd h0 (Nat.lt_irrefl 0)⟩⟩,hw⟩
theorem Q2W{s:List UInt8}(h:2000<s.length):Zn s=([],3,-1):=by unfold Zn;rw[if_pos h]
theorem Y9{s:List UInt8}{k:Int}(h:¬2000<s.length)(h1:QS 0 (spl 10 s)=.error k):Zn s=([],1,k):=by unfold Zn;rw[if_neg h,h1]
theorem Q1M{s:List UInt8}{k:Int}{xs:List (Rl×List (List UInt8))}(h:¬2000<s.length)(h1:QS 0 (spl 10 s)=.ok xs)(h2:QF (xs.map (·.1)) 0 xs=.error k):Zn s=([],12,k):=by
 unfold Zn
 rw[if_neg h,h1]
 simp only[h2]
theorem Q4v{s:List UInt8}{xs:List (Rl×List (List UInt8))}{F:List Rl}(h:¬2000<s.length)(h1:QS 0 (spl 10 s)=.ok xs)(h2:QF (xs.map (·.1)) 0 xs=.ok F)(h3:QO F≠(0,0)):Zn s=([],QO F):=by
 unfold Zn
 rw[if_neg h,h1]
 simp only[h2]
 rw[if_pos h3]
theorem Q4D{s:List UInt8}{xs:List (Rl×List (List UInt8))}{F:List Rl}(h:¬2000<s.length)(h1:QS 0 (spl 10 s)=.ok xs)(h2:QF (xs.map (·.1)) 0 xs=.ok F)(h3:QO F=(0,0)):Zn s=(F,0,0):=by
 unfold Zn
 rw[if_neg h,h1]
 simp only[h2]
 rw[if_neg (fun hh=>hh h3)]
structure PsY where
 ls:List RlY
 s:List UInt8
 A:Option Addr
 c:Nat
 B:Option Addr
 d:Nat
 at_:List Qg
structure PsI(s0:List UInt8)(y:PsY):Prop where
 res:QS 0 (spl 10 s0)=Kk (y.ls.map prL) (QS (y.ls.length:Int) (spl 10 y.s))
 sz:y.ls.length+y.s.length≤2000
 k:∀z∈y.ls,z.x.name.length≤2000∧KSz 2000 z.x.name 2001 z.x z.refs
 w:∀a∈y.at_,a.w=false
 f:∀w,(∀a∈y.at_,a.on w)→∀z∈y.ls,RlF z w
theorem PsI.next{s0 t r:List UInt8}{ls:List RlY}{s:List UInt8}{A B A' B':Option Addr}{c d c' d':Nat}{at_:List Qg}{y:RlY}(h:PsI s0 ⟨ls,s,A,c,B,d,at_⟩)(hc:Xp 10 s=(t,r,true))(hy:RlI t y)(hok:y.ok=true)(hrl:Zo t=some (y.x,y.refs)):PsI s0 ⟨ls++[y],r,A',c',B',d',y.ats++at_⟩:=by
 have e:=(Vo hc).2.1;have hsz:ls.length+s.length≤2000:=h.sz
 have hl:s.length=t.length+1+r.length:=by rw[e];simp only[List.length_append,List.length_cons];omega
 refine⟨?_,?_,?_,?_,?_⟩
 ·have h1:=h.res;rw[h1]
  show Kk (ls.map prL) (QS (ls.length:Int) (spl 10 s))=Kk ((ls++[y]).map prL) (QS ((ls++[y]).length:Int) (spl 10 r))
  rw[QbU hc hrl,Q3V,List.length_append,List.map_append,show ((ls.length+[y].length:Nat):Int)=(ls.length:Int)+1 from rfl]
  rfl
 ·show (ls++[y]).length+r.length≤2000
  rw[List.length_append,List.length_singleton]
  omega
 ·intro z hz
  rcases List.mem_append.1 hz with hz|hz
  ·exact h.k z hz
  ·rw[List.mem_singleton.1 hz];exact Q33 (by omega) hrl
 ·intro a ha
  rcases List.mem_append.1 ha with ha|ha
  ·exact hy.w a ha
  ·exact h.w a ha
 ·intro w hw z hz
  rcases List.mem_append.1 hz with hz|hz
  ·exact h.f w (fun a ha=>hw a (List.mem_append_right _ ha)) z hz
  ·rw[List.mem_singleton.1 hz];exact hy.f hok w (fun a ha=>hw a (List.mem_append_left _ ha))
structure P2Y where
 k:Nat
 cur:List RlY
 at_:List Qg
structure P2I(ls:List RlY)(y:P2Y):Prop where
 k:y.k≤ls.length
 len:y.cur.length=ls.length
 drop:y.cur.drop y.k=ls.drop y.k
 nm:(y.cur.map RlY.x).map Rl.name=(ls.map RlY.x).map Rl.name
 res:QF (ls.map RlY.x) 0 (ls.map prL)=Kk ((y.cur.take y.k).map RlY.x) (QF (ls.map RlY.x) (y.k:Int) ((ls.drop y.k).map prL))
 sm:∀z∈y.cur,RSm z.x
 w:∀a∈y.at_,a.w=false
 f:∀w,(∀a∈y.at_,a.on w)→(∀z∈y.cur,RlF z w)∧∀z∈ls,RlF z w
theorem P2I.start{ls:List RlY}{at_:List Qg}(hk:∀z∈ls,z.x.name.length≤2000∧KSz 2000 z.x.name 2001 z.x z.refs)(hw:∀a∈at_,a.w=false)(hf:∀w,(∀a∈at_,a.on w)→∀z∈ls,RlF z w):P2I ls ⟨0,ls,at_⟩:=by
 refine⟨Nat.zero_le _,rfl,rfl,rfl,?_,fun z hz=>?_,hw,fun w h=>⟨hf w h,hf w h⟩⟩
 ·exact(Q3h _).symm
 ·obtain⟨h1,h2⟩:=hk z hz;have a1:=h2.bs;have a2:=h2.nn;have a3:=h2.parts;exact⟨by omega,by omega,by omega,by rw[a3];decide,fun s hs=>by have:=h2.each s hs;omega⟩
theorem P2I.at_k{ls cur:List RlY}{k:Nat}{at_:List Qg}(h:P2I ls ⟨k,cur,at_⟩)(hk:k<ls.length):∃y,cur[k]? =some y∧ls[k]? =some y:=by
 have h1:=congrArg (fun l=>l[0]?) h.drop
 simp only[List.getElem?_drop,Nat.add_zero] at h1
 exact⟨_,h1.trans (List.getElem?_eq_getElem hk),List.getElem?_eq_getElem hk⟩
theorem P2I.res_k{ls cur:List RlY}{k:Nat}{at_:List Qg}{y:RlY}(h:P2I ls ⟨k,cur,at_⟩)(hy:ls[k]? =some y):QF (ls.map RlY.x) (k:Int) ((ls.drop k).map prL)=(match Xf (cur.map RlY.x) (y.x,y.refs) with|none=>.error (k:Int)|some r=>Kk [r] (QF (ls.map RlY.x) ((k:Int)+1) ((ls.drop (k+1)).map prL))):=by
 have hlt:=(List.getElem?_eq_some_iff.1 hy);obtain⟨hk,he⟩:=hlt;rw[List.drop_eq_getElem_cons hk,he,List.map_cons]
 show QF (ls.map RlY.x) (k:Int) ((y.x,y.refs)::(ls.drop (k+1)).map prL)=_
 rw[QF,Q5T h.nm]
 cases Xf (ls.map RlY.x) (y.x,y.refs) with
 |none=>rfl
 |some r=>
  simp only
  cases QF (ls.map RlY.x) ((k:Int)+1) ((ls.drop (k+1)).map prL)<;>rfl
theorem P2I.no{ls cur:List RlY}{k:Nat}{at_:List Qg}{y:RlY}(h:P2I ls ⟨k,cur,at_⟩)(hy:ls[k]? =some y)(hr:Xf (cur.map RlY.x) (y.x,y.refs)=none):QF (ls.map RlY.x) 0 (ls.map prL)=.error (k:Int):=by
 rw[h.res]
 show Kk ((cur.take k).map RlY.x) (QF (ls.map RlY.x) (k:Int) ((ls.drop k).map prL))=_
 rw[h.res_k hy,hr]
 rfl
theorem P2I.next{ls cur:List RlY}{k:Nat}{at_:List Qg}{y:RlY}{z:RsY}(h:P2I ls ⟨k,cur,at_⟩)(hy:cur[k]? =some y)(hy2:ls[k]? =some y)(hz:RsI cur k y z)(hok:z.ok=true)(hks:KSz 2000 y.x.name 2001 y.x y.refs):P2I ls ⟨k+1,z.cur,z.ats++at_⟩:=by
 have hk:k<cur.length:=(List.getElem?_eq_some_iff.1 hy).1;have hk2:k<ls.length:=(List.getElem?_eq_some_iff.1 hy2).1;have hcur:=hz.cur hok;have hyes:=hz.yes hok;obtain⟨s1,s2,s3,s4,s5⟩:=Q4n hyes;have hlen:cur.length=ls.length:=h.len;rw[hcur];refine⟨hk2,by rw[List.length_set];exact hlen,?_,?_,?_,?_,?_,?_⟩
 ·show (cur.set k _).drop (k+1)=ls.drop (k+1)
  rw[List.drop_set_of_lt (by omega)];have h1:=congrArg (List.drop 1) (show cur.drop k=ls.drop k from h.drop);rw[List.drop_drop,List.drop_drop] at h1;exact h1
 ·have h1:(cur.map RlY.x).map Rl.name=(ls.map RlY.x).map Rl.name:=h.nm;rw[← h1]
  apply List.ext_getElem?
  intro j
  simp only[List.getElem?_map,List.getElem?_set]
  by_cases e:k=j
  ·subst e;rw[if_pos rfl,if_pos hk,hy]
   simp only[Option.map_some]
   rw[s1]
  ·rw[if_neg e]
 ·rw[h.res]
  show Kk ((cur.take k).map RlY.x) (QF (ls.map RlY.x) (k:Int) ((ls.drop k).map prL))=Kk (((cur.set k _).take (k+1)).map RlY.x) (QF (ls.map RlY.x) ((k+1:Nat):Int) ((ls.drop (k+1)).map prL))
  rw[h.res_k hy2,hyes,show ((k+1:Nat):Int)=(k:Int)+1 from rfl]
  simp only
  rw[Q3V,List.take_add_one,List.getElem?_set,if_pos rfl,if_pos hk,List.take_set_of_le (Nat.le_refl _),List.map_append]
  rfl
 ·intro x hx
  rcases List.mem_or_eq_of_mem_set hx with hx|hx
  ·exact h.sm x hx
  ·have hsm:RSm y.x:=h.sm y (List.mem_of_getElem? hy);have hrf:=hks.rf;rw[hx];exact⟨by rw[s1];exact hsm.name,by rw[s2];exact hsm.bs,by rw[s3];exact hsm.names,(by show z.x.parts.length≤1048576;omega),by rw[s3];exact hsm.each⟩
 ·intro a ha
  rcases List.mem_append.1 ha with ha|ha
  ·exact hz.w a ha
  ·exact h.w a ha
 ·intro w hw;obtain⟨f1,f2⟩:=h.f w (fun a ha=>hw a (List.mem_append_right _ ha));refine⟨fun x hx=>?_,f2⟩
  rcases List.mem_or_eq_of_mem_set hx with hx|hx
  ·exact f1 x hx
  ·have fy:RlF y w:=f1 y (List.mem_of_getElem? hy);rw[hx];refine⟨⟨?_,?_,hz.c hok,?_,?_,hz.f hok w (fun a ha=>hw a (List.mem_append_left _ ha))⟩,fy.s,fy.c⟩
   ·show z.x.bs.length≤y.cb
    rw[s2];exact fy.r.cb
   ·show z.x.names.length≤y.cn
    rw[s3];exact fy.r.cn
   ·show Rd w w.heap.size 1 y.Ab z.x.bs.length (bv z.x.bs)
    rw[s2];exact fy.r.b
   ·show Rd w w.heap.size 1 y.An z.x.names.length (sv z.x.names)
    rw[s3];exact fy.r.n
theorem P2I.fin{ls cur:List RlY}{at_:List Qg}(h:P2I ls ⟨ls.length,cur,at_⟩):QF (ls.map RlY.x) 0 (ls.map prL)=.ok (cur.map RlY.x):=by
 rw[h.res]
 show Kk ((cur.take ls.length).map RlY.x) (QF (ls.map RlY.x) (ls.length:Int) ((ls.drop ls.length).map prL))=_
 rw[List.drop_length,List.map_nil,QF,Kk,List.append_nil,List.take_of_length_le (by rw[show cur.length=ls.length from h.len];exact Nat.le_refl _)]
theorem Q2H(ls:List RlY):(ls.map prL).map (·.1)=ls.map RlY.x:=by rw[List.map_map];rfl
def Zk(st:Nat→Bool)(c:Nat):List Int:=((List.range c).filter st).map fun(j:Nat)=>(j:Int)
theorem Q3g{st:Nat→Bool}{c:Nat}(h:st c=true):Zk st c++[(c:Int)]=Zk st (c+1):=by
 unfold Zk
 rw[List.range_succ,List.filter_append,List.map_append,List.filter_cons_of_pos h]
 rfl
theorem Q9e{st:Nat→Bool}{c:Nat}(h:st c=false):Zk st c=Zk st (c+1):=by
 unfold Zk
 rw[List.range_succ,List.filter_append,List.map_append,List.filter_cons_of_neg (by rw[h];exact Bool.false_ne_true),List.filter_nil,List.map_nil,List.append_nil]
theorem Q1r(st:Nat→Bool)(c:Nat):(Zk st c).length≤c:=by
 unfold Zk
 rw[List.length_map];exact Nat.le_trans (List.length_filter_le _ _) (by simp)
def QaY(F:List Rl)(k:Int):List Int:=Zk ((JS F).getD k.toNat Z2) 256
theorem Qer{w:World}{B b n k:Nat}{S:List (Nat→Bool)}(h:Rd w B 256 (some ⟨b,0,none⟩) n (Xk S))(hS:S.length=n)(hk:k<n):w.rangeAt b (0+k*256) (X2 (S.getD k Z2)):=fun q u hu=>by
 rw[Nat.add_assoc];exact h.cellAt (by omega) (Q0E S k (by omega) q u hu)
def QdA(W:World)(l:List Int)(p:Int×Int)(e:Ending)(w':World):Prop:=∃A c,e=.returned (.tuple #[.slice A l.length c,.agg #[.int .i64 p.1,.int .i64 p.2]])∧Rd w' w'.heap.size 1 A l.length (iv l)∧l.length≤c∧Below W.heap.size W w'
def ZT(F:List Rl)(k:Int):List Int:=if Jw F k=(0,0) then QaY F k else []
theorem Q32{F:List Rl}{k:Int}(h:Jw F k=(0,0)):QO F=(0,0)∧0≤k∧k<F.length:=by
 unfold Jw at h
 split at h
 ·next hn=>exact absurd h hn
 ·next hn=>
  split at h
  ·next hi=>
   have:=Xo.1 hi;exact⟨Classical.byContradiction hn,by omega,by omega⟩
  ·cases h
theorem Q4W{F:List Rl}(h:QO F=(0,0)):Xb F=(0,0):=by
 unfold QO at h
 split at h
 ·next hn=>exact absurd h hn
 ·next hn=>exact Classical.byContradiction hn
set_option maxRecDepth 100000 in
set_option maxHeartbeats 16000000 in
theorem J0{F:List Rl}{A:Option Addr}{n c:Nat}{k:Int}{W:World}(hf:Xq W W.heap.size A n F)(hs:FSm F)(hc:n≤c)(hg:GV W):
  Calls Tryz.prog 12 #[.agg #[.slice A n c],.int .i64 k] W (QdA W (ZT F k) (Jw F k)):=by
 have hlen:F.length=n:=hf.1;have HFM:=Lib.hid hf;have HS:=Lib.hid hs;have HG:=Lib.hid hg;have HLEN:=Lib.hid hlen;clear hf hs hg hlen;obtain⟨⟨a,b⟩,hab⟩:∃p,Jw F k=p:=⟨_,rfl⟩;have HC:=Lib.hid hab;rw[hab];clear hab
 go_enter Tryz.func12,Tryz.ntmps12
 refine QE (M:=[]) (W:=W) (N:=34) (E:=[(0,.agg #[.slice A n c]),(1,.int .i64 k)]) (O:=[]) ?_ (Ag.cons (Ag.cons (Ag.nil rfl rfl) rfl) rfl) (Wd.start [] W)
 by_cases hz:a=0∧b=0
 case neg=>
  have hne:(!(a==0&&b==0))=true:=by
   rw[Bool.not_eq_true',Bool.and_eq_false_iff,beq_eq_false_iff_ne,beq_eq_false_iff_ne]
   omega
  repeat(first|refine Q1 zM ?_|refine Q1 zA ?_|refine Q1 (zD 0) ?_|refine Q1 (zD 1) ?_|refine Qa (V6 rfl rfl rfl rfl) rfl (by decide) (fun bf _=>?_)|refine Qa (Xn (t:=27) rfl rfl) rfl (by decide) (fun b2 _=>?_)|(refine Q1 (Q4 (f:=31) rfl rfl (by decide) rfl rfl (fun w hw=>(Jk (HFM.out.on hw.k.below) HS.out hc (HG.out.on hw.k.below)).mono (fun _ _ h=>by rw[HC.out] at h;exact h))) ?_)|(refine Qq (Qs 0 rfl rfl rfl rfl rfl rfl rfl (by simp)) rfl (fun _ _=>?_);rw[Qw (by rfl)])|refine Q1 (QZ (xs:=[]) (vs:=[]) (v:=.agg #[.int .i64 0,.int .i64 0]) rfl rfl (by decide) rfl rfl (fun w=>run_build w _ _ _ (by kernel_rfl))) ?_|refine Q1 (VC rfl rfl (by decide) rfl rfl rfl hne) ?_|refine Q8 ?_|refine Q6 ?_|refine Q2 ?_|refine Q5 rfl ?_)
  refine ZW [2] (by kernel_rfl) ?_;refine Qk 0 rfl (by kernel_rfl) (Q7.rfl_) (zD 0) ?_;refine Qk 1 rfl (by kernel_rfl) (Q7.rfl_) zA ?_;refine Xw 2 (by kernel_rfl) rfl rfl (Qs 1 rfl rfl rfl rfl rfl rfl rfl (by simp)) (fun _=>.inl (by decide)) rfl (fun _ _=>?_);rw[Qw (by rfl)];refine Zc ?_ (by kernel_rfl);refine Ql (Qc ?_)
  have hff:ZT F k=[]:=by
   unfold ZT
   rw[HC.out,if_neg (fun h=>hz (by simpa using h))]
  rw[hff];exact Xv (by exact .inr rfl) rfl (.tmp rfl) (RsV.blk 1 rfl rfl rfl) (fun w hw=>⟨none,0,rfl,⟨rfl,fun h=>absurd h (by decide)⟩,Nat.le_refl _,hw.k.below⟩)
 case pos=>
  obtain⟨rfl,rfl⟩:=hz
  have hff:ZT F k=QaY F k:=by
   unfold ZT
   rw[HC.out,if_pos rfl]
  rw[hff];clear hff;obtain⟨hfa,hk0,hkn⟩:=Q32 HC.out;have hch:=Q4W hfa;have hlo:=Q1N hch;have hn0:=hlo.1;have hn40:=hlo.2;rw[HLEN.out] at hn0 hn40 hkn;have HF:=Lib.hid (KP hch).fok;clear hlo hch hfa;obtain⟨st,hst⟩:∃st,(JS F).getD k.toNat Z2=st:=⟨_,rfl⟩
  unfold QaY
  rw[hst];have HST:=Lib.hid hst;clear hst;have hk2:0≤k∧k<(n:Int):=⟨hk0,hkn⟩
  repeat(first|refine Q1 zM ?_|refine Q1 zA ?_|refine Q1 (zD 0) ?_|refine Q1 (zD 1) ?_|refine Q1 (zD 2) ?_|refine Qa (V6 rfl rfl rfl rfl) rfl (by decide) (fun bf _=>?_)|refine Qa (Xn (t:=27) rfl rfl) rfl (by decide) (fun b2 _=>?_)|(refine Q1 (Q4 (f:=31) rfl rfl (by decide) rfl rfl (fun w hw=>(Jk (HFM.out.on hw.k.below) HS.out hc (HG.out.on hw.k.below)).mono (fun _ _ h=>by rw[HC.out] at h;exact h))) ?_)|(refine Qq (Qs 0 rfl rfl rfl rfl rfl rfl rfl (by simp)) rfl (fun _ _=>?_);rw[Qw (by rfl)])|refine Q1 (QZ (xs:=[]) (vs:=[]) (v:=.agg #[.int .i64 0,.int .i64 0]) rfl rfl (by decide) rfl rfl (fun w=>run_build w _ _ _ (by kernel_rfl))) ?_|refine Q1 (VC rfl rfl (by decide) rfl rfl rfl rfl) ?_|refine Qa (Qx _ _ _ (f:=32) rfl rfl rfl (fun w hw=>Q4y HFM.out HF.out hn40 hn0 hw)) rfl (by decide) (fun y _=>?_)|refine Q1 (Qv rfl rfl (by decide) rfl rfl rfl hk2) ?_|(refine Q1 (X8 (cs:=X2 st) rfl rfl (by decide) rfl rfl (fun w hw=>by rw[← HST.out];exact Qer (hw.own 0 _ rfl) ((Q19 F).trans HLEN.out) (by omega)) (Qn _)) ?_)|refine Q8 ?_|refine Q6 ?_|refine Q2 ?_|refine Qh ?_|refine Q3 rfl ?_|refine Qe ?_)
  rename_i b3 _ _ _ _ _
  refine JI 3 1 ?_;refine X0 (ι:=Nat×Option Addr×Nat) (fun y=>y.1≤256) (fun y=>256 - y.1) (fun y=>[(5,.pointer (some ⟨b3,0,none⟩)),(7,.slice y.2.1 (Zk st y.1).length y.2.2),(21,.agg (X2 st).toArray),(22,.int .i64 (y.1:Int))]) (fun y=>[.row y.2.1 (Zk st y.1).length y.2.2 3 1 (iv (Zk st y.1)),.blk b3 (.cells [.int .i64 0,.int .i64 0].toArray 27 (0,0))]) (0,none,0) [0,3] (by decide) (Nat.zero_le _) (.cons rfl rfl (.cons rfl rfl (.cons rfl rfl (.cons rfl rfl .nil)))) rfl ?_
  rintro⟨i,A',c'⟩ hi
  have hi':i≤256:=hi;clear hi;have hsl:=Q1r st i
  show sE _ _ _ _ _ [(5,.pointer (some ⟨b3,0,none⟩)),(7,.slice A' (Zk st i).length c'),(21,.agg (X2 st).toArray),(22,.int .i64 (i:Int))] [.row A' (Zk st i).length c' 3 1 (iv (Zk st i)),.blk b3 (.cells [.int .i64 0,.int .i64 0].toArray 27 (0,0))] _
  by_cases hin:i<256
  ·obtain⟨s,hs⟩:∃s,st i=s:=⟨_,rfl⟩
   have hcell:(X2 st)[i]? =some (.bool s):=by rw[ZN st hin,hs]
   have HSI:=Lib.hid hs;clear hs
   cases s with
   |true=>
    repeat(first|refine Q1 zM ?_|refine Q1 zA ?_|refine Q1 (Yl (v:=.bool true) rfl rfl (by decide) rfl rfl rfl hin hcell) ?_|refine Qa (Qz (size:=1) (cs:=[.int .i64 (i:Int)]) rfl rfl rfl rfl rfl (by decide)) rfl (by decide) (fun bn _=>?_)|refine Qa (QC (news:=[.int .i64 (i:Int)]) 1 rfl rfl rfl rfl rfl (fun w hw=>hw.rd_blk 0 rfl rfl) (by simp [Value.oneCell']) (by omega)) rfl (by decide) (fun yz _=>?_)|refine Q8 ?_|refine Q6 ?_|refine Q2 ?_|refine Qh ?_|refine Q5 rfl ?_|refine Qe ?_|refine Q1 zlt ?_|refine Q1 zP ?_)
    refine QA (i+1,yz.1,yz.2) [1,2] (by decide) hin (by show 256 - (i+1)<256 - i;omega) (.cons rfl rfl (.cons rfl ?_ (.cons rfl rfl (.cons rfl (by go_num) .nil)))) ?_
    ·rw[← Q3g HSI.out,List.length_append]
     rfl
    ·show [Qg.row yz.1 ((Zk st i).length+1) yz.2 _ _ (iv (Zk st i)++iv [(i:Int)]),_]=[Qg.row yz.1 (Zk st (i+1)).length yz.2 _ _ (iv (Zk st (i+1))),_]
     rw[← Q3g HSI.out,List.length_append,Q8w]
     rfl
   |false=>
    have hno:=Q9e HSI.out
    repeat(first|refine Q1 zM ?_|refine Q1 zA ?_|refine Q1 (Yl (v:=.bool false) rfl rfl (by decide) rfl rfl rfl hin hcell) ?_|refine Q8 ?_|refine Q6 ?_|refine Q2 ?_|refine Qh ?_|refine Q5 rfl ?_|refine Q3 rfl ?_|refine Qe ?_|refine Q1 zlt ?_|refine Q1 zP ?_)
    refine QA (i+1,A',c') [0,1] (by decide) hin (by show 256 - (i+1)<256 - i;omega) (.cons rfl rfl (.cons rfl ?_ (.cons rfl rfl (.cons rfl (by go_num) .nil)))) ?_
    ·rw[← hno]
    ·show [Qg.row A' (Zk st i).length c' _ _ (iv (Zk st i)),_]=[Qg.row A' (Zk st (i+1)).length c' _ _ (iv (Zk st (i+1))),_]
     rw[← hno]
     rfl
  ·obtain rfl:i=256:=by omega
   repeat(first|refine Q1 zM ?_|refine Q1 zA ?_|refine Q1 (QZ (xs:=[]) (vs:=[]) (v:=.agg #[.int .i64 0,.int .i64 0]) rfl rfl (by decide) rfl rfl (fun w=>run_build w _ _ _ (by kernel_rfl))) ?_|(refine Qq (Qs 1 rfl rfl rfl rfl rfl rfl rfl (by simp)) rfl (fun _ _=>?_);rw[Qw (by rfl)])|refine Q8 ?_|refine Q6 ?_|refine Q2 ?_|refine Q3 rfl ?_|refine QX ?_|refine Ql ?_|refine Q1 zlf ?_)
   exact Xv (by exact .inr rfl) rfl (.tmp rfl) (RsV.blk 1 rfl rfl rfl) (fun w hw=>⟨A',c',rfl,(XN (hw.own 0 _ rfl) (by decide)).1,(XN (hw.own 0 _ rfl) (by decide)).2,hw.k.below⟩)
def slk:List Int→Nat
 |[]=>0
 |x::l=>(1001 - x).toNat+slk l
theorem Q9x:∀(l:List Int) (k:Nat) (v:Int),k<l.length→slk (l.set k v)+(1001 - l.getD k 0).toNat=slk l+(1001 - v).toNat
 |[],k,v,h=>absurd h (by simp)
 |x::l,0,v,_=>by
  show (1001 - v).toNat+slk l+(1001 - x).toNat=(1001 - x).toNat+slk l+(1001 - v).toNat
  omega
 |x::l,k+1,v,h=>by
  have ih:=Q9x l k v (by simpa using h)
  show (1001 - x).toNat+slk (l.set k v)+(1001 - l.getD k 0).toNat=(1001 - x).toNat+slk l+(1001 - v).toNat
  omega
theorem Kb(l:List Int)(k i:Nat)(b:Int)(hk:k<l.length):(l.set k b).getD i 0=if i=k then b else l.getD i 0:=by
 rw[List.getD_eq_getElem?_getD,List.getElem?_set,List.getD_eq_getElem?_getD]
 by_cases h:k=i
 ·subst h;simp [hk]
 ·rw[if_neg h,if_neg (fun e=>h e.symm)]
structure Lst(F:List Rl)(out:List Int):Prop where
 len:out.length=F.length
 nn:∀j:Nat,0≤out.getD j 0
 top:∀j:Nat,out.getD j 0≤1001
 post:∀(i:Nat) (r:Rl),F[i]? =some r→out.getD i 0≤min (ZL F out r) 1001
section
variable {F:List Rl}
theorem Q6f(a b:List Int)(h:∀j:Nat,a.getD j 0≤b.getD j 0):∀(l:List Int) (m n:Int),m≤n→l.foldl (fun s x=>min s (lk a x)) m≤l.foldl (fun s x=>min s (lk b x)) n
 |[],m,n,h0=>h0
 |x::l,m,n,h0=>by
  rw[List.foldl_cons,List.foldl_cons];refine Q6f a b h l _ _ ?_;have:lk a x≤lk b x:=h _
  omega
theorem QaD(hv:Usd F){a b:List Int}(hab:∀j:Nat,a.getD j 0≤b.getD j 0){i:Nat}{r:Rl}(hr:F[i]? =some r):ZL F a r≤ZL F b r:=by
 have hl:∀x,lk a x≤lk b x:=fun x=>hab _
 unfold ZL
 split
 ·exact Int.le_refl _
 split
 ·exact Int.le_refl _
 split
 ·exact Int.le_refl _
 split
 ·next h=>have:=hl r.count;omega
 split
 ·next h=>
  have h1:=hl r.count;have h2:=Int.mul_le_mul_of_nonneg_left (hl r.elem) (hv.least hr (.inl h)).1
  omega
 split
 ·exact K3 b a r.parts 0 0 (Int.le_refl _) fun x _=>hl x
 split
 ·exact Q6f a b hab r.parts 1001 1001 (Int.le_refl _)
 ·exact Int.le_refl _
theorem Lst.start(F:List Rl)(h:∀(i:Nat) (r:Rl),F[i]? =some r→0≤ZL F (List.replicate F.length 0) r):Lst F (List.replicate F.length 0):=by
 have h0:∀j:Nat,(List.replicate F.length (0:Int)).getD j 0=0:=fun j=>by
  rw[List.getD_eq_getElem?_getD,List.getElem?_replicate]
  split<;>rfl
 refine⟨List.length_replicate,fun j=>by rw[h0];omega,fun j=>by rw[h0];omega,fun i r hr=>?_⟩;rw[h0];have:=h i r hr
 omega
theorem Q59(a:List Int)(h:∀j:Nat,0≤a.getD j 0)(l:List Int)(n:Int)(hn:0≤n):0≤l.foldl (fun s x=>min s (lk a x)) n:=by
 rcases VN a l n with e|⟨x,_,e⟩
 ·rw[e];exact hn
 ·rw[e];exact h _
theorem Qdn(hv:Usd F){a:List Int}(h:∀j:Nat,0≤a.getD j 0){i:Nat}{r:Rl}(hr:F[i]? =some r):0≤ZL F a r:=by
 have hok:=hv.ok i r hr
 have hl:∀x,0≤lk a x:=fun x=>h _
 unfold ZL
 split
 ·omega
 split
 ·next h24=>
  rcases h24 with h2|h4
  ·have:=(hok.num h2).1;omega
  ·have:=(hok.size4 h4).1;omega
 split
 ·omega
 split
 ·next h=>have:=hl r.count;have:=(hv.least hr (.inr h)).1;omega
 split
 ·next h=>
  have h1:=hl r.count;have h2:=Int.mul_nonneg (hv.least hr (.inl h)).1 (hl r.elem)
  omega
 split
 ·have:=(Vi a r.parts 0 fun x _=>hl x).1
  unfold Q1h
  omega
 split
 ·exact Q59 a h _ _ (by omega)
 ·omega
theorem Lst.put(hv:Usd F){out:List Int}(h:Lst F out){k:Nat}{r:Rl}(hr:F[k]? =some r):Lst F (out.set k (min (ZL F out r) 1001)):=by
 have hk:k<out.length:=by rw[h.len];exact(List.getElem?_eq_some_iff.1 hr).1
 have hp:=h.post k r hr;have h0:=h.nn k
 have hge:∀j:Nat,out.getD j 0≤(out.set k (min (ZL F out r) 1001)).getD j 0:=fun j=>by
  rw[Kb _ _ _ _ hk]
  split
  ·next e=>subst e;exact hp
  ·exact Int.le_refl _
 refine⟨by rw[List.length_set];exact h.len,fun j=>Int.le_trans (h.nn j) (hge j),fun j=>?_,fun i q hq=>?_⟩
 ·rw[Kb _ _ _ _ hk]
  split
  ·omega
  ·exact h.top j
 ·have hm:=QaD hv hge hq;rw[Kb _ _ _ _ hk]
  split
  ·next e=>subst e;rw[hr] at hq;cases hq;omega
  ·have:=h.post i q hq;omega
theorem Lst.slk_lt{out:List Int}(h:Lst F out){k:Nat}{r:Rl}(hr:F[k]? =some r)(hne:min (ZL F out r) 1001≠out.getD k 0):slk (out.set k (min (ZL F out r) 1001))<slk out:=by
 have hk:k<out.length:=by rw[h.len];exact(List.getElem?_eq_some_iff.1 hr).1
 have hp:=h.post k r hr;have:=Q9x out k (min (ZL F out r) 1001) hk
 omega
theorem Lst.fix{out:List Int}(h:Lst F out)(he:∀(i:Nat) (r:Rl),F[i]? =some r→min (ZL F out r) 1001=out.getD i 0):Ym F out:=⟨h.len,fun i r hr=>(he i r hr).symm,h.nn⟩
end
structure LeV(w:World)(g bs n:Nat)(out:List Int)(gf:Nat)(A:Option Addr)(c:Nat):Prop where
 v:w.cell? ⟨g,0,none⟩=some (.slice (some ⟨bs,0,none⟩) n n)
 at_:∀j,j<n→w.cell? ⟨bs,0+j,none⟩=some (.int .i64 (out.getD j 0))
 f:w.cell? ⟨gf,0,none⟩=some (.slice A n c)
abbrev Kf(r:Rl)(Ab An Ap:Option Addr)(cb cn cp g gf:Nat):Array Value:=[Value.agg (ruC r (.slice Ab r.bs.length cb) (.slice An r.names.length cn) (.slice Ap r.parts.length cp)).toArray].toArray++#[.pointer (some ⟨g,0,none⟩),.pointer (some ⟨gf,0,none⟩)]
section
variable {F:List Rl}{A Ab An Ap:Option Addr}{n c cb cn cp g bs gf:Nat}{out:List Int}{W:World}
set_option maxRecDepth 100000 in
set_option maxHeartbeats 8000000 in
theorem Qdd{r:Rl}(hk:r.kind=1∨(r.kind=2∨r.kind=4)∨r.kind=3∨(r.kind=5∨r.kind=9)):
  Calls Tryz.prog 33 (Kf r Ab An Ap cb cn cp g gf) W (ZP W (ZL F out r)):=by
 rw[show Kf r Ab An Ap cb cn cp g gf=#[.agg (ruC r (.slice Ab r.bs.length cb) (.slice An r.names.length cn) (.slice Ap r.parts.length cp)).toArray,.pointer (some ⟨g,0,none⟩),.pointer (some ⟨gf,0,none⟩)] from Q6R _ _ _];obtain⟨name,kind,bs',size,big,mn,mx,stop,count,elem,names,parts⟩:=r
 simp only at hk
 rcases hk with rfl|(rfl|rfl)|rfl|(rfl|rfl)<;>
 ·go_enter Tryz.func33,Tryz.ntmps33
  refine QE (M:=[]) (W:=W) (N:=87) (E:=[(0,.agg (ruC ⟨name,_,bs',size,big,mn,mx,stop,count,elem,names,parts⟩ (.slice Ab bs'.length cb) (.slice An names.length cn) (.slice Ap parts.length cp)).toArray),(1,.pointer (some ⟨g,0,none⟩)),(2,.pointer (some ⟨gf,0,none⟩))]) (O:=[]) ?_ (Ag.cons (Ag.cons (Ag.cons (Ag.nil rfl rfl) rfl) rfl) rfl) (Wd.start [] W)
  repeat(first|refine Q1 zA ?_|refine Q1 zF ?_|refine Q1 (zB 0) ?_|refine yB fun br=>?_|refine Q8 ?_|refine Q6 ?_|refine Q2 ?_|refine Qh ?_|refine Q5 rfl ?_|refine Q3 rfl ?_|refine Ql ?_|refine Qe ?_|refine Qc ?_|refine Qf ?_|refine Q1 zL ?_|refine Q1 zer ?_)
  exact Q9 (by exact .inr rfl) rfl (.tmp rfl) (fun w hw=>Qr rfl hw)
set_option maxRecDepth 100000 in
set_option maxHeartbeats 8000000 in
theorem Qbf{r:Rl}(hv:LeV W g bs n out gf A c)(hf:Xq W W.heap.size A n F)(hk:r.kind=10)(hc:0≤r.count∧r.count<n)(hmn:0≤Jo F r.count∧Jo F r.count≤4294967295)(hb:∀j:Nat,0≤out.getD j 0∧out.getD j 0≤1001):
  Calls Tryz.prog 33 (Kf r Ab An Ap cb cn cp g gf) W (ZP W (ZL F out r)):=by
 rw[show Kf r Ab An Ap cb cn cp g gf=#[.agg (ruC r (.slice Ab r.bs.length cb) (.slice An r.names.length cn) (.slice Ap r.parts.length cp)).toArray,.pointer (some ⟨g,0,none⟩),.pointer (some ⟨gf,0,none⟩)] from Q6R _ _ _];rw[Q5N out hk];obtain⟨name,kind,bs',size,big,mn,mx,stop,count,elem,names,parts⟩:=r
 simp only at hk hc hmn ⊢
 subst hk;obtain⟨b,o,rfl⟩:=hf.addr (by omega);obtain⟨rc,Ac,cc,Ad,cd,Ae,ce,hrc,hrg,_⟩:=hf.rl (i:=count.toNat) (by omega);have hv1:=hv.v;have hv2:=hv.at_ count.toNat (by omega);have hv3:=hv.f;have hb1:=hb count.toNat;have hmc:=Q1x hrc;rw[hmc] at hmn ⊢;have hlk:lk out count=out.getD count.toNat 0:=rfl;rw[hlk]
 generalize out.getD count.toNat 0=oc at hv2 hb1
 clear hrc hmc hv hf hb hlk
 go_enter Tryz.func33,Tryz.ntmps33
 refine QE (M:=[]) (W:=W) (N:=87) (E:=[(0,.agg (ruC ⟨name,10,bs',size,big,mn,mx,stop,count,elem,names,parts⟩ (.slice Ab bs'.length cb) (.slice An names.length cn) (.slice Ap parts.length cp)).toArray),(1,.pointer (some ⟨g,0,none⟩)),(2,.pointer (some ⟨gf,0,none⟩))]) (O:=[]) ?_ (Ag.cons (Ag.cons (Ag.cons (Ag.nil rfl rfl) rfl) rfl) rfl) (Wd.start [] W)
 repeat(first|refine Q1 zA ?_|refine Q1 zF ?_|refine Q1 (zB 0) ?_|refine Q1 zC ?_|refine yB fun br=>?_|refine Q8 ?_|refine Q6 ?_|refine Q2 ?_|refine Q5 rfl ?_|refine Q3 rfl ?_|refine Qe ?_|refine Q1 zer ?_)
 repeat(first|refine Qd zA ?_|refine Qd zF ?_|refine Qd (zB 0) ?_|refine Qd zC ?_|refine Qd (zD 0) ?_|refine Qd zE ?_|refine Qd (Qo rfl rfl (by decide) rfl rfl rfl hc) ?_|refine Qd (Qv rfl rfl (by decide) rfl rfl rfl hc) ?_|refine Qd (Q4 (f:=34) rfl rfl (by decide) rfl rfl (fun w hw=>Yh w)) ?_|refine XS ?_|refine Xm (by kernel_rfl) (by kernel_rfl) ?_|refine Qd zP ?_)
 refine yt<|yk<|yc ?_;exact Q9 (by exact .inr rfl) rfl (.tmp rfl) (fun w hw=>Qr rfl hw)
set_option maxRecDepth 100000 in
set_option maxHeartbeats 8000000 in
theorem QcR{r:Rl}(hv:LeV W g bs n out gf A c)(hf:Xq W W.heap.size A n F)(hk:r.kind=6)(hc:0≤r.count∧r.count<n)(he:0≤r.elem∧r.elem<n)(hmn:0≤Jo F r.count∧Jo F r.count≤4294967295)(hb:∀j:Nat,0≤out.getD j 0∧out.getD j 0≤1001):
  Calls Tryz.prog 33 (Kf r Ab An Ap cb cn cp g gf) W (ZP W (ZL F out r)):=by
 rw[show Kf r Ab An Ap cb cn cp g gf=#[.agg (ruC r (.slice Ab r.bs.length cb) (.slice An r.names.length cn) (.slice Ap r.parts.length cp)).toArray,.pointer (some ⟨g,0,none⟩),.pointer (some ⟨gf,0,none⟩)] from Q6R _ _ _];rw[Q8B out hk];obtain⟨name,kind,bs',size,big,mn,mx,stop,count,elem,names,parts⟩:=r
 simp only at hk hc he hmn ⊢
 subst hk;obtain⟨b,o,rfl⟩:=hf.addr (by omega);obtain⟨rc,Ac,cc,Ad,cd,Ae,ce,hrc,hrg,_⟩:=hf.rl (i:=count.toNat) (by omega);have hv1:=hv.v;have hv2:=hv.at_ count.toNat (by omega);have hv4:=hv.at_ elem.toNat (by omega);have hv3:=hv.f;have hb1:=hb count.toNat;have hb2:=hb elem.toNat;have hmc:=Q1x hrc;rw[hmc] at hmn ⊢;have hlk:lk out count=out.getD count.toNat 0:=rfl;have hle:lk out elem=out.getD elem.toNat 0:=rfl;rw[hlk,hle]
 generalize out.getD count.toNat 0=oc at hv2 hb1
 generalize out.getD elem.toNat 0=oe at hv4 hb2
 have hp0:=Int.mul_nonneg hmn.1 hb2.1;have hp1:rc.mn*oe≤4294967295*1001:=Int.mul_le_mul hmn.2 hb2.2 hb2.1 (by decide);clear hrc hmc hv hf hb hlk hle
 go_enter Tryz.func33,Tryz.ntmps33
 refine QE (M:=[]) (W:=W) (N:=87) (E:=[(0,.agg (ruC ⟨name,6,bs',size,big,mn,mx,stop,count,elem,names,parts⟩ (.slice Ab bs'.length cb) (.slice An names.length cn) (.slice Ap parts.length cp)).toArray),(1,.pointer (some ⟨g,0,none⟩)),(2,.pointer (some ⟨gf,0,none⟩))]) (O:=[]) ?_ (Ag.cons (Ag.cons (Ag.cons (Ag.nil rfl rfl) rfl) rfl) rfl) (Wd.start [] W)
 repeat(first|refine Q1 zA ?_|refine Q1 zF ?_|refine Q1 (zB 0) ?_|refine Q1 zC ?_|refine yB fun br=>?_|refine Q8 ?_|refine Q6 ?_|refine Q2 ?_|refine Q5 rfl ?_|refine Q3 rfl ?_|refine Qe ?_|refine Q1 zer ?_)
 repeat(first|refine Qd zA ?_|refine Qd zF ?_|refine Qd (zB 0) ?_|refine Qd zC ?_|refine Qd (zD 0) ?_|refine Qd zE ?_|refine Qd (Qo rfl rfl (by decide) rfl rfl rfl hc) ?_|refine Qd (Qo rfl rfl (by decide) rfl rfl rfl he) ?_|refine Qd (Qv rfl rfl (by decide) rfl rfl rfl hc) ?_|refine Qd (Q4 (f:=34) rfl rfl (by decide) rfl rfl (fun w hw=>Yh w)) ?_|refine Qd (Q56 (k:=.i64) rfl rfl (by decide) rfl rfl rfl (IntWalk.i64_in _ (by omega))) ?_|refine XS ?_|refine Xm (by kernel_rfl) (by kernel_rfl) ?_|refine Qd zP ?_)
 refine yt<|yk<|yc ?_;exact Q9 (by exact .inr rfl) rfl (.tmp rfl) (fun w hw=>Qr rfl hw)
set_option maxRecDepth 100000 in
set_option maxHeartbeats 8000000 in
theorem Q77{r:Rl}(hv:LeV W g bs n out gf A c)(hl:RuL W r Ab cb An cn Ap cp)(hk:r.kind=7∨r.kind=8)(hp12:r.parts.length≤12)(hin:∀x∈r.parts,0≤x∧x<n)(hb:∀j:Nat,0≤out.getD j 0∧out.getD j 0≤1001):
  Calls Tryz.prog 33 (Kf r Ab An Ap cb cn cp g gf) W (ZP W (ZL F out r)):=by
 rw[show Kf r Ab An Ap cb cn cp g gf=#[.agg (ruC r (.slice Ab r.bs.length cb) (.slice An r.names.length cn) (.slice Ap r.parts.length cp)).toArray,.pointer (some ⟨g,0,none⟩),.pointer (some ⟨gf,0,none⟩)] from Q6R _ _ _]
 have hone:ZL F out r=if r.kind==8 then Q1k out r.parts else Q1h out r.parts:=by
  rcases hk with h|h
  ·rw[Q7N out h,h];rfl
  ·rw[Q8v out h,h];rfl
 rw[hone];clear hone;have HP:=Lib.hid hl.p;have HIN:=Lib.hid hin;have HB:=Lib.hid hb;have HV:=Lib.hid hv;have hv1:=hv.v;obtain⟨name,kind,bs',size,big,mn,mx,stop,count,elem,names,parts⟩:=r
 simp only at hk hp12 ⊢
 clear hl hin hb hv;have hcell1:(([Value.string ⟨name.toArray⟩]:List Value)).length=1:=rfl;clear hcell1
 rcases hk with rfl|rfl<;>
 ·go_enter Tryz.func33,Tryz.ntmps33
  refine QE (M:=[]) (W:=W) (N:=87) (E:=[(0,.agg (ruC ⟨name,_,bs',size,big,mn,mx,stop,count,elem,names,parts⟩ (.slice Ab bs'.length cb) (.slice An names.length cn) (.slice Ap parts.length cp)).toArray),(1,.pointer (some ⟨g,0,none⟩)),(2,.pointer (some ⟨gf,0,none⟩))]) (O:=[]) ?_ (Ag.cons (Ag.cons (Ag.cons (Ag.nil rfl rfl) rfl) rfl) rfl) (Wd.start [] W)
  repeat(first|refine Q1 zM ?_|refine Q1 zA ?_|refine Q1 zF ?_|refine Q1 (zB 0) ?_|refine Q1 zC ?_|refine yB fun br=>?_|refine Q8 ?_|refine Q6 ?_|refine Q2 ?_|refine Qh ?_|refine Q5 rfl ?_|refine Q3 rfl ?_|refine Qe ?_|refine Q1 zL ?_|refine Q1 zer ?_)
  refine X0 (ι:=Nat) (fun i=>i≤parts.length∧0≤Q1h out (parts.take i)∧Q1h out (parts.take i)≤1001*i) (fun i=>parts.length - i) (fun i=>[(1,.pointer (some ⟨g,0,none⟩)),(3,.pointer (some ⟨br,0,none⟩)),(5,.int .i64 (Q1h out (parts.take i))),(6,.int .i64 (Q1k out (parts.take i))),(63,.slice Ap parts.length cp),(64,.int .i64 (parts.length:Int)),(65,.int .i64 (i:Int))]) (fun i=>[.blk br (.cells (ruC ⟨name,_,bs',size,big,mn,mx,stop,count,elem,names,parts⟩ (.slice Ab bs'.length cb) (.slice An names.length cn) (.slice Ap parts.length cp)).toArray 52 (0,0))]) 0 [0] (by decide) ⟨Nat.zero_le _,Int.le_refl _,Int.le_refl _⟩ (.cons rfl rfl (.cons rfl rfl (.cons rfl rfl (.cons rfl rfl (.cons rfl rfl (.cons rfl rfl (.cons rfl rfl .nil))))))) rfl ?_
  rintro i ⟨hi,hs0,hs1⟩
  by_cases hlt:i<parts.length
  ·obtain⟨bp,op,hA,_,hpc⟩:=HP.out.2 (by show 0<parts.length;omega);subst hA;obtain⟨x,hx⟩:∃x,parts[i]? =some x:=⟨_,List.getElem?_eq_getElem hlt⟩;have hcp:W.cell? ⟨bp,op+i,none⟩=some (.int .i64 x):=hpc i _ (by show (iv parts)[i]? =_;unfold iv;rw[List.getElem?_map,hx];rfl);have hxn:=HIN.out x (List.mem_of_getElem? hx);have hcx:=HV.out.at_ x.toNat (by omega);have hbx:=HB.out x.toNat
   have hsum:Q1h out (parts.take (i+1))=Q1h out (parts.take i)+out.getD x.toNat 0:=by
    rw[List.take_add_one,hx]
    unfold Q1h
    rw[List.foldl_append]
    rfl
   have hmin:Q1k out (parts.take (i+1))=min (Q1k out (parts.take i)) (out.getD x.toNat 0):=by
    rw[List.take_add_one,hx]
    unfold Q1k
    rw[List.foldl_append]
    rfl
   generalize out.getD x.toNat 0=ox at hcx hbx hsum hmin
   generalize Q1h out (parts.take i)=sm at hs0 hs1 hsum ⊢
   generalize Q1k out (parts.take i)=mi at hmin ⊢
   clear hx hpc
   repeat(first|refine Q1 zA ?_|refine Q1 zC ?_|refine Q1 (zi1 (hj:=hlt)) ?_|refine Q8 ?_|refine Q6 ?_|refine Q2 ?_|refine Qh ?_|refine Q5 rfl ?_|refine Qe ?_|refine Q1 zlt ?_)
   repeat(first|refine Qd zM ?_|refine Qd zA ?_|refine Qd zC ?_|refine Qd (Qo rfl rfl (by decide) rfl rfl rfl hxn) ?_|refine Qd (Q7u rfl rfl (by decide) rfl rfl rfl) ?_|refine XS ?_|refine Xm (by kernel_rfl) (by kernel_rfl) ?_|refine Qd zP ?_)
   repeat(first|refine Q1 zM ?_|refine Q8 ?_|refine Q2 ?_|refine Q1 zP ?_)
   refine QA (i+1) [0] (by decide) ⟨hlt,by omega,by rw[hsum];omega⟩ (by omega) (.cons rfl rfl (.cons rfl rfl (.cons rfl (by rw[hsum]) (.cons rfl (by rw[hmin]) (.cons rfl rfl (.cons rfl rfl (.cons rfl (by go_num) .nil))))))) rfl
  ·have htk:parts.take i=parts:=List.take_of_length_le (by omega);rw[htk]
   repeat(first|refine Q1 zM ?_|refine Q1 zA ?_|refine Q1 zF ?_|refine Q1 (zB 0) ?_|refine Q1 zC ?_|refine Q8 ?_|refine Q6 ?_|refine Q2 ?_|refine Qh ?_|refine Q5 rfl ?_|refine Q3 rfl ?_|refine QX ?_|refine Ql ?_|refine Qc ?_|refine Qf ?_|refine Q1 zer ?_|refine Q1 zlf ?_)
   exact Q9 (by exact .inr rfl) rfl (.tmp rfl) (fun w hw=>Qr rfl hw)
end
theorem Q2g{F:List Rl}{r:Rl}{A Ab An Ap:Option Addr}{n c cb cn cp g bs gf i:Nat}{out:List Int}{W:World}(hv:LeV W g bs n out gf A c)(hf:Xq W W.heap.size A n F)(hl:RuL W r Ab cb An cn Ap cp)(hu:Usd F)(hr:F[i]? =some r)(hb:∀j:Nat,0≤out.getD j 0∧out.getD j 0≤1001):
  Calls Tryz.prog 33 (Kf r Ab An Ap cb cn cp g gf) W (ZP W (ZL F out r)):=by
 have hok:=hu.ok i r hr;rw[hf.1] at hok
 have hmx:(r.kind=6∨r.kind=10)→0≤Jo F r.count∧Jo F r.count≤4294967295:=fun hk=>by
  obtain⟨q,hq,_⟩:=hu.use i r hr hk;have hq0:=hu.ok _ _ hq;rw[Q1x hq];exact(Q8q hq0 (by have:=(List.getElem?_eq_some_iff.1 hr).1;omega)).mn
 rcases (by have:=Q2P hok;omega:(r.kind=1∨(r.kind=2∨r.kind=4)∨r.kind=3∨(r.kind=5∨r.kind=9))∨r.kind=6∨r.kind=10∨r.kind=7∨r.kind=8) with hk|h6|h10|h7|h8
 ·exact Qdd hk
 ·exact QcR hv hf h6 (hok.count (.inl h6)) (hok.elem (.inl h6)) (hmx (.inl h6)) hb
 ·exact Qbf hv hf h10 (hok.count (.inr h10)) (hmx (.inr h10)) hb
 ·exact Q77 hv hl (.inl h7) hok.p12 (hok.parts (.inl h7)) hb
 ·exact Q77 hv hl (.inr h8) hok.p12 (hok.parts (.inr h8)) hb
theorem QeM(n:Nat):(Go.madeCells #[.int .i64 0] (n*1)).toList=iv (List.replicate n 0):=by
 refine List.ext_getElem? fun i=>?_
 unfold iv Go.madeCells
 rw[List.getElem?_map]
 by_cases h:i<n
 ·simp [h,Nat.mod_one]
 ·simp [h]
theorem Q8i{l:List Int}{j:Nat}(h:j<l.length):(iv l)[j]? =some (.int .i64 (l.getD j 0)):=by
 unfold iv
 rw[List.getElem?_map,List.getD_eq_getElem?_getD,List.getElem?_eq_getElem h]
 rfl
theorem Qev(l:List Int)(k:Nat)(v:Int):(iv l).set k (.int .i64 v)=iv (l.set k v):=by
 unfold iv
 rw[List.map_set]
theorem Qb4{M:List Nat}{W w:World}{O:List Qg}{g bs n c gf:Nat}{A:Option Addr}{out:List Int}(i1 i2 i3:Nat)(hl:out.length=n)
  (h1:O[i1]? =some (.blk g (.cells [.slice (some ⟨bs,0,none⟩) n n].toArray 30 (0,0))))
  (h2:O[i2]? =some (.row (some ⟨bs,0,none⟩) n n 3 1 (iv out)))
  (h3:O[i3]? =some (.blk gf (.cells [.slice A n c].toArray 24 (0,0)))) (hw:Wd M W O w):LeV w g bs n out gf A c:=
 ⟨hw.cell_blkL i1 h1 rfl,fun j hj=>by rw[Nat.zero_add];exact hw.cell_row i2 h2 (Q8i (by omega)),hw.cell_blkL i3 h3 rfl⟩
def Ju(F:List Rl)(k:Int):Int:=if Jw F k=(0,0) then (XG F).getD k.toNat 0 else 0
def Qfe(W:World)(v:Int)(p:Int×Int)(e:Ending)(w':World):Prop:=e=.returned (.tuple #[.int .i64 v,.agg #[.int .i64 p.1,.int .i64 p.2]])∧Below W.heap.size W w'
abbrev leO(g bs b3 bf n c:Nat)(A:Option Addr)(out:List Int):List Qg:=[.blk g (.cells [.slice (some ⟨bs,0,none⟩) n n].toArray 30 (0,0)),.row (some ⟨bs,0,none⟩) n n 3 1 (iv out),.blk b3 (.cells [.int .i64 0,.int .i64 0].toArray 27 (0,0)),.blk bf (.cells [.slice A n c].toArray 24 (0,0))]
abbrev leE(g bf b3:Nat)(k:Int)(ch:Bool):Env:=[(1,.int .i64 k),(2,.pointer (some ⟨bf,0,none⟩)),(5,.pointer (some ⟨b3,0,none⟩)),(7,.pointer (some ⟨g,0,none⟩)),(8,.func (.func 33) #[] #[.pointer (some ⟨g,0,none⟩),.pointer (some ⟨bf,0,none⟩)]),(9,.bool ch)]
structure LeI(F:List Rl)(n:Nat)(out0:List Int)(y:Nat×List Int×Bool):Prop where
 j:y.1≤n
 l:Lst F y.2.1
 s:slk y.2.1≤slk out0
 yes:y.2.2=true→slk y.2.1<slk out0
 no:y.2.2=false→∀(i:Nat) (r:Rl),i<y.1→F[i]? =some r→min (ZL F y.2.1 r) 1001=y.2.1.getD i 0
theorem LeI.keep{F:List Rl}{n:Nat}{out0 out:List Int}{i:Nat}{ch:Bool}{r:Rl}(h:LeI F n out0 (i,out,ch))(hi:i<n)(hr:F[i]? =some r)(he:min (ZL F out r) 1001=out.getD i 0):LeI F n out0 (i+1,out,ch):=
 ⟨hi,h.l,h.s,h.yes,fun hc j q hj hq=>by
  rcases Nat.lt_or_ge j i with h1|h1
  ·exact h.no hc j q h1 hq
  ·have hj':j<i+1:=hj
   obtain rfl:j=i:=by omega
   rw[hr] at hq
   cases hq
   exact he⟩
theorem LeI.put{F:List Rl}{n:Nat}{out0 out:List Int}{i:Nat}{ch:Bool}{r:Rl}(hu:Usd F)(h:LeI F n out0 (i,out,ch))(hi:i<n)(hr:F[i]? =some r)(he:min (ZL F out r) 1001≠out.getD i 0):LeI F n out0 (i+1,out.set i (min (ZL F out r) 1001),true):=by
 have hlt:slk (out.set i (min (ZL F out r) 1001))<slk out:=h.l.slk_lt hr he
 have hs:slk out≤slk out0:=h.s
 exact⟨hi,h.l.put hu hr,by show slk (out.set i _)≤_;omega,fun _=>by show slk (out.set i _)<_;omega,fun hc=>by cases hc⟩
set_option maxRecDepth 100000 in
set_option maxHeartbeats 16000000 in
theorem ZG{F:List Rl}{A:Option Addr}{n c:Nat}{k:Int}{W:World}(hf:Xq W W.heap.size A n F)(hs:FSm F)(hc:n≤c)(hg:GV W):
  Calls Tryz.prog 13 #[.agg #[.slice A n c],.int .i64 k] W (Qfe W (Ju F k) (Jw F k)):=by
 have hlen:F.length=n:=hf.1
 have HFM:=Lib.hid hf
 have HS:=Lib.hid hs
 have HG:=Lib.hid hg
 have HLEN:=Lib.hid hlen
 clear hf hs hg hlen
 obtain⟨⟨a,b⟩,hab⟩:∃p,Jw F k=p:=⟨_,rfl⟩
 have HC:=Lib.hid hab
 rw[hab]
 clear hab
 go_enter Tryz.func13,Tryz.ntmps13
 refine QE (M:=[]) (W:=W) (N:=54) (E:=[(0,.agg #[.slice A n c]),(1,.int .i64 k)]) (O:=[]) ?_ (Ag.cons (Ag.cons (Ag.nil rfl rfl) rfl) rfl) (Wd.start [] W)
 by_cases hz:a=0∧b=0
 case neg=>
  have hne:(!(a==0&&b==0))=true:=by
   rw[Bool.not_eq_true',Bool.and_eq_false_iff,beq_eq_false_iff_ne,beq_eq_false_iff_ne]
   omega
  repeat(first|refine Q1 (QU rfl rfl (by decide) rfl rfl) ?_|refine Q1 (QJ rfl rfl (by decide) rfl rfl) ?_|refine Q1 (X8 rfl rfl (by decide) rfl rfl (by first|exact fun w hw=>hw.range_blk 0 rfl|exact fun w hw=>hw.range_blk 1 rfl) (by rfl)) ?_|refine Qa (V6 rfl rfl rfl rfl) rfl (by decide) (fun bf _=>?_)|refine Qa (Xn (t:=27) rfl rfl) rfl (by decide) (fun b2 _=>?_)|(refine Q1 (Q4 (f:=31) rfl rfl (by decide) rfl rfl (fun w hw=>(Jk (HFM.out.on hw.k.below) HS.out hc (HG.out.on hw.k.below)).mono (fun _ _ h=>by rw[HC.out] at h;exact h))) ?_)|(refine Qq (Qs 0 rfl rfl rfl rfl rfl rfl rfl (by simp)) rfl (fun _ _=>?_);rw[Qw (by rfl)])|refine Q1 (QZ (xs:=[]) (vs:=[]) (v:=.agg #[.int .i64 0,.int .i64 0]) rfl rfl (by decide) rfl rfl (fun w=>run_build w _ _ _ (by kernel_rfl))) ?_|refine Q1 (VC rfl rfl (by decide) rfl rfl rfl hne) ?_|refine Q8 ?_|refine Q6 ?_|refine Q2 ?_|refine Q5 rfl ?_)
  refine ZW [2] (by kernel_rfl) ?_
  refine Qk 0 rfl (by kernel_rfl) (Q7.rfl_) (X8 rfl rfl (by decide) rfl rfl (by exact fun w hw=>hw.range_blk 0 rfl) (by rfl)) ?_
  refine Qk 1 rfl (by kernel_rfl) (Q7.rfl_) (QJ rfl rfl (by decide) rfl rfl) ?_
  refine Xw 2 (by kernel_rfl) rfl rfl (Qs 1 rfl rfl rfl rfl rfl rfl rfl (by simp)) (fun _=>.inl (by decide)) rfl (fun _ _=>?_)
  rw[Qw (by rfl)]
  refine Zc ?_ (by kernel_rfl)
  repeat(first|refine Ql ?_|refine Qc ?_)
  have hff:Ju F k=0:=by
   unfold Ju
   rw[HC.out,if_neg (fun h=>hz (by simpa using h))]
  rw[hff]
  exact Xv (by exact .inr rfl) rfl (.tmp rfl) (RsV.blk 1 rfl rfl rfl) (fun w hw=>⟨rfl,hw.k.below⟩)
 case pos=>
  obtain⟨rfl,rfl⟩:=hz
  have hff:Ju F k=(XG F).getD k.toNat 0:=by
   unfold Ju
   rw[HC.out,if_pos rfl]
  rw[hff]
  clear hff
  obtain⟨hfa,hk0,hkn⟩:=Q32 HC.out
  have hch:=Q4W hfa
  have hlo:=Q1N hch
  have hn0:=hlo.1
  have hn40:=hlo.2
  rw[HLEN.out] at hn0 hn40 hkn
  have HV:=Lib.hid (QdR hch)
  clear hlo hch hfa
  have hk2:0≤k∧k<(n:Int):=⟨hk0,hkn⟩
  obtain⟨b,o,rfl⟩:=HFM.out.addr hn0
  have hst:Lst F (List.replicate n 0):=by
   rw[← HLEN.out]
   refine Lst.start F fun i r hr=>Qdn HV.out.toUsd (fun j=>?_) hr
   rw[List.getD_eq_getElem?_getD,List.getElem?_replicate]
   split<;>decide
  repeat(first|refine Q1 (QU rfl rfl (by decide) rfl rfl) ?_|refine Q1 (QJ rfl rfl (by decide) rfl rfl) ?_|refine Q1 (X1 rfl rfl (by decide) rfl rfl) ?_|refine Q1 (QL rfl rfl (by decide) rfl rfl (by exact fun w hw=>hw.cell_blkL 2 rfl rfl)) ?_|refine Q1 (X8 rfl rfl (by decide) rfl rfl (by first|exact fun w hw=>hw.range_blk 0 rfl|exact fun w hw=>hw.range_blk 1 rfl) (by rfl)) ?_|refine Qa (V6 rfl rfl rfl rfl) rfl (by decide) (fun bf _=>?_)|refine Qa (Xn (t:=27) rfl rfl) rfl (by decide) (fun b2 _=>?_)|(refine Q1 (Q4 (f:=31) rfl rfl (by decide) rfl rfl (fun w hw=>(Jk (HFM.out.on hw.k.below) HS.out hc (HG.out.on hw.k.below)).mono (fun _ _ h=>by rw[HC.out] at h;exact h))) ?_)|(refine Qq (Qs 0 rfl rfl rfl rfl rfl rfl rfl (by simp)) rfl (fun _ _=>?_);rw[Qw (by rfl)])|refine Q1 (QZ (xs:=[]) (vs:=[]) (v:=.agg #[.int .i64 0,.int .i64 0]) rfl rfl (by decide) rfl rfl (fun w=>run_build w _ _ _ (by kernel_rfl))) ?_|refine Q1 (VC rfl rfl (by decide) rfl rfl rfl rfl) ?_|refine Qa (Q3R rfl rfl rfl rfl (by omega)) rfl (by decide) (fun bs _=>?_)|refine Qa (Xn (t:=30) rfl rfl) rfl (by decide) (fun g _=>?_)|refine Qq (Zp 0 rfl rfl rfl rfl rfl rfl rfl) rfl (fun _ _=>?_)|refine Q8 ?_|refine Q6 ?_|refine Q2 ?_|refine Qh ?_|refine Q3 rfl ?_|refine Qe ?_|refine Q1 (Q49 rfl rfl (by decide) rfl rfl) ?_|refine Q1 (Q5P rfl rfl (by decide) rfl rfl) ?_)
  rename_i b3 _ _ _ _ _ _ _ _
  refine X0 (ι:=List Int×Bool) (fun y=>Lst F y.1∧(y.2=false→∀(i:Nat) (r:Rl),F[i]? =some r→min (ZL F y.1 r) 1001=y.1.getD i 0)) (fun y=>2*slk y.1+(if y.2 then 1 else 0)) (fun y=>leE g bf b3 k y.2) (fun y=>leO g bs b3 bf n c (some ⟨b,o,none⟩) y.1) (List.replicate n 0,true) [0,1,3,4] (by decide) ⟨hst,fun h=>by cases h⟩ (.cons rfl rfl (.cons rfl rfl (.cons rfl rfl (.cons rfl rfl (.cons rfl rfl (.cons rfl rfl .nil)))))) (by show [_,Qg.row _ _ _ _ _ _,_,_]=_;rw[QeM];rfl) ?_
  clear hst
  rintro⟨out,ch⟩ ⟨hl,hfix⟩
  have HLS:=Lib.hid hl
  have HFX:=Lib.hid hfix
  clear hl hfix
  show sE _ _ _ _ _ (leE g bf b3 k ch) (leO g bs b3 bf n c (some ⟨b,o,none⟩) out) _
  cases ch with
  |true=>
   repeat(first|refine Q1 (QU rfl rfl (by decide) rfl rfl) ?_|refine Q1 (QJ rfl rfl (by decide) rfl rfl) ?_|refine Q1 (X1 rfl rfl (by decide) rfl rfl) ?_|refine Q1 (QL rfl rfl (by decide) rfl rfl (by exact fun w hw=>hw.cell_blkL 3 rfl rfl)) ?_|refine Q8 ?_|refine Q6 ?_|refine Q2 ?_|refine Qh ?_|refine Q5 rfl ?_|refine Qe ?_|refine Q1 (Q49 rfl rfl (by decide) rfl rfl) ?_)
   refine X0 (ι:=Nat×List Int×Bool) (LeI F n out) (fun y=>n - y.1) (fun y=>(27,.slice (some ⟨b,o,none⟩) n c)::(28,.int .i64 (n:Int))::(29,.int .i64 (y.1:Int))::leE g bf b3 k y.2.2) (fun y=>leO g bs b3 bf n c (some ⟨b,o,none⟩) y.2.1) (0,out,false) [0,1,2,3] (by decide) ⟨Nat.zero_le _,HLS.out,Nat.le_refl _,(fun h=>by cases h),(fun _ i r hi=>absurd hi (Nat.not_lt_zero _))⟩ (.cons rfl rfl (.cons rfl rfl (.cons rfl rfl (.cons rfl rfl (.cons rfl rfl (.cons rfl rfl (.cons rfl rfl (.cons rfl rfl (.cons rfl rfl .nil))))))))) rfl ?_
   rintro⟨i,out',ch'⟩ hinv
   have hi':i≤n:=hinv.j
   have HINV:=Lib.hid hinv
   clear hinv
   show sE _ _ _ _ _ ((27,.slice (some ⟨b,o,none⟩) n c)::(28,.int .i64 (n:Int))::(29,.int .i64 (i:Int))::leE g bf b3 k ch') (leO g bs b3 bf n c (some ⟨b,o,none⟩) out') _
   by_cases hin:i<n
   ·obtain⟨rk,Ab,cb,An,cn,Ap,cp,hrk,hrg,hlk⟩:=HFM.out.rl hin
    have HRK:=Lib.hid hrk
    have HLK:=Lib.hid hlk
    clear hrk hlk
    have hol:out'.length=n:=by rw[HINV.out.l.len];exact HLEN.out
    have hcell:(iv out')[0+i]? =some (.int .i64 (out'.getD i 0)):=by rw[Nat.zero_add];exact Q8i (by omega)
    by_cases he:min (ZL F out' rk) 1001=out'.getD i 0
    ·have heb:(min (ZL F out' rk) 1001 != out'.getD i 0)=false:=bne_eq_false_iff_eq.2 he
     have HE:=Lib.hid he
     clear he
     repeat(first|refine Q1 (QU rfl rfl (by decide) rfl rfl) ?_|refine Q1 (QJ rfl rfl (by decide) rfl rfl) ?_|refine Q1 (QL rfl rfl (by decide) rfl rfl (by exact fun w hw=>hw.cell_blkL 1 rfl rfl)) ?_|refine Q1 (X8 rfl rfl (by decide) rfl rfl (by first|exact fun w hw=>hw.range_blk 0 rfl|exact fun w hw=>hw.range_old (by assumption) (by simp)) (by rfl)) ?_|refine Q1 (QV rfl rfl (by decide) rfl rfl rfl hin) ?_|refine Q1 (Zy rfl rfl (by decide) rfl rfl rfl hin) ?_|refine Qa (Xn (t:=52) rfl rfl) rfl (by decide) (fun b7 _=>?_)|(refine Qq (Qs 0 rfl rfl rfl rfl rfl rfl rfl (by simp)) rfl (fun _ _=>?_);rw[Qw (by rfl)])|refine Q1 (VH (f:=33) rfl rfl (by decide) rfl rfl rfl (fun w hw=>(Q2g (Qb4 1 2 4 hol rfl rfl rfl hw) (HFM.out.on hw.k.below) (HLK.out.on hw.k.below) HV.out.toUsd HRK.out (fun j=>⟨HINV.out.l.nn j,HINV.out.l.top j⟩)).mono (fun _ _ h=>h))) ?_|refine Q1 (Q7u rfl rfl (by decide) rfl rfl rfl) ?_|refine Q1 (QL rfl rfl (by decide) rfl rfl (fun w hw=>hw.cell_row 2 rfl hcell)) ?_|refine Q8 ?_|refine Q6 ?_|refine Q2 ?_|refine Qh ?_|refine Q5 rfl ?_|refine Q3 rfl ?_|refine Qe ?_|refine Q1 (VE rfl rfl (by decide) rfl rfl rfl (by assumption)) ?_|refine Q1 (Xu rfl rfl (by decide) rfl rfl rfl (by exact decide_eq_true (by omega))) ?_|refine Q1 (Q0o (k:=.i64) rfl rfl (by decide) rfl rfl rfl (IntWalk.i64_in _ (by omega))) ?_)
     exact QA (i+1,out',ch') [1,2,3,4] (by decide) (HINV.out.keep hin HRK.out HE.out) (by show n - (i+1)<n - i;omega) (.cons rfl rfl (.cons rfl rfl (.cons rfl (by go_num) (.cons rfl rfl (.cons rfl rfl (.cons rfl rfl (.cons rfl rfl (.cons rfl rfl (.cons rfl rfl .nil))))))))) rfl
    ·have heb:(min (ZL F out' rk) 1001 != out'.getD i 0)=true:=bne_iff_ne.2 he
     have HE:=Lib.hid he
     clear he
     repeat(first|refine Q1 (QU rfl rfl (by decide) rfl rfl) ?_|refine Q1 (QJ rfl rfl (by decide) rfl rfl) ?_|refine Q1 (QL rfl rfl (by decide) rfl rfl (by exact fun w hw=>hw.cell_blkL 1 rfl rfl)) ?_|refine Q1 (X8 rfl rfl (by decide) rfl rfl (by first|exact fun w hw=>hw.range_blk 0 rfl|exact fun w hw=>hw.range_old (by assumption) (by simp)) (by rfl)) ?_|refine Q1 (QV rfl rfl (by decide) rfl rfl rfl hin) ?_|refine Q1 (Zy rfl rfl (by decide) rfl rfl rfl hin) ?_|refine Qa (Xn (t:=52) rfl rfl) rfl (by decide) (fun b7 _=>?_)|(refine Qq (Qs 0 rfl rfl rfl rfl rfl rfl rfl (by simp)) rfl (fun _ _=>?_);rw[Qw (by rfl)])|refine Q1 (VH (f:=33) rfl rfl (by decide) rfl rfl rfl (fun w hw=>(Q2g (Qb4 1 2 4 hol rfl rfl rfl hw) (HFM.out.on hw.k.below) (HLK.out.on hw.k.below) HV.out.toUsd HRK.out (fun j=>⟨HINV.out.l.nn j,HINV.out.l.top j⟩)).mono (fun _ _ h=>h))) ?_|refine Q1 (Q7u rfl rfl (by decide) rfl rfl rfl) ?_|refine Q1 (QL rfl rfl (by decide) rfl rfl (fun w hw=>hw.cell_row 2 rfl hcell)) ?_|refine Qq (QI 2 rfl rfl rfl rfl rfl rfl (by omega)) rfl (fun _ _=>?_)|refine Q8 ?_|refine Q6 ?_|refine Q2 ?_|refine Qh ?_|refine Q5 rfl ?_|refine Qe ?_|refine Q1 (VE rfl rfl (by decide) rfl rfl rfl (by assumption)) ?_|refine Q1 (Xu rfl rfl (by decide) rfl rfl rfl (by exact decide_eq_true (by omega))) ?_|refine Q1 (Q0o (k:=.i64) rfl rfl (by decide) rfl rfl rfl (IntWalk.i64_in _ (by omega))) ?_)
     refine QA (i+1,out'.set i (min (ZL F out' rk) 1001),true) [1,2,3,4] (by decide) (HINV.out.put HV.out.toUsd hin HRK.out HE.out) (by show n - (i+1)<n - i;omega) (.cons rfl rfl (.cons rfl rfl (.cons rfl (by go_num) (.cons rfl rfl (.cons rfl rfl (.cons rfl rfl (.cons rfl rfl (.cons rfl rfl (.cons rfl rfl .nil))))))))) ?_
     show [_,Qg.row _ _ _ _ _ ((iv out').set (0+i) (.int .i64 (min (ZL F out' rk) 1001))),_,_]=_
     rw[Nat.zero_add,Qev]
     rfl
   ·skip
    repeat(first|refine Q8 ?_|refine Q6 ?_|refine Q2 ?_|refine Q3 rfl ?_|refine QX ?_|refine KQ ?_|refine KT ?_|refine Xx ?_|refine Q1 (Xu rfl rfl (by decide) rfl rfl rfl (by exact decide_eq_false (by omega))) ?_)
    refine QA (out',ch') [0,1,2,3] (by decide) ⟨HINV.out.l,fun h i r hr=>HINV.out.no h i r (by have:=(List.getElem?_eq_some_iff.1 hr).1;have:=HLEN.out;show i<_;omega) hr⟩ ?_ (.cons rfl rfl (.cons rfl rfl (.cons rfl rfl (.cons rfl rfl (.cons rfl rfl (.cons rfl rfl .nil)))))) rfl
    have h1:slk out'≤slk out:=HINV.out.s
    have h2:ch'=true→slk out'<slk out:=HINV.out.yes
    show 2*slk out'+(if ch' then 1 else 0)<2*slk out+1
    cases ch' with
    |true=>have:=h2 rfl;simp only[if_true];omega
    |false=>simp;omega
  |false=>
   have hfx:=HLS.out.fix (HFX.out rfl)
   have hlv:(XG F).getD k.toNat 0=out.getD k.toNat 0:=Q7S HV.out hfx (by rw[HLEN.out];omega)
   rw[hlv]
   have hol:out.length=n:=by rw[HLS.out.len];exact HLEN.out
   have hcell:(iv out)[0+k.toNat]? =some (.int .i64 (out.getD k.toNat 0)):=by rw[Nat.zero_add];exact Q8i (by omega)
   clear hfx hlv
   repeat(first|refine Q1 (QU rfl rfl (by decide) rfl rfl) ?_|refine Q1 (QJ rfl rfl (by decide) rfl rfl) ?_|refine Q1 (QL rfl rfl (by decide) rfl rfl (by exact fun w hw=>hw.cell_blkL 0 rfl rfl)) ?_|refine Q1 (Qo rfl rfl (by decide) rfl rfl rfl hk2) ?_|refine Q1 (QL rfl rfl (by decide) rfl rfl (fun w hw=>hw.cell_row 1 rfl hcell)) ?_|refine Q1 (QZ (xs:=[]) (vs:=[]) (v:=.agg #[.int .i64 0,.int .i64 0]) rfl rfl (by decide) rfl rfl (fun w=>run_build w _ _ _ (by kernel_rfl))) ?_|(refine Qq (Qs 2 rfl rfl rfl rfl rfl rfl rfl (by simp)) rfl (fun _ _=>?_);rw[Qw (by rfl)])|refine Q8 ?_|refine Q6 ?_|refine Q2 ?_|refine Q3 rfl ?_|refine QX ?_|refine Ql ?_)
   exact Xv (by exact .inr rfl) rfl (.tmp rfl) (RsV.blk 2 rfl rfl rfl) (fun w hw=>⟨rfl,hw.k.below⟩)
def pr0:Rl:={ QN [108,105,115,116] 6 with count:=1,elem:=2 }
def pr1:Rl:={ QN [110] 2 with size:=1,big:=true,mx:=255 }
def pr2:Rl:={ QN [120] 2 with size:=2,mx:=65535 }
def Ys:List Rl:=[pr0,pr1,pr2]
def Qc0:List UInt8:=[108,105,115,116,32,99,111,117,110,116,101,100,32,110,32,120,10,110,32,110,117,109,98,101,114,32,49,32,98,105,103,32,48,32,50,53,53,10,120,32,110,117,109,98,101,114,32,50,32,108,105,116,116,108,101,32,48,32,54,53,53,51,53,10]
def Q2C:List Rl:=[{ QN [97] 1 with bs:=[65,66] }]
def QdL:List UInt8:=[97,32,108,105,116,101,114,97,108,32,52,49,52,50,10]
def QbG:List UInt8:=[97,32,98,108,111,98,32,98,10]
set_option maxRecDepth 1000000 in
theorem Q6d:Xb Ys=(0,0):=by kernel_rfl
set_option maxRecDepth 1000000 in
theorem Q3t:J1 Ys=Qc0:=by kernel_rfl
set_option maxRecDepth 1000000 in
theorem Qa5:Xb Q2C=(0,0):=by kernel_rfl
set_option maxRecDepth 1000000 in
theorem Q74:J1 Q2C=QdL:=by kernel_rfl
set_option maxRecDepth 1000000 in
theorem Qas:QaY Q2C 0=[65]:=by kernel_rfl
set_option maxRecDepth 1000000 in
theorem Q6s:(XG Ys).getD 0 0=1:=by kernel_rfl
set_option maxRecDepth 1000000 in
theorem Q8H:QS 0 (spl 10 QbG)=.ok [(QN [97] 10,[[98]])]:=by kernel_rfl
set_option maxRecDepth 1000000 in
theorem QbY:QF [QN [97] 10] 0 [(QN [97] 10,[[98]])]=.error 0:=by kernel_rfl
def QdQ(w:World)(xs ys:List Int)(k:Value)(wr:World):Prop:=∃i nq:Nat,k=.int .i64 (i:Int)∧i≤xs.length∧xs.take i=ys.take i∧wr=w.drewN nq
theorem Q1a{α:Type}{xs ys:List α}{i:Nat}{x y:α}(h:xs.take i=ys.take i)(hx:xs[i]? =some x)(hy:ys[i]? =some y)(e:x=y):xs.take (i+1)=ys.take (i+1):=by
 obtain⟨h1,rfl⟩:=List.getElem?_eq_some_iff.1 hx;obtain⟨h2,rfl⟩:=List.getElem?_eq_some_iff.1 hy;rw[List.take_succ_eq_append_getElem h1,List.take_succ_eq_append_getElem h2,h,e]
theorem Q6J{α:Type}{xs ys:List α}{i:Nat}{x y:α}(hx:xs[i]? =some x)(hy:ys[i]? =some y)(e:x≠y):xs≠ys:=by
 rintro rfl
 rw[hx] at hy
 injection hy with hy
 exact e hy
def Q1j(w:World)(v:Value)(e:Ending)(w':World):Prop:=e=.returned v∧∃n,w'=w.drewN n
set_option maxRecDepth 100000 in
set_option maxHeartbeats 400000 in
theorem Ki{w:World}{B B':Nat}{A A':Option Addr}{n n' c c':Nat}{xs ys:List Int}(ha:Rd w B 1 A n (iv xs))(hb:Rd w B' 1 A' n' (iv ys))(hm:n≤140737488355328):
  Calls Tryz.prog 17 #[.slice A n c,.slice A' n' c'] w (Q1j w (.bool (xs==ys))):=by
 have hl:xs.length=n:=by have:=ha.len;rw[Kj] at this;exact this
 have hl':ys.length=n':=by have:=hb.len;rw[Kj] at this;exact this
 have HA:=Lib.hid ha;have HB:=Lib.hid hb;have HL:=Lib.hid hl;have HL':=Lib.hid hl';clear ha hb hl hl'
 by_cases hnn:n=n'
 ·have hd:((n:Int) != (n':Int))=false:=by simp [hnn]
  have HNN:=Lib.hid hnn;clear hnn
  go_enter Tryz.func17,Tryz.ntmps17
  go_wp2_with fail
  go_loopw [5] (fun k wr=>QdQ w xs ys k wr) (fun k _=>n - (intOf k).toNat)
  case atStart=>exact⟨0,0,rfl,Nat.zero_le _,rfl,rfl⟩
  case round=>
   obtain⟨i,nq,rfl,hi,ht,rfl⟩:=hrel;rw[HL.out] at hi;have HT:=Lib.hid ht;clear ht
   by_cases hlt:i<n
   ·obtain⟨b,o,x,rfl,hbB,hxi,hcell⟩:=Q7y HA.out hlt;obtain⟨b',o',y,rfl,hbB',hyi,hcell'⟩:=Q7y HB.out (k:=i) (by have:=HNN.out;omega);have HX:=Lib.hid hxi;have HY:=Lib.hid hyi
    have hli:(i:Int)<(n:Int):=by omega
    have hli':(i:Int)<(n':Int):=by have:=HNN.out;omega
    have h0:(0:Int)≤(i:Int):=by omega
    have hlt':i<n':=by omega
    clear hxi hyi
    go_upto_region 6 with (fail)
    go_quiet (fail)
    by_cases hxy:x=y
    ·have hd2:(x != y)=false:=by simp [hxy]
     have HXY:=Lib.hid hxy;clear hxy
     go_wp2_with fail
     go_roundw
     case rel=>exact⟨i+1,_,by go_num,by rw[HL.out];omega,Q1a HT.out HX.out HY.out HXY.out,rfl⟩
     case measure=>simp [intOf];omega
    ·have hd2:(x != y)=true:=by simp [hxy]
     have HXY:=Lib.hid hxy;clear hxy
     go_wp2_with fail
     go_ret
     rw[show (xs==ys)=false by simp;exact Q6J HX.out HY.out HXY.out];exact⟨rfl,_,World.drewN_drewN _ _ _⟩
   ·go_wp2_with fail
    go_ret
    rw[show (xs==ys)=true by
     simp
     have:=HT.out;rw[List.take_of_length_le (by rw[HL.out];omega),List.take_of_length_le (by rw[HL'.out];have:=HNN.out;omega)] at this
     exact this]
    exact⟨rfl,_,rfl⟩
 ·have hd:((n:Int) != (n':Int))=true:=by simp;omega
  have HNN:=Lib.hid (show (xs==ys)=false by simp;rintro rfl;exact hnn (by rw[← HL.out,HL'.out]));clear hnn
  go_enter Tryz.func17,Tryz.ntmps17
  go_wp2_with fail
  go_ret
  rw[HNN.out];exact⟨rfl,0,rfl⟩
def QcF(w:World)(xs ys:List (List UInt8))(k:Value)(wr:World):Prop:=∃i nq:Nat,k=.int .i64 (i:Int)∧i≤xs.length∧xs.take i=ys.take i∧wr=w.drewN nq
set_option maxRecDepth 100000 in
set_option maxHeartbeats 400000 in
theorem Q4f{w:World}{B B':Nat}{A A':Option Addr}{n n' c c':Nat}{xs ys:List (List UInt8)}(ha:Rd w B 1 A n (sv xs))(hb:Rd w B' 1 A' n' (sv ys))(hm:n≤140737488355328):
  Calls Tryz.prog 88 #[.slice A n c,.slice A' n' c'] w (Q1j w (.bool (xs==ys))):=by
 have hl:xs.length=n:=by have:=ha.len;rw[Q1R] at this;exact this
 have hl':ys.length=n':=by have:=hb.len;rw[Q1R] at this;exact this
 have HA:=Lib.hid ha;have HB:=Lib.hid hb;have HL:=Lib.hid hl;have HL':=Lib.hid hl';clear ha hb hl hl'
 by_cases hnn:n=n'
 ·have hd:((n:Int) != (n':Int))=false:=by simp [hnn]
  have HNN:=Lib.hid hnn;clear hnn
  go_enter Tryz.func88,Tryz.ntmps88
  go_wp2_with fail
  go_loopw [5] (fun k wr=>QcF w xs ys k wr) (fun k _=>n - (intOf k).toNat)
  case atStart=>exact⟨0,0,rfl,Nat.zero_le _,rfl,rfl⟩
  case round=>
   obtain⟨i,nq,rfl,hi,ht,rfl⟩:=hrel;rw[HL.out] at hi;have HT:=Lib.hid ht;clear ht
   by_cases hlt:i<n
   ·obtain⟨b,o,x,rfl,hbB,hxi,hcell⟩:=Q9o HA.out hlt;obtain⟨b',o',y,rfl,hbB',hyi,hcell'⟩:=Q9o HB.out (k:=i) (by have:=HNN.out;omega);have HX:=Lib.hid hxi;have HY:=Lib.hid hyi
    have hli:(i:Int)<(n:Int):=by omega
    have hli':(i:Int)<(n':Int):=by have:=HNN.out;omega
    have h0:(0:Int)≤(i:Int):=by omega
    have hlt':i<n':=by omega
    clear hxi hyi
    go_upto_region 6 with (fail)
    go_quiet (fail)
    by_cases hxy:x.data.toList=y.data.toList
    ·have hd2:(x.toList==y.toList)=true:=by rw[Lib.toList_data,Lib.toList_data];simpa using hxy
     rw[hd2];have HXY:=Lib.hid hxy;clear hxy
     go_wp2_with fail
     go_roundw
     case rel=>exact⟨i+1,_,by go_num,by rw[HL.out];omega,Q1a HT.out HX.out HY.out HXY.out,rfl⟩
     case measure=>simp [intOf];omega
    ·have hd2:(x.toList==y.toList)=false:=by rw[Lib.toList_data,Lib.toList_data];simpa using hxy
     rw[hd2];have HXY:=Lib.hid hxy;clear hxy
     go_wp2_with fail
     go_ret
     rw[show (xs==ys)=false by simp;exact Q6J HX.out HY.out HXY.out];exact⟨rfl,_,World.drewN_drewN _ _ _⟩
   ·go_wp2_with fail
    go_ret
    rw[show (xs==ys)=true by
     simp
     have:=HT.out;rw[List.take_of_length_le (by rw[HL.out];omega),List.take_of_length_le (by rw[HL'.out];have:=HNN.out;omega)] at this
     exact this]
    exact⟨rfl,_,rfl⟩
 ·have hd:((n:Int) != (n':Int))=true:=by simp;omega
  have HNN:=Lib.hid (show (xs==ys)=false by simp;rintro rfl;exact hnn (by rw[← HL.out,HL'.out]));clear hnn
  go_enter Tryz.func88,Tryz.ntmps88
  go_wp2_with fail
  go_ret
  rw[HNN.out];exact⟨rfl,0,rfl⟩
theorem Q1j.below{w w':World}{v:Value}{e:Ending}(h:Q1j w v e w'):e=.returned v∧Below w.heap.size w w':=by
 obtain⟨h1,n,rfl⟩:=h;exact⟨h1,Vq w n⟩
theorem Js(c i:Int)(w:World):Calls Tryz.prog 15 #[.int .i64 c,.int .i64 i] w fun e w'=>e=.returned (.agg #[.int .i64 c,.int .i64 i])∧Below w.heap.size w w':=
 (Qc5 c i w).mono fun _ _ h=>⟨h.1,h.2▸VV _ _⟩
theorem Q3E{P:Program}{Q:Exit→Act→World→Prop}{ops:Array Oper}{N:Nat}{M:List Nat}{W:World}{E:Env}{O:List Qg}{l:List Oper}(h:∀w,Wd M W O w→lE P ops Q N [] w E [] l):lE P ops Q N M W E O l:=fun a w ha hw=>h w hw a w ha (Wd.start [] w)
theorem QbS{ops:Array Oper}{C:World→Prop}{N:Nat}{E:Env}{o:Oper}{d:Nat}{x:Operand}{A:Option Addr}{n c:Nat}{bs:List UInt8}(ho:o.op=.convert 49 9 x)(hd:o.dst=some d)(hN:d<N)(hw:Qm ops E o=some true)(hx:ev E x=some (.slice A n c))(hr:∀w,C w→Rd w w.heap.size 1 A n (bv bs)):oE Tryz.prog ops C N E ((d,.string ⟨bs.toArray⟩)::E) o:=
 XL hd hN hw fun ρ w ha hc=>by
  have h:=Q5t (c:=c) (hr w hc)
  simp only[execOp,ho,ha.eval hx,Sem.run_bind,h,Result.andThen_ok]
  rfl
instance :En Tryz.prog 25:=⟨fun _ _=>by kernel_rfl⟩
instance :En Tryz.prog 9:=⟨fun _ _=>by kernel_rfl⟩
theorem Q0m{s:List UInt8}{F:List Rl}{e:Int×Int}{y:PrY}(hy:PrI s y)(h:Zn s=(F,e)):y.F=F∧y.e=e:=by
 have h1:=hy.e;rw[h] at h1;exact⟨(congrArg (·.1) h1).symm,(congrArg (·.2) h1).symm⟩
theorem Q2e{W w:World}{f:FuncId}{args:Array Value}{l:List Int}{p:Int×Int}(hw:Wd [] W [] w)(h:Calls Tryz.prog f args w (QdA w l p)):Calls Tryz.prog f args w (QW (fun y:Option Addr×Nat=>.tuple #[.slice y.1 l.length y.2,.agg #[.int .i64 p.1,.int .i64 p.2]]) (fun y=>l.length≤y.2) [] W (fun y=>[.rd y.1 l.length 1 (iv l)])):=
 h.mono fun e w' ⟨A,c,he,hr,hc,hb⟩=>⟨(A,c),he,hc,(hw.on hb).add hr (fun b hb hl=>by simp [Qg.w]) (fun i x b hx=>by simp at hx)⟩
def prY(r:Rl):RlY:=⟨r,none,0,none,0,none,0,[],none,0,true,[]⟩
def Vb:List RlY:=[prY pr0,prY pr1,prY pr2]
theorem Q6K{w:World}{A:Option Addr}(h:Rd w w.heap.size 12 A 3 (QR Vb)):Xq w w.heap.size A 3 Ys:=by
 refine QbE (cur:=Vb) h rfl fun y hy=>?_
 have:y=prY pr0∨y=prY pr1∨y=prY pr2:=by simpa [Vb] using hy
 rcases this with rfl|rfl|rfl<;>exact⟨⟨Nat.le_refl _,Nat.le_refl _,Nat.le_refl _,Qj _ _,Qj _ _,Qj _ _⟩,Qj _ _,Nat.le_refl _⟩
theorem Q6S:FSm Ys:=by
 refine⟨by decide,fun r hr=>?_⟩
 have:r=pr0∨r=pr1∨r=pr2:=by simpa [Ys] using hr
 rcases this with rfl|rfl|rfl<;>exact⟨by decide,by decide,by decide,by decide,fun s hs=>by cases hs⟩
theorem Q9H(o:Nat):∀(l:List Value) (k:Nat) (a:List Value),(l.zipIdx k).foldl (fun cs (x:Value×Nat)=>cs.setIfInBounds (o+x.2) x.1) a.toArray=(Vy a (o+k) l).toArray:=by
 intro l
 induction l with
 |nil=>intro k a;rfl
 |cons x l ih=>
  intro k a;rw[List.zipIdx_cons,List.foldl_cons,Vy]
  have e:a.toArray.setIfInBounds (o+k) x=(a.set (o+k) x).toArray:=by simp
  show (l.zipIdx (k+1)).foldl _ (a.toArray.setIfInBounds (o+k) x)=_
  rw[e];exact ih (k+1) (a.set (o+k) x)
theorem Q3O{f:Nat→Option (Nat×Nat)}{Z cs:List Value}{i o n:Nat}{v:Value}{rest:List (Nat×Value)}(hf:f i=some (o,n))(hv:v.cells=cs.toArray)(hl:cs.length=n)(hz:o+n≤Z.length):Instr.fill f Z.toArray ((i,v)::rest)=Instr.fill f (Vy Z o cs).toArray rest:=by
 have e:v.cells.zipIdx.foldl (fun cs (x:Value×Nat)=>cs.setIfInBounds (o+x.2) x.1) Z.toArray=(Vy Z o cs).toArray:=by
  rw[hv,← Array.foldl_toList];have h1:=Q9H o cs 0 Z
  simpa using h1
 have hs1:v.cells.size=n:=by rw[hv,List.size_toArray,hl]
 have hc:¬(v.cells.size≠n∨o+v.cells.size>Z.toArray.size):=by rw[hs1,List.size_toArray];omega
 rw[Instr.fill,hf]
 dsimp only
 rw[if_neg (by simpa using hc)];exact congrArg (fun z=>Instr.fill f z rest) e
theorem Qb1{f:Nat→Option (Nat×Nat)}{Z:Array Value}:Instr.fill f Z []=some Z:=by rw[Instr.fill]
theorem Q9U{Z:List Value}(hZl:Z.length=36):Vy (Vy (Vy Z 0 (prY pr0).cells) 12 (prY pr1).cells) 24 (prY pr2).cells=QR Vb:=by
 apply List.ext_getElem?
 intro j
 have hl:∀y∈Vb,y.cells.length=12:=fun y _=>rfl
 rw[Y1,XQ,XQ,hZl,show (prY pr2).cells.length=12 from rfl]
 by_cases h2:24≤j∧j<36
 ·rw[if_pos ⟨h2.1,by omega,by omega⟩];have h:=ZZ Vb 2 (prY pr2) (j - 24) rfl (by omega);rw[show 2*12+(j - 24)=j by omega] at h;exact h.symm
 ·rw[if_neg (fun h=>h2 ⟨h.1,by omega⟩),Y1,XQ,hZl,show (prY pr1).cells.length=12 from rfl]
  by_cases h1:12≤j∧j<24
  ·rw[if_pos ⟨h1.1,by omega,by omega⟩];have h:=ZZ Vb 1 (prY pr1) (j - 12) rfl (by omega);rw[show 1*12+(j - 12)=j by omega] at h;exact h.symm
  ·rw[if_neg (fun h=>h1 ⟨h.1,by omega⟩),Y1,hZl,show (prY pr0).cells.length=12 from rfl]
   by_cases h0:j<12
   ·rw[if_pos ⟨by omega,by omega,by omega⟩];have h:=ZZ Vb 0 (prY pr0) j rfl h0;rw[show 0*12+j=j by omega] at h;exact h.symm
   ·rw[if_neg (fun h=>h0 (by omega)),List.getElem?_eq_none (by omega),List.getElem?_eq_none (by rw[Q06];show 3*12≤j;omega)]
set_option maxRecDepth 1000000 in
theorem Q9E(w:World):(Instr.buildSlice 22 3 #[(0,.agg (prY pr0).cells.toArray),(1,.agg (prY pr1).cells.toArray),(2,.agg (prY pr2).cells.toArray)]).run Tryz.prog w=.ok (.slice (some ⟨w.heap.size,0,none⟩) 3 3) (w.alloc (.cells (QR Vb).toArray 52)):=by
 have hT:SlT Tryz.prog 22 52 12 152:=(inferInstance:Sl Tryz.prog 22 52 12 152).h;obtain⟨i,z,hi,hz,hsz,hby,hzs⟩:=hT.info;refine run_buildSlice w _ _ 3 _ (QR Vb).toArray i z hT.und hi hz (by rw[hsz];omega) (by rw[hsz];omega) ?_;rw[hsz];obtain⟨Z,hZ,hZl⟩:∃Z:List Value,(Array.range (3*12)).map (z.cells[·% z.cells.size]!)=Z.toArray∧Z.length=36:=⟨_,(Array.toArray_toList).symm,by simp⟩;rw[hZ]
 show Instr.fill (fun i=>some (i*12,12)) Z.toArray [(0,.agg (prY pr0).cells.toArray),(1,.agg (prY pr1).cells.toArray),(2,.agg (prY pr2).cells.toArray)]=_
 have hfin:Vy (Vy (Vy Z 0 (prY pr0).cells) 12 (prY pr1).cells) 24 (prY pr2).cells=QR Vb:=Q9U hZl;rw[Q3O (o:=0) (n:=12) (cs:=(prY pr0).cells) rfl rfl rfl (by omega),Q3O (o:=12) (n:=12) (cs:=(prY pr1).cells) rfl rfl rfl (by rw[XQ];omega),Q3O (o:=24) (n:=12) (cs:=(prY pr2).cells) rfl rfl rfl (by rw[XQ,XQ];omega),hfin,Qb1]
set_option maxRecDepth 1000000 in
set_option maxHeartbeats 16000000 in
theorem Q7a{W w:World}{O:List Qg}(hw:Wd [] W O w):
  Calls Tryz.prog 25 #[] w (QW (fun b:Nat=>.agg #[.slice (some ⟨b,0,none⟩) 3 3]) (fun _=>True) [] W (fun b=>.rd (some ⟨b,0,none⟩) 3 12 (QR Vb)::O)):=by
 go_enter Tryz.func25,Tryz.ntmps25
 refine QE (M:=[]) (W:=W) (N:=6) (E:=[]) (O:=O) ?_ (Ag.nil rfl rfl) hw
 repeat(first|refine yA fun g=>?_|refine Q8 ?_|refine Q6 ?_|refine Q2 ?_)
 refine Q1 (QZ (xs:=[(0,.const (.string ⟨#[108,105,115,116]⟩)),(1,.const (.int .i64 6)),(8,.const (.int .i64 1)),(9,.const (.int .i64 2))]) (vs:=[(0,.string ⟨#[108,105,115,116]⟩),(1,.int .i64 6),(8,.int .i64 1),(9,.int .i64 2)]) (v:=.agg (prY pr0).cells.toArray) rfl rfl (by decide) rfl rfl (fun w=>run_build w _ _ _ (by kernel_rfl))) ?_;refine Q1 (QZ (xs:=[(0,.const (.string ⟨#[110]⟩)),(1,.const (.int .i64 2)),(3,.const (.int .i64 1)),(4,.const (.bool true)),(6,.const (.int .i64 255))]) (vs:=[(0,.string ⟨#[110]⟩),(1,.int .i64 2),(3,.int .i64 1),(4,.bool true),(6,.int .i64 255)]) (v:=.agg (prY pr1).cells.toArray) rfl rfl (by decide) rfl rfl (fun w=>run_build w _ _ _ (by kernel_rfl))) ?_;refine Q1 (QZ (xs:=[(0,.const (.string ⟨#[120]⟩)),(1,.const (.int .i64 2)),(3,.const (.int .i64 2)),(6,.const (.int .i64 65535))]) (vs:=[(0,.string ⟨#[120]⟩),(1,.int .i64 2),(3,.int .i64 2),(6,.int .i64 65535)]) (v:=.agg (prY pr2).cells.toArray) rfl rfl (by decide) rfl rfl (fun w=>run_build w _ _ _ (by kernel_rfl))) ?_;refine Qa (Q2Q (xs:=[(0,.tmp 1),(1,.tmp 2),(2,.tmp 3)]) (vs:=[(0,.agg (prY pr0).cells.toArray),(1,.agg (prY pr1).cells.toArray),(2,.agg (prY pr2).cells.toArray)]) (cells:=QR Vb) rfl rfl rfl Q9E) rfl (by decide) (fun b _=>?_);refine Q1 (QZ (xs:=[(0,.tmp 4)]) (vs:=[(0,.slice (some ⟨b,0,none⟩) 3 3)]) (v:=.agg #[.slice (some ⟨b,0,none⟩) 3 3]) rfl rfl (by decide) rfl rfl (fun w=>run_build w _ _ _ (by kernel_rfl))) ?_;refine yW 1 ?_
 repeat(first|refine Q8 ?_|refine Ql ?_)
 refine Q9 (by exact .inr rfl) rfl (RsV.blk 1 rfl rfl rfl) (fun w hw=>⟨b,rfl,trivial,?_⟩);have h1:=hw.blk_row (i:=0) (n:=3) (s:=12) rfl rfl (by decide);have h2:=h1.toRd (i:=0) rfl (by decide)
 exact h2.ofMap (fun i=>if i=0 then 0 else i+1) (fun i j h=>by (repeat' split at h)<;>omega) (fun i x hx=>by
  match i,hx with
  |0,hx=>exact hx
  |n+1,hx=>exact hx)
theorem QbC{F:List Rl}{t:List UInt8}(h:Xb F=(0,0))(ht:J1 F=t)(hl:t.length≤2000):QO F=(0,0):=by
 unfold QO
 rw[h,if_neg (fun hh=>hh rfl),ht,if_neg (by omega)]
theorem Q1I:QO Ys=(0,0):=QbC Q6d Q3t (by decide)
theorem Q9f:QO Q2C=(0,0):=QbC Qa5 Q74 (by decide)
theorem Qac:JT Ys=Qc0:=by
 unfold JT
 rw[Q1I,if_pos rfl,Q3t]
theorem Q4O:Zn QdL=(Q2C,0,0):=by
 rw[← Q74];exact Q30 Q9f
theorem Q3P:Zn QbG=([],12,0):=Q1M (by decide) Q8H QbY
theorem Q9c{F:List Rl}(h:QO F=(0,0))(hl:0<F.length):Jw F 0=(0,0):=by
 unfold Jw
 rw[h,if_neg (fun hh=>hh rfl),if_pos (Kh ⟨Int.le_refl 0,by omega⟩)]
theorem Q4F:Jw Ys 0=(0,0):=Q9c Q1I (by decide)
theorem Q9h:Jw Q2C 0=(0,0):=Q9c Q9f (by decide)
theorem Qa7:Ju Ys 0=1:=by
 unfold Ju
 rw[Q4F,if_pos rfl];exact Q6s
theorem QcP:ZT Q2C 0=[65]:=by
 unfold ZT
 rw[Q9h,if_pos rfl]
 exact Qas
end Go.Proofs.YtgdiadednlajgaaGreatDoor
