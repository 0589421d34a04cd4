import Derived.Test.YtphkhfdmlcnoeaaGreatDoorQ30
namespace Go.Proofs.YtphkhfdmlcnoeaaGreatDoor
set_option linter.unusedVariables false
set_option linter.unusedSimpArgs false
set_option maxRecDepth 1000000
set_option maxHeartbeats 32000000
section
variable {A:Option Addr}{F G:List Rl}{cur:List RlY}{k:Int}{n:Nat}{r s t:List UInt8}{refs:List (List UInt8)}{w:World}
theorem Q9c:∀{x o:List UInt8},XI x=some o->o.length<=x.length
 |[],o,h=>by
  rw[XI] at h
  cases h
  exact Nat.le_refl _
 |[_],o,h=>by
  rw[XI] at h
  cases h
 |a::b::l,o,h=>by
  rw[XI] at h
  split at h
  ·cases h
  ·cases hu:XI l with
   |none=>rw[hu] at h;cases h
   |some o'=>
    rw[hu] at h
    cases h
    have:=Q9c hu
    refine Q9d ?_;omega
structure KSz(B:Nat)(name:List UInt8)(n:Nat)(x:Rl)(refs:List (List UInt8)):Prop where
 name:x.name=name
 bs:x.bs.length<=B
 nn:x.names.length<=n
 each:∀s∈x.names,s.length<=B
 parts:x.parts=[]
 rf:refs.length<=n
 use:(Qv x.kind=true\/Zy x.kind=true)->refs.length=(if Qv x.kind then 1 else 0)+(if Zy x.kind then 1 else 0)
theorem QiZ(w:List UInt8):(YJ w).length<=w.length:=by
 unfold YJ;split
 ·exact Nat.zero_le _
 ·exact(Q2Y 58 w).1
theorem Qe7{name:List UInt8}{ws:List (List UInt8)}{x:Rl}{B:Nat}(hB:∀w∈ws,w.length<=B)(h:XQ name k ws=some (x,refs)):KSz B name ws.length x refs:=by
 have mk:∀(y:Rl) (rs:List (List UInt8)),some (y,rs)=some (x,refs)->KSz B name ws.length y rs->KSz B name ws.length x refs:=by
  intro y rs e hk;cases e;exact hk
 have dull:∀(y:Rl),y.name=name->y.bs=[]->y.names=[]->y.parts=[]->∀(rs:List (List UInt8)),rs.length<=ws.length->((Qv y.kind=true\/Zy y.kind=true)->rs.length=(if Qv y.kind then 1 else 0)+(if Zy y.kind then 1 else 0))->KSz B name ws.length y rs:=by
  intro y h1 h2 h3 h4 rs h5 h6;exact⟨h1,by rw[h2];exact Nat.zero_le _,by rw[h3];exact Nat.zero_le _,(by rw[h3];intro s hs;cases hs),h4,h5,h6⟩
 unfold XQ at h;by_cases k1:k=1
 ·subst k1;rw[if_pos rfl] at h
  match ws,hB,h,mk with
  |[],_,h,_=>cases h
  |[a],hB,h,mk=>
   simp only at h;split at h
   ·cases h
   ·cases hu:XI a with
    |none=>rw[hu] at h;cases h
    |some o=>
     rw[hu] at h;refine mk _ _ h ⟨rfl,?_,Nat.zero_le _,fun s hs=>(by cases hs),rfl,Nat.zero_le _,fun hh=>?_⟩
     ·have:=Q9c hu;have h2:=hB a Qn
      show o.length<=B;omega
     ·rcases hh with hh|hh<;>cases (show false=true from hh)
  |_::_::_,_,h,_=>cases h
 rw[if_neg k1] at h;by_cases k2:k=2
 ·subst k2;rw[if_pos rfl] at h
  match ws,h,mk,dull with
  |[],h,_,_=>cases h
  |[_],h,_,_=>cases h
  |[_,_],h,_,_=>cases h
  |[_,_,_],h,_,_=>cases h
  |[a,o,m,x'],h,mk,dull=>
   simp only at h;split at h
   ·split at h
    ·exact mk _ _ h Qga
    ·cases h
   ·cases h
  |_::_::_::_::_::_,h,_,_=>cases h
 rw[if_neg k2] at h;by_cases k3:k=3
 ·subst k3;rw[if_pos rfl] at h
  match ws,h,mk,dull with
  |[],h,_,_=>cases h
  |[_],h,_,_=>cases h
  |[a,b],h,mk,dull=>
   simp only at h;split at h
   ·exact mk _ _ h Qga
   ·cases h
  |_::_::_::_,h,_,_=>cases h
 rw[if_neg k3] at h;by_cases k4:k=4
 ·subst k4;rw[if_pos rfl] at h
  match ws,h,mk,dull with
  |[],h,_,_=>cases h
  |[a],h,mk,dull=>
   simp only at h;cases hn:VR a with
   |none=>rw[hn] at h;cases h
   |some v=>
    rw[hn] at h;exact mk _ _ h Qga
  |_::_::_,h,_,_=>cases h
 rw[if_neg k4] at h;by_cases k5:k=5
 ·subst k5;rw[if_pos rfl] at h
  match ws,h,mk,dull with
  |[],h,_,_=>cases h
  |[_],h,_,_=>cases h
  |[a,b],h,mk,dull=>
   simp only at h;split at h
   ·exact mk _ _ h Qga
   ·cases h
  |_::_::_::_,h,_,_=>cases h
 rw[if_neg k5] at h;by_cases k6:k=6
 ·subst k6;rw[if_pos rfl] at h
  match ws,h,mk,dull with
  |[],h,_,_=>cases h
  |[_],h,_,_=>cases h
  |[a,b],h,mk,dull=>
   simp only at h;split at h
   ·exact Qma
   ·cases h
  |_::_::_::_,h,_,_=>cases h
 rw[if_neg k6] at h;by_cases k9:k=9
 ·subst k9;rw[if_pos rfl] at h
  match ws,h,mk,dull with
  |[],h,_,_=>cases h
  |[_],h,_,_=>cases h
  |[a,b],h,mk,dull=>
   simp only at h;split at h
   ·split at h
    ·exact mk _ _ h (dull _ rfl rfl rfl rfl _ Qn fun _=>rfl)
    ·cases h
   ·cases h
  |_::_::_::_,h,_,_=>cases h
 rw[if_neg k9] at h;by_cases k10:k=10
 ·subst k10;rw[if_pos rfl] at h
  match ws,h,mk,dull with
  |[],h,_,_=>cases h
  |[a],h,mk,dull=>
   simp only at h;split at h
   ·exact Qma
   ·cases h
  |_::_::_,h,_,_=>cases h
 rw[if_neg k10] at h;by_cases k7:k=7
 ·subst k7;rw[if_pos rfl,Q2h] at h
  split at h
  ·cases h
  ·refine mk _ _ h ⟨rfl,Nat.zero_le _,?_,?_,rfl,?_,fun hh=>?_⟩
   ·show (ws.map YJ).length<=ws.length
    rw[List.length_map];exact Q0n
   ·intro s hs;obtain⟨w,hw,rfl⟩:=List.mem_map.1 (show s∈ws.map YJ from hs);exact Nat.le_trans (QiZ w) (hB w hw)
   ·show (ws.map (Q64 true)).length<=ws.length
    rw[List.length_map];exact Q0n
   ·rcases hh with hh|hh<;>cases (show false=true from hh)
 rw[if_neg k7] at h;by_cases k8:k=8
 ·subst k8;rw[if_pos rfl] at h
  split at h
  ·exact mk _ _ h (dull _ rfl rfl rfl rfl _ XU fun hh=>by rcases hh with hh|hh<;>cases (show false=true from hh))
  ·cases h
 rw[if_neg k8] at h;cases h
theorem QfV{l:List UInt8}{x:Rl}(hl:l.length<=2000)(h:Vx l=some (x,refs)):x.name.length<=2000/\KSz 2000 x.name 2001 x refs:=by
 obtain⟨h1,h2⟩:=Qdu 32 l;unfold Vx at h;match hs:spl 32 l,h,h1,h2 with
 |[],h,_,_=>cases Ql8
 |[_],h,_,_=>cases Ql8
 |name::kw::ws,h,h1,h2=>
  rw[Yj] at h;split at h
  ·have hk:=Qe7 (B:=2000) (fun w hw=>by have:=h2 w (by simp [hw]);omega) h;have hn:=h2 name Qn
   simp only[List.length_cons] at h1;have e:=hk.name;refine⟨by rw[e];omega,rfl,hk.bs,?_,hk.each,hk.parts,?_,hk.use⟩
   ·have:=hk.nn;omega
   ·have:=hk.rf;omega
  ·cases h
theorem Qgl(hs:s≠[])(h:Xf 10 s=(t,r,false)):XC k (spl 10 s)=.error k:=by
 rw[(QhO h).1,XC,if_neg hs]
theorem QjD{e:Bool}(hs:s≠[])(h:Xf 10 s=(t,r,e))(hb:Vx t=none):XC k (spl 10 s)=.error k:=by
 cases e with
 |false=>exact Qgl hs h
 |true=>
  rw[(Q0p h).1];cases hr:spl 10 r with
  |nil=>exact absurd hr (Q5W 10 r)
  |cons m t'=>rw[XC,hb]
theorem QpB{x:Rl×List (List UInt8)}(h:Xf 10 s=(t,r,true))(hb:Vx t=some x):XC k (spl 10 s)=(match XC (k+1) (spl 10 r) with|.ok xs=>.ok (x::xs)|.error e=>.error e):=by
 rw[(Q0p h).1];cases hr:spl 10 r with
 |nil=>exact absurd hr (Q5W 10 r)
 |cons m t'=>
  rw[XC,hb];rfl
theorem QiA(h:F.map Rl.name=G.map Rl.name)(s:List UInt8):XN F s=XN G s:=by
 have e:∀L:List Rl,L.findIdx? (fun r=>r.name==s)=(L.map Rl.name).findIdx? (fun n=>n==s):=by
  intro L;induction L with
  |nil=>rfl
  |cons x l ih=>rw[List.map_cons,List.findIdx?_cons,List.findIdx?_cons,ih]
 unfold XN;rw[e F,e G,h]
theorem Q6k{F G:List Rl}(h:F.map Rl.name=G.map Rl.name):∀refs:List (List UInt8),Zs F refs=Zs G refs
 |[]=>rfl
 |s::l=>by rw[Zs,Zs,QiA h s,Q6k h l]
theorem Qa8(h:F.map Rl.name=G.map Rl.name)(p:Rl×List (List UInt8)):XX F p=XX G p:=by
 unfold XX;rw[Q6k h]
theorem Q7I{x r:Rl}(h:XX F (x,refs)=some r):r.name=x.name/\r.bs=x.bs/\r.names=x.names/\r.parts.length<=refs.length/\r.kind=x.kind:=by
 unfold XX at h;have hp:∀{refs:List (List UInt8)} {ns:List Int},Zs F refs=some ns->ns.length=refs.length:=by
  intro refs;induction refs with
  |nil=>intro ns e;rw[Zs] at e;cases e;rfl
  |cons s l ih=>
   intro ns e;rw[Zs] at e;split at e
   ·cases e
   ·cases hl:Zs F l with
    |none=>rw[hl] at e;cases e
    |some ms=>
     rw[hl] at e;cases e;rw[List.length_cons,List.length_cons,ih hl]
 cases hns:Zs F refs with
 |none=>simp only[hns] at h;cases h
 |some ns=>
  simp only[hns] at h;cases h;have hl:=hp hns;refine⟨rfl,rfl,rfl,?_,rfl⟩;show (if Zy x.kind then (if Qv x.kind then ns.tail else ns).tail else (if Qv x.kind then ns.tail else ns)).length<=refs.length;have h1:(if Qv x.kind then ns.tail else ns).length<=ns.length:=by
   split
   ·rw[List.length_tail];omega
   ·exact Q0n
  split
  ·rw[List.length_tail]
   omega
  ·omega
theorem Qku(hr:Rd w w.heap.size 12 A n (Xq cur))(hn:cur.length=n)(hf:∀y∈cur,RlF y w):X3 w w.heap.size A n (cur.map RlY.x):=by
 refine⟨by rw[List.length_map];exact hn,fun h0=>?_⟩;obtain⟨b,o,e,hb,hc⟩:=hr.2 h0;refine⟨b,o,e,hb,fun i r hi=>?_⟩;rw[List.getElem?_map] at hi;cases hy:cur[i]? with
 |none=>rw[hy] at hi;cases hi
 |some y=>
  rw[hy] at hi;cases hi;have hcell:∀j v,j<12->y.cells[j]? =some v->w.cell? ⟨b,o+i*12+j,none⟩=some v:=fun j v hj hv=>by
   rw[Nat.add_assoc];exact hc (i*12+j) v (by rw[Jf cur i y j hy hj];exact hv)
  have hfy:=hf y Qnx;refine⟨.slice y.Ab y.x.bs.length y.cb,.slice y.An y.x.names.length y.cn,.slice y.Ap y.x.parts.length y.cp,⟨hcell 0 _ Q1 rfl,hcell 1 _ Q1 rfl,hcell 2 _ Q1 rfl,hcell 3 _ Q1 rfl,hcell 4 _ Q1 rfl,hcell 5 _ Q1 rfl,hcell 6 _ Q1 rfl,hcell 7 _ Q1 rfl,hcell 8 _ Q1 rfl,hcell 9 _ Q1 rfl,hcell 10 _ Q1 rfl,hcell 11 _ Q1 rfl⟩,?_⟩;exact⟨_,_,_,_,_,_,_,_,_,rfl,rfl,rfl,hfy.r.cb,hfy.r.cn,hfy.r.cp,hfy.r.b,hfy.r.n,hfy.r.p⟩
theorem Qw7{c:Nat}{e:TypeId}(h:(Qf.row A n c e 12 (Xq cur)).on w)(hn:cur.length=n)(hf:∀y∈cur,RlF y w):X3 w w.heap.size A n (cur.map RlY.x):=Qku (row_rd h Q1).1 hn hf
end
open Go.RowKit
section
variable {A:Option Addr}{F:List Rl}{L O at_:List Qf}{M:List Nat}{W w:World}{a b d:Qf}{c k:Nat}{cur ls:List RlY}{r s t:List UInt8}{xs:List (Rl×List (List UInt8))}{y:RlY}{α:Type}
theorem Wd.swapL{P:List Qf}(h:Wd M W (L++(P++O)) w):Wd M W (P++(L++O)) w:=by
 refine h.ofMap (fun i=>if i<P.length then L.length+i else if i<P.length+L.length then i - P.length else i) Q5F (fun i x hx=>?_);by_cases h1:i<P.length
 ·rw[if_pos h1];rw[List.getElem?_append_left h1] at hx;rw[List.getElem?_append_right Q2,Nat.add_sub_cancel_left,List.getElem?_append_left h1];exact hx
 ·rw[if_neg h1];rw[List.getElem?_append_right Q2] at hx
  by_cases h2:i<P.length+L.length
  ·rw[if_pos h2];rw[List.getElem?_append_left Q2] at hx;rw[List.getElem?_append_left Q2];exact hx
  ·rw[if_neg h2];rw[List.getElem?_append_right Q2] at hx;rw[List.getElem?_append_right Q2,List.getElem?_append_right Q2];rw[show i - L.length - P.length=i - P.length - L.length by omega];exact hx
theorem Wd.swap5{c e:Qf}(h:Wd M W (L++(a::b::c::d::e::O)) w):Wd M W (a::b::c::d::e::(L++O)) w:=Wd.swapL (P:=[a,b,c,d,e]) h
theorem Wd.swap41{c e:Qf}(h:Wd M W (a::(L++(b::c::d::e::O))) w):Wd M W (a::b::c::d::e::(L++O)) w:=
 Wd.swapL (L:=[b,c,d,e]) (P:=[a]) (Wd.swapL (L:=a::L) (P:=[b,c,d,e]) h)
theorem Qbg{n s:Nat}{e:TypeId}{xs:List Value}(h:(Qf.row A n c e s xs).on w)(h0:0<n):∃b,A=some ⟨b,0,none⟩:=by
 have h':w.ownsRow 0 e s (.slice A n c) n xs:=h;rcases h'.2 with ⟨hv,_⟩|⟨g,cap,cur,hv,_⟩
 ·simp only[Value.slice.injEq] at hv
  omega
 ·simp only[Value.slice.injEq] at hv
  exact⟨g,hv.1⟩
def Q19{α:Type}(l:List α):Except Int (List α)->Except Int (List α)
 |.ok xs=>.ok (l++xs)
 |.error e=>.error e
theorem QbW(a b:List α)(x:Except Int (List α)):Q19 a (Q19 b x)=Q19 (a++b) x:=by
 cases x with
 |error e=>rfl
 |ok xs=>simp [Q19]
theorem QcN(x:Except Int (List α)):Q19 [] x=x:=by cases x<;>rfl
theorem QjO{k:Int}{x:Rl×List (List UInt8)}(h:Xf 10 s=(t,r,true))(hb:Vx t=some x):XC k (spl 10 s)=Q19 [x] (XC (k+1) (spl 10 r)):=by
 rw[QpB h hb];cases XC (k+1) (spl 10 r)<;>rfl
abbrev prL(y:RlY):Rl×List (List UInt8):=(y.x,y.refs)
def Q49(L:List RlY):List Value:=L.map fun y=>.slice y.Ar y.refs.length y.cr
theorem QjE(L:List RlY)(y:RlY):Q49 (L++[y])=Q49 L++[.slice y.Ar y.refs.length y.cr]:=by simp [Q49]
structure PrY where
 F:List Rl
 A:Option Addr
 c:Nat
 e:Int×Int
 ats:List Qf
abbrev PrY.v(y:PrY):Value:=.tuple #[.agg #[.slice y.A y.F.length y.c],.agg #[.int .i64 y.e.1,.int .i64 y.e.2]]
structure PrI(s:List UInt8)(y:PrY):Prop where
 e:ZY s=(y.F,y.e)
 c:y.F.length<=y.c
 sm:FSm y.F
 w:∀a∈y.ats,a.w=false
 f:∀w,(∀a∈y.ats,a.on w)->X3 w w.heap.size y.A y.F.length y.F
theorem Q6D{a b:Int}(h:ZY s=([],a,b))(hw:Wd [] W O w):QN PrY.v (PrI s) [] W (fun y=>y.ats++O) (.returned (.tuple #[.agg #[.slice none 0 0],.agg #[.int .i64 a,.int .i64 b]])) w:=
 ⟨⟨[],none,0,(a,b),[]⟩,rfl,⟨h,Nat.le_refl _,⟨Nat.zero_le _,fun r hr=>(by cases hr)⟩,fun a ha=>(by cases ha),fun w _=>⟨rfl,fun h0=>absurd h0 Qax⟩⟩,hw⟩
theorem Qck(h:2000<s.length):ZY s=([],3,-1):=by unfold ZY;rw[if_pos h]
theorem Q5J{k:Int}(h:¬2000<s.length)(h1:XC 0 (spl 10 s)=.error k):ZY s=([],1,k):=by unfold ZY;rw[if_neg h,h1]
theorem Q8d{k:Int}(h:¬2000<s.length)(h1:XC 0 (spl 10 s)=.ok xs)(h2:QO (xs.map (·.1)) 0 xs=.error k):ZY s=([],12,k):=by
 unfold ZY;rw[if_neg h,h1];simp only[h2]
theorem QiL(h:¬2000<s.length)(h1:XC 0 (spl 10 s)=.ok xs)(h2:QO (xs.map (·.1)) 0 xs=.ok F)(h3:Qz F≠(0,0)):ZY s=([],Qz F):=by
 unfold ZY;rw[if_neg h,h1];simp only[h2];rw[if_pos h3]
theorem Qj1(h:¬2000<s.length)(h1:XC 0 (spl 10 s)=.ok xs)(h2:QO (xs.map (·.1)) 0 xs=.ok F)(h3:Qz F=(0,0)):ZY s=(F,0,0):=by
 unfold ZY;rw[if_neg h,h1];simp only[h2];rw[if_neg (fun hh=>hh h3)]
structure PsY where
 ls:List RlY
 s:List UInt8
 A:Option Addr
 c:Nat
 B:Option Addr
 d:Nat
 at_:List Qf
structure PsI(s0:List UInt8)(y:PsY):Prop where
 res:XC 0 (spl 10 s0)=Q19 (y.ls.map prL) (XC (y.ls.length:Int) (spl 10 y.s))
 sz:y.ls.length+y.s.length<=2000
 k:∀z∈y.ls,z.x.name.length<=2000/\KSz 2000 z.x.name 2001 z.x z.refs
 w:∀a∈y.at_,a.w=false
 f:∀w,(∀a∈y.at_,a.on w)->∀z∈y.ls,RlF z w
theorem PsI.next{s0:List UInt8}{B A' B':Option Addr}{d c' d':Nat}(h:PsI s0 ⟨ls,s,A,c,B,d,at_⟩)(hc:Xf 10 s=(t,r,true))(hy:RlI t y)(hok:y.ok=true)(hrl:Vx t=some (y.x,y.refs)):PsI s0 ⟨ls++[y],r,A',c',B',d',y.ats++at_⟩:=by
 have e:=(Q0p hc).2.1;have hsz:ls.length+s.length<=2000:=h.sz;have hl:s.length=t.length+1+r.length:=by rw[e];simp only[List.length_append,List.length_cons];omega
 refine⟨?_,?_,?_,?_,?_⟩
 ·have h1:=h.res;rw[h1]
  show Q19 (ls.map prL) (XC (ls.length:Int) (spl 10 s))=Q19 ((ls++[y]).map prL) (XC ((ls++[y]).length:Int) (spl 10 r));rw[QjO hc hrl,QbW,List.length_append,List.map_append,show ((ls.length+[y].length:Nat):Int)=(ls.length:Int)+1 from rfl];rfl
 ·show (ls++[y]).length+r.length<=2000
  rw[List.length_append,List.length_singleton];omega
 ·intro z hz
  rcases List.mem_append.1 hz with hz|hz
  ·exact h.k z hz
  ·rw[List.mem_singleton.1 hz];exact QfV Q2 hrl
 ·intro a ha
  rcases List.mem_append.1 ha with ha|ha
  ·exact hy.w a ha
  ·exact h.w a ha
 ·intro w hw z hz
  rcases List.mem_append.1 hz with hz|hz
  ·exact h.f w (fun a ha=>hw a (List.mem_append_right _ ha)) z hz
  ·rw[List.mem_singleton.1 hz];exact hy.f hok w (fun a ha=>hw a (List.mem_append_left _ ha))
structure P2Y where
 k:Nat
 cur:List RlY
 at_:List Qf
structure P2I(ls:List RlY)(y:P2Y):Prop where
 k:y.k<=ls.length
 len:y.cur.length=ls.length
 drop:y.cur.drop y.k=ls.drop y.k
 nm:(y.cur.map RlY.x).map Rl.name=(ls.map RlY.x).map Rl.name
 res:QO (ls.map RlY.x) 0 (ls.map prL)=Q19 ((y.cur.take y.k).map RlY.x) (QO (ls.map RlY.x) (y.k:Int) ((ls.drop y.k).map prL))
 sm:∀z∈y.cur,RSm z.x
 w:∀a∈y.at_,a.w=false
 f:∀w,(∀a∈y.at_,a.on w)->(∀z∈y.cur,RlF z w)/\∀z∈ls,RlF z w
theorem P2I.start(hk:∀z∈ls,z.x.name.length<=2000/\KSz 2000 z.x.name 2001 z.x z.refs)(hw:∀a∈at_,a.w=false)(hf:∀w,(∀a∈at_,a.on w)->∀z∈ls,RlF z w):P2I ls ⟨0,ls,at_⟩:=by
 refine⟨Nat.zero_le _,rfl,rfl,rfl,?_,fun z hz=>?_,hw,fun w h=>⟨hf w h,hf w h⟩⟩
 ·exact(QcN _).symm
 ·obtain⟨h1,h2⟩:=hk z hz;have a1:=h2.bs;have a2:=h2.nn;have a3:=h2.parts;exact⟨by omega,by omega,by omega,by rw[a3];decide,fun s hs=>by have:=h2.each s hs;omega⟩
theorem P2I.at_k(h:P2I ls ⟨k,cur,at_⟩)(hk:k<ls.length):∃y,cur[k]? =some y/\ls[k]? =some y:=by
 have h1:=congrArg (fun l=>l[0]?) h.drop;simp only[List.getElem?_drop,Nat.add_zero] at h1;exact⟨_,h1.trans (List.getElem?_eq_getElem hk),List.getElem?_eq_getElem hk⟩
theorem P2I.res_k(h:P2I ls ⟨k,cur,at_⟩)(hy:ls[k]? =some y):QO (ls.map RlY.x) (k:Int) ((ls.drop k).map prL)=(match XX (cur.map RlY.x) (y.x,y.refs) with|none=>.error (k:Int)|some r=>Q19 [r] (QO (ls.map RlY.x) ((k:Int)+1) ((ls.drop (k+1)).map prL))):=by
 have hlt:=(List.getElem?_eq_some_iff.1 hy);obtain⟨hk,he⟩:=hlt;rw[List.drop_eq_getElem_cons hk,he,List.map_cons];show QO (ls.map RlY.x) (k:Int) ((y.x,y.refs)::(ls.drop (k+1)).map prL)=_;rw[QO,Qa8 h.nm];cases XX (ls.map RlY.x) (y.x,y.refs) with
 |none=>rfl
 |some r=>
  simp only;cases QO (ls.map RlY.x) ((k:Int)+1) ((ls.drop (k+1)).map prL)<;>rfl
theorem P2I.no(h:P2I ls ⟨k,cur,at_⟩)(hy:ls[k]? =some y)(hr:XX (cur.map RlY.x) (y.x,y.refs)=none):QO (ls.map RlY.x) 0 (ls.map prL)=.error (k:Int):=by
 rw[h.res];show Q19 ((cur.take k).map RlY.x) (QO (ls.map RlY.x) (k:Int) ((ls.drop k).map prL))=_;rw[h.res_k hy,hr];rfl
theorem P2I.next{z:RsY}(h:P2I ls ⟨k,cur,at_⟩)(hy:cur[k]? =some y)(hy2:ls[k]? =some y)(hz:RsI cur k y z)(hok:z.ok=true)(hks:KSz 2000 y.x.name 2001 y.x y.refs):P2I ls ⟨k+1,z.cur,z.ats++at_⟩:=by
 have hk:k<cur.length:=(List.getElem?_eq_some_iff.1 hy).1;have hk2:k<ls.length:=(List.getElem?_eq_some_iff.1 hy2).1;have hcur:=hz.cur hok;have hyes:=hz.yes hok;obtain⟨s1,s2,s3,s4,s5⟩:=Q7I hyes;have hlen:cur.length=ls.length:=h.len;rw[hcur];refine⟨hk2,by rw[List.length_set];exact hlen,?_,?_,?_,?_,?_,?_⟩
 ·show (cur.set k _).drop (k+1)=ls.drop (k+1)
  rw[List.drop_set_of_lt Q2];have h1:=congrArg (List.drop 1) (show cur.drop k=ls.drop k from h.drop);rw[List.drop_drop,List.drop_drop] at h1;exact h1
 ·have h1:(cur.map RlY.x).map Rl.name=(ls.map RlY.x).map Rl.name:=h.nm;rw[<- h1]
  apply List.ext_getElem?;intro j;simp only[List.getElem?_map,List.getElem?_set];by_cases e:k=j
  ·subst e;rw[if_pos rfl,if_pos hk,hy]
   simp only[Option.map_some];rw[s1]
  ·rw[if_neg e]
 ·rw[h.res]
  show Q19 ((cur.take k).map RlY.x) (QO (ls.map RlY.x) (k:Int) ((ls.drop k).map prL))=Q19 (((cur.set k _).take (k+1)).map RlY.x) (QO (ls.map RlY.x) ((k+1:Nat):Int) ((ls.drop (k+1)).map prL));rw[h.res_k hy2,hyes,show ((k+1:Nat):Int)=(k:Int)+1 from rfl];simp only;rw[QbW,List.take_add_one,List.getElem?_set,if_pos rfl,if_pos hk,List.take_set_of_le (Nat.le_refl _),List.map_append];rfl
 ·intro x hx
  rcases List.mem_or_eq_of_mem_set hx with hx|hx
  ·exact h.sm x hx
  ·have hsm:RSm y.x:=h.sm y Qnx;have hrf:=hks.rf;rw[hx];exact⟨by rw[s1];exact hsm.name,by rw[s2];exact hsm.bs,by rw[s3];exact hsm.names,(by show z.x.parts.length<=1048576;omega),by rw[s3];exact hsm.each⟩
 ·intro a ha
  rcases List.mem_append.1 ha with ha|ha
  ·exact hz.w a ha
  ·exact h.w a ha
 ·intro w hw;obtain⟨f1,f2⟩:=h.f w (fun a ha=>hw a (List.mem_append_right _ ha));refine⟨fun x hx=>?_,f2⟩
  rcases List.mem_or_eq_of_mem_set hx with hx|hx
  ·exact f1 x hx
  ·have fy:RlF y w:=f1 y Qnx;rw[hx];refine⟨⟨?_,?_,hz.c hok,?_,?_,hz.f hok w (fun a ha=>hw a (List.mem_append_left _ ha))⟩,fy.s,fy.c⟩
   ·show z.x.bs.length<=y.cb
    rw[s2];exact fy.r.cb
   ·show z.x.names.length<=y.cn
    rw[s3];exact fy.r.cn
   ·show Rd w w.heap.size 1 y.Ab z.x.bs.length (bv z.x.bs)
    rw[s2];exact fy.r.b
   ·show Rd w w.heap.size 1 y.An z.x.names.length (sv z.x.names)
    rw[s3];exact fy.r.n
theorem P2I.fin(h:P2I ls ⟨ls.length,cur,at_⟩):QO (ls.map RlY.x) 0 (ls.map prL)=.ok (cur.map RlY.x):=by
 rw[h.res];show Q19 ((cur.take ls.length).map RlY.x) (QO (ls.map RlY.x) (ls.length:Int) ((ls.drop ls.length).map prL))=_;rw[List.drop_length,List.map_nil,QO,Q19,List.append_nil,List.take_of_length_le (by rw[show cur.length=ls.length from h.len];exact Nat.le_refl _)]
theorem QgV(ls:List RlY):(ls.map prL).map (·.1)=ls.map RlY.x:=by rw[List.map_map];rfl
end
section
variable {r:Rl}
structure LeV(w:World)(g bs n:Nat)(out:List Int)(gf:Nat)(A:Option Addr)(c:Nat):Prop where
 v:w.cell? ⟨g,0,none⟩=some (.slice (some ⟨bs,0,none⟩) n n)
 at_:∀j,j<n->w.cell? ⟨bs,0+j,none⟩=some (.int .i64 (out.getD j 0))
 f:w.cell? ⟨gf,0,none⟩=some (.slice A n c)
abbrev Q45(r:Rl)(Ab An Ap:Option Addr)(cb cn cp g gf:Nat):Array Value:=[Value.agg (ruC r (.slice Ab r.bs.length cb) (.slice An r.names.length cn) (.slice Ap r.parts.length cp)).toArray].toArray++#[.pointer (some ⟨g,0,none⟩),.pointer (some ⟨gf,0,none⟩)]
section
variable {F:List Rl}{A Ab An Ap:Option Addr}{n c cb cn cp g bs gf:Nat}{out:List Int}{W:World}
theorem Qqg(hk:r.kind=1\/(r.kind=2\/r.kind=4)\/r.kind=3\/(r.kind=5\/r.kind=9)):
  Calls Tryz.prog 56 (Q45 r Ab An Ap cb cn cp g gf) W (JA W (Zd F out r)):=by
 refine QgM ?_;obtain⟨name,kind,bs',size,big,mn,mx,stop,count,elem,names,parts⟩:=r;simp only at hk;rcases hk with rfl|(rfl|rfl)|rfl|(rfl|rfl)<;>
 ·go_enter Tryz.func56,Tryz.ntmps56
  refine Qy (M:=[]) (W:=W) (N:=87) (E:=[(0,.agg (ruC ⟨name,_,bs',size,big,mn,mx,stop,count,elem,names,parts⟩ (.slice Ab bs'.length cb) (.slice An names.length cn) (.slice Ap parts.length cp)).toArray),(1,.pointer (some ⟨g,0,none⟩)),(2,.pointer (some ⟨gf,0,none⟩))]) (O:=[]) ?_ (Ag.cons (Ag.cons (Ag.cons (Ag.nil rfl rfl) rfl) rfl) rfl) (Wd.start [] W);repeat(first|refine Q4 zA ?_|refine Q4 zF ?_|refine Q4 (zB 0) ?_|refine yB fun br=>?_|refine Qc ?_|refine Qa ?_|refine Q6 ?_|refine Qp ?_|refine Q8 rfl ?_|refine Q7 rfl ?_|refine Qu ?_|refine Qh ?_|refine Qo ?_|refine Qt ?_|refine Q4 zL ?_|refine Q4 zer ?_)
  exact Qb (by exact .inr rfl) rfl (.tmp rfl) (fun w hw=>QG rfl hw)
theorem Qo9(hv:LeV W g bs n out gf A c)(hf:X3 W W.heap.size A n F)(hk:r.kind=10)(hc:0<=r.count/\r.count<n)(hmn:0<=JN F r.count/\JN F r.count<=4294967295)(hb:∀j:Nat,0<=out.getD j 0/\out.getD j 0<=1001):
  Calls Tryz.prog 56 (Q45 r Ab An Ap cb cn cp g gf) W (JA W (Zd F out r)):=by
 refine QgM ?_;rw[Qa7 out hk];obtain⟨name,kind,bs',size,big,mn,mx,stop,count,elem,names,parts⟩:=r;simp only at hk hc hmn ⊢;subst hk;obtain⟨b,o,rfl⟩:=hf.addr Q2;obtain⟨rc,Ac,cc,Ad,cd,Ae,ce,hrc,hrg,_⟩:=hf.rl (i:=count.toNat) Q2;have hv1:=hv.v;have hv2:=hv.at_ count.toNat Q2;have hv3:=hv.f;have hb1:=hb count.toNat;have hmc:=Q12 hrc;rw[hmc] at hmn ⊢;have hlk:lk out count=out.getD count.toNat 0:=rfl;rw[hlk];generalize out.getD count.toNat 0=oc at hv2 hb1;clear hrc hmc hv hf hb hlk;go_enter Tryz.func56,Tryz.ntmps56;refine Qy (M:=[]) (W:=W) (N:=87) (E:=[(0,.agg (ruC ⟨name,10,bs',size,big,mn,mx,stop,count,elem,names,parts⟩ (.slice Ab bs'.length cb) Qo6 Qeg).toArray),(1,.pointer Q6b),(2,.pointer (some ⟨gf,0,none⟩))]) (O:=[]) ?_ Ze Xs;repeat(first|refine Q4 zA ?_|refine Q4 zF ?_|refine Q4 (zB 0) ?_|refine Q4 zC ?_|refine yB fun br=>?_|refine Qc ?_|refine Qa ?_|refine Q6 ?_|refine Q8 rfl ?_|refine Q7 rfl ?_|refine Qh ?_|refine Q4 zer ?_)
 repeat(first|refine Q9 zA ?_|refine Q9 zF ?_|refine Q9 (zB 0) ?_|refine Q9 zC ?_|refine Q9 (zD 0) ?_|refine Q9 zE ?_|refine Q9 (Zp rfl rfl Q1 rfl rfl rfl hc) ?_|refine Q9 (QF rfl rfl Q1 rfl rfl rfl hc) ?_|refine Q9 Qhd ?_|refine XV ?_|refine Xh Q5 Q5 ?_|refine Q9 zP ?_)
 refine yt<|yk<|yc ?_;exact QkF
theorem QoY(hv:LeV W g bs n out gf A c)(hf:X3 W W.heap.size A n F)(hk:r.kind=6)(hc:0<=r.count/\r.count<n)(he:0<=r.elem/\r.elem<n)(hmn:0<=JN F r.count/\JN F r.count<=4294967295)(hb:∀j:Nat,0<=out.getD j 0/\out.getD j 0<=1001):
  Calls Tryz.prog 56 (Q45 r Ab An Ap cb cn cp g gf) W (JA W (Zd F out r)):=by
 refine QgM ?_;rw[Qfx out hk];obtain⟨name,kind,bs',size,big,mn,mx,stop,count,elem,names,parts⟩:=r;simp only at hk hc he hmn ⊢;subst hk;obtain⟨b,o,rfl⟩:=hf.addr Q2;obtain⟨rc,Ac,cc,Ad,cd,Ae,ce,hrc,hrg,_⟩:=hf.rl (i:=count.toNat) Q2;have hv1:=hv.v;have hv2:=hv.at_ count.toNat Q2;have hv4:=hv.at_ elem.toNat Q2;have hv3:=hv.f;have hb1:=hb count.toNat;have hb2:=hb elem.toNat;have hmc:=Q12 hrc;rw[hmc] at hmn ⊢;have hlk:lk out count=out.getD count.toNat 0:=rfl;have hle:lk out elem=out.getD elem.toNat 0:=rfl;rw[hlk,hle];generalize out.getD count.toNat 0=oc at hv2 hb1;generalize out.getD elem.toNat 0=oe at hv4 hb2;have hp0:=Int.mul_nonneg hmn.1 hb2.1;have hp1:rc.mn*oe<=4294967295*1001:=Int.mul_le_mul hmn.2 hb2.2 hb2.1 Q1;clear hrc hmc hv hf hb hlk hle;go_enter Tryz.func56,Tryz.ntmps56;refine Qy (M:=[]) (W:=W) (N:=87) (E:=[(0,.agg (ruC ⟨name,6,bs',size,big,mn,mx,stop,count,elem,names,parts⟩ (.slice Ab bs'.length cb) Qo6 Qeg).toArray),(1,.pointer Q6b),(2,.pointer (some ⟨gf,0,none⟩))]) (O:=[]) ?_ Ze Xs;repeat(first|refine Q4 zA ?_|refine Q4 zF ?_|refine Q4 (zB 0) ?_|refine Q4 zC ?_|refine yB fun br=>?_|refine Qc ?_|refine Qa ?_|refine Q6 ?_|refine Q8 rfl ?_|refine Q7 rfl ?_|refine Qh ?_|refine Q4 zer ?_)
 repeat(first|refine Q9 zA ?_|refine Q9 zF ?_|refine Q9 (zB 0) ?_|refine Q9 zC ?_|refine Q9 (zD 0) ?_|refine Q9 zE ?_|refine Q9 (Zp rfl rfl Q1 rfl rfl rfl hc) ?_|refine Q9 (Zp rfl rfl Q1 rfl rfl rfl he) ?_|refine Q9 (QF rfl rfl Q1 rfl rfl rfl hc) ?_|refine Q9 Qhd ?_|refine Q9 Q7l ?_|refine XV ?_|refine Xh Q5 Q5 ?_|refine Q9 zP ?_)
 refine yt<|yk<|yc ?_;exact QkF
theorem Qbt(hv:LeV W g bs n out gf A c)(hl:RuL W r Ab cb An cn Ap cp)(hk:r.kind=7\/r.kind=8)(hp12:r.parts.length<=12)(hin:∀x∈r.parts,0<=x/\x<n)(hb:∀j:Nat,0<=out.getD j 0/\out.getD j 0<=1001):
  Calls Tryz.prog 56 (Q45 r Ab An Ap cb cn cp g gf) W (JA W (Zd F out r)):=by
 refine QgM ?_;have hone:Zd F out r=if r.kind==8 then Q2p out r.parts else Q2f out r.parts:=by
  rcases hk with h|h
  ·rw[QeR out h,h];rfl
  ·rw[Qeq out h,h];rfl
 rw[hone];clear hone;have HP:=Q3 hl.p;have HIN:=Q3 hin;have HB:=Q3 hb;have HV:=Q3 hv;have hv1:=hv.v;obtain⟨name,kind,bs',size,big,mn,mx,stop,count,elem,names,parts⟩:=r;simp only at hk hp12 ⊢;clear hl hin hb hv;have hcell1:(([Value.string ⟨name.toArray⟩]:List Value)).length=1:=rfl;clear hcell1;rcases hk with rfl|rfl<;>
 ·go_enter Tryz.func56,Tryz.ntmps56
  refine Qy (M:=[]) (W:=W) (N:=87) (E:=[(0,.agg (ruC ⟨name,_,bs',size,big,mn,mx,stop,count,elem,names,parts⟩ (.slice Ab bs'.length cb) (.slice An names.length cn) (.slice Ap parts.length cp)).toArray),(1,.pointer (some ⟨g,0,none⟩)),(2,.pointer (some ⟨gf,0,none⟩))]) (O:=[]) ?_ (Ag.cons (Ag.cons (Ag.cons (Ag.nil rfl rfl) rfl) rfl) rfl) (Wd.start [] W);repeat(first|refine Q4 zM ?_|refine Q4 zA ?_|refine Q4 zF ?_|refine Q4 (zB 0) ?_|refine Q4 zC ?_|refine yB fun br=>?_|refine Qc ?_|refine Qa ?_|refine Q6 ?_|refine Qp ?_|refine Q8 rfl ?_|refine Q7 rfl ?_|refine Qh ?_|refine Q4 zL ?_|refine Q4 zer ?_)
  refine Z0 (ι:=Nat) (fun i=>i<=parts.length/\0<=Q2f out (parts.take i)/\Q2f out (parts.take i)<=1001*i) (fun i=>parts.length - i) (fun i=>[(1,.pointer (some ⟨g,0,none⟩)),(3,.pointer (some ⟨br,0,none⟩)),(5,.int .i64 (Q2f out (parts.take i))),(6,.int .i64 (Q2p out (parts.take i))),(63,.slice Ap parts.length cp),(64,.int .i64 (parts.length:Int)),(65,.int .i64 (i:Int))]) (fun i=>[.blk br (.cells (ruC ⟨name,_,bs',size,big,mn,mx,stop,count,elem,names,parts⟩ (.slice Ab bs'.length cb) (.slice An names.length cn) (.slice Ap parts.length cp)).toArray 65 (0,0))]) 0 [0] Q1 ⟨Nat.zero_le _,Int.le_refl _,Int.le_refl _⟩ (.cons rfl rfl (.cons rfl rfl (.cons rfl rfl (.cons rfl rfl (.cons rfl rfl (.cons rfl rfl (.cons rfl rfl .nil))))))) rfl ?_;rintro i ⟨hi,hs0,hs1⟩;by_cases hlt:i<parts.length
  ·obtain⟨bp,op,hA,_,hpc⟩:=HP.out.2 (by show 0<parts.length;omega);subst hA;obtain⟨x,hx⟩:∃x,parts[i]? =some x:=⟨_,List.getElem?_eq_getElem hlt⟩;have hcp:W.cell? ⟨bp,op+i,none⟩=some (.int .i64 x):=hpc i _ (by show (iv parts)[i]? =_;unfold iv;rw[List.getElem?_map,hx];rfl);have hxn:=HIN.out x Q0G;have hcx:=HV.out.at_ x.toNat Q2;have hbx:=HB.out x.toNat
   have hsum:Q2f out (parts.take (i+1))=Q2f out (parts.take i)+out.getD x.toNat 0:=by
    rw[List.take_add_one,hx];unfold Q2f;rw[List.foldl_append];rfl
   have hmin:Q2p out (parts.take (i+1))=min (Q2p out (parts.take i)) (out.getD x.toNat 0):=by
    rw[List.take_add_one,hx];unfold Q2p;rw[List.foldl_append];rfl
   generalize out.getD x.toNat 0=ox at hcx hbx hsum hmin;generalize Q2f out (parts.take i)=sm at hs0 hs1 hsum ⊢;generalize Q2p out (parts.take i)=mi at hmin ⊢;clear hx hpc;repeat(first|refine Q4 zA ?_|refine Q4 zC ?_|refine Q4 Qtb ?_|refine Qc ?_|refine Qa ?_|refine Q6 ?_|refine Qp ?_|refine Q8 rfl ?_|refine Qh ?_|refine Q4 zlt ?_)
   repeat(first|refine Q9 zM ?_|refine Q9 zA ?_|refine Q9 zC ?_|refine Q9 (Zp rfl rfl Q1 rfl rfl rfl hxn) ?_|refine Q9 QbI ?_|refine XV ?_|refine Xh Q5 Q5 ?_|refine Q9 zP ?_)
   refine QgX ?_
   refine QT (i+1) [0] Q1 ⟨hlt,by omega,by rw[hsum];omega⟩ Q2 (.cons rfl rfl (.cons rfl rfl (.cons rfl (by rw[hsum]) (.cons rfl (by rw[hmin]) QpU)))) rfl
  ·have htk:parts.take i=parts:=QfZ;rw[htk]
   repeat(first|refine Q4 zM ?_|refine Q4 zA ?_|refine Q4 zF ?_|refine Q4 (zB 0) ?_|refine Q4 zC ?_|refine Qc ?_|refine Qa ?_|refine Q6 ?_|refine Qp ?_|refine Q8 rfl ?_|refine Q7 rfl ?_|refine Xe ?_|refine Qu ?_|refine Qo ?_|refine Qt ?_|refine Q4 zer ?_|refine Q4 zlf ?_)
   exact QkF
end
theorem QbP{F:List Rl}{A Ab An Ap:Option Addr}{n c cb cn cp g bs gf i:Nat}{out:List Int}{W:World}(hv:LeV W g bs n out gf A c)(hf:X3 W W.heap.size A n F)(hl:RuL W r Ab cb An cn Ap cp)(hu:Usd F)(hr:F[i]? =some r)(hb:∀j:Nat,0<=out.getD j 0/\out.getD j 0<=1001):
  Calls Tryz.prog 56 (Q45 r Ab An Ap cb cn cp g gf) W (JA W (Zd F out r)):=by
 have hok:=hu.ok i r hr;rw[hf.1] at hok;have hmx:(r.kind=6\/r.kind=10)->0<=JN F r.count/\JN F r.count<=4294967295:=fun hk=>by
  obtain⟨q,hq,_⟩:=hu.use i r hr hk;have hq0:=hu.ok _ _ hq;rw[Q12 hq];exact(Qfk hq0 (by have:=(List.getElem?_eq_some_iff.1 hr).1;omega)).mn
 rcases (by have:=Q5r hok;omega:(r.kind=1\/(r.kind=2\/r.kind=4)\/r.kind=3\/(r.kind=5\/r.kind=9))\/r.kind=6\/r.kind=10\/r.kind=7\/r.kind=8) with hk|h6|h10|h7|h8
 ·exact Qqg hk
 ·exact QoY hv hf h6 (hok.count (.inl h6)) (hok.elem (.inl h6)) (hmx (.inl h6)) hb
 ·exact Qo9 hv hf h10 (hok.count (.inr h10)) (hmx (.inr h10)) hb
 ·exact Qbt hv hl (.inl h7) hok.p12 (hok.parts (.inl h7)) hb
 ·exact Qbt hv hl (.inr h8) hok.p12 (hok.parts (.inr h8)) hb
end
section
variable {A:Option Addr}{F:List Rl}{W:World}{c n:Nat}{out:List Int}
theorem Qv1(n:Nat):(Go.madeCells #[.int .i64 0] (n*1)).toList=iv (List.replicate n 0):=by
 refine List.ext_getElem? fun i=>?_;unfold iv Go.madeCells;rw[List.getElem?_map];by_cases h:i<n
 ·simp [h,Nat.mod_one]
 ·simp [h]
theorem QdN{l:List Int}{j:Nat}(h:j<l.length):(iv l)[j]? =some (.int .i64 (l.getD j 0)):=by
 unfold iv;refine Qvo ?_;rfl
theorem QtK(l:List Int)(k:Nat)(v:Int):(iv l).set k (.int .i64 v)=iv (l.set k v):=by
 unfold iv;rw[List.map_set]
theorem Qtx{M:List Nat}{w:World}{O:List Qf}{g bs gf:Nat}(i1 i2 i3:Nat)(hl:out.length=n)
  (h1:O[i1]? =some (.blk g (.cells [.slice (some ⟨bs,0,none⟩) n n].toArray 48 (0,0))))
  (h2:O[i2]? =some (.row (some ⟨bs,0,none⟩) n n 3 1 (iv out)))
  (h3:O[i3]? =some (.blk gf (.cells [.slice A n c].toArray 24 (0,0)))) (hw:Wd M W O w):LeV w g bs n out gf A c:=
 ⟨hw.cell_blkL i1 h1 rfl,fun j hj=>by rw[Nat.zero_add];exact hw.cell_row i2 h2 (QdN Q2),hw.cell_blkL i3 h3 rfl⟩
def KG(F:List Rl)(k:Int):Int:=if VK F k=(0,0) then (Q09 F).getD k.toNat 0 else 0
def Qsl(W:World)(v:Int)(p:Int×Int)(e:Ending)(w':World):Prop:=e=.returned (.tuple #[.int .i64 v,.agg #[.int .i64 p.1,.int .i64 p.2]])/\Below W.heap.size W w'
abbrev leO(g bs b3 bf n c:Nat)(A:Option Addr)(out:List Int):List Qf:=[.blk g (.cells [.slice (some ⟨bs,0,none⟩) n n].toArray 48 (0,0)),.row (some ⟨bs,0,none⟩) n n 3 1 (iv out),.blk b3 (.cells [.int .i64 0,.int .i64 0].toArray 32 (0,0)),.blk bf (.cells [.slice A n c].toArray 24 (0,0))]
abbrev leE(g bf b3:Nat)(k:Int)(ch:Bool):Env:=[(1,.int .i64 k),(2,.pointer (some ⟨bf,0,none⟩)),(5,.pointer (some ⟨b3,0,none⟩)),(7,.pointer (some ⟨g,0,none⟩)),(8,.func (.func 56) #[] #[.pointer (some ⟨g,0,none⟩),.pointer (some ⟨bf,0,none⟩)]),(9,.bool ch)]
structure LeI(F:List Rl)(n:Nat)(out0:List Int)(y:Nat×List Int×Bool):Prop where
 j:y.1<=n
 l:Lst F y.2.1
 s:slk y.2.1<=slk out0
 yes:y.2.2=true->slk y.2.1<slk out0
 no:y.2.2=false->∀(i:Nat) (r:Rl),i<y.1->F[i]? =some r->min (Zd F y.2.1 r) 1001=y.2.1.getD i 0
theorem LeI.keep{out0:List Int}{i:Nat}{ch:Bool}{r:Rl}(h:LeI F n out0 (i,out,ch))(hi:i<n)(hr:F[i]? =some r)(he:min (Zd F out r) 1001=out.getD i 0):LeI F n out0 (i+1,out,ch):=
 ⟨hi,h.l,h.s,h.yes,fun hc j q hj hq=>by
  rcases Nat.lt_or_ge j i with h1|h1
  ·exact h.no hc j q h1 hq
  ·have hj':j<i+1:=hj
   obtain rfl:j=i:=by omega
   rw[hr] at hq
   cases hq
   exact he⟩
theorem LeI.put{F:List Rl}{n:Nat}{out0 out:List Int}{i:Nat}{ch:Bool}{r:Rl}(hu:Usd F)(h:LeI F n out0 (i,out,ch))(hi:i<n)(hr:F[i]? =some r)(he:min (Zd F out r) 1001≠out.getD i 0):LeI F n out0 (i+1,out.set i (min (Zd F out r) 1001),true):=by
 have hlt:slk (out.set i (min (Zd F out r) 1001))<slk out:=h.l.slk_lt hr he;have hs:slk out<=slk out0:=h.s;exact⟨hi,h.l.put hu hr,by show slk (out.set i _)<=_;omega,fun _=>by show slk (out.set i _)<_;omega,fun hc=>by cases hc⟩
theorem Q2N{k:Int}(hf:X3 W W.heap.size A n F)(hs:FSm F)(hc:n<=c)(hg:GV W):
  Calls Tryz.prog 24 #[.agg #[.slice A n c],.int .i64 k] W (Qsl W (KG F k) (VK F k)):=by
 have hlen:F.length=n:=hf.1;have HFM:=Q3 hf;have HS:=Q3 hs;have HG:=Q3 hg;have HLEN:=Q3 hlen;clear hf hs hg hlen;obtain⟨⟨a,b⟩,hab⟩:∃p,VK F k=p:=⟨_,rfl⟩;have HC:=Q3 hab;rw[hab];clear hab;go_enter Tryz.func24,Tryz.ntmps24;refine Qy (M:=[]) (W:=W) (N:=54) (E:=[V6,Q3C]) (O:=[]) ?_ mc3 Xs;by_cases hz:a=0/\b=0
 case neg=>
  have hne:(!(a==0&&b==0))=true:=by
   refine Q4r ?_;omega
  repeat(first|refine Q4 ZE ?_|refine Q4 Jk ?_|refine Q4 QsO ?_|refine Qd Yz rfl Q1 (fun bf _=>?_)|refine Qd Q0j rfl Q1 (fun b2 _=>?_)|(refine Q4 Q8n ?_)|(refine Qr Q2i rfl (fun _ _=>?_);rw[Qq (by rfl)])|refine Q4 mc6 ?_|refine Q4 Q8E ?_|refine Qc ?_|refine Qa ?_|refine Q6 ?_|refine Q8 rfl ?_)
  refine Ja [2] Q5 ?_;refine Qi 0 rfl Q5 Z4 QjM ?_;refine Qi 1 rfl Q5 Z4 Jk ?_;refine QB 2 Q5 rfl rfl Yf ZA rfl (fun _ _=>?_);rw[Qq (by rfl)];refine Xi ?_ Q5;repeat(first|refine Qu ?_|refine Qo ?_)
  have hff:KG F k=0:=by
   unfold KG;exact QdR
  rw[hff];exact Z1 mc4 rfl (.tmp rfl) YW QbQ
 case pos=>
  obtain⟨rfl,rfl⟩:=hz;have hff:KG F k=(Q09 F).getD k.toNat 0:=by
   unfold KG;rw[HC.out,if_pos rfl]
  rw[hff];clear hff;obtain⟨hfa,hk0,hkn⟩:=Qee HC.out;have hch:=Q3N hfa;have hlo:=Q6I hch;have hn0:=hlo.1;have hn40:=hlo.2;rw[HLEN.out] at hn0 hn40 hkn;have HV:=Q3 (QnO hch);clear hlo hch hfa;have hk2:0<=k/\k<(n:Int):=⟨hk0,hkn⟩;obtain⟨b,o,rfl⟩:=HFM.out.addr hn0;have hst:Lst F (List.replicate n 0):=by
   rw[<- HLEN.out];refine Lst.start F fun i r hr=>QhR HV.out.toUsd (fun j=>?_) hr;refine QgH ?_;split<;>decide
  repeat(first|refine Q4 ZE ?_|refine Q4 Jk ?_|refine Q4 JH ?_|refine Q4 (QP rfl rfl Q1 rfl rfl (by exact fun w hw=>hw.cell_blkL 2 rfl rfl)) ?_|refine Q4 QsO ?_|refine Qd Yz rfl Q1 (fun bf _=>?_)|refine Qd Q0j rfl Q1 (fun b2 _=>?_)|(refine Q4 Q8n ?_)|(refine Qr Q2i rfl (fun _ _=>?_);rw[Qq (by rfl)])|refine Q4 mc6 ?_|refine Q4 Qc0 ?_|refine Qd Qsn rfl Q1 (fun bs _=>?_)|refine Qd (Z2 (t:=48) rfl rfl) rfl Q1 (fun g _=>?_)|refine Qr Qkx rfl (fun _ _=>?_)|refine Qc ?_|refine Qa ?_|refine Q6 ?_|refine Qp ?_|refine Q7 rfl ?_|refine Qh ?_|refine Q4 Q7Z ?_|refine Q4 QgA ?_)
  rename_i b3 _ _ _ _ _ _ _ _;refine Z0 (ι:=List Int×Bool) (fun y=>Lst F y.1/\(y.2=false->∀(i:Nat) (r:Rl),F[i]? =some r->min (Zd F y.1 r) 1001=y.1.getD i 0)) (fun y=>2*slk y.1+(if y.2 then 1 else 0)) (fun y=>leE g bf b3 k y.2) (fun y=>leO g bs b3 bf n c Q0H y.1) (List.replicate n 0,true) [0,1,3,4] Q1 ⟨hst,fun h=>by cases h⟩ Qem (by show [_,Qf.row _ _ _ _ _ _,_,_]=_;rw[Qv1];rfl) ?_;clear hst;rintro⟨out,ch⟩ ⟨hl,hfix⟩;have HLS:=Q3 hl;have HFX:=Q3 hfix;clear hl hfix;show sE _ _ _ _ _ (leE g bf b3 k ch) (leO g bs b3 bf n c Q0H out) _;cases ch with
  |true=>
   repeat(first|refine Q4 ZE ?_|refine Q4 Jk ?_|refine Q4 JH ?_|refine Q4 Qtv ?_|refine Qc ?_|refine Qa ?_|refine Q6 ?_|refine Qp ?_|refine Q8 rfl ?_|refine Qh ?_|refine Q4 Q7Z ?_)
   refine Z0 (ι:=Nat×List Int×Bool) (LeI F n out) (fun y=>n - y.1) (fun y=>(27,.slice Q0H n c)::(28,.int .i64 (n:Int))::(29,.int .i64 (y.1:Int))::leE g bf b3 k y.2.2) (fun y=>leO g bs b3 bf n c Q0H y.2.1) (0,out,false) [0,1,2,3] Q1 ⟨Nat.zero_le _,HLS.out,Nat.le_refl _,(fun h=>by cases h),(fun _ i r hi=>absurd hi (Nat.not_lt_zero _))⟩ QqW rfl ?_;rintro⟨i,out',ch'⟩ hinv;have hi':i<=n:=hinv.j;have HINV:=Q3 hinv;clear hinv;show sE _ _ _ _ _ ((27,.slice Q0H n c)::(28,.int .i64 (n:Int))::(29,.int .i64 (i:Int))::leE g bf b3 k ch') (leO g bs b3 bf n c Q0H out') _;by_cases hin:i<n
   ·obtain⟨rk,Ab,cb,An,cn,Ap,cp,hrk,hrg,hlk⟩:=HFM.out.rl hin
    have HRK:=Q3 hrk;have HLK:=Q3 hlk;clear hrk hlk;have hol:out'.length=n:=by rw[HINV.out.l.len];exact HLEN.out
    have hcell:(iv out')[0+i]? =some (.int .i64 (out'.getD i 0)):=by rw[Nat.zero_add];exact QdN Q2
    by_cases he:min (Zd F out' rk) 1001=out'.getD i 0
    ·have heb:(min (Zd F out' rk) 1001 != out'.getD i 0)=false:=bne_eq_false_iff_eq.2 he
     have HE:=Q3 he;clear he;repeat(first|refine Q4 ZE ?_|refine Q4 Jk ?_|refine Q4 QrA ?_|refine Q4 Qnd ?_|refine Q4 QjB ?_|refine Q4 (QM rfl rfl Q1 rfl rfl rfl hin) ?_|refine Qd QqU rfl Q1 (fun b7 _=>?_)|(refine Qr Q2i rfl (fun _ _=>?_);rw[Qq (by rfl)])|refine Q4 Qro ?_|refine Q4 QbI ?_|refine Q4 QmE ?_|refine Qc ?_|refine Qa ?_|refine Q6 ?_|refine Qp ?_|refine Q8 rfl ?_|refine Q7 rfl ?_|refine Qh ?_|refine Q4 Qhq ?_|refine Q4 QmL ?_|refine Q4 Q6o ?_)
     exact QT (i+1,out',ch') [1,2,3,4] Q1 (HINV.out.keep hin HRK.out HE.out) Qgp (.cons rfl rfl (.cons rfl rfl Qs5)) rfl
    ·have heb:(min (Zd F out' rk) 1001 != out'.getD i 0)=true:=bne_iff_ne.2 he
     have HE:=Q3 he;clear he;repeat(first|refine Q4 ZE ?_|refine Q4 Jk ?_|refine Q4 QrA ?_|refine Q4 Qnd ?_|refine Q4 QjB ?_|refine Q4 (QM rfl rfl Q1 rfl rfl rfl hin) ?_|refine Qd QqU rfl Q1 (fun b7 _=>?_)|(refine Qr Q2i rfl (fun _ _=>?_);rw[Qq (by rfl)])|refine Q4 Qro ?_|refine Q4 QbI ?_|refine Q4 QmE ?_|refine Qr Q3p rfl (fun _ _=>?_)|refine Qc ?_|refine Qa ?_|refine Q6 ?_|refine Qp ?_|refine Q8 rfl ?_|refine Qh ?_|refine Q4 Qhq ?_|refine Q4 QmL ?_|refine Q4 Q6o ?_)
     refine QT (i+1,out'.set i (min (Zd F out' rk) 1001),true) [1,2,3,4] Q1 (HINV.out.put HV.out.toUsd hin HRK.out HE.out) Qgp (.cons rfl rfl (.cons rfl rfl Qs5)) ?_;show [_,Qf.row _ _ _ _ _ ((iv out').set (0+i) (.int .i64 (min (Zd F out' rk) 1001))),_,_]=_;rw[Nat.zero_add,QtK];rfl
   ·skip
    repeat(first|refine Qc ?_|refine Qa ?_|refine Q6 ?_|refine Q7 rfl ?_|refine Xe ?_|refine VD ?_|refine Vv ?_|refine QZ ?_|refine Q4 Qrv ?_)
    refine QT (out',ch') [0,1,2,3] Q1 ⟨HINV.out.l,fun h i r hr=>HINV.out.no h i r (by have:=(List.getElem?_eq_some_iff.1 hr).1;have:=HLEN.out;show i<_;omega) hr⟩ ?_ Qem rfl;have h1:slk out'<=slk out:=HINV.out.s;have h2:ch'=true->slk out'<slk out:=HINV.out.yes;show 2*slk out'+(if ch' then 1 else 0)<2*slk out+1;cases ch' with
    |true=>have:=h2 rfl;simp only[if_true];omega
    |false=>simp;omega
  |false=>
   have hfx:=HLS.out.fix (HFX.out rfl);have hlv:(Q09 F).getD k.toNat 0=out.getD k.toNat 0:=Q60 HV.out hfx (by rw[HLEN.out];omega);rw[hlv];have hol:out.length=n:=by rw[HLS.out.len];exact HLEN.out
   have hcell:(iv out)[0+k.toNat]? =some (.int .i64 (out.getD k.toNat 0)):=by rw[Nat.zero_add];exact QdN Q2
   clear hfx hlv;repeat(first|refine Q4 ZE ?_|refine Q4 Jk ?_|refine Q4 Qhg ?_|refine Q4 (Zp rfl rfl Q1 rfl rfl rfl hk2) ?_|refine Q4 (QP rfl rfl Q1 rfl rfl (fun w hw=>hw.cell_row 1 rfl hcell)) ?_|refine Q4 mc6 ?_|(refine Qr QdB rfl (fun _ _=>?_);rw[Qq (by rfl)])|refine Qc ?_|refine Qa ?_|refine Q6 ?_|refine Q7 rfl ?_|refine Xe ?_|refine Qu ?_)
   exact Z1 mc4 rfl (.tmp rfl) Q4t QbQ
end
def pr0:Rl:={ Xo [108,105,115,116] 6 with count:=1,elem:=2 }
def pr1:Rl:={ Xo [110] 2 with size:=1,big:=true,mx:=255 }
def pr2:Rl:={ Xo [120] 2 with size:=2,mx:=65535 }
def YZ:List Rl:=[pr0,pr1,pr2]
def QmV:List UInt8:=[108,105,115,116,32,99,111,117,110,116,101,100,32,110,32,120,10,110,32,110,117,109,98,101,114,32,49,32,98,105,103,32,48,32,50,53,53,10,120,32,110,117,109,98,101,114,32,50,32,108,105,116,116,108,101,32,48,32,54,53,53,51,53,10]
def Q5j:List Rl:=[{ Xo [97] 1 with bs:=[65,66] }]
def Qt7:List UInt8:=[97,32,108,105,116,101,114,97,108,32,52,49,52,50,10]
def QlN:List UInt8:=[97,32,98,108,111,98,32,98,10]
theorem QdG:Xr YZ=(0,0):=by kernel_rfl
theorem Q6h:YP YZ=QmV:=by kernel_rfl
theorem Qig:Xr Q5j=(0,0):=by kernel_rfl
theorem QcY:YP Q5j=Qt7:=by kernel_rfl
theorem Qj5:Jt Q5j 0=[65]:=by kernel_rfl
theorem Qbp:(Q09 YZ).getD 0 0=1:=by kernel_rfl
theorem Qeu:XC 0 (spl 10 QlN)=.ok [(Xo [97] 10,[[98]])]:=by kernel_rfl
theorem QkR:QO [Xo [97] 10] 0 [(Xo [97] 10,[[98]])]=.error 0:=by kernel_rfl
section
variable {i:Nat}{α:Type}
def QsY(w:World)(xs ys:List Int)(k:Value)(wr:World):Prop:=∃i nq:Nat,k=.int .i64 (i:Int)/\i<=xs.length/\xs.take i=ys.take i/\wr=w.drewN nq
theorem Qa5{xs ys:List α}{x y:α}(h:xs.take i=ys.take i)(hx:xs[i]? =some x)(hy:ys[i]? =some y)(e:x=y):xs.take (i+1)=ys.take (i+1):=by
 obtain⟨h1,rfl⟩:=List.getElem?_eq_some_iff.1 hx;obtain⟨h2,rfl⟩:=List.getElem?_eq_some_iff.1 hy;rw[List.take_succ_eq_append_getElem h1,List.take_succ_eq_append_getElem h2,h,e]
theorem Qn1{xs ys:List α}{x y:α}(hx:xs[i]? =some x)(hy:ys[i]? =some y)(e:x≠y):xs≠ys:=by
 rintro rfl;rw[hx] at hy;injection hy with hy;exact e hy
def Qhu(w:World)(v:Value)(e:Ending)(w':World):Prop:=e=.returned v/\∃n,w'=w.drewN n
theorem Qey{w:World}{B B':Nat}{A A':Option Addr}{n n' c c':Nat}{xs ys:List Int}(ha:Rd w B 1 A n (iv xs))(hb:Rd w B' 1 A' n' (iv ys))(hm:n<=140737488355328):
  Calls Tryz.prog 53 #[.slice A n c,.slice A' n' c'] w (Qhu w (.bool (xs==ys))):=by
 have hl:xs.length=n:=by have:=ha.len;rw[K2] at this;exact this
 have hl':ys.length=n':=by have:=hb.len;rw[K2] at this;exact this
 have HA:=Q3 ha;have HB:=Q3 hb;have HL:=Q3 hl;have HL':=Q3 hl';clear ha hb hl hl';by_cases hnn:n=n'
 ·have hd:((n:Int) != (n':Int))=false:=by simp [hnn]
  have HNN:=Q3 hnn;clear hnn;go_enter Tryz.func53,Tryz.ntmps53;go_wp2_with fail
  go_loopw [5] (fun k wr=>QsY w xs ys k wr) (fun k _=>n - (intOf k).toNat)
  case atStart=>exact⟨0,0,rfl,Nat.zero_le _,rfl,rfl⟩
  case round=>
   obtain⟨i,nq,rfl,hi,ht,rfl⟩:=hrel;rw[HL.out] at hi;have HT:=Q3 ht;clear ht;by_cases hlt:i<n
   ·obtain⟨b,o,x,rfl,hbB,hxi,hcell⟩:=Q1P HA.out hlt;obtain⟨b',o',y,rfl,hbB',hyi,hcell'⟩:=Q1P HB.out (k:=i) (by have:=HNN.out;omega);have HX:=Q3 hxi;have HY:=Q3 hyi
    have hli:(i:Int)<(n:Int):=by omega
    have hli':(i:Int)<(n':Int):=by have:=HNN.out;omega
    have h0:(0:Int)<=(i:Int):=by omega
    have hlt':i<n':=by omega
    clear hxi hyi;go_upto_region 6 with (fail)
    go_quiet (fail)
    by_cases hxy:x=y
    ·have hd2:(x != y)=false:=by simp [hxy]
     have HXY:=Q3 hxy;clear hxy;go_wp2_with fail
     go_roundw
     case rel=>exact⟨i+1,_,by go_num,by rw[HL.out];omega,Qa5 HT.out HX.out HY.out HXY.out,rfl⟩
     case measure=>simp [intOf];omega
    ·have hd2:(x != y)=true:=by simp [hxy]
     have HXY:=Q3 hxy;clear hxy;go_wp2_with fail
     go_ret;rw[show (xs==ys)=false by simp;exact Qn1 HX.out HY.out HXY.out];exact⟨rfl,_,World.drewN_drewN _ _ _⟩
   ·go_wp2_with fail
    go_ret
    rw[show (xs==ys)=true by
     simp
     have:=HT.out;rw[List.take_of_length_le (by rw[HL.out];omega),List.take_of_length_le (by rw[HL'.out];have:=HNN.out;omega)] at this
     exact this]
    exact⟨rfl,_,rfl⟩
 ·have hd:((n:Int) != (n':Int))=true:=by simp;omega
  have HNN:=Q3 (show (xs==ys)=false by simp;rintro rfl;exact hnn (by rw[<- HL.out,HL'.out]));clear hnn;go_enter Tryz.func53,Tryz.ntmps53;go_wp2_with fail
  go_ret;rw[HNN.out];exact⟨rfl,0,rfl⟩
end
section
variable {F:List Rl}{W w:World}
theorem Qhu.below{w':World}{v:Value}{e:Ending}(h:Qhu w v e w'):e=.returned v/\Below w.heap.size w w':=by
 obtain⟨h1,n,rfl⟩:=h;exact⟨h1,VG w n⟩
instance iXFzT_1:En Tryz.prog 25:=⟨fun _ _=>by kernel_rfl⟩
instance iXFzT_2:En Tryz.prog 22:=⟨fun _ _=>by kernel_rfl⟩
theorem Qgn{s:List UInt8}{e:Int×Int}{y:PrY}(hy:PrI s y)(h:ZY s=(F,e)):y.F=F/\y.e=e:=by
 have h1:=hy.e;rw[h] at h1;exact⟨(congrArg (·.1) h1).symm,(congrArg (·.2) h1).symm⟩
theorem Qv3{f:FuncId}{args:Array Value}{l:List Int}{p:Int×Int}(hw:Wd [] W [] w)(h:Calls Tryz.prog f args w (QsB w l p)):Calls Tryz.prog f args w (QN (fun y:Option Addr×Nat=>.tuple #[.slice y.1 l.length y.2,.agg #[.int .i64 p.1,.int .i64 p.2]]) (fun y=>l.length<=y.2) [] W (fun y=>[.rd y.1 l.length 1 (iv l)])):=
 h.mono fun e w' ⟨A,c,he,hr,hc,hb⟩=>⟨(A,c),he,hc,(hw.on hb).add hr (fun b hb hl=>by simp [Qf.w]) (fun i x b hx=>by simp at hx)⟩
def prY(r:Rl):RlY:=⟨r,none,0,none,0,none,0,[],none,0,true,[]⟩
def Vh:List RlY:=[prY pr0,prY pr1,prY pr2]
theorem Qcg{A:Option Addr}(h:Rd w w.heap.size 12 A 3 (Xq Vh)):X3 w w.heap.size A 3 YZ:=by
 refine Qku (cur:=Vh) h rfl fun y hy=>?_;have:y=prY pr0\/y=prY pr1\/y=prY pr2:=by simpa [Vh] using hy
 rcases this with rfl|rfl|rfl<;>exact⟨⟨Nat.le_refl _,Nat.le_refl _,Nat.le_refl _,QJ _ _,QJ _ _,QJ _ _⟩,QJ _ _,Nat.le_refl _⟩
theorem QcG:FSm YZ:=by
 refine⟨by decide,fun r hr=>?_⟩;have:r=pr0\/r=pr1\/r=pr2:=by simpa [YZ] using hr
 rcases this with rfl|rfl|rfl<;>exact⟨by decide,by decide,by decide,by decide,fun s hs=>by cases hs⟩
theorem Qir{Z:List Value}(hZl:Z.length=36):Zk (Zk (Zk Z 0 (prY pr0).cells) 12 (prY pr1).cells) 24 (prY pr2).cells=Xq Vh:=by
 apply List.ext_getElem?;intro j;have hl:∀y∈Vh,y.cells.length=12:=fun y _=>rfl;rw[Jr,Z5,Z5,hZl,show (prY pr2).cells.length=12 from rfl];by_cases h2:24<=j/\j<36
 ·rw[if_pos ⟨h2.1,by omega,by omega⟩]
  have h:=Jf Vh 2 (prY pr2) (j - 24) rfl Q2;rw[show 2*12+(j - 24)=j by omega] at h;exact h.symm
 ·rw[if_neg (fun h=>h2 ⟨h.1,by omega⟩),Jr,Z5,hZl,show (prY pr1).cells.length=12 from rfl]
  by_cases h1:12<=j/\j<24
  ·rw[if_pos ⟨h1.1,by omega,by omega⟩]
   have h:=Jf Vh 1 (prY pr1) (j - 12) rfl Q2;rw[show 1*12+(j - 12)=j by omega] at h;exact h.symm
  ·rw[if_neg (fun h=>h1 ⟨h.1,by omega⟩),Jr,hZl,show (prY pr0).cells.length=12 from rfl]
   by_cases h0:j<12
   ·rw[if_pos ⟨by omega,by omega,by omega⟩]
    have h:=Jf Vh 0 (prY pr0) j rfl h0;rw[show 0*12+j=j by omega] at h;exact h.symm
   ·rw[if_neg (fun h=>h0 Q2),List.getElem?_eq_none Q2,List.getElem?_eq_none (by rw[Q0Y];show 3*12<=j;omega)]
theorem Qib(w:World):(Instr.buildSlice 22 3 #[(0,.agg (prY pr0).cells.toArray),(1,.agg (prY pr1).cells.toArray),(2,.agg (prY pr2).cells.toArray)]).run Tryz.prog w=.ok (.slice (some ⟨w.heap.size,0,none⟩) 3 3) (w.alloc (.cells (Xq Vh).toArray 65)):=by
 have hT:SlT Tryz.prog 22 65 12 152:=(inferInstance:Sl Tryz.prog 22 65 12 152).h;obtain⟨i,z,hi,hz,hsz,hby,hzs⟩:=hT.info;refine run_buildSlice w _ _ 3 _ (Xq Vh).toArray i z hT.und hi hz VX VX ?_;rw[hsz];obtain⟨Z,hZ,hZl⟩:∃Z:List Value,(Array.range (3*12)).map (z.cells[·% z.cells.size]!)=Z.toArray/\Z.length=36:=Qgi;rw[hZ];show Instr.fill (fun i=>some (i*12,12)) Z.toArray [(0,.agg (prY pr0).cells.toArray),(1,.agg (prY pr1).cells.toArray),(2,.agg (prY pr2).cells.toArray)]=_;have hfin:Zk (Zk (Zk Z 0 (prY pr0).cells) 12 (prY pr1).cells) 24 (prY pr2).cells=Xq Vh:=Qir hZl;rw[Js (o:=0) (n:=12) (cs:=(prY pr0).cells) rfl rfl rfl Q2,Js (o:=12) (n:=12) (cs:=(prY pr1).cells) rfl rfl rfl (by rw[Z5];omega),Js (o:=24) (n:=12) (cs:=(prY pr2).cells) rfl rfl rfl (by rw[Z5,Z5];omega),hfin,Q3a]
theorem QbO{O:List Qf}(hw:Wd [] W O w):
  Calls Tryz.prog 25 #[] w (QN (fun b:Nat=>.agg #[.slice (some ⟨b,0,none⟩) 3 3]) (fun _=>True) [] W (fun b=>.rd (some ⟨b,0,none⟩) 3 12 (Xq Vh)::O)):=by
 go_enter Tryz.func25,Tryz.ntmps25;refine Qy (M:=[]) (W:=W) (N:=6) (E:=[]) (O:=O) ?_ (Ag.nil rfl rfl) hw;repeat(first|refine Q4 ZE ?_|refine Q4 Jk ?_|refine Q4 JH ?_|refine Q4 Q8e ?_|refine Q4 Qqc ?_|refine Q4 QvA ?_|refine Qd QuO rfl Q1 (fun g _=>?_)|refine Qc ?_|refine QkT ?_|refine Qa ?_|refine Q6 ?_|refine Qp ?_|refine Q8 rfl ?_|refine Q7 rfl ?_|refine Xe ?_|refine Qu ?_|refine Qh ?_|refine QgP ?_|refine VD ?_|refine Q38 Q1 ?_|refine Vv ?_|refine Qo ?_|refine Qt ?_|refine QZ ?_|refine Q4 Q7Z ?_|refine Q4 Qgb ?_|refine Q4 Qqm ?_|refine Q4 Qr9 ?_|refine Q4 (XZ rfl rfl Q1 rfl rfl rfl Q4Z) ?_|refine Q4 (Q5D rfl rfl Q1 rfl rfl rfl Q4Z) ?_|refine Q4 (Q0L rfl rfl Q1 rfl rfl rfl Q4Z) ?_|refine Q4 (Q91 rfl rfl Q1 rfl rfl rfl Q4Z) ?_|refine Q4 Q8W ?_|refine Q4 Q8t ?_|refine Q4 QhQ ?_|refine Q4 Q6o ?_|refine Q4 Qlv ?_|refine Q4 QnN ?_|refine Q4 Qnn ?_|refine Q4 (Q3U rfl rfl Q1 rfl rfl rfl) ?_|refine Q4 QgA ?_|refine Q4 (QhG rfl rfl) ?_)
 refine Q4 (X9 (xs:=Qsc) (vs:=Qrf) (v:=.agg (prY pr0).cells.toArray) rfl rfl Q1 rfl rfl Q4a) ?_;refine Q4 (X9 (xs:=Qre) (vs:=Qsr) (v:=.agg (prY pr1).cells.toArray) rfl rfl Q1 rfl rfl Q4a) ?_;refine Q4 (X9 (xs:=Qrt) (vs:=Qmr) (v:=.agg (prY pr2).cells.toArray) rfl rfl Q1 rfl rfl Q4a) ?_;refine Qd (Jv (xs:=[(0,.tmp 1),(1,.tmp 2),(2,.tmp 3)]) (vs:=[(0,.agg (prY pr0).cells.toArray),(1,.agg (prY pr1).cells.toArray),(2,.agg (prY pr2).cells.toArray)]) (cells:=Xq Vh) rfl rfl rfl Qib) rfl Q1 (fun b _=>?_);refine Q4 Qrg ?_;refine Qr Yf rfl (fun _ _=>?_);rw[Qq (by rfl)];repeat(first|refine Q4 ZE ?_|refine Q4 Jk ?_|refine Q4 JH ?_|refine Q4 Q8e ?_|refine Q4 Qqc ?_|refine Q4 QvA ?_|refine Qc ?_|refine QkT ?_|refine Qa ?_|refine Q6 ?_|refine Qp ?_|refine Q8 rfl ?_|refine Q7 rfl ?_|refine Xe ?_|refine Qu ?_|refine Qh ?_|refine QgP ?_|refine VD ?_|refine Q38 Q1 ?_|refine Vv ?_|refine Qo ?_|refine Qt ?_|refine QZ ?_|refine Q4 Q7Z ?_|refine Q4 Qgb ?_|refine Q4 Qqm ?_|refine Q4 Qr9 ?_|refine Q4 (XZ rfl rfl Q1 rfl rfl rfl Q4Z) ?_|refine Q4 (Q5D rfl rfl Q1 rfl rfl rfl Q4Z) ?_|refine Q4 (Q0L rfl rfl Q1 rfl rfl rfl Q4Z) ?_|refine Q4 (Q91 rfl rfl Q1 rfl rfl rfl Q4Z) ?_|refine Q4 Q8W ?_|refine Q4 Q8t ?_|refine Q4 QhQ ?_|refine Q4 Q6o ?_|refine Q4 Qlv ?_|refine Q4 QnN ?_|refine Q4 Qnn ?_|refine Q4 (Q3U rfl rfl Q1 rfl rfl rfl) ?_|refine Q4 QgA ?_|refine Q4 (QhG rfl rfl) ?_)
 refine Qb Q8T rfl YW (fun w hw=>⟨b,rfl,trivial,?_⟩);have h1:=hw.blk_row (i:=0) (n:=3) (s:=12) rfl rfl Q1;have h2:=h1.toRd (i:=0) rfl Q1
 exact h2.ofMap (fun i=>if i=0 then 0 else i+1) Q5F (fun i x hx=>by
  match i,hx with
  |0,hx=>exact hx
  |n+1,hx=>exact hx)
theorem QnR{t:List UInt8}(h:Xr F=(0,0))(ht:YP F=t)(hl:t.length<=2000):Qz F=(0,0):=by
 unfold Qz;rw[h,if_neg (fun hh=>hh rfl),ht,if_neg Q2]
theorem Q3G:Qz YZ=(0,0):=QnR QdG Q6h Q1
theorem Qh8:Qz Q5j=(0,0):=QnR Qig QcY Q1
theorem Qj6:Q4g YZ=QmV:=by
 unfold Q4g;rw[Q3G,if_pos rfl,Q6h]
theorem Q8j:ZY Qt7=(Q5j,0,0):=by
 rw[<- QcY];exact QeK Qh8
theorem Q75:ZY QlN=([],12,0):=Q8d Q1 Qeu QkR
theorem Qhp(h:Qz F=(0,0))(hl:0<F.length):VK F 0=(0,0):=by
 unfold VK;rw[h,if_neg (fun hh=>hh rfl),if_pos (Qg7 ⟨Int.le_refl 0,by omega⟩)]
theorem Q7Y:VK YZ 0=(0,0):=Qhp Q3G Q1
theorem QhY:VK Q5j 0=(0,0):=Qhp Qh8 Q1
theorem Qih:KG YZ 0=1:=by
 unfold KG;rw[Q7Y,if_pos rfl];exact Qbp
theorem QpL:ZG Q5j 0=[65]:=by
 unfold ZG;rw[QhY,if_pos rfl];exact Qj5
end
end Go.Proofs.YtphkhfdmlcnoeaaGreatDoor
