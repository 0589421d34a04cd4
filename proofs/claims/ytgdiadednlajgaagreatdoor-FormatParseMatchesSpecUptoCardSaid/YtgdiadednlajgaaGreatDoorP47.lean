import Derived.Test.YtgdiadednlajgaaGreatDoorP22
import Derived.Test.YtgdiadednlajgaaGreatDoorP46
namespace Go.Proofs.YtgdiadednlajgaaGreatDoor
set_option linter.unusedVariables false
set_option linter.unusedSimpArgs false
open Go.RowKit
section
variable {name:List UInt8}
theorem Qfz{x:List UInt8}{y:HqY}(h:HqI x y):if y.ok then QD name 1 [x]=some ({ QN name 1 with bs:=y.l },[]) else QD name 1 [x]=none:=by
 have e:QD name 1 [x]=(Q7Y x).map fun b=>({ QN name 1 with bs:=b },[]):=by
  rw[Q2I]
  unfold Q7Y
  show (if x=[] then none else (X3 x).map _)=_
  by_cases hx:x=[]
  ·rw[if_pos hx,if_pos hx];rfl
  ·rw[if_neg hx,if_neg hx]
 rw[e]
 unfold HqI at h
 rw[h]
 cases y.ok<;>rfl
theorem QfJ(a q m x:List UInt8):if ((V4 a&&(q==V3||q==Ze))&&V4 m)&&V4 x then QD name 2 [a,q,m,x]=some ({ QN name 2 with size:=Z3 a,big:=q==V3,mn:=Z3 m,mx:=Z3 x },[]) else QD name 2 [a,q,m,x]=none:=by
 rw[Q2K]
 dsimp only
 unfold V4 Z3
 by_cases h1:q=V3<;>by_cases h2:q=Ze<;>cases Z9 a<;>cases Z9 m<;>cases Z9 x<;>simp [h1,h2]
theorem QfQ(a b:List UInt8):if V4 b&&V4 a then QD name 3 [a,b]=some ({ QN name 3 with stop:=Z3 a,mx:=Z3 b },[]) else QD name 3 [a,b]=none:=by
 rw[Q1B]
 dsimp only
 unfold V4 Z3
 cases Z9 a<;>cases Z9 b<;>simp
theorem QfD(a:List UInt8):if V4 a then QD name 4 [a]=some ({ QN name 4 with size:=Z3 a },[]) else QD name 4 [a]=none:=by
 rw[Q2R]
 dsimp only
 unfold V4 Z3
 cases Z9 a<;>simp
theorem QfM(a b:List UInt8):if V4 b&&V4 a then QD name 5 [a,b]=some ({ QN name 5 with stop:=Z3 a,size:=Z3 b },[]) else QD name 5 [a,b]=none:=by
 rw[Q0R]
 dsimp only
 unfold V4 Z3
 cases Z9 a<;>cases Z9 b<;>simp
theorem QfF(a b:List UInt8):if true&&[a,b].all Qi then QD name 6 [a,b]=some (QN name 6,[a,b]) else QD name 6 [a,b]=none:=by
 rw[Q1u]
 simp only[List.all_cons,List.all_nil,Bool.true_and,Bool.and_true]
 cases Qi a&&Qi b<;>rfl
theorem QfC(a b:List UInt8):if V4 a&&[b].all Qi then QD name 9 [a,b]=some ({ QN name 9 with stop:=Z3 a },[b]) else QD name 9 [a,b]=none:=by
 rw[Q0X]
 dsimp only
 unfold V4 Z3
 simp only[List.all_cons,List.all_nil,Bool.and_true]
 cases Z9 a<;>cases Qi b<;>simp
theorem Qfc(a:List UInt8):if true&&[a].all Qi then QD name 10 [a]=some (QN name 10,[a]) else QD name 10 [a]=none:=by
 rw[Q1s]
 simp only[List.all_cons,List.all_nil,Bool.true_and,Bool.and_true]
 cases Qi a<;>rfl
theorem Qfu(U:List (List UInt8)):if true&&U.all Qi then QD name 8 U=some (QN name 8,U) else QD name 8 U=none:=by
 rw[Q5m,Bool.true_and]
 cases U.all Qi<;>rfl
def Q0j(u:List UInt8):Bool:=match spl 58 u with|[p,_]=>p==[45]||Qi p|_=>false
def Vx(u:List UInt8):List UInt8:=match spl 58 u with|p::_=>if p==[45] then [] else p|[]=>[]
def Vd(u:List UInt8):List UInt8:=match spl 58 u with|[_,q]=>q|_=>[]
theorem QcX{u p q:List UInt8}(h:spl 58 u=[p,q]):Q0j u=(p==[45]||Qi p)∧Vx u=(if p==[45] then [] else p)∧Vd u=q:=by
 unfold Q0j Vx Vd
 rw[h];exact⟨rfl,rfl,rfl⟩
theorem Qd3{u:List UInt8}(h:(spl 58 u).length≠2):Q0j u=false:=by
 unfold Q0j
 split
 ·next h2=>rw[h2] at h;exact absurd rfl h
 ·rfl
theorem Q7Q(u:List UInt8):Yb u=if Q0j u&&Qi (Vd u) then some (Vx u,Vd u) else none:=by
 rw[Q8U]
 unfold Q0j Vx Vd
 split
 ·next p q h=>rw[h]
 ·next h=>
  split
  ·next h2=>exact absurd h2 (h _ _)
  ·rfl
theorem KG:∀U:List (List UInt8),Jl U=if U.all Q0j&&(U.map Vd).all Qi then some (U.map Vx,U.map Vd) else none
 |[]=>rfl
 |u::U=>by
  rw[Jl,Q7Q u,KG U]
  simp only[List.all_cons,List.map_cons]
  cases Q0j u<;>cases Qi (Vd u)<;>cases U.all Q0j<;>cases (U.map Vd).all Qi<;>simp
theorem QfP{U:List (List UInt8)}(h:∀(j:Nat) (u:List UInt8),U[j]? =some u→Q0j u=true):if true&&(U.map Vd).all Qi then QD name 7 U=some ({ QN name 7 with names:=U.map Vx },U.map Vd) else QD name 7 U=none:=by
 rw[Q2T,KG,Bool.true_and]
 have e:U.all Q0j=true:=List.all_eq_true.2 fun u hu=>by
  obtain⟨j,hj⟩:=List.getElem?_of_mem hu;exact h j u hj
 rw[e,Bool.true_and]
 cases (U.map Vd).all Qi<;>simp
theorem Qc6{U:List (List UInt8)}{j:Nat}{u:List UInt8}(hj:U[j]? =some u)(h:Q0j u=false):QD name 7 U=none:=by
 rw[Q2T,KG];have e:U.all Q0j=false:=List.all_eq_false.2 ⟨u,List.mem_of_getElem? hj,by rw[h];decide⟩;rw[e]
 rfl
theorem Q5r{k:Int}(hk:k=1∨k=4∨k=10){U:List (List UInt8)}(h:U.length≠1):QD name k U=none:=by
 rcases hk with rfl|rfl|rfl
 ·rw[Q2I];split
  ·exact absurd rfl h
  ·rfl
 ·rw[Q2R];split
  ·exact absurd rfl h
  ·rfl
 ·rw[Q1s];split
  ·exact absurd rfl h
  ·rfl
theorem Q2N{k:Int}(hk:k=3∨k=5∨k=6∨k=9){U:List (List UInt8)}(h:U.length≠2):QD name k U=none:=by
 rcases hk with rfl|rfl|rfl|rfl
 ·rw[Q1B];split
  ·exact absurd rfl h
  ·rfl
 ·rw[Q0R];split
  ·exact absurd rfl h
  ·rfl
 ·rw[Q1u];split
  ·exact absurd rfl h
  ·rfl
 ·rw[Q0X];split
  ·exact absurd rfl h
  ·rfl
theorem Qd6{U:List (List UInt8)}(h:U.length≠4):QD name 2 U=none:=by
 rw[Q2K]
 split
 ·exact absurd rfl h
 ·rfl
theorem Qfw(U:List (List UInt8)):QD name 0 U=none:=rfl
end
def kdT(K k:Int):Int:=if K<k then K else 0
theorem Qdx(K:Int):kdT K (K+1)=K:=by unfold kdT;rw[if_pos (by omega)]
theorem Qe9{K k:Int}(h:K≠k):kdT K (k+1)=kdT K k:=by
 unfold kdT
 by_cases h1:K<k
 ·rw[if_pos h1,if_pos (by omega)]
 ·rw[if_neg h1,if_neg (by omega)]
theorem QcS{K:Int}(h:0≤K):kdT K 1=0:=by
 unfold kdT
 split
 ·omega
 ·rfl
theorem QcZ{K:Int}(h:K≤10):kdT K 11=K:=by unfold kdT;rw[if_pos (by omega)]
theorem QdZ{kw:List UInt8}{k:Int}(hk:1≤k∧k≤10):Xz k=kw↔kwK kw=k:=by
 constructor
 ·rintro rfl
  exact Q4B hk
 ·intro h;have:=Q6B (w:=kw) (by omega);rw[← h];exact this.2.symm
theorem YI{W w:World}{O:List Qg}{l:List UInt8}(y:RlY)(h0:y.ok=false)(ha:y.ats=[])(h:Zo l=none)(hw:Wd [] W O w):QW RlY.v (RlI l) [] W (fun y=>y.ats++O) (.returned y.v) w:=
 ⟨y,rfl,⟨by rw[h0];exact h,by rw[ha];simp,fun hy=>by rw[h0] at hy;cases hy⟩,by show Wd [] W (y.ats++O) w;rw[ha];exact hw⟩
theorem Rd.cellO{w:World}{B n b q:Nat}{xs:List Value}(h:Rd w B 1 (some ⟨b,q,none⟩) n xs)(hn:0<n){j:Nat}{u:Value}(hu:xs[j]? =some u):w.cell? ⟨b,q+j,none⟩=some u:=by
 obtain⟨b',o',e,_,hc⟩:=h.2 hn
 cases e
 exact hc j u hu
theorem J5{l:List (List UInt8)}{j:Nat}{u:List UInt8}(h:l[j]? =some u):(sv l)[j]? =some (.string ⟨u.toArray⟩):=by
 unfold sv
 rw[List.getElem?_map,h]
 rfl
theorem Q2L{w:World}{B n c:Nat}{A:Option Addr}{ws:List (List UInt8)}(h:Rd w B 1 A n (sv ws))(h2:2≤n)(hc:n≤c):Rd w B 1 (Zj A c 2 1) (ws.drop 2).length (sv (ws.drop 2)):=by
 have hl:ws.length=n:=by have:=h.len;unfold sv at this;rw[List.length_map] at this;omega
 have h3:=h.cut (k:=2) (m:=n - 2) (c:=c) (by omega) hc
 have e:((sv ws).drop (2*1)).take ((n - 2)*1)=sv (ws.drop 2):=by
  unfold sv
  rw[List.take_of_length_le (by rw[List.length_drop,List.length_map];omega),List.map_drop]
 rw[e] at h3;rw[List.length_drop,hl];exact h3
theorem Qcb{w:World}{B c:Nat}{A:Option Addr}{a b:List UInt8}(h:Rd w B 1 A 2 (sv [a,b]))(hc:2≤c):Rd w B 1 (Zj A c 1 1) 1 (sv [b]):=
 h.cut (k:=1) (m:=1) (c:=c) (by decide) hc
theorem QbN{α β γ:Type}{T:α→β→γ→Prop}{G:Prop}(a:α)(b:β)(c:γ)(main:T a b c→G)(tail:T a b c):G:=main tail
section
variable {P:Program}{Q:Exit→Act→World→Prop}{ops:Array Oper}{N:Nat}{M:List Nat}{W:World}{E:Env}{O:List Qg}
theorem Q2M(i:Nat){A:Option Addr}{n c s:Nat}{e:TypeId}{xs:List Value}{l:List Oper}(hO:O[i]? =some (.row A n c e s xs))(hn:0<n)(h:∀b,A=some ⟨b,0,none⟩→lE P ops Q N M W E O l):lE P ops Q N M W E O l:=fun a w ha hw=>by
 rcases (hw.own i _ hO).2 with ⟨hv,_⟩|⟨g,cap,cur,hv,_⟩
 ·have:n=0:=by
   simp only[Value.slice.injEq] at hv
   omega
  omega
 ·simp only[Value.slice.injEq] at hv
  exact h g hv.1 a w ha hw
theorem Zd{l:List Oper}{E':Env}{O':List Qg}(h:lE P ops Q N M W E' O' l)(hE:Q0u E E')(f:∀w,Wd M W O w→Wd M W O' w):lE P ops Q N M W E O l:=fun a w ha hw=>h a w (hE.ag ha) (f w hw)
theorem Q5z{l:List Oper}{φ:Prop}(f:∀w,Wd M W O w→φ)(h:φ→lE P ops Q N M W E O l):lE P ops Q N M W E O l:=fun a w ha hw=>h (f w hw) a w ha hw
end
theorem Q6H{x:Qg}(h:x.w=false):∀a∈[x],a.w=false:=fun a ha=>by
 cases List.mem_singleton.1 ha
 exact h
theorem QfH{x y:Qg}(h:x.w=false)(h2:y.w=false):∀a∈[x,y],a.w=false:=fun a ha=>by
 rcases List.mem_cons.1 ha with h3|h3
 ·cases h3;exact h
 ·exact Q6H h2 a h3
theorem Wd.sw12{M:List Nat}{W w:World}{a b c:Qg}{O:List Qg}(h:Wd M W (a::b::c::O) w):Wd M W (a::c::b::O) w:=
 Wd.swapL (L:=[c]) (P:=[a]) (O:=b::O) (Wd.swapL (L:=[a,b]) (P:=[c]) (O:=O) h)
theorem Wd.rdAt1{W w:World}{a:Qg}{O:List Qg}{n c:Nat}{A:Option Addr}{e:TypeId}{xs:List Value}(h:Wd [] W (a::.row A n c e 1 xs::O) w):Wd [] W (a::.rd A n 1 xs::O) w:=h.toRd (i:=1) rfl (by decide)
theorem Wd.rdAt0{W w:World}{O:List Qg}{n c:Nat}{A:Option Addr}{e:TypeId}{xs:List Value}(h:Wd [] W (.row A n c e 1 xs::O) w):Wd [] W (.rd A n 1 xs::O) w:=h.toRd (i:=0) rfl (by decide)
structure K7 where
 i:Nat
 An:Option Addr
 cn:Nat
 Ar:Option Addr
 cr:Nat
section
variable {W w:World}{O:List Qg}
set_option maxRecDepth 100000 in
set_option maxHeartbeats 64000000 in
theorem Q7m{l:List UInt8}(hl:l.length≤2000)(hw:Wd [] W O w):
  Calls Tryz.prog 46 #[.string ⟨l.toArray⟩] w (QW RlY.v (RlI l) [] W (fun y=>y.ats++O)):=by
 obtain⟨hlen,hall⟩:=YK 32 l;have hne:=Kz 32 l;obtain⟨ws,hws⟩:∃ws,spl 32 l=ws:=⟨_,rfl⟩
 have hrl:Zo l=V5 ws:=by unfold Zo;rw[hws]
 have hcut:∀(O:List Qg) (w:World),Wd [] W O w→Calls Tryz.prog 45 #[.string ⟨l.toArray⟩,.int .u8 32] w (QW (fun y:Option Addr×Nat=>.slice y.1 ws.length y.2) (fun _=>True) [] W (fun y=>.row y.1 ws.length y.2 9 1 (sv ws)::O)):=fun O w hw=>by
  have h:=Q5F (s:=l) (c:=32) (by omega) hw;rw[hws] at h;exact h
 rw[hws] at hlen hall hne;have HCUT:=Lib.hid hcut;have HALL:=Lib.hid hall;have HRL:=Lib.hid hrl;clear hcut hall hrl hws
 have hw0:0<ws.length:=by
  cases ws with
  |nil=>exact absurd rfl hne
  |cons=>simp
 clear hne
 go_enter Tryz.func46,Tryz.ntmps46
 refine QE (M:=[]) (W:=W) (N:=278) (E:=[(0,.string ⟨l.toArray⟩)]) (O:=O) ?_ (Ag.cons (Ag.nil rfl rfl) rfl) hw;refine yq<|yr ?_;refine yA fun b2=>?_;refine yo zA<|yo zA<|yl<|yn<|yq<|yr<|yo zM ?_;(refine Qa (Qx _ _ _ (f:=45) rfl rfl rfl (fun w hw=>HCUT.out _ w hw)) rfl (by decide) (fun yw _=>?_);obtain⟨Aw,cw⟩:=yw);refine yo zA<|yl<|yn<|yq<|yr ?_;refine yA fun b6=>?_;refine yl<|yn<|yq<|yr<|yo zA<|yl<|yn<|yq<|yq<|yr ?_;refine Q2M 1 rfl hw0 (fun bw ew=>?_);obtain rfl:Aw=some ⟨bw,0,none⟩:=ew;refine Q5z (fun w hw=>(XN (hw.own 1 _ rfl) (by decide)).2) (fun hcw=>?_)
 apply QbN (T:=fun kQ kO kC=>∀(y:RlY) (fine:Bool),(∀u∈y.refs,u.length≤2000)→y.refs.length≤2001→(if fine&&y.refs.all Qi then Zo l=some (y.x,y.refs) else Zo l=none)→(∀a∈y.ats,a.w=false)→(∀w,(∀a∈y.ats,a.on w)→RlF y w)→lE Tryz.prog kO kQ 278 [] W [(2,.pointer (some ⟨b2,0,none⟩)),(6,.pointer (some ⟨b6,0,none⟩)),(7,.slice y.Ar y.refs.length y.cr),(11,.bool fine)] (.blk b6 (.cells (RlY.cells y).toArray 52 (0,0))::.blk b2 (.cells (RlY.cells Vr).toArray 52 (0,0))::(y.ats++O)) kC)
 case main=>
  intro key
  by_cases hlt:ws.length<2
  ·have HNO:=Lib.hid (show Zo l=none by
     rw[HRL.out];clear key
     match ws,hlt with
     |[],_=>rfl
     |[_],_=>rfl
     |_::_::_,h=>exact absurd h (by simp))
   refine yo zM<|yo zL<|yo zlt<|yo zM<|yo zS<|yo zS<|yo zS<|yo zS<|yo zS<|yo zY<|yl<|yn<|y1<|yq<|yr<|yo (zD 0) ?_;refine yW 2 ?_;refine yo zA<|yo zA<|yl<|yn<|yt<|yc ?_;exact Z6 (by exact .inr rfl) rfl (RsV.blk 2 rfl rfl rfl) (.tmp rfl) (.tmp rfl) (fun w hw=>YI Vr rfl rfl (HNO.out) hw.tl.tl.tl)
  obtain⟨name,kw,U,hwu⟩:∃name kw U,ws=name::kw::U:=by
   clear key
   match ws,hlt with
   |[],h=>exact absurd (by simp) h
   |[_],h=>exact absurd (by simp) h
   |a::b::t,_=>exact⟨a,b,t,rfl⟩
  have hU:U=ws.drop 2:=by rw[hwu];rfl
  have hwl:ws.length=U.length+2:=by rw[hwu];rfl
  have hc0:(sv ws)[0+0]? =some (.string ⟨name.toArray⟩):=by rw[hwu];rfl
  have hc1:(sv ws)[0+1]? =some (.string ⟨kw.toArray⟩):=by rw[hwu];rfl
  have hnl:name.length≤1048576:=by have:=HALL.out name (by rw[hwu];exact List.mem_cons_self ..);omega
  have hrk:Zo l=if Qi name then QD name (kwK kw) U else none:=by rw[HRL.out,hwu];rfl
  have HUA:=Lib.hid (show ∀u∈U,u.length≤2000 from fun u hu=>by have:=HALL.out u (by rw[hwu];exact List.mem_cons_of_mem _ (List.mem_cons_of_mem _ hu));omega);have HC0:=Lib.hid hc0;have HC1:=Lib.hid hc1;have HU:=Lib.hid hU;clear hU hwu hc0 hc1;obtain⟨nm,hnm⟩:∃x,Qi name=x:=⟨_,rfl⟩;rw[hnm] at hrk;have H1:=Lib.hid hnm;clear hnm
  cases nm with
  |false=>
   have HNO:=Lib.hid (show Zo l=none from hrk);refine yo zM<|yo zL<|yo zlf<|yo zM<|yo zM<|yo (zi1 (j:=0))<|yo (zK 1 HC0.out) ?_;(refine Q1 (Q4 (f:=48) rfl rfl (by decide) rfl rfl (fun w hw=>(ZA name hnl w).mono (fun _ _ h=>by rw[H1.out] at h;exact h))) ?_);refine yo zO<|yo zN<|yl<|yn<|y1<|yq<|yr<|yo (zD 0) ?_;refine yW 2 ?_;refine yo zA<|yo zA<|yl<|yn<|yt<|yc ?_;exact Z6 (by exact .inr rfl) rfl (RsV.blk 2 rfl rfl rfl) (.tmp rfl) (.tmp rfl) (fun w hw=>YI Vr rfl rfl (HNO.out) hw.tl.tl.tl)
  |true=>
   have hrk2:Zo l=QD name (kwK kw) U:=hrk;obtain⟨hK0,hK10⟩:=Qba kw;obtain⟨K,hK⟩:∃K,kwK kw=K:=⟨_,rfl⟩;rw[hK] at hrk2 hK0 hK10;have HRK:=Lib.hid hrk2;have HKI:=Lib.hid (fun k (hk:1≤k∧k≤(10:Int))=>(QdZ (kw:=kw) hk).trans (by rw[hK]));clear hrk hrk2 hK;refine yo zM<|yo zL<|yo zlf<|yo zM<|yo zM<|yo (zi1 (j:=0))<|yo (zK 1 HC0.out) ?_;(refine Q1 (Q4 (f:=48) rfl rfl (by decide) rfl rfl (fun w hw=>(ZA name hnl w).mono (fun _ _ h=>by rw[H1.out] at h;exact h))) ?_);refine yo zO<|yo zN<|yl<|yn<|y0<|ys<|yn<|yq<|yr<|yo zM<|yo (zi1 (j:=0))<|yo (zK 1 HC0.out)<|yo zF ?_;refine yS 0 ?_;refine yl<|yn<|yq<|yq<|yr<|yo zA<|yl<|yn<|yb ?_;refine ZF (ι:=Int) (fun k=>1≤k∧k≤11) (fun k=>(11 - k).toNat) (fun k=>[(2,.pointer (some ⟨b2,0,none⟩)),(3,.slice none 0 0),(4,.bool false),(5,.slice (some ⟨bw,0,none⟩) ws.length cw),(6,.pointer (some ⟨b6,0,none⟩)),(7,.slice none 0 0),(8,.int .i64 k)]) (fun k=>.blk b6 (.cells (ruC (QN name (kdT K k)) (.slice none 0 0) (.slice none 0 0) (.slice none 0 0)).toArray 52 (0,0))::.row (some ⟨bw,0,none⟩) ws.length cw 9 1 (sv ws)::.blk b2 (.cells (RlY.cells Vr).toArray 52 (0,0))::O) 1 ⟨by decide,by decide⟩ (.cons rfl rfl (.cons rfl rfl (.cons rfl rfl (.cons rfl rfl (.cons rfl rfl (.cons rfl rfl (.cons rfl rfl .nil))))))) (fun w hw=>by rw[QcS hK0];exact hw) ?_
   rintro k ⟨hk1,hk11⟩
   show sE _ _ _ _ _ [(2,.pointer (some ⟨b2,0,none⟩)),(3,.slice none 0 0),(4,.bool false),(5,.slice (some ⟨bw,0,none⟩) ws.length cw),(6,.pointer (some ⟨b6,0,none⟩)),(7,.slice none 0 0),(8,.int .i64 k)] (.blk b6 (.cells (ruC (QN name (kdT K k)) (.slice none 0 0) (.slice none 0 0) (.slice none 0 0)).toArray 52 (0,0))::.row (some ⟨bw,0,none⟩) ws.length cw 9 1 (sv ws)::.blk b2 (.cells (RlY.cells Vr).toArray 52 (0,0))::O) _
   by_cases hkk:k≤10
   ·by_cases hke:K=k
    ·subst hke;have htest:((⟨(Xz K).toArray⟩:ByteArray).data.toList==(⟨kw.toArray⟩:ByteArray).data.toList)=true:=beq_iff_eq.2 ((HKI.out K ⟨hk1,hkk⟩).2 rfl);refine yq<|yq<|yr<|yo zM<|yo zqt<|yl<|yn<|y1<|ys<|yn<|yq<|yb<|yq<|Xm (by kernel_rfl) (by kernel_rfl) ?_;refine Qd zM ?_;refine Qd (Q4 (f:=40) rfl rfl (by decide) rfl rfl (fun w hw=>Q0x ⟨hk1,hkk⟩ w)) ?_;refine Qd zM ?_;refine Qd (zi1 (j:=1)) ?_;refine Qd (zK 1 HC1.out) ?_;refine Qd zsa ?_;refine XS ?_;refine yn<|y1<|yr<|yo zM<|yo zF ?_;refine yS 0 ?_;refine yl<|yn<|yr<|yo zM<|yo zP<|yo zA<|yl ?_;refine QH (K+1) ⟨by omega,by omega⟩ (by show (11 - (K+1)).toNat<(11 - K).toNat;omega) (.cons rfl rfl (.cons rfl rfl (.cons rfl rfl (.cons rfl rfl (.cons rfl rfl (.cons rfl rfl (.cons rfl (by go_num) .nil))))))) (fun w hw=>?_)
     show Wd [] W (.blk b6 (.cells (ruC (QN name (kdT K (K+1))) (.slice none 0 0) (.slice none 0 0) (.slice none 0 0)).toArray 52 (0,0))::.row (some ⟨bw,0,none⟩) ws.length cw 9 1 (sv ws)::.blk b2 (.cells (RlY.cells Vr).toArray 52 (0,0))::O) w
     rw[Qdx];exact hw
    ·have htest:((⟨(Xz k).toArray⟩:ByteArray).data.toList==(⟨kw.toArray⟩:ByteArray).data.toList)=false:=beq_eq_false_iff_ne.2 (fun h=>hke ((HKI.out k ⟨hk1,hkk⟩).1 h));have HKN:=Lib.hid (Qe9 hke);clear hke;refine yq<|yq<|yr<|yo zM<|yo zqt<|yl<|yn<|y1<|ys<|yn<|yq<|yb<|yq<|Xm (by kernel_rfl) (by kernel_rfl) ?_;refine Qd zM ?_;refine Qd (Q4 (f:=40) rfl rfl (by decide) rfl rfl (fun w hw=>Q0x ⟨hk1,hkk⟩ w)) ?_;refine Qd zM ?_;refine Qd (zi1 (j:=1)) ?_;refine Qd (zK 1 HC1.out) ?_;refine Qd zsa ?_;refine XS ?_;refine yn<|y0<|ys<|yn<|yr<|yo zM<|yo zP<|yo zA<|yl ?_;refine QH (k+1) ⟨by omega,by omega⟩ (by show (11 - (k+1)).toNat<(11 - k).toNat;omega) (.cons rfl rfl (.cons rfl rfl (.cons rfl rfl (.cons rfl rfl (.cons rfl rfl (.cons rfl rfl (.cons rfl (by go_num) .nil))))))) (fun w hw=>?_)
     show Wd [] W (.blk b6 (.cells (ruC (QN name (kdT K (k+1))) (.slice none 0 0) (.slice none 0 0) (.slice none 0 0)).toArray 52 (0,0))::.row (some ⟨bw,0,none⟩) ws.length cw 9 1 (sv ws)::.blk b2 (.cells (RlY.cells Vr).toArray 52 (0,0))::O) w
     rw[HKN.out];exact hw
   obtain rfl:k=11:=by omega
   rw[QcZ hK10];clear hkk hk1 hk11 HKI
   have hq2:2≤ws.length:=by omega
   have hAw:Zj (some ⟨bw,0,none⟩) cw 2 1=if cw=2 then some ⟨bw,0,none⟩ else some ⟨bw,0+2,none⟩:=by
    unfold Zj
    split
    ·rfl
    ·rw[Option.map_some,Addr.add_mid]
   have hul:U.length=ws.length - 2:=by omega
   obtain rfl|rfl|rfl|rfl|rfl|rfl|rfl|rfl|rfl|rfl|rfl:K=0∨K=1∨K=2∨K=3∨K=4∨K=5∨K=6∨K=7∨K=8∨K=9∨K=10:=by omega
   ·refine yq<|yq<|yr<|yo zM<|yo zqf<|yl<|yn<|y0<|ye<|yn<|yq<|yr<|yo zM ?_;refine Q1 (QG (l:=2) rfl rfl (by decide) rfl rfl rfl (by omega)) ?_;refine yo zA<|yl<|yn<|yq<|yr<|yo zA<|yl<|yn<|yq<|yr<|yo zA<|yl<|yn<|yq<|yq<|yr<|yo zF<|yo (zB 0)<|yl<|yn<|yb<|yq<|yr<|yo zer<|yo zA<|yl<|yn<|y1<|yq<|yr<|yo (zD 0) ?_;refine yW 2 ?_;refine yo zA<|yo zA<|yl<|yn<|yt<|yk<|yc ?_;exact Z6 (by exact .inr rfl) rfl (RsV.blk 2 rfl rfl rfl) (.tmp rfl) (.tmp rfl) (fun w hw=>YI ⟨QN name 0,none,0,none,0,none,0,[],none,0,false,[]⟩ rfl rfl (HRK.out.trans (Qfw U)) hw.tl.tl.tl)
   ·skip
    by_cases hm:U.length=1
    rotate_left
    ·have HNO:=Lib.hid (HRK.out.trans (Q5r (.inl rfl) hm));refine yq<|yq<|yr<|yo zM<|yo zqf<|yl<|yn<|y0<|ye<|yn<|yq<|yr<|yo zM ?_;refine Q1 (QG (l:=2) rfl rfl (by decide) rfl rfl rfl (by omega)) ?_;refine yo zA<|yl<|yn<|yq<|yr<|yo zA<|yl<|yn<|yq<|yr<|yo zA<|yl<|yn<|yq<|yq<|yr<|yo zF<|yo (zB 0)<|yl<|yn<|yb<|yq<|yr<|yo zer<|yo zA<|yl<|yn<|y0<|yq<|yr<|yo zer<|yo zA<|yl<|yn<|y1<|yq<|yq<|yr<|yo zM<|yo zL<|yo znt<|yl<|yn<|y1<|yq<|yr<|yo (zD 0) ?_;refine yW 2 ?_;refine yo zA<|yo zA<|yl<|yn<|yt<|yc<|yk<|yc ?_;exact Z6 (by exact .inr rfl) rfl (RsV.blk 2 rfl rfl rfl) (.tmp rfl) (.tmp rfl) (fun w hw=>YI ⟨QN name 1,none,0,none,0,none,0,[],none,0,false,[]⟩ rfl rfl (HNO.out) hw.tl.tl.tl)
    obtain⟨a,hUe⟩:∃a,U=[a]:=by
     clear key
     match U,hm with
     |[a],_=>exact⟨a,rfl⟩
    subst hUe;have HW0:=Lib.hid (show (sv ws)[0+2+0]? =some (.string ⟨a.toArray⟩) from J5 (by have h:=congrArg (fun x=>x[0]?) HU.out;simp only[List.getElem?_drop] at h;exact h.symm));have hL0:a.length≤2000:=HUA.out a (by simp)
    have hAw2:Zj (some ⟨bw,0,none⟩) cw 2 1=some ⟨bw,0+2,none⟩:=by rw[hAw,if_neg (by omega)]
    refine yq<|yq<|yr<|yo zM<|yo zqf<|yl<|yn<|y0<|ye<|yn<|yq<|yr<|yo zM ?_;(refine Q1 (QG (l:=2) rfl rfl (by decide) rfl rfl rfl (by omega)) ?_;rw[hAw2]);refine yo zA<|yl<|yn<|yq<|yr<|yo zA<|yl<|yn<|yq<|yr<|yo zA<|yl<|yn<|yq<|yq<|yr<|yo zF<|yo (zB 0)<|yl<|yn<|yb<|yq<|yr<|yo zer<|yo zA<|yl<|yn<|y0<|yq<|yr<|yo zer<|yo zA<|yl<|yn<|y1<|yq<|yq<|yr<|yo zM<|yo zL<|yo znf<|yl<|yn<|y0<|ys<|yn<|yq<|yr<|yo zM<|yo (zi1 (j:=0))<|yo (zK 1 HW0.out) ?_;(refine Qa (Qx _ _ _ (f:=85) rfl rfl rfl (fun w hw=>Qdg (x:=a) (by omega) hw)) rfl (by decide) (fun yh hyh=>?_);have HYH:=Lib.hid hyh);refine yo zM<|yo zX<|yo zX<|yo zF ?_;refine yS 1 ?_;refine yo zA<|yl<|yn<|yq<|yr<|yo (zD 1)<|yo zM ?_;refine yW 3 ?_;refine yo zA<|yo zA<|yl<|yn<|yt<|yk<|yc ?_;refine Z6 (by exact .inr rfl) rfl (RsV.blk 3 rfl rfl rfl) (.tmp rfl) (.tmp rfl) (fun w hw=>?_);have h1:=Qfz (name:=name) HYH.out;rw[← HRK.out] at h1;have hr:=XN (hw.own 0 _ rfl) (by decide);exact JN ⟨{ QN name 1 with bs:=yh.l },yh.A,yh.c,none,0,none,0,[],none,0,yh.ok,[.rd yh.A yh.l.length 1 (bv yh.l)]⟩ h1 (Q6H rfl) (fun w ha=>⟨⟨hr.2,Nat.le_refl _,Nat.le_refl _,ha _ (List.mem_singleton.2 rfl),Qj _ _,Qj _ _⟩,Qj _ _,Nat.le_refl _⟩) (Wd.no2 (Wd.no2 (Wd.no2 (Wd.rdAt0 hw))))
   ·skip
    by_cases hm:U.length=4
    rotate_left
    ·have HNO:=Lib.hid (HRK.out.trans (Qd6 hm));refine yq<|yq<|yr<|yo zM<|yo zqf<|yl<|yn<|y0<|ye<|yn<|yq<|yr<|yo zM ?_;refine Q1 (QG (l:=2) rfl rfl (by decide) rfl rfl rfl (by omega)) ?_;refine yo zA<|yl<|yn<|yq<|yr<|yo zA<|yl<|yn<|yq<|yr<|yo zA<|yl<|yn<|yq<|yq<|yr<|yo zF<|yo (zB 0)<|yl<|yn<|yb<|yq<|yr<|yo zer<|yo zA<|yl<|yn<|y0<|yq<|yr<|yo zer<|yo zA<|yl<|yn<|y0<|yq<|yr<|yo zer<|yo zA<|yl<|yn<|y1<|yr<|yo zA<|yl<|yn<|yq<|yq<|yr<|yo zM<|yo zL<|yo zM<|yo znt<|yl<|yn<|y1<|yq<|yr<|yo (zD 0) ?_;refine yW 2 ?_;refine yo zA<|yo zA<|yl<|yn<|yt<|yc ?_;exact Z6 (by exact .inr rfl) rfl (RsV.blk 2 rfl rfl rfl) (.tmp rfl) (.tmp rfl) (fun w hw=>YI ⟨QN name 2,none,0,none,0,none,0,[],none,0,false,[]⟩ rfl rfl (HNO.out) hw.tl.tl.tl)
    obtain⟨a,b,c,d,hUe⟩:∃a b c d,U=[a,b,c,d]:=by
     clear key
     match U,hm with
     |[a,b,c,d],_=>exact⟨a,b,c,d,rfl⟩
    subst hUe;have HW0:=Lib.hid (show (sv ws)[0+2+0]? =some (.string ⟨a.toArray⟩) from J5 (by have h:=congrArg (fun x=>x[0]?) HU.out;simp only[List.getElem?_drop] at h;exact h.symm));have hL0:a.length≤2000:=HUA.out a (by simp);have HW1:=Lib.hid (show (sv ws)[0+2+1]? =some (.string ⟨b.toArray⟩) from J5 (by have h:=congrArg (fun x=>x[1]?) HU.out;simp only[List.getElem?_drop] at h;exact h.symm));have hL1:b.length≤2000:=HUA.out b (by simp);have HW2:=Lib.hid (show (sv ws)[0+2+2]? =some (.string ⟨c.toArray⟩) from J5 (by have h:=congrArg (fun x=>x[2]?) HU.out;simp only[List.getElem?_drop] at h;exact h.symm));have hL2:c.length≤2000:=HUA.out c (by simp);have HW3:=Lib.hid (show (sv ws)[0+2+3]? =some (.string ⟨d.toArray⟩) from J5 (by have h:=congrArg (fun x=>x[3]?) HU.out;simp only[List.getElem?_drop] at h;exact h.symm));have hL3:d.length≤2000:=HUA.out d (by simp)
    have hAw2:Zj (some ⟨bw,0,none⟩) cw 2 1=some ⟨bw,0+2,none⟩:=by rw[hAw,if_neg (by omega)]
    have HRR:=Lib.hid (QfJ (name:=name) a b c d);rw[← HRK.out] at HRR;obtain⟨ya,hya⟩:∃x,V4 a=x:=⟨_,rfl⟩;obtain⟨yc,hyc⟩:∃x,V4 c=x:=⟨_,rfl⟩;obtain⟨yd,hyd⟩:∃x,V4 d=x:=⟨_,rfl⟩;obtain⟨ob,hob⟩:∃x,((⟨b.toArray⟩:ByteArray).data.toList==(⟨#[98,105,103]⟩:ByteArray).data.toList)=x:=⟨_,rfl⟩;obtain⟨ol,hol⟩:∃x,((⟨b.toArray⟩:ByteArray).data.toList==(⟨#[108,105,116,116,108,101]⟩:ByteArray).data.toList)=x:=⟨_,rfl⟩;have HOB:=Lib.hid (show (b==V3)=ob from hob);have HOL:=Lib.hid (show (b==Ze)=ol from hol);have HYA:=Lib.hid hya;have HYC:=Lib.hid hyc;have HYD:=Lib.hid hyd;rw[HOB.out,HOL.out,hya,hyc,hyd] at HRR
    have hx2:∀z,({ QN name 2 with size:=Z3 a,big:=ob,mn:=Z3 c,mx:=Z3 d }:Rl)=z→z={ QN name 2 with size:=Z3 a,big:=ob,mn:=Z3 c,mx:=Z3 d }:=fun z h=>h.symm
    clear hx2 hya hyc hyd
    cases ya with
    |false=>
     refine yq<|yq<|yr<|yo zM<|yo zqf<|yl<|yn<|y0<|ye<|yn<|yq<|yr<|yo zM ?_;(refine Q1 (QG (l:=2) rfl rfl (by decide) rfl rfl rfl (by omega)) ?_;rw[hAw2]);refine yo zA<|yl<|yn<|yq<|yr<|yo zA<|yl<|yn<|yq<|yr<|yo zA<|yl<|yn<|yq<|yq<|yr<|yo zF<|yo (zB 0)<|yl<|yn<|yb<|yq<|yr<|yo zer<|yo zA<|yl<|yn<|y0<|yq<|yr<|yo zer<|yo zA<|yl<|yn<|y0<|yq<|yr<|yo zer<|yo zA<|yl<|yn<|y1<|yr<|yo zA<|yl<|yn<|yq<|yq<|yr<|yo zM<|yo zL<|yo zM<|yo znf<|yl<|yn<|y0<|ys<|yn<|yq<|yr<|yo zA<|yl<|yn<|yq<|yq<|yr<|yo zF<|yo (zB 0)<|yl<|yn<|yb<|yq<|yr<|yo zer<|yo zA<|yl<|yn<|y1<|yq<|yr<|yo zM<|yo (zi1 (j:=0))<|yo (zK 1 HW0.out) ?_;refine Q1 (Q4 (f:=86) rfl rfl (by decide) rfl rfl (fun w hw=>(Qy a (by omega)).mono (fun _ _ h=>by unfold J3 at h;rw[HYA.out] at h;exact h))) ?_;refine yo zM<|yo zX<|yo zX<|yo zF ?_;refine yS 0 ?_;refine yo zA<|yl<|yn<|yq<|yr<|yo zM<|yo zM<|yo zS<|yo zS<|yo zS<|yo zS<|yo zS<|yo zS<|yo zS<|yo zS<|yo zS<|yo zS<|yo zN<|yo zA<|yl<|yn<|yq<|yr<|yo zM<|yo (zi1 (j:=1))<|yo (zK 1 HW1.out)<|yo zsa<|yo zF ?_;refine yS 0 ?_;refine yl<|yn<|yq<|yr<|yo zM<|yo (zi1 (j:=2))<|yo (zK 1 HW2.out) ?_;refine Q1 (Q4 (f:=86) rfl rfl (by decide) rfl rfl (fun w hw=>(Qy c (by omega)).mono (fun _ _ h=>by unfold J3 at h;rw[HYC.out] at h;exact h))) ?_;refine yo zM<|yo zX<|yo zX<|yo zF ?_;refine yS 0 ?_;refine yo zA<|yl<|yn<|yq<|yr<|yo zM<|yo zM<|yo zS<|yo zN<|yo zA<|yl<|yn<|yq<|yr<|yo zM<|yo (zi1 (j:=3))<|yo (zK 1 HW3.out) ?_;refine Q1 (Q4 (f:=86) rfl rfl (by decide) rfl rfl (fun w hw=>(Qy d (by omega)).mono (fun _ _ h=>by unfold J3 at h;rw[HYD.out] at h;exact h))) ?_;refine yo zM<|yo zX<|yo zX<|yo zF ?_;refine yS 0 ?_;refine yo zA<|yl<|yn<|yr<|yo zM<|yo zM<|yo zS<|yo zN<|yo zA<|yl<|yn<|yq<|yq<|yr ?_;have hk:=key ⟨{ QN name 2 with size:=Z3 a,big:=ob,mn:=Z3 c,mx:=Z3 d },none,0,none,0,none,0,[],none,0,true,[]⟩ false (fun u hu=>by cases hu) (by simp) (by have h:=HRR.out;simpa using h) (fun a ha=>by cases ha) (fun w ha=>⟨⟨Nat.le_refl _,Nat.le_refl _,Nat.le_refl _,Qj _ _,Qj _ _,Qj _ _⟩,Qj _ _,Nat.le_refl _⟩);exact Zd hk (.cons rfl rfl (.cons rfl rfl (.cons rfl rfl (.cons rfl rfl .nil)))) (fun w hw=>Wd.no2 hw)
    |true=>
     cases ob with
     |true=>
      cases yc with
      |true=>
       refine yq<|yq<|yr<|yo zM<|yo zqf<|yl<|yn<|y0<|ye<|yn<|yq<|yr<|yo zM ?_;(refine Q1 (QG (l:=2) rfl rfl (by decide) rfl rfl rfl (by omega)) ?_;rw[hAw2]);refine yo zA<|yl<|yn<|yq<|yr<|yo zA<|yl<|yn<|yq<|yr<|yo zA<|yl<|yn<|yq<|yq<|yr<|yo zF<|yo (zB 0)<|yl<|yn<|yb<|yq<|yr<|yo zer<|yo zA<|yl<|yn<|y0<|yq<|yr<|yo zer<|yo zA<|yl<|yn<|y0<|yq<|yr<|yo zer<|yo zA<|yl<|yn<|y1<|yr<|yo zA<|yl<|yn<|yq<|yq<|yr<|yo zM<|yo zL<|yo zM<|yo znf<|yl<|yn<|y0<|ys<|yn<|yq<|yr<|yo zA<|yl<|yn<|yq<|yq<|yr<|yo zF<|yo (zB 0)<|yl<|yn<|yb<|yq<|yr<|yo zer<|yo zA<|yl<|yn<|y1<|yq<|yr<|yo zM<|yo (zi1 (j:=0))<|yo (zK 1 HW0.out) ?_;refine Q1 (Q4 (f:=86) rfl rfl (by decide) rfl rfl (fun w hw=>(Qy a (by omega)).mono (fun _ _ h=>by unfold J3 at h;rw[HYA.out] at h;exact h))) ?_;refine yo zM<|yo zX<|yo zX<|yo zF ?_;refine yS 0 ?_;refine yo zA<|yl<|yn<|yq<|yr<|yo zM<|yo zM<|yo zM<|yo (zi1 (j:=1))<|yo (zK 1 HW1.out)<|yo zsa<|yo zM<|yo zS<|yo zS<|yo zS<|yo zS<|yo zY<|yo zY<|yo zA<|yl<|yn<|yq<|yr<|yo zM<|yo (zi1 (j:=1))<|yo (zK 1 HW1.out)<|yo zsa<|yo zF ?_;refine yS 0 ?_;refine yl<|yn<|yq<|yr<|yo zM<|yo (zi1 (j:=2))<|yo (zK 1 HW2.out) ?_;refine Q1 (Q4 (f:=86) rfl rfl (by decide) rfl rfl (fun w hw=>(Qy c (by omega)).mono (fun _ _ h=>by unfold J3 at h;rw[HYC.out] at h;exact h))) ?_;refine yo zM<|yo zX<|yo zX<|yo zF ?_;refine yS 0 ?_;refine yo zA<|yl<|yn<|yq<|yr<|yo zM<|yo zM<|yo zM<|yo zY<|yo zA<|yl<|yn<|yq<|yr<|yo zM<|yo (zi1 (j:=3))<|yo (zK 1 HW3.out) ?_;refine Q1 (Q4 (f:=86) rfl rfl (by decide) rfl rfl (fun w hw=>(Qy d (by omega)).mono (fun _ _ h=>by unfold J3 at h;rw[HYD.out] at h;exact h))) ?_;refine yo zM<|yo zX<|yo zX<|yo zF ?_;refine yS 0 ?_;refine yo zA<|yl<|yn<|yr<|yo zM<|yo zM<|yo zM<|yo zY<|yo zA<|yl<|yn<|yq<|yq<|yr ?_;have hk:=key ⟨{ QN name 2 with size:=Z3 a,big:=true,mn:=Z3 c,mx:=Z3 d },none,0,none,0,none,0,[],none,0,true,[]⟩ yd (fun u hu=>by cases hu) (by simp) (by have h:=HRR.out;simpa using h) (fun a ha=>by cases ha) (fun w ha=>⟨⟨Nat.le_refl _,Nat.le_refl _,Nat.le_refl _,Qj _ _,Qj _ _,Qj _ _⟩,Qj _ _,Nat.le_refl _⟩);exact Zd hk (.cons rfl rfl (.cons rfl rfl (.cons rfl rfl (.cons rfl rfl .nil)))) (fun w hw=>Wd.no2 hw)
      |false=>
       refine yq<|yq<|yr<|yo zM<|yo zqf<|yl<|yn<|y0<|ye<|yn<|yq<|yr<|yo zM ?_;(refine Q1 (QG (l:=2) rfl rfl (by decide) rfl rfl rfl (by omega)) ?_;rw[hAw2]);refine yo zA<|yl<|yn<|yq<|yr<|yo zA<|yl<|yn<|yq<|yr<|yo zA<|yl<|yn<|yq<|yq<|yr<|yo zF<|yo (zB 0)<|yl<|yn<|yb<|yq<|yr<|yo zer<|yo zA<|yl<|yn<|y0<|yq<|yr<|yo zer<|yo zA<|yl<|yn<|y0<|yq<|yr<|yo zer<|yo zA<|yl<|yn<|y1<|yr<|yo zA<|yl<|yn<|yq<|yq<|yr<|yo zM<|yo zL<|yo zM<|yo znf<|yl<|yn<|y0<|ys<|yn<|yq<|yr<|yo zA<|yl<|yn<|yq<|yq<|yr<|yo zF<|yo (zB 0)<|yl<|yn<|yb<|yq<|yr<|yo zer<|yo zA<|yl<|yn<|y1<|yq<|yr<|yo zM<|yo (zi1 (j:=0))<|yo (zK 1 HW0.out) ?_;refine Q1 (Q4 (f:=86) rfl rfl (by decide) rfl rfl (fun w hw=>(Qy a (by omega)).mono (fun _ _ h=>by unfold J3 at h;rw[HYA.out] at h;exact h))) ?_;refine yo zM<|yo zX<|yo zX<|yo zF ?_;refine yS 0 ?_;refine yo zA<|yl<|yn<|yq<|yr<|yo zM<|yo zM<|yo zM<|yo (zi1 (j:=1))<|yo (zK 1 HW1.out)<|yo zsa<|yo zM<|yo zS<|yo zS<|yo zS<|yo zS<|yo zY<|yo zY<|yo zA<|yl<|yn<|yq<|yr<|yo zM<|yo (zi1 (j:=1))<|yo (zK 1 HW1.out)<|yo zsa<|yo zF ?_;refine yS 0 ?_;refine yl<|yn<|yq<|yr<|yo zM<|yo (zi1 (j:=2))<|yo (zK 1 HW2.out) ?_;refine Q1 (Q4 (f:=86) rfl rfl (by decide) rfl rfl (fun w hw=>(Qy c (by omega)).mono (fun _ _ h=>by unfold J3 at h;rw[HYC.out] at h;exact h))) ?_;refine yo zM<|yo zX<|yo zX<|yo zF ?_;refine yS 0 ?_;refine yo zA<|yl<|yn<|yq<|yr<|yo zM<|yo zM<|yo zM<|yo zY<|yo zA<|yl<|yn<|yq<|yr<|yo zM<|yo (zi1 (j:=3))<|yo (zK 1 HW3.out) ?_;refine Q1 (Q4 (f:=86) rfl rfl (by decide) rfl rfl (fun w hw=>(Qy d (by omega)).mono (fun _ _ h=>by unfold J3 at h;rw[HYD.out] at h;exact h))) ?_;refine yo zM<|yo zX<|yo zX<|yo zF ?_;refine yS 0 ?_;refine yo zA<|yl<|yn<|yr<|yo zM<|yo zM<|yo zS<|yo zN<|yo zA<|yl<|yn<|yq<|yq<|yr ?_;have hk:=key ⟨{ QN name 2 with size:=Z3 a,big:=true,mn:=Z3 c,mx:=Z3 d },none,0,none,0,none,0,[],none,0,true,[]⟩ false (fun u hu=>by cases hu) (by simp) (by have h:=HRR.out;simpa using h) (fun a ha=>by cases ha) (fun w ha=>⟨⟨Nat.le_refl _,Nat.le_refl _,Nat.le_refl _,Qj _ _,Qj _ _,Qj _ _⟩,Qj _ _,Nat.le_refl _⟩);exact Zd hk (.cons rfl rfl (.cons rfl rfl (.cons rfl rfl (.cons rfl rfl .nil)))) (fun w hw=>Wd.no2 hw)
     |false=>
      cases ol with
      |true=>
       cases yc with
       |true=>
        refine yq<|yq<|yr<|yo zM<|yo zqf<|yl<|yn<|y0<|ye<|yn<|yq<|yr<|yo zM ?_;(refine Q1 (QG (l:=2) rfl rfl (by decide) rfl rfl rfl (by omega)) ?_;rw[hAw2]);refine yo zA<|yl<|yn<|yq<|yr<|yo zA<|yl<|yn<|yq<|yr<|yo zA<|yl<|yn<|yq<|yq<|yr<|yo zF<|yo (zB 0)<|yl<|yn<|yb<|yq<|yr<|yo zer<|yo zA<|yl<|yn<|y0<|yq<|yr<|yo zer<|yo zA<|yl<|yn<|y0<|yq<|yr<|yo zer<|yo zA<|yl<|yn<|y1<|yr<|yo zA<|yl<|yn<|yq<|yq<|yr<|yo zM<|yo zL<|yo zM<|yo znf<|yl<|yn<|y0<|ys<|yn<|yq<|yr<|yo zA<|yl<|yn<|yq<|yq<|yr<|yo zF<|yo (zB 0)<|yl<|yn<|yb<|yq<|yr<|yo zer<|yo zA<|yl<|yn<|y1<|yq<|yr<|yo zM<|yo (zi1 (j:=0))<|yo (zK 1 HW0.out) ?_;refine Q1 (Q4 (f:=86) rfl rfl (by decide) rfl rfl (fun w hw=>(Qy a (by omega)).mono (fun _ _ h=>by unfold J3 at h;rw[HYA.out] at h;exact h))) ?_;refine yo zM<|yo zX<|yo zX<|yo zF ?_;refine yS 0 ?_;refine yo zA<|yl<|yn<|yq<|yr<|yo zM<|yo zM<|yo zM<|yo (zi1 (j:=1))<|yo (zK 1 HW1.out)<|yo zsa<|yo zM<|yo zM<|yo (zi1 (j:=1))<|yo (zK 1 HW1.out)<|yo zsa<|yo zN<|yo zY<|yo zA<|yl<|yn<|yq<|yr<|yo zM<|yo (zi1 (j:=1))<|yo (zK 1 HW1.out)<|yo zsa<|yo zF ?_;refine yS 0 ?_;refine yl<|yn<|yq<|yr<|yo zM<|yo (zi1 (j:=2))<|yo (zK 1 HW2.out) ?_;refine Q1 (Q4 (f:=86) rfl rfl (by decide) rfl rfl (fun w hw=>(Qy c (by omega)).mono (fun _ _ h=>by unfold J3 at h;rw[HYC.out] at h;exact h))) ?_;refine yo zM<|yo zX<|yo zX<|yo zF ?_;refine yS 0 ?_;refine yo zA<|yl<|yn<|yq<|yr<|yo zM<|yo zM<|yo zM<|yo zY<|yo zA<|yl<|yn<|yq<|yr<|yo zM<|yo (zi1 (j:=3))<|yo (zK 1 HW3.out) ?_;refine Q1 (Q4 (f:=86) rfl rfl (by decide) rfl rfl (fun w hw=>(Qy d (by omega)).mono (fun _ _ h=>by unfold J3 at h;rw[HYD.out] at h;exact h))) ?_;refine yo zM<|yo zX<|yo zX<|yo zF ?_;refine yS 0 ?_;refine yo zA<|yl<|yn<|yr<|yo zM<|yo zM<|yo zM<|yo zY<|yo zA<|yl<|yn<|yq<|yq<|yr ?_;have hk:=key ⟨{ QN name 2 with size:=Z3 a,big:=false,mn:=Z3 c,mx:=Z3 d },none,0,none,0,none,0,[],none,0,true,[]⟩ yd (fun u hu=>by cases hu) (by simp) (by have h:=HRR.out;simpa using h) (fun a ha=>by cases ha) (fun w ha=>⟨⟨Nat.le_refl _,Nat.le_refl _,Nat.le_refl _,Qj _ _,Qj _ _,Qj _ _⟩,Qj _ _,Nat.le_refl _⟩);exact Zd hk (.cons rfl rfl (.cons rfl rfl (.cons rfl rfl (.cons rfl rfl .nil)))) (fun w hw=>Wd.no2 hw)
       |false=>
        refine yq<|yq<|yr<|yo zM<|yo zqf<|yl<|yn<|y0<|ye<|yn<|yq<|yr<|yo zM ?_;(refine Q1 (QG (l:=2) rfl rfl (by decide) rfl rfl rfl (by omega)) ?_;rw[hAw2]);refine yo zA<|yl<|yn<|yq<|yr<|yo zA<|yl<|yn<|yq<|yr<|yo zA<|yl<|yn<|yq<|yq<|yr<|yo zF<|yo (zB 0)<|yl<|yn<|yb<|yq<|yr<|yo zer<|yo zA<|yl<|yn<|y0<|yq<|yr<|yo zer<|yo zA<|yl<|yn<|y0<|yq<|yr<|yo zer<|yo zA<|yl<|yn<|y1<|yr<|yo zA<|yl<|yn<|yq<|yq<|yr<|yo zM<|yo zL<|yo zM<|yo znf<|yl<|yn<|y0<|ys<|yn<|yq<|yr<|yo zA<|yl<|yn<|yq<|yq<|yr<|yo zF<|yo (zB 0)<|yl<|yn<|yb<|yq<|yr<|yo zer<|yo zA<|yl<|yn<|y1<|yq<|yr<|yo zM<|yo (zi1 (j:=0))<|yo (zK 1 HW0.out) ?_;refine Q1 (Q4 (f:=86) rfl rfl (by decide) rfl rfl (fun w hw=>(Qy a (by omega)).mono (fun _ _ h=>by unfold J3 at h;rw[HYA.out] at h;exact h))) ?_;refine yo zM<|yo zX<|yo zX<|yo zF ?_;refine yS 0 ?_;refine yo zA<|yl<|yn<|yq<|yr<|yo zM<|yo zM<|yo zM<|yo (zi1 (j:=1))<|yo (zK 1 HW1.out)<|yo zsa<|yo zM<|yo zM<|yo (zi1 (j:=1))<|yo (zK 1 HW1.out)<|yo zsa<|yo zN<|yo zY<|yo zA<|yl<|yn<|yq<|yr<|yo zM<|yo (zi1 (j:=1))<|yo (zK 1 HW1.out)<|yo zsa<|yo zF ?_;refine yS 0 ?_;refine yl<|yn<|yq<|yr<|yo zM<|yo (zi1 (j:=2))<|yo (zK 1 HW2.out) ?_;refine Q1 (Q4 (f:=86) rfl rfl (by decide) rfl rfl (fun w hw=>(Qy c (by omega)).mono (fun _ _ h=>by unfold J3 at h;rw[HYC.out] at h;exact h))) ?_;refine yo zM<|yo zX<|yo zX<|yo zF ?_;refine yS 0 ?_;refine yo zA<|yl<|yn<|yq<|yr<|yo zM<|yo zM<|yo zM<|yo zY<|yo zA<|yl<|yn<|yq<|yr<|yo zM<|yo (zi1 (j:=3))<|yo (zK 1 HW3.out) ?_;refine Q1 (Q4 (f:=86) rfl rfl (by decide) rfl rfl (fun w hw=>(Qy d (by omega)).mono (fun _ _ h=>by unfold J3 at h;rw[HYD.out] at h;exact h))) ?_;refine yo zM<|yo zX<|yo zX<|yo zF ?_;refine yS 0 ?_;refine yo zA<|yl<|yn<|yr<|yo zM<|yo zM<|yo zS<|yo zN<|yo zA<|yl<|yn<|yq<|yq<|yr ?_;have hk:=key ⟨{ QN name 2 with size:=Z3 a,big:=false,mn:=Z3 c,mx:=Z3 d },none,0,none,0,none,0,[],none,0,true,[]⟩ false (fun u hu=>by cases hu) (by simp) (by have h:=HRR.out;simpa using h) (fun a ha=>by cases ha) (fun w ha=>⟨⟨Nat.le_refl _,Nat.le_refl _,Nat.le_refl _,Qj _ _,Qj _ _,Qj _ _⟩,Qj _ _,Nat.le_refl _⟩);exact Zd hk (.cons rfl rfl (.cons rfl rfl (.cons rfl rfl (.cons rfl rfl .nil)))) (fun w hw=>Wd.no2 hw)
      |false=>
       refine yq<|yq<|yr<|yo zM<|yo zqf<|yl<|yn<|y0<|ye<|yn<|yq<|yr<|yo zM ?_;(refine Q1 (QG (l:=2) rfl rfl (by decide) rfl rfl rfl (by omega)) ?_;rw[hAw2]);refine yo zA<|yl<|yn<|yq<|yr<|yo zA<|yl<|yn<|yq<|yr<|yo zA<|yl<|yn<|yq<|yq<|yr<|yo zF<|yo (zB 0)<|yl<|yn<|yb<|yq<|yr<|yo zer<|yo zA<|yl<|yn<|y0<|yq<|yr<|yo zer<|yo zA<|yl<|yn<|y0<|yq<|yr<|yo zer<|yo zA<|yl<|yn<|y1<|yr<|yo zA<|yl<|yn<|yq<|yq<|yr<|yo zM<|yo zL<|yo zM<|yo znf<|yl<|yn<|y0<|ys<|yn<|yq<|yr<|yo zA<|yl<|yn<|yq<|yq<|yr<|yo zF<|yo (zB 0)<|yl<|yn<|yb<|yq<|yr<|yo zer<|yo zA<|yl<|yn<|y1<|yq<|yr<|yo zM<|yo (zi1 (j:=0))<|yo (zK 1 HW0.out) ?_;refine Q1 (Q4 (f:=86) rfl rfl (by decide) rfl rfl (fun w hw=>(Qy a (by omega)).mono (fun _ _ h=>by unfold J3 at h;rw[HYA.out] at h;exact h))) ?_;refine yo zM<|yo zX<|yo zX<|yo zF ?_;refine yS 0 ?_;refine yo zA<|yl<|yn<|yq<|yr<|yo zM<|yo zM<|yo zM<|yo (zi1 (j:=1))<|yo (zK 1 HW1.out)<|yo zsa<|yo zM<|yo zM<|yo (zi1 (j:=1))<|yo (zK 1 HW1.out)<|yo zsa<|yo zN<|yo zY<|yo zA<|yl<|yn<|yq<|yr<|yo zM<|yo (zi1 (j:=1))<|yo (zK 1 HW1.out)<|yo zsa<|yo zF ?_;refine yS 0 ?_;refine yl<|yn<|yq<|yr<|yo zM<|yo (zi1 (j:=2))<|yo (zK 1 HW2.out) ?_;refine Q1 (Q4 (f:=86) rfl rfl (by decide) rfl rfl (fun w hw=>(Qy c (by omega)).mono (fun _ _ h=>by unfold J3 at h;rw[HYC.out] at h;exact h))) ?_;refine yo zM<|yo zX<|yo zX<|yo zF ?_;refine yS 0 ?_;refine yo zA<|yl<|yn<|yq<|yr<|yo zM<|yo zM<|yo zS<|yo zN<|yo zA<|yl<|yn<|yq<|yr<|yo zM<|yo (zi1 (j:=3))<|yo (zK 1 HW3.out) ?_;refine Q1 (Q4 (f:=86) rfl rfl (by decide) rfl rfl (fun w hw=>(Qy d (by omega)).mono (fun _ _ h=>by unfold J3 at h;rw[HYD.out] at h;exact h))) ?_;refine yo zM<|yo zX<|yo zX<|yo zF ?_;refine yS 0 ?_;refine yo zA<|yl<|yn<|yr<|yo zM<|yo zM<|yo zS<|yo zN<|yo zA<|yl<|yn<|yq<|yq<|yr ?_;have hk:=key ⟨{ QN name 2 with size:=Z3 a,big:=false,mn:=Z3 c,mx:=Z3 d },none,0,none,0,none,0,[],none,0,true,[]⟩ false (fun u hu=>by cases hu) (by simp) (by have h:=HRR.out;simpa using h) (fun a ha=>by cases ha) (fun w ha=>⟨⟨Nat.le_refl _,Nat.le_refl _,Nat.le_refl _,Qj _ _,Qj _ _,Qj _ _⟩,Qj _ _,Nat.le_refl _⟩);exact Zd hk (.cons rfl rfl (.cons rfl rfl (.cons rfl rfl (.cons rfl rfl .nil)))) (fun w hw=>Wd.no2 hw)
   ·skip
    by_cases hm:U.length=2
    rotate_left
    ·have HNO:=Lib.hid (HRK.out.trans (Q2N (by omega) hm));refine yq<|yq<|yr<|yo zM<|yo zqf<|yl<|yn<|y0<|ye<|yn<|yq<|yr<|yo zM ?_;refine Q1 (QG (l:=2) rfl rfl (by decide) rfl rfl rfl (by omega)) ?_;refine yo zA<|yl<|yn<|yq<|yr<|yo zA<|yl<|yn<|yq<|yr<|yo zA<|yl<|yn<|yq<|yq<|yr<|yo zF<|yo (zB 0)<|yl<|yn<|yb<|yq<|yr<|yo zer<|yo zA<|yl<|yn<|y0<|yq<|yr<|yo zer<|yo zA<|yl<|yn<|y0<|yq<|yr<|yo zer<|yo zA<|yl<|yn<|y0<|yq<|yq<|yr<|yo zer<|yo zA<|yl<|yn<|y1<|ys<|yn<|y1<|yr<|yo zA<|yl<|yn<|yq<|yq<|yr<|yo zM<|yo zL<|yo zM<|yo znt<|yl<|yn<|y1<|yq<|yr<|yo (zD 0) ?_;refine yW 2 ?_;refine yo zA<|yo zA<|yl<|yn<|yt<|yc ?_;exact Z6 (by exact .inr rfl) rfl (RsV.blk 2 rfl rfl rfl) (.tmp rfl) (.tmp rfl) (fun w hw=>YI ⟨QN name 3,none,0,none,0,none,0,[],none,0,false,[]⟩ rfl rfl (HNO.out) hw.tl.tl.tl)
    obtain⟨a,b,hUe⟩:∃a b,U=[a,b]:=by
     clear key
     match U,hm with
     |[a,b],_=>exact⟨a,b,rfl⟩
    subst hUe;have HW0:=Lib.hid (show (sv ws)[0+2+0]? =some (.string ⟨a.toArray⟩) from J5 (by have h:=congrArg (fun x=>x[0]?) HU.out;simp only[List.getElem?_drop] at h;exact h.symm));have hL0:a.length≤2000:=HUA.out a (by simp);have HW1:=Lib.hid (show (sv ws)[0+2+1]? =some (.string ⟨b.toArray⟩) from J5 (by have h:=congrArg (fun x=>x[1]?) HU.out;simp only[List.getElem?_drop] at h;exact h.symm));have hL1:b.length≤2000:=HUA.out b (by simp)
    have hAw2:Zj (some ⟨bw,0,none⟩) cw 2 1=some ⟨bw,0+2,none⟩:=by rw[hAw,if_neg (by omega)]
    have HRR:=Lib.hid (QfQ (name:=name) a b);rw[← HRK.out] at HRR;obtain⟨yb,hyb⟩:∃x,V4 b=x:=⟨_,rfl⟩;have HYB:=Lib.hid hyb;rw[hyb] at HRR;clear hyb
    cases yb with
    |false=>
     refine yq<|yq<|yr<|yo zM<|yo zqf<|yl<|yn<|y0<|ye<|yn<|yq<|yr<|yo zM ?_;(refine Q1 (QG (l:=2) rfl rfl (by decide) rfl rfl rfl (by omega)) ?_;rw[hAw2]);refine yo zA<|yl<|yn<|yq<|yr<|yo zA<|yl<|yn<|yq<|yr<|yo zA<|yl<|yn<|yq<|yq<|yr<|yo zF<|yo (zB 0)<|yl<|yn<|yb<|yq<|yr<|yo zer<|yo zA<|yl<|yn<|y0<|yq<|yr<|yo zer<|yo zA<|yl<|yn<|y0<|yq<|yr<|yo zer<|yo zA<|yl<|yn<|y0<|yq<|yq<|yr<|yo zer<|yo zA<|yl<|yn<|y1<|ys<|yn<|y1<|yr<|yo zA<|yl<|yn<|yq<|yq<|yr<|yo zM<|yo zL<|yo zM<|yo znf<|yl<|yn<|y0<|ys<|yn<|yq<|yr<|yo zA<|yl<|yn<|yq<|yq<|yr<|yo zF<|yo (zB 0)<|yl<|yn<|yb<|yq<|yr<|yo zer<|yo zA<|yl<|yn<|y0<|yq<|yr<|yo zer<|yo zA<|yl<|yn<|y1<|yq<|yr<|yo zM<|yo (zi1 (j:=0))<|yo (zK 1 HW0.out) ?_;refine Q1 (Q4 (f:=86) rfl rfl (by decide) rfl rfl (fun w hw=>Qy a (by omega))) ?_;refine yo zM<|yo zX<|yo zX<|yo zF ?_;refine yS 0 ?_;refine yo zA<|yl<|yn<|yq<|yr<|yo zM<|yo (zi1 (j:=1))<|yo (zK 1 HW1.out) ?_;refine Q1 (Q4 (f:=86) rfl rfl (by decide) rfl rfl (fun w hw=>(Qy b (by omega)).mono (fun _ _ h=>by unfold J3 at h;rw[HYB.out] at h;exact h))) ?_;refine yo zM<|yo zX<|yo zX<|yo zF ?_;refine yS 0 ?_;refine yo zA<|yl<|yn<|yr<|yo zM<|yo zM<|yo zS<|yo zN<|yo zA<|yl<|yn<|yq<|yq<|yr ?_;have hk:=key ⟨{ QN name 3 with stop:=Z3 a,mx:=Z3 b },none,0,none,0,none,0,[],none,0,true,[]⟩ false (fun u hu=>by cases hu) (by simp) (by have h:=HRR.out;simpa using h) (fun a ha=>by cases ha) (fun w ha=>⟨⟨Nat.le_refl _,Nat.le_refl _,Nat.le_refl _,Qj _ _,Qj _ _,Qj _ _⟩,Qj _ _,Nat.le_refl _⟩);exact Zd hk (.cons rfl rfl (.cons rfl rfl (.cons rfl rfl (.cons rfl rfl .nil)))) (fun w hw=>Wd.no2 hw)
    |true=>
     refine yq<|yq<|yr<|yo zM<|yo zqf<|yl<|yn<|y0<|ye<|yn<|yq<|yr<|yo zM ?_;(refine Q1 (QG (l:=2) rfl rfl (by decide) rfl rfl rfl (by omega)) ?_;rw[hAw2]);refine yo zA<|yl<|yn<|yq<|yr<|yo zA<|yl<|yn<|yq<|yr<|yo zA<|yl<|yn<|yq<|yq<|yr<|yo zF<|yo (zB 0)<|yl<|yn<|yb<|yq<|yr<|yo zer<|yo zA<|yl<|yn<|y0<|yq<|yr<|yo zer<|yo zA<|yl<|yn<|y0<|yq<|yr<|yo zer<|yo zA<|yl<|yn<|y0<|yq<|yq<|yr<|yo zer<|yo zA<|yl<|yn<|y1<|ys<|yn<|y1<|yr<|yo zA<|yl<|yn<|yq<|yq<|yr<|yo zM<|yo zL<|yo zM<|yo znf<|yl<|yn<|y0<|ys<|yn<|yq<|yr<|yo zA<|yl<|yn<|yq<|yq<|yr<|yo zF<|yo (zB 0)<|yl<|yn<|yb<|yq<|yr<|yo zer<|yo zA<|yl<|yn<|y0<|yq<|yr<|yo zer<|yo zA<|yl<|yn<|y1<|yq<|yr<|yo zM<|yo (zi1 (j:=0))<|yo (zK 1 HW0.out) ?_;refine Q1 (Q4 (f:=86) rfl rfl (by decide) rfl rfl (fun w hw=>Qy a (by omega))) ?_;refine yo zM<|yo zX<|yo zX<|yo zF ?_;refine yS 0 ?_;refine yo zA<|yl<|yn<|yq<|yr<|yo zM<|yo (zi1 (j:=1))<|yo (zK 1 HW1.out) ?_;refine Q1 (Q4 (f:=86) rfl rfl (by decide) rfl rfl (fun w hw=>(Qy b (by omega)).mono (fun _ _ h=>by unfold J3 at h;rw[HYB.out] at h;exact h))) ?_;refine yo zM<|yo zX<|yo zX<|yo zF ?_;refine yS 0 ?_;refine yo zA<|yl<|yn<|yr<|yo zM<|yo zM<|yo zM<|yo zY<|yo zA<|yl<|yn<|yq<|yq<|yr ?_;have hk:=key ⟨{ QN name 3 with stop:=Z3 a,mx:=Z3 b },none,0,none,0,none,0,[],none,0,true,[]⟩ (V4 a) (fun u hu=>by cases hu) (by simp) (by have h:=HRR.out;simpa using h) (fun a ha=>by cases ha) (fun w ha=>⟨⟨Nat.le_refl _,Nat.le_refl _,Nat.le_refl _,Qj _ _,Qj _ _,Qj _ _⟩,Qj _ _,Nat.le_refl _⟩);exact Zd hk (.cons rfl rfl (.cons rfl rfl (.cons rfl rfl (.cons rfl rfl .nil)))) (fun w hw=>Wd.no2 hw)
   ·skip
    by_cases hm:U.length=1
    rotate_left
    ·have HNO:=Lib.hid (HRK.out.trans (Q5r (by omega) hm));refine yq<|yq<|yr<|yo zM<|yo zqf<|yl<|yn<|y0<|ye<|yn<|yq<|yr<|yo zM ?_;refine Q1 (QG (l:=2) rfl rfl (by decide) rfl rfl rfl (by omega)) ?_;refine yo zA<|yl<|yn<|yq<|yr<|yo zA<|yl<|yn<|yq<|yr<|yo zA<|yl<|yn<|yq<|yq<|yr<|yo zF<|yo (zB 0)<|yl<|yn<|yb<|yq<|yr<|yo zer<|yo zA<|yl<|yn<|y0<|yq<|yr<|yo zer<|yo zA<|yl<|yn<|y0<|yq<|yr<|yo zer<|yo zA<|yl<|yn<|y0<|yq<|yq<|yr<|yo zer<|yo zA<|yl<|yn<|y0<|yq<|yr<|yo zer<|yo zA<|yl<|yn<|y0<|yq<|yr<|yo zer<|yo zA<|yl<|yn<|y0<|yr<|yo zer<|yo zA<|yl<|yn<|y0<|yq<|yq<|yr<|yo zer<|yo zA<|yl<|yn<|y1<|ys<|yn<|y1<|yr<|yo zA<|yl<|yn<|yq<|yq<|yr<|yo zM<|yo zL<|yo zM<|yo znt<|yl<|yn<|y1<|yq<|yr<|yo (zD 0) ?_;refine yW 2 ?_;refine yo zA<|yo zA<|yl<|yn<|yt<|yc ?_;exact Z6 (by exact .inr rfl) rfl (RsV.blk 2 rfl rfl rfl) (.tmp rfl) (.tmp rfl) (fun w hw=>YI ⟨QN name 4,none,0,none,0,none,0,[],none,0,false,[]⟩ rfl rfl (HNO.out) hw.tl.tl.tl)
    obtain⟨a,hUe⟩:∃a,U=[a]:=by
     clear key
     match U,hm with
     |[a],_=>exact⟨a,rfl⟩
    subst hUe;have HW0:=Lib.hid (show (sv ws)[0+2+0]? =some (.string ⟨a.toArray⟩) from J5 (by have h:=congrArg (fun x=>x[0]?) HU.out;simp only[List.getElem?_drop] at h;exact h.symm));have hL0:a.length≤2000:=HUA.out a (by simp)
    have hAw2:Zj (some ⟨bw,0,none⟩) cw 2 1=some ⟨bw,0+2,none⟩:=by rw[hAw,if_neg (by omega)]
    have HRR:=Lib.hid (QfD (name:=name) a);rw[← HRK.out] at HRR;refine yq<|yq<|yr<|yo zM<|yo zqf<|yl<|yn<|y0<|ye<|yn<|yq<|yr<|yo zM ?_;(refine Q1 (QG (l:=2) rfl rfl (by decide) rfl rfl rfl (by omega)) ?_;rw[hAw2]);refine yo zA<|yl<|yn<|yq<|yr<|yo zA<|yl<|yn<|yq<|yr<|yo zA<|yl<|yn<|yq<|yq<|yr<|yo zF<|yo (zB 0)<|yl<|yn<|yb<|yq<|yr<|yo zer<|yo zA<|yl<|yn<|y0<|yq<|yr<|yo zer<|yo zA<|yl<|yn<|y0<|yq<|yr<|yo zer<|yo zA<|yl<|yn<|y0<|yq<|yq<|yr<|yo zer<|yo zA<|yl<|yn<|y0<|yq<|yr<|yo zer<|yo zA<|yl<|yn<|y0<|yq<|yr<|yo zer<|yo zA<|yl<|yn<|y0<|yr<|yo zer<|yo zA<|yl<|yn<|y0<|yq<|yq<|yr<|yo zer<|yo zA<|yl<|yn<|y1<|ys<|yn<|y1<|yr<|yo zA<|yl<|yn<|yq<|yq<|yr<|yo zM<|yo zL<|yo zM<|yo znf<|yl<|yn<|y0<|ys<|yn<|yq<|yr<|yo zA<|yl<|yn<|yq<|yq<|yr<|yo zF<|yo (zB 0)<|yl<|yn<|yb<|yq<|yr<|yo zer<|yo zA<|yl<|yn<|y0<|yq<|yr<|yo zer<|yo zA<|yl<|yn<|y0<|yq<|yr<|yo zer<|yo zA<|yl<|yn<|y1<|yr<|yo zM<|yo (zi1 (j:=0))<|yo (zK 1 HW0.out) ?_;refine Q1 (Q4 (f:=86) rfl rfl (by decide) rfl rfl (fun w hw=>Qy a (by omega))) ?_;refine yo zM<|yo zX<|yo zX<|yo zF ?_;refine yS 0 ?_;refine yo zA<|yl<|yn<|yq<|yq<|yr ?_;have hk:=key ⟨{ QN name 4 with size:=Z3 a },none,0,none,0,none,0,[],none,0,true,[]⟩ (V4 a) (fun u hu=>by cases hu) (by simp) (by have h:=HRR.out;simpa using h) (fun a ha=>by cases ha) (fun w ha=>⟨⟨Nat.le_refl _,Nat.le_refl _,Nat.le_refl _,Qj _ _,Qj _ _,Qj _ _⟩,Qj _ _,Nat.le_refl _⟩);exact Zd hk (.cons rfl rfl (.cons rfl rfl (.cons rfl rfl (.cons rfl rfl .nil)))) (fun w hw=>Wd.no2 hw)
   ·skip
    by_cases hm:U.length=2
    rotate_left
    ·have HNO:=Lib.hid (HRK.out.trans (Q2N (by omega) hm));refine yq<|yq<|yr<|yo zM<|yo zqf<|yl<|yn<|y0<|ye<|yn<|yq<|yr<|yo zM ?_;refine Q1 (QG (l:=2) rfl rfl (by decide) rfl rfl rfl (by omega)) ?_;refine yo zA<|yl<|yn<|yq<|yr<|yo zA<|yl<|yn<|yq<|yr<|yo zA<|yl<|yn<|yq<|yq<|yr<|yo zF<|yo (zB 0)<|yl<|yn<|yb<|yq<|yr<|yo zer<|yo zA<|yl<|yn<|y0<|yq<|yr<|yo zer<|yo zA<|yl<|yn<|y0<|yq<|yr<|yo zer<|yo zA<|yl<|yn<|y0<|yq<|yq<|yr<|yo zer<|yo zA<|yl<|yn<|y0<|yq<|yr<|yo zer<|yo zA<|yl<|yn<|y1<|ys<|yn<|y1<|yr<|yo zA<|yl<|yn<|yq<|yq<|yr<|yo zM<|yo zL<|yo zM<|yo znt<|yl<|yn<|y1<|yq<|yr<|yo (zD 0) ?_;refine yW 2 ?_;refine yo zA<|yo zA<|yl<|yn<|yt<|yc ?_;exact Z6 (by exact .inr rfl) rfl (RsV.blk 2 rfl rfl rfl) (.tmp rfl) (.tmp rfl) (fun w hw=>YI ⟨QN name 5,none,0,none,0,none,0,[],none,0,false,[]⟩ rfl rfl (HNO.out) hw.tl.tl.tl)
    obtain⟨a,b,hUe⟩:∃a b,U=[a,b]:=by
     clear key
     match U,hm with
     |[a,b],_=>exact⟨a,b,rfl⟩
    subst hUe;have HW0:=Lib.hid (show (sv ws)[0+2+0]? =some (.string ⟨a.toArray⟩) from J5 (by have h:=congrArg (fun x=>x[0]?) HU.out;simp only[List.getElem?_drop] at h;exact h.symm));have hL0:a.length≤2000:=HUA.out a (by simp);have HW1:=Lib.hid (show (sv ws)[0+2+1]? =some (.string ⟨b.toArray⟩) from J5 (by have h:=congrArg (fun x=>x[1]?) HU.out;simp only[List.getElem?_drop] at h;exact h.symm));have hL1:b.length≤2000:=HUA.out b (by simp)
    have hAw2:Zj (some ⟨bw,0,none⟩) cw 2 1=some ⟨bw,0+2,none⟩:=by rw[hAw,if_neg (by omega)]
    have HRR:=Lib.hid (QfM (name:=name) a b);rw[← HRK.out] at HRR;obtain⟨yb,hyb⟩:∃x,V4 b=x:=⟨_,rfl⟩;have HYB:=Lib.hid hyb;rw[hyb] at HRR;clear hyb
    cases yb with
    |false=>
     refine yq<|yq<|yr<|yo zM<|yo zqf<|yl<|yn<|y0<|ye<|yn<|yq<|yr<|yo zM ?_;(refine Q1 (QG (l:=2) rfl rfl (by decide) rfl rfl rfl (by omega)) ?_;rw[hAw2]);refine yo zA<|yl<|yn<|yq<|yr<|yo zA<|yl<|yn<|yq<|yr<|yo zA<|yl<|yn<|yq<|yq<|yr<|yo zF<|yo (zB 0)<|yl<|yn<|yb<|yq<|yr<|yo zer<|yo zA<|yl<|yn<|y0<|yq<|yr<|yo zer<|yo zA<|yl<|yn<|y0<|yq<|yr<|yo zer<|yo zA<|yl<|yn<|y0<|yq<|yq<|yr<|yo zer<|yo zA<|yl<|yn<|y0<|yq<|yr<|yo zer<|yo zA<|yl<|yn<|y1<|ys<|yn<|y1<|yr<|yo zA<|yl<|yn<|yq<|yq<|yr<|yo zM<|yo zL<|yo zM<|yo znf<|yl<|yn<|y0<|ys<|yn<|yq<|yr<|yo zA<|yl<|yn<|yq<|yq<|yr<|yo zF<|yo (zB 0)<|yl<|yn<|yb<|yq<|yr<|yo zer<|yo zA<|yl<|yn<|y0<|yq<|yr<|yo zer<|yo zA<|yl<|yn<|y0<|yq<|yr<|yo zer<|yo zA<|yl<|yn<|y0<|yq<|yr<|yo zer<|yo zA<|yl<|yn<|y1<|yq<|yr<|yo zM<|yo (zi1 (j:=0))<|yo (zK 1 HW0.out) ?_;refine Q1 (Q4 (f:=86) rfl rfl (by decide) rfl rfl (fun w hw=>Qy a (by omega))) ?_;refine yo zM<|yo zX<|yo zX<|yo zF ?_;refine yS 0 ?_;refine yo zA<|yl<|yn<|yq<|yr<|yo zM<|yo (zi1 (j:=1))<|yo (zK 1 HW1.out) ?_;refine Q1 (Q4 (f:=86) rfl rfl (by decide) rfl rfl (fun w hw=>(Qy b (by omega)).mono (fun _ _ h=>by unfold J3 at h;rw[HYB.out] at h;exact h))) ?_;refine yo zM<|yo zX<|yo zX<|yo zF ?_;refine yS 0 ?_;refine yo zA<|yl<|yn<|yr<|yo zM<|yo zM<|yo zS<|yo zN<|yo zA<|yl<|yn<|yq<|yq<|yr ?_;have hk:=key ⟨{ QN name 5 with stop:=Z3 a,size:=Z3 b },none,0,none,0,none,0,[],none,0,true,[]⟩ false (fun u hu=>by cases hu) (by simp) (by have h:=HRR.out;simpa using h) (fun a ha=>by cases ha) (fun w ha=>⟨⟨Nat.le_refl _,Nat.le_refl _,Nat.le_refl _,Qj _ _,Qj _ _,Qj _ _⟩,Qj _ _,Nat.le_refl _⟩);exact Zd hk (.cons rfl rfl (.cons rfl rfl (.cons rfl rfl (.cons rfl rfl .nil)))) (fun w hw=>Wd.no2 hw)
    |true=>
     refine yq<|yq<|yr<|yo zM<|yo zqf<|yl<|yn<|y0<|ye<|yn<|yq<|yr<|yo zM ?_;(refine Q1 (QG (l:=2) rfl rfl (by decide) rfl rfl rfl (by omega)) ?_;rw[hAw2]);refine yo zA<|yl<|yn<|yq<|yr<|yo zA<|yl<|yn<|yq<|yr<|yo zA<|yl<|yn<|yq<|yq<|yr<|yo zF<|yo (zB 0)<|yl<|yn<|yb<|yq<|yr<|yo zer<|yo zA<|yl<|yn<|y0<|yq<|yr<|yo zer<|yo zA<|yl<|yn<|y0<|yq<|yr<|yo zer<|yo zA<|yl<|yn<|y0<|yq<|yq<|yr<|yo zer<|yo zA<|yl<|yn<|y0<|yq<|yr<|yo zer<|yo zA<|yl<|yn<|y1<|ys<|yn<|y1<|yr<|yo zA<|yl<|yn<|yq<|yq<|yr<|yo zM<|yo zL<|yo zM<|yo znf<|yl<|yn<|y0<|ys<|yn<|yq<|yr<|yo zA<|yl<|yn<|yq<|yq<|yr<|yo zF<|yo (zB 0)<|yl<|yn<|yb<|yq<|yr<|yo zer<|yo zA<|yl<|yn<|y0<|yq<|yr<|yo zer<|yo zA<|yl<|yn<|y0<|yq<|yr<|yo zer<|yo zA<|yl<|yn<|y0<|yq<|yr<|yo zer<|yo zA<|yl<|yn<|y1<|yq<|yr<|yo zM<|yo (zi1 (j:=0))<|yo (zK 1 HW0.out) ?_;refine Q1 (Q4 (f:=86) rfl rfl (by decide) rfl rfl (fun w hw=>Qy a (by omega))) ?_;refine yo zM<|yo zX<|yo zX<|yo zF ?_;refine yS 0 ?_;refine yo zA<|yl<|yn<|yq<|yr<|yo zM<|yo (zi1 (j:=1))<|yo (zK 1 HW1.out) ?_;refine Q1 (Q4 (f:=86) rfl rfl (by decide) rfl rfl (fun w hw=>(Qy b (by omega)).mono (fun _ _ h=>by unfold J3 at h;rw[HYB.out] at h;exact h))) ?_;refine yo zM<|yo zX<|yo zX<|yo zF ?_;refine yS 0 ?_;refine yo zA<|yl<|yn<|yr<|yo zM<|yo zM<|yo zM<|yo zY<|yo zA<|yl<|yn<|yq<|yq<|yr ?_;have hk:=key ⟨{ QN name 5 with stop:=Z3 a,size:=Z3 b },none,0,none,0,none,0,[],none,0,true,[]⟩ (V4 a) (fun u hu=>by cases hu) (by simp) (by have h:=HRR.out;simpa using h) (fun a ha=>by cases ha) (fun w ha=>⟨⟨Nat.le_refl _,Nat.le_refl _,Nat.le_refl _,Qj _ _,Qj _ _,Qj _ _⟩,Qj _ _,Nat.le_refl _⟩);exact Zd hk (.cons rfl rfl (.cons rfl rfl (.cons rfl rfl (.cons rfl rfl .nil)))) (fun w hw=>Wd.no2 hw)
   ·skip
    by_cases hm:U.length=2
    rotate_left
    ·have HNO:=Lib.hid (HRK.out.trans (Q2N (by omega) hm));refine yq<|yq<|yr<|yo zM<|yo zqf<|yl<|yn<|y0<|ye<|yn<|yq<|yr<|yo zM ?_;refine Q1 (QG (l:=2) rfl rfl (by decide) rfl rfl rfl (by omega)) ?_;refine yo zA<|yl<|yn<|yq<|yr<|yo zA<|yl<|yn<|yq<|yr<|yo zA<|yl<|yn<|yq<|yq<|yr<|yo zF<|yo (zB 0)<|yl<|yn<|yb<|yq<|yr<|yo zer<|yo zA<|yl<|yn<|y0<|yq<|yr<|yo zer<|yo zA<|yl<|yn<|y0<|yq<|yr<|yo zer<|yo zA<|yl<|yn<|y0<|yq<|yq<|yr<|yo zer<|yo zA<|yl<|yn<|y0<|yq<|yr<|yo zer<|yo zA<|yl<|yn<|y0<|yq<|yr<|yo zer<|yo zA<|yl<|yn<|y1<|ys<|yn<|y1<|yr<|yo zA<|yl<|yn<|yq<|yq<|yr<|yo zM<|yo zL<|yo zM<|yo znt<|yl<|yn<|y1<|yq<|yr<|yo (zD 0) ?_;refine yW 2 ?_;refine yo zA<|yo zA<|yl<|yn<|yt<|yc ?_;exact Z6 (by exact .inr rfl) rfl (RsV.blk 2 rfl rfl rfl) (.tmp rfl) (.tmp rfl) (fun w hw=>YI ⟨QN name 6,none,0,none,0,none,0,[],none,0,false,[]⟩ rfl rfl (HNO.out) hw.tl.tl.tl)
    obtain⟨a,b,hUe⟩:∃a b,U=[a,b]:=by
     clear key
     match U,hm with
     |[a,b],_=>exact⟨a,b,rfl⟩
    subst hUe;have HW0:=Lib.hid (show (sv ws)[0+2+0]? =some (.string ⟨a.toArray⟩) from J5 (by have h:=congrArg (fun x=>x[0]?) HU.out;simp only[List.getElem?_drop] at h;exact h.symm));have hL0:a.length≤2000:=HUA.out a (by simp);have HW1:=Lib.hid (show (sv ws)[0+2+1]? =some (.string ⟨b.toArray⟩) from J5 (by have h:=congrArg (fun x=>x[1]?) HU.out;simp only[List.getElem?_drop] at h;exact h.symm));have hL1:b.length≤2000:=HUA.out b (by simp)
    have hAw2:Zj (some ⟨bw,0,none⟩) cw 2 1=some ⟨bw,0+2,none⟩:=by rw[hAw,if_neg (by omega)]
    have HRR:=Lib.hid (QfF (name:=name) a b);rw[← HRK.out] at HRR;refine yq<|yq<|yr<|yo zM<|yo zqf<|yl<|yn<|y0<|ye<|yn<|yq<|yr<|yo zM ?_;(refine Q1 (QG (l:=2) rfl rfl (by decide) rfl rfl rfl (by omega)) ?_;rw[hAw2]);refine yo zA<|yl<|yn<|yq<|yr<|yo zA<|yl<|yn<|yq<|yr<|yo zA<|yl<|yn<|yq<|yq<|yr<|yo zF<|yo (zB 0)<|yl<|yn<|yb<|yq<|yr<|yo zer<|yo zA<|yl<|yn<|y0<|yq<|yr<|yo zer<|yo zA<|yl<|yn<|y0<|yq<|yr<|yo zer<|yo zA<|yl<|yn<|y0<|yq<|yq<|yr<|yo zer<|yo zA<|yl<|yn<|y0<|yq<|yr<|yo zer<|yo zA<|yl<|yn<|y0<|yq<|yr<|yo zer<|yo zA<|yl<|yn<|y1<|ys<|yn<|y1<|yr<|yo zA<|yl<|yn<|yq<|yq<|yr<|yo zM<|yo zL<|yo zM<|yo znf<|yl<|yn<|y0<|ys<|yn<|yq<|yr<|yo zA<|yl<|yn<|yq<|yq<|yr<|yo zF<|yo (zB 0)<|yl<|yn<|yb<|yq<|yr<|yo zer<|yo zA<|yl<|yn<|y0<|yq<|yr<|yo zer<|yo zA<|yl<|yn<|y0<|yq<|yr<|yo zer<|yo zA<|yl<|yn<|y0<|yq<|yr<|yo zer<|yo zA<|yl<|yn<|y0<|yq<|yq<|yr<|yo zer<|yo zA<|yl<|yn<|y1<|ys<|yn<|y1<|yr<|yo zM<|yo zA<|yl<|yn<|yq<|yq<|yr ?_;rw[← hul];have hk:=key ⟨QN name 6,none,0,none,0,none,0,[a,b],(some ⟨bw,0+2,none⟩),(cw - 2),true,[.rd (some ⟨bw,0,none⟩) ws.length 1 (sv ws)]⟩ true (fun u hu=>HUA.out u hu) (by simp) HRR.out (Q6H rfl) (fun w ha=>⟨⟨Nat.le_refl _,Nat.le_refl _,Nat.le_refl _,Qj _ _,Qj _ _,Qj _ _⟩,(by have h:=Q2L (c:=cw) (ha _ (List.mem_singleton.2 rfl)) hq2 hcw;rw[← HU.out,hAw2] at h;exact h),by show _≤_;simp only[List.length_cons,List.length_nil];omega⟩);exact Zd hk (.cons rfl rfl (.cons rfl rfl (.cons rfl rfl (.cons rfl rfl .nil)))) (fun w hw=>Wd.sw12 (Wd.rdAt1 hw))
   ·skip
    have hmle:U.length≤2001:=by omega
    refine yq<|yq<|yr<|yo zM<|yo zqf<|yl<|yn<|y0<|ye<|yn<|yq<|yr<|yo zM ?_;refine Q1 (QG (l:=2) rfl rfl (by decide) rfl rfl rfl (by omega)) ?_;refine yo zA<|yl<|yn<|yq<|yr<|yo zA<|yl<|yn<|yq<|yr<|yo zA<|yl<|yn<|yq<|yq<|yr<|yo zF<|yo (zB 0)<|yl<|yn<|yb<|yq<|yr<|yo zer<|yo zA<|yl<|yn<|y0<|yq<|yr<|yo zer<|yo zA<|yl<|yn<|y0<|yq<|yr<|yo zer<|yo zA<|yl<|yn<|y0<|yq<|yq<|yr<|yo zer<|yo zA<|yl<|yn<|y0<|yq<|yr<|yo zer<|yo zA<|yl<|yn<|y0<|yq<|yr<|yo zer<|yo zA<|yl<|yn<|y0<|yr<|yo zer<|yo zA<|yl<|yn<|y0<|yq<|yq<|yr<|yo zer<|yo zA<|yl<|yn<|y0<|yr<|yo zer<|yo zA<|yl<|yn<|y0<|yr<|yo zM<|yo zL<|yo zA<|yl<|yn<|yq<|yq<|yr<|yo zM<|yo zL<|yo zM<|yo znf<|yl<|yn<|y0<|ys<|yn<|yq<|yr<|yo zA<|yl<|yn<|yq<|yq<|yr<|yo zF<|yo (zB 0)<|yl<|yn<|yb<|yq<|yr<|yo zer<|yo zA<|yl<|yn<|y0<|yq<|yr<|yo zer<|yo zA<|yl<|yn<|y0<|yq<|yr<|yo zer<|yo zA<|yl<|yn<|y0<|yq<|yr<|yo zer<|yo zA<|yl<|yn<|y0<|yq<|yq<|yr<|yo zer<|yo zA<|yl<|yn<|y0<|yr<|yo zer<|yo zA<|yl<|yn<|y0<|yq<|yr<|yo zer<|yo zA<|yl<|yn<|y0<|yq<|yr<|yo zer<|yo zA<|yl<|yn<|y1<|yq<|yr<|yo zA<|yl<|yn<|yb ?_;refine JI 9 1 ?_;refine JI 9 1 ?_;refine ZF (ι:=K7) (fun y=>y.i≤U.length∧∀j u,j<y.i→U[j]? =some u→Q0j u=true) (fun y=>U.length - y.i) (fun y=>[(2,.pointer (some ⟨b2,0,none⟩)),(3,.slice none 0 0),(4,.bool false),(5,.slice (Zj (some ⟨bw,0,none⟩) cw 2 1) (ws.length - 2) (cw - 2)),(6,.pointer (some ⟨b6,0,none⟩)),(7,.slice y.Ar y.i y.cr),(11,.bool true),(12,.int .i64 (y.i:Int))]) (fun y=>.row y.Ar y.i y.cr 9 1 (sv ((U.take y.i).map Vd))::.row y.An y.i y.cn 9 1 (sv ((U.take y.i).map Vx))::.blk b6 (.cells (ruC (QN name 7) (.slice none 0 0) (.slice y.An y.i y.cn) (.slice none 0 0)).toArray 52 (0,0))::.row (some ⟨bw,0,none⟩) ws.length cw 9 1 (sv ws)::.blk b2 (.cells (RlY.cells Vr).toArray 52 (0,0))::O) ⟨0,none,0,none,0⟩ ⟨Nat.zero_le _,fun j u hj=>absurd hj (Nat.not_lt_zero _)⟩ (.cons rfl rfl (.cons rfl rfl (.cons rfl rfl (.cons rfl rfl (.cons rfl rfl (.cons rfl rfl (.cons rfl rfl (.cons rfl rfl .nil)))))))) (fun w hw=>hw) ?_
    rintro⟨i,An,cn,Ar,cr⟩ ⟨hi,hshp⟩
    replace hi:i≤U.length:=hi
    have HSHP:=Lib.hid (show ∀j u,j<i→U[j]? =some u→Q0j u=true from hshp);clear hshp
    show sE _ _ _ _ _ [(2,.pointer (some ⟨b2,0,none⟩)),(3,.slice none 0 0),(4,.bool false),(5,.slice (Zj (some ⟨bw,0,none⟩) cw 2 1) (ws.length - 2) (cw - 2)),(6,.pointer (some ⟨b6,0,none⟩)),(7,.slice Ar i cr),(11,.bool true),(12,.int .i64 (i:Int))] (.row Ar i cr 9 1 (sv ((U.take i).map Vd))::.row An i cn 9 1 (sv ((U.take i).map Vx))::.blk b6 (.cells (ruC (QN name 7) (.slice none 0 0) (.slice An i cn) (.slice none 0 0)).toArray 52 (0,0))::.row (some ⟨bw,0,none⟩) ws.length cw 9 1 (sv ws)::.blk b2 (.cells (RlY.cells Vr).toArray 52 (0,0))::O) _
    by_cases hiu:i<U.length
    ·obtain⟨u,hu⟩:∃u,U[i]? =some u:=⟨_,List.getElem?_eq_getElem hiu⟩
     have hiw:i<ws.length - 2:=by omega
     have hul2:u.length≤2000:=HUA.out u (List.mem_of_getElem? hu);have hcu:(sv ws)[0+2+i]? =some (.string ⟨u.toArray⟩):=J5 (by have h:=congrArg (fun x=>x[i]?) HU.out;simp only[List.getElem?_drop] at h;rw[hu] at h;rw[Nat.zero_add];exact h.symm);have HCU:=Lib.hid hcu;have HUI:=Lib.hid hu
     have hAw2:Zj (some ⟨bw,0,none⟩) cw 2 1=some ⟨bw,0+2,none⟩:=by rw[hAw,if_neg (by omega)]
     rw[hAw2];have HAW2:=Lib.hid hAw2;clear hu hcu hAw2;obtain⟨P,hP⟩:∃P,spl 58 u=P:=⟨_,rfl⟩
     have hcut:∀(O:List Qg) (w:World),Wd [] W O w→Calls Tryz.prog 45 #[.string ⟨u.toArray⟩,.int .u8 58] w (QW (fun y:Option Addr×Nat=>.slice y.1 P.length y.2) (fun _=>True) [] W (fun y=>.row y.1 P.length y.2 9 1 (sv P)::O)):=fun O w hw=>by
      have h:=Q5F (s:=u) (c:=58) (by omega) hw;rw[hP] at h;exact h
     have hPm:∀x∈P,x.length≤2000:=fun x hx=>by
      have h:=(YK 58 u).2 x (by rw[hP];exact hx)
      omega
     have HCT:=Lib.hid hcut;have HPM:=Lib.hid hPm;have HP:=Lib.hid hP;clear hcut hPm hP
     by_cases hp2:P.length=2
     rotate_left
     ·have HNO:=Lib.hid (HRK.out.trans (Qc6 HUI.out (Qd3 (by rw[HP.out];exact hp2))));refine yq<|yq<|yr<|yo zM<|yo zM<|yo zL<|yo zlt<|yl<|yn<|y1<|ys<|yn<|yq<|yb<|yq<|yr<|yo zM<|yo zM<|yo (zi1 (hj:=hiw))<|yo (zK 3 HCU.out) ?_;(refine Qa (Qx _ _ _ (f:=45) rfl rfl rfl (fun w hw=>HCT.out _ w hw)) rfl (by decide) (fun yp _=>?_);obtain⟨Ap,cp⟩:=yp);refine yo zA<|yl<|yn<|yq<|yq<|yr<|yo zM<|yo zL<|yo znt<|yo zM<|yo zS<|yo zS<|yo zS<|yo zS<|yo zS<|yo zS<|yo zS<|yo zS<|yo zS<|yo zS<|yo zS<|yo zY<|yl<|yn<|y1<|yq<|yr<|yo (zD 3) ?_;refine yW 5 ?_;refine yo zA<|yo zA<|yl<|yn<|yt<|yc<|yk<|yc<|yc<|yk<|yk<|yc ?_;refine Z6 (by exact .inr rfl) rfl (RsV.blk 5 rfl rfl rfl) (.tmp rfl) (.tmp rfl) (fun w hw=>?_);have h:=YI (l:=l) ⟨{ QN name 7 with names:=(U.take i).map Vx },none,0,An,cn,none,0,[],none,0,false,[]⟩ rfl rfl (HNO.out) (hw.tl.tl.tl.tl.tl.tl)
      have hlen7:((U.take i).map Vx).length=i:=by rw[List.length_map,List.length_take];omega
      unfold RlY.v RlY.cells at h
      simp only[hlen7] at h
      exact h
     obtain⟨p,q,rfl⟩:∃p q,P=[p,q]:=by
      match P,hp2 with
      |[p,q],_=>exact⟨p,q,rfl⟩
     obtain⟨hsB,hsN,hsR⟩:=QcX HP.out
     have hpl:p.length≤1048576:=by have:=HPM.out p (by simp);omega
     have hcp0:(sv [p,q])[0+0]? =some (.string ⟨p.toArray⟩):=rfl;have HCP0:=Lib.hid hcp0;clear hcp0
     by_cases hdash:p=[45]
     ·have htest:((⟨p.toArray⟩:ByteArray).data.toList==(⟨#[45]⟩:ByteArray).data.toList)=true:=beq_iff_eq.2 hdash;have htest2:((⟨p.toArray⟩:ByteArray).data.toList != (⟨#[45]⟩:ByteArray).data.toList)=false:=bne_eq_false_iff_eq.2 hdash;have HSB:=Lib.hid (show Q0j u=true by rw[hsB,hdash];rfl);have HSN:=Lib.hid (show Vx u=[] by rw[hsN,hdash];rfl);have HSR:=Lib.hid hsR;have HPN:=Lib.hid (show ([.string ⟨#[]⟩,.string ⟨q.toArray⟩]:List Value)[0+0]? =some (.string ⟨(([]:List UInt8)).toArray⟩) from rfl);have HPQ:=Lib.hid (show ([.string ⟨#[]⟩,.string ⟨q.toArray⟩]:List Value)[0+1]? =some (.string ⟨q.toArray⟩) from rfl);clear hdash hsB hsN hsR;refine yq<|yq<|yr<|yo zM<|yo zM<|yo zL<|yo zlt<|yl<|yn<|y1<|ys<|yn<|yq<|yb<|yq<|yr<|yo zM<|yo zM<|yo (zi1 (hj:=hiw))<|yo (zK 3 HCU.out) ?_;(refine Qa (Qx _ _ _ (f:=45) rfl rfl rfl (fun w hw=>HCT.out _ w hw)) rfl (by decide) (fun yp _=>?_);obtain⟨Ap,cp⟩:=yp;refine Q2M 0 rfl (by simp) (fun bp ep=>?_);obtain rfl:Ap=some ⟨bp,0,none⟩:=ep);refine yo zA<|yl<|yn<|yq<|yq<|yr<|yo zM<|yo zL<|yo znf<|yo zM<|yo zM<|yo (zi1 (j:=0) (hj:=(by simp)))<|yo (zK 0 HCP0.out) ?_;refine Q1 (Jy rfl rfl (by decide) rfl rfl rfl (by assumption)) ?_;refine yo zM<|yo zS<|yo zS<|yo zS<|yo zS<|yo zS<|yo zN<|yo zN<|yl<|yn<|y0<|ys<|yn<|yq<|yq<|yr<|yo zM<|yo (zi1 (j:=0) (hj:=(by simp)))<|yo (zK 0 HCP0.out)<|yo zsa<|yl<|yn<|y1<|yr<|yo zM<|yo (zi1 (j:=0) (hj:=(by simp))) ?_;refine Qq (QI 0 rfl rfl rfl rfl rfl rfl (by simp)) rfl (fun _ _=>?_);refine yl<|yn<|yq ?_;refine Zs [.row (some ⟨bp,0,none⟩) 2 cp 9 1 ([.string ⟨#[]⟩,.string ⟨q.toArray⟩]),.blk b6 (.cells (ruC (QN name 7) (.slice none 0 0) (.slice An i cn) (.slice none 0 0)).toArray 52 (0,0))] [8] (by kernel_rfl) ?_;refine Qk 0 rfl (by kernel_rfl) (Q7.sel [0,3] (by decide) rfl) zF ?_;refine Qk 1 rfl (by kernel_rfl) (Q7.sel [0,3] (by decide) rfl) (zB 1) ?_;refine Qk 2 rfl (by kernel_rfl) (Q7.sel [0,3] (by decide) rfl) zM ?_;refine Qk 3 rfl (by kernel_rfl) (Q7.sel [0,3] (by decide) rfl) (zi1 (j:=0) (hj:=(by simp))) ?_;refine Qk 4 rfl (by kernel_rfl) (Q7.sel [0,3] (by decide) rfl) (zK 0 HPN.out) ?_;refine ZR 5 (by kernel_rfl) rfl rfl (Qz (size:=1) rfl rfl rfl rfl rfl (by decide)) (fun _=>.inr (Q7.sel [1,4] (by decide) rfl)) rfl (by decide) (fun bs1 _=>?_);refine ZR 6 (by kernel_rfl) rfl rfl (QC 3 rfl rfl rfl rfl rfl (fun w hw=>hw.rd_blk 0 rfl rfl) (by simp [Value.oneCell']) (by omega)) (fun _=>.inr (Q7.sel [1,4] (by decide) rfl)) rfl (by decide) (fun z1 _=>?_);refine Qk 7 rfl (by kernel_rfl) (Q7.sel [1,4] (by decide) rfl) zF ?_;refine Xw 8 (by kernel_rfl) rfl rfl (Zp 4 rfl rfl rfl rfl rfl rfl rfl) (fun _=>.inl (by decide)) rfl (fun _ _=>?_);refine Zc ?_ (by kernel_rfl);refine yn<|yr<|yo zM<|yo zM<|yo (zi1 (j:=1) (hj:=(by simp)))<|yo (zK 1 HPQ.out) ?_;refine Qa (Qz (size:=1) rfl rfl rfl rfl rfl (by decide)) rfl (by decide) (fun bs2 _=>?_);refine Qa (QC 3 rfl rfl rfl rfl rfl (fun w hw=>hw.rd_blk 0 rfl rfl) (by simp [Value.oneCell']) (by omega)) rfl (by decide) (fun z2 _=>?_);refine yo zA<|yl<|yn<|yr<|yo zM<|yo zP<|yo zA<|yl ?_;refine QH ⟨i+1,z1.1,z1.2,z2.1,z2.2⟩ ⟨hiu,fun j v hj hv=>?_⟩ (by show U.length - (i+1)<U.length - i;omega) (.cons rfl rfl (.cons rfl rfl (.cons rfl rfl (.cons rfl rfl (.cons rfl rfl (.cons rfl rfl (.cons rfl rfl (.cons rfl (by go_num) .nil)))))))) (fun w hw=>?_)
      ·rcases (show j<i∨j=i by have hj':j<i+1:=hj;omega) with h|rfl
       ·exact HSHP.out j v h hv
       ·rw[HUI.out] at hv
        cases hv
        exact HSB.out
      ·show Wd [] W (.row z2.1 (i+1) z2.2 9 1 (sv ((U.take (i+1)).map Vd))::.row z1.1 (i+1) z1.2 9 1 (sv ((U.take (i+1)).map Vx))::.blk b6 (.cells (ruC (QN name 7) (.slice none 0 0) (.slice z1.1 (i+1) z1.2) (.slice none 0 0)).toArray 52 (0,0))::.row (some ⟨bw,0,none⟩) ws.length cw 9 1 (sv ws)::.blk b2 (.cells (RlY.cells Vr).toArray 52 (0,0))::O) w
       rw[List.take_add_one,HUI.out,List.map_append,List.map_append,sv,sv,List.map_append,List.map_append]
       show Wd [] W (.row z2.1 (i+1) z2.2 9 1 (sv ((U.take i).map Vd)++[.string ⟨(Vd u).toArray⟩])::.row z1.1 (i+1) z1.2 9 1 (sv ((U.take i).map Vx)++[.string ⟨(Vx u).toArray⟩])::_) w
       rw[HSN.out,HSR.out];exact hw.tl.tl.tl
     ·have htest:((⟨p.toArray⟩:ByteArray).data.toList==(⟨#[45]⟩:ByteArray).data.toList)=false:=beq_eq_false_iff_ne.2 hdash;have htest2:((⟨p.toArray⟩:ByteArray).data.toList != (⟨#[45]⟩:ByteArray).data.toList)=true:=bne_iff_ne.2 hdash;have hpd:(p==[45])=false:=beq_eq_false_iff_ne.2 hdash;obtain⟨pn,hpn⟩:∃x,Qi p=x:=⟨_,rfl⟩;have HN1:=Lib.hid hpn;rw[hpd,hpn,Bool.false_or] at hsB;rw[hpd] at hsN;have HSB:=Lib.hid hsB;have HSN:=Lib.hid (show Vx u=p from hsN);have HSR:=Lib.hid hsR;have HPN:=HCP0;have HPQ:=Lib.hid (show (sv [p,q])[0+1]? =some (.string ⟨q.toArray⟩) from rfl);clear hdash hsB hsN hsR hpn hpd
      cases pn with
      |false=>
       have HNO:=Lib.hid (HRK.out.trans (Qc6 HUI.out HSB.out));refine yq<|yq<|yr<|yo zM<|yo zM<|yo zL<|yo zlt<|yl<|yn<|y1<|ys<|yn<|yq<|yb<|yq<|yr<|yo zM<|yo zM<|yo (zi1 (hj:=hiw))<|yo (zK 3 HCU.out) ?_;(refine Qa (Qx _ _ _ (f:=45) rfl rfl rfl (fun w hw=>HCT.out _ w hw)) rfl (by decide) (fun yp _=>?_);obtain⟨Ap,cp⟩:=yp;refine Q2M 0 rfl (by simp) (fun bp ep=>?_);obtain rfl:Ap=some ⟨bp,0,none⟩:=ep);refine yo zA<|yl<|yn<|yq<|yq<|yr<|yo zM<|yo zL<|yo znf<|yo zM<|yo zM<|yo (zi1 (j:=0) (hj:=(by simp)))<|yo (zK 0 HCP0.out) ?_;refine Q1 (Jy rfl rfl (by decide) rfl rfl rfl (by assumption)) ?_;refine yo zM<|yo zM<|yo (zi1 (j:=0) (hj:=(by simp)))<|yo (zK 0 HCP0.out) ?_;(refine Q1 (Q4 (f:=48) rfl rfl (by decide) rfl rfl (fun w hw=>(ZA p hpl w).mono (fun _ _ h=>by rw[HN1.out] at h;exact h))) ?_);refine yo zO<|yo zY<|yo zN<|yl<|yn<|y1<|yq<|yr<|yo (zD 3) ?_;refine yW 5 ?_;refine yo zA<|yo zA<|yl<|yn<|yt<|yc<|yk<|yc<|yc<|yk<|yk<|yc ?_;refine Z6 (by exact .inr rfl) rfl (RsV.blk 5 rfl rfl rfl) (.tmp rfl) (.tmp rfl) (fun w hw=>?_);have h:=YI (l:=l) ⟨{ QN name 7 with names:=(U.take i).map Vx },none,0,An,cn,none,0,[],none,0,false,[]⟩ rfl rfl (HNO.out) (hw.tl.tl.tl.tl.tl.tl)
       have hlen7:((U.take i).map Vx).length=i:=by rw[List.length_map,List.length_take];omega
       unfold RlY.v RlY.cells at h
       simp only[hlen7] at h
       exact h
      |true=>
       refine yq<|yq<|yr<|yo zM<|yo zM<|yo zL<|yo zlt<|yl<|yn<|y1<|ys<|yn<|yq<|yb<|yq<|yr<|yo zM<|yo zM<|yo (zi1 (hj:=hiw))<|yo (zK 3 HCU.out) ?_;(refine Qa (Qx _ _ _ (f:=45) rfl rfl rfl (fun w hw=>HCT.out _ w hw)) rfl (by decide) (fun yp _=>?_);obtain⟨Ap,cp⟩:=yp;refine Q2M 0 rfl (by simp) (fun bp ep=>?_);obtain rfl:Ap=some ⟨bp,0,none⟩:=ep);refine yo zA<|yl<|yn<|yq<|yq<|yr<|yo zM<|yo zL<|yo znf<|yo zM<|yo zM<|yo (zi1 (j:=0) (hj:=(by simp)))<|yo (zK 0 HCP0.out) ?_;refine Q1 (Jy rfl rfl (by decide) rfl rfl rfl (by assumption)) ?_;refine yo zM<|yo zM<|yo (zi1 (j:=0) (hj:=(by simp)))<|yo (zK 0 HCP0.out) ?_;(refine Q1 (Q4 (f:=48) rfl rfl (by decide) rfl rfl (fun w hw=>(ZA p hpl w).mono (fun _ _ h=>by rw[HN1.out] at h;exact h))) ?_);refine yo zO<|yo zY<|yo zN<|yl<|yn<|y0<|ys<|yn<|yq<|yq<|yr<|yo zM<|yo (zi1 (j:=0) (hj:=(by simp)))<|yo (zK 0 HCP0.out)<|yo zsa<|yl<|yn<|y0<|ys<|yn<|yq ?_;refine Zs [.row (some ⟨bp,0,none⟩) 2 cp 9 1 (sv [p,q]),.blk b6 (.cells (ruC (QN name 7) (.slice none 0 0) (.slice An i cn) (.slice none 0 0)).toArray 52 (0,0))] [8] (by kernel_rfl) ?_;refine Qk 0 rfl (by kernel_rfl) (Q7.sel [0,3] (by decide) rfl) zF ?_;refine Qk 1 rfl (by kernel_rfl) (Q7.sel [0,3] (by decide) rfl) (zB 1) ?_;refine Qk 2 rfl (by kernel_rfl) (Q7.sel [0,3] (by decide) rfl) zM ?_;refine Qk 3 rfl (by kernel_rfl) (Q7.sel [0,3] (by decide) rfl) (zi1 (j:=0) (hj:=(by simp))) ?_;refine Qk 4 rfl (by kernel_rfl) (Q7.sel [0,3] (by decide) rfl) (zK 0 HPN.out) ?_;refine ZR 5 (by kernel_rfl) rfl rfl (Qz (size:=1) rfl rfl rfl rfl rfl (by decide)) (fun _=>.inr (Q7.sel [1,4] (by decide) rfl)) rfl (by decide) (fun bs1 _=>?_);refine ZR 6 (by kernel_rfl) rfl rfl (QC 3 rfl rfl rfl rfl rfl (fun w hw=>hw.rd_blk 0 rfl rfl) (by simp [Value.oneCell']) (by omega)) (fun _=>.inr (Q7.sel [1,4] (by decide) rfl)) rfl (by decide) (fun z1 _=>?_);refine Qk 7 rfl (by kernel_rfl) (Q7.sel [1,4] (by decide) rfl) zF ?_;refine Xw 8 (by kernel_rfl) rfl rfl (Zp 4 rfl rfl rfl rfl rfl rfl rfl) (fun _=>.inl (by decide)) rfl (fun _ _=>?_);refine Zc ?_ (by kernel_rfl);refine yn<|yr<|yo zM<|yo zM<|yo (zi1 (j:=1) (hj:=(by simp)))<|yo (zK 1 HPQ.out) ?_;refine Qa (Qz (size:=1) rfl rfl rfl rfl rfl (by decide)) rfl (by decide) (fun bs2 _=>?_);refine Qa (QC 3 rfl rfl rfl rfl rfl (fun w hw=>hw.rd_blk 0 rfl rfl) (by simp [Value.oneCell']) (by omega)) rfl (by decide) (fun z2 _=>?_);refine yo zA<|yl<|yn<|yr<|yo zM<|yo zP<|yo zA<|yl ?_;refine QH ⟨i+1,z1.1,z1.2,z2.1,z2.2⟩ ⟨hiu,fun j v hj hv=>?_⟩ (by show U.length - (i+1)<U.length - i;omega) (.cons rfl rfl (.cons rfl rfl (.cons rfl rfl (.cons rfl rfl (.cons rfl rfl (.cons rfl rfl (.cons rfl rfl (.cons rfl (by go_num) .nil)))))))) (fun w hw=>?_)
       ·rcases (show j<i∨j=i by have hj':j<i+1:=hj;omega) with h|rfl
        ·exact HSHP.out j v h hv
        ·rw[HUI.out] at hv
         cases hv
         exact HSB.out
       ·show Wd [] W (.row z2.1 (i+1) z2.2 9 1 (sv ((U.take (i+1)).map Vd))::.row z1.1 (i+1) z1.2 9 1 (sv ((U.take (i+1)).map Vx))::.blk b6 (.cells (ruC (QN name 7) (.slice none 0 0) (.slice z1.1 (i+1) z1.2) (.slice none 0 0)).toArray 52 (0,0))::.row (some ⟨bw,0,none⟩) ws.length cw 9 1 (sv ws)::.blk b2 (.cells (RlY.cells Vr).toArray 52 (0,0))::O) w
        rw[List.take_add_one,HUI.out,List.map_append,List.map_append,sv,sv,List.map_append,List.map_append]
        show Wd [] W (.row z2.1 (i+1) z2.2 9 1 (sv ((U.take i).map Vd)++[.string ⟨(Vd u).toArray⟩])::.row z1.1 (i+1) z1.2 9 1 (sv ((U.take i).map Vx)++[.string ⟨(Vx u).toArray⟩])::_) w
        rw[HSN.out,HSR.out];exact hw.tl.tl.tl
    ·obtain rfl:i=U.length:=by omega
     have HRR:=Lib.hid (QfP (name:=name) (U:=U) (fun j u hj=>HSHP.out j u (List.getElem?_eq_some_iff.1 hj).1 hj));rw[← HRK.out] at HRR;rw[List.take_length];refine yq<|yq<|yr<|yo zM<|yo zM<|yo zL<|yo zlf<|yl<|yn<|y0<|ye<|yn<|yq<|yq<|yr ?_;refine Q5z (fun w hw=>(XN (hw.own 0 _ rfl) (by decide)).2) (fun hcr=>?_);refine Q5z (fun w hw=>(XN (hw.own 1 _ rfl) (by decide)).2) (fun hcn=>?_);have hlr:(U.map Vd).length=U.length:=List.length_map ..;have hln:(U.map Vx).length=U.length:=List.length_map ..;have hk:=key ⟨{ QN name 7 with names:=U.map Vx },none,0,An,cn,none,0,U.map Vd,Ar,cr,true,[.rd Ar (U.map Vd).length 1 (sv (U.map Vd)),.rd An (U.map Vx).length 1 (sv (U.map Vx))]⟩ true (fun u hu=>?_) (by show (U.map Vd).length≤2001;omega) HRR.out (QfH rfl rfl) (fun w ha=>⟨⟨Nat.le_refl _,by show (U.map Vx).length≤cn;omega,Nat.le_refl _,Qj _ _,ha _ (List.mem_cons_of_mem _ (List.mem_singleton.2 rfl)),Qj _ _⟩,ha _ (List.mem_cons_self ..),by show (U.map Vd).length≤cr;omega⟩)
     ·unfold RlY.cells at hk
      simp only[hlr,hln] at hk
      exact Zd hk (.cons rfl rfl (.cons rfl rfl (.cons rfl rfl (.cons rfl rfl .nil)))) (fun w hw=>Wd.no2 (Wd.swapL (L:=[_,_]) (P:=[_,_,_]) (O:=O) (Wd.rdAt1 (Wd.rdAt0 hw))))
     ·obtain⟨x,hx,rfl⟩:=List.mem_map.1 hu
      unfold Vd
      split
      ·next h=>exact Nat.le_trans ((YK 58 x).2 _ (by rw[h];simp)) (HUA.out x hx)
      ·exact Nat.zero_le _
   ·have HRR:=Lib.hid (Qfu (name:=name) U);rw[← HRK.out] at HRR;refine yq<|yq<|yr<|yo zM<|yo zqf<|yl<|yn<|y0<|ye<|yn<|yq<|yr<|yo zM ?_;refine Q1 (QG (l:=2) rfl rfl (by decide) rfl rfl rfl (by omega)) ?_;refine yo zA<|yl<|yn<|yq<|yr<|yo zA<|yl<|yn<|yq<|yr<|yo zA<|yl<|yn<|yq<|yq<|yr<|yo zF<|yo (zB 0)<|yl<|yn<|yb<|yq<|yr<|yo zer<|yo zA<|yl<|yn<|y0<|yq<|yr<|yo zer<|yo zA<|yl<|yn<|y0<|yq<|yr<|yo zer<|yo zA<|yl<|yn<|y0<|yq<|yq<|yr<|yo zer<|yo zA<|yl<|yn<|y0<|yq<|yr<|yo zer<|yo zA<|yl<|yn<|y0<|yq<|yr<|yo zer<|yo zA<|yl<|yn<|y0<|yr<|yo zer<|yo zA<|yl<|yn<|y0<|yq<|yq<|yr<|yo zer<|yo zA<|yl<|yn<|y0<|yr<|yo zer<|yo zA<|yl<|yn<|y0<|yr<|yo zM<|yo zL<|yo zA<|yl<|yn<|yq<|yq<|yr<|yo zM<|yo zL<|yo zM<|yo znf<|yl<|yn<|y0<|ys<|yn<|yq<|yr<|yo zA<|yl<|yn<|yq<|yq<|yr<|yo zF<|yo (zB 0)<|yl<|yn<|yb<|yq<|yr<|yo zer<|yo zA<|yl<|yn<|y0<|yq<|yr<|yo zer<|yo zA<|yl<|yn<|y0<|yq<|yr<|yo zer<|yo zA<|yl<|yn<|y0<|yq<|yr<|yo zer<|yo zA<|yl<|yn<|y0<|yq<|yq<|yr<|yo zer<|yo zA<|yl<|yn<|y0<|yr<|yo zer<|yo zA<|yl<|yn<|y0<|yq<|yr<|yo zer<|yo zA<|yl<|yn<|y0<|yq<|yr<|yo zer<|yo zA<|yl<|yn<|y0<|yq<|yr<|yo zer<|yo zA<|yl<|yn<|y1<|yr<|yo zM<|yo zA<|yl<|yn<|yq<|yq<|yr ?_;rw[← hul];have hk:=key ⟨QN name 8,none,0,none,0,none,0,U,(Zj (some ⟨bw,0,none⟩) cw 2 1),(cw - 2),true,[.rd (some ⟨bw,0,none⟩) ws.length 1 (sv ws)]⟩ true (fun u hu=>HUA.out u hu) (by show U.length≤2001;omega) HRR.out (Q6H rfl) (fun w ha=>⟨⟨Nat.le_refl _,Nat.le_refl _,Nat.le_refl _,Qj _ _,Qj _ _,Qj _ _⟩,(by have h:=Q2L (c:=cw) (ha _ (List.mem_singleton.2 rfl)) hq2 hcw;rw[← HU.out] at h;exact h),by show U.length≤cw - 2;omega⟩);exact Zd hk (.cons rfl rfl (.cons rfl rfl (.cons rfl rfl (.cons rfl rfl .nil)))) (fun w hw=>Wd.sw12 (Wd.rdAt1 hw))
   ·skip
    by_cases hm:U.length=2
    rotate_left
    ·have HNO:=Lib.hid (HRK.out.trans (Q2N (by omega) hm));refine yq<|yq<|yr<|yo zM<|yo zqf<|yl<|yn<|y0<|ye<|yn<|yq<|yr<|yo zM ?_;refine Q1 (QG (l:=2) rfl rfl (by decide) rfl rfl rfl (by omega)) ?_;refine yo zA<|yl<|yn<|yq<|yr<|yo zA<|yl<|yn<|yq<|yr<|yo zA<|yl<|yn<|yq<|yq<|yr<|yo zF<|yo (zB 0)<|yl<|yn<|yb<|yq<|yr<|yo zer<|yo zA<|yl<|yn<|y0<|yq<|yr<|yo zer<|yo zA<|yl<|yn<|y0<|yq<|yr<|yo zer<|yo zA<|yl<|yn<|y0<|yq<|yq<|yr<|yo zer<|yo zA<|yl<|yn<|y0<|yq<|yr<|yo zer<|yo zA<|yl<|yn<|y0<|yq<|yr<|yo zer<|yo zA<|yl<|yn<|y0<|yr<|yo zer<|yo zA<|yl<|yn<|y1<|yr<|yo zA<|yl<|yn<|yq<|yq<|yr<|yo zM<|yo zL<|yo zM<|yo znt<|yl<|yn<|y1<|yq<|yr<|yo (zD 0) ?_;refine yW 2 ?_;refine yo zA<|yo zA<|yl<|yn<|yt<|yc ?_;exact Z6 (by exact .inr rfl) rfl (RsV.blk 2 rfl rfl rfl) (.tmp rfl) (.tmp rfl) (fun w hw=>YI ⟨QN name 9,none,0,none,0,none,0,[],none,0,false,[]⟩ rfl rfl (HNO.out) hw.tl.tl.tl)
    obtain⟨a,b,hUe⟩:∃a b,U=[a,b]:=by
     clear key
     match U,hm with
     |[a,b],_=>exact⟨a,b,rfl⟩
    subst hUe;have HW0:=Lib.hid (show (sv ws)[0+2+0]? =some (.string ⟨a.toArray⟩) from J5 (by have h:=congrArg (fun x=>x[0]?) HU.out;simp only[List.getElem?_drop] at h;exact h.symm));have hL0:a.length≤2000:=HUA.out a (by simp);have HW1:=Lib.hid (show (sv ws)[0+2+1]? =some (.string ⟨b.toArray⟩) from J5 (by have h:=congrArg (fun x=>x[1]?) HU.out;simp only[List.getElem?_drop] at h;exact h.symm));have hL1:b.length≤2000:=HUA.out b (by simp)
    have hAw2:Zj (some ⟨bw,0,none⟩) cw 2 1=some ⟨bw,0+2,none⟩:=by rw[hAw,if_neg (by omega)]
    have HRR:=Lib.hid (QfC (name:=name) a b);rw[← HRK.out] at HRR;refine yq<|yq<|yr<|yo zM<|yo zqf<|yl<|yn<|y0<|ye<|yn<|yq<|yr<|yo zM ?_;(refine Q1 (QG (l:=2) rfl rfl (by decide) rfl rfl rfl (by omega)) ?_;rw[hAw2]);refine yo zA<|yl<|yn<|yq<|yr<|yo zA<|yl<|yn<|yq<|yr<|yo zA<|yl<|yn<|yq<|yq<|yr<|yo zF<|yo (zB 0)<|yl<|yn<|yb<|yq<|yr<|yo zer<|yo zA<|yl<|yn<|y0<|yq<|yr<|yo zer<|yo zA<|yl<|yn<|y0<|yq<|yr<|yo zer<|yo zA<|yl<|yn<|y0<|yq<|yq<|yr<|yo zer<|yo zA<|yl<|yn<|y0<|yq<|yr<|yo zer<|yo zA<|yl<|yn<|y0<|yq<|yr<|yo zer<|yo zA<|yl<|yn<|y0<|yr<|yo zer<|yo zA<|yl<|yn<|y1<|yr<|yo zA<|yl<|yn<|yq<|yq<|yr<|yo zM<|yo zL<|yo zM<|yo znf<|yl<|yn<|y0<|ys<|yn<|yq<|yr<|yo zA<|yl<|yn<|yq<|yq<|yr<|yo zF<|yo (zB 0)<|yl<|yn<|yb<|yq<|yr<|yo zer<|yo zA<|yl<|yn<|y0<|yq<|yr<|yo zer<|yo zA<|yl<|yn<|y0<|yq<|yr<|yo zer<|yo zA<|yl<|yn<|y0<|yq<|yr<|yo zer<|yo zA<|yl<|yn<|y0<|yq<|yq<|yr<|yo zer<|yo zA<|yl<|yn<|y0<|yr<|yo zer<|yo zA<|yl<|yn<|y0<|yq<|yr<|yo zer<|yo zA<|yl<|yn<|y1<|yq<|yr<|yo zM<|yo (zi1 (j:=0))<|yo (zK 1 HW0.out) ?_;refine Q1 (Q4 (f:=86) rfl rfl (by decide) rfl rfl (fun w hw=>Qy a (by omega))) ?_;refine yo zM<|yo zX<|yo zX<|yo zF ?_;refine yS 0 ?_;refine yo zA<|yl<|yn<|yr<|yo zM ?_;refine Q1 (QG (l:=1) rfl rfl (by decide) rfl rfl rfl (by omega)) ?_;refine yo zA<|yl<|yn<|yq<|yq<|yr ?_
    have hnl2:ws.length - 2 - 1=1:=by simp only[List.length_cons,List.length_nil] at hul;omega
    rw[hnl2];have hk:=key ⟨{ QN name 9 with stop:=Z3 a },none,0,none,0,none,0,[b],(Zj (some ⟨bw,0+2,none⟩) (cw - 2) 1 1),(cw - 2 - 1),true,[.rd (some ⟨bw,0,none⟩) ws.length 1 (sv ws)]⟩ (V4 a) (fun u hu=>HUA.out u (List.mem_cons_of_mem _ hu)) (by simp) HRR.out (Q6H rfl) (fun w ha=>⟨⟨Nat.le_refl _,Nat.le_refl _,Nat.le_refl _,Qj _ _,Qj _ _,Qj _ _⟩,(by have h:=Q2L (c:=cw) (ha _ (List.mem_singleton.2 rfl)) hq2 hcw;rw[← HU.out,hAw2] at h;exact Qcb h (by simp only[List.length_cons,List.length_nil] at hul;omega)),by show 1≤cw - 2 - 1;simp only[List.length_cons,List.length_nil] at hul;omega⟩);exact Zd hk (.cons rfl rfl (.cons rfl rfl (.cons rfl rfl (.cons rfl rfl .nil)))) (fun w hw=>Wd.sw12 (Wd.rdAt1 hw))
   ·skip
    by_cases hm:U.length=1
    rotate_left
    ·have HNO:=Lib.hid (HRK.out.trans (Q5r (by omega) hm));refine yq<|yq<|yr<|yo zM<|yo zqf<|yl<|yn<|y0<|ye<|yn<|yq<|yr<|yo zM ?_;refine Q1 (QG (l:=2) rfl rfl (by decide) rfl rfl rfl (by omega)) ?_;refine yo zA<|yl<|yn<|yq<|yr<|yo zA<|yl<|yn<|yq<|yr<|yo zA<|yl<|yn<|yq<|yq<|yr<|yo zF<|yo (zB 0)<|yl<|yn<|yb<|yq<|yr<|yo zer<|yo zA<|yl<|yn<|y0<|yq<|yr<|yo zer<|yo zA<|yl<|yn<|y0<|yq<|yr<|yo zer<|yo zA<|yl<|yn<|y0<|yq<|yq<|yr<|yo zer<|yo zA<|yl<|yn<|y0<|yq<|yr<|yo zer<|yo zA<|yl<|yn<|y0<|yq<|yr<|yo zer<|yo zA<|yl<|yn<|y0<|yr<|yo zer<|yo zA<|yl<|yn<|y0<|yq<|yq<|yr<|yo zer<|yo zA<|yl<|yn<|y0<|yr<|yo zer<|yo zA<|yl<|yn<|y1<|yr<|yo zA<|yl<|yn<|yq<|yq<|yr<|yo zM<|yo zL<|yo zM<|yo znt<|yl<|yn<|y1<|yq<|yr<|yo (zD 0) ?_;refine yW 2 ?_;refine yo zA<|yo zA<|yl<|yn<|yt<|yc ?_;exact Z6 (by exact .inr rfl) rfl (RsV.blk 2 rfl rfl rfl) (.tmp rfl) (.tmp rfl) (fun w hw=>YI ⟨QN name 10,none,0,none,0,none,0,[],none,0,false,[]⟩ rfl rfl (HNO.out) hw.tl.tl.tl)
    obtain⟨a,hUe⟩:∃a,U=[a]:=by
     clear key
     match U,hm with
     |[a],_=>exact⟨a,rfl⟩
    subst hUe;have HW0:=Lib.hid (show (sv ws)[0+2+0]? =some (.string ⟨a.toArray⟩) from J5 (by have h:=congrArg (fun x=>x[0]?) HU.out;simp only[List.getElem?_drop] at h;exact h.symm));have hL0:a.length≤2000:=HUA.out a (by simp)
    have hAw2:Zj (some ⟨bw,0,none⟩) cw 2 1=some ⟨bw,0+2,none⟩:=by rw[hAw,if_neg (by omega)]
    have HRR:=Lib.hid (Qfc (name:=name) a);rw[← HRK.out] at HRR;refine yq<|yq<|yr<|yo zM<|yo zqf<|yl<|yn<|y0<|ye<|yn<|yq<|yr<|yo zM ?_;(refine Q1 (QG (l:=2) rfl rfl (by decide) rfl rfl rfl (by omega)) ?_;rw[hAw2]);refine yo zA<|yl<|yn<|yq<|yr<|yo zA<|yl<|yn<|yq<|yr<|yo zA<|yl<|yn<|yq<|yq<|yr<|yo zF<|yo (zB 0)<|yl<|yn<|yb<|yq<|yr<|yo zer<|yo zA<|yl<|yn<|y0<|yq<|yr<|yo zer<|yo zA<|yl<|yn<|y0<|yq<|yr<|yo zer<|yo zA<|yl<|yn<|y0<|yq<|yq<|yr<|yo zer<|yo zA<|yl<|yn<|y0<|yq<|yr<|yo zer<|yo zA<|yl<|yn<|y0<|yq<|yr<|yo zer<|yo zA<|yl<|yn<|y0<|yr<|yo zer<|yo zA<|yl<|yn<|y0<|yq<|yq<|yr<|yo zer<|yo zA<|yl<|yn<|y0<|yr<|yo zer<|yo zA<|yl<|yn<|y1<|yr<|yo zA<|yl<|yn<|yq<|yq<|yr<|yo zM<|yo zL<|yo zM<|yo znf<|yl<|yn<|y0<|ys<|yn<|yq<|yr<|yo zA<|yl<|yn<|yq<|yq<|yr<|yo zF<|yo (zB 0)<|yl<|yn<|yb<|yq<|yr<|yo zer<|yo zA<|yl<|yn<|y0<|yq<|yr<|yo zer<|yo zA<|yl<|yn<|y0<|yq<|yr<|yo zer<|yo zA<|yl<|yn<|y0<|yq<|yr<|yo zer<|yo zA<|yl<|yn<|y0<|yq<|yq<|yr<|yo zer<|yo zA<|yl<|yn<|y0<|yr<|yo zer<|yo zA<|yl<|yn<|y1<|yr<|yo zM<|yo zA<|yl<|yn<|yq<|yq<|yr ?_;rw[← hul];have hk:=key ⟨QN name 10,none,0,none,0,none,0,[a],(some ⟨bw,0+2,none⟩),(cw - 2),true,[.rd (some ⟨bw,0,none⟩) ws.length 1 (sv ws)]⟩ true (fun u hu=>HUA.out u hu) (by simp) HRR.out (Q6H rfl) (fun w ha=>⟨⟨Nat.le_refl _,Nat.le_refl _,Nat.le_refl _,Qj _ _,Qj _ _,Qj _ _⟩,(by have h:=Q2L (c:=cw) (ha _ (List.mem_singleton.2 rfl)) hq2 hcw;rw[← HU.out,hAw2] at h;exact h),by show _≤_;simp only[List.length_cons,List.length_nil];omega⟩);exact Zd hk (.cons rfl rfl (.cons rfl rfl (.cons rfl rfl (.cons rfl rfl .nil)))) (fun w hw=>Wd.sw12 (Wd.rdAt1 hw))
 case tail=>
  intro y fine hsz hrlen hi hats hf;have HSZ:=Lib.hid hsz;have HI:=Lib.hid hi;have HF:=Lib.hid hf;clear hsz hi hf;refine yo zA<|yl<|yn<|yb ?_;refine ZF (ι:=Nat) (fun i=>i≤y.refs.length) (fun i=>y.refs.length - i) (fun i=>[(2,.pointer (some ⟨b2,0,none⟩)),(6,.pointer (some ⟨b6,0,none⟩)),(7,.slice y.Ar y.refs.length y.cr),(11,.bool (fine&&(y.refs.take i).all Qi)),(14,.int .i64 (i:Int))]) (fun _=>.blk b6 (.cells (RlY.cells y).toArray 52 (0,0))::.blk b2 (.cells (RlY.cells Vr).toArray 52 (0,0))::(y.ats++O)) 0 (Nat.zero_le _) (.cons rfl rfl (.cons rfl rfl (.cons rfl rfl (.cons rfl (by rw[List.take_zero,List.all_nil,Bool.and_true]) (.cons rfl rfl .nil))))) (fun w hw=>hw) ?_;intro i hi
  show sE _ _ _ _ _ [(2,.pointer (some ⟨b2,0,none⟩)),(6,.pointer (some ⟨b6,0,none⟩)),(7,.slice y.Ar y.refs.length y.cr),(11,.bool (fine&&(y.refs.take i).all Qi)),(14,.int .i64 (i:Int))] (.blk b6 (.cells (RlY.cells y).toArray 52 (0,0))::.blk b2 (.cells (RlY.cells Vr).toArray 52 (0,0))::(y.ats++O)) _
  by_cases hir:i<y.refs.length
  ·obtain⟨u,hu⟩:∃u,y.refs[i]? =some u:=⟨_,List.getElem?_eq_getElem hir⟩
   have hul2:u.length≤1048576:=by have:=HSZ.out u (List.mem_of_getElem? hu);omega
   have hst:(fine&&(y.refs.take (i+1)).all Qi)=((fine&&(y.refs.take i).all Qi)&&Qi u):=by rw[List.take_add_one,hu,List.all_append,Bool.and_assoc];simp
   refine Z8 (φ:=∃b q,y.Ar=some ⟨b,q,none⟩) (fun w hw=>by obtain⟨b,q,e,_⟩:=(HF.out w (Wd.at_ (L:=y.ats) (O:=O) hw.tl.tl)).s.2 (by omega);exact⟨b,q,e⟩) (fun hsf=>?_);obtain⟨bq,oq,hAr⟩:=hsf
   have hcell:∀w,Wd [] W (.blk b6 (.cells (RlY.cells y).toArray 52 (0,0))::.blk b2 (.cells (RlY.cells Vr).toArray 52 (0,0))::(y.ats++O)) w→w.cell? ⟨bq,oq+i,none⟩=some (.string ⟨u.toArray⟩):=fun w hw=>by
    have h:=(HF.out w (Wd.at_ (L:=y.ats) (O:=O) hw.tl.tl)).s;rw[hAr] at h;exact h.cellO (by omega) (J5 hu)
   have HCELL:=Lib.hid hcell;have HST:=Lib.hid hst
   generalize (fine&&(y.refs.take i).all Qi)=v at HST ⊢
   clear hcell hst hu;rw[hAr]
   cases v with
   |true=>
    refine yq<|yq<|yr<|yo zM<|yo zM<|yo zL<|yo zlt<|yl<|yn<|y1<|ys<|yn<|yq<|yb<|yr<|yo zM<|yo zM<|yo zM<|yo zM<|yo (zi1 (hj:=hir)) ?_;refine Q1 (QL rfl rfl (by decide) rfl rfl HCELL.out) ?_;refine Q1 (Q4 (f:=48) rfl rfl (by decide) rfl rfl (fun w hw=>ZA u hul2 w)) ?_;refine yo zY<|yo zA<|yl<|yn<|yr<|yo zM<|yo zP<|yo zA<|yl ?_;refine QH (i+1) hir (by omega) (.cons rfl rfl (.cons rfl rfl (.cons rfl rfl (.cons rfl (by rw[HST.out];rfl) (.cons rfl (by go_num) .nil))))) (fun w hw=>hw)
   |false=>
    refine yq<|yq<|yr<|yo zM<|yo zM<|yo zL<|yo zlt<|yl<|yn<|y1<|ys<|yn<|yq<|yb<|yr<|yo zM<|yo zM<|yo zS<|yo zS<|yo zS<|yo zS<|yo zS<|yo zN<|yo zA<|yl<|yn<|yr<|yo zM<|yo zP<|yo zA<|yl ?_;refine QH (i+1) hir (by omega) (.cons rfl rfl (.cons rfl rfl (.cons rfl rfl (.cons rfl (by rw[HST.out];rfl) (.cons rfl (by go_num) .nil))))) (fun w hw=>hw)
  ·obtain rfl:i=y.refs.length:=by omega
   rw[List.take_length];refine yq<|yq<|yr<|yo zM<|yo zM<|yo zL<|yo zlf<|yl<|yn<|y0<|ye<|yn<|yq<|yr<|yo (zD 0)<|yo zM<|yo zM ?_;refine yW 1 ?_;refine yo zA<|yo zA<|yl<|yn<|yt ?_;refine Z6 (by exact .inr rfl) rfl (RsV.blk 1 rfl rfl rfl) (.tmp rfl) (.tmp rfl) (fun w hw=>?_);exact⟨{ y with ok:=fine&&y.refs.all Qi },rfl,⟨HI.out,hats,fun _ w ha=>⟨(HF.out w ha).r,(HF.out w ha).s,(HF.out w ha).c⟩⟩,hw.tl.tl⟩
end
end Go.Proofs.YtgdiadednlajgaaGreatDoor
