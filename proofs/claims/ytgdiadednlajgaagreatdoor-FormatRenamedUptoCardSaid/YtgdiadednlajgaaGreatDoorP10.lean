import Derived.Test.YtgdiadednlajgaaGreatDoorP9
namespace Go.Proofs.YtgdiadednlajgaaGreatDoor
set_option linter.unusedVariables false
set_option linter.unusedSimpArgs false
open Go.ChangeShapes Go.WideShapes Go.ChangeAt Go.RowKit Go.Deep
def nmW(ns:List (List UInt8)):Nat:=(ns.map fun x=>x.length+1).sum
theorem Qdw{ns:List (List UInt8)}{x:List UInt8}(h:x∈ns):x.length+1≤nmW ns:=by
 induction ns with
 |nil=>cases h
 |cons y r ih=>
  unfold nmW at*
  simp only[List.map_cons,List.sum_cons]
  rcases List.mem_cons.1 h with rfl|h
  ·omega
  ·have:=ih h;omega
theorem Qd9(ns:List (List UInt8)):ns.length≤nmW ns:=by
 induction ns with
 |nil=>simp [nmW]
 |cons y r ih=>
  unfold nmW at*
  simp only[List.map_cons,List.sum_cons,List.length_cons]
  omega
def ruW(r:Rl):Nat:=r.name.length+r.bs.length+nmW r.names+r.parts.length+1
theorem Qeo{r:Rl}(h:ruW r≤1048576):RSm r:=by
 unfold ruW at h
 exact⟨by omega,by omega,by have:=Qd9 r.names;omega,by omega,fun s hs=>by have:=Qdw hs;omega⟩
section
variable {H:Type}{enc:TypeId×Value→H}{W:World}
theorem Q7X(ss:List ByteArray):Rows.uptoBulkAll (strs (H:=H) ss)=nmW (ss.map fun s=>s.data.toList):=by
 induction ss with
 |nil=>rfl
 |cons s r ih=>
  have e:strs (H:=H) (s::r)=DataW.lit (.string s.data.toList)::strs r:=by simp [strs]
  rw[e]
  simp only[Rows.uptoBulkAll,Rows.uptoBulk,List.map_cons]
  rw[ih]
  simp [nmW]
set_option maxRecDepth 100000 in
theorem Q4c{fuel:Nat}{cs:List Value}{x:DataW H×List MemPlace}(h:DataW.trod enc Tryz.prog W 0 (fun _=>true) true fuel 50 cs=some x):
  ∃(A:Option Addr) (n c:Nat) (ns:List (List UInt8)),cs=[.slice A n c]∧Rd W W.heap.size 1 A n (sv ns)∧n≤c∧nmW ns+1≤Rows.uptoBulk x.1:=by
 rcases open_strings Tryz.underlying50 Tryz.underlying9 (by kernel_rfl) h with ⟨hcs,hx⟩|⟨a,len,cap,ss,hcs,_,hl,hm,hz,hx,hcell,_⟩
 ·exact⟨none,0,0,[],hcs,⟨rfl,fun h=>absurd h (Nat.lt_irrefl _)⟩,Nat.le_refl _,by simp [nmW];exact J8 x.1⟩
 ·subst hx
  have hz':ss.length=cap:=by simpa using hz
  refine⟨some a,len,cap,(ss.take len).map (fun s=>s.data.toList),hcs,⟨by simp [sv];omega,fun hn=>?_⟩,hl,?_⟩
  ·have h0:=hcell 0 (by omega)
   have hs:a.spot=none:=by simpa [Addr.add] using World.cell?_spot h0
   obtain⟨b,o,sp⟩:=a
   simp only at hs
   subst hs;refine⟨b,o,rfl,World.block_lt_of_cell? W _ (by simpa [Addr.add] using h0),fun j u hu=>?_⟩
   have e:(⟨b,o,none⟩:Addr).add j=⟨b,o+j,none⟩:=by unfold Addr.add;split<;>simp_all
   rw[← e]
   simp only[sv,List.map_map,List.getElem?_map,List.getElem?_take] at hu
   split at hu
   ·rename_i hj
    have hjl:j<ss.length:=by omega
    rw[List.getElem?_eq_getElem hjl] at hu
    simp only[Option.map_some,Option.some.injEq,Function.comp] at hu
    rw[hcell j hjl,List.getD_eq_getElem?_getD,List.getElem?_eq_getElem hjl];rw[← hu]
    rfl
   ·simp at hu
  ·simp only[Rows.uptoBulk]
   rw[Q7X (ss.take len)]
   omega
set_option maxRecDepth 100000 in
theorem Q4s{fuel:Nat}{cs:List Value}{x:DataW H×List MemPlace}(h:DataW.trod enc Tryz.prog W 0 (fun _=>true) true fuel 49 cs=some x):
  ∃(A:Option Addr) (n c:Nat) (bs:List UInt8),cs=[.slice A n c]∧Rd W W.heap.size 1 A n (bv bs)∧n≤c∧bs.length=n∧n+1≤Rows.uptoBulk x.1:=by
 rcases open_ints Tryz.underlying49 Tryz.underlying5 (by kernel_rfl) h with ⟨hcs,hx⟩|⟨a,len,cap,zs,hcs,_,hl,hm,hz,hx,hcell,hwz⟩
 ·exact⟨none,0,0,[],hcs,Rd.nil_,Nat.le_refl _,rfl,J8 x.1⟩
 ·subst hx
  have hz':zs.length=cap:=by simpa using hz
  have hr:=Q3Z hl hz' hcell;obtain⟨bs,hbl,hbe⟩:=Q4e (zs.take len) (fun n hn=>hwz n (List.mem_of_mem_take hn));rw[hbe] at hr
  have hbl':bs.length=len:=by rw[hbl,List.length_take];omega
  refine⟨_,_,_,bs,hcs,hr,hl,hbl',?_⟩;have h1:=Q6A (lits (H:=H) .u8 (zs.take len))
  simp only[Rows.uptoBulk]
  simp only[lits,List.length_map,List.length_take] at h1
  simp only[lits]
  omega
theorem Q68{α:Type}(n:Nat)(P:Nat→α→Prop)(h:∀i,i<n→∃x,P i x):∃l:List α,l.length=n∧∀i x,l[i]? =some x→P i x:=by
 induction n with
 |zero=>exact⟨[],rfl,fun i x h=>by simp at h⟩
 |succ n ih=>
  obtain⟨l,hl,hp⟩:=ih fun i hi=>h i (by omega)
  obtain⟨x,hx⟩:=h n (by omega);refine⟨l++[x],by simp [hl],fun i y hy=>?_⟩
  by_cases hi:i<l.length
  ·rw[List.getElem?_append_left hi] at hy;exact hp i y hy
  ·rw[List.getElem?_append_right (by omega)] at hy;obtain⟨k,hk⟩:∃k,i - l.length=k:=⟨_,rfl⟩;rw[hk] at hy
   cases k with
   |zero=>
    simp at hy;subst hy;obtain rfl:i=n:=by omega
    exact hx
   |succ k=>simp at hy
set_option maxRecDepth 100000 in
theorem Q5b{fuel:Nat}{cs:List Value}{x:DataW H×List MemPlace}(h:DataW.trod enc Tryz.prog W 0 (fun _=>true) true fuel 30 cs=some x):
  ∃(A:Option Addr) (n c:Nat) (l:List Int),cs=[.slice A n c]∧Rd W W.heap.size 1 A n (iv l)∧n≤c∧l.length=n∧n+1≤Rows.uptoBulk x.1:=by
 rcases open_ints Tryz.underlying30 Tryz.underlying3 (by kernel_rfl) h with ⟨hcs,hx⟩|⟨a,len,cap,zs,hcs,_,hl,hm,hz,hx,hcell,hwz⟩
 ·exact⟨none,0,0,[],hcs,⟨rfl,fun h=>absurd h (Nat.lt_irrefl _)⟩,Nat.le_refl _,rfl,J8 x.1⟩
 ·subst hx
  have hz':zs.length=cap:=by simpa using hz
  refine⟨_,_,_,zs.take len,hcs,Q3Z hl hz' hcell,hl,by rw[List.length_take];omega,?_⟩;have h1:=Q6A (lits (H:=H) .i64 (zs.take len))
  simp only[Rows.uptoBulk]
  simp only[lits,List.length_map,List.length_take] at h1
  simp only[lits]
  omega
theorem Qc7(b o j:Nat):(⟨b,o,none⟩:Addr).add j=⟨b,o+j,none⟩:=by unfold Addr.add;split<;>simp_all
set_option maxRecDepth 100000 in
set_option maxHeartbeats 2000000 in
theorem Q5j{fuel:Nat}{cs:List Value}{x:DataW H×List MemPlace}(h:DataW.trod enc Tryz.prog W 0 (fun _=>true) true fuel 52 cs=some x):
  ∃(r:Rl) (sb sn sp:Value),cs=ruC r sb sn sp∧Q0i W W.heap.size r sb sn sp∧ruW r≤Rows.uptoBulk x.1:=by
 obtain⟨xs,n,rfl,rfl,hl,hlen,hf⟩:=DataW.trod_struct Tryz.underlying52 h
 obtain⟨y0,y1,y2,y3,y4,y5,y6,y7,y8,y9,y10,y11,rfl⟩:∃y0 y1 y2 y3 y4 y5 y6 y7 y8 y9 y10 y11,xs=[y0,y1,y2,y3,y4,y5,y6,y7,y8,y9,y10,y11]:=by
  match xs,hlen with
  |[y0,y1,y2,y3,y4,y5,y6,y7,y8,y9,y10,y11],_=>exact⟨y0,y1,y2,y3,y4,y5,y6,y7,y8,y9,y10,y11,rfl⟩
 have hC:Tryz.prog.cellsOf 52=12:=by kernel_rfl
 rw[hC] at hl
 obtain⟨c0,c1,c2,c3,c4,c5,c6,c7,c8,c9,c10,c11,rfl⟩:∃c0 c1 c2 c3 c4 c5 c6 c7 c8 c9 c10 c11,cs=[c0,c1,c2,c3,c4,c5,c6,c7,c8,c9,c10,c11]:=by
  match cs,hl with
  |[c0,c1,c2,c3,c4,c5,c6,c7,c8,c9,c10,c11],_=>exact⟨c0,c1,c2,c3,c4,c5,c6,c7,c8,c9,c10,c11,rfl⟩
 have k0:Tryz.prog.cellsOf 30=1:=by kernel_rfl
 have k1:Tryz.prog.cellsOf 50=1:=by kernel_rfl
 have k2:Tryz.prog.cellsOf 49=1:=by kernel_rfl
 have k3:Tryz.prog.cellsOf 4=1:=by kernel_rfl
 have k4:Tryz.prog.cellsOf 3=1:=by kernel_rfl
 have k5:Tryz.prog.cellsOf 9=1:=by kernel_rfl
 have f0:DataW.trod enc Tryz.prog W 0 (fun _=>true) true n 9 [c0]=some y0:=by have h:=hf 0 _ rfl;simpa [k5] using h
 have f1:DataW.trod enc Tryz.prog W 0 (fun _=>true) true n 3 [c1]=some y1:=by have h:=hf 1 _ rfl;simpa [k4] using h
 have f2:DataW.trod enc Tryz.prog W 0 (fun _=>true) true n 49 [c2]=some y2:=by have h:=hf 2 _ rfl;simpa [k2] using h
 have f3:DataW.trod enc Tryz.prog W 0 (fun _=>true) true n 3 [c3]=some y3:=by have h:=hf 3 _ rfl;simpa [k4] using h
 have f4:DataW.trod enc Tryz.prog W 0 (fun _=>true) true n 4 [c4]=some y4:=by have h:=hf 4 _ rfl;simpa [k3] using h
 have f5:DataW.trod enc Tryz.prog W 0 (fun _=>true) true n 3 [c5]=some y5:=by have h:=hf 5 _ rfl;simpa [k4] using h
 have f6:DataW.trod enc Tryz.prog W 0 (fun _=>true) true n 3 [c6]=some y6:=by have h:=hf 6 _ rfl;simpa [k4] using h
 have f7:DataW.trod enc Tryz.prog W 0 (fun _=>true) true n 3 [c7]=some y7:=by have h:=hf 7 _ rfl;simpa [k4] using h
 have f8:DataW.trod enc Tryz.prog W 0 (fun _=>true) true n 3 [c8]=some y8:=by have h:=hf 8 _ rfl;simpa [k4] using h
 have f9:DataW.trod enc Tryz.prog W 0 (fun _=>true) true n 3 [c9]=some y9:=by have h:=hf 9 _ rfl;simpa [k4] using h
 have f10:DataW.trod enc Tryz.prog W 0 (fun _=>true) true n 50 [c10]=some y10:=by have h:=hf 10 _ rfl;simpa [k1] using h
 have f11:DataW.trod enc Tryz.prog W 0 (fun _=>true) true n 30 [c11]=some y11:=by have h:=hf 11 _ rfl;simpa [k0] using h
 obtain⟨n0,e0,z0⟩:=DataW.trod_string Tryz.underlying9 f0;obtain⟨n1,e1,_,w1⟩:=DataW.trod_int Tryz.underlying3 f1;obtain⟨A2,l2,p2,n2,e2,r2,q2,s2,u2⟩:=Q4s f2;obtain⟨n3,e3,_,w3⟩:=DataW.trod_int Tryz.underlying3 f3;obtain⟨n4,e4,_⟩:=DataW.trod_bool Tryz.underlying4 f4;obtain⟨n5,e5,_,w5⟩:=DataW.trod_int Tryz.underlying3 f5;obtain⟨n6,e6,_,w6⟩:=DataW.trod_int Tryz.underlying3 f6;obtain⟨n7,e7,_,w7⟩:=DataW.trod_int Tryz.underlying3 f7;obtain⟨n8,e8,_,w8⟩:=DataW.trod_int Tryz.underlying3 f8;obtain⟨n9,e9,_,w9⟩:=DataW.trod_int Tryz.underlying3 f9;obtain⟨A10,l10,p10,n10,e10,r10,q10,u10⟩:=Q4c f10;obtain⟨A11,l11,p11,n11,e11,r11,q11,s11,u11⟩:=Q5b f11
 simp only[List.cons.injEq,and_true] at e0 e1 e2 e3 e4 e5 e6 e7 e8 e9 e10 e11
 subst e0 e1 e2 e3 e4 e5 e6 e7 e8 e9 e10 e11;refine⟨⟨n0.data.toList,n1,n2,n3,n4,n5,n6,n7,n8,n9,n10,n11⟩,_,_,_,by simp [ruC],⟨A2,l2,p2,A10,l10,p10,A11,l11,p11,rfl,rfl,rfl,q2,q10,q11,r2,r10,r11⟩,?_⟩;have b1:=J8 y1.1;have b3:=J8 y3.1;have b4:=J8 y4.1;have b5:=J8 y5.1;have b6:=J8 y6.1;have b7:=J8 y7.1;have b8:=J8 y8.1;have b9:=J8 y9.1
 simp only[z0,ruW,List.map_cons,List.map_nil,Rows.uptoBulk,Rows.uptoBulkAll]
 omega
set_option maxRecDepth 100000 in
theorem Q34{fuel:Nat}{cs:List Value}{x:DataW H×List MemPlace}(h:DataW.trod enc Tryz.prog W 0 (fun _=>true) true fuel 22 cs=some x)(hb:Rows.uptoBulk x.1≤1048576):
  ∃(A:Option Addr) (n c:Nat) (F:List Rl),cs=[.slice A n c]∧Xq W W.heap.size A n F∧FSm F∧n≤c:=by
 rcases DataW.trod_slice Tryz.underlying22 h with ⟨hcs,hx⟩|⟨a,l,c,elems,rest,n',hfu,hcs,hx,_,hl',hm,hel0,hel,_,_⟩
 ·exact⟨none,0,0,[],hcs,⟨rfl,fun h0=>absurd h0 (Nat.lt_irrefl 0)⟩,⟨Nat.zero_le _,fun r hr=>by cases hr⟩,Nat.le_refl _⟩
 ·have hC:Tryz.prog.cellsOf 52=12:=by kernel_rfl
  have each:∀i,i<l→∃y:Rl×(Value×Value×Value),(∃cs',W.cells? 0 (a.add (i*12)) 12=some cs'∧cs'=ruC y.1 y.2.1 y.2.2.1 y.2.2.2)∧Q0i W W.heap.size y.1 y.2.1 y.2.2.1 y.2.2.2∧(∀e,(elems.map (·.1))[i]? =some e→ruW y.1≤Rows.uptoBulk e):=by
   intro i hlt;have hel':=hel i hlt;rw[hC,List.getElem?_eq_getElem (show i<elems.length by omega)] at hel';obtain⟨cs',hc,ht⟩:=Option.bind_eq_some_iff.1 hel';obtain⟨r,sb,sn,sp,hcs',hd,hw⟩:=Q5j ht
   exact⟨(r,(sb,sn,sp)),⟨cs',hc,hcs'⟩,hd,fun e he=>by
    rw[List.getElem?_map,List.getElem?_eq_getElem (show i<elems.length by omega)] at he
    simp only[Option.map_some,Option.some.injEq] at he
    subst he
    exact hw⟩
  obtain⟨ys,hyl,hys⟩:=Q68 l _ each
  have hsum:∀(L:List (Rl×(Value×Value×Value))) (E:List (DataW H)),L.length=E.length→(∀(i:Nat) (y:Rl×(Value×Value×Value)) (e:DataW H),L[i]? =some y→E[i]? =some e→ruW y.1≤Rows.uptoBulk e)→L.length≤Rows.uptoBulkAll E∧∀y∈L,ruW y.1≤Rows.uptoBulkAll E:=by
   intro L
   induction L with
   |nil=>intro E _ _;exact⟨Nat.zero_le _,fun y hy=>by cases hy⟩
   |cons y L ih=>
    intro E hE h
    cases E with
    |nil=>cases hE
    |cons e E=>
     have h1:=h 0 y e rfl rfl
     have h2:=ih E (by simpa using hE) fun i z e' hz he=>h (i+1) z e' (by simpa using hz) (by simpa using he)
     have h3:1≤ruW y.1:=by unfold ruW;omega
     simp only[Rows.uptoBulkAll,List.length_cons]
     refine⟨by omega,fun z hz=>?_⟩
     rcases List.mem_cons.1 hz with rfl|hz
     ·omega
     ·have:=h2.2 z hz;omega
  have hs:=hsum ys (elems.map (·.1)) (by simp [hyl,hel0]) fun i y e hy he=>(hys i y hy).2.2 e he
  have hbk:Rows.uptoBulkAll (elems.map (·.1))≤1048576:=by
   rw[hx] at hb
   simp only[Rows.uptoBulk] at hb
   omega
  refine⟨some a,l,c,ys.map (·.1),hcs,⟨by rw[List.length_map,hyl],fun h0=>?_⟩,⟨by rw[List.length_map];omega,fun r hr=>?_⟩,hl'⟩
  ·have hy0:ys[0]? =some ys[0]:=List.getElem?_eq_getElem (by omega);obtain⟨⟨cs0,hc0,hcs0⟩,_⟩:=hys 0 _ hy0;obtain⟨_,_,hat0⟩:=World.cells?_some hc0;have hcell0:=hat0 0 (by omega)
   have hsp:a.spot=none:=by rw[hcs0] at hcell0;simpa [Addr.add] using World.cell?_spot hcell0
   obtain⟨b,o,sp⟩:=a
   simp only at hsp
   subst hsp
   have hadd:∀i j,((⟨b,o,none⟩:Addr).add (i*12)).add j=⟨b,o+i*12+j,none⟩:=fun i j=>by rw[Qc7,Qc7]
   refine⟨b,o,rfl,?_,fun i r hr=>?_⟩
   ·rw[hcs0] at hcell0;have:=World.block_lt_of_cell? W _ hcell0
    simpa [Addr.add] using this
   ·rw[List.getElem?_map] at hr
    cases hy:ys[i]? with
    |none=>rw[hy] at hr;simp at hr
    |some y=>
     rw[hy] at hr
     simp only[Option.map_some,Option.some.injEq] at hr
     subst hr;obtain⟨⟨cs1,hc1,hcs1⟩,hd,_⟩:=hys i y hy;obtain⟨_,_,hat⟩:=World.cells?_some hc1;rw[hcs1] at hat;have q0:=hat 0 (by omega);have q1:=hat 1 (by omega);have q2:=hat 2 (by omega);have q3:=hat 3 (by omega);have q4:=hat 4 (by omega);have q5:=hat 5 (by omega);have q6:=hat 6 (by omega);have q7:=hat 7 (by omega);have q8:=hat 8 (by omega);have q9:=hat 9 (by omega);have q10:=hat 10 (by omega);have q11:=hat 11 (by omega);rw[hadd] at q0 q1 q2 q3 q4 q5 q6 q7 q8 q9 q10 q11;exact⟨_,_,_,⟨by simpa using q0,by simpa using q1,by simpa using q2,by simpa using q3,by simpa using q4,by simpa using q5,by simpa using q6,by simpa using q7,by simpa using q8,by simpa using q9,by simpa using q10,by simpa using q11⟩,hd⟩
  ·obtain⟨y,hy,rfl⟩:=List.mem_map.1 hr;exact Qeo (by have:=hs.2 y hy;omega)
set_option maxRecDepth 100000 in
theorem Vt{base:Nat}{v:Value}{d:DataW H}{p:List MemPlace}(hv:Value.okWide Tryz.prog W .any base 24 v)(h:DataW.Trod enc Tryz.prog W 0 (fun _=>true) true 24 v d p)(hb:Rows.uptoBulk d≤1048576):
  ∃(A:Option Addr) (n c:Nat) (F:List Rl),v=.agg #[.slice A n c]∧Xq W W.heap.size A n F∧FSm F∧n≤c:=by
 obtain⟨cs,rfl,hsz⟩:=okWide_struct Tryz.underlying24 hv;obtain⟨fuel,hf⟩:=h;obtain⟨xs,n,rfl,hx,hl,hlen,hf'⟩:=DataW.trod_struct Tryz.underlying24 hf
 obtain⟨y0,rfl⟩:∃y0,xs=[y0]:=by
  match xs,hlen with
  |[y0],_=>exact⟨y0,rfl⟩
 have hC:Tryz.prog.cellsOf 24=1:=by kernel_rfl
 have k0:Tryz.prog.cellsOf 22=1:=by kernel_rfl
 rw[hC] at hl
 obtain⟨c0,hc0⟩:∃c0,(Value.agg cs).cells.toList=[c0]:=by
  match (Value.agg cs).cells.toList,hl with
  |[c0],_=>exact⟨c0,rfl⟩
 have f0:DataW.trod enc Tryz.prog W 0 (fun _=>true) true n 22 [c0]=some y0:=by
  have h:=hf' 0 _ rfl;rw[hc0] at h
  simpa [k0] using h
 have hx1:d=.agg [y0.1]:=congrArg (·.1) hx
 obtain⟨A,n1,c1,F,e,h1,h2,h3⟩:=Q34 f0 (by
  rw[hx1] at hb
  simp only[Rows.uptoBulk,Rows.uptoBulkAll] at hb
  omega)
 simp only[List.cons.injEq,and_true] at e
 subst e;refine⟨A,n1,c1,F,?_,h1,h2,h3⟩;have h4:cs.toList=[.slice A n1 c1]:=hc0
 have h5:cs=#[.slice A n1 c1]:=by
  apply Array.toList_inj.1
  exact h4
 rw[h5]
end
end Go.Proofs.YtgdiadednlajgaaGreatDoor
