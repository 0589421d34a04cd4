import Derived.Test.YtphkhfdmlcnoeaaGreatDoorP8
import Derived.Test.YtphkhfdmlcnoeaaGreatDoorP9
import Derived.Test.YtphkhfdmlcnoeaaGreatDoorP11
import Derived.WalkSmall
import Derived.Test.YtphkhfdmlcnoeaaGreatDoorCards
import Derived.Test.YtphkhfdmlcnoeaaGreatDoorTie
import Derived.Deep.DeepWitnessRowRef
import Derived.Lib.LaidIn
import Derived.Stop.LaidErr
namespace Go.Proofs.YtphkhfdmlcnoeaaGreatDoor
set_option linter.unusedVariables false
set_option linter.unusedSimpArgs false
open Go.RowKit
abbrev ruC(r:Rl)(sb sn sp:Value):List Value:=[.string ⟨r.name.toArray⟩,.int .i64 r.kind,sb,.int .i64 r.size,.bool r.big,.int .i64 r.mn,.int .i64 r.mx,.int .i64 r.stop,.int .i64 r.count,.int .i64 r.elem,sn,sp]
structure RuL(W:World)(r:Rl)(Ab:Option Addr)(cb:Nat)(An:Option Addr)(cn:Nat)(Ap:Option Addr)(cp:Nat):Prop where
 cb:r.bs.length≤cb
 cn:r.names.length≤cn
 cp:r.parts.length≤cp
 b:Rd W W.heap.size 1 Ab r.bs.length (bv r.bs)
 n:Rd W W.heap.size 1 An r.names.length (sv r.names)
 p:Rd W W.heap.size 1 Ap r.parts.length (iv r.parts)
theorem RuL.on{W w:World}{r:Rl}{Ab An Ap:Option Addr}{cb cn cp:Nat}(h:RuL W r Ab cb An cn Ap cp)(hb:Below W.heap.size W w):RuL w r Ab cb An cn Ap cp:=
 ⟨h.cb,h.cn,h.cp,(h.b.below hb).more hb.size,(h.n.below hb).more hb.size,(h.p.below hb).more hb.size⟩
theorem YN.lists{W:World}{r:Rl}{sb sn sp:Value}(h:YN W W.heap.size r sb sn sp):∃Ab cb An cn Ap cp,sb=.slice Ab r.bs.length cb∧sn=.slice An r.names.length cn∧sp=.slice Ap r.parts.length cp∧RuL W r Ab cb An cn Ap cp:=by
 obtain⟨Ab,nb,cb,An,nn,cn,Ap,np,cp,rfl,rfl,rfl,h1,h2,h3,h4,h5,h6⟩:=h
 have e1:r.bs.length=nb:=by have:=h4.len;rw[Xu] at this;exact this
 have e2:r.names.length=nn:=by have:=h5.len;rw[XB] at this;exact this
 have e3:r.parts.length=np:=by have:=h6.len;rw[Ki] at this;exact this
 subst e1;subst e2;subst e3;exact⟨Ab,cb,An,cn,Ap,cp,rfl,rfl,rfl,h1,h2,h3,h4,h5,h6⟩
theorem YB.range{w:World}{b o:Nat}{r:Rl}{sb sn sp:Value}(h:YB w b o r sb sn sp):w.rangeAt b o (ruC r sb sn sp):=by
 obtain⟨h0,h1,h2,h3,h4,h5,h6,h7,h8,h9,h10,h11⟩:=h;intro j v hv
 match j,hv with
 |0,hv=>cases hv;exact h0
 |1,hv=>cases hv;exact h1
 |2,hv=>cases hv;exact h2
 |3,hv=>cases hv;exact h3
 |4,hv=>cases hv;exact h4
 |5,hv=>cases hv;exact h5
 |6,hv=>cases hv;exact h6
 |7,hv=>cases hv;exact h7
 |8,hv=>cases hv;exact h8
 |9,hv=>cases hv;exact h9
 |10,hv=>cases hv;exact h10
 |11,hv=>cases hv;exact h11
 |j+12,hv=>cases hv
theorem Xm.rule{W:World}{A:Option Addr}{n i:Nat}{F:List Rl}(h:Xm W W.heap.size A n F)(hi:i<n):∃b o r Ab cb An cn Ap cp,A=some ⟨b,o,none⟩∧F[i]? =some r∧W.rangeAt b (o+i*12) (ruC r (.slice Ab r.bs.length cb) (.slice An r.names.length cn) (.slice Ap r.parts.length cp))∧RuL W r Ab cb An cn Ap cp:=by
 obtain⟨b,o,r,sb,sn,sp,e,hb,hr,hc,hs⟩:=h.at_ hi;obtain⟨Ab,cb,An,cn,Ap,cp,rfl,rfl,rfl,hl⟩:=hs.lists;exact⟨b,o,r,Ab,cb,An,cn,Ap,cp,e,hr,hc.range,hl⟩
structure RSm(r:Rl):Prop where
 name:r.name.length≤1048576
 bs:r.bs.length≤1048576
 names:r.names.length≤1048576
 parts:r.parts.length≤1048576
 each:∀s∈r.names,s.length≤1048576
def FSm(F:List Rl):Prop:=F.length≤1048576∧∀r∈F,RSm r
theorem Wd.range_old{M:List Nat}{W w:World}{O:List Qc}{b q:Nat}{cs:List Value}(hr:W.rangeAt b q cs)(hM:b∉M)(h:Wd M W O w):w.rangeAt b q cs:=fun j v hv=>h.cell_old (hr j v hv) hM
theorem Wd.cell_range{M:List Nat}{W w:World}{O:List Qc}{b q j:Nat}{cs:List Value}{v:Value}(hr:W.rangeAt b q cs)(hv:cs[j]? =some v)(hM:b∉M)(h:Wd M W O w):w.cell? ⟨b,q+j,none⟩=some v:=h.cell_old (hr j v hv) hM
section
variable {P:Program}{ops:Array Oper}{C:World→Prop}{N:Nat}{E:Env}{o:Oper}{d:Nat}
theorem Qm{t e:TypeId}{x y:Operand}{b q n c s bytes:Nat}{k:IntKind}{m:Int}[hT:Sl P t e s bytes](ho:o.op=.indexAddr t x y)(hd:o.dst=some d)(hN:d<N)(hw:Qj ops E o=some true)(hx:ev E x=some (.slice (some ⟨b,q,none⟩) n c))(hy:ev E y=some (.int k m))(hj:0≤m∧m<n):oE P ops C N E ((d,.pointer (some ⟨b,q+m.toNat*s,none⟩))::E) o:=by
 obtain⟨j,rfl⟩:∃j:Nat,m=(j:Int):=⟨m.toNat,by omega⟩;exact QY ho hd hN hw hx hy (by omega)
theorem J2{t e:TypeId}{x y:Operand}{b q n c bytes:Nat}{k:IntKind}{m:Int}[hT:Sl P t e 1 bytes](ho:o.op=.indexAddr t x y)(hd:o.dst=some d)(hN:d<N)(hw:Qj ops E o=some true)(hx:ev E x=some (.slice (some ⟨b,q,none⟩) n c))(hy:ev E y=some (.int k m))(hj:0≤m∧m<n):oE P ops C N E ((d,.pointer (some ⟨b,q+m.toNat,none⟩))::E) o:=by
 have:=Qm (P:=P) (C:=C) ho hd hN hw hx hy hj;rwa [Nat.mul_one] at this
end
def X1(r:Rl)(early:List Rl)(n:Nat):Int:=
 if !(QG r.name) then 7
 else if decide (0≤VU early r.name) then 8
 else if !(inB r.kind 1 10) then 5
 else if !(Vd r.kind r.size r.big r.mn r.mx r.stop r.count r.elem r.bs.length r.names.length r.parts.length) then 6
 else if r.kind==1&&((r.bs.length:Int)==0) then 10
 else if decide (16<(r.bs.length:Int)) then 3
 else if r.kind==7&&((r.names.length:Int) != (r.parts.length:Int)) then 9
 else if (r.kind==7&&((r.parts.length:Int)==0)) then 10
 else if (r.kind==8&&decide ((r.parts.length:Int)<2)) then 10
 else if decide (12<(r.parts.length:Int)) then 2
 else if !(Qs r.kind r.size r.mn r.mx r.stop r.count r.elem r.parts n) then 4
 else 0
theorem Vk{a0:Value}{k size mn mx stop count elem:Int}{big:Bool}{Ab An Ap:Option Addr}{nb cb nn cn np cp n:Nat}{parts:List Int}{w:World}(hk:inB k 1 10=true)(hn:n≤1048576)(hp:Rd w w.heap.size 1 Ap np (iv parts))(hnp:np≤1048576):
  Calls Tryz.prog 149 #[.agg #[a0,.int .i64 k,.slice Ab nb cb,.int .i64 size,.bool big,.int .i64 mn,.int .i64 mx,.int .i64 stop,.int .i64 count,.int .i64 elem,.slice An nn cn,.slice Ap np cp],.int .i64 (n:Int)] w fun e w'=>e=.returned (.bool (Qs k size mn mx stop count elem parts n))∧Below w.heap.size w w':=by
 have hk':1≤k∧k≤10:=by unfold inB at hk;simpa using hk
 rcases (show k=1∨k=2∨k=3∨k=4∨k=5∨k=6∨k=7∨k=8∨k=9∨k=10 by omega) with rfl|rfl|rfl|rfl|rfl|rfl|rfl|rfl|rfl|rfl
 ·exact Qce w hn hp hnp
 ·exact Qcr w hn
 ·exact QbN w hn
 ·exact QbD w hn
 ·exact QaH w hn
 ·exact Qc7 w hn
 ·exact Qbe w hn hp hnp
 ·exact Qcb w hn hp hnp
 ·exact Qcv w hn
 ·exact Qan w hn
open Go.ChangeShapes Go.WideShapes Go.ChangeAt Go.RowKit Go.Deep
def nmW(ns:List (List UInt8)):Nat:=(ns.map fun x=>x.length+1).sum
theorem QcX{ns:List (List UInt8)}{x:List UInt8}(h:x∈ns):x.length+1≤nmW ns:=by
 induction ns with
 |nil=>cases h
 |cons y r ih=>
  unfold nmW at*
  simp only[List.map_cons,List.sum_cons]
  rcases List.mem_cons.1 h with rfl|h
  ·omega
  ·have:=ih h;omega
theorem Qdv(ns:List (List UInt8)):ns.length≤nmW ns:=by
 induction ns with
 |nil=>simp [nmW]
 |cons y r ih=>
  unfold nmW at*
  simp only[List.map_cons,List.sum_cons,List.length_cons]
  omega
def ruW(r:Rl):Nat:=r.name.length+r.bs.length+nmW r.names+r.parts.length+1
theorem QeE{r:Rl}(h:ruW r≤1048576):RSm r:=by
 unfold ruW at h
 exact⟨by omega,by omega,by have:=Qdv r.names;omega,by omega,fun s hs=>by have:=QcX hs;omega⟩
section
variable {H:Type}{enc:TypeId×Value→H}{W:World}
theorem Q7O(ss:List ByteArray):Rows.uptoBulkAll (strs (H:=H) ss)=nmW (ss.map fun s=>s.data.toList):=by
 induction ss with
 |nil=>rfl
 |cons s r ih=>
  have e:strs (H:=H) (s::r)=DataW.lit (.string s.data.toList)::strs r:=by simp [strs]
  rw[e]
  simp only[Rows.uptoBulkAll,Rows.uptoBulk,List.map_cons]
  rw[ih]
  simp [nmW]
set_option maxRecDepth 100000 in
theorem Q3P{fuel:Nat}{cs:List Value}{x:DataW H×List MemPlace}(h:DataW.trod enc Tryz.prog W 0 (fun _=>true) true fuel 27 cs=some x):
  ∃(A:Option Addr) (n c:Nat) (ns:List (List UInt8)),cs=[.slice A n c]∧Rd W W.heap.size 1 A n (sv ns)∧n≤c∧nmW ns+1≤Rows.uptoBulk x.1:=by
 rcases open_strings Tryz.underlying27 Tryz.underlying9 (by kernel_rfl) h with ⟨hcs,hx⟩|⟨a,len,cap,ss,hcs,_,hl,hm,hz,hx,hcell,_⟩
 ·exact⟨none,0,0,[],hcs,⟨rfl,fun h=>absurd h (Nat.lt_irrefl _)⟩,Nat.le_refl _,by simp [nmW];exact Xx x.1⟩
 ·subst hx
  have hz':ss.length=cap:=by simpa using hz
  refine⟨some a,len,cap,(ss.take len).map (fun s=>s.data.toList),hcs,⟨by simp [sv];omega,fun hn=>?_⟩,hl,?_⟩
  ·have h0:=hcell 0 (by omega)
   have hs:a.spot=none:=by simpa [Addr.add] using World.cell?_spot h0
   obtain⟨b,o,sp⟩:=a
   simp only at hs
   subst hs;refine⟨b,o,rfl,World.block_lt_of_cell? W _ (by simpa [Addr.add] using h0),fun j u hu=>?_⟩
   have e:(⟨b,o,none⟩:Addr).add j=⟨b,o+j,none⟩:=by unfold Addr.add;split<;>simp_all
   rw[← e]
   simp only[sv,List.map_map,List.getElem?_map,List.getElem?_take] at hu
   split at hu
   ·rename_i hj
    have hjl:j<ss.length:=by omega
    rw[List.getElem?_eq_getElem hjl] at hu
    simp only[Option.map_some,Option.some.injEq,Function.comp] at hu
    rw[hcell j hjl,List.getD_eq_getElem?_getD,List.getElem?_eq_getElem hjl];rw[← hu]
    rfl
   ·simp at hu
  ·simp only[Rows.uptoBulk]
   rw[Q7O (ss.take len)]
   omega
set_option maxRecDepth 100000 in
theorem Q3F{fuel:Nat}{cs:List Value}{x:DataW H×List MemPlace}(h:DataW.trod enc Tryz.prog W 0 (fun _=>true) true fuel 25 cs=some x):
  ∃(A:Option Addr) (n c:Nat) (bs:List UInt8),cs=[.slice A n c]∧Rd W W.heap.size 1 A n (bv bs)∧n≤c∧bs.length=n∧n+1≤Rows.uptoBulk x.1:=by
 rcases open_ints Tryz.underlying25 Tryz.underlying5 (by kernel_rfl) h with ⟨hcs,hx⟩|⟨a,len,cap,zs,hcs,_,hl,hm,hz,hx,hcell,hwz⟩
 ·exact⟨none,0,0,[],hcs,Rd.nil_,Nat.le_refl _,rfl,Xx x.1⟩
 ·subst hx
  have hz':zs.length=cap:=by simpa using hz
  have hr:=YJ hl hz' hcell;obtain⟨bs,hbl,hbe⟩:=Yb (zs.take len) (fun n hn=>hwz n (List.mem_of_mem_take hn));rw[hbe] at hr
  have hbl':bs.length=len:=by rw[hbl,List.length_take];omega
  refine⟨_,_,_,bs,hcs,hr,hl,hbl',?_⟩;have h1:=Q1b (lits (H:=H) .u8 (zs.take len))
  simp only[Rows.uptoBulk]
  simp only[lits,List.length_map,List.length_take] at h1
  simp only[lits]
  omega
theorem Q6t{α:Type}(n:Nat)(P:Nat→α→Prop)(h:∀i,i<n→∃x,P i x):∃l:List α,l.length=n∧∀i x,l[i]? =some x→P i x:=by
 induction n with
 |zero=>exact⟨[],rfl,fun i x h=>by simp at h⟩
 |succ n ih=>
  obtain⟨l,hl,hp⟩:=ih fun i hi=>h i (by omega)
  obtain⟨x,hx⟩:=h n (by omega);refine⟨l++[x],by simp [hl],fun i y hy=>?_⟩
  by_cases hi:i<l.length
  ·rw[List.getElem?_append_left hi] at hy;exact hp i y hy
  ·rw[List.getElem?_append_right (by omega)] at hy;obtain⟨k,hk⟩:∃k,i - l.length=k:=⟨_,rfl⟩;rw[hk] at hy
   cases k with
   |zero=>
    simp at hy;subst hy;obtain rfl:i=n:=by omega
    exact hx
   |succ k=>simp at hy
set_option maxRecDepth 100000 in
theorem Q5r{fuel:Nat}{cs:List Value}{x:DataW H×List MemPlace}(h:DataW.trod enc Tryz.prog W 0 (fun _=>true) true fuel 48 cs=some x):
  ∃(A:Option Addr) (n c:Nat) (l:List Int),cs=[.slice A n c]∧Rd W W.heap.size 1 A n (iv l)∧n≤c∧l.length=n∧n+1≤Rows.uptoBulk x.1:=by
 rcases open_ints Tryz.underlying48 Tryz.underlying3 (by kernel_rfl) h with ⟨hcs,hx⟩|⟨a,len,cap,zs,hcs,_,hl,hm,hz,hx,hcell,hwz⟩
 ·exact⟨none,0,0,[],hcs,⟨rfl,fun h=>absurd h (Nat.lt_irrefl _)⟩,Nat.le_refl _,rfl,Xx x.1⟩
 ·subst hx
  have hz':zs.length=cap:=by simpa using hz
  refine⟨_,_,_,zs.take len,hcs,YJ hl hz' hcell,hl,by rw[List.length_take];omega,?_⟩;have h1:=Q1b (lits (H:=H) .i64 (zs.take len))
  simp only[Rows.uptoBulk]
  simp only[lits,List.length_map,List.length_take] at h1
  simp only[lits]
  omega
theorem Qc6(b o j:Nat):(⟨b,o,none⟩:Addr).add j=⟨b,o+j,none⟩:=by unfold Addr.add;split<;>simp_all
set_option maxRecDepth 100000 in
set_option maxHeartbeats 2000000 in
theorem Q4W{fuel:Nat}{cs:List Value}{x:DataW H×List MemPlace}(h:DataW.trod enc Tryz.prog W 0 (fun _=>true) true fuel 65 cs=some x):
  ∃(r:Rl) (sb sn sp:Value),cs=ruC r sb sn sp∧YN W W.heap.size r sb sn sp∧ruW r≤Rows.uptoBulk x.1:=by
 obtain⟨xs,n,rfl,rfl,hl,hlen,hf⟩:=DataW.trod_struct Tryz.underlying65 h
 obtain⟨y0,y1,y2,y3,y4,y5,y6,y7,y8,y9,y10,y11,rfl⟩:∃y0 y1 y2 y3 y4 y5 y6 y7 y8 y9 y10 y11,xs=[y0,y1,y2,y3,y4,y5,y6,y7,y8,y9,y10,y11]:=by
  match xs,hlen with
  |[y0,y1,y2,y3,y4,y5,y6,y7,y8,y9,y10,y11],_=>exact⟨y0,y1,y2,y3,y4,y5,y6,y7,y8,y9,y10,y11,rfl⟩
 have hC:Tryz.prog.cellsOf 65=12:=by kernel_rfl
 rw[hC] at hl
 obtain⟨c0,c1,c2,c3,c4,c5,c6,c7,c8,c9,c10,c11,rfl⟩:∃c0 c1 c2 c3 c4 c5 c6 c7 c8 c9 c10 c11,cs=[c0,c1,c2,c3,c4,c5,c6,c7,c8,c9,c10,c11]:=by
  match cs,hl with
  |[c0,c1,c2,c3,c4,c5,c6,c7,c8,c9,c10,c11],_=>exact⟨c0,c1,c2,c3,c4,c5,c6,c7,c8,c9,c10,c11,rfl⟩
 have k0:Tryz.prog.cellsOf 48=1:=by kernel_rfl
 have k1:Tryz.prog.cellsOf 27=1:=by kernel_rfl
 have k2:Tryz.prog.cellsOf 25=1:=by kernel_rfl
 have k3:Tryz.prog.cellsOf 4=1:=by kernel_rfl
 have k4:Tryz.prog.cellsOf 3=1:=by kernel_rfl
 have k5:Tryz.prog.cellsOf 9=1:=by kernel_rfl
 have f0:DataW.trod enc Tryz.prog W 0 (fun _=>true) true n 9 [c0]=some y0:=by have h:=hf 0 _ rfl;simpa [k5] using h
 have f1:DataW.trod enc Tryz.prog W 0 (fun _=>true) true n 3 [c1]=some y1:=by have h:=hf 1 _ rfl;simpa [k4] using h
 have f2:DataW.trod enc Tryz.prog W 0 (fun _=>true) true n 25 [c2]=some y2:=by have h:=hf 2 _ rfl;simpa [k2] using h
 have f3:DataW.trod enc Tryz.prog W 0 (fun _=>true) true n 3 [c3]=some y3:=by have h:=hf 3 _ rfl;simpa [k4] using h
 have f4:DataW.trod enc Tryz.prog W 0 (fun _=>true) true n 4 [c4]=some y4:=by have h:=hf 4 _ rfl;simpa [k3] using h
 have f5:DataW.trod enc Tryz.prog W 0 (fun _=>true) true n 3 [c5]=some y5:=by have h:=hf 5 _ rfl;simpa [k4] using h
 have f6:DataW.trod enc Tryz.prog W 0 (fun _=>true) true n 3 [c6]=some y6:=by have h:=hf 6 _ rfl;simpa [k4] using h
 have f7:DataW.trod enc Tryz.prog W 0 (fun _=>true) true n 3 [c7]=some y7:=by have h:=hf 7 _ rfl;simpa [k4] using h
 have f8:DataW.trod enc Tryz.prog W 0 (fun _=>true) true n 3 [c8]=some y8:=by have h:=hf 8 _ rfl;simpa [k4] using h
 have f9:DataW.trod enc Tryz.prog W 0 (fun _=>true) true n 3 [c9]=some y9:=by have h:=hf 9 _ rfl;simpa [k4] using h
 have f10:DataW.trod enc Tryz.prog W 0 (fun _=>true) true n 27 [c10]=some y10:=by have h:=hf 10 _ rfl;simpa [k1] using h
 have f11:DataW.trod enc Tryz.prog W 0 (fun _=>true) true n 48 [c11]=some y11:=by have h:=hf 11 _ rfl;simpa [k0] using h
 obtain⟨n0,e0,z0⟩:=DataW.trod_string Tryz.underlying9 f0;obtain⟨n1,e1,_,w1⟩:=DataW.trod_int Tryz.underlying3 f1;obtain⟨A2,l2,p2,n2,e2,r2,q2,s2,u2⟩:=Q3F f2;obtain⟨n3,e3,_,w3⟩:=DataW.trod_int Tryz.underlying3 f3;obtain⟨n4,e4,_⟩:=DataW.trod_bool Tryz.underlying4 f4;obtain⟨n5,e5,_,w5⟩:=DataW.trod_int Tryz.underlying3 f5;obtain⟨n6,e6,_,w6⟩:=DataW.trod_int Tryz.underlying3 f6;obtain⟨n7,e7,_,w7⟩:=DataW.trod_int Tryz.underlying3 f7;obtain⟨n8,e8,_,w8⟩:=DataW.trod_int Tryz.underlying3 f8;obtain⟨n9,e9,_,w9⟩:=DataW.trod_int Tryz.underlying3 f9;obtain⟨A10,l10,p10,n10,e10,r10,q10,u10⟩:=Q3P f10;obtain⟨A11,l11,p11,n11,e11,r11,q11,s11,u11⟩:=Q5r f11
 simp only[List.cons.injEq,and_true] at e0 e1 e2 e3 e4 e5 e6 e7 e8 e9 e10 e11
 subst e0 e1 e2 e3 e4 e5 e6 e7 e8 e9 e10 e11;refine⟨⟨n0.data.toList,n1,n2,n3,n4,n5,n6,n7,n8,n9,n10,n11⟩,_,_,_,by simp [ruC],⟨A2,l2,p2,A10,l10,p10,A11,l11,p11,rfl,rfl,rfl,q2,q10,q11,r2,r10,r11⟩,?_⟩;have b1:=Xx y1.1;have b3:=Xx y3.1;have b4:=Xx y4.1;have b5:=Xx y5.1;have b6:=Xx y6.1;have b7:=Xx y7.1;have b8:=Xx y8.1;have b9:=Xx y9.1
 simp only[z0,ruW,List.map_cons,List.map_nil,Rows.uptoBulk,Rows.uptoBulkAll]
 omega
set_option maxRecDepth 100000 in
theorem Q2W{fuel:Nat}{cs:List Value}{x:DataW H×List MemPlace}(h:DataW.trod enc Tryz.prog W 0 (fun _=>true) true fuel 22 cs=some x)(hb:Rows.uptoBulk x.1≤1048576):
  ∃(A:Option Addr) (n c:Nat) (F:List Rl),cs=[.slice A n c]∧Xm W W.heap.size A n F∧FSm F∧n≤c:=by
 rcases DataW.trod_slice Tryz.underlying22 h with ⟨hcs,hx⟩|⟨a,l,c,elems,rest,n',hfu,hcs,hx,_,hl',hm,hel0,hel,_,_⟩
 ·exact⟨none,0,0,[],hcs,⟨rfl,fun h0=>absurd h0 (Nat.lt_irrefl 0)⟩,⟨Nat.zero_le _,fun r hr=>by cases hr⟩,Nat.le_refl _⟩
 ·have hC:Tryz.prog.cellsOf 65=12:=by kernel_rfl
  have each:∀i,i<l→∃y:Rl×(Value×Value×Value),(∃cs',W.cells? 0 (a.add (i*12)) 12=some cs'∧cs'=ruC y.1 y.2.1 y.2.2.1 y.2.2.2)∧YN W W.heap.size y.1 y.2.1 y.2.2.1 y.2.2.2∧(∀e,(elems.map (·.1))[i]? =some e→ruW y.1≤Rows.uptoBulk e):=by
   intro i hlt;have hel':=hel i hlt;rw[hC,List.getElem?_eq_getElem (show i<elems.length by omega)] at hel';obtain⟨cs',hc,ht⟩:=Option.bind_eq_some_iff.1 hel';obtain⟨r,sb,sn,sp,hcs',hd,hw⟩:=Q4W ht
   exact⟨(r,(sb,sn,sp)),⟨cs',hc,hcs'⟩,hd,fun e he=>by
    rw[List.getElem?_map,List.getElem?_eq_getElem (show i<elems.length by omega)] at he
    simp only[Option.map_some,Option.some.injEq] at he
    subst he
    exact hw⟩
  obtain⟨ys,hyl,hys⟩:=Q6t l _ each
  have hsum:∀(L:List (Rl×(Value×Value×Value))) (E:List (DataW H)),L.length=E.length→(∀(i:Nat) (y:Rl×(Value×Value×Value)) (e:DataW H),L[i]? =some y→E[i]? =some e→ruW y.1≤Rows.uptoBulk e)→L.length≤Rows.uptoBulkAll E∧∀y∈L,ruW y.1≤Rows.uptoBulkAll E:=by
   intro L
   induction L with
   |nil=>intro E _ _;exact⟨Nat.zero_le _,fun y hy=>by cases hy⟩
   |cons y L ih=>
    intro E hE h
    cases E with
    |nil=>cases hE
    |cons e E=>
     have h1:=h 0 y e rfl rfl
     have h2:=ih E (by simpa using hE) fun i z e' hz he=>h (i+1) z e' (by simpa using hz) (by simpa using he)
     have h3:1≤ruW y.1:=by unfold ruW;omega
     simp only[Rows.uptoBulkAll,List.length_cons]
     refine⟨by omega,fun z hz=>?_⟩
     rcases List.mem_cons.1 hz with rfl|hz
     ·omega
     ·have:=h2.2 z hz;omega
  have hs:=hsum ys (elems.map (·.1)) (by simp [hyl,hel0]) fun i y e hy he=>(hys i y hy).2.2 e he
  have hbk:Rows.uptoBulkAll (elems.map (·.1))≤1048576:=by
   rw[hx] at hb
   simp only[Rows.uptoBulk] at hb
   omega
  refine⟨some a,l,c,ys.map (·.1),hcs,⟨by rw[List.length_map,hyl],fun h0=>?_⟩,⟨by rw[List.length_map];omega,fun r hr=>?_⟩,hl'⟩
  ·have hy0:ys[0]? =some ys[0]:=List.getElem?_eq_getElem (by omega);obtain⟨⟨cs0,hc0,hcs0⟩,_⟩:=hys 0 _ hy0;obtain⟨_,_,hat0⟩:=World.cells?_some hc0;have hcell0:=hat0 0 (by omega)
   have hsp:a.spot=none:=by rw[hcs0] at hcell0;simpa [Addr.add] using World.cell?_spot hcell0
   obtain⟨b,o,sp⟩:=a
   simp only at hsp
   subst hsp
   have hadd:∀i j,((⟨b,o,none⟩:Addr).add (i*12)).add j=⟨b,o+i*12+j,none⟩:=fun i j=>by rw[Qc6,Qc6]
   refine⟨b,o,rfl,?_,fun i r hr=>?_⟩
   ·rw[hcs0] at hcell0;have:=World.block_lt_of_cell? W _ hcell0
    simpa [Addr.add] using this
   ·rw[List.getElem?_map] at hr
    cases hy:ys[i]? with
    |none=>rw[hy] at hr;simp at hr
    |some y=>
     rw[hy] at hr
     simp only[Option.map_some,Option.some.injEq] at hr
     subst hr;obtain⟨⟨cs1,hc1,hcs1⟩,hd,_⟩:=hys i y hy;obtain⟨_,_,hat⟩:=World.cells?_some hc1;rw[hcs1] at hat;have q0:=hat 0 (by omega);have q1:=hat 1 (by omega);have q2:=hat 2 (by omega);have q3:=hat 3 (by omega);have q4:=hat 4 (by omega);have q5:=hat 5 (by omega);have q6:=hat 6 (by omega);have q7:=hat 7 (by omega);have q8:=hat 8 (by omega);have q9:=hat 9 (by omega);have q10:=hat 10 (by omega);have q11:=hat 11 (by omega);rw[hadd] at q0 q1 q2 q3 q4 q5 q6 q7 q8 q9 q10 q11;exact⟨_,_,_,⟨by simpa using q0,by simpa using q1,by simpa using q2,by simpa using q3,by simpa using q4,by simpa using q5,by simpa using q6,by simpa using q7,by simpa using q8,by simpa using q9,by simpa using q10,by simpa using q11⟩,hd⟩
  ·obtain⟨y,hy,rfl⟩:=List.mem_map.1 hr;exact QeE (by have:=hs.2 y hy;omega)
set_option maxRecDepth 100000 in
theorem K1{base:Nat}{v:Value}{d:DataW H}{p:List MemPlace}(hv:Value.okWide Tryz.prog W .any base 24 v)(h:DataW.Trod enc Tryz.prog W 0 (fun _=>true) true 24 v d p)(hb:Rows.uptoBulk d≤1048576):
  ∃(A:Option Addr) (n c:Nat) (F:List Rl),v=.agg #[.slice A n c]∧Xm W W.heap.size A n F∧FSm F∧n≤c:=by
 obtain⟨cs,rfl,hsz⟩:=okWide_struct Tryz.underlying24 hv;obtain⟨fuel,hf⟩:=h;obtain⟨xs,n,rfl,hx,hl,hlen,hf'⟩:=DataW.trod_struct Tryz.underlying24 hf
 obtain⟨y0,rfl⟩:∃y0,xs=[y0]:=by
  match xs,hlen with
  |[y0],_=>exact⟨y0,rfl⟩
 have hC:Tryz.prog.cellsOf 24=1:=by kernel_rfl
 have k0:Tryz.prog.cellsOf 22=1:=by kernel_rfl
 rw[hC] at hl
 obtain⟨c0,hc0⟩:∃c0,(Value.agg cs).cells.toList=[c0]:=by
  match (Value.agg cs).cells.toList,hl with
  |[c0],_=>exact⟨c0,rfl⟩
 have f0:DataW.trod enc Tryz.prog W 0 (fun _=>true) true n 22 [c0]=some y0:=by
  have h:=hf' 0 _ rfl;rw[hc0] at h
  simpa [k0] using h
 have hx1:d=.agg [y0.1]:=congrArg (·.1) hx
 obtain⟨A,n1,c1,F,e,h1,h2,h3⟩:=Q2W f0 (by
  rw[hx1] at hb
  simp only[Rows.uptoBulk,Rows.uptoBulkAll] at hb
  omega)
 simp only[List.cons.injEq,and_true] at e
 subst e;refine⟨A,n1,c1,F,?_,h1,h2,h3⟩;have h4:cs.toList=[.slice A n1 c1]:=hc0
 have h5:cs=#[.slice A n1 c1]:=by
  apply Array.toList_inj.1
  exact h4
 rw[h5]
end
def Q34:List (List UInt8):=[[108,105,116,101,114,97,108],[110,117,109,98,101,114],[100,101,99,105,109,97,108],[98,121,116,101,115],[117,110,116,105,108],[99,111,117,110,116,101,100],[115,101,113,117,101,110,99,101],[99,104,111,105,99,101],[114,101,112,101,97,116],[98,108,111,98]]
def Q3u(k:Int):List UInt8:=Q34.getD (k - 1).toNat []
def hx(n:Nat):UInt8:=UInt8.ofNat (if n<10 then 48+n else 87+n)
def QeQ(c:UInt8):List UInt8:=[hx (c.toNat / 16),hx (c.toNat % 16)]
def Q3Q(bs:List UInt8):List UInt8:=(bs.map QeQ).flatten
def Q1B(F:List Rl)(x:Int):List UInt8:=match F[x.toNat]? with|some r=>r.name|none=>[]
theorem Q2s{F:List Rl}{x:Int}{r:Rl}(h:F[x.toNat]? =some r):Q1B F x=r.name:=by unfold Q1B;rw[h]
def Qdg:List UInt8:=[98,105,103]
def Q2r:List UInt8:=[108,105,116,116,108,101]
def Zj(F:List Rl)(r:Rl)(i:Nat):List UInt8:=(if r.kind==7 then (if r.names.getD i []==[] then [45] else r.names.getD i [])++[58] else [])++Q1B F (r.parts.getD i 0)
def ifW(u:Bool)(s:List UInt8):List (List UInt8):=if u then [s] else []
def Q2V(F:List Rl)(r:Rl):List (List UInt8):=
 [r.name,Q3u r.kind]++ifW (r.kind==1) (Q3Q r.bs)++ifW (Jn r.kind) (Lib.itoa r.stop)++ifW (Jl r.kind) (Lib.itoa r.size)++ifW (r.kind==2) (if r.big then Qdg else Q2r)++ifW (r.kind==2) (Lib.itoa r.mn)++ifW (JJ r.kind) (Lib.itoa r.mx)++ifW (QP r.kind) (Q1B F r.count)++ifW (Ka r.kind) (Q1B F r.elem)
def Ya(F:List Rl)(r:Rl):List (List UInt8):=Q2V F r++(List.range r.parts.length).map (Zj F r)
def Q3z(F:List Rl)(r:Rl):List UInt8:=Lib.join (Ya F r) [32]++[10]
def Q2a(F:List Rl):List UInt8:=(F.map (Q3z F)).flatten
structure Rs where
 ws:List (List UInt8)
 bad:Bool
 ns:List (List UInt8)
def QaW(x:List UInt8):Int:=match Lib.atoiAll x with|.ok v=>v|.range=>Lib.atoiSat x|_=>0
def numOk(x:List UInt8):Bool:=match Lib.atoiAll x with|.ok v=>!(decide (10<x.length))&&(!(decide (v<0))&&Lib.itoa v==x)|_=>false
theorem Q3W(sep y:List UInt8)(r:List (List UInt8)):Lib.joinTail sep (y::r)=sep++(y++Lib.joinTail sep r):=by
 unfold Lib.joinTail
 rw[List.map_cons,List.flatten_cons,List.append_assoc]
structure GV(w:World):Prop where
 pow : Lib.TabIs Tryz.prog w "internal/strconv.uint64pow10" .u64 Lib.pow10Tab
 sp : Lib.TabIs Tryz.prog w "strings.asciiSpace" .u8 Lib.asciiSpaceTab
 ml:∃m,w.cell? ⟨2,0,none⟩=some (.int .i64 m)
theorem Qak{w w':World}{p:Addr}{v:Value}(h:w.cell? p=some v)(hb:Below w.heap.size w w'):w'.cell? p=some v:=(hb.cell (Km h)).trans h
theorem Q6w{n:String}{g:Nat}{k:IntKind}{zs:List Int}{w w':World}(hg:Tryz.prog.globalNamed n=some g)(h:Lib.TabIs Tryz.prog w n k zs)(h0:0<zs.length)(hb:Below w.heap.size w w'):Lib.TabIs Tryz.prog w' n k zs:=
 var?_below hb hg (Km (h.cell hg 0 h0)) h
theorem GV.on{w w':World}(h:GV w)(hb:Below w.heap.size w w'):GV w':=
 ⟨Q6w (g:=3) (by kernel_rfl) h.pow (by rw[Lib.pow10Tab_length];decide) hb,Q6w (g:=0) (by kernel_rfl) h.sp (by rw[Lib.asciiSpaceTab_length];decide) hb,h.ml.imp fun m hm=>Qak hm hb⟩
theorem Q7H(w:World)(os:Array Obj):Below w.heap.size w { w with heap:=w.heap++os }:=⟨rfl,rfl,rfl,by simp,fun k hk=>by simp only;rw[Array.getElem?_append_left hk]⟩
theorem VG{w:World}(hg:GV w){n:Int}(h0:-9223372036854775808≤n)(h1:n≤9223372036854775807):Calls Tryz.prog 114 #[.int .i64 n] w fun e w'=>e=.returned (.string ⟨(Lib.itoa n).toArray⟩)∧Below w.heap.size w w':=by
 refine(Tryz.strconv_Itoa n h0 h1 w hg.pow).mono ?_
 rintro e w' ⟨rfl,k,os,rfl⟩
 exact⟨rfl,Below.trans (Kh w k) (Q7H (w.drewN k) os)⟩
theorem Q5S{w:World}{A:Option Addr}{n c:Nat}{ws:List (List UInt8)}(hr:Rd w w.heap.size 1 A n (sv ws))(hc:n≤c)(hn:n≤1048576)(hl:(Lib.join ws [32]).length≤1000000):Calls Tryz.prog 128 #[.slice A n c,.string ⟨#[32]⟩] w fun e w'=>e=.returned (.string ⟨(Lib.join ws [32]).toArray⟩)∧Below w.heap.size w w':=by
 have hlen:ws.length=n:=by have:=hr.len;rw[XB] at this;exact this
 by_cases h0:0<n
 ·obtain⟨b,o,rfl,hb,hcells⟩:=hr.2 h0
  have hmap:(ws.map fun l=>(⟨l.toArray⟩:ByteArray)).map (fun s=>s.data.toList)=ws:=by
   rw[List.map_map];exact List.map_id'' (fun l=>by simp) ws
  have h:=Tryz.strings_Join b o c (ws.map fun l=>⟨l.toArray⟩) ⟨#[32]⟩ w (fun j x hx=>hcells j _ (by
   unfold sv
   rw[List.getElem?_map] at hx ⊢
   cases hw:ws[j]? with
   |none=>rw[hw] at hx;cases hx
   |some l=>rw[hw] at hx;cases hx;rfl)) hb (by rw[List.length_map];omega) (by rw[List.length_map];omega) (by rw[hmap];show (Lib.join ws [32]).length≤_;omega)
  rw[hmap,List.length_map,hlen] at h;exact h
 ·obtain rfl:n=0:=by omega
  obtain rfl:ws=[]:=List.eq_nil_of_length_eq_zero hlen
  exact(Tryz.strings_Join_none A c ⟨#[32]⟩ w).mono fun e w' ⟨he,hw⟩=>⟨by rw[he];rfl,hw▸Below.refl _ _⟩
def Q7a : List (String × DataW Unit) := [("math/bits.deBruijn32tab", Rows.laid_math_bits_deBruijn32tab), ("math/bits.deBruijn64tab", Rows.laid_math_bits_deBruijn64tab), ("internal/strconv.uint64pow10", Rows.laid_internal_strconv_uint64pow10), ("unicode.White_Space", Rows.laid_unicode_White_Space), ("strings.asciiSpace", Rows.laid_strings_asciiSpace)]
set_option maxRecDepth 1000000 in
theorem Q7z{W:World}(hL:laidMet Tryz.prog Q7a W)(hsh:W.ShapedOpen Tryz.prog):GV W:=by
 have t2:=hL.tail.tail
 have t4:=t2.tail.tail
 refine⟨?_,?_,?_⟩
 ·exact Lib.tabIs_of_head (g:=3) (zs:=Lib.pow10Tab) (n:=20) (by kernel_rfl) (by kernel_rfl) Tryz.underlying231 Tryz.underlying143 (by kernel_rfl) (by kernel_rfl) t2
 ·exact Lib.tabIs_of_head (g:=0) (zs:=Lib.asciiSpaceTab) (n:=256) (by kernel_rfl) (by kernel_rfl) Tryz.underlying169 Tryz.underlying5 (by kernel_rfl) (by kernel_rfl) t4
 ·exact cell_of_shapedOpen_int (zero:=#[.int .i64 0]) (t:=3) hsh (of_decide_eq_true (by kernel_rfl)) (by kernel_rfl) rfl (by kernel_rfl) (by kernel_rfl) Tryz.underlying3
def QdZ:DataW Unit→List Value
 |.lit (.int k n)=>[.int k n]
 |_=>[]
def Qes:DataW Unit→List Value
 |.agg l=>l.flatMap QdZ
 |d=>QdZ d
def Q4Q:DataW Unit→List Value
 |.agg l=>l.flatMap Qes
 |_=>[]
def QeG:List Value:=[9,13,1,32,133,101,160,5760,5600,8192,8202,1,8232,8233,1,8239,8287,48,12288,12288,1].map fun(z:Int)=>Value.int .u16 z
def Qbu(h:Array Obj)(g:Nat)(cs:Array Value):Array Obj:=h.modify g fun
 |.cells _ t frozen=>.cells cs t frozen
 |o=>o
noncomputable def Zc(os:Os):World:=
 let N:=(World.settled Tryz.prog os).heap.size
 let w0:=World.holding Tryz.prog os ⟨#[.cells #[.slice (some ⟨N+1,0,none⟩) 7 7,.slice none 0 0,.int .i64 2] 208,.cells QeG.toArray 211],#[],[]⟩
 let h1:=Qbu w0.heap 8 (Q4Q Rows.laid_math_bits_deBruijn32tab).toArray
 let h2:=Qbu h1 9 (Q4Q Rows.laid_math_bits_deBruijn64tab).toArray
 let h3:=Qbu h2 3 (Q4Q Rows.laid_internal_strconv_uint64pow10).toArray
 let h4:=Qbu h3 1 #[.pointer (some ⟨N,0,none⟩)]
 let h5:=Qbu h4 0 (Q4Q Rows.laid_strings_asciiSpace).toArray
 { w0 with heap:=h5 }
noncomputable abbrev N0:Nat:=(World.settled Tryz.prog default).heap.size
section
variable (os:Os)(args:Array Value)
theorem Qd3 : LaidIn Tryz.prog ((Zc os).forCall (fun _ _ => 0) ⟨#[], args, []⟩).memory [("math/bits.deBruijn32tab", Rows.laid_math_bits_deBruijn32tab), ("math/bits.deBruijn64tab", Rows.laid_math_bits_deBruijn64tab), ("internal/strconv.uint64pow10", Rows.laid_internal_strconv_uint64pow10)] [8, 9, 3] :=
 LaidIn.of_run _ 8 (by kernel_rfl) (by kernel_rfl) (by kernel_rfl) (by kernel_rfl)
theorem Qd8 : LaidIn Tryz.prog ((Zc os).forCall (fun _ _ => 0) ⟨#[], args, []⟩).memory [("unicode.White_Space", Rows.laid_unicode_White_Space)] [1, N0, N0 + 1] :=
 LaidIn.of_run _ 8 (by kernel_rfl) (by kernel_rfl) (by kernel_rfl) (by kernel_rfl)
theorem QdK : LaidIn Tryz.prog ((Zc os).forCall (fun _ _ => 0) ⟨#[], args, []⟩).memory [("strings.asciiSpace", Rows.laid_strings_asciiSpace)] [0] :=
 LaidIn.of_run _ 8 (by kernel_rfl) (by kernel_rfl) (by kernel_rfl) (by kernel_rfl)
theorem Q1L:laidMet Tryz.prog Q7a ((Zc os).forCall (fun _ _=>0) ⟨#[],args,[]⟩).memory:=
 (((Qd3 os args).append (Qd8 os args) (by kernel_rfl)).append (QdK os args) (by kernel_rfl)).met
end
theorem Qn{cs us:List Value}(h:us.length=cs.length):ZD cs 0 us=us:=by
 refine List.ext_getElem? fun i=>?_
 rw[VL]
 split
 ·rw[Nat.sub_zero]
 ·next hn=>
  rw[List.getElem?_eq_none (by omega),List.getElem?_eq_none (by omega)]
theorem QaZ(s:Nat):∀(l:List Value) (k:Nat) (a:List Value),(l.zipIdx k).foldl (fun cs (x:Value×Nat)=>cs.setIfInBounds (0*s+x.2) x.1) a.toArray=(ZD a k l).toArray:=by
 intro l
 induction l with
 |nil=>intro k a;rfl
 |cons x l ih=>
  intro k a
  rw[List.zipIdx_cons,List.foldl_cons,ZD]
  have e:a.toArray.setIfInBounds (0*s+k) x=(a.set k x).toArray:=by simp
  show (l.zipIdx (k+1)).foldl _ (a.toArray.setIfInBounds (0*s+k) x)=_
  rw[e]
  exact ih (k+1) (a.set k x)
theorem Qb5{s:Nat}{v:Value}{cs:List Value}{z:Array Value}(hv:v.cells=cs.toArray)(h:cs.length=s)(hz:z.size=s):Instr.fill (fun i=>some (i*s,s)) z [(0,v)]=some cs.toArray:=by
 have e:v.cells.zipIdx.foldl (fun cs (x:Value×Nat)=>cs.setIfInBounds (0*s+x.2) x.1) z=cs.toArray:=by
  rw[hv,← Array.foldl_toList]
  have h1:=QaZ s cs 0 z.toList
  rw[Array.toArray_toList] at h1
  rw[Qn (cs:=z.toList) (us:=cs) (by rw[h,Array.length_toList,hz])] at h1
  simpa using h1
 have hs1:v.cells.size=s:=by rw[hv,List.size_toArray,h]
 have hc:¬(v.cells.size≠s∨0*s+v.cells.size>z.size):=by rw[hs1,hz];omega
 unfold Instr.fill
 dsimp only
 rw[if_neg (by simpa using hc)]
 unfold Instr.fill
 exact congrArg some e
section
variable {P:Program}{ops:Array Oper}{N:Nat}{E:Env}{o:Oper}{M:List Nat}{W:World}{O:List Qc}
theorem Q8o{t e:TypeId}{size bytes:Nat}(hT:SlT P t e size bytes)(hs:size≤1000){v:Value}{cs:List Value}(hv:v.cells=cs.toArray)(hl:cs.length=size)(w:World):
  (Instr.buildSlice t 1 #[(0,v)]).run P w=.ok (.slice (some ⟨w.heap.size,0,none⟩) 1 1) (w.alloc (.cells cs.toArray e)):=by
 obtain⟨i,z,hi,hz,hsz,hby,hzs⟩:=hT.info
 have hp:=hT.pos
 refine run_buildSlice w t e 1 _ cs.toArray i z hT.und hi hz (by rw[hsz];omega) (by rw[hsz];omega) ?_
 rw[hsz]
 exact Qb5 hv hl (by simp)
theorem XF[dq:DQ]{t e:TypeId}{size bytes:Nat}{x:Operand}{v:Value}{cs:List Value}[hT:Sl P t e size bytes](ho:o.op=.buildSlice t 1 #[(0,x)])(hw:Qj ops E o=some true)(hx:ev E x=some v)(hv:v.cells=cs.toArray)(hl:cs.length=size)(hs:size≤1000):
  uE P ops N M W E O o Nat (fun b=>.slice (some ⟨b,0,none⟩) 1 1) (fun b=>.blk b (.cells cs.toArray e (0,0))::O) (fun _=>True):=
 J8 (xs:=[(0,x)]) (vs:=[(0,v)]) ho hw (by simp [evp,hx]) (fun w=>Q8o hT.h hs hv hl w)
end
def cnt(s:Nat→Bool):Nat→Nat
 |0=>0
 |n+1=>cnt s n+if s n then 1 else 0
theorem Q5M(s:Nat→Bool):∀n,cnt s n≤n
 |0=>Nat.le_refl _
 |n+1=>by have:=Q5M s n;unfold cnt;split<;>omega
theorem Q6Z{s t:Nat→Bool}:∀n,(∀i,i<n→s i=true→t i=true)→cnt s n≤cnt t n
 |0,_=>Nat.le_refl _
 |n+1,h=>by
  have h1:=Q6Z n (fun i hi=>h i (by omega));have h2:=h n (by omega)
  unfold cnt
  cases hs:s n with
  |false=>simp;omega
  |true=>rw[h2 hs];simp;omega
theorem Q38{s t:Nat→Bool}:∀n,(∀i,i<n→s i=true→t i=true)→(∃i,i<n∧s i=false∧t i=true)→cnt s n<cnt t n
 |0,_,⟨i,hi,_⟩=>absurd hi (by omega)
 |n+1,h,⟨i,hi,h0,h1⟩=>by
  have hm:=Q6Z n (fun i hi=>h i (by omega))
  unfold cnt
  by_cases hin:i=n
  ·subst hin;rw[h0,h1]
   simp
   omega
  ·have:=Q38 n (fun i hi=>h i (by omega)) ⟨i,by omega,h0,h1⟩
   cases hs:s n with
   |false=>simp;omega
   |true=>rw[h n (by omega) hs];simp;omega
section
variable {n:Nat}{s:Nat→Nat→Bool}
theorem Q9j(hst:∀t,(∀i,i<n→s (t+1) i=s t i)→∀i,i<n→s (t+2) i=s (t+1) i){t:Nat}(h:∀i,i<n→s (t+1) i=s t i):∀k i,i<n→s (t+k+1) i=s (t+k) i
 |0,i,hi=>h i hi
 |k+1,i,hi=>hst (t+k) (Q9j hst h k) i hi
theorem Q74(hm:∀t i,i<n→s t i=true→s (t+1) i=true)(hst:∀t,(∀i,i<n→s (t+1) i=s t i)→∀i,i<n→s (t+2) i=s (t+1) i):∀i,i<n→s (n+1) i=s n i:=by
 have key:∀t,t≤n+1→(∃u,u<t∧∀i,i<n→s (u+1) i=s u i)∨t≤cnt (s t) n:=by
  intro t
  induction t with
  |zero=>intro _;right;omega
  |succ t ih=>
   intro ht
   rcases ih (by omega) with ⟨u,hu,h⟩|hc
   ·exact .inl ⟨u,by omega,h⟩
   ·by_cases he:∀i,i<n→s (t+1) i=s t i
    ·exact .inl ⟨t,by omega,he⟩
    ·right
     have hex:∃i,i<n∧s t i=false∧s (t+1) i=true:=by
      refine Classical.byContradiction fun hne=>he fun i hi=>?_
      cases h0:s t i with
      |true=>rw[hm t i hi h0]
      |false=>
       cases h1:s (t+1) i with
       |false=>rfl
       |true=>exact absurd ⟨i,hi,h0,h1⟩ hne
     have:=Q38 n (hm t) hex
     omega
 rcases key (n+1) (Nat.le_refl _) with ⟨u,hu,h⟩|hc
 ·intro i hi;have:=Q9j hst h (n - u) i hi;rwa [show u+(n - u)=n by omega] at this
 ·have:=Q5M (s (n+1)) n
  omega
end
theorem ZI(l:List Bool)(k i:Nat)(b:Bool)(hk:k<l.length):(l.set k b).getD i false=if i=k then b else l.getD i false:=by
 rw[List.getD_eq_getElem?_getD,List.getElem?_set,List.getD_eq_getElem?_getD]
 by_cases h:k=i
 ·subst h;simp [hk]
 ·rw[if_neg h,if_neg (fun e=>h e.symm)]
def iter{α:Type}(f:α→α):Nat→α→α
 |0,a=>a
 |n+1,a=>f (iter f n a)
def LeB(a b:List Bool):Prop:=a.length=b.length∧∀i:Nat,a.getD i false=true→b.getD i false=true
theorem LeB.refl(a:List Bool):LeB a a:=⟨rfl,fun _ h=>h⟩
theorem LeB.trans{a b c:List Bool}(h:LeB a b)(k:LeB b c):LeB a c:=⟨h.1.trans k.1,fun i hi=>k.2 i (h.2 i hi)⟩
theorem LeB.set(a:List Bool)(i:Nat)(b:Bool)(h:a.getD i false=true→b=true):LeB a (a.set i b):=by
 refine⟨by simp,fun j hj=>?_⟩
 by_cases hi:i<a.length
 ·rw[ZI _ _ _ _ hi]
  split
  ·next e=>subst e;exact h hj
  ·exact hj
 ·rw[List.set_eq_of_length_le (by omega)];exact hj
theorem Vt{β:Type}{f:List Bool→β→List Bool}(h:∀a b,LeB a (f a b)):∀(l:List β) (a:List Bool),LeB a (l.foldl f a)
 |[],a=>LeB.refl a
 |b::l,a=>(h a b).trans (Vt h l (f a b))
theorem Yh{β:Type}{f:List Bool→β→List Bool}(h:∀a b,LeB a (f a b)):∀(l:List β) (a:List Bool) (b:β),b∈l→∃a',LeB a a'∧LeB (f a' b) (l.foldl f a)
 |[],_,_,hb=>by cases hb
 |x::l,a,b,hb=>by
  rcases List.mem_cons.1 hb with rfl|hb
  ·exact⟨a,LeB.refl a,Vt h l _⟩
  ·obtain⟨a',h1,h2⟩:=Yh h l (f a x) b hb;exact⟨a',(h a x).trans h1,h2⟩
theorem Q19{f:List Bool→List Bool}(h:∀a,LeB a (f a))(a:List Bool):∀n,LeB a (iter f n a)
 |0=>LeB.refl a
 |n+1=>(Q19 h a n).trans (h _)
theorem Q00{a b:List Bool}(hl:a.length=b.length)(h:∀i,i<a.length→a.getD i false=b.getD i false):a=b:=by
 refine List.ext_getElem hl fun i h1 h2=>?_
 have:=h i h1
 simpa [List.getD_eq_getElem?_getD,List.getElem?_eq_getElem h1,List.getElem?_eq_getElem h2] using this
theorem Q1y{f:List Bool→List Bool}(h:∀a,LeB a (f a))(a:List Bool):f (iter f a.length a)=iter f a.length a:=by
 have hlen:∀t,(iter f t a).length=a.length:=fun t=>(Q19 h a t).1.symm
 refine Q00 (by rw[← (h _).1]) fun i hi=>?_
 have hi':i<a.length:=by rw[← (h _).1,hlen] at hi;exact hi
 exact Q74 (n:=a.length) (s:=fun t i=>(iter f t a).getD i false) (fun t i _=>(h (iter f t a)).2 i)
  (fun t ht i hi=>by
   have e:iter f (t+1) a=iter f t a:=Q00 (by rw[hlen,hlen]) fun j hj=>ht j (by rw[hlen] at hj;exact hj)
   show (f (iter f (t+1) a)).getD i false=(iter f (t+1) a).getD i false
   rw[e]
   show (iter f (t+1) a).getD i false=_
   rw[e]) i hi'
theorem Ke{f:List Bool→List Bool}(h:∀a,LeB a (f a))(a:List Bool):∀k,iter f (a.length+k) a=iter f a.length a
 |0=>rfl
 |k+1=>by
  show f (iter f (a.length+k) a)=_
  rw[Ke h a k,Q1y h a]
def bg(F:List Rl)(i:Nat):List Nat:=match F[i]? with|none=>[]|some r=>(Xs r.kind r.count r.elem r.parts).map Int.toNat
inductive Rch (F:List Rl):Nat→Nat→Prop
 |one {i j:Nat} (h:j∈bg F i):Rch F i j
 |more {i j k:Nat} (h:Rch F i j) (hk:k∈bg F j):Rch F i k
theorem Rch.trans{F:List Rl}{i j k:Nat}(h:Rch F i j)(h':Rch F j k):Rch F i k:=by
 induction h' with
 |one hk=>exact .more h hk
 |more _ hk ih=>exact .more ih hk
def Bd(F:List Rl):Prop:=∀i,∀x∈bg F i,x<F.length
theorem Rch.lt{F:List Rl}(hb:Bd F){i j:Nat}(h:Rch F i j):j<F.length:=by
 cases h with
 |one h=>exact hb _ _ h
 |more _ h=>exact hb _ _ h
def Qda(out:List Bool)(l:List Nat):List Bool:=l.foldl (fun o x=>o.set x true) out
theorem QcW(out:List Bool)(l:List Nat):LeB out (Qda out l):=Vt (fun a b=>LeB.set a b true (fun _=>rfl)) l out
theorem Qb6{out:List Bool}{l:List Nat}{x:Nat}(hx:x∈l)(hl:x<out.length):(Qda out l).getD x false=true:=by
 obtain⟨a',h1,h2⟩:=Yh (f:=fun o x=>o.set x true) (fun a b=>LeB.set a b true (fun _=>rfl)) l out x hx;exact h2.2 x (by rw[ZI _ _ _ _ (by rw[← h1.1];exact hl),if_pos rfl])
theorem Qdt{l:List Nat}:∀{out:List Bool} {x:Nat},(Qda out l).getD x false=true→out.getD x false=true∨x∈l:=by
 induction l with
 |nil=>intro out x h;exact .inl h
 |cons y l ih=>
  intro out x h
  rcases ih (out:=out.set y true) h with h1|h1
  ·by_cases hy:y<out.length
   ·rw[ZI _ _ _ _ hy] at h1
    split at h1
    ·next e=>subst e;exact .inr List.mem_cons_self
    ·exact .inl h1
   ·rw[List.set_eq_of_length_le (by omega)] at h1;exact .inl h1
  ·exact .inr (List.mem_cons_of_mem _ h1)
def JE(F:List Rl)(st:Nat)(out:List Bool)(i:Nat):List Bool:=if i=st∨out.getD i false=true then Qda out (bg F i) else out
def VE(F:List Rl)(st:Nat)(out:List Bool):List Bool:=(List.range F.length).foldl (JE F st) out
def V4(F:List Rl)(st:Nat):List Bool:=iter (VE F st) (F.length+1) (List.replicate F.length false)
theorem Q1e(F:List Rl)(st:Nat)(out:List Bool)(i:Nat):LeB out (JE F st out i):=by
 unfold JE
 split
 ·exact QcW _ _
 ·exact LeB.refl _
theorem Y8(F:List Rl)(st:Nat)(out:List Bool):LeB out (VE F st out):=Vt (Q1e F st) _ _
theorem Q8j(F:List Rl)(st:Nat):(V4 F st).length=F.length:=by
 have:=(Q19 (Y8 F st) (List.replicate F.length false) (F.length+1)).1;rw[List.length_replicate] at this;exact this.symm
def Snd(F:List Rl)(st:Nat)(out:List Bool):Prop:=∀i:Nat,out.getD i false=true→Rch F st i
theorem Q40{F:List Rl}{st i:Nat}{out:List Bool}(h:Snd F st out):Snd F st (JE F st out i):=by
 intro j hj
 unfold JE at hj
 split at hj
 ·next hc=>
  rcases Qdt hj with h1|h1
  ·exact h j h1
  ·rcases hc with rfl|hc
   ·exact .one h1
   ·exact .more (h i hc) h1
 ·exact h j hj
theorem Q1v{α β:Type}{f:α→β→α}{p:α→Prop}(h:∀a b,p a→p (f a b)):∀(l:List β) (a:α),p a→p (l.foldl f a)
 |[],a,ha=>ha
 |b::l,a,ha=>Q1v h l (f a b) (h a b ha)
theorem Q36{α:Type}{f:α→α}{p:α→Prop}(h:∀a,p a→p (f a)){a:α}(ha:p a):∀n,p (iter f n a)
 |0=>ha
 |n+1=>h _ (Q36 h ha n)
theorem VH{F:List Rl}(hb:Bd F){st:Nat}(hs:st<F.length)(j:Nat):(V4 F st).getD j false=true↔Rch F st j:=by
 constructor
 ·intro h;refine Q36 (f:=VE F st) (p:=Snd F st) (fun a ha=>Q1v (fun a b ha=>Q40 ha) _ _ ha) (a:=List.replicate F.length false) ?_ (F.length+1) j h;intro i hi
  simp only[List.getD_eq_getElem?_getD,List.getElem?_replicate] at hi
  split at hi<;>simp at hi
 ·have hrest:VE F st (V4 F st)=V4 F st:=by
   have h1:=Ke (Y8 F st) (List.replicate F.length false) 1;rw[List.length_replicate] at h1;have h2:=Q1y (Y8 F st) (List.replicate F.length false);rw[List.length_replicate] at h2
   unfold V4
   rw[h1];exact h2
  have hclosed:∀i x,i<F.length→(i=st∨(V4 F st).getD i false=true)→x∈bg F i→(V4 F st).getD x false=true:=by
   intro i x hi hc hx;obtain⟨a',h1,h2⟩:=Yh (Q1e F st) (List.range F.length) (V4 F st) i (List.mem_range.2 hi)
   have h3:(JE F st a' i).getD x false=true:=by
    unfold JE
    rw[if_pos (hc.imp id (h1.2 i))];exact Qb6 hx (by rw[← h1.1,Q8j];exact hb i x hx)
   have h4:=h2.2 x h3;have:(VE F st (V4 F st)).getD x false=true:=h4;rwa [hrest] at this
  intro h
  induction h with
  |one h=>exact hclosed _ _ hs (.inl rfl) h
  |more h hk ih=>exact hclosed _ _ (h.lt hb) (.inr ih) hk
end Go.Proofs.YtphkhfdmlcnoeaaGreatDoor
