import Derived.Test.YtphkhfdmlcnoeaaGreatDoorQ9
import Derived.Test.YtphkhfdmlcnoeaaGreatDoorQ11
import Derived.WalkSmall
namespace Go.Proofs.YtphkhfdmlcnoeaaGreatDoor
set_option linter.unusedVariables false
set_option linter.unusedSimpArgs false
set_option maxRecDepth 1000000
set_option maxHeartbeats 32000000
open Go.RowKit
section
variable {Ab An Ap:Option Addr}{M:List Nat}{O:List Qf}{W w:World}{b bytes c cb cn cp n q:Nat}{cs:List Value}{e t:TypeId}{k:IntKind}{m:Int}{r:Rl}{sb sn sp:Value}{x y:Operand}
abbrev ruC(r:Rl)(sb sn sp:Value):List Value:=[.string ⟨r.name.toArray⟩,.int .i64 r.kind,sb,.int .i64 r.size,.bool r.big,.int .i64 r.mn,.int .i64 r.mx,.int .i64 r.stop,.int .i64 r.count,.int .i64 r.elem,sn,sp]
structure RuL(W:World)(r:Rl)(Ab:Option Addr)(cb:Nat)(An:Option Addr)(cn:Nat)(Ap:Option Addr)(cp:Nat):Prop where
 cb:r.bs.length<=cb
 cn:r.names.length<=cn
 cp:r.parts.length<=cp
 b:Rd W W.heap.size 1 Ab r.bs.length (bv r.bs)
 n:Rd W W.heap.size 1 An r.names.length (sv r.names)
 p:Rd W W.heap.size 1 Ap r.parts.length (iv r.parts)
theorem RuL.on(h:RuL W r Ab cb An cn Ap cp)(hb:Below W.heap.size W w):RuL w r Ab cb An cn Ap cp:=
 ⟨h.cb,h.cn,h.cp,(h.b.below hb).more hb.size,(h.n.below hb).more hb.size,(h.p.below hb).more hb.size⟩
theorem KM.lists(h:KM W W.heap.size r sb sn sp):∃Ab cb An cn Ap cp,sb=.slice Ab r.bs.length cb/\sn=.slice An r.names.length cn/\sp=.slice Ap r.parts.length cp/\RuL W r Ab cb An cn Ap cp:=by
 obtain⟨Ab,nb,cb,An,nn,cn,Ap,np,cp,rfl,rfl,rfl,h1,h2,h3,h4,h5,h6⟩:=h;have e1:r.bs.length=nb:=by have:=h4.len;rw[XD] at this;exact this
 have e2:r.names.length=nn:=by have:=h5.len;rw[Z8] at this;exact this
 have e3:r.parts.length=np:=by have:=h6.len;rw[K2] at this;exact this
 subst e1;subst e2;subst e3;exact Qor
theorem KL.range{o:Nat}(h:KL w b o r sb sn sp):w.rangeAt b o (ruC r sb sn sp):=by
 obtain⟨h0,h1,h2,h3,h4,h5,h6,h7,h8,h9,h10,h11⟩:=h;intro j v hv;match j,hv with
 |0,hv=>cases hv;exact h0
 |1,hv=>cases hv;exact h1
 |2,hv=>cases hv;exact h2
 |3,hv=>cases hv;exact h3
 |4,hv=>cases hv;exact h4
 |5,hv=>cases hv;exact h5
 |6,hv=>cases hv;exact h6
 |7,hv=>cases hv;exact h7
 |8,hv=>cases hv;exact h8
 |9,hv=>cases hv;exact h9
 |10,hv=>cases hv;exact h10
 |11,hv=>cases hv;exact h11
 |j+12,hv=>cases hv
theorem X3.rule{A:Option Addr}{i:Nat}{F:List Rl}(h:X3 W W.heap.size A n F)(hi:i<n):∃b o r Ab cb An cn Ap cp,A=some ⟨b,o,none⟩/\F[i]? =some r/\W.rangeAt b (o+i*12) (ruC r (.slice Ab r.bs.length cb) (.slice An r.names.length cn) (.slice Ap r.parts.length cp))/\RuL W r Ab cb An cn Ap cp:=by
 obtain⟨b,o,r,sb,sn,sp,e,hb,hr,hc,hs⟩:=h.at_ hi;obtain⟨Ab,cb,An,cn,Ap,cp,rfl,rfl,rfl,hl⟩:=hs.lists;exact⟨b,o,r,Ab,cb,An,cn,Ap,cp,e,hr,hc.range,hl⟩
structure RSm(r:Rl):Prop where
 name:r.name.length<=1048576
 bs:r.bs.length<=1048576
 names:r.names.length<=1048576
 parts:r.parts.length<=1048576
 each:∀s∈r.names,s.length<=1048576
def FSm(F:List Rl):Prop:=F.length<=1048576/\∀r∈F,RSm r
theorem Wd.range_old(hr:W.rangeAt b q cs)(hM:b∉M)(h:Wd M W O w):w.rangeAt b q cs:=fun j v hv=>h.cell_old (hr j v hv) hM
theorem Wd.cell_range{j:Nat}{v:Value}(hr:W.rangeAt b q cs)(hv:cs[j]? =some v)(hM:b∉M)(h:Wd M W O w):w.cell? ⟨b,q+j,none⟩=some v:=h.cell_old (hr j v hv) hM
section
variable {P:Program}{ops:Array Oper}{C:World->Prop}{N:Nat}{E:Env}{o:Oper}{d:Nat}
theorem QF{s:Nat}[hT:Sl P t e s bytes](ho:o.op=.indexAddr t x y)(hd:o.dst=some d)(hN:d<N)(hw:Qm ops E o=some true)(hx:ev E x=some (.slice (some ⟨b,q,none⟩) n c))(hy:ev E y=some (.int k m))(hj:0<=m/\m<n):oE P ops C N E ((d,.pointer (some ⟨b,q+m.toNat*s,none⟩))::E) o:=by
 obtain⟨j,rfl⟩:∃j:Nat,m=(j:Int):=⟨m.toNat,by omega⟩;exact QM ho hd hN hw hx hy Q2
theorem Zp[hT:Sl P t e 1 bytes](ho:o.op=.indexAddr t x y)(hd:o.dst=some d)(hN:d<N)(hw:Qm ops E o=some true)(hx:ev E x=some (.slice (some ⟨b,q,none⟩) n c))(hy:ev E y=some (.int k m))(hj:0<=m/\m<n):oE P ops C N E ((d,.pointer (some ⟨b,q+m.toNat,none⟩))::E) o:=by
 have:=QF (P:=P) (C:=C) ho hd hN hw hx hy hj;rwa [Nat.mul_one] at this
end
def XM(r:Rl)(early:List Rl)(n:Nat):Int:=
 if !(Qk r.name) then 7
 else if decide (0<=XN early r.name) then 8
 else if !(inB r.kind 1 10) then 5
 else if !(Y4 r.kind r.size r.big r.mn r.mx r.stop r.count r.elem r.bs.length r.names.length r.parts.length) then 6
 else if r.kind==1&&((r.bs.length:Int)==0) then 10
 else if decide (16<(r.bs.length:Int)) then 3
 else if r.kind==7&&((r.names.length:Int) != (r.parts.length:Int)) then 9
 else if (r.kind==7&&((r.parts.length:Int)==0)) then 10
 else if (r.kind==8&&decide ((r.parts.length:Int)<2)) then 10
 else if decide (12<(r.parts.length:Int)) then 2
 else if !(QR r.kind r.size r.mn r.mx r.stop r.count r.elem r.parts n) then 4
 else 0
theorem Qao{a0:Value}{k size mn mx stop count elem:Int}{big:Bool}{nb nn np:Nat}{parts:List Int}(hk:inB k 1 10=true)(hn:n<=1048576)(hp:Rd w w.heap.size 1 Ap np (iv parts))(hnp:np<=1048576):
  Calls Tryz.prog 149 #[.agg #[a0,.int .i64 k,.slice Ab nb cb,.int .i64 size,.bool big,.int .i64 mn,.int .i64 mx,.int .i64 stop,.int .i64 count,.int .i64 elem,.slice An nn cn,.slice Ap np cp],.int .i64 (n:Int)] w fun e w'=>e=.returned (.bool (QR k size mn mx stop count elem parts n))/\Below w.heap.size w w':=by
 have hk':1<=k/\k<=10:=by unfold inB at hk;simpa using hk
 rcases (show k=1\/k=2\/k=3\/k=4\/k=5\/k=6\/k=7\/k=8\/k=9\/k=10 by omega) with rfl|rfl|rfl|rfl|rfl|rfl|rfl|rfl|rfl|rfl
 ·exact Qlu w hn hp hnp
 ·exact QjG w hn
 ·exact QlX w hn
 ·exact Qnc w hn
 ·exact Qmc w hn
 ·exact Qn8 w hn
 ·exact Qn7 w hn hp hnp
 ·exact QkN w hn hp hnp
 ·exact Qlb w hn
 ·exact QiU w hn
end
open Go.ChangeShapes Go.WideShapes Go.ChangeAt Go.RowKit Go.Deep
def nmW(ns:List (List UInt8)):Nat:=(ns.map fun x=>x.length+1).sum
theorem Qpj{ns:List (List UInt8)}{x:List UInt8}(h:x∈ns):x.length+1<=nmW ns:=by
 induction ns with
 |nil=>cases h
 |cons y r ih=>
  unfold nmW at*
  simp only[List.map_cons,List.sum_cons];rcases List.mem_cons.1 h with rfl|h
  ·omega
  ·have:=ih h;omega
theorem Qpr(ns:List (List UInt8)):ns.length<=nmW ns:=by
 induction ns with
 |nil=>simp [nmW]
 |cons y r ih=>
  unfold nmW at*
  exact QuT
def ruW(r:Rl):Nat:=r.name.length+r.bs.length+nmW r.names+r.parts.length+1
theorem Qul{r:Rl}(h:ruW r<=1048576):RSm r:=by
 unfold ruW at h;exact⟨by omega,by omega,by have:=Qpr r.names;omega,by omega,fun s hs=>by have:=Qpj hs;omega⟩
section
variable {H:Type}{enc:TypeId×Value->H}{W:World}
theorem Qeh(ss:List ByteArray):Rows.uptoBulkAll (strs (H:=H) ss)=nmW (ss.map fun s=>s.data.toList):=by
 induction ss with
 |nil=>rfl
 |cons s r ih=>
  have e:strs (H:=H) (s::r)=DataW.lit (.string s.data.toList)::strs r:=by simp [strs]
  rw[e];simp only[Rows.uptoBulkAll,Rows.uptoBulk,List.map_cons];rw[ih];simp [nmW]
theorem Q7t{fuel:Nat}{cs:List Value}{x:DataW H×List MemPlace}(h:DataW.trod enc Tryz.prog W 0 (fun _=>true) true fuel 27 cs=some x):
  ∃(A:Option Addr) (n c:Nat) (ns:List (List UInt8)),cs=[.slice A n c]/\Rd W W.heap.size 1 A n (sv ns)/\n<=c/\nmW ns+1<=Rows.uptoBulk x.1:=by
 rcases open_strings Tryz.underlying27 Tryz.underlying9 Q5 h with ⟨hcs,hx⟩|⟨a,len,cap,ss,hcs,_,hl,hm,hz,hx,hcell,_⟩
 ·exact⟨none,0,0,[],hcs,QqD,Nat.le_refl _,by simp [nmW];exact ZD x.1⟩
 ·subst hx
  have hz':ss.length=cap:=by simpa using hz
  refine⟨some a,len,cap,(ss.take len).map (fun s=>s.data.toList),hcs,⟨by simp [sv];omega,fun hn=>?_⟩,hl,?_⟩
  ·have h0:=hcell 0 Q2
   have hs:a.spot=none:=by simpa [Addr.add] using World.cell?_spot h0
   obtain⟨b,o,sp⟩:=a;simp only at hs;subst hs;refine⟨b,o,rfl,World.block_lt_of_cell? W _ QjU,fun j u hu=>?_⟩;have e:(⟨b,o,none⟩:Addr).add j=⟨b,o+j,none⟩:=by unfold Addr.add;split<;>simp_all
   rw[<- e];simp only[sv,List.map_map,List.getElem?_map,List.getElem?_take] at hu;split at hu
   ·rename_i hj
    have hjl:j<ss.length:=by omega
    rw[List.getElem?_eq_getElem hjl] at hu;simp only[Option.map_some,Option.some.injEq,Function.comp] at hu;rw[hcell j hjl,List.getD_eq_getElem?_getD,List.getElem?_eq_getElem hjl];rw[<- hu];rfl
   ·simp at hu
  ·simp only[Rows.uptoBulk]
   rw[Qeh (ss.take len)];omega
theorem Q7J{fuel:Nat}{cs:List Value}{x:DataW H×List MemPlace}(h:DataW.trod enc Tryz.prog W 0 (fun _=>true) true fuel 25 cs=some x):
  ∃(A:Option Addr) (n c:Nat) (bs:List UInt8),cs=[.slice A n c]/\Rd W W.heap.size 1 A n (bv bs)/\n<=c/\bs.length=n/\n+1<=Rows.uptoBulk x.1:=by
 rcases open_ints Tryz.underlying25 Tryz.underlying5 Q5 h with ⟨hcs,hx⟩|⟨a,len,cap,zs,hcs,_,hl,hm,hz,hx,hcell,hwz⟩
 ·exact Qur
 ·subst hx
  have hz':zs.length=cap:=by simpa using hz
  have hr:=Q2v hl hz' hcell;obtain⟨bs,hbl,hbe⟩:=Q1K (zs.take len) Qqr;rw[hbe] at hr;have hbl':bs.length=len:=by rw[hbl,List.length_take];omega
  refine⟨_,_,_,bs,hcs,hr,hl,hbl',?_⟩;have h1:=QkL;exact QoK
theorem Qbw{α:Type}(n:Nat)(P:Nat->α->Prop)(h:∀i,i<n->∃x,P i x):∃l:List α,l.length=n/\∀i x,l[i]? =some x->P i x:=by
 induction n with
 |zero=>exact⟨[],rfl,fun i x h=>by simp at h⟩
 |succ n ih=>
  obtain⟨l,hl,hp⟩:=ih fun i hi=>h i Q2;obtain⟨x,hx⟩:=h n Q2;refine⟨l++[x],by simp [hl],fun i y hy=>?_⟩;by_cases hi:i<l.length
  ·rw[List.getElem?_append_left hi] at hy;exact hp i y hy
  ·rw[List.getElem?_append_right Q2] at hy;obtain⟨k,hk⟩:∃k,i - l.length=k:=⟨_,rfl⟩;rw[hk] at hy
   cases k with
   |zero=>
    simp at hy;subst hy;obtain rfl:i=n:=by omega
    exact hx
   |succ k=>simp at hy
theorem Q9x{fuel:Nat}{cs:List Value}{x:DataW H×List MemPlace}(h:DataW.trod enc Tryz.prog W 0 (fun _=>true) true fuel 48 cs=some x):
  ∃(A:Option Addr) (n c:Nat) (l:List Int),cs=[.slice A n c]/\Rd W W.heap.size 1 A n (iv l)/\n<=c/\l.length=n/\n+1<=Rows.uptoBulk x.1:=by
 rcases open_ints Tryz.underlying48 Tryz.underlying3 Q5 h with ⟨hcs,hx⟩|⟨a,len,cap,zs,hcs,_,hl,hm,hz,hx,hcell,hwz⟩
 ·exact⟨none,0,0,[],hcs,QqD,Nat.le_refl _,rfl,ZD x.1⟩
 ·subst hx
  have hz':zs.length=cap:=by simpa using hz
  refine⟨_,_,_,zs.take len,hcs,Q2v hl hz' hcell,hl,by rw[List.length_take];omega,?_⟩;have h1:=Qcr (lits (H:=H) .i64 (zs.take len));exact QoK
theorem QjY(b o j:Nat):(⟨b,o,none⟩:Addr).add j=⟨b,o+j,none⟩:=by unfold Addr.add;split<;>simp_all
theorem QaM{fuel:Nat}{cs:List Value}{x:DataW H×List MemPlace}(h:DataW.trod enc Tryz.prog W 0 (fun _=>true) true fuel 65 cs=some x):
  ∃(r:Rl) (sb sn sp:Value),cs=ruC r sb sn sp/\KM W W.heap.size r sb sn sp/\ruW r<=Rows.uptoBulk x.1:=by
 obtain⟨xs,n,rfl,rfl,hl,hlen,hf⟩:=DataW.trod_struct Tryz.underlying65 h;obtain⟨y0,y1,y2,y3,y4,y5,y6,y7,y8,y9,y10,y11,rfl⟩:∃y0 y1 y2 y3 y4 y5 y6 y7 y8 y9 y10 y11,xs=[y0,y1,y2,y3,y4,y5,y6,y7,y8,y9,y10,y11]:=by
  match xs,hlen with
  |[y0,y1,y2,y3,y4,y5,y6,y7,y8,y9,y10,y11],_=>exact⟨y0,y1,y2,y3,y4,y5,y6,y7,y8,y9,y10,y11,rfl⟩
 have hC:Tryz.prog.cellsOf 65=12:=by kernel_rfl
 rw[hC] at hl;obtain⟨c0,c1,c2,c3,c4,c5,c6,c7,c8,c9,c10,c11,rfl⟩:∃c0 c1 c2 c3 c4 c5 c6 c7 c8 c9 c10 c11,cs=[c0,c1,c2,c3,c4,c5,c6,c7,c8,c9,c10,c11]:=by
  match cs,hl with
  |[c0,c1,c2,c3,c4,c5,c6,c7,c8,c9,c10,c11],_=>exact⟨c0,c1,c2,c3,c4,c5,c6,c7,c8,c9,c10,c11,rfl⟩
 have k0:Tryz.prog.cellsOf 48=1:=by kernel_rfl
 have k1:Tryz.prog.cellsOf 27=1:=by kernel_rfl
 have k2:Tryz.prog.cellsOf 25=1:=by kernel_rfl
 have k3:Tryz.prog.cellsOf 4=1:=by kernel_rfl
 have k4:Tryz.prog.cellsOf 3=1:=by kernel_rfl
 have k5:Tryz.prog.cellsOf 9=1:=by kernel_rfl
 have f0:DataW.trod enc Tryz.prog W 0 (fun _=>true) true n 9 [c0]=some y0:=by have h:=hf 0 _ rfl;simpa [k5] using h
 have f1:DataW.trod enc Tryz.prog W 0 (fun _=>true) true n 3 [c1]=some y1:=by have h:=hf 1 _ rfl;simpa [k4] using h
 have f2:DataW.trod enc Tryz.prog W 0 (fun _=>true) true n 25 [c2]=some y2:=by have h:=hf 2 _ rfl;simpa [k2] using h
 have f3:DataW.trod enc Tryz.prog W 0 (fun _=>true) true n 3 [c3]=some y3:=by have h:=hf 3 _ rfl;simpa [k4] using h
 have f4:DataW.trod enc Tryz.prog W 0 (fun _=>true) true n 4 [c4]=some y4:=by have h:=hf 4 _ rfl;simpa [k3] using h
 have f5:DataW.trod enc Tryz.prog W 0 (fun _=>true) true n 3 [c5]=some y5:=by have h:=hf 5 _ rfl;simpa [k4] using h
 have f6:DataW.trod enc Tryz.prog W 0 (fun _=>true) true n 3 [c6]=some y6:=by have h:=hf 6 _ rfl;simpa [k4] using h
 have f7:DataW.trod enc Tryz.prog W 0 (fun _=>true) true n 3 [c7]=some y7:=by have h:=hf 7 _ rfl;simpa [k4] using h
 have f8:DataW.trod enc Tryz.prog W 0 (fun _=>true) true n 3 [c8]=some y8:=by have h:=hf 8 _ rfl;simpa [k4] using h
 have f9:DataW.trod enc Tryz.prog W 0 (fun _=>true) true n 3 [c9]=some y9:=by have h:=hf 9 _ rfl;simpa [k4] using h
 have f10:DataW.trod enc Tryz.prog W 0 (fun _=>true) true n 27 [c10]=some y10:=by have h:=hf 10 _ rfl;simpa [k1] using h
 have f11:DataW.trod enc Tryz.prog W 0 (fun _=>true) true n 48 [c11]=some y11:=by have h:=hf 11 _ rfl;simpa [k0] using h
 obtain⟨n0,e0,z0⟩:=DataW.trod_string Tryz.underlying9 f0;obtain⟨n1,e1,_,w1⟩:=DataW.trod_int Tryz.underlying3 f1;obtain⟨A2,l2,p2,n2,e2,r2,q2,s2,u2⟩:=Q7J f2;obtain⟨n3,e3,_,w3⟩:=DataW.trod_int Tryz.underlying3 f3;obtain⟨n4,e4,_⟩:=DataW.trod_bool Tryz.underlying4 f4;obtain⟨n5,e5,_,w5⟩:=DataW.trod_int Tryz.underlying3 f5;obtain⟨n6,e6,_,w6⟩:=DataW.trod_int Tryz.underlying3 f6;obtain⟨n7,e7,_,w7⟩:=DataW.trod_int Tryz.underlying3 f7;obtain⟨n8,e8,_,w8⟩:=DataW.trod_int Tryz.underlying3 f8;obtain⟨n9,e9,_,w9⟩:=DataW.trod_int Tryz.underlying3 f9;obtain⟨A10,l10,p10,n10,e10,r10,q10,u10⟩:=Q7t f10;obtain⟨A11,l11,p11,n11,e11,r11,q11,s11,u11⟩:=Q9x f11;simp only[List.cons.injEq,and_true] at e0 e1 e2 e3 e4 e5 e6 e7 e8 e9 e10 e11;subst e0 e1 e2 e3 e4 e5 e6 e7 e8 e9 e10 e11;refine⟨⟨n0.data.toList,n1,n2,n3,n4,n5,n6,n7,n8,n9,n10,n11⟩,_,_,_,by simp [ruC],⟨A2,l2,p2,A10,l10,p10,A11,l11,p11,rfl,rfl,rfl,q2,q10,q11,r2,r10,r11⟩,?_⟩;have b1:=ZD y1.1;have b3:=ZD y3.1;have b4:=ZD y4.1;have b5:=ZD y5.1;have b6:=ZD y6.1;have b7:=ZD y7.1;have b8:=ZD y8.1;have b9:=ZD y9.1;simp only[z0,ruW,List.map_cons,List.map_nil,Rows.uptoBulk,Rows.uptoBulkAll];omega
theorem Q6t{fuel:Nat}{cs:List Value}{x:DataW H×List MemPlace}(h:DataW.trod enc Tryz.prog W 0 (fun _=>true) true fuel 22 cs=some x)(hb:Rows.uptoBulk x.1<=1048576):
  ∃(A:Option Addr) (n c:Nat) (F:List Rl),cs=[.slice A n c]/\X3 W W.heap.size A n F/\FSm F/\n<=c:=by
 rcases DataW.trod_slice Tryz.underlying22 h with ⟨hcs,hx⟩|⟨a,l,c,elems,rest,n',hfu,hcs,hx,_,hl',hm,hel0,hel,_,_⟩
 ·exact⟨none,0,0,[],hcs,⟨rfl,fun h0=>absurd h0 Qax⟩,⟨Nat.zero_le _,fun r hr=>by cases hr⟩,Nat.le_refl _⟩
 ·have hC:Tryz.prog.cellsOf 65=12:=by kernel_rfl
  have each:∀i,i<l->∃y:Rl×(Value×Value×Value),(∃cs',W.cells? 0 (a.add (i*12)) 12=some cs'/\cs'=ruC y.1 y.2.1 y.2.2.1 y.2.2.2)/\KM W W.heap.size y.1 y.2.1 y.2.2.1 y.2.2.2/\(∀e,(elems.map (·.1))[i]? =some e->ruW y.1<=Rows.uptoBulk e):=by
   intro i hlt;have hel':=hel i hlt;rw[hC,List.getElem?_eq_getElem (show i<elems.length by omega)] at hel';obtain⟨cs',hc,ht⟩:=Option.bind_eq_some_iff.1 hel';obtain⟨r,sb,sn,sp,hcs',hd,hw⟩:=QaM ht
   exact⟨(r,(sb,sn,sp)),⟨cs',hc,hcs'⟩,hd,fun e he=>by
    rw[List.getElem?_map,List.getElem?_eq_getElem (show i<elems.length by omega)] at he
    simp only[Option.map_some,Option.some.injEq] at he
    subst he
    exact hw⟩
  obtain⟨ys,hyl,hys⟩:=Qbw l _ each;have hsum:∀(L:List (Rl×(Value×Value×Value))) (E:List (DataW H)),L.length=E.length->(∀(i:Nat) (y:Rl×(Value×Value×Value)) (e:DataW H),L[i]? =some y->E[i]? =some e->ruW y.1<=Rows.uptoBulk e)->L.length<=Rows.uptoBulkAll E/\∀y∈L,ruW y.1<=Rows.uptoBulkAll E:=by
   intro L;induction L with
   |nil=>intro E _ _;exact⟨Nat.zero_le _,fun y hy=>by cases hy⟩
   |cons y L ih=>
    intro E hE h;cases E with
    |nil=>cases hE
    |cons e E=>
     have h1:=h 0 y e rfl rfl;have h2:=ih E (by simpa using hE) fun i z e' hz he=>h (i+1) z e' (by simpa using hz) (by simpa using he);have h3:1<=ruW y.1:=by unfold ruW;omega
     simp only[Rows.uptoBulkAll,List.length_cons];refine⟨by omega,fun z hz=>?_⟩;rcases List.mem_cons.1 hz with rfl|hz
     ·omega
     ·have:=h2.2 z hz;omega
  have hs:=hsum ys (elems.map (·.1)) (by simp [hyl,hel0]) fun i y e hy he=>(hys i y hy).2.2 e he;have hbk:Rows.uptoBulkAll (elems.map (·.1))<=1048576:=by
   rw[hx] at hb;simp only[Rows.uptoBulk] at hb;omega
  refine⟨some a,l,c,ys.map (·.1),hcs,⟨by rw[List.length_map,hyl],fun h0=>?_⟩,⟨by rw[List.length_map];omega,fun r hr=>?_⟩,hl'⟩
  ·have hy0:ys[0]? =some ys[0]:=List.getElem?_eq_getElem Q2;obtain⟨⟨cs0,hc0,hcs0⟩,_⟩:=hys 0 _ hy0;obtain⟨_,_,hat0⟩:=World.cells?_some hc0;have hcell0:=hat0 0 Q2
   have hsp:a.spot=none:=by rw[hcs0] at hcell0;simpa [Addr.add] using World.cell?_spot hcell0
   obtain⟨b,o,sp⟩:=a;simp only at hsp;subst hsp;have hadd:∀i j,((⟨b,o,none⟩:Addr).add (i*12)).add j=⟨b,o+i*12+j,none⟩:=fun i j=>by rw[QjY,QjY]
   refine⟨b,o,rfl,?_,fun i r hr=>?_⟩
   ·rw[hcs0] at hcell0;have:=World.block_lt_of_cell? W _ hcell0
    simpa [Addr.add] using this
   ·rw[List.getElem?_map] at hr
    cases hy:ys[i]? with
    |none=>rw[hy] at hr;simp at hr
    |some y=>
     rw[hy] at hr;simp only[Option.map_some,Option.some.injEq] at hr;subst hr;obtain⟨⟨cs1,hc1,hcs1⟩,hd,_⟩:=hys i y hy;obtain⟨_,_,hat⟩:=World.cells?_some hc1;rw[hcs1] at hat;have q0:=hat 0 Q2;have q1:=hat 1 Q2;have q2:=hat 2 Q2;have q3:=hat 3 Q2;have q4:=hat 4 Q2;have q5:=hat 5 Q2;have q6:=hat 6 Q2;have q7:=hat 7 Q2;have q8:=hat 8 Q2;have q9:=hat 9 Q2;have q10:=hat 10 Q2;have q11:=hat 11 Q2;rw[hadd] at q0 q1 q2 q3 q4 q5 q6 q7 q8 q9 q10 q11;exact⟨_,_,_,⟨by simpa using q0,by simpa using q1,by simpa using q2,by simpa using q3,by simpa using q4,by simpa using q5,by simpa using q6,by simpa using q7,by simpa using q8,by simpa using q9,by simpa using q10,by simpa using q11⟩,hd⟩
  ·obtain⟨y,hy,rfl⟩:=List.mem_map.1 hr;exact Qul (by have:=hs.2 y hy;omega)
theorem Qcb{base:Nat}{v:Value}{d:DataW H}{p:List MemPlace}(hv:Value.okWide Tryz.prog W .any base 24 v)(h:DataW.Trod enc Tryz.prog W 0 (fun _=>true) true 24 v d p)(hb:Rows.uptoBulk d<=1048576):
  ∃(A:Option Addr) (n c:Nat) (F:List Rl),v=.agg #[.slice A n c]/\X3 W W.heap.size A n F/\FSm F/\n<=c:=by
 obtain⟨cs,rfl,hsz⟩:=okWide_struct Tryz.underlying24 hv;obtain⟨fuel,hf⟩:=h;obtain⟨xs,n,rfl,hx,hl,hlen,hf'⟩:=DataW.trod_struct Tryz.underlying24 hf;obtain⟨y0,rfl⟩:∃y0,xs=[y0]:=by
  match xs,hlen with
  |[y0],_=>exact⟨y0,rfl⟩
 have hC:Tryz.prog.cellsOf 24=1:=by kernel_rfl
 have k0:Tryz.prog.cellsOf 22=1:=by kernel_rfl
 rw[hC] at hl;obtain⟨c0,hc0⟩:∃c0,(Value.agg cs).cells.toList=[c0]:=by
  match (Value.agg cs).cells.toList,hl with
  |[c0],_=>exact⟨c0,rfl⟩
 have f0:DataW.trod enc Tryz.prog W 0 (fun _=>true) true n 22 [c0]=some y0:=by
  have h:=hf' 0 _ rfl;rw[hc0] at h;simpa [k0] using h
 have hx1:d=.agg [y0.1]:=congrArg (·.1) hx
 obtain⟨A,n1,c1,F,e,h1,h2,h3⟩:=Q6t f0 (by
  rw[hx1] at hb
  simp only[Rows.uptoBulk,Rows.uptoBulkAll] at hb
  omega)
 simp only[List.cons.injEq,and_true] at e;subst e;refine⟨A,n1,c1,F,?_,h1,h2,h3⟩;have h4:cs.toList=[.slice A n1 c1]:=hc0;have h5:cs=#[.slice A n1 c1]:=by
  apply Array.toList_inj.1;exact h4
 rw[h5]
end
def JV:List (List UInt8):=[[108,105,116,101,114,97,108],[110,117,109,98,101,114],[100,101,99,105,109,97,108],[98,121,116,101,115],[117,110,116,105,108],[99,111,117,110,116,101,100],[115,101,113,117,101,110,99,101],[99,104,111,105,99,101],[114,101,112,101,97,116],[98,108,111,98]]
def Jm(k:Int):List UInt8:=JV.getD (k - 1).toNat []
def hx(n:Nat):UInt8:=UInt8.ofNat (if n<10 then 48+n else 87+n)
def Qpo(c:UInt8):List UInt8:=[hx (c.toNat / 16),hx (c.toNat % 16)]
def Q0u(bs:List UInt8):List UInt8:=(bs.map Qpo).flatten
def JM(F:List Rl)(x:Int):List UInt8:=match F[x.toNat]? with|some r=>r.name|none=>[]
theorem Q5q{F:List Rl}{x:Int}{r:Rl}(h:F[x.toNat]? =some r):JM F x=r.name:=by unfold JM;rw[h]
def Q08:List UInt8:=[98,105,103]
def JW:List UInt8:=[108,105,116,116,108,101]
def Z7(F:List Rl)(r:Rl)(i:Nat):List UInt8:=(if r.kind==7 then (if r.names.getD i []==[] then [45] else r.names.getD i [])++[58] else [])++JM F (r.parts.getD i 0)
def ifW(u:Bool)(s:List UInt8):List (List UInt8):=if u then [s] else []
def Q28(F:List Rl)(r:Rl):List (List UInt8):=
 [r.name,Jm r.kind]++ifW (r.kind==1) (Q0u r.bs)++ifW (Jh r.kind) (Lib.itoa r.stop)++ifW (Je r.kind) (Lib.itoa r.size)++ifW (r.kind==2) (if r.big then Q08 else JW)++ifW (r.kind==2) (Lib.itoa r.mn)++ifW (JC r.kind) (Lib.itoa r.mx)++ifW (Qv r.kind) (JM F r.count)++ifW (Zy r.kind) (JM F r.elem)
def Zt(F:List Rl)(r:Rl):List (List UInt8):=Q28 F r++(List.range r.parts.length).map (Z7 F r)
def Q2K(F:List Rl)(r:Rl):List UInt8:=Lib.join (Zt F r) [32]++[10]
def YP(F:List Rl):List UInt8:=(F.map (Q2K F)).flatten
structure Rs where
 ws:List (List UInt8)
 bad:Bool
 ns:List (List UInt8)
def Xx(x:List UInt8):Int:=match Lib.atoiAll x with|.ok v=>v|.range=>Lib.atoiSat x|_=>0
def numOk(x:List UInt8):Bool:=match Lib.atoiAll x with|.ok v=>!(decide (10<x.length))&&(!(decide (v<0))&&Lib.itoa v==x)|_=>false
def XG(c:UInt8):Int:=if 48<=c.toNat/\c.toNat<=57 then (c.toNat:Int) - 48 else if 97<=c.toNat/\c.toNat<=102 then (c.toNat:Int) - 87 else -1
def Q4d(a b:UInt8):UInt8:=UInt8.ofNat (((XG a)*16+XG b) % 256).toNat
def XI:List UInt8->Option (List UInt8)
 |[]=>some []
 |[_]=>none
 |a::b::l=>if XG a<0\/XG b<0 then none else (XI l).map (Q4d a b::·)
def QcI(b:UInt8):List (List UInt8)->List (List UInt8)
 |[]=>[[b]]
 |w::t=>(b::w)::t
def spl(c:UInt8):List UInt8->List (List UInt8)
 |[]=>[[]]
 |b::l=>if b=c then []::spl c l else QcI b (spl c l)
theorem Qdy(c:UInt8)(l:List UInt8):Lib.index (c::l) [c]=0:=by
 unfold Lib.index;simp [List.isPrefixOf]
theorem Qd3{b c:UInt8}(h:b≠c)(l:List UInt8):Lib.index (b::l) [c]=if Lib.index l [c]=-1 then -1 else Lib.index l [c]+1:=by
 have hp:([c]:List UInt8).isPrefixOf (b::l)=false:=by simp [List.isPrefixOf,Ne.symm h]
 rw[Lib.index,hp];simp
theorem QcZ{b c:UInt8}(h:b≠c)(l:List UInt8):∀k,Lib.splitK [c] 0 k (b::l)=QcI b (Lib.splitK [c] 0 k l)
 |0=>rfl
 |k+1=>by
  unfold Lib.splitK
  rw[Qd3 h]
  by_cases hi:Lib.index l [c]=-1
  ·rw[hi];rfl
  ·have hge:=Lib.index_ge l [c];rw[if_neg hi,if_neg (by rw[beq_iff_eq];omega),if_neg (by rw[beq_iff_eq];exact hi)]
   have e:(Lib.index l [c]+1).toNat=(Lib.index l [c]).toNat+1:=by omega
   rw[e];rfl
theorem Q6A(c:UInt8):∀s:List UInt8,Lib.split s [c]=spl c s
 |[]=>rfl
 |b::l=>by
  unfold spl
  by_cases h:b=c
  ·subst h;rw[if_pos rfl]
   unfold Lib.split
   rw[Lib.count_cons_eq,Nat.add_comm,Lib.splitK,Qdy,if_neg Q1];rw[<- Q6A b l]
   rfl
  ·rw[if_neg h,<- Q6A c l]
   unfold Lib.split
   rw[Lib.count_cons_ne b c l h,QcZ h]
def Xf(c:UInt8):List UInt8->List UInt8×List UInt8×Bool
 |[]=>([],[],false)
 |b::l=>if b=c then ([],l,true) else (b::(Xf c l).1,(Xf c l).2)
theorem Qk2(c:UInt8):∀s:List UInt8,Lib.cut s [c]=Xf c s
 |[]=>rfl
 |b::l=>by
  unfold Xf
  by_cases h:b=c
  ·subst h;rw[if_pos rfl]
   unfold Lib.cut
   rw[Qdy,if_pos Q1]
   rfl
  ·rw[if_neg h,<- Qk2 c l]
   unfold Lib.cut
   rw[Qd3 h]
   by_cases hi:Lib.index l [c]=-1
   ·rw[hi];rfl
   ·have hge:=Lib.index_ge l [c];rw[if_neg hi,if_pos Q2,if_pos Q2]
    have e:(Lib.index l [c]+1).toNat=(Lib.index l [c]).toNat+1:=by omega
    have e2:(Lib.index l [c]).toNat+1+[c].length=((Lib.index l [c]).toNat+[c].length)+1:=by omega
    rw[e,e2];rfl
theorem Q0p{c:UInt8}:∀{s t r:List UInt8},Xf c s=(t,r,true)->spl c s=t::spl c r/\s=t++c::r/\c∉t
 |[],t,r,h=>by cases h
 |b::l,t,r,h=>by
  unfold Xf at h
  rw[show spl c (b::l)=if b=c then []::spl c l else QcI b (spl c l) from rfl]
  by_cases hb:b=c
  ·rw[if_pos hb] at h ⊢
   cases h
   exact⟨rfl,by rw[hb];rfl,by simp⟩
  ·rw[if_neg hb] at h ⊢;have h1:b::(Xf c l).1=t:=congrArg (·.1) h;have h2:(Xf c l).2=(r,true):=congrArg (·.2) h;have:=Q0p (s:=l) (t:=(Xf c l).1) (r:=r) (by rw[<- h2]);rw[this.1,<- h1];refine⟨rfl,by rw[List.cons_append,<- this.2.1],?_⟩;intro hm
   rcases List.mem_cons.1 hm with e|e
   ·exact hb e.symm
   ·exact this.2.2 e
theorem QhO{c:UInt8}:∀{s t r:List UInt8},Xf c s=(t,r,false)->spl c s=[s]/\t=s/\r=[]/\c∉s
 |[],t,r,h=>by cases h;exact⟨rfl,rfl,rfl,by simp⟩
 |b::l,t,r,h=>by
  unfold Xf at h
  unfold spl
  by_cases hb:b=c
  ·rw[if_pos hb] at h;cases h
  ·rw[if_neg hb] at h ⊢;have h1:b::(Xf c l).1=t:=congrArg (·.1) h;have h2:(Xf c l).2=(r,false):=congrArg (·.2) h;have:=QhO (s:=l) (t:=(Xf c l).1) (r:=r) (by rw[<- h2]);rw[this.1,<- h1];refine⟨rfl,by rw[this.2.1],this.2.2.1,?_⟩;intro hm
   rcases List.mem_cons.1 hm with e|e
   ·exact hb e.symm
   ·exact this.2.2.2 e
theorem Qg4{c:UInt8}:∀{x:List UInt8},c∉x->spl c x=[x]
 |[],_=>rfl
 |b::l,h=>by
  unfold spl
  rw[if_neg (fun e=>h (by rw[e];exact List.mem_cons_self)),Qg4 fun hm=>h (List.mem_cons_of_mem _ hm)]
  rfl
theorem Qb2{c:UInt8}:∀{x:List UInt8} (s:List UInt8),c∉x->spl c (x++c::s)=x::spl c s
 |[],s,_=>by
  show spl c (c::s)=_
  rw[spl,if_pos rfl]
 |b::l,s,h=>by
  show spl c (b::(l++c::s))=_
  rw[spl,if_neg (fun e=>h (by rw[e];exact List.mem_cons_self)),Qb2 s fun hm=>h (List.mem_cons_of_mem _ hm)]
  rfl
theorem Q5W(c:UInt8):∀s:List UInt8,spl c s≠[]
 |[]=>by simp [spl]
 |b::l=>by
  unfold spl
  split
  ·simp
  ·cases spl c l<;>simp [QcI]
theorem ZT(sep y:List UInt8)(r:List (List UInt8)):Lib.joinTail sep (y::r)=sep++(y++Lib.joinTail sep r):=by
 unfold Lib.joinTail;rw[List.map_cons,List.flatten_cons,List.append_assoc]
theorem Qbh{c:UInt8}:∀(x:List UInt8) (r:List (List UInt8)),(∀w∈x::r,c∉w)->spl c (Lib.join (x::r) [c])=x::r
 |x,[],h=>by
  rw[Lib.join_one];exact Qg4 (h x List.mem_cons_self)
 |x,y::r,h=>by
  rw[Lib.join_cons,ZT]
  have ih:=Qbh y r fun w hw=>h w (List.mem_cons_of_mem _ hw)
  rw[Lib.join_cons] at ih;show spl c (x++c::(y++Lib.joinTail [c] r))=_;rw[Qb2 _ (h x List.mem_cons_self),ih]
theorem Qfi(b:UInt8)(c:List UInt8):∀l:List (List UInt8),l≠[]->Lib.join (QcI b l) c=b::Lib.join l c
 |[],h=>absurd rfl h
 |w::t,_=>by
  show Lib.join ((b::w)::t) c=_
  rw[Lib.join_cons,Lib.join_cons]
  rfl
theorem Q73(c:UInt8):∀s:List UInt8,Lib.join (spl c s) [c]=s
 |[]=>Lib.join_one _ _
 |b::l=>by
  unfold spl
  by_cases h:b=c
  ·rw[if_pos h];have ih:=Q73 c l
   cases hs:spl c l with
   |nil=>exact absurd hs (Q5W c l)
   |cons w t=>
    rw[hs,Lib.join_cons] at ih;rw[Lib.join_cons,ZT,ih,h];rfl
  ·rw[if_neg h,Qfi _ _ _ (Q5W c l),Q73 c l]
section
variable {w w':World}
structure GV(w:World):Prop where
 pow : Lib.TabIs Tryz.prog w "internal/strconv.uint64pow10" .u64 Lib.pow10Tab
 sp : Lib.TabIs Tryz.prog w "strings.asciiSpace" .u8 Lib.asciiSpaceTab
 ml:∃m,w.cell? ⟨2,0,none⟩=some (.int .i64 m)
theorem Q4e{p:Addr}{v:Value}(h:w.cell? p=some v)(hb:Below w.heap.size w w'):w'.cell? p=some v:=(hb.cell (Q0D h)).trans h
theorem Qb8{n:String}{g:Nat}{k:IntKind}{zs:List Int}(hg:Tryz.prog.globalNamed n=some g)(h:Lib.TabIs Tryz.prog w n k zs)(h0:0<zs.length)(hb:Below w.heap.size w w'):Lib.TabIs Tryz.prog w' n k zs:=
 var?_below hb hg (Q0D (h.cell hg 0 h0)) h
theorem GV.on(h:GV w)(hb:Below w.heap.size w w'):GV w':=
 ⟨Qb8 (g:=3) Q5 h.pow (by rw[Lib.pow10Tab_length];decide) hb,Qb8 (g:=0) Q5 h.sp (by rw[Lib.asciiSpaceTab_length];decide) hb,h.ml.imp fun m hm=>Q4e hm hb⟩
theorem Qe9(w:World)(os:Array Obj):Below w.heap.size w { w with heap:=w.heap++os }:=⟨rfl,rfl,rfl,by simp,fun k hk=>by simp only;rw[Array.getElem?_append_left hk]⟩
theorem KS(hg:GV w){n:Int}(h0:-9223372036854775808<=n)(h1:n<=9223372036854775807):Calls Tryz.prog 114 #[.int .i64 n] w fun e w'=>e=.returned (.string ⟨(Lib.itoa n).toArray⟩)/\Below w.heap.size w w':=by
 refine(Tryz.strconv_Itoa n h0 h1 w hg.pow).mono ?_;rintro e w' ⟨rfl,k,os,rfl⟩;exact⟨rfl,Below.trans (VG w k) (Qe9 (w.drewN k) os)⟩
theorem QcC{A:Option Addr}{n c:Nat}{ws:List (List UInt8)}(hr:Rd w w.heap.size 1 A n (sv ws))(hc:n<=c)(hn:n<=1048576)(hl:(Lib.join ws [32]).length<=1000000):Calls Tryz.prog 128 #[.slice A n c,.string ⟨#[32]⟩] w fun e w'=>e=.returned (.string ⟨(Lib.join ws [32]).toArray⟩)/\Below w.heap.size w w':=by
 have hlen:ws.length=n:=by have:=hr.len;rw[Z8] at this;exact this
 by_cases h0:0<n
 ·obtain⟨b,o,rfl,hb,hcells⟩:=hr.2 h0
  have hmap:(ws.map fun l=>(⟨l.toArray⟩:ByteArray)).map (fun s=>s.data.toList)=ws:=by
   rw[List.map_map];exact List.map_id'' (fun l=>by simp) ws
  have h:=Tryz.strings_Join b o c (ws.map fun l=>⟨l.toArray⟩) ⟨#[32]⟩ w (fun j x hx=>hcells j _ (by
   unfold sv
   rw[List.getElem?_map] at hx ⊢
   cases hw:ws[j]? with
   |none=>rw[hw] at hx;cases hx
   |some l=>rw[hw] at hx;cases hx;rfl)) hb (by rw[List.length_map];omega) (by rw[List.length_map];omega) (by rw[hmap];show (Lib.join ws [32]).length<=_;omega)
  rw[hmap,List.length_map,hlen] at h;exact h
 ·obtain rfl:n=0:=by omega
  obtain rfl:ws=[]:=List.eq_nil_of_length_eq_zero hlen;exact(Tryz.strings_Join_none A c ⟨#[32]⟩ w).mono fun e w' ⟨he,hw⟩=>⟨by rw[he];rfl,hw▸Below.refl _ _⟩
end
section
variable {A Ab An Ap:Option Addr}{F:List Rl}{W w:World}{c cb cn cp i n:Nat}{g:Nat->Int}{r:Rl}
theorem X3.addr(h:X3 W W.heap.size A n F)(hn:0<n):∃b o,A=some ⟨b,o,none⟩:=by
 obtain⟨b,o,e,_⟩:=h.2 hn;exact⟨b,o,e⟩
theorem X3.rl{b o:Nat}(h:X3 W W.heap.size (some ⟨b,o,none⟩) n F)(hi:i<n):∃r Ab cb An cn Ap cp,F[i]? =some r/\W.rangeAt b (o+i*12) (ruC r (.slice Ab r.bs.length cb) (.slice An r.names.length cn) (.slice Ap r.parts.length cp))/\RuL W r Ab cb An cn Ap cp:=by
 obtain⟨b',o',r,Ab,cb,An,cn,Ap,cp,e,hr,hc,hl⟩:=h.rule hi;cases e;exact⟨r,Ab,cb,An,cn,Ap,cp,hr,hc,hl⟩
def JA(W:World)(c:Int)(e:Ending)(w':World):Prop:=e=.returned (.int .i64 c)/\Below W.heap.size W w'
theorem QG{c c':Int}{O:List Qf}(h:c=c')(hw:Wd [] W O w):JA W c' (.returned (.int .i64 c)) w:=⟨by rw[h],hw.k.below⟩
def Q22(F:List Rl)(x:Int):Int:=match F[x.toNat]? with|some r=>r.kind|none=>0
theorem Q0W{x:Int}(h:F[x.toNat]? =some r):Q22 F x=r.kind:=by unfold Q22;rw[h]
def V0(g:Nat->Int):Nat->Nat->Int
 |_,0=>0
 |i,k+1=>if g i=0 then V0 g (i+1) k else g i
theorem Q95(h:i<n)(h0:g i=0):V0 g i (n - i)=V0 g (i+1) (n - (i+1)):=by
 rw[show n - i=(n - (i+1))+1 by omega,V0,if_pos h0]
theorem QfP(h:i<n)(h0:g i≠0):V0 g i (n - i)=g i:=by
 rw[show n - i=(n - (i+1))+1 by omega,V0,if_neg h0]
def VY(F:List Rl)(names:List (List UInt8))(parts:List Int)(i:Nat):Int:=
 if (names.getD i [])==[] then (if Q22 F (parts.getD i 0) != 1 then 13 else 0)
 else if !(Qk (names.getD i [])) then 7 else if Z9 (names.take i) (names.getD i []) then 8 else 0
def K9(F:List Rl)(r:Rl):Int:=
 if Qv r.kind&&!(JC (Q22 F r.count)) then 13 else if r.kind != 7 then 0 else V0 (VY F r.names r.parts) 0 r.names.length
structure QhZ(n:Nat)(r:Rl):Prop where
 count:Qv r.kind=true->0<=r.count/\r.count<n
 parts:r.kind=7->r.parts.length=r.names.length/\∀x∈r.parts,0<=x/\x<n
theorem Qf4(hf:X3 W W.heap.size A n F)(hl:RuL W r Ab cb An cn Ap cp)(hs:RSm r)(hu:QhZ n r)(hc:Qv r.kind=true):
  Calls Tryz.prog 116 #[.agg #[.slice A n c],.agg (ruC r (.slice Ab r.bs.length cb) (.slice An r.names.length cn) (.slice Ap r.parts.length cp)).toArray] W (JA W (K9 F r)):=by
 have hcn:=hu.count hc;obtain⟨b,o,rfl⟩:=hf.addr Q2;obtain⟨rc,Ac,cc,Ad,cd,Ae,ce,hrc,hrg,_⟩:=hf.rl (i:=r.count.toNat) Q2;have HK:=Q3 (Q0W hrc);have h7:(r.kind != 7)=true:=by
  rw[bne_iff_ne];intro h;rw[h] at hc;exact absurd hc Q1
 clear hrc hl hf;go_enter Tryz.func116,Tryz.ntmps116;refine Qy (M:=[]) (W:=W) (N:=66) (E:=[Qgh,Qhf]) (O:=[]) ?_ mc3 Xs;repeat(first|refine Q4 ZE ?_|refine Q4 Jk ?_|refine Q4 JH ?_|refine Q4 (QP rfl rfl Q1 rfl rfl (by first|exact fun w hw=>hw.cell_blkL 0 rfl rfl|exact fun w hw=>hw.cell_blkL 1 rfl rfl)) ?_|refine Q4 Qnd ?_|refine Qd Yz rfl Q1 (fun br _=>?_)|(refine Q4 Q23 ?_;rw[hc])|refine Q4 Qrr ?_|refine Q4 Qs0 ?_|refine Qc ?_|refine Qa ?_|refine Q6 ?_|refine Q4 Q8W ?_|refine Q4 QhQ ?_)
 refine Xb rfl (fun hx=>?_) (fun hx=>?_)
 ·skip
  repeat(first|refine Q4 Jk ?_|refine Qc ?_|refine Qa ?_|refine Q6 ?_|refine Qu ?_|refine Qo ?_)
  refine Qb (.inr rfl) rfl (.tmp rfl) (fun w hw=>QG ?_ hw);simp [K9,hc,HK.out,hx]
 ·skip
  repeat(first|refine Q4 Jk ?_|refine Q4 JH ?_|refine Q4 Qhg ?_|refine Qc ?_|refine Qa ?_|refine Q6 ?_|refine Qp ?_|refine Q8 rfl ?_|refine Qu ?_|refine Qo ?_|refine Q4 Qhq ?_)
  refine Qb (.inr rfl) rfl (.tmp rfl) (fun w hw=>QG ?_ hw);simp [K9,hc,HK.out,hx,h7]
theorem Qe2(hc:Qv r.kind=false)(h7:(r.kind != 7)=true):
  Calls Tryz.prog 116 #[.agg #[.slice A n c],.agg (ruC r (.slice Ab r.bs.length cb) (.slice An r.names.length cn) (.slice Ap r.parts.length cp)).toArray] W (JA W (K9 F r)):=by
 go_enter Tryz.func116,Tryz.ntmps116;refine Qy (M:=[]) (W:=W) (N:=66) (E:=[V6,Qhf]) (O:=[]) ?_ mc3 Xs;repeat(first|refine Q4 ZE ?_|refine Q4 Jk ?_|refine Q4 JH ?_|refine Q4 Qhg ?_|refine Q4 QjM ?_|refine Qd Yz rfl Q1 (fun br _=>?_)|(refine Q4 Q23 ?_;rw[hc])|refine Qc ?_|refine Qa ?_|refine Q6 ?_|refine Qp ?_|refine Q8 rfl ?_|refine Q7 rfl ?_|refine Qu ?_|refine Qo ?_|refine Q4 Qhq ?_|refine Q4 Q8t ?_|refine Q4 Q8e ?_)
 refine Qb (.inr rfl) rfl (.tmp rfl) (fun w hw=>QG ?_ hw);simp [K9,hc,h7]
theorem QfK{B:Nat}{xs:List (List UInt8)}(h:Rd w B 1 A n (sv xs))(hi:i<=n)(hc:n<=c):Rd w B 1 (ZC A c 0 1) i (sv (xs.take i)):=by
 have:=h.cut (k:=0) (m:=i) (c:=c) Q2 hc;rw[Nat.zero_mul,List.drop_zero,Nat.mul_one] at this;unfold sv at this ⊢;rw[List.map_take];exact this
def chE(bf br n c i:Nat)(r:Rl)(A An:Option Addr)(cn:Nat):Env:=[(2,.pointer (some ⟨bf,0,none⟩)),(3,.pointer (some ⟨br,0,none⟩)),(23,.slice An r.names.length cn),(24,.int .i64 (r.names.length:Int)),(25,.int .i64 (i:Int))]
theorem QeX(hf:X3 W W.heap.size A n F)(hl:RuL W r Ab cb An cn Ap cp)(hs:RSm r)(hu:QhZ n r)(h7:r.kind=7):
  Calls Tryz.prog 116 #[.agg #[.slice A n c],.agg (ruC r (.slice Ab r.bs.length cb) (.slice An r.names.length cn) (.slice Ap r.parts.length cp)).toArray] W (JA W (K9 F r)):=by
 have hc:Qv r.kind=false:=by rw[h7];rfl
 have HP:=Q3 (hu.parts h7);have HF:=Q3 hf;have HL:=Q3 hl;have HS:=Q3 hs;have hnl:r.names.length<=1048576:=hs.names;obtain⟨C,hC⟩:∃C,K9 F r=C:=⟨_,rfl⟩;have HC:=Q3 (show V0 (VY F r.names r.parts) 0 r.names.length=C by rw[<- hC,K9,hc,h7];rfl);rw[hC];clear hC hu hf hl hs;go_enter Tryz.func116,Tryz.ntmps116;refine Qy (M:=[]) (W:=W) (N:=66) (E:=[V6,Qhf]) (O:=[]) ?_ mc3 Xs;repeat(first|refine Q4 ZE ?_|refine Q4 Jk ?_|refine Q4 JH ?_|refine Q4 Qhg ?_|refine Q4 QjM ?_|refine Qd Yz rfl Q1 (fun br _=>?_)|(refine Q4 Q23 ?_;rw[hc])|refine Qc ?_|refine Qa ?_|refine Q6 ?_|refine Qp ?_|refine Q7 rfl ?_|refine Qh ?_|refine Q4 Q7Z ?_|refine Q4 (Q1v rfl rfl Q1 rfl rfl rfl (by exact bne_eq_false_iff_eq.2 Q2)) ?_|refine Q4 Q8t ?_|refine Q4 Q8e ?_)
 rename_i bf _ _;refine Z0 (ι:=Nat) (fun i=>i<=r.names.length/\V0 (VY F r.names r.parts) i (r.names.length - i)=C) (fun i=>r.names.length - i) (fun i=>chE bf br n c i r A An cn) (fun i=>[.blk br Q8q,.blk bf (.cells [.slice A n c].toArray 24 (0,0))]) 0 [0,1] Q1 ⟨Nat.zero_le _,HC.out⟩ QfY rfl ?_;rintro i ⟨hi,hC⟩;have HI:=Q3 hC;clear hC;by_cases hlt:i<r.names.length
 ·obtain⟨bn,on,s,rfl,_,hsn,hcell⟩:=KZ HL.out.n hlt
  have hgd:r.names.getD i []=s.data.toList:=by rw[List.getD_eq_getElem?_getD,hsn];rfl
  have HG:=Q3 hgd;clear hgd;cases he:s.data.toList==([]:List UInt8) with
  |true=>
   have hne:(s.data.toList != ([]:List UInt8))=false:=by rw[bne,he];rfl
   obtain⟨bp,op,x,rfl,_,hx,hcx⟩:=Q1P HL.out.p (show i<r.parts.length by rw[HP.out.1];exact hlt);have hxr:=HP.out.2 x Q0G;obtain⟨b,o,rfl⟩:=HF.out.addr Q2;obtain⟨rx,Ac,cc,Ad,cd,Ae,ce,hrx,hrg,_⟩:=HF.out.rl (i:=x.toNat) Q2;have hgx:r.parts.getD i 0=x:=by rw[List.getD_eq_getElem?_getD,hx];rfl
   have HK:=Q3 (show Q22 F (r.parts.getD i 0)=rx.kind by rw[hgx];exact Q0W hrx);have hip:i<r.parts.length:=by rw[HP.out.1];exact hlt
   clear hsn hx hrx hgx;refine Qon ?_
   repeat(first|refine Q9 ZE ?_|refine Q9 Jk ?_|refine Q9 JH ?_|refine Q9 (QP rfl rfl Q1 rfl rfl (by first|exact fun w hw=>hw.cell_blkL 0 rfl rfl|exact fun w hw=>hw.cell_blkL 1 rfl rfl|exact fun w hw=>hw.cell_old Qx Qn|exact fun w hw=>hw.cell_range Qx rfl Qn)) ?_|refine Q9 QbE ?_|refine Q9 Qs0 ?_|refine XV ?_|refine Xh Q5 Q5 ?_|refine Q9 QuP ?_|refine Q9 Q8W ?_|refine Q9 (Q0E rfl rfl Q1 rfl rfl rfl Qx) ?_)
   refine Xb rfl (fun hk=>?_) (fun hk=>?_)
   ·skip
    refine Ql3 ?_
    refine Qb (.inr rfl) rfl (.tmp rfl) (fun w hw=>QG ?_ hw);have hv:VY F r.names r.parts i=13:=by unfold VY;rw[HG.out,he,HK.out,hk];rfl
    exact Qnv
   ·skip
    repeat(first|refine Q4 ZE ?_|refine Q4 Jk ?_|refine Qc ?_|refine Qa ?_|refine Q6 ?_|refine Qp ?_|refine Q7 rfl ?_|refine Q4 Q8t ?_|refine Q4 Q6o ?_|refine Q4 Qnn ?_|refine Q4 Q8e ?_)
    refine QT (i+1) [0,1] Q1 ⟨by omega,?_⟩ Q2 Q8C rfl;have hv:VY F r.names r.parts i=0:=by unfold VY;rw[HG.out,he,HK.out,hk];rfl
    rw[<- Q95 hlt hv];exact HI.out
  |false=>
   have hne:(s.data.toList != ([]:List UInt8))=true:=by rw[bne,he];rfl
   have hsz:s.size<=9223372036854775807:=by
    have:=HS.out.each _ (List.mem_of_getElem? hsn);have e:s.size=s.data.toList.length:=by simp
    omega
   clear hsn;refine Qon ?_
   repeat(first|refine Q9 ZE ?_|refine Q9 Jk ?_|refine XV ?_|refine Xh Q5 Q5 ?_|refine Q9 Q8t ?_|refine Q9 QnN ?_|refine Q9 Q8e ?_)
   repeat(first|refine Q4 ZE ?_|refine Q4 Jk ?_|refine Q4 Qs9 ?_|refine Qc ?_|refine Qa ?_|refine Q6 ?_|refine Q7 rfl ?_|refine Q4 Q8W ?_|refine Q4 QhQ ?_|refine Q4 Q7M ?_)
   refine Xb rfl (fun hk=>?_) (fun hk=>?_)
   ·skip
    refine Ql3 ?_
    refine Qb (.inr rfl) rfl (.tmp rfl) (fun w hw=>QG ?_ hw);have hv:VY F r.names r.parts i=7:=by unfold VY;rw[HG.out,he,hk];rfl
    exact Qnv
   ·skip
    repeat(first|refine Q4 ZE ?_|refine Q4 Jk ?_|refine Q4 JH ?_|refine Q4 (QP rfl rfl Q1 rfl rfl (by first|exact fun w hw=>hw.cell_blkL 0 rfl rfl|exact fun w hw=>hw.cell_old Qx Qn)) ?_|(refine Q4 (Kg rfl rfl Q1 rfl rfl rfl (by have:=HL.out.cn;omega)) ?_)|refine Q4 (Qg (f:=150) rfl rfl Q1 rfl rfl (fun w hw=>Calls.stay (Yn (QfK (HL.out.on hw.k.below).n Q2 HL.out.cn) Q2))) ?_|refine Qc ?_|refine Qa ?_|refine Q6 ?_|refine Q4 Q8W ?_|refine Q4 Q7M ?_)
    refine Xb rfl (fun hq=>?_) (fun hq=>?_)
    ·skip
     refine Ql3 ?_
     refine Qb (.inr rfl) rfl (.tmp rfl) (fun w hw=>QG ?_ hw);have hv:VY F r.names r.parts i=8:=by unfold VY;rw[HG.out,he,hk,hq];rfl
     exact Qnv
    ·skip
     repeat(first|refine Q4 ZE ?_|refine Qc ?_|refine Q6 ?_|refine Qp ?_|refine Q4 Q6o ?_)
     refine QT (i+1) [0,1] Q1 ⟨by omega,?_⟩ Q2 Q8C rfl;have hv:VY F r.names r.parts i=0:=by unfold VY;rw[HG.out,he,hk,hq];rfl
     rw[<- Q95 hlt hv];exact HI.out
 ·skip
  repeat(first|refine Q4 Jk ?_|refine Qc ?_|refine Qa ?_|refine Q6 ?_|refine Q7 rfl ?_|refine Xe ?_|refine Qu ?_|refine Q4 Qrv ?_)
  refine Qb mc4 rfl (.tmp rfl) (fun w hw=>QG ?_ hw);rw[<- HI.out,show r.names.length - i=0 by omega];rfl
theorem Q0w(hf:X3 W W.heap.size A n F)(hl:RuL W r Ab cb An cn Ap cp)(hs:RSm r)(hu:QhZ n r):
  Calls Tryz.prog 116 #[.agg #[.slice A n c],.agg (ruC r (.slice Ab r.bs.length cb) (.slice An r.names.length cn) (.slice Ap r.parts.length cp)).toArray] W (JA W (K9 F r)):=by
 cases hc:Qv r.kind with
 |true=>exact Qf4 hf hl hs hu hc
 |false=>
  by_cases h7:r.kind=7
  ·exact QeX hf hl hs hu h7
  ·exact Qe2 hc (bne_iff_ne.2 h7)
end
section
variable {bytes size:Nat}{cs:List Value}{e t:TypeId}{v:Value}
theorem Qq{us:List Value}(h:us.length=cs.length):Zk cs 0 us=us:=by
 refine List.ext_getElem? fun i=>?_;rw[Jr];split
 ·rw[Nat.sub_zero]
 ·next hn=>
  rw[List.getElem?_eq_none Q2,List.getElem?_eq_none Q2]
theorem QmJ(s:Nat):∀(l:List Value) (k:Nat) (a:List Value),(l.zipIdx k).foldl (fun cs (x:Value×Nat)=>cs.setIfInBounds (0*s+x.2) x.1) a.toArray=(Zk a k l).toArray:=by
 intro l;induction l with
 |nil=>intro k a;rfl
 |cons x l ih=>
  intro k a;rw[List.zipIdx_cons,List.foldl_cons,Zk];have e:a.toArray.setIfInBounds (0*s+k) x=(a.set k x).toArray:=by simp
  show (l.zipIdx (k+1)).foldl _ (a.toArray.setIfInBounds (0*s+k) x)=_;rw[e];exact ih (k+1) (a.set k x)
theorem Qkj{s:Nat}{z:Array Value}(hv:v.cells=cs.toArray)(h:cs.length=s)(hz:z.size=s):Instr.fill (fun i=>some (i*s,s)) z [(0,v)]=some cs.toArray:=by
 have e:v.cells.zipIdx.foldl (fun cs (x:Value×Nat)=>cs.setIfInBounds (0*s+x.2) x.1) z=cs.toArray:=by
  rw[hv,<- Array.foldl_toList];have h1:=QmJ s cs 0 z.toList;rw[Array.toArray_toList] at h1;rw[Qq (cs:=z.toList) (us:=cs) (by rw[h,Array.length_toList,hz])] at h1;simpa using h1
 have hs1:v.cells.size=s:=by rw[hv,List.size_toArray,h]
 have hc:¬(v.cells.size≠s\/0*s+v.cells.size>z.size):=by rw[hs1,hz];omega
 unfold Instr.fill;dsimp only;rw[if_neg (by simpa using hc)];unfold Instr.fill;exact congrArg some e
section
variable {P:Program}{ops:Array Oper}{N:Nat}{E:Env}{o:Oper}{M:List Nat}{W:World}{O:List Qf}
theorem Qfj(hT:SlT P t e size bytes)(hs:size<=1000)(hv:v.cells=cs.toArray)(hl:cs.length=size)(w:World):
  (Instr.buildSlice t 1 #[(0,v)]).run P w=.ok (.slice (some ⟨w.heap.size,0,none⟩) 1 1) (w.alloc (.cells cs.toArray e)):=by
 obtain⟨i,z,hi,hz,hsz,hby,hzs⟩:=hT.info;have hp:=hT.pos;refine run_buildSlice w t e 1 _ cs.toArray i z hT.und hi hz VX VX ?_;rw[hsz];exact Qkj hv hl Qn
theorem Zl[dq:DQ]{x:Operand}[hT:Sl P t e size bytes](ho:o.op=.buildSlice t 1 #[(0,x)])(hw:Qm ops E o=some true)(hx:ev E x=some v)(hv:v.cells=cs.toArray)(hl:cs.length=size)(hs:size<=1000):
  uE P ops N M W E O o Nat (fun b=>.slice (some ⟨b,0,none⟩) 1 1) (fun b=>.blk b (.cells cs.toArray e (0,0))::O) (fun _=>True):=
 Jv (xs:=[(0,x)]) (vs:=[(0,v)]) ho hw (by simp [evp,hx]) (fun w=>Qfj hT.h hs hv hl w)
end
end
def cnt(s:Nat->Bool):Nat->Nat
 |0=>0
 |n+1=>cnt s n+if s n then 1 else 0
theorem Q6Q(s:Nat->Bool):∀n,cnt s n<=n
 |0=>Nat.le_refl _
 |n+1=>by have:=Q6Q s n;unfold cnt;split<;>omega
theorem QdC{s t:Nat->Bool}:∀n,(∀i,i<n->s i=true->t i=true)->cnt s n<=cnt t n
 |0,_=>Nat.le_refl _
 |n+1,h=>by
  have h1:=QdC n (fun i hi=>h i Q2);have h2:=h n Q2
  unfold cnt;cases hs:s n with
  |false=>simp;omega
  |true=>rw[h2 hs];simp;omega
theorem Q3H{s t:Nat->Bool}:∀n,(∀i,i<n->s i=true->t i=true)->(∃i,i<n/\s i=false/\t i=true)->cnt s n<cnt t n
 |0,_,⟨i,hi,_⟩=>absurd hi Q2
 |n+1,h,⟨i,hi,h0,h1⟩=>by
  have hm:=QdC n (fun i hi=>h i Q2)
  unfold cnt;by_cases hin:i=n
  ·subst hin;rw[h0,h1]
   simp;omega
  ·have:=Q3H n (fun i hi=>h i Q2) ⟨i,by omega,h0,h1⟩
   cases hs:s n with
   |false=>simp;omega
   |true=>rw[h n Q2 hs];simp;omega
section
variable {n:Nat}{s:Nat->Nat->Bool}
theorem Qgg(hst:∀t,(∀i,i<n->s (t+1) i=s t i)->∀i,i<n->s (t+2) i=s (t+1) i){t:Nat}(h:∀i,i<n->s (t+1) i=s t i):∀k i,i<n->s (t+k+1) i=s (t+k) i
 |0,i,hi=>h i hi
 |k+1,i,hi=>hst (t+k) (Qgg hst h k) i hi
theorem Q4U(hm:∀t i,i<n->s t i=true->s (t+1) i=true)(hst:∀t,(∀i,i<n->s (t+1) i=s t i)->∀i,i<n->s (t+2) i=s (t+1) i):∀i,i<n->s (n+1) i=s n i:=by
 have key:∀t,t<=n+1->(∃u,u<t/\∀i,i<n->s (u+1) i=s u i)\/t<=cnt (s t) n:=by
  intro t;induction t with
  |zero=>intro _;right;omega
  |succ t ih=>
   intro ht;rcases ih Q2 with ⟨u,hu,h⟩|hc
   ·exact .inl ⟨u,by omega,h⟩
   ·by_cases he:∀i,i<n->s (t+1) i=s t i
    ·exact .inl ⟨t,by omega,he⟩
    ·right
     have hex:∃i,i<n/\s t i=false/\s (t+1) i=true:=by
      refine Classical.byContradiction fun hne=>he fun i hi=>?_;cases h0:s t i with
      |true=>rw[hm t i hi h0]
      |false=>
       cases h1:s (t+1) i with
       |false=>rfl
       |true=>exact absurd ⟨i,hi,h0,h1⟩ hne
     have:=Q3H n (hm t) hex;omega
 rcases key (n+1) (Nat.le_refl _) with ⟨u,hu,h⟩|hc
 ·intro i hi;have:=Qgg hst h (n - u) i hi;rwa [show u+(n - u)=n by omega] at this
 ·have:=Q6Q (s (n+1)) n
  omega
end
theorem Z3(l:List Bool)(k i:Nat)(b:Bool)(hk:k<l.length):(l.set k b).getD i false=if i=k then b else l.getD i false:=by
 rw[List.getD_eq_getElem?_getD,List.getElem?_set,List.getD_eq_getElem?_getD];by_cases h:k=i
 ·subst h;simp [hk]
 ·rw[if_neg h,if_neg (fun e=>h e.symm)]
section
variable {F:List Rl}{i j st:Nat}{l:List Nat}{out:List Bool}
def iter{α:Type}(f:α->α):Nat->α->α
 |0,a=>a
 |n+1,a=>f (iter f n a)
def LeB(a b:List Bool):Prop:=a.length=b.length/\∀i:Nat,a.getD i false=true->b.getD i false=true
theorem LeB.refl(a:List Bool):LeB a a:=⟨rfl,fun _ h=>h⟩
theorem LeB.trans{a b c:List Bool}(h:LeB a b)(k:LeB b c):LeB a c:=⟨h.1.trans k.1,fun i hi=>k.2 i (h.2 i hi)⟩
theorem LeB.set(a:List Bool)(i:Nat)(b:Bool)(h:a.getD i false=true->b=true):LeB a (a.set i b):=by
 refine⟨by simp,fun j hj=>?_⟩;by_cases hi:i<a.length
 ·rw[Z3 _ _ _ _ hi]
  split
  ·next e=>subst e;exact h hj
  ·exact hj
 ·rw[List.set_eq_of_length_le Q2];exact hj
theorem Yi{β:Type}{f:List Bool->β->List Bool}(h:∀a b,LeB a (f a b)):∀(l:List β) (a:List Bool),LeB a (l.foldl f a)
 |[],a=>LeB.refl a
 |b::l,a=>(h a b).trans (Yi h l (f a b))
theorem Y9{β:Type}{f:List Bool->β->List Bool}(h:∀a b,LeB a (f a b)):∀(l:List β) (a:List Bool) (b:β),b∈l->∃a',LeB a a'/\LeB (f a' b) (l.foldl f a)
 |[],_,_,hb=>by cases hb
 |x::l,a,b,hb=>by
  rcases List.mem_cons.1 hb with rfl|hb
  ·exact⟨a,LeB.refl a,Yi h l _⟩
  ·obtain⟨a',h1,h2⟩:=Y9 h l (f a x) b hb;exact⟨a',(h a x).trans h1,h2⟩
theorem Q3o{f:List Bool->List Bool}(h:∀a,LeB a (f a))(a:List Bool):∀n,LeB a (iter f n a)
 |0=>LeB.refl a
 |n+1=>(Q3o h a n).trans (h _)
theorem ZU{a b:List Bool}(hl:a.length=b.length)(h:∀i,i<a.length->a.getD i false=b.getD i false):a=b:=by
 refine List.ext_getElem hl fun i h1 h2=>?_;have:=h i h1;simpa [List.getD_eq_getElem?_getD,List.getElem?_eq_getElem h1,List.getElem?_eq_getElem h2] using this
theorem Q13{f:List Bool->List Bool}(h:∀a,LeB a (f a))(a:List Bool):f (iter f a.length a)=iter f a.length a:=by
 have hlen:∀t,(iter f t a).length=a.length:=fun t=>(Q3o h a t).1.symm;refine ZU (by rw[<- (h _).1]) fun i hi=>?_;have hi':i<a.length:=by rw[<- (h _).1,hlen] at hi;exact hi
 exact Q4U (n:=a.length) (s:=fun t i=>(iter f t a).getD i false) (fun t i _=>(h (iter f t a)).2 i)
  (fun t ht i hi=>by
   have e:iter f (t+1) a=iter f t a:=ZU (by rw[hlen,hlen]) fun j hj=>ht j (by rw[hlen] at hj;exact hj)
   show (f (iter f (t+1) a)).getD i false=(iter f (t+1) a).getD i false
   rw[e]
   show (iter f (t+1) a).getD i false=_
   rw[e]) i hi'
theorem Q0z{f:List Bool->List Bool}(h:∀a,LeB a (f a))(a:List Bool):∀k,iter f (a.length+k) a=iter f a.length a
 |0=>rfl
 |k+1=>by
  show f (iter f (a.length+k) a)=_
  rw[Q0z h a k,Q13 h a]
def bg(F:List Rl)(i:Nat):List Nat:=match F[i]? with|none=>[]|some r=>(Xg r.kind r.count r.elem r.parts).map Int.toNat
inductive Rch (F:List Rl):Nat->Nat->Prop
 |one {i j:Nat} (h:j∈bg F i):Rch F i j
 |more {i j k:Nat} (h:Rch F i j) (hk:k∈bg F j):Rch F i k
theorem Rch.trans{k:Nat}(h:Rch F i j)(h':Rch F j k):Rch F i k:=by
 induction h' with
 |one hk=>exact .more h hk
 |more _ hk ih=>exact .more ih hk
def Bd(F:List Rl):Prop:=∀i,∀x∈bg F i,x<F.length
theorem Rch.lt(hb:Bd F)(h:Rch F i j):j<F.length:=by
 cases h with
 |one h=>exact hb _ _ h
 |more _ h=>exact hb _ _ h
def QpD(out:List Bool)(l:List Nat):List Bool:=l.foldl (fun o x=>o.set x true) out
theorem Qp1(out:List Bool)(l:List Nat):LeB out (QpD out l):=Yi (fun a b=>LeB.set a b true (fun _=>rfl)) l out
theorem Qls{x:Nat}(hx:x∈l)(hl:x<out.length):(QpD out l).getD x false=true:=by
 obtain⟨a',h1,h2⟩:=Y9 (f:=fun o x=>o.set x true) (fun a b=>LeB.set a b true (fun _=>rfl)) l out x hx;exact h2.2 x (by rw[Z3 _ _ _ _ (by rw[<- h1.1];exact hl),if_pos rfl])
theorem QoU:∀{out:List Bool} {x:Nat},(QpD out l).getD x false=true->out.getD x false=true\/x∈l:=by
 induction l with
 |nil=>intro out x h;exact .inl h
 |cons y l ih=>
  intro out x h;rcases ih (out:=out.set y true) h with h1|h1
  ·by_cases hy:y<out.length
   ·rw[Z3 _ _ _ _ hy] at h1
    split at h1
    ·next e=>subst e;exact .inr List.mem_cons_self
    ·exact .inl h1
   ·rw[List.set_eq_of_length_le Q2] at h1;exact .inl h1
  ·exact .inr (List.mem_cons_of_mem _ h1)
def Ve(F:List Rl)(st:Nat)(out:List Bool)(i:Nat):List Bool:=if i=st\/out.getD i false=true then QpD out (bg F i) else out
def Yr(F:List Rl)(st:Nat)(out:List Bool):List Bool:=(List.range F.length).foldl (Ve F st) out
def VJ(F:List Rl)(st:Nat):List Bool:=iter (Yr F st) (F.length+1) (List.replicate F.length false)
theorem Q3e(F:List Rl)(st:Nat)(out:List Bool)(i:Nat):LeB out (Ve F st out i):=by
 unfold Ve;split
 ·exact Qp1 _ _
 ·exact LeB.refl _
theorem K4(F:List Rl)(st:Nat)(out:List Bool):LeB out (Yr F st out):=Yi (Q3e F st) _ _
theorem Qfw(F:List Rl)(st:Nat):(VJ F st).length=F.length:=by
 have:=(Q3o (K4 F st) Qdm (F.length+1)).1;exact QlJ
def Snd(F:List Rl)(st:Nat)(out:List Bool):Prop:=∀i:Nat,out.getD i false=true->Rch F st i
theorem Q7G(h:Snd F st out):Snd F st (Ve F st out i):=by
 intro j hj;unfold Ve at hj;split at hj
 ·next hc=>
  rcases QoU hj with h1|h1
  ·exact h j h1
  ·rcases hc with rfl|hc
   ·exact .one h1
   ·exact .more (h i hc) h1
 ·exact h j hj
theorem Q16{α β:Type}{f:α->β->α}{p:α->Prop}(h:∀a b,p a->p (f a b)):∀(l:List β) (a:α),p a->p (l.foldl f a)
 |[],a,ha=>ha
 |b::l,a,ha=>Q16 h l (f a b) (h a b ha)
theorem Q37{α:Type}{f:α->α}{p:α->Prop}(h:∀a,p a->p (f a)){a:α}(ha:p a):∀n,p (iter f n a)
 |0=>ha
 |n+1=>h _ (Q37 h ha n)
theorem Yu(hb:Bd F)(hs:st<F.length)(j:Nat):(VJ F st).getD j false=true↔Rch F st j:=by
 constructor
 ·intro h;refine Q37 (f:=Yr F st) (p:=Snd F st) (fun a ha=>Q16 (fun a b ha=>Q7G ha) _ _ ha) (a:=List.replicate F.length false) ?_ (F.length+1) j h;intro i hi
  simp only[List.getD_eq_getElem?_getD,List.getElem?_replicate] at hi;split at hi<;>simp at hi
 ·have hrest:Yr F st (VJ F st)=VJ F st:=by
   have h1:=Q0z (K4 F st) Qdm 1;rw[List.length_replicate] at h1;have h2:=Q13 (K4 F st) Qdm;rw[List.length_replicate] at h2;unfold VJ;rw[h1];exact h2
  have hclosed:∀i x,i<F.length->(i=st\/(VJ F st).getD i false=true)->x∈bg F i->(VJ F st).getD x false=true:=by
   intro i x hi hc hx;obtain⟨a',h1,h2⟩:=Y9 (Q3e F st) (List.range F.length) (VJ F st) i (List.mem_range.2 hi);have h3:(Ve F st a' i).getD x false=true:=by
    unfold Ve;rw[if_pos (hc.imp id (h1.2 i))];exact Qls hx (by rw[<- h1.1,Qfw];exact hb i x hx)
   have h4:=h2.2 x h3;have:(Yr F st (VJ F st)).getD x false=true:=h4;rwa [hrest] at this
  intro h;induction h with
  |one h=>exact hclosed _ _ hs (.inl rfl) h
  |more h hk ih=>exact hclosed _ _ (h.lt hb) (.inr ih) hk
end
end Go.Proofs.YtphkhfdmlcnoeaaGreatDoor
