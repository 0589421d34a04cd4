import Derived.Test.YtphkhfdmlcnoeaaGreatDoorP7
import Derived.Shelf.Strings.OnBuilder
import Derived.Shelf.Small.Utf8
import Derived.Shelf.Utf8.RuneCount
import Derived.Shelf.Strconv.Itoa3
import Derived.Shelf.Strconv.AtoiAll
import Derived.Shelf.Strings.Shaped
import Derived.Shelf.Strings.SplitShaped
import Derived.Shelf.Strings.Runes
import Derived.Shelf.Strings.Explode
import Derived.Shelf.Unicode.DecodeAny
import Derived.Shelf.Unicode.IsSpaceAny
import Derived.Shelf.Unicode.ExclAny
import Derived.Shelf.Slices.Turned
import Derived.Shelf.Slices.Clone
import Derived.Shelf.SlicesE.Clone
import Derived.WalkSmall
import Derived.Test.YtphkhfdmlcnoeaaGreatDoorCards
import Derived.Test.YtphkhfdmlcnoeaaGreatDoorTie
import Derived.Deep.DeepWitnessRowRef
import Derived.Lib.LaidIn
import Derived.Stop.LaidErr
namespace Go.Proofs.YtphkhfdmlcnoeaaGreatDoor
set_option linter.unusedVariables false
set_option linter.unusedSimpArgs false
set_option maxRecDepth 1000000
set_option maxHeartbeats 32000000
open Go.RowKit
section
variable {Ab An Ap:Option Addr}{M:List Nat}{O:List Qf}{W w:World}{b bytes c cb cn cp n q:Nat}{cs:List Value}{e t:TypeId}{k:IntKind}{m:Int}{r:Rl}{sb sn sp:Value}{x y:Operand}
abbrev ruC(r:Rl)(sb sn sp:Value):List Value:=[.string ⟨r.name.toArray⟩,.int .i64 r.kind,sb,.int .i64 r.size,.bool r.big,.int .i64 r.mn,.int .i64 r.mx,.int .i64 r.stop,.int .i64 r.count,.int .i64 r.elem,sn,sp]
structure RuL(W:World)(r:Rl)(Ab:Option Addr)(cb:Nat)(An:Option Addr)(cn:Nat)(Ap:Option Addr)(cp:Nat):Prop where
 cb:r.bs.length<=cb
 cn:r.names.length<=cn
 cp:r.parts.length<=cp
 b:Rd W W.heap.size 1 Ab r.bs.length (bv r.bs)
 n:Rd W W.heap.size 1 An r.names.length (sv r.names)
 p:Rd W W.heap.size 1 Ap r.parts.length (iv r.parts)
theorem RuL.on(h:RuL W r Ab cb An cn Ap cp)(hb:Below W.heap.size W w):RuL w r Ab cb An cn Ap cp:=
 ⟨h.cb,h.cn,h.cp,(h.b.below hb).more hb.size,(h.n.below hb).more hb.size,(h.p.below hb).more hb.size⟩
theorem KI.lists(h:KI W W.heap.size r sb sn sp):∃Ab cb An cn Ap cp,sb=.slice Ab r.bs.length cb/\sn=.slice An r.names.length cn/\sp=.slice Ap r.parts.length cp/\RuL W r Ab cb An cn Ap cp:=by
 obtain⟨Ab,nb,cb,An,nn,cn,Ap,np,cp,rfl,rfl,rfl,h1,h2,h3,h4,h5,h6⟩:=h;have e1:r.bs.length=nb:=by have:=h4.len;rw[QM] at this;exact this
 have e2:r.names.length=nn:=by have:=h5.len;rw[Xw] at this;exact this
 have e3:r.parts.length=np:=by have:=h6.len;rw[Q0o] at this;exact this
 subst e1;subst e2;subst e3;exact QnG
theorem Ky.range{o:Nat}(h:Ky w b o r sb sn sp):w.rangeAt b o (ruC r sb sn sp):=by
 obtain⟨h0,h1,h2,h3,h4,h5,h6,h7,h8,h9,h10,h11⟩:=h;intro j v hv;match j,hv with
 |0,hv=>cases hv;exact h0
 |1,hv=>cases hv;exact h1
 |2,hv=>cases hv;exact h2
 |3,hv=>cases hv;exact h3
 |4,hv=>cases hv;exact h4
 |5,hv=>cases hv;exact h5
 |6,hv=>cases hv;exact h6
 |7,hv=>cases hv;exact h7
 |8,hv=>cases hv;exact h8
 |9,hv=>cases hv;exact h9
 |10,hv=>cases hv;exact h10
 |11,hv=>cases hv;exact h11
 |j+12,hv=>cases hv
theorem QS.rule{A:Option Addr}{i:Nat}{F:List Rl}(h:QS W W.heap.size A n F)(hi:i<n):∃b o r Ab cb An cn Ap cp,A=some ⟨b,o,none⟩/\F[i]? =some r/\W.rangeAt b (o+i*12) (ruC r (.slice Ab r.bs.length cb) (.slice An r.names.length cn) (.slice Ap r.parts.length cp))/\RuL W r Ab cb An cn Ap cp:=by
 obtain⟨b,o,r,sb,sn,sp,e,hb,hr,hc,hs⟩:=h.at_ hi;obtain⟨Ab,cb,An,cn,Ap,cp,rfl,rfl,rfl,hl⟩:=hs.lists;exact⟨b,o,r,Ab,cb,An,cn,Ap,cp,e,hr,hc.range,hl⟩
structure RSm(r:Rl):Prop where
 name:r.name.length<=1048576
 bs:r.bs.length<=1048576
 names:r.names.length<=1048576
 parts:r.parts.length<=1048576
 each:∀s∈r.names,s.length<=1048576
def FSm(F:List Rl):Prop:=F.length<=1048576/\∀r∈F,RSm r
theorem Wd.range_old(hr:W.rangeAt b q cs)(hM:b∉M)(h:Wd M W O w):w.rangeAt b q cs:=fun j v hv=>h.cell_old (hr j v hv) hM
theorem Wd.cell_range{j:Nat}{v:Value}(hr:W.rangeAt b q cs)(hv:cs[j]? =some v)(hM:b∉M)(h:Wd M W O w):w.cell? ⟨b,q+j,none⟩=some v:=h.cell_old (hr j v hv) hM
section
variable {P:Program}{ops:Array Oper}{C:World->Prop}{N:Nat}{E:Env}{o:Oper}{d:Nat}
theorem QG{s:Nat}[hT:Sl P t e s bytes](ho:o.op=.indexAddr t x y)(hd:o.dst=some d)(hN:d<N)(hw:Qo ops E o=some true)(hx:ev E x=some (.slice (some ⟨b,q,none⟩) n c))(hy:ev E y=some (.int k m))(hj:0<=m/\m<n):oE P ops C N E ((d,.pointer (some ⟨b,q+m.toNat*s,none⟩))::E) o:=by
 obtain⟨j,rfl⟩:∃j:Nat,m=(j:Int):=⟨m.toNat,by omega⟩;exact Xc ho hd hN hw hx hy Q3
theorem J6[hT:Sl P t e 1 bytes](ho:o.op=.indexAddr t x y)(hd:o.dst=some d)(hN:d<N)(hw:Qo ops E o=some true)(hx:ev E x=some (.slice (some ⟨b,q,none⟩) n c))(hy:ev E y=some (.int k m))(hj:0<=m/\m<n):oE P ops C N E ((d,.pointer (some ⟨b,q+m.toNat,none⟩))::E) o:=by
 have:=QG (P:=P) (C:=C) ho hd hN hw hx hy hj;rwa [Nat.mul_one] at this
end
def Xs(r:Rl)(early:List Rl)(n:Nat):Int:=
 if !(QA r.name) then 7
 else if decide (0<=Vd early r.name) then 8
 else if !(inB r.kind 1 10) then 5
 else if !(Xd r.kind r.size r.big r.mn r.mx r.stop r.count r.elem r.bs.length r.names.length r.parts.length) then 6
 else if r.kind==1&&((r.bs.length:Int)==0) then 10
 else if decide (16<(r.bs.length:Int)) then 3
 else if r.kind==7&&((r.names.length:Int) != (r.parts.length:Int)) then 9
 else if (r.kind==7&&((r.parts.length:Int)==0)) then 10
 else if (r.kind==8&&decide ((r.parts.length:Int)<2)) then 10
 else if decide (12<(r.parts.length:Int)) then 2
 else if !(QH r.kind r.size r.mn r.mx r.stop r.count r.elem r.parts n) then 4
 else 0
theorem Q9F{a0:Value}{k size mn mx stop count elem:Int}{big:Bool}{nb nn np:Nat}{parts:List Int}(hk:inB k 1 10=true)(hn:n<=1048576)(hp:Rd w w.heap.size 1 Ap np (iv parts))(hnp:np<=1048576):
  Calls Tryz.prog 149 #[.agg #[a0,.int .i64 k,.slice Ab nb cb,.int .i64 size,.bool big,.int .i64 mn,.int .i64 mx,.int .i64 stop,.int .i64 count,.int .i64 elem,.slice An nn cn,.slice Ap np cp],.int .i64 (n:Int)] w fun e w'=>e=.returned (.bool (QH k size mn mx stop count elem parts n))/\Below w.heap.size w w':=by
 have hk':1<=k/\k<=10:=by unfold inB at hk;simpa using hk
 rcases (show k=1\/k=2\/k=3\/k=4\/k=5\/k=6\/k=7\/k=8\/k=9\/k=10 by omega) with rfl|rfl|rfl|rfl|rfl|rfl|rfl|rfl|rfl|rfl
 ·exact QkS w hn hp hnp
 ·exact QnV w hn
 ·exact QkX w hn
 ·exact Qnp w hn
 ·exact Qoa w hn
 ·exact Qou w hn
 ·exact Qkg w hn hp hnp
 ·exact QkV w hn hp hnp
 ·exact QoB w hn
 ·exact Qip w hn
end
open Go.ChangeShapes Go.WideShapes Go.ChangeAt Go.RowKit Go.Deep
def nmW(ns:List (List UInt8)):Nat:=(ns.map fun x=>x.length+1).sum
theorem Qph{ns:List (List UInt8)}{x:List UInt8}(h:x∈ns):x.length+1<=nmW ns:=by
 induction ns with
 |nil=>cases h
 |cons y r ih=>
  unfold nmW at*
  simp only[List.map_cons,List.sum_cons];rcases List.mem_cons.1 h with rfl|h
  ·omega
  ·have:=ih h;omega
theorem Qq5(ns:List (List UInt8)):ns.length<=nmW ns:=by
 induction ns with
 |nil=>simp [nmW]
 |cons y r ih=>
  unfold nmW at*
  exact Qjp
def ruW(r:Rl):Nat:=r.name.length+r.bs.length+nmW r.names+r.parts.length+1
theorem Qu8{r:Rl}(h:ruW r<=1048576):RSm r:=by
 unfold ruW at h;exact⟨by omega,by omega,by have:=Qq5 r.names;omega,by omega,fun s hs=>by have:=Qph hs;omega⟩
section
variable {H:Type}{enc:TypeId×Value->H}{W:World}
theorem QeM(ss:List ByteArray):Rows.uptoBulkAll (strs (H:=H) ss)=nmW (ss.map fun s=>s.data.toList):=by
 induction ss with
 |nil=>rfl
 |cons s r ih=>
  have e:strs (H:=H) (s::r)=DataW.lit (.string s.data.toList)::strs r:=by simp [strs]
  rw[e];simp only[Rows.uptoBulkAll,Rows.uptoBulk,List.map_cons];rw[ih];simp [nmW]
theorem Q8o{fuel:Nat}{cs:List Value}{x:DataW H×List MemPlace}(h:DataW.trod enc Tryz.prog W 0 (fun _=>true) true fuel 27 cs=some x):
  ∃(A:Option Addr) (n c:Nat) (ns:List (List UInt8)),cs=[.slice A n c]/\Rd W W.heap.size 1 A n (sv ns)/\n<=c/\nmW ns+1<=Rows.uptoBulk x.1:=by
 rcases open_strings Tryz.underlying27 Tryz.underlying9 Q5 h with ⟨hcs,hx⟩|⟨a,len,cap,ss,hcs,_,hl,hm,hz,hx,hcell,_⟩
 ·exact⟨none,0,0,[],hcs,Qoi,Nat.le_refl _,by simp [nmW];exact Xy x.1⟩
 ·subst hx
  have hz':ss.length=cap:=by simpa using hz
  refine⟨some a,len,cap,(ss.take len).map (fun s=>s.data.toList),hcs,⟨by simp [sv];omega,fun hn=>?_⟩,hl,?_⟩
  ·have h0:=hcell 0 Q3
   have hs:a.spot=none:=by simpa [Addr.add] using World.cell?_spot h0
   obtain⟨b,o,sp⟩:=a;simp only at hs;subst hs;refine⟨b,o,rfl,World.block_lt_of_cell? W _ Qex,fun j u hu=>?_⟩;have e:(⟨b,o,none⟩:Addr).add j=⟨b,o+j,none⟩:=by unfold Addr.add;split<;>simp_all
   rw[<- e];simp only[sv,List.map_map,List.getElem?_map,List.getElem?_take] at hu;split at hu
   ·rename_i hj
    have hjl:j<ss.length:=by omega
    rw[List.getElem?_eq_getElem hjl] at hu;simp only[Option.map_some,Option.some.injEq,Function.comp] at hu;rw[hcell j hjl,List.getD_eq_getElem?_getD,List.getElem?_eq_getElem hjl];rw[<- hu];rfl
   ·simp at hu
  ·simp only[Rows.uptoBulk]
   rw[QeM (ss.take len)];omega
theorem Q85{fuel:Nat}{cs:List Value}{x:DataW H×List MemPlace}(h:DataW.trod enc Tryz.prog W 0 (fun _=>true) true fuel 25 cs=some x):
  ∃(A:Option Addr) (n c:Nat) (bs:List UInt8),cs=[.slice A n c]/\Rd W W.heap.size 1 A n (bv bs)/\n<=c/\bs.length=n/\n+1<=Rows.uptoBulk x.1:=by
 rcases open_ints Tryz.underlying25 Tryz.underlying5 Q5 h with ⟨hcs,hx⟩|⟨a,len,cap,zs,hcs,_,hl,hm,hz,hx,hcell,hwz⟩
 ·exact Qog
 ·subst hx
  have hz':zs.length=cap:=by simpa using hz
  have hr:=Q2E hl hz' hcell;obtain⟨bs,hbl,hbe⟩:=Q2a (zs.take len) Qr6;rw[hbe] at hr;have hbl':bs.length=len:=by rw[hbl,List.length_take];omega
  refine⟨_,_,_,bs,hcs,hr,hl,hbl',?_⟩;have h1:=Qly;exact Qo7
theorem Qc8{α:Type}(n:Nat)(P:Nat->α->Prop)(h:∀i,i<n->∃x,P i x):∃l:List α,l.length=n/\∀i x,l[i]? =some x->P i x:=by
 induction n with
 |zero=>exact⟨[],rfl,fun i x h=>by simp at h⟩
 |succ n ih=>
  obtain⟨l,hl,hp⟩:=ih fun i hi=>h i Q3;obtain⟨x,hx⟩:=h n Q3;refine⟨l++[x],by simp [hl],fun i y hy=>?_⟩;by_cases hi:i<l.length
  ·rw[List.getElem?_append_left hi] at hy;exact hp i y hy
  ·rw[List.getElem?_append_right Q3] at hy;obtain⟨k,hk⟩:∃k,i - l.length=k:=⟨_,rfl⟩;rw[hk] at hy
   cases k with
   |zero=>
    simp at hy;subst hy;obtain rfl:i=n:=by omega
    exact hx
   |succ k=>simp at hy
theorem Q9R{fuel:Nat}{cs:List Value}{x:DataW H×List MemPlace}(h:DataW.trod enc Tryz.prog W 0 (fun _=>true) true fuel 48 cs=some x):
  ∃(A:Option Addr) (n c:Nat) (l:List Int),cs=[.slice A n c]/\Rd W W.heap.size 1 A n (iv l)/\n<=c/\l.length=n/\n+1<=Rows.uptoBulk x.1:=by
 rcases open_ints Tryz.underlying48 Tryz.underlying3 Q5 h with ⟨hcs,hx⟩|⟨a,len,cap,zs,hcs,_,hl,hm,hz,hx,hcell,hwz⟩
 ·exact⟨none,0,0,[],hcs,Qoi,Nat.le_refl _,rfl,Xy x.1⟩
 ·subst hx
  have hz':zs.length=cap:=by simpa using hz
  refine⟨_,_,_,zs.take len,hcs,Q2E hl hz' hcell,hl,by rw[List.length_take];omega,?_⟩;have h1:=Qbm (lits (H:=H) .i64 (zs.take len));exact Qo7
theorem QmU(b o j:Nat):(⟨b,o,none⟩:Addr).add j=⟨b,o+j,none⟩:=by unfold Addr.add;split<;>simp_all
theorem Qb7{fuel:Nat}{cs:List Value}{x:DataW H×List MemPlace}(h:DataW.trod enc Tryz.prog W 0 (fun _=>true) true fuel 65 cs=some x):
  ∃(r:Rl) (sb sn sp:Value),cs=ruC r sb sn sp/\KI W W.heap.size r sb sn sp/\ruW r<=Rows.uptoBulk x.1:=by
 obtain⟨xs,n,rfl,rfl,hl,hlen,hf⟩:=DataW.trod_struct Tryz.underlying65 h;obtain⟨y0,y1,y2,y3,y4,y5,y6,y7,y8,y9,y10,y11,rfl⟩:∃y0 y1 y2 y3 y4 y5 y6 y7 y8 y9 y10 y11,xs=[y0,y1,y2,y3,y4,y5,y6,y7,y8,y9,y10,y11]:=by
  match xs,hlen with
  |[y0,y1,y2,y3,y4,y5,y6,y7,y8,y9,y10,y11],_=>exact⟨y0,y1,y2,y3,y4,y5,y6,y7,y8,y9,y10,y11,rfl⟩
 have hC:Tryz.prog.cellsOf 65=12:=by kernel_rfl
 rw[hC] at hl;obtain⟨c0,c1,c2,c3,c4,c5,c6,c7,c8,c9,c10,c11,rfl⟩:∃c0 c1 c2 c3 c4 c5 c6 c7 c8 c9 c10 c11,cs=[c0,c1,c2,c3,c4,c5,c6,c7,c8,c9,c10,c11]:=by
  match cs,hl with
  |[c0,c1,c2,c3,c4,c5,c6,c7,c8,c9,c10,c11],_=>exact⟨c0,c1,c2,c3,c4,c5,c6,c7,c8,c9,c10,c11,rfl⟩
 have k0:Tryz.prog.cellsOf 48=1:=by kernel_rfl
 have k1:Tryz.prog.cellsOf 27=1:=by kernel_rfl
 have k2:Tryz.prog.cellsOf 25=1:=by kernel_rfl
 have k3:Tryz.prog.cellsOf 4=1:=by kernel_rfl
 have k4:Tryz.prog.cellsOf 3=1:=by kernel_rfl
 have k5:Tryz.prog.cellsOf 9=1:=by kernel_rfl
 have f0:DataW.trod enc Tryz.prog W 0 (fun _=>true) true n 9 [c0]=some y0:=by have h:=hf 0 _ rfl;simpa [k5] using h
 have f1:DataW.trod enc Tryz.prog W 0 (fun _=>true) true n 3 [c1]=some y1:=by have h:=hf 1 _ rfl;simpa [k4] using h
 have f2:DataW.trod enc Tryz.prog W 0 (fun _=>true) true n 25 [c2]=some y2:=by have h:=hf 2 _ rfl;simpa [k2] using h
 have f3:DataW.trod enc Tryz.prog W 0 (fun _=>true) true n 3 [c3]=some y3:=by have h:=hf 3 _ rfl;simpa [k4] using h
 have f4:DataW.trod enc Tryz.prog W 0 (fun _=>true) true n 4 [c4]=some y4:=by have h:=hf 4 _ rfl;simpa [k3] using h
 have f5:DataW.trod enc Tryz.prog W 0 (fun _=>true) true n 3 [c5]=some y5:=by have h:=hf 5 _ rfl;simpa [k4] using h
 have f6:DataW.trod enc Tryz.prog W 0 (fun _=>true) true n 3 [c6]=some y6:=by have h:=hf 6 _ rfl;simpa [k4] using h
 have f7:DataW.trod enc Tryz.prog W 0 (fun _=>true) true n 3 [c7]=some y7:=by have h:=hf 7 _ rfl;simpa [k4] using h
 have f8:DataW.trod enc Tryz.prog W 0 (fun _=>true) true n 3 [c8]=some y8:=by have h:=hf 8 _ rfl;simpa [k4] using h
 have f9:DataW.trod enc Tryz.prog W 0 (fun _=>true) true n 3 [c9]=some y9:=by have h:=hf 9 _ rfl;simpa [k4] using h
 have f10:DataW.trod enc Tryz.prog W 0 (fun _=>true) true n 27 [c10]=some y10:=by have h:=hf 10 _ rfl;simpa [k1] using h
 have f11:DataW.trod enc Tryz.prog W 0 (fun _=>true) true n 48 [c11]=some y11:=by have h:=hf 11 _ rfl;simpa [k0] using h
 obtain⟨n0,e0,z0⟩:=DataW.trod_string Tryz.underlying9 f0;obtain⟨n1,e1,_,w1⟩:=DataW.trod_int Tryz.underlying3 f1;obtain⟨A2,l2,p2,n2,e2,r2,q2,s2,u2⟩:=Q85 f2;obtain⟨n3,e3,_,w3⟩:=DataW.trod_int Tryz.underlying3 f3;obtain⟨n4,e4,_⟩:=DataW.trod_bool Tryz.underlying4 f4;obtain⟨n5,e5,_,w5⟩:=DataW.trod_int Tryz.underlying3 f5;obtain⟨n6,e6,_,w6⟩:=DataW.trod_int Tryz.underlying3 f6;obtain⟨n7,e7,_,w7⟩:=DataW.trod_int Tryz.underlying3 f7;obtain⟨n8,e8,_,w8⟩:=DataW.trod_int Tryz.underlying3 f8;obtain⟨n9,e9,_,w9⟩:=DataW.trod_int Tryz.underlying3 f9;obtain⟨A10,l10,p10,n10,e10,r10,q10,u10⟩:=Q8o f10;obtain⟨A11,l11,p11,n11,e11,r11,q11,s11,u11⟩:=Q9R f11;simp only[List.cons.injEq,and_true] at e0 e1 e2 e3 e4 e5 e6 e7 e8 e9 e10 e11;subst e0 e1 e2 e3 e4 e5 e6 e7 e8 e9 e10 e11;refine⟨⟨n0.data.toList,n1,n2,n3,n4,n5,n6,n7,n8,n9,n10,n11⟩,_,_,_,by simp [ruC],⟨A2,l2,p2,A10,l10,p10,A11,l11,p11,rfl,rfl,rfl,q2,q10,q11,r2,r10,r11⟩,?_⟩;have b1:=Xy y1.1;have b3:=Xy y3.1;have b4:=Xy y4.1;have b5:=Xy y5.1;have b6:=Xy y6.1;have b7:=Xy y7.1;have b8:=Xy y8.1;have b9:=Xy y9.1;simp only[z0,ruW,List.map_cons,List.map_nil,Rows.uptoBulk,Rows.uptoBulkAll];omega
theorem Q7d{fuel:Nat}{cs:List Value}{x:DataW H×List MemPlace}(h:DataW.trod enc Tryz.prog W 0 (fun _=>true) true fuel 22 cs=some x)(hb:Rows.uptoBulk x.1<=1048576):
  ∃(A:Option Addr) (n c:Nat) (F:List Rl),cs=[.slice A n c]/\QS W W.heap.size A n F/\FSm F/\n<=c:=by
 rcases DataW.trod_slice Tryz.underlying22 h with ⟨hcs,hx⟩|⟨a,l,c,elems,rest,n',hfu,hcs,hx,_,hl',hm,hel0,hel,_,_⟩
 ·exact⟨none,0,0,[],hcs,⟨rfl,fun h0=>absurd h0 Qe0⟩,⟨Nat.zero_le _,fun r hr=>by cases hr⟩,Nat.le_refl _⟩
 ·have hC:Tryz.prog.cellsOf 65=12:=by kernel_rfl
  have each:∀i,i<l->∃y:Rl×(Value×Value×Value),(∃cs',W.cells? 0 (a.add (i*12)) 12=some cs'/\cs'=ruC y.1 y.2.1 y.2.2.1 y.2.2.2)/\KI W W.heap.size y.1 y.2.1 y.2.2.1 y.2.2.2/\(∀e,(elems.map (·.1))[i]? =some e->ruW y.1<=Rows.uptoBulk e):=by
   intro i hlt;have hel':=hel i hlt;rw[hC,List.getElem?_eq_getElem (show i<elems.length by omega)] at hel';obtain⟨cs',hc,ht⟩:=Option.bind_eq_some_iff.1 hel';obtain⟨r,sb,sn,sp,hcs',hd,hw⟩:=Qb7 ht
   exact⟨(r,(sb,sn,sp)),⟨cs',hc,hcs'⟩,hd,fun e he=>by
    rw[List.getElem?_map,List.getElem?_eq_getElem (show i<elems.length by omega)] at he
    simp only[Option.map_some,Option.some.injEq] at he
    subst he
    exact hw⟩
  obtain⟨ys,hyl,hys⟩:=Qc8 l _ each;have hsum:∀(L:List (Rl×(Value×Value×Value))) (E:List (DataW H)),L.length=E.length->(∀(i:Nat) (y:Rl×(Value×Value×Value)) (e:DataW H),L[i]? =some y->E[i]? =some e->ruW y.1<=Rows.uptoBulk e)->L.length<=Rows.uptoBulkAll E/\∀y∈L,ruW y.1<=Rows.uptoBulkAll E:=by
   intro L;induction L with
   |nil=>intro E _ _;exact⟨Nat.zero_le _,fun y hy=>by cases hy⟩
   |cons y L ih=>
    intro E hE h;cases E with
    |nil=>cases hE
    |cons e E=>
     have h1:=h 0 y e rfl rfl;have h2:=ih E (by simpa using hE) fun i z e' hz he=>h (i+1) z e' (by simpa using hz) (by simpa using he);have h3:1<=ruW y.1:=by unfold ruW;omega
     simp only[Rows.uptoBulkAll,List.length_cons];refine⟨by omega,fun z hz=>?_⟩;rcases List.mem_cons.1 hz with rfl|hz
     ·omega
     ·have:=h2.2 z hz;omega
  have hs:=hsum ys (elems.map (·.1)) (by simp [hyl,hel0]) fun i y e hy he=>(hys i y hy).2.2 e he;have hbk:Rows.uptoBulkAll (elems.map (·.1))<=1048576:=by
   rw[hx] at hb;simp only[Rows.uptoBulk] at hb;omega
  refine⟨some a,l,c,ys.map (·.1),hcs,⟨by rw[List.length_map,hyl],fun h0=>?_⟩,⟨by rw[List.length_map];omega,fun r hr=>?_⟩,hl'⟩
  ·have hy0:ys[0]? =some ys[0]:=List.getElem?_eq_getElem Q3;obtain⟨⟨cs0,hc0,hcs0⟩,_⟩:=hys 0 _ hy0;obtain⟨_,_,hat0⟩:=World.cells?_some hc0;have hcell0:=hat0 0 Q3
   have hsp:a.spot=none:=by rw[hcs0] at hcell0;simpa [Addr.add] using World.cell?_spot hcell0
   obtain⟨b,o,sp⟩:=a;simp only at hsp;subst hsp;have hadd:∀i j,((⟨b,o,none⟩:Addr).add (i*12)).add j=⟨b,o+i*12+j,none⟩:=fun i j=>by rw[QmU,QmU]
   refine⟨b,o,rfl,?_,fun i r hr=>?_⟩
   ·rw[hcs0] at hcell0;have:=World.block_lt_of_cell? W _ hcell0
    simpa [Addr.add] using this
   ·rw[List.getElem?_map] at hr
    cases hy:ys[i]? with
    |none=>rw[hy] at hr;simp at hr
    |some y=>
     rw[hy] at hr;simp only[Option.map_some,Option.some.injEq] at hr;subst hr;obtain⟨⟨cs1,hc1,hcs1⟩,hd,_⟩:=hys i y hy;obtain⟨_,_,hat⟩:=World.cells?_some hc1;rw[hcs1] at hat;have q0:=hat 0 Q3;have q1:=hat 1 Q3;have q2:=hat 2 Q3;have q3:=hat 3 Q3;have q4:=hat 4 Q3;have q5:=hat 5 Q3;have q6:=hat 6 Q3;have q7:=hat 7 Q3;have q8:=hat 8 Q3;have q9:=hat 9 Q3;have q10:=hat 10 Q3;have q11:=hat 11 Q3;rw[hadd] at q0 q1 q2 q3 q4 q5 q6 q7 q8 q9 q10 q11;exact⟨_,_,_,⟨by simpa using q0,by simpa using q1,by simpa using q2,by simpa using q3,by simpa using q4,by simpa using q5,by simpa using q6,by simpa using q7,by simpa using q8,by simpa using q9,by simpa using q10,by simpa using q11⟩,hd⟩
  ·obtain⟨y,hy,rfl⟩:=List.mem_map.1 hr;exact Qu8 (by have:=hs.2 y hy;omega)
theorem Qbr{base:Nat}{v:Value}{d:DataW H}{p:List MemPlace}(hv:Value.okWide Tryz.prog W .any base 24 v)(h:DataW.Trod enc Tryz.prog W 0 (fun _=>true) true 24 v d p)(hb:Rows.uptoBulk d<=1048576):
  ∃(A:Option Addr) (n c:Nat) (F:List Rl),v=.agg #[.slice A n c]/\QS W W.heap.size A n F/\FSm F/\n<=c:=by
 obtain⟨cs,rfl,hsz⟩:=okWide_struct Tryz.underlying24 hv;obtain⟨fuel,hf⟩:=h;obtain⟨xs,n,rfl,hx,hl,hlen,hf'⟩:=DataW.trod_struct Tryz.underlying24 hf;obtain⟨y0,rfl⟩:∃y0,xs=[y0]:=by
  match xs,hlen with
  |[y0],_=>exact⟨y0,rfl⟩
 have hC:Tryz.prog.cellsOf 24=1:=by kernel_rfl
 have k0:Tryz.prog.cellsOf 22=1:=by kernel_rfl
 rw[hC] at hl;obtain⟨c0,hc0⟩:∃c0,(Value.agg cs).cells.toList=[c0]:=by
  match (Value.agg cs).cells.toList,hl with
  |[c0],_=>exact⟨c0,rfl⟩
 have f0:DataW.trod enc Tryz.prog W 0 (fun _=>true) true n 22 [c0]=some y0:=by
  have h:=hf' 0 _ rfl;rw[hc0] at h;simpa [k0] using h
 have hx1:d=.agg [y0.1]:=congrArg (·.1) hx
 obtain⟨A,n1,c1,F,e,h1,h2,h3⟩:=Q7d f0 (by
  rw[hx1] at hb
  simp only[Rows.uptoBulk,Rows.uptoBulkAll] at hb
  omega)
 simp only[List.cons.injEq,and_true] at e;subst e;refine⟨A,n1,c1,F,?_,h1,h2,h3⟩;have h4:cs.toList=[.slice A n1 c1]:=hc0;have h5:cs=#[.slice A n1 c1]:=by
  apply Array.toList_inj.1;exact h4
 rw[h5]
end
end Go.Proofs.YtphkhfdmlcnoeaaGreatDoor
namespace Go.Proofs
set_option linter.unusedVariables false
set_option linter.unusedSimpArgs false
set_option maxRecDepth 1000000
set_option maxHeartbeats 32000000
open Go.Shelf
def Tryz.lays156_ren:Go.Shelf.Ren:=⟨fun|156=>128|165=>159|166=>160|169=>161|240=>178|241=>179|276=>197|277=>198|n=>n,fun|31=>27|9=>9|3=>3|4=>4|0=>0|20=>20|72=>175|76=>178|70=>173|37=>25|75=>177|127=>195|164=>216|5=>5|80=>156|n=>n,fun|n=>n⟩
theorem Tryz.lays156:Go.Proofs.Lays.n156 Tryz.prog Tryz.lays156_ren:={
 mixed:=by kernel_rfl
 f156:=Tryz.func128.trans (congrArg some (by kernel_rfl))
 f165:=Tryz.func159.trans (congrArg some (by kernel_rfl))
 f166:=Tryz.func160.trans (congrArg some (by kernel_rfl))
 f169:=Tryz.func161.trans (congrArg some (by kernel_rfl))
 f240:=Tryz.func178.trans (congrArg some (by kernel_rfl))
 f241:=Tryz.func179.trans (congrArg some (by kernel_rfl))
 f276:=Tryz.func197.trans (congrArg some (by kernel_rfl))
 f277:=Tryz.func198.trans (congrArg some (by kernel_rfl))
 t0:=Tryz.underlying0
 a0:=Tryz.isAgg0
 z0:=Tryz.sizeOf0
 v0:=Tryz.zeroValue0
 t3:=Tryz.underlying3
 a3:=Tryz.isAgg3
 z3:=Tryz.sizeOf3
 v3:=Tryz.zeroValue3
 t4:=Tryz.underlying4
 a4:=Tryz.isAgg4
 z4:=Tryz.sizeOf4
 v4:=Tryz.zeroValue4
 t9:=Tryz.underlying9
 a9:=Tryz.isAgg9
 z9:=Tryz.sizeOf9
 v9:=Tryz.zeroValue9
 t20:=Tryz.underlying20
 a20:=Tryz.isAgg20
 z20:=Tryz.sizeOf20
 v20:=Tryz.zeroValue20
 t31:=Tryz.underlying27
 a31:=Tryz.isAgg27
 z31:=Tryz.sizeOf27
 v31:=Tryz.zeroValue27
 t37:=Tryz.underlying25
 a37:=Tryz.isAgg25
 z37:=Tryz.sizeOf25
 v37:=Tryz.zeroValue25
 t70:=Tryz.underlying173
 a70:=Tryz.isAgg173
 z70:=Tryz.sizeOf173
 v70:=Tryz.zeroValue173
 t72:=Tryz.underlying175
 a72:=Tryz.isAgg175
 z72:=Tryz.sizeOf175
 v72:=Tryz.zeroValue175
 t75:=Tryz.underlying177
 a75:=Tryz.isAgg177
 z75:=Tryz.sizeOf177
 v75:=Tryz.zeroValue177
 t76:=Tryz.underlying178
 a76:=Tryz.isAgg178
 z76:=Tryz.sizeOf178
 v76:=Tryz.zeroValue178
 t127:=Tryz.underlying195
 a127:=Tryz.isAgg195
 z127:=Tryz.sizeOf195
 v127:=Tryz.zeroValue195
 t164:=Tryz.underlying216
 a164:=Tryz.isAgg216
 z164:=Tryz.sizeOf216
 v164:=Tryz.zeroValue216 }
theorem Tryz.Builder_Extra_156:Builder.Extra Tryz.prog Tryz.lays156_ren:={
 sizeBuilder:=by kernel_rfl
 liesBuilder:=by kernel_rfl
 t5:=Tryz.underlying5
 a5:=Tryz.isAgg5
 z5:=Tryz.sizeOf5
 v5:=Tryz.zeroValue5
 infoByte:=by kernel_rfl
 cellsByte:=by kernel_rfl
 sizeByte:=by kernel_rfl
 neB5:=by decide }
open Go.RowKit in
theorem Tryz.strings_Join_none(a:Option Addr)(c:Nat)(sep:ByteArray)(w:World):
  Calls Tryz.prog 128 #[.slice a 0 c,.string sep] w fun e w'=>e=.returned (.string ⟨#[]⟩)/\w'=w:=Any.strings_Join_none Tryz.lays156 Tryz.Builder_Extra_156 a c sep w
open Go.RowKit in
theorem Tryz.strings_Join(bk o c:Nat)(xs:List ByteArray)(sep:ByteArray)(w:World)(hcells:∀(j:Nat) x,xs[j]? =some x->w.cell? ⟨bk,o+j,none⟩=some (.string x))(hbk:bk<w.heap.size)(hN:xs.length<=140737488355328)(hcap:xs.length<=c)(hlen:(Lib.join (xs.map (·.data.toList)) sep.data.toList).length<=140737488355328):
  Calls Tryz.prog 128 #[.slice (some ⟨bk,o,none⟩) xs.length c,.string sep] w fun e w'=>e=.returned (.string ⟨(Lib.join (xs.map (·.data.toList)) sep.data.toList).toArray⟩)/\Below w.heap.size w w':=Any.strings_Join Tryz.lays156 Tryz.Builder_Extra_156 bk o c xs sep w hcells hbk hN hcap hlen
def Tryz.laysM171_ren:Go.Shelf.Ren:=⟨fun|171=>114|243=>147|246=>174|283=>191|284=>192|285=>193|286=>194|129=>212|317=>211|318=>213|319=>214|320=>215|337=>220|338=>221|n=>n,fun|3=>3|9=>9|2=>2|4=>4|171=>200|0=>0|53=>143|37=>25|5=>5|173=>203|212=>231|51=>192|20=>20|213=>232|46=>135|232=>250|233=>251|n=>n,fun|17=>3|18=>8|19=>9|n=>n⟩
theorem Tryz.laysM171:Go.Proofs.LaysM.n171 Tryz.prog Tryz.laysM171_ren:={
 mixed:=by kernel_rfl
 f129:=Tryz.func212.trans (congrArg some (by kernel_rfl))
 f171:=Tryz.func114.trans (congrArg some (by kernel_rfl))
 f243:=Tryz.func147.trans (congrArg some (by kernel_rfl))
 f246:=Tryz.func174.trans (congrArg some (by kernel_rfl))
 f283:=Tryz.func191.trans (congrArg some (by kernel_rfl))
 f284:=Tryz.func192.trans (congrArg some (by kernel_rfl))
 f285:=Tryz.func193.trans (congrArg some (by kernel_rfl))
 f286:=Tryz.func194.trans (congrArg some (by kernel_rfl))
 f317:=Tryz.func211.trans (congrArg some (by kernel_rfl))
 f318:=Tryz.func213.trans (congrArg some (by kernel_rfl))
 f319:=Tryz.func214.trans (congrArg some (by kernel_rfl))
 f320:=Tryz.func215.trans (congrArg some (by kernel_rfl))
 f337:=Tryz.func220.trans (congrArg some (by kernel_rfl))
 f338:=Tryz.func221.trans (congrArg some (by kernel_rfl))
 t0:=Tryz.underlying0
 a0:=Tryz.isAgg0
 z0:=Tryz.sizeOf0
 v0:=Tryz.zeroValue0
 t2:=Tryz.underlying2
 a2:=Tryz.isAgg2
 z2:=Tryz.sizeOf2
 v2:=Tryz.zeroValue2
 t3:=Tryz.underlying3
 a3:=Tryz.isAgg3
 z3:=Tryz.sizeOf3
 v3:=Tryz.zeroValue3
 t4:=Tryz.underlying4
 a4:=Tryz.isAgg4
 z4:=Tryz.sizeOf4
 v4:=Tryz.zeroValue4
 t5:=Tryz.underlying5
 a5:=Tryz.isAgg5
 z5:=Tryz.sizeOf5
 v5:=Tryz.zeroValue5
 t9:=Tryz.underlying9
 a9:=Tryz.isAgg9
 z9:=Tryz.sizeOf9
 v9:=Tryz.zeroValue9
 t20:=Tryz.underlying20
 a20:=Tryz.isAgg20
 z20:=Tryz.sizeOf20
 v20:=Tryz.zeroValue20
 t37:=Tryz.underlying25
 a37:=Tryz.isAgg25
 z37:=Tryz.sizeOf25
 v37:=Tryz.zeroValue25
 t46:=Tryz.underlying135
 a46:=Tryz.isAgg135
 z46:=Tryz.sizeOf135
 v46:=Tryz.zeroValue135
 t51:=Tryz.underlying192
 a51:=Tryz.isAgg192
 z51:=Tryz.sizeOf192
 v51:=Tryz.zeroValue192
 t53:=Tryz.underlying143
 a53:=Tryz.isAgg143
 z53:=Tryz.sizeOf143
 v53:=Tryz.zeroValue143
 t171:=Tryz.underlying200
 a171:=Tryz.isAgg200
 z171:=Tryz.sizeOf200
 v171:=Tryz.zeroValue200
 t173:=Tryz.underlying203
 a173:=Tryz.isAgg203
 z173:=Tryz.sizeOf203
 v173:=Tryz.zeroValue203
 t212:=Tryz.underlying231
 a212:=Tryz.isAgg231
 z212:=Tryz.sizeOf231
 v212:=Tryz.zeroValue231
 t213:=Tryz.underlying232
 a213:=Tryz.isAgg232
 z213:=Tryz.sizeOf232
 t232:=Tryz.underlying250
 a232:=Tryz.isAgg250
 z232:=Tryz.sizeOf250
 v232:=Tryz.zeroValue250
 t233:=Tryz.underlying251
 a233:=Tryz.isAgg251
 z233:=Tryz.sizeOf251
 v233:=Tryz.zeroValue251
 g17:=by kernel_rfl
 g18:=by kernel_rfl
 g19:=by kernel_rfl
 i0:=by kernel_rfl
 i2:=by kernel_rfl
 i3:=by kernel_rfl
 i4:=by kernel_rfl
 i5:=by kernel_rfl
 i9:=by kernel_rfl
 i20:=by kernel_rfl
 i37:=by kernel_rfl
 i46:=by kernel_rfl
 i51:=by kernel_rfl
 i53:=by kernel_rfl
 i171:=by kernel_rfl
 i173:=by kernel_rfl
 i212:=by kernel_rfl
 i232:=by kernel_rfl
 i233:=by kernel_rfl
 m17:=by kernel_rfl
 m18:=by kernel_rfl
 m19:=by kernel_rfl }
open Go.RowKit Go.Sort Go.Lib in
theorem Tryz.strconv_Itoa (n : Int) (h0 : -9223372036854775808 ≤ n) (h1 : n ≤ 9223372036854775807) (w : World) (htab : Lib.TabIs Tryz.prog w "internal/strconv.uint64pow10" .u64 Lib.pow10Tab) :
  Calls Tryz.prog 114 #[.int .i64 n] w fun e w'=>e=.returned (.string ⟨(Lib.itoa n).toArray⟩)/\∃k os,w'=grow (w.drewN k) os:=Any.strconv_Itoa Tryz.laysM171 n h0 h1 w htab
def Tryz.lays157_ren:Go.Shelf.Ren:=⟨fun|157=>121|229=>156|199=>157|261=>177|311=>195|312=>196|n=>n,fun|9=>9|31=>27|3=>3|5=>5|4=>4|119=>169|0=>0|40=>171|152=>189|21=>21|154=>191|51=>192|141=>194|196=>208|193=>205|198=>211|49=>209|194=>206|201=>214|226=>234|46=>135|227=>235|n=>n,fun|0=>0|6=>1|n=>n⟩
theorem Tryz.lays157:Go.Proofs.Lays.n157 Tryz.prog Tryz.lays157_ren:={
 mixed:=by kernel_rfl
 f157:=Tryz.func121.trans (congrArg some (by kernel_rfl))
 f199:=Tryz.func157.trans (congrArg some (by kernel_rfl))
 f229:=Tryz.func156.trans (congrArg some (by kernel_rfl))
 f261:=Tryz.func177.trans (congrArg some (by kernel_rfl))
 f311:=Tryz.func195.trans (congrArg some (by kernel_rfl))
 f312:=Tryz.func196.trans (congrArg some (by kernel_rfl))
 t0:=Tryz.underlying0
 a0:=Tryz.isAgg0
 z0:=Tryz.sizeOf0
 v0:=Tryz.zeroValue0
 t3:=Tryz.underlying3
 a3:=Tryz.isAgg3
 z3:=Tryz.sizeOf3
 v3:=Tryz.zeroValue3
 t4:=Tryz.underlying4
 a4:=Tryz.isAgg4
 z4:=Tryz.sizeOf4
 v4:=Tryz.zeroValue4
 t5:=Tryz.underlying5
 a5:=Tryz.isAgg5
 z5:=Tryz.sizeOf5
 v5:=Tryz.zeroValue5
 t9:=Tryz.underlying9
 a9:=Tryz.isAgg9
 z9:=Tryz.sizeOf9
 v9:=Tryz.zeroValue9
 t21:=Tryz.underlying21
 a21:=Tryz.isAgg21
 z21:=Tryz.sizeOf21
 v21:=Tryz.zeroValue21
 t31:=Tryz.underlying27
 a31:=Tryz.isAgg27
 z31:=Tryz.sizeOf27
 v31:=Tryz.zeroValue27
 t40:=Tryz.underlying171
 a40:=Tryz.isAgg171
 z40:=Tryz.sizeOf171
 v40:=Tryz.zeroValue171
 t46:=Tryz.underlying135
 a46:=Tryz.isAgg135
 z46:=Tryz.sizeOf135
 v46:=Tryz.zeroValue135
 t49:=Tryz.underlying209
 a49:=Tryz.isAgg209
 z49:=Tryz.sizeOf209
 v49:=Tryz.zeroValue209
 t51:=Tryz.underlying192
 a51:=Tryz.isAgg192
 z51:=Tryz.sizeOf192
 v51:=Tryz.zeroValue192
 t119:=Tryz.underlying169
 a119:=Tryz.isAgg169
 z119:=Tryz.sizeOf169
 t141:=Tryz.underlying194
 a141:=Tryz.isAgg194
 z141:=Tryz.sizeOf194
 v141:=Tryz.zeroValue194
 t152:=Tryz.underlying189
 a152:=Tryz.isAgg189
 z152:=Tryz.sizeOf189
 v152:=Tryz.zeroValue189
 t154:=Tryz.underlying191
 a154:=Tryz.isAgg191
 z154:=Tryz.sizeOf191
 v154:=Tryz.zeroValue191
 t193:=Tryz.underlying205
 a193:=Tryz.isAgg205
 z193:=Tryz.sizeOf205
 v193:=Tryz.zeroValue205
 t194:=Tryz.underlying206
 a194:=Tryz.isAgg206
 z194:=Tryz.sizeOf206
 v194:=Tryz.zeroValue206
 t196:=Tryz.underlying208
 a196:=Tryz.isAgg208
 z196:=Tryz.sizeOf208
 v196:=Tryz.zeroValue208
 t198:=Tryz.underlying211
 a198:=Tryz.isAgg211
 z198:=Tryz.sizeOf211
 v198:=Tryz.zeroValue211
 t201:=Tryz.underlying214
 a201:=Tryz.isAgg214
 z201:=Tryz.sizeOf214
 v201:=Tryz.zeroValue214
 t226:=Tryz.underlying234
 a226:=Tryz.isAgg234
 z226:=Tryz.sizeOf234
 v226:=Tryz.zeroValue234
 t227:=Tryz.underlying235
 a227:=Tryz.isAgg235
 z227:=Tryz.sizeOf235
 v227:=Tryz.zeroValue235
 g0:=by kernel_rfl
 g6:=by kernel_rfl }
open Go.RowKit Go.Lib in
theorem Tryz.strings_Fields (s : ByteArray) (w : World) (hs : s.size < 4294967281) (hascii : ∀ (j : Nat) b, s.data.toList[j]? = some b → b.toNat < 128) (htab : Lib.TabIs Tryz.prog w "strings.asciiSpace" .u8 Lib.asciiSpaceTab) :
  Calls Tryz.prog 121 #[.string s] w fun e w'=>
   e=.returned (.slice (some ⟨w.heap.size,0,none⟩) (Lib.fields s.data.toList).length (Lib.fields s.data.toList).length)/\w'=w.alloc (.cells ((Lib.fields s.data.toList).map fun l=>Value.string ⟨l.toArray⟩).toArray 9):=Any.strings_Fields Tryz.lays157 (by kernel_rfl) (by kernel_rfl) s w hs hascii htab
end Go.Proofs
namespace Go.Proofs.YtphkhfdmlcnoeaaGreatDoor
set_option linter.unusedVariables false
set_option linter.unusedSimpArgs false
set_option maxRecDepth 1000000
set_option maxHeartbeats 32000000
def Q6M:List (List UInt8):=[[108,105,116,101,114,97,108],[110,117,109,98,101,114],[100,101,99,105,109,97,108],[98,121,116,101,115],[117,110,116,105,108],[99,111,117,110,116,101,100],[115,101,113,117,101,110,99,101],[99,104,111,105,99,101],[114,101,112,101,97,116],[98,108,111,98]]
def JP(k:Int):List UInt8:=Q6M.getD (k - 1).toNat []
def hx(n:Nat):UInt8:=UInt8.ofNat (if n<10 then 48+n else 87+n)
def Qca(c:UInt8):List UInt8:=[hx (c.toNat / 16),hx (c.toNat % 16)]
def Vu(bs:List UInt8):List UInt8:=(bs.map Qca).flatten
def K3(F:List Rl)(x:Int):List UInt8:=match F[x.toNat]? with|some r=>r.name|none=>[]
theorem Q3d{F:List Rl}{x:Int}{r:Rl}(h:F[x.toNat]? =some r):K3 F x=r.name:=by unfold K3;rw[h]
def Qcx:List UInt8:=[98,105,103]
def Ys:List UInt8:=[108,105,116,116,108,101]
def XF(F:List Rl)(r:Rl)(i:Nat):List UInt8:=(if r.kind==7 then (if r.names.getD i []==[] then [45] else r.names.getD i [])++[58] else [])++K3 F (r.parts.getD i 0)
def ifW(u:Bool)(s:List UInt8):List (List UInt8):=if u then [s] else []
def Q4x(F:List Rl)(r:Rl):List (List UInt8):=
 [r.name,JP r.kind]++ifW (r.kind==1) (Vu r.bs)++ifW (XS r.kind) (Lib.itoa r.stop)++ifW (XT r.kind) (Lib.itoa r.size)++ifW (r.kind==2) (if r.big then Qcx else Ys)++ifW (r.kind==2) (Lib.itoa r.mn)++ifW (Z8 r.kind) (Lib.itoa r.mx)++ifW (QE r.kind) (K3 F r.count)++ifW (JS r.kind) (K3 F r.elem)
def Y2(F:List Rl)(r:Rl):List (List UInt8):=Q4x F r++(List.range r.parts.length).map (XF F r)
def Q2N(F:List Rl)(r:Rl):List UInt8:=Lib.join (Y2 F r) [32]++[10]
def K4(F:List Rl):List UInt8:=(F.map (Q2N F)).flatten
structure Rs where
 ws:List (List UInt8)
 bad:Bool
 ns:List (List UInt8)
def numOk(x:List UInt8):Bool:=match Lib.atoiAll x with|.ok v=>!(decide (10<x.length))&&(!(decide (v<0))&&Lib.itoa v==x)|_=>false
theorem J2(sep y:List UInt8)(r:List (List UInt8)):Lib.joinTail sep (y::r)=sep++(y++Lib.joinTail sep r):=by
 unfold Lib.joinTail;rw[List.map_cons,List.flatten_cons,List.append_assoc]
open Go.RowKit
section
variable {w w':World}
structure GV(w:World):Prop where
 pow : Lib.TabIs Tryz.prog w "internal/strconv.uint64pow10" .u64 Lib.pow10Tab
 sp : Lib.TabIs Tryz.prog w "strings.asciiSpace" .u8 Lib.asciiSpaceTab
 ml:∃m,w.cell? ⟨2,0,none⟩=some (.int .i64 m)
theorem QhO{p:Addr}{v:Value}(h:w.cell? p=some v)(hb:Below w.heap.size w w'):w'.cell? p=some v:=(hb.cell (Q3z h)).trans h
theorem QcW{n:String}{g:Nat}{k:IntKind}{zs:List Int}(hg:Tryz.prog.globalNamed n=some g)(h:Lib.TabIs Tryz.prog w n k zs)(h0:0<zs.length)(hb:Below w.heap.size w w'):Lib.TabIs Tryz.prog w' n k zs:=
 var?_below hb hg (Q3z (h.cell hg 0 h0)) h
theorem GV.on(h:GV w)(hb:Below w.heap.size w w'):GV w':=
 ⟨QcW (g:=3) Q5 h.pow (by rw[Lib.pow10Tab_length];decide) hb,QcW (g:=0) Q5 h.sp (by rw[Lib.asciiSpaceTab_length];decide) hb,h.ml.imp fun m hm=>QhO hm hb⟩
theorem QeQ(w:World)(os:Array Obj):Below w.heap.size w { w with heap:=w.heap++os }:=⟨rfl,rfl,rfl,by simp,fun k hk=>by simp only;rw[Array.getElem?_append_left hk]⟩
theorem Q2d(hg:GV w){n:Int}(h0:-9223372036854775808<=n)(h1:n<=9223372036854775807):Calls Tryz.prog 114 #[.int .i64 n] w fun e w'=>e=.returned (.string ⟨(Lib.itoa n).toArray⟩)/\Below w.heap.size w w':=by
 refine(Tryz.strconv_Itoa n h0 h1 w hg.pow).mono ?_;rintro e w' ⟨rfl,k,os,rfl⟩;exact⟨rfl,Below.trans (Q0F w k) (QeQ (w.drewN k) os)⟩
theorem QbX{A:Option Addr}{n c:Nat}{ws:List (List UInt8)}(hr:Rd w w.heap.size 1 A n (sv ws))(hc:n<=c)(hn:n<=1048576)(hl:(Lib.join ws [32]).length<=1000000):Calls Tryz.prog 128 #[.slice A n c,.string ⟨#[32]⟩] w fun e w'=>e=.returned (.string ⟨(Lib.join ws [32]).toArray⟩)/\Below w.heap.size w w':=by
 have hlen:ws.length=n:=by have:=hr.len;rw[Xw] at this;exact this
 by_cases h0:0<n
 ·obtain⟨b,o,rfl,hb,hcells⟩:=hr.2 h0
  have hmap:(ws.map fun l=>(⟨l.toArray⟩:ByteArray)).map (fun s=>s.data.toList)=ws:=by
   rw[List.map_map];exact List.map_id'' (fun l=>by simp) ws
  have h:=Tryz.strings_Join b o c (ws.map fun l=>⟨l.toArray⟩) ⟨#[32]⟩ w (fun j x hx=>hcells j _ (by
   unfold sv
   rw[List.getElem?_map] at hx ⊢
   cases hw:ws[j]? with
   |none=>rw[hw] at hx;cases hx
   |some l=>rw[hw] at hx;cases hx;rfl)) hb (by rw[List.length_map];omega) (by rw[List.length_map];omega) (by rw[hmap];show (Lib.join ws [32]).length<=_;omega)
  rw[hmap,List.length_map,hlen] at h;exact h
 ·obtain rfl:n=0:=by omega
  obtain rfl:ws=[]:=List.eq_nil_of_length_eq_zero hlen;exact(Tryz.strings_Join_none A c ⟨#[32]⟩ w).mono fun e w' ⟨he,hw⟩=>⟨by rw[he];rfl,hw▸Below.refl _ _⟩
end
open Go.ChangeShapes Go.WideShapes Go.ChangeAt Go.RowKit Go.Deep
def Qk9 : List (String × DataW Unit) := [("math/bits.deBruijn32tab", Rows.laid_math_bits_deBruijn32tab), ("math/bits.deBruijn64tab", Rows.laid_math_bits_deBruijn64tab), ("internal/strconv.uint64pow10", Rows.laid_internal_strconv_uint64pow10), ("unicode.White_Space", Rows.laid_unicode_White_Space), ("strings.asciiSpace", Rows.laid_strings_asciiSpace)]
theorem Qt9{W:World}(hL:laidMet Tryz.prog Qk9 W)(hsh:W.ShapedOpen Tryz.prog):GV W:=by
 have t2:=hL.tail.tail;have t4:=t2.tail.tail;refine⟨?_,?_,?_⟩
 ·exact Lib.tabIs_of_head (g:=3) (zs:=Lib.pow10Tab) (n:=20) Q5 Q5 Tryz.underlying231 Tryz.underlying143 Q5 Q5 t2
 ·exact Lib.tabIs_of_head (g:=0) (zs:=Lib.asciiSpaceTab) (n:=256) Q5 Q5 Tryz.underlying169 Tryz.underlying5 Q5 Q5 t4
 ·exact cell_of_shapedOpen_int (zero:=#[.int .i64 0]) (t:=3) hsh (of_decide_eq_true Q5) Q5 rfl Q5 Q5 Tryz.underlying3
def QrU:DataW Unit->List Value
 |.lit (.int k n)=>[.int k n]
 |_=>[]
def Qtm:DataW Unit->List Value
 |.agg l=>l.flatMap QrU
 |d=>QrU d
def QaI:DataW Unit->List Value
 |.agg l=>l.flatMap Qtm
 |_=>[]
def QtT:List Value:=[9,13,1,32,133,101,160,5760,5600,8192,8202,1,8232,8233,1,8239,8287,48,12288,12288,1].map fun(z:Int)=>Value.int .u16 z
def Qkf(h:Array Obj)(g:Nat)(cs:Array Value):Array Obj:=h.modify g fun
 |.cells _ t frozen=>.cells cs t frozen
 |o=>o
noncomputable def V1(os:Os):World:=
 let N:=(World.settled Tryz.prog os).heap.size
 let w0:=World.holding Tryz.prog os ⟨#[.cells #[.slice (some ⟨N+1,0,none⟩) 7 7,.slice none 0 0,.int .i64 2] 208,.cells QtT.toArray 211],#[],[]⟩
 let h1:=Qkf w0.heap 8 (QaI Rows.laid_math_bits_deBruijn32tab).toArray
 let h2:=Qkf h1 9 (QaI Rows.laid_math_bits_deBruijn64tab).toArray
 let h3:=Qkf h2 3 (QaI Rows.laid_internal_strconv_uint64pow10).toArray
 let h4:=Qkf h3 1 #[.pointer (some ⟨N,0,none⟩)]
 let h5:=Qkf h4 0 (QaI Rows.laid_strings_asciiSpace).toArray
 { w0 with heap:=h5 }
noncomputable abbrev N0:Nat:=(World.settled Tryz.prog default).heap.size
section
variable (os:Os)(args:Array Value)
theorem Qqd : LaidIn Tryz.prog ((V1 os).forCall (fun _ _ => 0) ⟨#[], args, []⟩).memory [("math/bits.deBruijn32tab", Rows.laid_math_bits_deBruijn32tab), ("math/bits.deBruijn64tab", Rows.laid_math_bits_deBruijn64tab), ("internal/strconv.uint64pow10", Rows.laid_internal_strconv_uint64pow10)] [8, 9, 3] :=
 LaidIn.of_run _ 8 Q5 Q5 Q5 Q5
theorem Qpa : LaidIn Tryz.prog ((V1 os).forCall (fun _ _ => 0) ⟨#[], args, []⟩).memory [("unicode.White_Space", Rows.laid_unicode_White_Space)] [1, N0, N0 + 1] :=
 LaidIn.of_run _ 8 Q5 Q5 Q5 Q5
theorem Qp7 : LaidIn Tryz.prog ((V1 os).forCall (fun _ _ => 0) ⟨#[], args, []⟩).memory [("strings.asciiSpace", Rows.laid_strings_asciiSpace)] [0] :=
 LaidIn.of_run _ 8 Q5 Q5 Q5 Q5
theorem QiD:laidMet Tryz.prog Qk9 ((V1 os).forCall (fun _ _=>0) ⟨#[],args,[]⟩).memory:=
 (((Qqd os args).append (Qpa os args) Q5).append (Qp7 os args) Q5).met
end
section
variable {b:Bool}{bytes i j q:Nat}{c x y:Operand}{cs us:List Value}{e t t' tb tt:TypeId}{fr:Nat×Nat}{k:IntKind}{m n:Int}{p:Addr}{s:ByteArray}{v:Value}
section
variable {P:Program}{ops:Array Oper}{C:World->Prop}{N:Nat}{E:Env}{o:Oper}{d:Nat}{M:List Nat}{W:World}{O:List Qf}
section
variable(hd:o.dst=some d:=by exact rfl)(hN:d<N:=by decide)(hw:Qo ops E o=some true:=by exact rfl)
include hd hN hw
theorem zM[dq:DQ](ho:o.op=.move x:=by exact rfl)(hx:ev E x=some v:=by exact rfl):oE P ops C N E ((d,v)::E) o:=Qjs ho hd hN hw hx
theorem zA[dq:DQ](ho:o.op=.assign x:=by exact rfl)(hx:ev E x=some v:=by exact rfl):oE P ops C N E ((d,v)::E) o:=QcQ ho hd hN hw hx
theorem zF[dq:DQ]{b off:Nat}(ho:o.op=.fieldAddr t x i:=by exact rfl)(hf:Fld P t i off:=by infer_instance)(hx:ev E x=some (.pointer (some ⟨b,q,none⟩)):=by exact rfl):oE P ops C N E ((d,.pointer (some ⟨b,q+off,none⟩))::E) o:=Q4T ho hd hN hw hx
theorem zY[dq:DQ](ho:o.op=.pick c x y:=by exact rfl)(hc:ev E c=some (.bool true):=by exact rfl)(hx:ev E x=some v:=by exact rfl):oE P ops C N E ((d,v)::E) o:=Q6l ho hd hN hw hc hx
theorem zN[dq:DQ](ho:o.op=.pick c x y:=by exact rfl)(hc:ev E c=some (.bool false):=by exact rfl)(hx:ev E y=some v:=by exact rfl):oE P ops C N E ((d,v)::E) o:=Q9q ho hd hN hw hc hx
theorem zO[dq:DQ]{b':Bool}(ho:o.op=.unOp .not t x:=by exact rfl)(hx:ev E x=some (.bool b):=by exact rfl)(hb:(!b)=b':=by exact rfl):oE P ops C N E ((d,.bool b')::E) o:=Qsi ho hd hN hw hx hb
theorem zX[dq:DQ]{vs:Array Value}(ho:o.op=.extract x i:=by exact rfl)(hx:ev E x=some (.tuple vs):=by exact rfl)(hv:vs[i]? =some v:=by exact rfl):oE P ops C N E ((d,v)::E) o:=Qia ho hd hN hw hx hv
theorem zP[dq:DQ](ho:o.op=.binOp .add t x y t':=by exact rfl)(hx:ev E x=some (.int .i64 m):=by exact rfl)(hy:ev E y=some (.int .i64 n):=by exact rfl)(hr:-9223372036854775808<=m+n/\m+n<=9223372036854775807:=by omega):oE P ops C N E ((d,.int .i64 (m+n))::E) o:=Qhf (k:=.i64) ho hd hN hw hx hy (IntWalk.i64_in _ hr)
theorem zQ[dq:DQ](ho:o.op=.binOp .sub t x y t':=by exact rfl)(hx:ev E x=some (.int .i64 m):=by exact rfl)(hy:ev E y=some (.int .i64 n):=by exact rfl)(hr:-9223372036854775808<=m - n/\m - n<=9223372036854775807:=by omega):oE P ops C N E ((d,.int .i64 (m - n))::E) o:=QrE (k:=.i64) ho hd hN hw hx hy (IntWalk.i64_in _ hr)
theorem zC[dq:DQ](ho:o.op=.load t x:=by exact rfl)(hT:T1 P t:=by infer_instance)(hx:ev E x=some (.pointer (some p)):=by exact rfl)(hc:W.cell? p=some v:=by assumption)(hM:p.block∉M:=by simp):oE P ops (Wd M W O) N E ((d,v)::E) o:=Xz ho hd hN hw hx (fun w hw=>hw.cell_old hc hM)
theorem zR[dq:DQ]{b:Nat}(ho:o.op=.load t x:=by exact rfl)(hT:T1 P t:=by infer_instance)(hx:ev E x=some (.pointer (some ⟨b,q+j,none⟩)):=by exact rfl)(hr:W.rangeAt b q cs:=by assumption)(hv:cs[j]? =some v:=by exact rfl)(hM:b∉M:=by simp):oE P ops (Wd M W O) N E ((d,v)::E) o:=Xz ho hd hN hw hx (fun w hw=>hw.cell_old (hr j v hv) hM)
theorem zE[dq:DQ]{b n:Nat}(ho:o.op=.load t x:=by exact rfl)(hx:ev E x=some (.pointer (some ⟨b,q,none⟩)):=by exact rfl)(hr:W.rangeAt b q cs:=by assumption)(hM:b∉M:=by simp)(hT:TN P t n:=by infer_instance)(hl:cs.length=n:=by rfl):oE P ops (Wd M W O) N E ((d,.agg cs.toArray)::E) o:=X4 ho hd hN hw hx (fun w hw j v hv=>hw.cell_old (hr j v hv) hM) hl
theorem zet[dq:DQ](ho:o.op=.binOp .eql t x y t':=by exact rfl)(hx:ev E x=some (.int k m):=by exact rfl)(hy:ev E y=some (.int k n):=by exact rfl)(hb:m=n:=by omega):oE P ops C N E ((d,.bool true)::E) o:=Yz ho hd hN hw hx hy (beq_iff_eq.2 hb)
theorem zef[dq:DQ](ho:o.op=.binOp .eql t x y t':=by exact rfl)(hx:ev E x=some (.int k m):=by exact rfl)(hy:ev E y=some (.int k n):=by exact rfl)(hb:m≠n:=by omega):oE P ops C N E ((d,.bool false)::E) o:=Yz ho hd hN hw hx hy (beq_eq_false_iff_ne.2 hb)
theorem znt[dq:DQ](ho:o.op=.binOp .neq t x y t':=by exact rfl)(hx:ev E x=some (.int k m):=by exact rfl)(hy:ev E y=some (.int k n):=by exact rfl)(hb:m≠n:=by omega):oE P ops C N E ((d,.bool true)::E) o:=Q0B ho hd hN hw hx hy (bne_iff_ne.2 hb)
theorem znf[dq:DQ](ho:o.op=.binOp .neq t x y t':=by exact rfl)(hx:ev E x=some (.int k m):=by exact rfl)(hy:ev E y=some (.int k n):=by exact rfl)(hb:m=n:=by omega):oE P ops C N E ((d,.bool false)::E) o:=Q0B ho hd hN hw hx hy (bne_eq_false_iff_eq.2 hb)
theorem zlt[dq:DQ](ho:o.op=.binOp .lss t x y t':=by exact rfl)(hx:ev E x=some (.int k m):=by exact rfl)(hy:ev E y=some (.int k n):=by exact rfl)(hb:m<n:=by omega):oE P ops C N E ((d,.bool true)::E) o:=Q06 ho hd hN hw hx hy Qad
theorem zlf[dq:DQ](ho:o.op=.binOp .lss t x y t':=by exact rfl)(hx:ev E x=some (.int k m):=by exact rfl)(hy:ev E y=some (.int k n):=by exact rfl)(hb:¬(m<n):=by omega):oE P ops C N E ((d,.bool false)::E) o:=Q06 ho hd hN hw hx hy Q9y
theorem zqt[dq:DQ](ho:o.op=.binOp .leq t x y t':=by exact rfl)(hx:ev E x=some (.int k m):=by exact rfl)(hy:ev E y=some (.int k n):=by exact rfl)(hb:m<=n:=by omega):oE P ops C N E ((d,.bool true)::E) o:=Q5j ho hd hN hw hx hy Qad
theorem zqf[dq:DQ](ho:o.op=.binOp .leq t x y t':=by exact rfl)(hx:ev E x=some (.int k m):=by exact rfl)(hy:ev E y=some (.int k n):=by exact rfl)(hb:¬(m<=n):=by omega):oE P ops C N E ((d,.bool false)::E) o:=Q5j ho hd hN hw hx hy Q9y
theorem zgt[dq:DQ](ho:o.op=.binOp .gtr t x y t':=by exact rfl)(hx:ev E x=some (.int k m):=by exact rfl)(hy:ev E y=some (.int k n):=by exact rfl)(hb:n<m:=by omega):oE P ops C N E ((d,.bool true)::E) o:=YV ho hd hN hw hx hy Qad
theorem zgf[dq:DQ](ho:o.op=.binOp .gtr t x y t':=by exact rfl)(hx:ev E x=some (.int k m):=by exact rfl)(hy:ev E y=some (.int k n):=by exact rfl)(hb:¬(n<m):=by omega):oE P ops C N E ((d,.bool false)::E) o:=YV ho hd hN hw hx hy Q9y
theorem zht[dq:DQ](ho:o.op=.binOp .geq t x y t':=by exact rfl)(hx:ev E x=some (.int k m):=by exact rfl)(hy:ev E y=some (.int k n):=by exact rfl)(hb:n<=m:=by omega):oE P ops C N E ((d,.bool true)::E) o:=Qdk ho hd hN hw hx hy Qad
theorem zhf[dq:DQ](ho:o.op=.binOp .geq t x y t':=by exact rfl)(hx:ev E x=some (.int k m):=by exact rfl)(hy:ev E y=some (.int k n):=by exact rfl)(hb:¬(n<=m):=by omega):oE P ops C N E ((d,.bool false)::E) o:=Qdk ho hd hN hw hx hy Q9y
theorem zea[dq:DQ](ho:o.op=.binOp .eql t x y t':=by exact rfl)(hx:ev E x=some (.int k m):=by exact rfl)(hy:ev E y=some (.int k n):=by exact rfl)(hb:(m==n)=b:=by assumption):oE P ops C N E ((d,.bool b)::E) o:=Yz ho hd hN hw hx hy hb
theorem zsa[dq:DQ]{u:ByteArray}(ho:o.op=.binOp .eql t x y t':=by exact rfl)(hx:ev E x=some (.string s):=by exact rfl)(hy:ev E y=some (.string u):=by exact rfl)(hb:(s.data.toList==u.data.toList)=b:=by assumption):oE P ops C N E ((d,.bool b)::E) o:=Q4h ho hd hN hw hx hy hb
theorem zi1[dq:DQ]{b n c:Nat}(ho:o.op=.indexAddr t x y:=by exact rfl)(hT:Sl P t e 1 bytes:=by infer_instance)(hx:ev E x=some (.slice (some ⟨b,q,none⟩) n c):=by exact rfl)(hy:ev E y=some (.int k (j:Int)):=by exact rfl)(hj:j<n:=by omega):oE P ops C N E ((d,.pointer (some ⟨b,q+j,none⟩))::E) o:=Z5 ho hd hN hw hx hy hj
theorem zer[dq:DQ](ho:o.op=.binOp .eql t x y t':=by exact rfl)(hx:ev E x=some (.int k m):=by exact rfl)(hy:ev E y=some (.int k n):=by exact rfl)(hb:(m==n)=b:=by rfl):oE P ops C N E ((d,.bool b)::E) o:=Yz ho hd hN hw hx hy hb
theorem znr[dq:DQ](ho:o.op=.binOp .neq t x y t':=by exact rfl)(hx:ev E x=some (.int k m):=by exact rfl)(hy:ev E y=some (.int k n):=by exact rfl)(hb:(m != n)=b:=by rfl):oE P ops C N E ((d,.bool b)::E) o:=Q0B ho hd hN hw hx hy hb
theorem zlr[dq:DQ](ho:o.op=.binOp .lss t x y t':=by exact rfl)(hx:ev E x=some (.int k m):=by exact rfl)(hy:ev E y=some (.int k n):=by exact rfl)(hb:decide (m<n)=b:=by rfl):oE P ops C N E ((d,.bool b)::E) o:=Q06 ho hd hN hw hx hy hb
theorem zqr[dq:DQ](ho:o.op=.binOp .leq t x y t':=by exact rfl)(hx:ev E x=some (.int k m):=by exact rfl)(hy:ev E y=some (.int k n):=by exact rfl)(hb:decide (m<=n)=b:=by rfl):oE P ops C N E ((d,.bool b)::E) o:=Q5j ho hd hN hw hx hy hb
theorem zgr[dq:DQ](ho:o.op=.binOp .gtr t x y t':=by exact rfl)(hx:ev E x=some (.int k m):=by exact rfl)(hy:ev E y=some (.int k n):=by exact rfl)(hb:decide (n<m)=b:=by rfl):oE P ops C N E ((d,.bool b)::E) o:=YV ho hd hN hw hx hy hb
theorem zhr[dq:DQ](ho:o.op=.binOp .geq t x y t':=by exact rfl)(hx:ev E x=some (.int k m):=by exact rfl)(hy:ev E y=some (.int k n):=by exact rfl)(hb:decide (n<=m)=b:=by rfl):oE P ops C N E ((d,.bool b)::E) o:=Qdk ho hd hN hw hx hy hb
theorem zna[dq:DQ](ho:o.op=.binOp .neq t x y t':=by exact rfl)(hx:ev E x=some (.int k m):=by exact rfl)(hy:ev E y=some (.int k n):=by exact rfl)(hb:(m != n)=b:=by assumption):oE P ops C N E ((d,.bool b)::E) o:=Q0B ho hd hN hw hx hy hb
theorem zT[dq:DQ](ho:o.op=.call { callee:=.builtin .len,args:=#[x],argTypes:=#[9] }:=by exact rfl)(hx:ev E x=some (.string s):=by exact rfl):oE Tryz.prog ops C N E ((d,.int .i64 (s.size:Int))::E) o:=Qns Tryz.underlying9 ho hd hN hw hx
theorem zi[dq:DQ]{b n c s:Nat}(ho:o.op=.indexAddr t x y:=by exact rfl)(hT:Sl P t e s bytes:=by infer_instance)(hx:ev E x=some (.slice (some ⟨b,q,none⟩) n c):=by exact rfl)(hy:ev E y=some (.int k (j:Int)):=by exact rfl)(hj:j<n:=by omega):oE P ops C N E ((d,.pointer (some ⟨b,q+j*s,none⟩))::E) o:=Xc ho hd hN hw hx hy hj
end
theorem zS[dq:DQ](hd:o.dst=some d:=by exact rfl)(hN:d<N:=by decide)(hw:Qo ops E o=some false:=by exact rfl):oE P ops C N E ((d,undef)::E) o:=Qko hd hN hw
theorem zL[dq:DQ]{A:Option Addr}{n c s:Nat}(ho:o.op=.call { callee:=.builtin .len,args:=#[x],argTypes:=#[t] }:=by exact rfl)(hd:o.dst=some d:=by exact rfl)(hN:d<N:=by decide)(hw:Qo ops E o=some true:=by exact rfl)(hx:ev E x=some (.slice A n c):=by exact rfl)(hs:Sl P t e s bytes:=by infer_instance):oE P ops C N E ((d,.int .i64 (n:Int))::E) o:=QqC ho hd hN hw hx
theorem zB[dq:DQ](i:Nat){b:Nat}(ho:o.op=.load t x:=by exact rfl)(hd:o.dst=some d:=by exact rfl)(hN:d<N:=by decide)(hw:Qo ops E o=some true:=by exact rfl)(hT:T1 P t:=by infer_instance)(hx:ev E x=some (.pointer (some ⟨b,j,none⟩)):=by exact rfl)(hO:O[i]? =some (.blk b (.cells cs.toArray tt fr)):=by exact rfl)(hc:cs[j]? =some v:=by exact rfl):oE P ops (Wd M W O) N E ((d,v)::E) o:=Xz ho hd hN hw hx (fun w hw=>hw.cell_blkL i hO hc)
theorem zD[dq:DQ](i:Nat){b n:Nat}(ho:o.op=.load t x:=by exact rfl)(hd:o.dst=some d:=by exact rfl)(hN:d<N:=by decide)(hw:Qo ops E o=some true:=by exact rfl)(hx:ev E x=some (.pointer (some ⟨b,0,none⟩)):=by exact rfl)(hO:O[i]? =some (.blk b (.cells cs.toArray tt fr)):=by exact rfl)(hT:TN P t n:=by infer_instance)(hl:cs.length=n:=by rfl):oE P ops (Wd M W O) N E ((d,.agg cs.toArray)::E) o:=X4 ho hd hN hw hx (fun w hw=>hw.range_blk i hO) hl
theorem zK[dq:DQ](i:Nat){b n c s:Nat}{xs:List Value}(hc:xs[j]? =some v)(ho:o.op=.load t x:=by exact rfl)(hd:o.dst=some d:=by exact rfl)(hN:d<N:=by decide)(hw:Qo ops E o=some true:=by exact rfl)(hT:T1 P t:=by infer_instance)(hx:ev E x=some (.pointer (some ⟨b,j,none⟩)):=by exact rfl)(hO:O[i]? =some (.row (some ⟨b,0,none⟩) n c e s xs):=by exact rfl):oE P ops (Wd M W O) N E ((d,v)::E) o:=Xz ho hd hN hw hx (fun w hw=>hw.cell_row i hO hc)
theorem zV[dq:DQ](i:Nat){b:Nat}(hc:cs[j]? =some v)(ho:o.op=.load t x:=by exact rfl)(hd:o.dst=some d:=by exact rfl)(hN:d<N:=by decide)(hw:Qo ops E o=some true:=by exact rfl)(hT:T1 P t:=by infer_instance)(hx:ev E x=some (.pointer (some ⟨b,j,none⟩)):=by exact rfl)(hO:O[i]? =some (.blk b (.cells cs.toArray tt fr)):=by exact rfl):oE P ops (Wd M W O) N E ((d,v)::E) o:=Xz ho hd hN hw hx (fun w hw=>hw.cell_blkL i hO hc)
theorem zG[dq:DQ](hc:W.cell? p=some v)(ho:o.op=.load t x:=by exact rfl)(hd:o.dst=some d:=by exact rfl)(hN:d<N:=by decide)(hw:Qo ops E o=some true:=by exact rfl)(hT:T1 P t:=by infer_instance)(hx:ev E x=some (.pointer (some p)):=by exact rfl)(hM:p.block∉M:=by simp):oE P ops (Wd M W O) N E ((d,v)::E) o:=Xz ho hd hN hw hx (fun w hw=>hw.cell_old hc hM)
theorem zu[dq:DQ]{f:Fn}{xs:List Operand}{vs:List Value}(ho:o.op=.makeFunc f #[] xs.toArray:=by exact rfl)(hd:o.dst=some d:=by exact rfl)(hN:d<N:=by decide)(hw:Qo ops E o=some true:=by exact rfl)(hx:evs E xs=some vs:=by exact rfl):oE P ops C N E ((d,.func f #[] vs.toArray)::E) o:=QjG ho hd hN hw hx
variable {Q:Exit->Act->World->Prop}{rest:List Oper}{E':Env}
abbrev yo[dq:DQ]:=@Q4
abbrev yl[dq:DQ]:=@Qg
abbrev yq[dq:DQ]:=@Qa
abbrev yr[dq:DQ]:=@Q6
abbrev ys[dq:DQ]:=@Qp
abbrev ye[dq:DQ]:=@Xx
abbrev yb[dq:DQ]:=@Qi
abbrev yt[dq:DQ]:=@QC
abbrev yc[dq:DQ]:=@Qk
abbrev yx[dq:DQ]:=@Q4H
abbrev yk[dq:DQ]:=@Qu
abbrev yd[dq:DQ]:=@Yh
abbrev yu[dq:DQ]:=@Q4B
theorem yn[dq:DQ]{y:Code}(h:sE P Q N M W E O y):xE (Exit.then (fun a w=>y.wp P Q a w) Q) N M W E O .normal:=fun a w ha hw=>h a w ha hw
theorem y1[dq:DQ]{x y:Code}(h:sE P Q N M W E O x)(hc:ev E c=some (.bool true):=by exact rfl):sE P Q N M W E O (.cond c x y):=Q9 hc h
theorem y0[dq:DQ]{x y:Code}(h:sE P Q N M W E O y)(hc:ev E c=some (.bool false):=by exact rfl):sE P Q N M W E O (.cond c x y):=Q8 hc h
theorem yA[dq:DQ](h:∀b,lE P ops Q N M W ((d,.pointer (some ⟨b,0,none⟩))::E) (.blk b (.cells cs.toArray t (0,0))::O) rest)(ho:o.op=.alloc t:=by exact rfl)(hw:Qo ops E o=some true:=by exact rfl)(hz:VL P t cs:=by infer_instance)(hd:o.dst=some d:=by exact rfl)(hN:d<N:=by decide):lE P ops Q N M W E O (o::rest):=Qd (Q1b ho hw) hd hN (fun b _=>h b)
theorem yB[dq:DQ](h:∀b,lE P ops Q N M W ((d,.pointer (some ⟨b,0,none⟩))::E) (.blk b (.cells cs.toArray t (0,0))::O) rest)(ho:o.op=.box t x:=by exact rfl)(hw:Qo ops E o=some true:=by exact rfl)(hx:ev E x=some v:=by exact rfl)(hc:v.cells=cs.toArray:=by exact rfl)(hd:o.dst=some d:=by exact rfl)(hN:d<N:=by decide):lE P ops Q N M W E O (o::rest):=Qd (Qqq ho hw hx hc) hd hN (fun b _=>h b)
theorem yS[dq:DQ](i:Nat){b:Nat}{u:Value}(h:lE P ops Q N M W E (O.set i (.blk b (.cells (cs.set q v).toArray tb (0,0)))) rest)(ho:o.op=.store t x y:=by exact rfl)(hw:Qo ops E o=some true:=by exact rfl)(hx:ev E x=some (.pointer (some ⟨b,q,none⟩)):=by exact rfl)(hy:ev E y=some v:=by exact rfl)(h1:v.oneCell'=true:=by exact rfl)(hT:T1 P t:=by infer_instance)(hO:O[i]? =some (.blk b (.cells cs.toArray tb (0,0))):=by exact rfl)(hq:cs[q]? =some u:=by exact rfl)(hd:o.dst=none:=by exact rfl):lE P ops Q N M W E O (o::rest):=QD (VI i ho hw hx hy h1 hO hq) hd (fun _ _=>h)
theorem QtR(h:us.length=cs.length):ZL cs 0 us=us:=by
 refine List.ext_getElem? fun i=>?_;rw[Q0M];split
 ·rw[Nat.sub_zero]
 ·next hn=>
  rw[List.getElem?_eq_none Q3,List.getElem?_eq_none Q3]
theorem yW[dq:DQ](i:Nat){b n:Nat}(h:lE P ops Q N M W E (O.set i (.blk b (.cells us.toArray tb (0,0)))) rest)(ho:o.op=.store t x y:=by exact rfl)(hw:Qo ops E o=some true:=by exact rfl)(hx:ev E x=some (.pointer (some ⟨b,0,none⟩)):=by exact rfl)(hy:ev E y=some (.agg us.toArray):=by exact rfl)(h1:us.all (·.oneCell')=true:=by exact rfl)(hT:TN P t n:=by infer_instance)(hl:us.length=n:=by exact rfl)(hO:O[i]? =some (.blk b (.cells cs.toArray tb (0,0))):=by exact rfl)(hq:us.length=cs.length:=by rfl)(hd:o.dst=none:=by exact rfl):lE P ops Q N M W E O (o::rest):=QD (Q0U i ho hw hx hy h1 hl hO Q3) hd (fun _ _=>by rw[QtR hq];exact h)
end
end
section
variable {A Ab An Ap:Option Addr}{F:List Rl}{W w:World}{c cb cn cp i n:Nat}{g:Nat->Int}{r:Rl}
theorem QS.addr(h:QS W W.heap.size A n F)(hn:0<n):∃b o,A=some ⟨b,o,none⟩:=by
 obtain⟨b,o,e,_⟩:=h.2 hn;exact⟨b,o,e⟩
theorem QS.rl{b o:Nat}(h:QS W W.heap.size (some ⟨b,o,none⟩) n F)(hi:i<n):∃r Ab cb An cn Ap cp,F[i]? =some r/\W.rangeAt b (o+i*12) (ruC r (.slice Ab r.bs.length cb) (.slice An r.names.length cn) (.slice Ap r.parts.length cp))/\RuL W r Ab cb An cn Ap cp:=by
 obtain⟨b',o',r,Ab,cb,An,cn,Ap,cp,e,hr,hc,hl⟩:=h.rule hi;cases e;exact⟨r,Ab,cb,An,cn,Ap,cp,hr,hc,hl⟩
def Je(W:World)(c:Int)(e:Ending)(w':World):Prop:=e=.returned (.int .i64 c)/\Below W.heap.size W w'
theorem Qr{c c':Int}{O:List Qf}(h:c=c')(hw:Wd [] W O w):Je W c' (.returned (.int .i64 c)) w:=⟨by rw[h],hw.k.below⟩
def Q2z(F:List Rl)(x:Int):Int:=match F[x.toNat]? with|some r=>r.kind|none=>0
theorem VT{x:Int}(h:F[x.toNat]? =some r):Q2z F x=r.kind:=by unfold Q2z;rw[h]
def J0(g:Nat->Int):Nat->Nat->Int
 |_,0=>0
 |i,k+1=>if g i=0 then J0 g (i+1) k else g i
theorem Q1n(h:i<n)(h0:g i=0):J0 g i (n - i)=J0 g (i+1) (n - (i+1)):=by
 rw[show n - i=(n - (i+1))+1 by omega,J0,if_pos h0]
theorem Q68(h:i<n)(h0:g i≠0):J0 g i (n - i)=g i:=by
 rw[show n - i=(n - (i+1))+1 by omega,J0,if_neg h0]
def Zq(F:List Rl)(names:List (List UInt8))(parts:List Int)(i:Nat):Int:=
 if (names.getD i [])==[] then (if Q2z F (parts.getD i 0) != 1 then 13 else 0)
 else if !(QA (names.getD i [])) then 7 else if XR (names.take i) (names.getD i []) then 8 else 0
def J3(F:List Rl)(r:Rl):Int:=
 if QE r.kind&&!(Z8 (Q2z F r.count)) then 13 else if r.kind != 7 then 0 else J0 (Zq F r.names r.parts) 0 r.names.length
structure Qhm(n:Nat)(r:Rl):Prop where
 count:QE r.kind=true->0<=r.count/\r.count<n
 parts:r.kind=7->r.parts.length=r.names.length/\∀x∈r.parts,0<=x/\x<n
theorem QfP(hf:QS W W.heap.size A n F)(hl:RuL W r Ab cb An cn Ap cp)(hs:RSm r)(hu:Qhm n r)(hc:QE r.kind=true):
  Calls Tryz.prog 116 #[.agg #[.slice A n c],.agg (ruC r (.slice Ab r.bs.length cb) (.slice An r.names.length cn) (.slice Ap r.parts.length cp)).toArray] W (Je W (J3 F r)):=by
 have hcn:=hu.count hc;obtain⟨b,o,rfl⟩:=hf.addr Q3;obtain⟨rc,Ac,cc,Ad,cd,Ae,ce,hrc,hrg,_⟩:=hf.rl (i:=r.count.toNat) Q3;have HK:=Q2 (VT hrc);have h7:(r.kind != 7)=true:=by
  rw[bne_iff_ne];intro h;rw[h] at hc;exact absurd hc Q1
 clear hrc hl hf;go_enter Tryz.func116,Tryz.ntmps116;refine Qz (M:=[]) (W:=W) (N:=66) (E:=[Q0s,Qh3]) (O:=[]) ?_ mc3 QR;repeat(first|refine Q4 Kd ?_|refine Q4 Q0p ?_|refine Q4 Q5b ?_|refine Q4 (Xz rfl rfl Q1 rfl rfl (by first|exact fun w hw=>hw.cell_blkL 0 rfl rfl|exact fun w hw=>hw.cell_blkL 1 rfl rfl)) ?_|refine Q4 Qmj ?_|refine Qd YT rfl Q1 (fun br _=>?_)|(refine Q4 Q3g ?_;rw[hc])|refine Q4 Qsp ?_|refine Q4 Qo4 ?_|refine Qg ?_|refine Qa ?_|refine Q6 ?_|refine Q4 QbG ?_|refine Q4 QrP ?_)
 refine X2 rfl (fun hx=>?_) (fun hx=>?_)
 ·skip
  repeat(first|refine Q4 Q0p ?_|refine Qg ?_|refine Qa ?_|refine Q6 ?_|refine QC ?_|refine Qk ?_)
  refine Q7 (.inr rfl) rfl (.tmp rfl) (fun w hw=>Qr ?_ hw);simp [J3,hc,HK.out,hx]
 ·skip
  repeat(first|refine Q4 Q0p ?_|refine Q4 Q5b ?_|refine Q4 Qo1 ?_|refine Qg ?_|refine Qa ?_|refine Q6 ?_|refine Qp ?_|refine Q9 rfl ?_|refine QC ?_|refine Qk ?_|refine Q4 QqH ?_)
  refine Q7 (.inr rfl) rfl (.tmp rfl) (fun w hw=>Qr ?_ hw);simp [J3,hc,HK.out,hx,h7]
theorem QfA(hc:QE r.kind=false)(h7:(r.kind != 7)=true):
  Calls Tryz.prog 116 #[.agg #[.slice A n c],.agg (ruC r (.slice Ab r.bs.length cb) (.slice An r.names.length cn) (.slice Ap r.parts.length cp)).toArray] W (Je W (J3 F r)):=by
 go_enter Tryz.func116,Tryz.ntmps116;refine Qz (M:=[]) (W:=W) (N:=66) (E:=[VD,Qh3]) (O:=[]) ?_ mc3 QR;repeat(first|refine Q4 Kd ?_|refine Q4 Q0p ?_|refine Q4 Q5b ?_|refine Q4 Qo1 ?_|refine Q4 QnB ?_|refine Qd YT rfl Q1 (fun br _=>?_)|(refine Q4 Q3g ?_;rw[hc])|refine Qg ?_|refine Qa ?_|refine Q6 ?_|refine Qp ?_|refine Q9 rfl ?_|refine Q8 rfl ?_|refine QC ?_|refine Qk ?_|refine Q4 QqH ?_|refine Q4 Qd1 ?_|refine Q4 Q7s ?_)
 refine Q7 (.inr rfl) rfl (.tmp rfl) (fun w hw=>Qr ?_ hw);simp [J3,hc,h7]
theorem QfJ{B:Nat}{xs:List (List UInt8)}(h:Rd w B 1 A n (sv xs))(hi:i<=n)(hc:n<=c):Rd w B 1 (ZY A c 0 1) i (sv (xs.take i)):=by
 have:=h.cut (k:=0) (m:=i) (c:=c) Q3 hc;rw[Nat.zero_mul,List.drop_zero,Nat.mul_one] at this;unfold sv at this ⊢;rw[List.map_take];exact this
def chE(bf br n c i:Nat)(r:Rl)(A An:Option Addr)(cn:Nat):Env:=[(2,.pointer (some ⟨bf,0,none⟩)),(3,.pointer (some ⟨br,0,none⟩)),(23,.slice An r.names.length cn),(24,.int .i64 (r.names.length:Int)),(25,.int .i64 (i:Int))]
theorem Qe4(hf:QS W W.heap.size A n F)(hl:RuL W r Ab cb An cn Ap cp)(hs:RSm r)(hu:Qhm n r)(h7:r.kind=7):
  Calls Tryz.prog 116 #[.agg #[.slice A n c],.agg (ruC r (.slice Ab r.bs.length cb) (.slice An r.names.length cn) (.slice Ap r.parts.length cp)).toArray] W (Je W (J3 F r)):=by
 have hc:QE r.kind=false:=by rw[h7];rfl
 have HP:=Q2 (hu.parts h7);have HF:=Q2 hf;have HL:=Q2 hl;have HS:=Q2 hs;have hnl:r.names.length<=1048576:=hs.names;obtain⟨C,hC⟩:∃C,J3 F r=C:=⟨_,rfl⟩;have HC:=Q2 (show J0 (Zq F r.names r.parts) 0 r.names.length=C by rw[<- hC,J3,hc,h7];rfl);rw[hC];clear hC hu hf hl hs;go_enter Tryz.func116,Tryz.ntmps116;refine Qz (M:=[]) (W:=W) (N:=66) (E:=[VD,Qh3]) (O:=[]) ?_ mc3 QR;repeat(first|refine Q4 Kd ?_|refine Q4 Q0p ?_|refine Q4 Q5b ?_|refine Q4 Qo1 ?_|refine Q4 QnB ?_|refine Qd YT rfl Q1 (fun br _=>?_)|(refine Q4 Q3g ?_;rw[hc])|refine Qg ?_|refine Qa ?_|refine Q6 ?_|refine Qp ?_|refine Q8 rfl ?_|refine Qi ?_|refine Q4 Qnh ?_|refine Q4 (Q0B rfl rfl Q1 rfl rfl rfl (by exact bne_eq_false_iff_eq.2 Q3)) ?_|refine Q4 Qd1 ?_|refine Q4 Q7s ?_)
 rename_i bf _ _;refine QK (ι:=Nat) (fun i=>i<=r.names.length/\J0 (Zq F r.names r.parts) i (r.names.length - i)=C) (fun i=>r.names.length - i) (fun i=>chE bf br n c i r A An cn) (fun i=>[.blk br Q98,.blk bf (.cells [.slice A n c].toArray 24 (0,0))]) 0 [0,1] Q1 ⟨Nat.zero_le _,HC.out⟩ Vg rfl ?_;rintro i ⟨hi,hC⟩;have HI:=Q2 hC;clear hC;by_cases hlt:i<r.names.length
 ·obtain⟨bn,on,s,rfl,_,hsn,hcell⟩:=Vb HL.out.n hlt
  have hgd:r.names.getD i []=s.data.toList:=by rw[List.getD_eq_getElem?_getD,hsn];rfl
  have HG:=Q2 hgd;clear hgd;cases he:s.data.toList==([]:List UInt8) with
  |true=>
   have hne:(s.data.toList != ([]:List UInt8))=false:=by rw[bne,he];rfl
   obtain⟨bp,op,x,rfl,_,hx,hcx⟩:=Q6F HL.out.p (show i<r.parts.length by rw[HP.out.1];exact hlt);have hxr:=HP.out.2 x Q07;obtain⟨b,o,rfl⟩:=HF.out.addr Q3;obtain⟨rx,Ac,cc,Ad,cd,Ae,ce,hrx,hrg,_⟩:=HF.out.rl (i:=x.toNat) Q3;have hgx:r.parts.getD i 0=x:=by rw[List.getD_eq_getElem?_getD,hx];rfl
   have HK:=Q2 (show Q2z F (r.parts.getD i 0)=rx.kind by rw[hgx];exact VT hrx);have hip:i<r.parts.length:=by rw[HP.out.1];exact hlt
   clear hsn hx hrx hgx;refine Qk5 ?_
   repeat(first|refine Qe Kd ?_|refine Qe Q0p ?_|refine Qe Q5b ?_|refine Qe (Xz rfl rfl Q1 rfl rfl (by first|exact fun w hw=>hw.cell_blkL 0 rfl rfl|exact fun w hw=>hw.cell_blkL 1 rfl rfl|exact fun w hw=>hw.cell_old QT Qn|exact fun w hw=>hw.cell_range QT rfl Qn)) ?_|refine Qe QcC ?_|refine Qe Qo4 ?_|refine JW ?_|refine Xm Q5 Q5 ?_|refine Qe (Q0B rfl rfl Q1 rfl rfl rfl (by first|exact bne_eq_false_iff_eq.2 Q3|rfl)) ?_|refine Qe QbG ?_|refine Qe (Q4h rfl rfl Q1 rfl rfl rfl QT) ?_)
   refine X2 rfl (fun hk=>?_) (fun hk=>?_)
   ·skip
    refine QmW ?_
    refine Q7 (.inr rfl) rfl (.tmp rfl) (fun w hw=>Qr ?_ hw);have hv:Zq F r.names r.parts i=13:=by unfold Zq;rw[HG.out,he,HK.out,hk];rfl
    exact Qk3
   ·skip
    repeat(first|refine Q4 Kd ?_|refine Q4 Q0p ?_|refine Qg ?_|refine Qa ?_|refine Q6 ?_|refine Qp ?_|refine Q8 rfl ?_|refine Q4 Qd1 ?_|refine Q4 QgU ?_|refine Q4 (Q9W rfl rfl Q1 rfl rfl rfl (by first|assumption|rfl)) ?_|refine Q4 Q7s ?_)
    refine Qt (i+1) [0,1] Q1 ⟨by omega,?_⟩ Q3 Yj rfl;have hv:Zq F r.names r.parts i=0:=by unfold Zq;rw[HG.out,he,HK.out,hk];rfl
    rw[<- Q1n hlt hv];exact HI.out
  |false=>
   have hne:(s.data.toList != ([]:List UInt8))=true:=by rw[bne,he];rfl
   have hsz:s.size<=9223372036854775807:=by
    have:=HS.out.each _ (List.mem_of_getElem? hsn);have e:s.size=s.data.toList.length:=by simp
    omega
   clear hsn;refine Qk5 ?_
   repeat(first|refine Qe Kd ?_|refine Qe Q0p ?_|refine JW ?_|refine Xm Q5 Q5 ?_|refine Qe Qd1 ?_|refine Qe (Q4h rfl rfl Q1 rfl rfl rfl (by first|assumption|rfl)) ?_|refine Qe Q7s ?_)
   repeat(first|refine Q4 Kd ?_|refine Q4 Q0p ?_|refine Q4 (Ql (f:=133) rfl rfl Q1 rfl rfl (fun w hw=>Q2w _ w hsz)) ?_|refine Qg ?_|refine Qa ?_|refine Q6 ?_|refine Q8 rfl ?_|refine Q4 QbG ?_|refine Q4 QrP ?_|refine Q4 Qhp ?_)
   refine X2 rfl (fun hk=>?_) (fun hk=>?_)
   ·skip
    refine QmW ?_
    refine Q7 (.inr rfl) rfl (.tmp rfl) (fun w hw=>Qr ?_ hw);have hv:Zq F r.names r.parts i=7:=by unfold Zq;rw[HG.out,he,hk];rfl
    exact Qk3
   ·skip
    repeat(first|refine Q4 Kd ?_|refine Q4 Q0p ?_|refine Q4 Q5b ?_|refine Q4 (Xz rfl rfl Q1 rfl rfl (by first|exact fun w hw=>hw.cell_blkL 0 rfl rfl|exact fun w hw=>hw.cell_old QT Qn)) ?_|(refine Q4 (Q1g rfl rfl Q1 rfl rfl rfl (by have:=HL.out.cn;omega)) ?_)|refine Q4 (Ql (f:=150) rfl rfl Q1 rfl rfl (fun w hw=>Calls.stay (Y3 (QfJ (HL.out.on hw.k.below).n Q3 HL.out.cn) Q3))) ?_|refine Qg ?_|refine Qa ?_|refine Q6 ?_|refine Q4 QbG ?_|refine Q4 Qhp ?_)
    refine X2 rfl (fun hq=>?_) (fun hq=>?_)
    ·skip
     refine QmW ?_
     refine Q7 (.inr rfl) rfl (.tmp rfl) (fun w hw=>Qr ?_ hw);have hv:Zq F r.names r.parts i=8:=by unfold Zq;rw[HG.out,he,hk,hq];rfl
     exact Qk3
    ·skip
     repeat(first|refine Q4 Kd ?_|refine Qg ?_|refine Q6 ?_|refine Qp ?_|refine Q4 QgU ?_)
     refine Qt (i+1) [0,1] Q1 ⟨by omega,?_⟩ Q3 Yj rfl;have hv:Zq F r.names r.parts i=0:=by unfold Zq;rw[HG.out,he,hk,hq];rfl
     rw[<- Q1n hlt hv];exact HI.out
 ·skip
  repeat(first|refine Q4 Q0p ?_|refine Qg ?_|refine Qa ?_|refine Q6 ?_|refine Q8 rfl ?_|refine Xx ?_|refine QC ?_|refine Q4 QrI ?_)
  refine Q7 mc4 rfl (.tmp rfl) (fun w hw=>Qr ?_ hw);rw[<- HI.out,show r.names.length - i=0 by omega];rfl
theorem Q7w(hf:QS W W.heap.size A n F)(hl:RuL W r Ab cb An cn Ap cp)(hs:RSm r)(hu:Qhm n r):
  Calls Tryz.prog 116 #[.agg #[.slice A n c],.agg (ruC r (.slice Ab r.bs.length cb) (.slice An r.names.length cn) (.slice Ap r.parts.length cp)).toArray] W (Je W (J3 F r)):=by
 cases hc:QE r.kind with
 |true=>exact QfP hf hl hs hu hc
 |false=>
  by_cases h7:r.kind=7
  ·exact Qe4 hf hl hs hu h7
  ·exact QfA hc (bne_iff_ne.2 h7)
end
section
variable {bytes size:Nat}{cs:List Value}{e t:TypeId}{v:Value}
theorem QO{us:List Value}(h:us.length=cs.length):ZL cs 0 us=us:=by
 refine List.ext_getElem? fun i=>?_;rw[Q0M];split
 ·rw[Nat.sub_zero]
 ·next hn=>
  rw[List.getElem?_eq_none Q3,List.getElem?_eq_none Q3]
theorem Qlo(s:Nat):∀(l:List Value) (k:Nat) (a:List Value),(l.zipIdx k).foldl (fun cs (x:Value×Nat)=>cs.setIfInBounds (0*s+x.2) x.1) a.toArray=(ZL a k l).toArray:=by
 intro l;induction l with
 |nil=>intro k a;rfl
 |cons x l ih=>
  intro k a;rw[List.zipIdx_cons,List.foldl_cons,ZL];have e:a.toArray.setIfInBounds (0*s+k) x=(a.set k x).toArray:=by simp
  show (l.zipIdx (k+1)).foldl _ (a.toArray.setIfInBounds (0*s+k) x)=_;rw[e];exact ih (k+1) (a.set k x)
theorem QlG{s:Nat}{z:Array Value}(hv:v.cells=cs.toArray)(h:cs.length=s)(hz:z.size=s):Instr.fill (fun i=>some (i*s,s)) z [(0,v)]=some cs.toArray:=by
 have e:v.cells.zipIdx.foldl (fun cs (x:Value×Nat)=>cs.setIfInBounds (0*s+x.2) x.1) z=cs.toArray:=by
  rw[hv,<- Array.foldl_toList];have h1:=Qlo s cs 0 z.toList;rw[Array.toArray_toList] at h1;rw[QO (cs:=z.toList) (us:=cs) (by rw[h,Array.length_toList,hz])] at h1;simpa using h1
 have hs1:v.cells.size=s:=by rw[hv,List.size_toArray,h]
 have hc:¬(v.cells.size≠s\/0*s+v.cells.size>z.size):=by rw[hs1,hz];omega
 unfold Instr.fill;dsimp only;rw[if_neg (by simpa using hc)];unfold Instr.fill;exact congrArg some e
section
variable {P:Program}{ops:Array Oper}{N:Nat}{E:Env}{o:Oper}{M:List Nat}{W:World}{O:List Qf}
theorem Qf8(hT:SlT P t e size bytes)(hs:size<=1000)(hv:v.cells=cs.toArray)(hl:cs.length=size)(w:World):
  (Instr.buildSlice t 1 #[(0,v)]).run P w=.ok (.slice (some ⟨w.heap.size,0,none⟩) 1 1) (w.alloc (.cells cs.toArray e)):=by
 obtain⟨i,z,hi,hz,hsz,hby,hzs⟩:=hT.info;have hp:=hT.pos;refine run_buildSlice w t e 1 _ cs.toArray i z hT.und hi hz KP KP ?_;rw[hsz];exact QlG hv hl Qn
theorem J4[dq:DQ]{x:Operand}[hT:Sl P t e size bytes](ho:o.op=.buildSlice t 1 #[(0,x)])(hw:Qo ops E o=some true)(hx:ev E x=some v)(hv:v.cells=cs.toArray)(hl:cs.length=size)(hs:size<=1000):
  uE P ops N M W E O o Nat (fun b=>.slice (some ⟨b,0,none⟩) 1 1) (fun b=>.blk b (.cells cs.toArray e (0,0))::O) (fun _=>True):=
 VJ (xs:=[(0,x)]) (vs:=[(0,v)]) ho hw (by simp [evp,hx]) (fun w=>Qf8 hT.h hs hv hl w)
end
end
def cnt(s:Nat->Bool):Nat->Nat
 |0=>0
 |n+1=>cnt s n+if s n then 1 else 0
theorem Qff(s:Nat->Bool):∀n,cnt s n<=n
 |0=>Nat.le_refl _
 |n+1=>by have:=Qff s n;unfold cnt;split<;>omega
theorem Qd5{s t:Nat->Bool}:∀n,(∀i,i<n->s i=true->t i=true)->cnt s n<=cnt t n
 |0,_=>Nat.le_refl _
 |n+1,h=>by
  have h1:=Qd5 n (fun i hi=>h i Q3);have h2:=h n Q3
  unfold cnt;cases hs:s n with
  |false=>simp;omega
  |true=>rw[h2 hs];simp;omega
theorem QaE{s t:Nat->Bool}:∀n,(∀i,i<n->s i=true->t i=true)->(∃i,i<n/\s i=false/\t i=true)->cnt s n<cnt t n
 |0,_,⟨i,hi,_⟩=>absurd hi Q3
 |n+1,h,⟨i,hi,h0,h1⟩=>by
  have hm:=Qd5 n (fun i hi=>h i Q3)
  unfold cnt;by_cases hin:i=n
  ·subst hin;rw[h0,h1]
   simp;omega
  ·have:=QaE n (fun i hi=>h i Q3) ⟨i,by omega,h0,h1⟩
   cases hs:s n with
   |false=>simp;omega
   |true=>rw[h n Q3 hs];simp;omega
section
variable {n:Nat}{s:Nat->Nat->Bool}
theorem Qgv(hst:∀t,(∀i,i<n->s (t+1) i=s t i)->∀i,i<n->s (t+2) i=s (t+1) i){t:Nat}(h:∀i,i<n->s (t+1) i=s t i):∀k i,i<n->s (t+k+1) i=s (t+k) i
 |0,i,hi=>h i hi
 |k+1,i,hi=>hst (t+k) (Qgv hst h k) i hi
theorem Q5h(hm:∀t i,i<n->s t i=true->s (t+1) i=true)(hst:∀t,(∀i,i<n->s (t+1) i=s t i)->∀i,i<n->s (t+2) i=s (t+1) i):∀i,i<n->s (n+1) i=s n i:=by
 have key:∀t,t<=n+1->(∃u,u<t/\∀i,i<n->s (u+1) i=s u i)\/t<=cnt (s t) n:=by
  intro t;induction t with
  |zero=>intro _;right;omega
  |succ t ih=>
   intro ht;rcases ih Q3 with ⟨u,hu,h⟩|hc
   ·exact .inl ⟨u,by omega,h⟩
   ·by_cases he:∀i,i<n->s (t+1) i=s t i
    ·exact .inl ⟨t,by omega,he⟩
    ·right
     have hex:∃i,i<n/\s t i=false/\s (t+1) i=true:=by
      refine Classical.byContradiction fun hne=>he fun i hi=>?_;cases h0:s t i with
      |true=>rw[hm t i hi h0]
      |false=>
       cases h1:s (t+1) i with
       |false=>rfl
       |true=>exact absurd ⟨i,hi,h0,h1⟩ hne
     have:=QaE n (hm t) hex;omega
 rcases key (n+1) (Nat.le_refl _) with ⟨u,hu,h⟩|hc
 ·intro i hi;have:=Qgv hst h (n - u) i hi;rwa [show u+(n - u)=n by omega] at this
 ·have:=Qff (s (n+1)) n
  omega
end
theorem XE(l:List Bool)(k i:Nat)(b:Bool)(hk:k<l.length):(l.set k b).getD i false=if i=k then b else l.getD i false:=by
 rw[List.getD_eq_getElem?_getD,List.getElem?_set,List.getD_eq_getElem?_getD];by_cases h:k=i
 ·subst h;simp [hk]
 ·rw[if_neg h,if_neg (fun e=>h e.symm)]
section
variable {F:List Rl}{i j st:Nat}{l:List Nat}{out:List Bool}
def iter{α:Type}(f:α->α):Nat->α->α
 |0,a=>a
 |n+1,a=>f (iter f n a)
def LeB(a b:List Bool):Prop:=a.length=b.length/\∀i:Nat,a.getD i false=true->b.getD i false=true
theorem LeB.refl(a:List Bool):LeB a a:=⟨rfl,fun _ h=>h⟩
theorem LeB.trans{a b c:List Bool}(h:LeB a b)(k:LeB b c):LeB a c:=⟨h.1.trans k.1,fun i hi=>k.2 i (h.2 i hi)⟩
theorem LeB.set(a:List Bool)(i:Nat)(b:Bool)(h:a.getD i false=true->b=true):LeB a (a.set i b):=by
 refine⟨by simp,fun j hj=>?_⟩;by_cases hi:i<a.length
 ·rw[XE _ _ _ _ hi]
  split
  ·next e=>subst e;exact h hj
  ·exact hj
 ·rw[List.set_eq_of_length_le Q3];exact hj
theorem Vi{β:Type}{f:List Bool->β->List Bool}(h:∀a b,LeB a (f a b)):∀(l:List β) (a:List Bool),LeB a (l.foldl f a)
 |[],a=>LeB.refl a
 |b::l,a=>(h a b).trans (Vi h l (f a b))
theorem VQ{β:Type}{f:List Bool->β->List Bool}(h:∀a b,LeB a (f a b)):∀(l:List β) (a:List Bool) (b:β),b∈l->∃a',LeB a a'/\LeB (f a' b) (l.foldl f a)
 |[],_,_,hb=>by cases hb
 |x::l,a,b,hb=>by
  rcases List.mem_cons.1 hb with rfl|hb
  ·exact⟨a,LeB.refl a,Vi h l _⟩
  ·obtain⟨a',h1,h2⟩:=VQ h l (f a x) b hb;exact⟨a',(h a x).trans h1,h2⟩
theorem Q18{f:List Bool->List Bool}(h:∀a,LeB a (f a))(a:List Bool):∀n,LeB a (iter f n a)
 |0=>LeB.refl a
 |n+1=>(Q18 h a n).trans (h _)
theorem ZB{a b:List Bool}(hl:a.length=b.length)(h:∀i,i<a.length->a.getD i false=b.getD i false):a=b:=by
 refine List.ext_getElem hl fun i h1 h2=>?_;have:=h i h1;simpa [List.getD_eq_getElem?_getD,List.getElem?_eq_getElem h1,List.getElem?_eq_getElem h2] using this
theorem Q1h{f:List Bool->List Bool}(h:∀a,LeB a (f a))(a:List Bool):f (iter f a.length a)=iter f a.length a:=by
 have hlen:∀t,(iter f t a).length=a.length:=fun t=>(Q18 h a t).1.symm;refine ZB (by rw[<- (h _).1]) fun i hi=>?_;have hi':i<a.length:=by rw[<- (h _).1,hlen] at hi;exact hi
 exact Q5h (n:=a.length) (s:=fun t i=>(iter f t a).getD i false) (fun t i _=>(h (iter f t a)).2 i)
  (fun t ht i hi=>by
   have e:iter f (t+1) a=iter f t a:=ZB (by rw[hlen,hlen]) fun j hj=>ht j (by rw[hlen] at hj;exact hj)
   show (f (iter f (t+1) a)).getD i false=(iter f (t+1) a).getD i false
   rw[e]
   show (iter f (t+1) a).getD i false=_
   rw[e]) i hi'
theorem Q0d{f:List Bool->List Bool}(h:∀a,LeB a (f a))(a:List Bool):∀k,iter f (a.length+k) a=iter f a.length a
 |0=>rfl
 |k+1=>by
  show f (iter f (a.length+k) a)=_
  rw[Q0d h a k,Q1h h a]
def bg(F:List Rl)(i:Nat):List Nat:=match F[i]? with|none=>[]|some r=>(XO r.kind r.count r.elem r.parts).map Int.toNat
inductive Rch (F:List Rl):Nat->Nat->Prop
 |one {i j:Nat} (h:j∈bg F i):Rch F i j
 |more {i j k:Nat} (h:Rch F i j) (hk:k∈bg F j):Rch F i k
theorem Rch.trans{k:Nat}(h:Rch F i j)(h':Rch F j k):Rch F i k:=by
 induction h' with
 |one hk=>exact .more h hk
 |more _ hk ih=>exact .more ih hk
def Bd(F:List Rl):Prop:=∀i,∀x∈bg F i,x<F.length
theorem Rch.lt(hb:Bd F)(h:Rch F i j):j<F.length:=by
 cases h with
 |one h=>exact hb _ _ h
 |more _ h=>exact hb _ _ h
def Q5J(out:List Bool)(l:List Nat):List Bool:=l.foldl (fun o x=>o.set x true) out
theorem Qhr(out:List Bool)(l:List Nat):LeB out (Q5J out l):=Vi (fun a b=>LeB.set a b true (fun _=>rfl)) l out
theorem Qjy{x:Nat}(hx:x∈l)(hl:x<out.length):(Q5J out l).getD x false=true:=by
 obtain⟨a',h1,h2⟩:=VQ (f:=fun o x=>o.set x true) (fun a b=>LeB.set a b true (fun _=>rfl)) l out x hx;exact h2.2 x (by rw[XE _ _ _ _ (by rw[<- h1.1];exact hl),if_pos rfl])
theorem QpB:∀{out:List Bool} {x:Nat},(Q5J out l).getD x false=true->out.getD x false=true\/x∈l:=by
 induction l with
 |nil=>intro out x h;exact .inl h
 |cons y l ih=>
  intro out x h;rcases ih (out:=out.set y true) h with h1|h1
  ·by_cases hy:y<out.length
   ·rw[XE _ _ _ _ hy] at h1
    split at h1
    ·next e=>subst e;exact .inr List.mem_cons_self
    ·exact .inl h1
   ·rw[List.set_eq_of_length_le Q3] at h1;exact .inl h1
  ·exact .inr (List.mem_cons_of_mem _ h1)
def ZA(F:List Rl)(st:Nat)(out:List Bool)(i:Nat):List Bool:=if i=st\/out.getD i false=true then Q5J out (bg F i) else out
def ZR(F:List Rl)(st:Nat)(out:List Bool):List Bool:=(List.range F.length).foldl (ZA F st) out
def ZE(F:List Rl)(st:Nat):List Bool:=iter (ZR F st) (F.length+1) (List.replicate F.length false)
theorem Kx(F:List Rl)(st:Nat)(out:List Bool)(i:Nat):LeB out (ZA F st out i):=by
 unfold ZA;split
 ·exact Qhr _ _
 ·exact LeB.refl _
theorem V8(F:List Rl)(st:Nat)(out:List Bool):LeB out (ZR F st out):=Vi (Kx F st) _ _
theorem KH(F:List Rl)(st:Nat):(ZE F st).length=F.length:=by
 have:=(Q18 (V8 F st) Q9o (F.length+1)).1;exact QdK
def Snd(F:List Rl)(st:Nat)(out:List Bool):Prop:=∀i:Nat,out.getD i false=true->Rch F st i
theorem Q8d(h:Snd F st out):Snd F st (ZA F st out i):=by
 intro j hj;unfold ZA at hj;split at hj
 ·next hc=>
  rcases QpB hj with h1|h1
  ·exact h j h1
  ·rcases hc with rfl|hc
   ·exact .one h1
   ·exact .more (h i hc) h1
 ·exact h j hj
theorem Q1q{α β:Type}{f:α->β->α}{p:α->Prop}(h:∀a b,p a->p (f a b)):∀(l:List β) (a:α),p a->p (l.foldl f a)
 |[],a,ha=>ha
 |b::l,a,ha=>Q1q h l (f a b) (h a b ha)
theorem Q3b{α:Type}{f:α->α}{p:α->Prop}(h:∀a,p a->p (f a)){a:α}(ha:p a):∀n,p (iter f n a)
 |0=>ha
 |n+1=>h _ (Q3b h ha n)
theorem Q6V(hb:Bd F)(hs:st<F.length)(j:Nat):(ZE F st).getD j false=true↔Rch F st j:=by
 constructor
 ·intro h;refine Q3b (f:=ZR F st) (p:=Snd F st) (fun a ha=>Q1q (fun a b ha=>Q8d ha) _ _ ha) (a:=List.replicate F.length false) ?_ (F.length+1) j h;intro i hi
  simp only[List.getD_eq_getElem?_getD,List.getElem?_replicate] at hi;split at hi<;>simp at hi
 ·have hrest:ZR F st (ZE F st)=ZE F st:=by
   have h1:=Q0d (V8 F st) Q9o 1;rw[List.length_replicate] at h1;have h2:=Q1h (V8 F st) Q9o;rw[List.length_replicate] at h2;unfold ZE;rw[h1];exact h2
  have hclosed:∀i x,i<F.length->(i=st\/(ZE F st).getD i false=true)->x∈bg F i->(ZE F st).getD x false=true:=by
   intro i x hi hc hx;obtain⟨a',h1,h2⟩:=VQ (Kx F st) (List.range F.length) (ZE F st) i (List.mem_range.2 hi);have h3:(ZA F st a' i).getD x false=true:=by
    unfold ZA;rw[if_pos (hc.imp id (h1.2 i))];exact Qjy hx (by rw[<- h1.1,KH];exact hb i x hx)
   have h4:=h2.2 x h3;have:(ZR F st (ZE F st)).getD x false=true:=h4;rwa [hrest] at this
  intro h;induction h with
  |one h=>exact hclosed _ _ hs (.inl rfl) h
  |more h hk ih=>exact hclosed _ _ (h.lt hb) (.inr ih) hk
end
end Go.Proofs.YtphkhfdmlcnoeaaGreatDoor
