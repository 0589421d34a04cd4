import Derived.Test.YtphkhfdmlcnoeaaGreatDoorP21
namespace Go.Proofs.YtphkhfdmlcnoeaaGreatDoor
set_option linter.unusedVariables false
set_option linter.unusedSimpArgs false
open Go.ChangeShapes Go.WideShapes Go.ChangeAt Go.RowKit Go.Deep
def Q3E(ns:List (List UInt8)):Nat:=(ns.map fun x=>x.length+1).sum
def ndw(d:Nd):Nat:=d.bs.length+Q3E d.ns+1
def VF.fsz:VF→Nat
 |.nil=>0
 |.cons d p r=>ndw d+p.fsz+r.fsz
def VF.Ok:VF→Prop
 |.nil=>True
 |.cons d p r=>Q84 d∧p.Ok∧r.Ok
def VF.ofL:List (Nd×VF)→VF
 |[]=>.nil
 |x::r=>.cons x.1 x.2 (VF.ofL r)
theorem Q4V:∀(l:List (Nd×VF)),(VF.ofL l).len=l.length:=by
 intro l
 induction l with
 |nil=>rfl
 |cons x r ih=>simp [VF.ofL,VF.len,ih]
theorem Qeo{W:World}{B:Nat}:∀(l:List (Nd×VF)) (b o:Nat),(∀i x,l[i]? =some x→∃sb sn sp,VK W b (o+i*5) x.1 sb sn sp∧Hd W B x.1 x.2.len (FIn W B x.2) sb sn sp)→FIn W B (VF.ofL l) b o:=by
 intro l
 induction l with
 |nil=>intro b o _;trivial
 |cons x r ih=>
  intro b o h
  refine⟨by have:=h 0 x rfl;simpa using this,ih b (o+5) fun i y hy=>?_⟩
  have:=h (i+1) y (by simpa using hy)
  rw[show o+(i+1)*5=o+5+i*5 by omega] at this
  exact this
theorem QeL:∀(l:List (Nd×VF)),(∀(i:Nat) (x:Nd×VF),l[i]? =some x→Q84 x.1∧x.2.Ok)→(VF.ofL l).Ok:=by
 intro l
 induction l with
 |nil=>intro _;trivial
 |cons x r ih=>intro h;exact⟨(h 0 x rfl).1,(h 0 x rfl).2,ih fun i y hy=>h (i+1) y (by simpa using hy)⟩
theorem QbT{ns:List (List UInt8)}{x:List UInt8}(h:x∈ns):x.length+1≤Q3E ns:=by
 induction ns with
 |nil=>cases h
 |cons y r ih=>
  unfold Q3E at*
  simp only[List.map_cons,List.sum_cons]
  rcases List.mem_cons.1 h with rfl|h
  ·omega
  ·have:=ih h;omega
theorem Qcz(ns:List (List UInt8)):ns.length≤Q3E ns:=by
 induction ns with
 |nil=>simp [Q3E]
 |cons y r ih=>
  unfold Q3E at*
  simp only[List.map_cons,List.sum_cons,List.length_cons]
  omega
theorem Q93:∀(F:VF),F.len≤F.fsz:=by
 intro F
 induction F with
 |nil=>simp [VF.len,VF.fsz]
 |cons d p r _ ih=>simp only[VF.len,VF.fsz,ndw];omega
theorem Q9c{d:Nd}(h:Q84 d)(hw:ndw d≤1048576):ZJ d:=by
 unfold ndw at hw
 refine⟨h,by omega,by have:=Qcz d.ns;omega,fun x hx=>?_⟩
 have:=QbT hx
 omega
theorem Qet:∀(F:VF),F.Ok→F.fsz≤1048576→Zq F:=by
 intro F
 induction F with
 |nil=>intro _ _;trivial
 |cons d p r ih1 ih2=>
  intro h hw
  simp only[VF.fsz] at hw
  exact⟨Q9c h.1 (by omega),by have:=Q93 p;omega,ih1 h.2.1 (by omega),ih2 h.2.2 (by omega)⟩
theorem Qf7{d:Nd}{p:VF}(hd:Q84 d)(hp:p.Ok)(hw:ndw d+p.fsz≤1048576):Sz d p:=
 ⟨Q9c hd (by omega),Qet p hp (by omega),by have:=Q93 p;omega⟩
section
variable {H:Type}{enc:TypeId×Value→H}{W:World}
theorem Qa9(ss:List ByteArray):Rows.uptoBulkAll (strs (H:=H) ss)=Q3E (ss.map fun s=>s.data.toList):=by
 induction ss with
 |nil=>rfl
 |cons s r ih=>
  have e:strs (H:=H) (s::r)=DataW.lit (.string s.data.toList)::strs r:=by simp [strs]
  rw[e]
  simp only[Rows.uptoBulkAll,Rows.uptoBulk,List.map_cons]
  rw[ih]
  simp [Q3E]
set_option maxRecDepth 100000 in
theorem Q35{fuel:Nat}{cs:List Value}{x:DataW H×List MemPlace}(h:DataW.trod enc Tryz.prog W 0 (fun _=>true) true fuel 27 cs=some x):
  ∃(A:Option Addr) (n c:Nat) (ns:List (List UInt8)),cs=[.slice A n c]∧Rd W W.heap.size 1 A n (sv ns)∧n≤c∧Q3E ns+1≤Rows.uptoBulk x.1:=by
 rcases open_strings Tryz.underlying27 Tryz.underlying9 (by kernel_rfl) h with ⟨hcs,hx⟩|⟨a,len,cap,ss,hcs,_,hl,hm,hz,hx,hcell,_⟩
 ·exact⟨none,0,0,[],hcs,⟨rfl,fun h=>absurd h (Nat.lt_irrefl _)⟩,Nat.le_refl _,by simp [Q3E];exact Xx x.1⟩
 ·subst hx
  have hz':ss.length=cap:=by simpa using hz
  refine⟨some a,len,cap,(ss.take len).map (fun s=>s.data.toList),hcs,⟨by simp [sv];omega,fun hn=>?_⟩,hl,?_⟩
  ·have h0:=hcell 0 (by omega)
   have hs:a.spot=none:=by simpa [Addr.add] using World.cell?_spot h0
   obtain⟨b,o,sp⟩:=a
   simp only at hs
   subst hs
   refine⟨b,o,rfl,World.block_lt_of_cell? W _ (by simpa [Addr.add] using h0),fun j u hu=>?_⟩
   have e:(⟨b,o,none⟩:Addr).add j=⟨b,o+j,none⟩:=by unfold Addr.add;split<;>simp_all
   rw[← e]
   simp only[sv,List.map_map,List.getElem?_map,List.getElem?_take] at hu
   split at hu
   ·rename_i hj
    have hjl:j<ss.length:=by omega
    rw[List.getElem?_eq_getElem hjl] at hu
    simp only[Option.map_some,Option.some.injEq,Function.comp] at hu
    rw[hcell j hjl,List.getD_eq_getElem?_getD,List.getElem?_eq_getElem hjl]
    rw[← hu]
    rfl
   ·simp at hu
  ·simp only[Rows.uptoBulk]
   rw[Qa9 (ss.take len)]
   omega
set_option maxRecDepth 100000 in
theorem Q3k{fuel:Nat}{cs:List Value}{x:DataW H×List MemPlace}(h:DataW.trod enc Tryz.prog W 0 (fun _=>true) true fuel 25 cs=some x):
  ∃(A:Option Addr) (n c:Nat) (bs:List UInt8),cs=[.slice A n c]∧Rd W W.heap.size 1 A n (bv bs)∧n≤c∧bs.length=n∧n+1≤Rows.uptoBulk x.1:=by
 rcases open_ints Tryz.underlying25 Tryz.underlying5 (by kernel_rfl) h with ⟨hcs,hx⟩|⟨a,len,cap,zs,hcs,_,hl,hm,hz,hx,hcell,hwz⟩
 ·exact⟨none,0,0,[],hcs,Rd.nil_,Nat.le_refl _,rfl,Xx x.1⟩
 ·subst hx
  have hz':zs.length=cap:=by simpa using hz
  have hr:=YJ hl hz' hcell
  obtain⟨bs,hbl,hbe⟩:=Yb (zs.take len) (fun n hn=>hwz n (List.mem_of_mem_take hn))
  rw[hbe] at hr
  have hbl':bs.length=len:=by rw[hbl,List.length_take];omega
  refine⟨_,_,_,bs,hcs,hr,hl,hbl',?_⟩
  have h1:=Q1b (lits (H:=H) .u8 (zs.take len))
  simp only[Rows.uptoBulk]
  simp only[lits,List.length_map,List.length_take] at h1
  simp only[lits]
  omega
theorem Q5q{α:Type}(n:Nat)(P:Nat→α→Prop)(h:∀i,i<n→∃x,P i x):∃l:List α,l.length=n∧∀i x,l[i]? =some x→P i x:=by
 induction n with
 |zero=>exact⟨[],rfl,fun i x h=>by simp at h⟩
 |succ n ih=>
  obtain⟨l,hl,hp⟩:=ih fun i hi=>h i (by omega)
  obtain⟨x,hx⟩:=h n (by omega)
  refine⟨l++[x],by simp [hl],fun i y hy=>?_⟩
  by_cases hi:i<l.length
  ·rw[List.getElem?_append_left hi] at hy;exact hp i y hy
  ·rw[List.getElem?_append_right (by omega)] at hy
   obtain⟨k,hk⟩:∃k,i - l.length=k:=⟨_,rfl⟩
   rw[hk] at hy
   cases k with
   |zero=>
    simp at hy;subst hy;obtain rfl:i=n:=by omega
    exact hx
   |succ k=>simp at hy
theorem QeF(l:List (Nd×VF))(E:List (DataW H))(hl:l.length=E.length)(h:∀(i:Nat) (x:Nd×VF) (e:DataW H),l[i]? =some x→E[i]? =some e→ndw x.1+x.2.fsz≤Rows.uptoBulk e):(VF.ofL l).fsz≤Rows.uptoBulkAll E:=by
 induction l generalizing E with
 |nil=>simp [VF.ofL,VF.fsz]
 |cons b l ih=>
  cases E with
  |nil=>simp at hl
  |cons e E=>
   simp only[Rows.uptoBulkAll,VF.ofL,VF.fsz]
   have h1:=h 0 b e rfl rfl
   have h2:=ih E (by simpa using hl) fun i x y hx hy=>h (i+1) x y (by simpa using hx) (by simpa using hy)
   omega
theorem Q8S(b o j:Nat):(⟨b,o,none⟩:Addr).add j=⟨b,o+j,none⟩:=by unfold Addr.add;split<;>simp_all
set_option maxRecDepth 100000 in
theorem Q3V:∀(fuel:Nat) (cs:List Value) (x:DataW H×List MemPlace),DataW.trod enc Tryz.prog W 0 (fun _=>true) true fuel 30 cs=some x→
  ∃(d:Nd) (p:VF) (sb sn sp:Value),cs=[.int .i64 d.k,.int .i64 d.n,sb,sn,sp]∧Hd W W.heap.size d p.len (FIn W W.heap.size p) sb sn sp∧Q84 d∧p.Ok∧ndw d+p.fsz≤Rows.uptoBulk x.1:=by
 intro fuel
 induction fuel using Nat.strongRecOn with
 |ind fuel ih=>
  intro cs x h
  obtain⟨xs,n,rfl,rfl,hl,hlen,hf⟩:=DataW.trod_struct Tryz.underlying30 h
  obtain⟨y0,y1,y2,y3,y4,rfl⟩:∃y0 y1 y2 y3 y4,xs=[y0,y1,y2,y3,y4]:=by
   match xs,hlen with
   |[y0,y1,y2,y3,y4],_=>exact⟨y0,y1,y2,y3,y4,rfl⟩
  have hC:Tryz.prog.cellsOf 30=5:=by kernel_rfl
  rw[hC] at hl
  obtain⟨c0,c1,c2,c3,c4,rfl⟩:∃c0 c1 c2 c3 c4,cs=[c0,c1,c2,c3,c4]:=by
   match cs,hl with
   |[c0,c1,c2,c3,c4],_=>exact⟨c0,c1,c2,c3,c4,rfl⟩
  have k3:Tryz.prog.cellsOf 3=1:=by kernel_rfl
  have k5:Tryz.prog.cellsOf 25=1:=by kernel_rfl
  have k6:Tryz.prog.cellsOf 27=1:=by kernel_rfl
  have k7:Tryz.prog.cellsOf 28=1:=by kernel_rfl
  have f0:DataW.trod enc Tryz.prog W 0 (fun _=>true) true n 3 [c0]=some y0:=by have h:=hf 0 _ rfl;simpa [k3] using h
  have f1:DataW.trod enc Tryz.prog W 0 (fun _=>true) true n 3 [c1]=some y1:=by have h:=hf 1 _ rfl;simpa [k3] using h
  have f2:DataW.trod enc Tryz.prog W 0 (fun _=>true) true n 25 [c2]=some y2:=by have h:=hf 2 _ rfl;simpa [k5] using h
  have f3:DataW.trod enc Tryz.prog W 0 (fun _=>true) true n 27 [c3]=some y3:=by have h:=hf 3 _ rfl;simpa [k6] using h
  have f4:DataW.trod enc Tryz.prog W 0 (fun _=>true) true n 28 [c4]=some y4:=by have h:=hf 4 _ rfl;simpa [k7] using h
  obtain⟨kk,e0,e1,w0⟩:=DataW.trod_int Tryz.underlying3 f0
  obtain⟨nn,e2,e3,w1⟩:=DataW.trod_int Tryz.underlying3 f1
  obtain⟨Ab,nb,cb,bs,e4,hrb,hlb,hbl,hbk⟩:=Q3k f2
  obtain⟨An,nm,cn,ns,e5,hrn,hln,hnk⟩:=Q35 f3
  simp only[List.cons.injEq,and_true] at e0 e2 e4 e5
  subst e0 e2 e4 e5
  have hkb:=bounds_i64 w0
  have hnb:=bounds_i64 w1
  rcases DataW.trod_slice Tryz.underlying28 f4 with ⟨hcs,hx⟩|⟨a,l,c,elems,rest,n',hfu,hcs,hx,_,hl',hm,hel0,hel,_,_⟩
  ·simp only[List.cons.injEq,and_true] at hcs
   subst hcs
   refine⟨⟨kk,nn,bs,ns⟩,.nil,_,_,_,rfl,⟨Ab,nb,cb,An,nm,cn,none,0,rfl,rfl,rfl,hlb,hln,Nat.le_refl _,Nat.zero_le _,hrb,hrn,fun h=>absurd h (Nat.lt_irrefl _)⟩,⟨hkb.1,hkb.2,hnb.1,hnb.2⟩,trivial,?_⟩
   have b0:=Xx y0.1
   have b1:=Xx y1.1
   have b4:=Xx y4.1
   simp only[List.map_cons,List.map_nil,Rows.uptoBulk,Rows.uptoBulkAll,VF.fsz,ndw]
   omega
  ·simp only[List.cons.injEq,and_true] at hcs
   subst hcs
   have hn':n'<n+1:=by omega
   have each:∀i,i<l→∃y:(Nd×VF)×(Value×Value×Value),(∃cs',W.cells? 0 (a.add (i*5)) 5=some cs'∧cs'=[.int .i64 y.1.1.k,.int .i64 y.1.1.n,y.2.1,y.2.2.1,y.2.2.2])∧Hd W W.heap.size y.1.1 y.1.2.len (FIn W W.heap.size y.1.2) y.2.1 y.2.2.1 y.2.2.2∧(Q84 y.1.1∧y.1.2.Ok)∧(∀e,(elems.map (·.1))[i]? =some e→ndw y.1.1+y.1.2.fsz≤Rows.uptoBulk e):=by
    intro i hlt
    have hel':=hel i hlt
    rw[hC,List.getElem?_eq_getElem (show i<elems.length by omega)] at hel'
    obtain⟨cs',hc,ht⟩:=Option.bind_eq_some_iff.1 hel'
    obtain⟨d,p,sb,sn,sp,hcs',hd,hok,hpo,hw⟩:=ih n' hn' cs' _ ht
    exact⟨((d,p),(sb,sn,sp)),⟨cs',hc,hcs'⟩,hd,⟨hok,hpo⟩,fun e he=>by
     rw[List.getElem?_map,List.getElem?_eq_getElem (show i<elems.length by omega)] at he
     simp only[Option.map_some,Option.some.injEq] at he
     subst he
     exact hw⟩
   obtain⟨ys,hyl,hys⟩:=Q5q l _ each
   refine⟨⟨kk,nn,bs,ns⟩,VF.ofL (ys.map (·.1)),_,_,_,rfl,⟨Ab,nb,cb,An,nm,cn,some a,c,rfl,rfl,by rw[Q4V,List.length_map,hyl],hlb,hln,by rw[Q4V,List.length_map,hyl];exact hl',hm,hrb,hrn,fun h0=>?_⟩,⟨hkb.1,hkb.2,hnb.1,hnb.2⟩,?_,?_⟩
   ·rw[Q4V,List.length_map,hyl] at h0
    have hy0:ys[0]? =some ys[0]:=List.getElem?_eq_getElem (by omega)
    obtain⟨⟨cs0,hc0,hcs0⟩,_⟩:=hys 0 _ hy0
    obtain⟨_,_,hat0⟩:=World.cells?_some hc0
    have hcell0:=hat0 0 (by omega)
    have hs:a.spot=none:=by rw[hcs0] at hcell0;simpa [Addr.add] using World.cell?_spot hcell0
    obtain⟨b,o,sp⟩:=a
    simp only at hs
    subst hs
    have hadd:∀i j,((⟨b,o,none⟩:Addr).add (i*5)).add j=⟨b,o+i*5+j,none⟩:=fun i j=>by rw[Q8S,Q8S]
    refine⟨b,o,rfl,?_,Qeo _ b o fun i x hx=>?_⟩
    ·rw[hcs0] at hcell0
     have:=World.block_lt_of_cell? W _ hcell0
     simpa [Addr.add] using this
    ·rw[List.getElem?_map] at hx
     cases hy:ys[i]? with
     |none=>rw[hy] at hx;simp at hx
     |some y=>
      rw[hy] at hx
      simp only[Option.map_some,Option.some.injEq] at hx
      subst hx
      obtain⟨⟨cs1,hc1,hcs1⟩,hd,_⟩:=hys i y hy
      obtain⟨_,_,hat⟩:=World.cells?_some hc1
      rw[hcs1] at hat
      have q0:=hat 0 (by omega)
      have q1:=hat 1 (by omega)
      have q2:=hat 2 (by omega)
      have q3:=hat 3 (by omega)
      have q4:=hat 4 (by omega)
      rw[hadd] at q0 q1 q2 q3 q4
      exact⟨_,_,_,⟨by simpa using q0,by simpa using q1,by simpa using q2,by simpa using q3,by simpa using q4⟩,hd⟩
   ·refine QeL _ fun i x hx=>?_
    rw[List.getElem?_map] at hx
    cases hy:ys[i]? with
    |none=>rw[hy] at hx;simp at hx
    |some y=>
     rw[hy] at hx
     simp only[Option.map_some,Option.some.injEq] at hx
     subst hx
     exact(hys i y hy).2.2.1
   ·have hsz:=QeF (ys.map (·.1)) (elems.map (·.1)) (by simp [hyl,hel0]) fun i x e hx he=>by
     rw[List.getElem?_map] at hx
     cases hy:ys[i]? with
     |none=>rw[hy] at hx;simp at hx
     |some y=>
      rw[hy] at hx
      simp only[Option.map_some,Option.some.injEq] at hx
      subst hx
      exact(hys i y hy).2.2.2 e he
    have b0:=Xx y0.1
    have b1:=Xx y1.1
    have hy4:y4.1=.slice (elems.map (·.1)) (rest.map (·.1)):=by rw[hx]
    simp only[List.map_cons,List.map_nil,Rows.uptoBulk,Rows.uptoBulkAll,ndw,hy4]
    omega
set_option maxRecDepth 100000 in
theorem Q8I{base:Nat}{v:Value}{d:DataW H}{p:List MemPlace}(hv:Value.okWide Tryz.prog W .any base 30 v)(h:DataW.Trod enc Tryz.prog W 0 (fun _=>true) true 30 v d p)(hb:Rows.uptoBulk d≤1048576):
  ∃(nd:Nd) (F:VF),VIn W W.heap.size v nd F∧Sz nd F:=by
 obtain⟨cs,rfl,hsz⟩:=okWide_struct Tryz.underlying30 hv
 obtain⟨fuel,hf⟩:=h
 obtain⟨nd,F,sb,sn,sp,hcs,hd,hok,hpo,hw⟩:=Q3V fuel _ _ hf
 refine⟨nd,F,⟨sb,sn,sp,?_,hd⟩,Qf7 hok hpo (Nat.le_trans hw hb)⟩
 have:cs.toList=[.int .i64 nd.k,.int .i64 nd.n,sb,sn,sp]:=by simpa [Value.cells] using hcs
 cases cs
 simp at this
 rw[this]
end
end Go.Proofs.YtphkhfdmlcnoeaaGreatDoor
