import Derived.Test.YtphkhfdmlcnoeaaGreatDoorP25
namespace Go.Proofs.YtphkhfdmlcnoeaaGreatDoor
set_option linter.unusedVariables false
set_option linter.unusedSimpArgs false
set_option maxRecDepth 1000000
set_option maxHeartbeats 32000000
open Go.RowKit
section
variable {A7 A8:Option Addr}{L:List Itm}{W1 w2 wr:World}{c7 c8 i:Nat}{g:Itm}
def RdN(W1 w2:World)(L:List Itm)(A7 A8:Option Addr)(c7 c8:Nat):Prop:=
 ∃cs7,w2.ownsRow W1.heap.size 30 5 (.slice A7 L.length c7) L.length cs7/\Q4t W1 L cs7/\YG w2 W1.heap.size A8 c8 (L.map (·.1))/\(∀g∈L,Q8g g)/\Below W1.heap.size W1 w2
theorem RdN.node(h:RdN W1 w2 L A7 A8 c7 c8)(hb:Below w2.heap.size w2 wr)(hg:L[i]? =some g):
  ∃b o Ab nb cb An nn cn Ap cp,A7=some ⟨b,o,none⟩/\wr.cell? ⟨b,o+i*5,none⟩=some (.int .i64 g.2.1.k)/\wr.cell? ⟨b,o+i*5+1,none⟩=some (.int .i64 g.2.1.n)/\wr.cell? ⟨b,o+i*5+2,none⟩=some (.slice Ab nb cb)/\wr.cell? ⟨b,o+i*5+3,none⟩=some (.slice An nn cn)/\wr.cell? ⟨b,o+i*5+4,none⟩=some (.slice Ap g.2.2.len cp)/\
   VIn wr wr.heap.size (.agg #[.int .i64 g.2.1.k,.int .i64 g.2.1.n,.slice Ab nb cb,.slice An nn cn,.slice Ap g.2.2.len cp]) g.2.1 g.2.2/\Q8g g:=by
 obtain⟨cs7,ho,hc,_,hok,hb1⟩:=h;have hi:i<L.length:=(List.getElem?_eq_some_iff.1 hg).1;obtain⟨b,o,hA,hlt,hcell⟩:=(Rd.of_own ho).2 Q3;obtain⟨sb,sn,sp,hat,hd⟩:=Q4t.at_ L cs7 i g hc hg;have hd':=hd;obtain⟨Ab,nb,cb,An,nn,cn,Ap,cp,rfl,rfl,rfl,_⟩:=hd';have e:∀j u,[Value.int .i64 g.2.1.k,.int .i64 g.2.1.n,.slice Ab nb cb,.slice An nn cn,.slice Ap g.2.2.len cp][j]? =some u->wr.cell? ⟨b,o+(i*5+j),none⟩=some u:=fun j u hu=>(hb.cell (p:=⟨b,o+(i*5+j),none⟩) hlt).trans (hcell _ _ (hat j u hu));refine⟨b,o,Ab,nb,cb,An,nn,cn,Ap,cp,hA,e 0 _ rfl,e 1 _ rfl,e 2 _ rfl,e 3 _ rfl,e 4 _ rfl,⟨_,_,_,rfl,QuC hd (X9 hb1 hb)⟩,hok g (List.mem_of_getElem? hg)⟩
theorem RdN.path(h:RdN W1 w2 L A7 A8 c7 c8)(hb:Below w2.heap.size w2 wr)(hg:L[i]? =some g):
  ∃b o A' c',A8=some ⟨b,o,none⟩/\wr.cell? ⟨b,o+i,none⟩=some (.slice A' g.1.length c')/\Rd wr wr.heap.size 1 A' g.1.length (iv g.1)/\g.1.length<=c':=by
 obtain⟨cs7,_,_,⟨vs,ho,hl,hel⟩,_,_⟩:=h;have hi:i<L.length:=(List.getElem?_eq_some_iff.1 hg).1;obtain⟨b,o,hA,hlt,hcell⟩:=(Rd.of_own ho).2 Q9d;obtain⟨A',c',hv,hp⟩:=hel i g.1 (by rw[List.getElem?_map,hg];rfl);exact⟨b,o,A',c',hA,(hb.cell (p:=⟨b,o+i,none⟩) hlt).trans (hcell i _ hv),(Rd.of_own hp).on hb,(QgO hp).1⟩
def QuP(W w2:World)(L:List Itm)(gf:Nat)(k:Value)(wr:World):Prop:=∃i:Nat,k=.int .i64 (i:Int)/\i<=L.length/\VK L 0=VK (L.drop i) i/\Below w2.heap.size w2 wr
def Qvd(w2:World)(L:List Itm)(n k:Value)(wr:World):Prop:=∃i:Nat,k=.int .i64 (i:Int)/\i<=L.length/\n=.int .i64 ((szS (L.take i):Nat):Int)/\szS (L.take i)<=4000/\Below w2.heap.size w2 wr
theorem Q3S{f:Int×Int}(h:VK L 0=some f):Q9T L=f:=by unfold Q9T;rw[h]
theorem QmZ(h:VK L 0=none)(hs:4000<szS L):Q9T L=(14,-1):=by unfold Q9T;rw[h];simp only;rw[if_pos hs]
theorem Qpc(h:VK L 0=none)(hs:¬4000<szS L):Q9T L=(0,0):=by unfold Q9T;rw[h];simp only;rw[if_neg hs]
theorem QhR(h:Q8g g):ZD g.2.1 g.2.2.len<=1099512676353+1024:=by
 obtain⟨⟨⟨_,_,hn1,hn2⟩,hb,hns,hnl⟩,_,hp,_⟩:=h;have h1:=XG g.2.1.n hn1 hn2;have h2:=XG (g.2.2.len:Int) Q3 Q3;have h3:=QaX hnl;have h4:g.2.1.ns.length*1048577<=1048576*1048577:=Nat.mul_le_mul_right _ hns;have h5:=K2 g.2.1.bs Q3;unfold ZD;split
 ·omega
 ·split
  ·split
   ·omega
   ·omega
  ·omega
theorem Q47{w:World}{v:Value}{d:Nd}{p:VF}(hv:VIn w w.heap.size v d p)(hm:XI d/\XD p/\p.len<=1048576):
  Calls Tryz.prog 16 #[v] w fun e w'=>e=.returned (.agg #[.int .i64 (XJ d p).1,.int .i64 (XJ d p).2])/\Below w.heap.size w w':=by
 rw[QnF];have HV:=Q2 hv;have HM:=Q2 hm;obtain⟨sb,sn,sp,rfl,hd0⟩:=hv;obtain⟨Ab,nb,cb,An,nn,cn,Ap,cp,rfl,rfl,rfl,_⟩:=hd0;clear hm;go_enter Tryz.func16,Tryz.ntmps16;go_wp2_with fail
 obtain⟨W1,hW1⟩:∃W1,(w.alloc (.cells #[.int .i64 d.k,.int .i64 d.n,.slice Ab nb cb,.slice An nn cn,.slice Ap p.len cp] 30)).alloc (.cells #[.int .i64 0,.int .i64 0] 32)=W1:=⟨_,rfl⟩;have HB1:=Q2 (show Below w.heap.size w W1 by rw[<- hW1];exact Q39 _ _ _)
 have HF1:=Q2 (show FC W1 (w.heap.size+1) 0 0 by
  rw[<- hW1]
  have h:=FC.new (w.alloc (.cells #[.int .i64 d.k,.int .i64 d.n,.slice Ab nb cb,.slice An nn cn,.slice Ap p.len cp] 30)) 0 0
  rw[QB] at h
  exact h)
 rw[hW1];clear hW1;refine(QbF (most:=601) (HV.out.on HB1.out) HM.out.1 HM.out.2.1 HM.out.2.2 Xr).mono ?_;rintro e w2 ⟨A7,c7,A8,c8,cs7,rfl,ho7,hc7,ho8,hok,hb2⟩;obtain⟨L,hL⟩:∃L,(Jn 601 ([],d,p)).take 601=L:=⟨_,rfl⟩;have hll:L.length<=601:=by rw[<- hL,List.length_take];omega
 rw[hL] at ho7 hc7 ho8 hok ⊢;have HRN:=Q2 (show RdN W1 w2 L A7 A8 c7 c8 from ⟨cs7,ho7,hc7,ho8,hok,hb2⟩);have HF2:=Q2 (HF1.out.on hb2);have HB2:=Q2 (X9 HB1.out hb2);have HLE:=Q2 hL;clear hL ho7 hc7 ho8 hok hb2;have hfz:w.heap.size+1<w2.heap.size:=HF2.out.1;go_wp2_with fail
 go_loopw [5] (QuP w w2 L (w.heap.size+1)) (fun k _=>L.length - (intOf k).toNat)
 case atStart=>exact⟨0,rfl,Nat.zero_le _,by simp,Below.refl _ _⟩
 case round=>
  obtain⟨i,rfl,hi,hsc,hbr⟩:=hrel;have HSC:=Q2 hsc;have HBR:=Q2 hbr;have HFR:=Q2 (HF2.out.on hbr);clear hsc hbr;by_cases hlt:i<L.length
  ·obtain⟨g,hg⟩:∃g,L[i]? =some g:=⟨_,List.getElem?_eq_getElem hlt⟩
   have HG:=Q2 hg;have HDR:=Q2 (show L.drop i=g::L.drop (i+1) by rw[List.drop_eq_getElem_cons hlt];congr 1;exact(List.getElem?_eq_some_iff.1 hg).2);have hli:(i:Int)<(L.length:Int):=by omega
   have h0:(0:Int)<=(i:Int):=by omega
   by_cases h600:600<=i
   ·have h600':(600:Int)<=(i:Int):=by omega
    have HR:=Q2 (Q3S (by rw[HSC.out,HDR.out];exact YP (.inl h600)));obtain⟨z4,r0,r1,e0,e1⟩:=HFR.out;go_wp2_with (go_at_call 20;refine(Km _ _ _).mono ?_;rintro e w' ⟨rfl,rfl⟩)
    clear r0 r1 e0 e1 z4;obtain⟨z4,r0,r1,e0,e1⟩:=((HFR.out.put 2 (i:Int)).alloc (.cells #[.int .i64 2,.int .i64 (i:Int)] 32));refine bodyPost_ret (v:=.agg #[.int .i64 2,.int .i64 (i:Int)]) Qct rfl ?_;exact QrC
   ·have h600':¬(600:Int)<=(i:Int):=by omega
    obtain⟨b8,o8,Ax,cx,rfl,hcp,_,_⟩:=HRN.out.path HBR.out hg;by_cases h10:10<=g.1.length
    ·have h10':(10:Int)<=(g.1.length:Int):=by omega
     have HR:=Q2 (Q3S (by rw[HSC.out,HDR.out];exact YP (.inr h10)));obtain⟨z4,r0,r1,e0,e1⟩:=HFR.out;go_wp2_with (go_at_call 20;refine(Km _ _ _).mono ?_;rintro e w' ⟨rfl,rfl⟩)
     clear r0 r1 e0 e1 z4;obtain⟨z4,r0,r1,e0,e1⟩:=((HFR.out.put 2 (i:Int)).alloc (.cells #[.int .i64 2,.int .i64 (i:Int)] 32));refine bodyPost_ret (v:=.agg #[.int .i64 2,.int .i64 (i:Int)]) Qct rfl ?_;exact QrC
    ·have h10':¬(10:Int)<=(g.1.length:Int):=by omega
     have hno:¬(600<=i\/10<=g.1.length):=by omega
     obtain⟨b7,o7,Ab',nb',cb',An',nn',cn',Ap',cp',rfl,q0,q1,q2,q3,q4,hvg,hok⟩:=HRN.out.node HBR.out hg;have HVG:=Q2 hvg;have HOK:=Q2 hok;have hgl:=hok.2.2.2;clear hvg hok hg;go_wp2_with fail
     refine(Q7Q HVG.out HOK.out.1 HOK.out.2.2.1).mono ?_;rintro e w3 ⟨rfl,hb3⟩;have HB3:=Q2 (X9 HBR.out hb3);have HF3:=Q2 (HFR.out.on hb3);obtain⟨nc,hnc⟩:∃nc,QJ g.2.1 g.2.2.len=nc:=⟨_,rfl⟩;have hbd:=Qjf g.2.1 g.2.2.len;rw[hnc] at hbd ⊢;have HNC:=Q2 hnc;clear hb3 hnc q0 q1 q2 q3 q4;by_cases hz:nc=0
     ·subst hz
      have HS2:=Q2 (show VK L 0=VK (L.drop (i+1)) (i+1) by rw[HSC.out,HDR.out];exact V6 hno HNC.out);go_wp2_with fail
      go_roundw
      case rel=>exact⟨i+1,by go_num,by omega,HS2.out,HB3.out⟩
      case measure=>simp [intOf];omega
     ·have hz':(nc != 0)=true:=by simpa using hz
      have HR:=Q2 (show Q9T L=(nc,(i:Int)) from Q3S (by rw[HSC.out,HDR.out,Ki hno (by rw[HNC.out];exact hz),HNC.out]));obtain⟨z4,r0,r1,e0,e1⟩:=HF3.out;go_wp2_with (go_at_call 20;refine(Km _ _ _).mono ?_;rintro e w' ⟨rfl,rfl⟩)
      clear r0 r1 e0 e1 z4;obtain⟨z4,r0,r1,e0,e1⟩:=((HF3.out.put nc (i:Int)).alloc (.cells #[.int .i64 nc,.int .i64 (i:Int)] 32));refine bodyPost_ret (v:=.agg #[.int .i64 nc,.int .i64 (i:Int)]) Qct rfl ?_;exact QrH
  ·have HSN:=Q2 (show VK L 0=none by rw[HSC.out,List.drop_of_length_le Q3];rfl)
   go_wp2_with fail
   clear hlt hi;go_loopw [7,8] (Qvd w2 L) (fun _ k _=>L.length - (intOf k).toNat)
   case atStart=>exact⟨0,rfl,Nat.zero_le _,by simp [szS],by simp [szS],HBR.out⟩
   case round=>
    obtain⟨j,rfl,hj,rfl,hsz,hbr⟩:=hrel;have HBJ:=Q2 hbr;have HFJ:=Q2 (HF2.out.on hbr);clear hbr;obtain⟨s0,hs0⟩:∃s0,szS (L.take j)=s0:=⟨_,rfl⟩;rw[hs0] at hsz ⊢;have HS0:=Q2 hs0;clear hs0;by_cases hlt:j<L.length
    ·obtain⟨g,hg⟩:∃g,L[j]? =some g:=⟨_,List.getElem?_eq_getElem hlt⟩
     have HG:=Q2 hg;obtain⟨b7,o7,Ab',nb',cb',An',nn',cn',Ap',cp',rfl,q0,q1,q2,q3,q4,hvg,hok⟩:=HRN.out.node HBJ.out hg;have HVG:=Q2 hvg;have HOK:=Q2 hok;have hle:=QhR hok;have hli:(j:Int)<(L.length:Int):=by omega
     have h0:(0:Int)<=(j:Int):=by omega
     clear hvg hok hg;go_wp2_with fail
     refine(Q8f HVG.out HOK.out.1 HOK.out.2.2.1).mono ?_;rintro e w3 ⟨rfl,hb3⟩;have HB3:=Q2 (X9 HBJ.out hb3);have HF3:=Q2 (HFJ.out.on hb3);obtain⟨sg,hsg⟩:∃sg,ZD g.2.1 g.2.2.len=sg:=⟨_,rfl⟩;rw[hsg] at hle ⊢;have HN:=Q2 (show szS (L.take (j+1))=s0+sg by rw[Qlt HG.out,HS0.out,hsg]);clear hb3 hsg q0 q1 q2 q3 q4;by_cases hbig:4000<s0+sg
     ·have hbig':(4000:Int)<(s0:Int)+(sg:Int):=by omega
      have HR:=Q2 (QmZ HSN.out (by have:=QlN L (j+1);have:=HN.out;omega));obtain⟨z4,r0,r1,e0,e1⟩:=HF3.out;go_wp2_with (go_at_call 20;refine(Km _ _ _).mono ?_;rintro e w' ⟨rfl,rfl⟩)
      clear r0 r1 e0 e1 z4;obtain⟨z4,r0,r1,e0,e1⟩:=((HF3.out.put 14 (-1)).alloc (.cells #[.int .i64 14,.int .i64 (-1)] 32));refine bodyPost_ret (v:=.agg #[.int .i64 14,.int .i64 (-1)]) Qct rfl ?_;exact QrH
     ·have hbig':¬(4000:Int)<(s0:Int)+(sg:Int):=by omega
      go_wp2_with fail
      go_roundw
      case rel=>exact⟨j+1,by go_num,by omega,by rw[HN.out];simp,by rw[HN.out];omega,HB3.out⟩
      case measure=>simp [intOf];omega
    ·have HR:=Q2 (Qpc HSN.out (by have:=HS0.out;rw[List.take_of_length_le Q3] at this;omega))
     obtain⟨z4,r0,r1,e0,e1⟩:=HFJ.out;go_wp2_with fail
     clear r0 r1 e0 e1 z4;obtain⟨z4,r0,r1,e0,e1⟩:=((HFJ.out.put 0 0));refine bodyPost_ret (v:=.agg #[.int .i64 0,.int .i64 0]) Qct rfl ?_;exact⟨by rw[HLE.out,HR.out],Z0 (X9 HB2.out HBJ.out) Q3 _ _⟩
end
structure Qmz(W:World)(F:List Rl)(D:List UInt8)(Af:Option Addr)(nn:Nat)(Ad:Option Addr)(nd cd:Nat):Prop where
 fm:QS W W.heap.size Af nn F
 dt:Rd W W.heap.size 1 Ad nd (bv D)
 hD:D.length<=1000
 hc:nd<=cd
section
variable {W w w':World}{p nn nd cd cf:Nat}{F:List Rl}{D:List UInt8}{Af Ad:Option Addr}{O:List Qf}{M:List Nat}{e:Ending}{k:Int}
theorem Qmz.next(h:Qmz W F D Af nn Ad nd cd)(hk:Below W.heap.size W w):Qmz w F D Af nn Ad nd cd:=⟨(h.fm.below hk).more hk.size,(h.dt.below hk).more hk.size,h.hD,h.hc⟩
theorem Qmz.len(h:Qmz W F D Af nn Ad nd cd):D.length=nd/\F.length=nn:=⟨by have:=h.dt.len;rw[QM] at this;exact this,h.fm.1⟩
end
section
variable {A2:Option Addr}{c2 m:Nat}{news:List UInt8}{x:Operand}
theorem Q4C{P:Program}(g o:Nat)(t:TypeId)(k k2:Nat):∀(vs:List Value) (i:Nat) (cur:Array Value) (w:World),w.heap[g]? =some (.cells cur t (k,k2))->o+i+vs.length<=k->o+i+vs.length<=cur.size->(∀v∈vs,v.oneCell'=true)->
  (storeCells ⟨g,o,none⟩ vs i).run P w=.ok () (w.setRow g (cur.toList.take (o+i)++vs++cur.toList.drop (o+i+vs.length)).toArray)
 |[],i,cur,w,hg,_,_,_=>by
  simp only[storeCells,List.append_nil,List.length_nil,Nat.add_zero,List.take_append_drop,Array.toArray_toList]
  rw[setRow_self w g cur t (k,k2) hg]
  rfl
 |v::rest,i,cur,w,hg,hk,hl,h1=>by
  have hi:o+i<cur.size:=by simp at hl;omega
  have hadd:(⟨g,o,none⟩:Addr).add i=⟨g,o+i,none⟩:=by unfold Addr.add;split<;>simp_all
  have hcell:w.cell? ⟨g,o+i,none⟩=some cur[o+i]:=by simp [World.cell?,hg,hi]
  have hfro:w.frozen? ⟨g,o+i,none⟩=false:=by
   simp only[World.frozen?,hg,Bool.and_eq_false_iff,decide_eq_false_iff_not];left;simp at hk;omega
  have hst:(store ((⟨g,o,none⟩:Addr).add i) v).run P w=.ok () (w.setRow g (cur.setIfInBounds (o+i) v)):=by
   rw[hadd,run_store P w _ v _ (h1 v Qn),hcell];simp [hfro,setCell_eq_setRow w g (o+i) cur t (k,k2) v hg]
  have ih:=Q4C (P:=P) g o t k k2 rest (i+1) (cur.setIfInBounds (o+i) v) (w.setRow g (cur.setIfInBounds (o+i) v)) (setRow_heap w g cur _ t _ hg) (by simp at hk ⊢;omega) (by simp at hl ⊢;omega) (fun x hx=>h1 x Q7c);simp only[storeCells,Sem.run_bind,hst,Result.andThen_ok,ih,setRow_setRow];congr 3;have e:=list_seg_step cur.toList (o+i) v rest (by simp at hl ⊢;omega);simpa [Array.toList_setIfInBounds,Nat.add_assoc] using e
structure Bf where
 z:Bool
 A:Option Addr
 c:Nat
 cur:List Value
def Bf.at_(y:Bf)(xs:List UInt8):Qf:=if y.z then .blk ((y.A.map (·.block)).getD 0) (.cells y.cur.toArray 5 (y.c,y.c+1)) else .row y.A xs.length y.c 5 1 (bv xs)
def Bf.ok(y:Bf)(xs:List UInt8):Prop:=y.z=true->(∃g,y.A=some ⟨g,0,none⟩)/\y.cur.length=y.c/\y.cur.take xs.length=bv xs/\xs.length<=y.c/\y.c<=maxLen
theorem Bf.w_(y:Bf)(xs:List UInt8):(y.at_ xs).w=true:=by
 unfold Bf.at_;split<;>rfl
section
variable {w:World}{xs:List UInt8}{y:Bf}
theorem Bf.rd(h:(y.at_ xs).on w)(hy:y.ok xs):Rd w w.heap.size 1 y.A xs.length (bv xs):=by
 unfold Bf.at_ at h;split at h
 ·next hz=>
  obtain⟨⟨g,hA⟩,hl,ht,hn,hm⟩:=hy hz;have hg:w.heap[g]? =some (.cells y.cur.toArray 5 (y.c,y.c+1)):=by rw[hA] at h;exact h
  refine⟨by rw[QM];omega,fun _=>⟨g,0,hA,(Array.getElem?_eq_some_iff.1 hg).1,fun j u hu=>?_⟩⟩;rw[Nat.zero_add,cell_of_row w g j _ _ _ hg];rw[<- ht,List.getElem?_take] at hu;split at hu
  ·simpa using hu
  ·cases hu
 ·exact Rd.of_own h
theorem Bf.foot(hy:y.ok xs)(h:(y.at_ xs).on w){b:Nat}(hb:(Qf.rd y.A xs.length 1 (bv xs)).foot=some b):(y.at_ xs).foot=some b:=by
 unfold Bf.at_ at h ⊢;split
 ·next hz=>
  obtain⟨⟨g,hA⟩,_⟩:=hy hz;rw[hA] at hb ⊢;simp only[Qf.foot,Option.map_some,Option.getD_some] at hb ⊢;split at hb
  ·cases hb
  ·exact hb
 ·next hz=>
  rw[if_neg hz] at h;exact Q3p h hb
theorem Qll(ty:TypeId){w:World}{g c:Nat}{cur:List Value}{xs:List UInt8}(hg:w.heap[g]? =some (.cells cur.toArray 5 (c,c+1)))(hcl:cur.length=c)(ht:cur.take xs.length=bv xs)(hn:xs.length<=c)(hm:c<=maxLen){B:Nat}(hr:Rd w B 1 A2 m (bv news))(hb:xs.length+m<=140737488355328):
  ∃(q:Bf) (w':World),(Builtin.append_ #[25,25] ty #[.slice (some ⟨g,0,none⟩) xs.length c,.slice A2 m c2]).run Tryz.prog w=.ok (.slice q.A (xs.length+m) q.c) w'/\(q.at_ (xs++news)).on w'/\q.ok (xs++news)/\w.grownBy w' (some g)/\(∀b,(q.at_ (xs++news)).foot=some b->b=g\/w.heap.size<=b):=by
 obtain⟨i,z,hi,hz,hs,hby,hzs⟩:=slB.info;have hnl:news.length=m:=by have:=hr.len;rw[QM] at this;exact this
 have hal:(xs++news).length=xs.length+m:=by rw[List.length_append,hnl]
 rcases A2 with _|ad
 ·have h0:m=0:=by
   rcases Nat.eq_zero_or_pos m with h0|h0
   ·exact h0
   ·obtain⟨b',o',h,_⟩:=hr.2 h0
    cases h
  subst h0;have hnn:news=[]:=List.eq_nil_of_length_eq_zero hnl;subst hnn;refine⟨⟨true,some ⟨g,0,none⟩,c,cur⟩,w,?_,?_,fun _=>⟨⟨g,rfl⟩,hcl,by rw[List.append_nil];exact ht,by rw[List.append_nil];exact hn,hm⟩,Qgt,fun b hb=>.inl ?_⟩
  ·simp [Builtin.append_,run_underlying slB.und,sizeOf,typeInfo,hi,Builtin.lenOf,Builtin.firstCells,hn,storeCells]
  ·show w.heap[g]? =some (.cells cur.toArray 5 (c,c+1))
   exact hg
  ·cases hb;rfl
 ·have hcells:∀j u,(bv news)[j]? =some u->w.cell? (ad.add j)=some u:=by
   intro j u hu;rcases Nat.eq_zero_or_pos m with h0|h0
   ·subst h0;rw[hr.empty] at hu
    cases hu
   ·obtain⟨b',o',h,_,hc⟩:=hr.2 h0
    exact Qh7
  have hbl:(bv news).length=m*i.size:=by rw[hs,QM,hnl,Nat.mul_one]
  by_cases hroom:xs.length+m<=c
  ·have hf:=run_firstCells_some (P:=Tryz.prog) w i.size m ad m c2 (bv news) hbl hcells;have hst:=Q4C (P:=Tryz.prog) g xs.length 5 c (c+1) (bv news) 0 cur.toArray w hg (by rw[QM,hnl];exact hroom) (by rw[QM,hnl,List.size_toArray,hcl];exact hroom) (ZX news)
   simp only[Nat.add_zero] at hst;rw[hs] at hf;refine⟨⟨true,some ⟨g,0,none⟩,c,cur.take xs.length++bv news++cur.drop (xs.length+(bv news).length)⟩,w.setRow g (cur.take xs.length++bv news++cur.drop (xs.length+(bv news).length)).toArray,?_,?_,fun _=>⟨⟨g,rfl⟩,?_,?_,by rw[hal];exact hroom,hm⟩,⟨rfl,rfl,rfl,by simp,fun k _ hk=>setRow_other w g k _ (fun e=>hk (by rw[e]))⟩,fun b hb=>.inl ?_⟩
   ·simp [Builtin.append_,run_underlying slB.und,sizeOf,typeInfo,hi,hs,Builtin.lenOf,hroom,hf,Addr.add_lit,hst]
   ·exact setRow_heap w g cur.toArray _ 5 _ hg
   ·simp only[List.length_append,List.length_take,List.length_drop,QM]
    omega
   ·rw[ht,hal,Y1]
    have e:xs.length+m=(bv xs++bv news).length:=by rw[List.length_append,QM,QM,hnl]
    rw[e];exact List.take_left' rfl
   ·cases hb;rfl
  ·have holds:∀j u,(bv xs)[j]? =some u->w.cell? ((⟨g,0,none⟩:Addr).add j)=some u:=fun j u hu=>by
    have hadd:(⟨g,0,none⟩:Addr).add j=⟨g,j,none⟩:=by unfold Addr.add;split<;>simp_all
    rw[hadd,cell_of_row w g j _ _ _ hg];rw[<- ht,List.getElem?_take] at hu;split at hu
    ·simpa using hu
    ·cases hu
   have hmx:xs.length+m<=maxLen:=by unfold maxLen;omega
   have hrun:=run_append_grow (P:=Tryz.prog) w 25 ty 5 i z slB.und hi hz ⟨g,0,none⟩ xs.length c (bv xs) (by rw[hs,QM,Nat.mul_one]) holds ad m c2 (bv news) hbl hcells Q3 Q3 (growslice_fits Q3 (by rw[hby];omega));have hge:=grownCap_ge w (xs.length+m) c 5;have hcm:grownCap w (xs.length+m) c 5<=maxLen:=grownCap_le_maxLen w (xs.length+m) c 5 hmx;refine⟨⟨false,some ⟨w.heap.size,0,none⟩,grownCap w (xs.length+m) c 5,[]⟩,_,hrun,?_,(by intro h;cases h),⟨rfl,rfl,rfl,by simp,fun k hk _=>heap_alloc_old w.drew _ hk⟩,fun b hb=>.inr ?_⟩
   ·show World.ownsRow _ 0 5 1 (.slice (some ⟨w.heap.size,0,none⟩) (xs++news).length _) (xs++news).length (bv (xs++news))
    rw[hal];refine Y5 (cur:=bv xs++bv news++(Builtin.zeroCells z.cells (grownCap w (xs.length+m) c 5 - (xs.length+m))).toList) ?_ hge hcm ?_ ?_
    ·rw[show (bv xs++bv news++(Builtin.zeroCells z.cells (grownCap w (xs.length+m) c 5 - (xs.length+m))).toList).toArray=(bv xs).toArray++(bv news).toArray++Builtin.zeroCells z.cells (grownCap w (xs.length+m) c 5 - (xs.length+m)) by apply Array.ext';simp [List.append_assoc]];exact heap_alloc_new w.drew _
    ·have hz2:∀K,(Builtin.zeroCells z.cells K).toList.length=K:=fun K=>by rw[Array.length_toList,size_zeroCells,hzs,Nat.mul_one]
     rw[List.length_append,List.length_append,QM,QM,hnl,hz2];show _=grownCap w (xs.length+m) c 5*1;omega
    ·rw[Nat.mul_one,Y1]
     have e:xs.length+m=(bv xs++bv news).length:=by rw[List.length_append,QM,QM,hnl]
     rw[e];exact List.take_left' rfl
   ·cases hb
    exact Nat.le_refl _
end
section
variable {ops:Array Oper}{C:World->Prop}{N:Nat}{E:Env}{o:Oper}{M:List Nat}{W:World}{O:List Qf}
theorem Kn[dq:DQ](i:Nat)(y:Bf){s:Operand}{xs:List UInt8}(ho:o.op=.call { callee:=.builtin .append,args:=#[s,x],argTypes:=#[25,25] })(hw:Qo ops E o=some true)(hs:ev E s=some (.slice y.A xs.length y.c))(hx:ev E x=some (.slice A2 m c2))
  (hO:O[i]? =some (y.at_ xs)) (hy:y.ok xs) (hr:∀w,Wd M W O w->Rd w w.heap.size 1 A2 m (bv news)) (hb:xs.length+m<=140737488355328):
  uE Tryz.prog ops N M W E O o Bf (fun q=>.slice q.A (xs++news).length q.c) (fun q=>O.set i (q.at_ (xs++news))) (fun q=>q.ok (xs++news)):=
 Q00 hw fun ρ w ha hW=>by
  have hrd:=hr w hW;have hnl:news.length=m:=by have:=hrd.len;rw[QM] at this;exact this
  have hal:(xs++news).length=xs.length+m:=by rw[List.length_append,hnl]
  obtain⟨z,A,c,cur⟩:=y;have hon:=hW.own i _ hO;cases z with
  |false=>
   obtain⟨A',c',w',hrun,h2,h3,h4⟩:=Qd7 (P:=Tryz.prog) slB o.type w A xs.length c (bv xs) hon _ A2 m c2 (bv news) hrd (ZX news) (by rw[Nat.mul_one];exact hb);refine⟨⟨false,A',c',[]⟩,w',?_,Q6c,hW.upd hO rfl rfl h3 ?_ ?_⟩
   ·unfold execOp
    simp only[ho,resolve,invoke,builtin,Sem.run_bind,Sem.run_pure,Result.andThen_ok,List.map_toArray,List.map_cons,List.map_nil,ha.eval hs,ha.eval hx,hrun,hal]
   ·show World.ownsRow _ 0 5 1 (.slice A' (xs++news).length c') (xs++news).length (bv (xs++news))
    rw[hal,Y1];exact h2
   ·intro b hb';exact h4 b (by have h:(Value.slice A' (xs++news).length c').ownBlock=some b:=hb';rw[hal] at h;exact h)
  |true=>
   obtain⟨⟨g,hA⟩,hcl,ht,hn,hm⟩:=hy rfl;simp only at hA hcl ht hn hm;subst hA;have hs':ev E s=some (.slice (some ⟨g,0,none⟩) xs.length c):=hs;obtain⟨q,w',hrun,h2,h3,h4,h5⟩:=Qll o.type (w:=w) (g:=g) (c:=c) (c2:=c2) hon hcl ht hn hm hrd hb;refine⟨q,w',?_,h3,hW.upd hO rfl (q.w_ _) h4 h2 (fun b hb'=>(h5 b hb').imp (fun e=>by rw[e];rfl) id)⟩
   ·unfold execOp
    simp only[ho,resolve,invoke,builtin,Sem.run_bind,Sem.run_pure,Result.andThen_ok,List.map_toArray,List.map_cons,List.map_nil,ha.eval hs',ha.eval hx,hrun,hal]
theorem QrZ[dq:DQ]{bs:List UInt8}(ho:o.op=.convert 9 25 x)(hw:Qo ops E o=some true)(hx:ev E x=some (.string ⟨bs.toArray⟩))(hb:bs.length<=1048576):
  uE Tryz.prog ops N M W E O o Bf (fun q=>.slice q.A bs.length q.c) (fun q=>q.at_ bs::O) (fun q=>q.ok bs):=
 Q00 hw fun ρ w ha hW=>by
  have hrun:=Q9e ⟨bs.toArray⟩ w;have hsz:(⟨bs.toArray⟩:ByteArray).size=bs.length:=V9 bs;have hge:bs.length<=YD w ⟨bs.toArray⟩:=by rw[<- hsz];exact grownCap_ge w _ 0 5
  have hmx:YD w ⟨bs.toArray⟩<=maxLen:=grownCap_le_maxLen w _ 0 5 (by rw[hsz];unfold maxLen;omega);have hcs:(bytesRow ⟨bs.toArray⟩ (YD w ⟨bs.toArray⟩)).size=YD w ⟨bs.toArray⟩:=by
   unfold bytesRow;rw[Array.size_append,Array.size_map,Array.size_replicate,hsz];show bs.toArray.size+_=_;rw[List.size_toArray];omega
  refine⟨⟨true,some KV,YD w ⟨bs.toArray⟩,(bytesRow ⟨bs.toArray⟩ (YD w ⟨bs.toArray⟩)).toList⟩,Vm w ⟨bs.toArray⟩,?_,fun _=>⟨⟨_,rfl⟩,by rw[Array.length_toList,hcs],?_,hge,hmx⟩,hW.push (Q2U w _) ?_ (fun b hb'=>?_)⟩
  ·rw[hsz] at hrun
   simp only[execOp,ho,ha.eval hx,hrun,Sem.run_bind,Result.andThen_ok];rfl
  ·unfold bytesRow bv
   rw[Array.toList_append];have e:(Array.map (fun b:UInt8=>Value.int .u8 (b.toNat:Int)) (⟨bs.toArray⟩:ByteArray).data).toList=bs.map fun b=>Value.int .u8 (b.toNat:Int):=by simp
   rw[e];exact List.take_left' (by rw[List.length_map])
  ·show (Vm w ⟨bs.toArray⟩).heap[w.heap.size]? =some (.cells (bytesRow ⟨bs.toArray⟩ (YD w ⟨bs.toArray⟩)).toList.toArray 5 (YD w ⟨bs.toArray⟩,YD w ⟨bs.toArray⟩+1))
   have h:=heap_alloc_new w.drew (.cells (bytesRow ⟨bs.toArray⟩ (YD w ⟨bs.toArray⟩)) 5 ((bytesRow ⟨bs.toArray⟩ (YD w ⟨bs.toArray⟩)).size,(bytesRow ⟨bs.toArray⟩ (YD w ⟨bs.toArray⟩)).size+1));rw[Array.toArray_toList];unfold Vm;rw[hcs] at h ⊢;exact h
  ·cases hb'
   exact Nat.le_refl _
end
end
section
variable {big:Bool}{i m:Nat}{r:Rl}{x:Int}
def nfB(r:Rl)(x:Int):List UInt8:=if XP r x then Z2 r x else []
def NfE(W:World)(r:Rl)(x:Int)(e:Ending)(w':World):Prop:=∃y:Bf,e=.returned (.tuple #[.slice y.A (nfB r x).length y.c,.bool (XP r x)])/\y.ok (nfB r x)/\(y.at_ (nfB r x)).on w'/\(∀b,(y.at_ (nfB r x)).foot=some b->W.heap.size<=b)/\Below W.heap.size W w'
theorem QuA(n:Nat):(Go.madeCells #[.int .u8 0] (n*1)).toList=bv (List.replicate n 0):=by
 rw[Nat.mul_one];unfold bv Go.madeCells;simp only[List.map_replicate];refine List.ext_getElem Qn fun i h1 h2=>?_;simp [Nat.mod_one]
theorem Qjm(l:List UInt8)(k:Nat)(c:UInt8):(bv l).set k (.int .u8 (c.toNat:Int))=bv (l.set k c):=by
 unfold bv;rw[List.map_set]
def kB(big:Bool)(m i:Nat):Nat:=if big then m - 1 - i else i
theorem QoG(h:i<m):kB big m i<m:=by unfold kB;split<;>omega
theorem Qlg(h:i<m):kB big m (kB big m i)=i:=by unfold kB;split<;>omega
section
variable {W w:World}{O:List Qf}{y:Bf}{xs:List UInt8}
theorem Qlv(i:Nat)(hw:Wd [] W O w)(hO:O[i]? =some (y.at_ xs)):∀b,(y.at_ xs).foot=some b->W.heap.size<=b:=fun b hb=>by
 rcases Nat.lt_or_ge b W.heap.size with hl|hl
 ·have h:=hw.new i _ b hO hb hl;rw[if_pos (y.w_ xs)] at h
  cases h
 ·exact hl
theorem QaN{b:List UInt8}(i:Nat)(h:XP r x=true)(hn:nfB r x=b)(hw:Wd [] W O w)(hO:O[i]? =some (y.at_ b))(hy:y.ok b):NfE W r x (.returned (.tuple #[.slice y.A b.length y.c,.bool true])) w:=by
 unfold NfE;rw[hn,h];exact⟨y,rfl,hy,hw.own i _ hO,Qlv i hw hO,hw.k.below⟩
theorem Qt4{w:World}(h:XP r x=false)(hb:Below W.heap.size W w):NfE W r x (.returned (.tuple #[.slice none 0 0,.bool false])) w:=by
 have e:nfB r x=[]:=by unfold nfB;rw[h];rfl
 unfold NfE;rw[e,h];exact⟨⟨false,none,0,[]⟩,rfl,(by intro h;cases h),World.ownsRow_nil _ _ _ _,(fun b hb'=>by cases hb'),hb⟩
theorem Xq{sb sn sp:Value}(hr:JO r):Calls Tryz.prog 88 #[.agg (ruC r sb sn sp).toArray,.int .i64 x] W (NfE W r x):=by
 have hkind:=hr.kind;have hdec:=hr.dec;have hnum:=hr.num;have hst0:=hr.stop;have hmn3:=hr.mn3;have HBAD:=Q2 (fun(w:World) (h:XP r x=false) (hb:Below W.heap.size W w)=>Qt4 (W:=W) (w:=w) h hb);have hc0:XP r x=(decide (r.mn<=x)&&decide (x<=r.mx)):=rfl;have HNF:=Q2 (fun(h:XP r x=true)=>show nfB r x=Z2 r x from if_pos h);obtain⟨P,hP⟩:∃P,NfE W r x=P:=⟨_,rfl⟩;have HP:=Q2 hP;rw[hP];clear hP hr;obtain⟨name,kind,bs,size,big,mn,mx,stop,count,elem,names,parts⟩:=r;simp only at hkind hdec hnum hst0 hc0 hmn3;simp only[ruC];go_enter Tryz.func88,Tryz.ntmps88;refine Qz (M:=[]) (W:=W) (N:=56) (E:=[QrF,(1,.int .i64 x)]) (O:=[]) ?_ mc3 QR;by_cases hlo:x<mn
 ·have hc:XP (⟨name,kind,bs,size,big,mn,mx,stop,count,elem,names,parts⟩:Rl) x=false:=by rw[hc0,decide_eq_false Q3];rfl
  refine yq<|yr ?_;refine yB fun b2=>?_;refine yo zA<|yo zA<|yl<|yn<|yq<|yq<|yr<|yo zM<|yo zF<|yo (zB 0)<|yo zlt<|yo zM<|yo zS<|yo zS<|yo zS<|yo zS<|yo zY<|yl<|yn<|y1<|yq<|yr<|yo zA<|yo zA<|yl<|yn<|yt<|yc ?_;exact Qmv
 by_cases hhi:mx<x
 ·have hc:XP (⟨name,kind,bs,size,big,mn,mx,stop,count,elem,names,parts⟩:Rl) x=false:=by rw[hc0,decide_eq_false (show ¬x<=mx by omega),Bool.and_false]
  refine yq<|yr ?_;refine yB fun b2=>?_;refine yo zA<|yo zA<|yl<|yn<|yq<|yq<|yr<|yo zM<|yo zF<|yo (zB 0)<|yo zlf<|yo zM<|yo zM<|yo zF<|yo (zB 0)<|yo zgt<|yo zN<|yl<|yn<|y1<|yq<|yr<|yo zA<|yo zA<|yl<|yn<|yt<|yc ?_;exact Qmv
 have hc:XP (⟨name,kind,bs,size,big,mn,mx,stop,count,elem,names,parts⟩:Rl) x=true:=by rw[hc0,decide_eq_true Q3,decide_eq_true Q3];rfl
 have HC:=Q2 hc;clear hc0 hc;have hb4:∀z:Nat,z<=4->(256:Int) ^ z<=4294967296:=fun z hz=>by
  rcases (show z=0\/z=1\/z=2\/z=3\/z=4 by omega) with rfl|rfl|rfl|rfl|rfl<;>decide
 have hx0:0<=x:=by
  rcases hkind with h|h
  ·have:=(hnum h).2.2.1;omega
  ·have:=hmn3 h;omega
 have hxm:x<=1000000000000:=by
  rcases hkind with h|h
  ·have a:=hnum h;have:=hb4 size.toNat Q3;omega
  ·have:=(hdec h).2.1;omega
 clear hb4 hmn3;by_cases h3:kind=3
 ·subst h3;have hst:=hst0 rfl;clear hdec hnum hst0 hkind;obtain⟨n,rfl⟩:∃n:Nat,x=(n:Int):=⟨x.toNat,by omega⟩;have hil:=Lib.itoa_length_le (n:Int) Q3 Q3;obtain⟨T,hT⟩:∃T,Lib.itoa (n:Int)=T:=⟨_,rfl⟩;have HT:=Q2 hT;rw[hT] at hil;clear hT;obtain⟨sb',hsb⟩:∃c,ZJ (⟨name,3,bs,size,big,mn,mx,stop,count,elem,names,parts⟩:Rl)=c:=⟨_,rfl⟩
  have hcv:IntKind.u8.wrap stop=(sb'.toNat:Int):=by rw[<- hsb];exact Q1X stop
  have HN:=Q2 (show nfB (Qgl:Rl) (n:Int)=T++[sb'] by rw[HNF.out HC.out,<- hsb,<- HT.out];rfl);clear hsb;refine yq<|yr ?_;refine yB fun b2=>?_;refine yo zA<|yo zA<|yl<|yn<|yq<|yq<|yr<|yo zM<|yo zF<|yo (zB 0)<|yo zlf<|yo zM<|yo zM<|yo zF<|yo (zB 0)<|yo zgf<|yo zN<|yl<|yn<|y0<|ys<|yn<|yq<|yq<|yr<|yo zF<|yo (zB 0)<|yo zet<|yl<|yn<|y1<|yq ?_;refine Xk [.blk b2 Qqo] [] Q5 ?_;refine Qc 0 rfl Q5 Q76 zM ?_;refine Qc 1 rfl Q5 Q76 (Ql rfl rfl Q1 rfl rfl (fun w hw=>(Q1P (n:=n) Q3 w).mono (fun _ _ h=>by rw[HT.out] at h;exact h))) ?_;refine Qc 3 rfl Q5 Q76 zF ?_;refine Qc 4 rfl Q5 Q76 (zB 0) ?_;refine Qc 5 rfl Q5 Q76 Q2b ?_;refine Q6u 2 6 Q5 (Jr rfl rfl (QrZ rfl rfl rfl Q3) (fun _=>.inr JM) rfl Q1 (fun y hy=>?_)) (Jr rfl rfl VE (fun _=>.inr JM) rfl Q1 (fun bn _=>?_))
  ·refine QL 6 Q5 rfl rfl VE Q0g rfl Q1 (fun bn _=>?_);refine QL 7 Q5 rfl rfl (Kn 1 y (news:=[sb']) rfl rfl rfl rfl rfl hy Q84 Q3) Q0g rfl Q1 (fun q hq=>?_);refine Qc 8 rfl Q5 Ve zA ?_;refine Qc 9 rfl Q5 Ve zA ?_;refine X8 ?_ Q5;refine yn<|yt<|yc ?_;exact ZS mc4 rfl (.tmp rfl) (.tmp rfl) (fun w hw=>by rw[<- HP.out];exact QaN 1 HC.out HN.out hw rfl hq)
  ·refine QL 2 Q5 rfl rfl (QrZ rfl rfl rfl Q3) Q0g rfl Q1 (fun y hy=>?_);refine QL 7 Q5 rfl rfl (Kn 0 y (news:=[sb']) rfl rfl rfl rfl rfl hy (fun w hw=>hw.rd_blk 1 rfl rfl) Q3) Q0g rfl Q1 (fun q hq=>?_);refine Qc 8 rfl Q5 Ve zA ?_;refine Qc 9 rfl Q5 Ve zA ?_;refine X8 ?_ Q5;refine yn<|yt<|yc ?_;exact ZS mc4 rfl (.tmp rfl) (.tmp rfl) (fun w hw=>by rw[<- HP.out];exact QaN 0 HC.out HN.out hw rfl hq)
 ·have h2:kind=2:=hkind.resolve_right h3;subst h2;obtain⟨hs1,hs4,hm0,hmm,hmx⟩:=hnum rfl;obtain⟨m,rfl⟩:∃m:Nat,size=(m:Int):=Qeb;have HN:=Q2 (show nfB (⟨name,2,bs,(m:Int),big,mn,mx,stop,count,elem,names,parts⟩:Rl) x=V4 big m x by rw[HNF.out HC.out];rfl)
  have hbg:=fun(i:Nat) (hi:i<m)=>Q6P (big:=big) hx0 hi
  have HBG:=Q2 hbg;have hm4:m<=4:=by omega
  clear hdec hnum hst0 hkind hbg;refine yq<|yr ?_;refine yB fun b2=>?_;refine yo zA<|yo zA<|yl<|yn<|yq<|yq<|yr<|yo zM<|yo zF<|yo (zB 0)<|yo zlf<|yo zM<|yo zM<|yo zF<|yo (zB 0)<|yo zgf<|yo zN<|yl<|yn<|y0<|ys<|yn<|yq<|yq<|yr<|yo zF<|yo (zB 0)<|yo zef<|yl<|yn<|y0<|ys<|yn<|yq<|yr<|yo zF<|yo (zB 0) ?_;refine Qd (Qf0 (n:=m) rfl rfl rfl rfl Q3) rfl Q1 (fun b6 _=>?_);refine Q7f ?_;rw[QuA];have hp0:x / 2 ^ (8*0)=x:=by simp
  refine Xu (ι:=Nat×List UInt8) (fun y=>y.1<=m/\y.2.length=m/\∀j,j<m->kB big m j<y.1->y.2[j]? =(V4 big m x)[j]?) (fun y=>m - y.1) (fun y=>[(1,.int .i64 (x / 2 ^ (8*y.1))),Q1v,(6,.slice Q9x m m),(7,.int .i64 (y.1:Int))]) (fun y=>[.row Q9x m m 5 1 (bv y.2),.blk b2 Qnb]) (0,List.replicate m 0) ⟨Nat.zero_le _,List.length_replicate,fun j _ h=>absurd h (Nat.not_lt_zero _)⟩ (.cons rfl (by rw[hp0]) Jf) Zc ?_;rintro⟨i,L⟩ ⟨hi,hL,hall⟩;replace hi:i<=m:=hi;replace hL:L.length=m:=hL;have HALL:=Q2 hall;clear hall hp0;show sE _ _ _ _ _ [(1,.int .i64 (x / 2 ^ (8*i))),Q1v,(6,.slice Q9x m m),(7,.int .i64 (i:Int))] [.row Q9x m m 5 1 (bv L),.blk b2 Qnb] _;by_cases hin:i<m
  ·have hN0:0<=x / 2 ^ (8*i):=Int.ediv_nonneg hx0 (Int.le_of_lt (Int.pow_pos Q1));have hN1:x / 2 ^ (8*i)<=x:=Int.ediv_le_self _ hx0
   have hnx:x / 2 ^ (8*i) / 256=x / 2 ^ (8*(i+1)):=by
    rw[Int.ediv_ediv_of_nonneg (Int.le_of_lt (Int.pow_pos Q1))];rw[show (2:Int) ^ (8*i)*256=2 ^ (8*(i+1)) by rw[show 8*(i+1)=8*i+8 by omega,Int.pow_add];rfl]
   have hbw:(V4 big m x)[kB big m i]? =some (UInt8.ofNat (x / 2 ^ (8*i) % 256).toNat):=by
    rw[HBG.out _ (QoG hin)];have e:(if big=true then m - 1 - kB big m i else kB big m i)=i:=Qlg hin;rw[e]
   obtain⟨N,hN⟩:∃N,x / 2 ^ (8*i)=N:=⟨_,rfl⟩;rw[hN] at hN0 hN1 hnx hbw ⊢;obtain⟨v,hv⟩:∃v,UInt8.ofNat (N % 256).toNat=v:=⟨_,rfl⟩;have hcv:IntKind.u8.wrap (N % 256)=(v.toNat:Int):=by rw[Q1X,Int.emod_emod,hv]
   rw[hv] at hbw;have HBW:=Q2 hbw;clear hN hv hbw;have hfin:∀j,j<m->kB big m j<i+1->(L.set (kB big m i) v)[j]? =(V4 big m x)[j]?:=fun j hj hk=>by
    by_cases e:kB big m j=i
    ·have e2:j=kB big m i:=by rw[<- e,Qlg hj]
     rw[e2,List.getElem?_set_self (by rw[hL];exact QoG hin),HBW.out]
    ·have e2:kB big m i≠j:=fun h=>e (by rw[<- h,Qlg hin])
     rw[List.getElem?_set_ne e2];exact HALL.out j hj Q3
   have HFIN:=Q2 hfin;clear hfin;cases big with
   |true=>
    have hk:kB true m i=m - 1 - i:=rfl;rw[hk] at HFIN;have hw3:IntKind.i64.wrap ((m:Int) - 1 - (i:Int))=((m - 1 - i:Nat):Int):=by rw[show (m:Int) - 1 - (i:Int)=((m - 1 - i:Nat):Int) by omega];exact Q1E
    refine yq<|yq<|yr<|yo zM<|yo zF<|yo (zB 1)<|yo zlt<|yl<|yn<|y1<|ys<|yn<|yq<|yb<|yq<|yr<|yo zM<|yo zA<|yl<|yn<|yq<|yq<|yr<|yo zF<|yo (zB 1)<|yl<|yn<|y1<|yr<|yo zF<|yo (zB 1)<|yo zQ<|yo zM ?_;refine Q4 (QrE (k:=.i64) rfl rfl Q1 rfl rfl rfl hw3) ?_;refine yo zA<|yl<|yn<|yq<|yr<|yo zM<|yo zM<|yo zM ?_;refine Q4 QmB ?_;refine Q4 Q2b ?_;refine yo (zi1 (j:=m - 1 - i)) ?_;refine QD (Z3 0 rfl rfl rfl rfl rfl rfl Q3) rfl (fun _ _=>?_);refine QoM ?_
    refine Qx (i+1,L.set (m - 1 - i) v) Qkb (by show m - (i+1)<m - i;omega) mc2 (fun w hw=>by
     show Wd [] W [.row (some ⟨b6,0,none⟩) m m 5 1 (bv (L.set (m - 1 - i) v)),_] w
     rw[<- Qjm]
     simp only[Nat.zero_add,Nat.mul_one] at hw
     exact hw)
   |false=>
    have hk:kB false m i=i:=rfl;rw[hk] at HFIN;refine yq<|yq<|yr<|yo zM<|yo zF<|yo (zB 1)<|yo zlt<|yl<|yn<|y1<|ys<|yn<|yq<|yb<|yq<|yr<|yo zM<|yo zA<|yl<|yn<|yq<|yq<|yr<|yo zF<|yo (zB 1)<|yl<|yn<|y0<|ys<|yn<|yq<|yr<|yo zM<|yo zM<|yo zM ?_;refine Q4 QmB ?_;refine Q4 Q2b ?_;refine yo (zi1 (j:=i)) ?_;refine QD (Z3 0 rfl rfl rfl rfl rfl rfl Q3) rfl (fun _ _=>?_);refine QoM ?_
    refine Qx (i+1,L.set i v) Qkb (by show m - (i+1)<m - i;omega) mc2 (fun w hw=>by
     show Wd [] W [.row (some ⟨b6,0,none⟩) m m 5 1 (bv (L.set i v)),_] w
     rw[<- Qjm]
     simp only[Nat.zero_add,Nat.mul_one] at hw
     exact hw)
  ·have him:i=m:=by omega
   subst him;have hLb:L=V4 big i x:=by
    refine List.ext_getElem? fun j=>?_;by_cases hj:j<i
    ·exact HALL.out j hj (QoG hj)
    ·rw[List.getElem?_eq_none Q3,List.getElem?_eq_none (by rw[Q2k];omega)]
   subst hL;refine yq<|yq<|yr<|yo zM<|yo zF<|yo (zB 1)<|yo zlf<|yl<|yn<|y0<|ye<|yn<|yq<|yr<|yo zM<|yo zA<|yo zA<|yl<|yn<|yt ?_
   exact ZS mc4 rfl (.tmp rfl) (.tmp rfl) (fun w hw=>by
    rw[<- HP.out]
    exact QaN (y:=⟨false,some ⟨b6,0,none⟩,L.length,[]⟩) (b:=L) 0 HC.out (by rw[HN.out,<- hLb]) hw rfl Q6c)
end
end
structure Fy where
 b:List UInt8
 m:Nat
 A:Option Addr
 c:Nat
def foV:Except Nat Fy->Value
 |.error x=>.tuple #[.slice none 0 0,.int .i64 0,.int .i64 (x:Int)]
 |.ok y=>.tuple #[.slice y.A y.b.length y.c,.int .i64 (y.m:Int),.int .i64 (-1)]
def foG(O:List Qf):Except Nat Fy->List Qf
 |.error _=>O
 |.ok y=>O++[.rd y.A y.b.length 1 (bv y.b)]
def foP(res:Wtg)(n cost:Nat):Except Nat Fy->Prop
 |.error x=>res=.error x
 |.ok y=>res=.ok (y.b,y.m)/\y.b.length<=cost/\y.m<=n+cost
def FoE(W:World)(res:Wtg)(n cost:Nat)(e:Ending)(w':World):Prop:=Below W.heap.size W w'/\((∃x:Nat,res=.error x/\e=.returned (.tuple #[.slice none 0 0,.int .i64 0,.int .i64 (x:Int)]))\/∃(b:List UInt8) (m:Nat) (A:Option Addr) (c:Nat),res=.ok (b,m)/\e=.returned (.tuple #[.slice A b.length c,.int .i64 (m:Int),.int .i64 (-1)])/\New [.rd A b.length 1 (bv b)] W.heap.size w'/\b.length<=cost/\m<=n+cost)
section
variable {W w w':World}{O O':List Qf}{M:List Nat}{e:Ending}{res RES:Wtg}{n cost m:Nat}{y:Bf}{b xs:List UInt8}
theorem QmT(hw:Wd M W O w)(h:FoE w res n cost e w'):X7 foV (foP res n cost) M W (foG O) e w':=by
 obtain⟨hb,⟨x,h1,h2⟩|⟨b,m,A,c,h1,h2,h3,h4,h5⟩⟩:=h
 ·exact⟨.error x,h2,h1,by have:=hw.made hb (New.nil w.heap.size w');rwa [List.append_nil] at this⟩
 ·exact⟨.ok ⟨b,m,A,c⟩,h2,⟨h1,h4,h5⟩,hw.made hb h3⟩
theorem Q3h{x:Nat}(h:RES=.error x)(hb:Below W.heap.size W w):FoE W RES n cost (.returned (.tuple #[.slice none 0 0,.int .i64 0,.int .i64 (x:Int)])) w:=⟨hb,.inl ⟨x,h,rfl⟩⟩
theorem Qgk(i:Nat)(hw:Wd [] W O w)(hO:O[i]? =some (y.at_ b))(hy:y.ok b)(h:RES=.ok (b,m))(hb:b.length<=cost)(hm:m<=n+cost):FoE W RES n cost (.returned (.tuple #[.slice y.A b.length y.c,.int .i64 (m:Int),.int .i64 (-1)])) w:=
 ⟨hw.k.below,.inr ⟨b,m,y.A,y.c,h,rfl,Yr (Bf.rd Q5a hy) (fun b' hb'=>Qlv i hw hO b' (Bf.foot hy Q5a hb')),hb,hm⟩⟩
theorem QgR(hw:Wd M W O w)(h:JK w xs e w'):X7 (fun y:Bf=>.slice y.A xs.length y.c) (fun y=>y.ok xs) M W (fun y=>y.at_ xs::O) e w':=by
 obtain⟨A,c,he,hown,hb⟩:=h;refine⟨⟨false,A,c,[]⟩,he,Q6c,hw.push hb ?_ (fun b hb'=>?_)⟩
 ·rcases hown with ⟨hl,hv|⟨g,cap,cur,hv,hg0,r⟩⟩
  ·exact⟨hl,.inl hv⟩
  ·exact⟨hl,.inr ⟨g,cap,cur,hv,Nat.zero_le _,r⟩⟩
 ·have h:(Value.slice A xs.length c).ownBlock=some b:=hb';exact(hown.lt b h).1
theorem Q5f{r:Rl}{x:Int}{b:Bool}{X:List UInt8}(hw:Wd M W O w)(hb:XP r x=b)(hX:nfB r x=X)(h:NfE w r x e w'):X7 (fun y:Bf=>.tuple #[.slice y.A X.length y.c,.bool b]) (fun y=>y.ok X) M W (fun y=>y.at_ X::O) e w':=by
 obtain⟨y,he,hy,hon,hf,hbl⟩:=h;rw[hX] at he hy hon hf;rw[hb] at he;exact⟨y,he,hy,hw.push hbl hon hf⟩
end
section
variable {P:Program}{Q:Exit->Act->World->Prop}{N:Nat}{M:List Nat}{W:World}{E E':Env}{O O':List Qf}
theorem Vv[dq:DQ]{c:Code}(hE:Q7h E E')(f:∀w,Wd M W O w->Wd M W O' w)(h:sE P Q N M W E' O' c):sE P Q N M W E O c:=fun a w ha hw=>h a w (hE.ag ha) (f w hw)
end
noncomputable def Q6E:Code:=match Tryz.f49.body with
 |some (.seq _ (.seq _ (.seq _ (.seq _ (.seq _ (.seq _ (.seq _ (.seq _ (.seq _ (.seq _ (.seq _ (.seq _ x))))))))))))=>x
 |_=>.skip
section
variable {W:World}{n C:Nat}{RES:Wtg}{y:Bf}{B:List UInt8}{b6 b11:Nat}
theorem Qhc{name:List UInt8}{kind size mn mx stop count elem:Int}{big:Bool}{sb sn sp vb vn:Value}{Apv:Option Addr}{cpv:Nat}{vk vx:Int}(hkd:¬kind=6/\¬kind=7/\¬kind=8/\¬kind=9)(hy:y.ok B)(hres:RES=.ok (B,n+1))(hB:B.length<=C)(hC:1<=C)(hn:n+C<=1099511627776):
  sE Tryz.prog (bodyPost Tryz.prog Tryz.f49 (FoE W RES n C)) 359 [] W [(3,.int .i64 (n:Int)),(6,.pointer (some ⟨b6,0,none⟩)),(11,.pointer (some ⟨b11,0,none⟩)),(13,.slice y.A B.length y.c),(14,.slice none 0 0)] [y.at_ B,.blk b11 (.cells ([.string ⟨name.toArray⟩,.int .i64 kind,sb,.int .i64 size,.bool big,.int .i64 mn,.int .i64 mx,.int .i64 stop,.int .i64 count,.int .i64 elem,sn,sp]:List Value).toArray 65 (0,0)),.blk b6 (.cells ([.int .i64 vk,.int .i64 vx,vb,vn,.slice Apv 0 cpv]:List Value).toArray 30 (0,0))] Q6E:=by
 obtain⟨h6,h7,h8,h9⟩:=hkd;have HR:=Q2 hres;clear hres;refine yq<|yr<|yo zM<|yo zP<|yo zA<|yl<|yn<|yq<|yr<|yo zA<|yl<|yn<|yq<|yq<|yr<|yo zF<|yo (zB 1)<|yo zef<|yl<|yn<|y0<|ys<|yn<|yq<|yq<|yr<|yo zM<|yo zA<|yl<|yn<|yb ?_;refine QK (ι:=Unit) (fun _=>True) (fun _=>0) (fun _=>[(6,.pointer (some ⟨b6,0,none⟩)),(11,.pointer (some ⟨b11,0,none⟩)),(13,.slice y.A B.length y.c),(14,.slice none 0 0),(19,.int .i64 ((n+1:Nat):Int)),(20,.int .i64 0),(21,.int .i64 0)]) (fun _=>[y.at_ B,.blk b11 (.cells ([.string ⟨name.toArray⟩,.int .i64 kind,sb,.int .i64 size,.bool big,.int .i64 mn,.int .i64 mx,.int .i64 stop,.int .i64 count,.int .i64 elem,sn,sp]:List Value).toArray 65 (0,0)),.blk b6 (.cells ([.int .i64 vk,.int .i64 vx,vb,vn,.slice Apv 0 cpv]:List Value).toArray 30 (0,0))]) () [0,1,2] Q1 trivial (.cons rfl rfl (.cons rfl rfl (.cons rfl rfl (.cons rfl rfl (.cons rfl (by go_num) (.cons rfl rfl (.cons rfl rfl .nil))))))) rfl ?_;rintro⟨⟩ -
 show sE _ _ _ _ _ [JI,Y6,QfG,KK,Q44,(20,.int .i64 0),(21,.int .i64 0)] [y.at_ B,.blk b11 Q3Q,.blk b6 (.cells ([.int .i64 vk,.int .i64 vx,vb,vn,.slice Apv 0 cpv]:List Value).toArray 30 (0,0))] _;refine yq<|yq<|yr<|yo zM<|yo zF<|yo (zB 2)<|yo zL<|yo zlf<|yl<|yn<|y0<|ye<|yn<|yq<|yq<|yr<|yo zF<|yo (zB 1)<|yo zef<|yl<|yn<|y0<|ys<|yn<|yq<|yq<|yr<|yo zA<|yl<|yn<|yb ?_;refine QK (ι:=Unit) Qd6 (fun _=>0) (fun _=>[Y6,QfG,KK,Q44,(27,.int .i64 0)]) (fun _=>[y.at_ B,.blk b11 Q3Q]) () [0,1] Q1 trivial Vg rfl ?_;rintro⟨⟩ -
 show sE _ _ _ _ _ [Y6,QfG,KK,Q44,(27,.int .i64 0)] [y.at_ B,.blk b11 Q3Q] _;refine yq<|yq<|yr<|yo zM<|yo zM<|yo zL<|yo zlf<|yl<|yn<|y0<|ye<|yn<|yq<|yq<|yr<|yo zF<|yo (zB 1)<|yo zef<|yl<|yn<|y0<|ys<|yn<|yq<|yr<|yo zM<|yo zM<|yo zA<|yo zA<|yo zA<|yl<|yn<|yt ?_;exact ZU mc4 rfl (.tmp rfl) (.tmp rfl) (.tmp rfl) (fun w hw=>Qgk 0 hw rfl hy HR.out hB Q3)
end
def FoC(F:List Rl)(d:Nd)(p:VF):Prop:=QJ d p.len=0->Vk p->XI d->XD p->p.len<=1048576->∀(W:World) (Af:Option Addr) (nn cf n:Nat) (k:Int) (v:Value),0<=k/\k<F.length->QS W W.heap.size Af nn F->VIn W W.heap.size v d p->n+Qy d p<=1099511627776->
 Calls Tryz.prog 49 #[.agg #[.slice Af nn cf],.int .i64 k,v,.int .i64 (n:Int)] W (FoE W (Qs F k d p n) n (Qy d p))
noncomputable def Qvk:Code:=match Q6E with
 |.seq _ (.seq _ (.seq _ (.seq _ (.seq _ x))))=>x
 |_=>.skip
structure Gx where
 i:Nat
 l:VF
 cur:List UInt8
 m:Nat
 y:Bf
theorem Quj{L i:Nat}{e:Int}(h:i<L):(iv (List.replicate L e))[i]? =some (.int .i64 e):=by
 unfold iv;rw[List.getElem?_map,List.getElem?_replicate,if_pos h];rfl
section
variable {W:World}{n C L frm cr cf nn pl cpv b4 b6 b11 m0:Nat}{RES:Wtg}{y0:Bf}{cur0 suf:List UInt8}{F:List Rl}{l0:VF}{e:Int}{Ar Af Apv:Option Addr}
theorem QsV{name:List UInt8}{kind size mn mx stop count elem:Int}{big:Bool}{sb sn sp vb vn:Value}{vk vx:Int}{sB:UInt8}(hall:VF.All (FoC F) l0)(hgl:Vk l0)(hfl:XD l0)(hfm:QS W W.heap.size Af nn F)(he:0<=e/\e<F.length)(hch:0<l0.len->∃b o,Apv=some ⟨b,o,none⟩/\b<W.heap.size/\FIn W W.heap.size l0 b (o+frm*5))(hpl:pl=frm+L)(hl:l0.len=L)(hL:L<=1048576)(hfrm:frm<=1)(hy0:y0.ok cur0)(hres:RES=apW cur0 (bnW (Vq F e l0 m0) fun m=>.ok (suf,m)))(hk9:(kind=9/\suf=[sB]/\IntKind.u8.wrap stop=(sB.toNat:Int))\/(¬kind=9/\suf=[]))(hsz:cur0.length+Qv l0+suf.length<=C)(hm:m0+Qv l0<=n+C)(hno:n+C<=1099511627776):
  sE Tryz.prog (bodyPost Tryz.prog Tryz.f49 (FoE W RES n C)) 359 [] W [(4,.pointer (some ⟨b4,0,none⟩)),(6,.pointer (some ⟨b6,0,none⟩)),(11,.pointer (some ⟨b11,0,none⟩)),(13,.slice y0.A cur0.length y0.c),(14,.slice Ar L cr),(19,.int .i64 (m0:Int)),(20,.int .i64 (frm:Int))] [y0.at_ cur0,.row Ar L cr 3 1 (iv (List.replicate L e)),.blk b11 (.cells ([.string ⟨name.toArray⟩,.int .i64 kind,sb,.int .i64 size,.bool big,.int .i64 mn,.int .i64 mx,.int .i64 stop,.int .i64 count,.int .i64 elem,sn,sp]:List Value).toArray 65 (0,0)),.blk b6 (.cells ([.int .i64 vk,.int .i64 vx,vb,vn,.slice Apv pl cpv]:List Value).toArray 30 (0,0)),.blk b4 (.cells ([.slice Af nn cf]:List Value).toArray 24 (0,0))] Qvk:=by
 have HFM:=Q2 hfm;have HS9:=Q2 hk9;have HR0:=Q2 hres;have HA0:=Q2 hall;have HG0:=Q2 hgl;have HF0:=Q2 hfl;have HC0:=Q2 hch;obtain⟨C0,hC0⟩:∃x,Qv l0=x:=⟨_,rfl⟩;have hsz0:cur0.length+C0+suf.length<=C:=by omega
 have hm0:m0+C0<=n+C:=by omega
 have hsl:suf.length<=1:=by rcases hk9 with ⟨_,rfl,_⟩|⟨_,rfl⟩<;>simp
 have HCF:=Q2 hC0;clear hfm hk9 hres hall hgl hfl hch hsz hm hC0;refine Qa (Qa (Q6 ?_));refine Zm ?_;refine Qb (Qi ?_);refine QK (ι:=Gx) (fun g=>VF.All (FoC F) g.l/\Vk g.l/\XD g.l/\(0<g.l.len->∃b o,Apv=some ⟨b,o,none⟩/\b<W.heap.size/\FIn W W.heap.size g.l b (o+(frm+g.i)*5))/\g.i+g.l.len=L/\g.y.ok g.cur/\RES=apW g.cur (bnW (Vq F e g.l g.m) fun m=>.ok (suf,m))/\g.cur.length+Qv g.l+suf.length<=C/\g.m+Qv g.l<=n+C) (fun g=>L - g.i) (fun g=>[(4,.pointer (some ⟨b4,0,none⟩)),(6,.pointer (some ⟨b6,0,none⟩)),(11,.pointer (some ⟨b11,0,none⟩)),(13,.slice g.y.A g.cur.length g.y.c),(14,.slice Ar L cr),(19,.int .i64 (g.m:Int)),(20,.int .i64 (frm:Int)),(27,.int .i64 (g.i:Int))]) (fun g=>[g.y.at_ g.cur,.row Ar L cr 3 1 (iv (List.replicate L e)),.blk b11 (.cells ([.string Q0u,.int .i64 kind,sb,.int .i64 size,.bool big,.int .i64 mn,.int .i64 mx,.int .i64 stop,.int .i64 count,.int .i64 elem,sn,sp]:List Value).toArray 65 (0,0)),.blk b6 (.cells ([.int .i64 vk,.int .i64 vx,vb,vn,.slice Apv pl cpv]:List Value).toArray 30 (0,0)),.blk b4 (.cells ([.slice Af nn cf]:List Value).toArray 24 (0,0))]) ⟨0,l0,cur0,m0,y0⟩ [0,1,2,3,4] Q1 ⟨HA0.out,HG0.out,HF0.out,HC0.out,by show 0+l0.len=L;omega,hy0,HR0.out,by show cur0.length+Qv l0+suf.length<=C;rw[HCF.out];exact hsz0,by show m0+Qv l0<=n+C;rw[HCF.out];exact hm0⟩ (.cons rfl rfl KW) rfl ?_;clear HA0 HG0 HF0 HC0 HR0 HCF hsz0 hm0 hy0 hl;rintro⟨i,l,cur,m,y⟩ ⟨hall,hgl,hfl,hch,hil,hy,hres,hsz,hm⟩;replace hil:i+l.len=L:=hil;replace hsz:cur.length+Qv l+suf.length<=C:=hsz;replace hm:m+Qv l<=n+C:=hm;replace hy:y.ok cur:=hy;have HR:=Q2 (show RES=apW cur (bnW (Vq F e l m) fun m=>.ok (suf,m)) from hres);have HAL:=Q2 (show VF.All (FoC F) l from hall);have HGL:=Q2 (show Vk l from hgl);have HFL:=Q2 (show XD l from hfl);have HCL:=Q2 (show 0<l.len->∃b o,Apv=some ⟨b,o,none⟩/\b<W.heap.size/\FIn W W.heap.size l b (o+(frm+i)*5) from hch);clear hall hgl hfl hch hres;show sE _ _ _ _ _ [(4,.pointer (some ⟨b4,0,none⟩)),(6,.pointer (some ⟨b6,0,none⟩)),(11,.pointer (some ⟨b11,0,none⟩)),(13,.slice y.A cur.length y.c),(14,.slice Ar L cr),(19,.int .i64 (m:Int)),(20,.int .i64 (frm:Int)),(27,.int .i64 (i:Int))] [y.at_ cur,.row Ar L cr 3 1 (iv (List.replicate L e)),.blk b11 (.cells ([.string Q0u,.int .i64 kind,sb,.int .i64 size,.bool big,.int .i64 mn,.int .i64 mx,.int .i64 stop,.int .i64 count,.int .i64 elem,sn,sp]:List Value).toArray 65 (0,0)),.blk b6 (.cells ([.int .i64 vk,.int .i64 vx,vb,vn,.slice Apv pl cpv]:List Value).toArray 30 (0,0)),.blk b4 (.cells ([.slice Af nn cf]:List Value).toArray 24 (0,0))] _;cases l with
 |nil=>
  have hiL:i=L:=hil;have HZ:=Q2 (show RES=.ok (cur++suf,m) from HR.out.trans (by show apW cur (apW [] (.ok (suf,m)))=_;rw[ZG];rfl));simp only[Qv] at hsz hm;have hcl:(cur++suf).length<=C:=by rw[List.length_append];omega
  clear HR HAL HGL HFL HCL;rcases HS9.out with ⟨rfl,rfl,hcv⟩|⟨hk9,rfl⟩
  ·refine Qa (Qa (Q6 ?_));refine Q0b ?_;refine Q4 zL ?_;refine Q4 zlf ?_;refine Qg ?_;refine Qb (Q8 rfl (Xx (Qb (Qa (Qa (Q6 ?_))))));refine KA ?_;refine Q4 zet ?_;refine Qg ?_;refine Qb (Q9 rfl (Q6 ?_));refine Q4 zM ?_;refine KA ?_;refine Q4 Q2b ?_;refine Qd VE rfl Q1 (fun bn _=>?_);refine Qd Qjh rfl Q1 (fun y2 hy2=>?_);refine Zm ?_;refine Qb (Qa (Q6 ?_));refine Q0b ?_;refine Qbs ?_;refine Zm ?_;refine Qb (QC ?_);exact ZU mc4 rfl (.tmp rfl) (.tmp rfl) (.tmp rfl) (fun w hw=>Qgk 1 hw rfl hy2 HZ.out hcl Q3)
  ·rw[List.append_nil] at HZ hcl;refine Qa (Qa (Q6 ?_));refine Q0b ?_;refine Q4 zL ?_;refine Q4 zlf ?_;refine Qg ?_;refine Qb (Q8 rfl (Xx (Qb (Qa (Qa (Q6 ?_))))));refine KA ?_;refine Q4 zef ?_;refine Qg ?_;refine Qb (Q8 rfl (Qp (Qb (Qa (Q6 ?_)))));refine Q0b ?_;refine Qbs ?_;refine Zm ?_;refine Qb (QC ?_);exact ZU mc4 rfl (.tmp rfl) (.tmp rfl) (.tmp rfl) (fun w hw=>Qgk 0 hw rfl hy HZ.out hcl Q3)
 |cons d p r=>
  have hilt:i<L:=by simp only[VF.len] at hil;omega
  obtain⟨b,o,rfl,hb,⟨zb,zn,zp,hc5,hd5⟩,hrest⟩:=HCL.out Q3w;have HV:=Q2 (show VIn W W.heap.size (.agg #[.int .i64 d.k,.int .i64 d.n,zb,zn,zp]) d p from ⟨zb,zn,zp,rfl,hd5⟩);obtain⟨_,_,_,_,_,_,_,_,rfl,rfl,rfl,_⟩:=hd5;have hrg:=hc5.range;have HRS:=Q2 hrest;clear hc5 hrest;simp only[Qv] at hsz hm;have hno1:m+Qy d p<=1099511627776:=by unfold Qy;omega
  have hrl:=Quj (e:=e) hilt;have hfi:frm+i<pl:=by omega
  have hw3:IntKind.i64.wrap ((frm:Int)+(i:Int))=((frm+i:Nat):Int):=IntWalk.i64_in _ Q3;refine Q2L 1 rfl Q3 (fun br er=>?_);subst er;refine Qa (Qa (Q6 ?_));refine Q0b ?_;refine Q4 zL ?_;refine YF ?_;refine Qb (Q9 rfl (Qp (Qb (Qa (Qi (Qa ?_))))));refine Xk [.row (some ⟨br,0,none⟩) L cr 3 1 (iv (List.replicate L e)),.blk b6 (.cells ([.int .i64 vk,.int .i64 vx,vb,vn,.slice (some ⟨b,o,none⟩) pl cpv]:List Value).toArray 30 (0,0)),.blk b4 (.cells ([.slice Af nn cf]:List Value).toArray 24 (0,0))] [] Q5 ?_;refine Qc 0 rfl Q5 Zf (zD 2) ?_;refine Qc 1 rfl Q5 Zf zM ?_;refine Qc 2 rfl Q5 Zf zM ?_;refine Qc 3 rfl Q5 Zf (zi1 (j:=i) (hj:=hilt)) ?_;refine Qc 4 rfl Q5 Zf (Xz rfl rfl Q1 rfl rfl (fun w hw=>by rw[Nat.zero_add];exact hw.cell_row 0 rfl hrl)) ?_;refine Qc 5 rfl Q5 Zf zF ?_;refine Qc 6 rfl Q5 Zf (zB 1) ?_;refine Qc 7 rfl Q5 Zf zM ?_;refine Qc 8 rfl Q5 Zf zM ?_;refine Qc 9 rfl Q5 Zf (Qhf (k:=.i64) rfl rfl Q1 rfl rfl rfl hw3) ?_;refine Qc 10 rfl Q5 Zf (Xc (j:=frm+i) rfl rfl Q1 rfl rfl rfl hfi) ?_;refine Qc 11 rfl Q5 Zf (X4 rfl rfl Q1 rfl rfl (fun w hw=>hw.range_old hrg Qn) rfl) ?_;refine Qc 12 rfl Q5 Zf zM ?_;refine QL 13 Q5 rfl rfl (QY _ _ _ rfl rfl rfl (fun w hw=>(HAL.out.1 HGL.out.1 HGL.out.2.1 HFL.out.1 HFL.out.2.2.1 HFL.out.2.1 w Af nn cf m e _ he ((HFM.out.below hw.k.below).more hw.k.size) Q78 hno1).mono (fun e w' h=>QmT hw h))) (fun q=>.inr (by cases q<;>exact Qm.sel [1,3,4] Q1 rfl)) rfl Q1 (fun q hq=>?_);cases q with
  |error x=>
   have HX:=Q2 (show RES=.error x from HR.out.trans (by show apW cur (bnW (bnW (Qs F e d p m) _) _)=_;rw[show Qs F e d p m=.error x from hq];rfl));refine Qnt ?_;refine X8 ?_ Q5;refine Qb (Qa (Qa (Q6 ?_)));refine Q4 zM ?_;refine Q4 zht ?_;refine Qg ?_;refine Qb (Q9 rfl (Qa (Q6 ?_)));refine Q4 zM ?_;refine Qbs ?_;refine Zm ?_;refine Qb (QC (Qk (Qu (Qk (Qk (Qu (Qk ?_)))))));exact ZU mc4 rfl (.tmp rfl) (.tmp rfl) (.tmp rfl) (fun w hw=>Q3h HX.out hw.k.below)
  |ok q=>
   obtain⟨ub,um,uA,uc⟩:=q;obtain⟨hq1,hq2,hq3⟩:=hq;replace hq1:Qs F e d p m=.ok (ub,um):=hq1;replace hq2:ub.length<=Qy d p:=hq2;replace hq3:um<=m+Qy d p:=hq3;have HN:=Q2 (show RES=apW (cur++ub) (bnW (Vq F e r um) fun m=>.ok (suf,m)) from HR.out.trans (by show apW cur (bnW (bnW (Qs F e d p m) _) _)=_;rw[hq1,Q9U,<- QgC,Yu]));clear hq1;unfold Qy at hq2 hq3;have hcl:(cur++ub).length+Qv r+suf.length<=C:=by rw[List.length_append];omega
   refine Qnt ?_;refine X8 ?_ Q5;refine Qb (Qa (Qa (Q6 ?_)));refine Q4 zM ?_;refine Q4 zhf ?_;refine Qg ?_;refine Qb (Q8 rfl (Qp (Qb (Qa (Q6 ?_)))));refine Q0b ?_;refine Qd (Kn 0 y (A2:=uA) (m:=ub.length) (c2:=uc) (news:=ub) rfl rfl rfl rfl rfl hy (fun w hw=>hw.own 5 _ rfl) Q3) rfl Q1 (fun y2 hy2=>?_);refine Zm ?_;refine Qb (Q6 ?_);refine Q34 ?_;refine Qb (Q6 ?_);refine YH ?_;exact Qt ⟨i+1,r,cur++ub,um,y2⟩ [0,1,2,3,4] Q1 ⟨HAL.out.2,HGL.out.2.2,HFL.out.2.2.2,fun _=>⟨b,o,rfl,hb,by show FIn W W.heap.size r b (o+(frm+(i+1))*5);rw[show o+(frm+(i+1))*5=o+(frm+i)*5+5 by omega];exact HRS.out⟩,by show i+1+r.len=L;simp only[VF.len] at hil;omega,hy2,HN.out,hcl,by show um+Qv r<=n+C;omega⟩ (by show L - (i+1)<L - i;omega) Q7r rfl
end
section
variable {big:Bool}{count elem mn mx size stop vk vx:Int}{name:List UInt8}{sb sn vb vn:Value}
theorem Qbp{i:Nat}{e:Int}:iv (List.replicate (i+1) e)=iv (List.replicate i e)++[.int .i64 e]:=by
 unfold iv;rw[List.replicate_succ',List.map_append];rfl
section
variable {W:World}{n C cf nn pl cpv b4 b6 b11:Nat}{RES:Wtg}{y0:Bf}{cur0 suf:List UInt8}{F:List Rl}{l0:VF}{Af Apv:Option Addr}
theorem QkC{kind:Int}{sp:Value}{sB:UInt8}(hall:VF.All (FoC F) l0)(hgl:Vk l0)(hfl:XD l0)(hfm:QS W W.heap.size Af nn F)(he:0<=elem/\elem<F.length)(hch:0<l0.len->∃b o,Apv=some ⟨b,o,none⟩/\b<W.heap.size/\FIn W W.heap.size l0 b o)(hl:l0.len=pl)(hL:pl<=1048576)(hy0:y0.ok cur0)(hres:RES=apW cur0 (bnW (Vq F elem l0 (n+1)) fun m=>.ok (suf,m)))(hk9:(kind=9/\suf=[sB]/\IntKind.u8.wrap stop=(sB.toNat:Int))\/(¬kind=9/\suf=[]))(hkd:kind=6\/kind=9)(hsz:cur0.length+Qv l0+suf.length<=C)(hm:n+1+Qv l0<=n+C)(hno:n+C<=1099511627776):
  sE Tryz.prog (bodyPost Tryz.prog Tryz.f49 (FoE W RES n C)) 359 [] W [(3,.int .i64 (n:Int)),(4,.pointer (some ⟨b4,0,none⟩)),(6,.pointer (some ⟨b6,0,none⟩)),(11,.pointer (some ⟨b11,0,none⟩)),(13,.slice y0.A cur0.length y0.c),(14,.slice none 0 0)] [y0.at_ cur0,.blk b11 (.cells ([.string ⟨name.toArray⟩,.int .i64 kind,sb,.int .i64 size,.bool big,.int .i64 mn,.int .i64 mx,.int .i64 stop,.int .i64 count,.int .i64 elem,sn,sp]:List Value).toArray 65 (0,0)),.blk b6 (.cells ([.int .i64 vk,.int .i64 vx,vb,vn,.slice Apv pl cpv]:List Value).toArray 30 (0,0)),.blk b4 (.cells ([.slice Af nn cf]:List Value).toArray 24 (0,0))] Q6E:=by
 have H:=Qlf;have HC:=Q2 hch;have HR:=Q2 hres;have HL:=Q2 hl;have HSM:=Q2 (And.intro hsz hm);clear hall hgl hfl hfm hch hres hl hsz hm;refine Qa (Q6 ?_);refine YH ?_;refine Qb (Qa (Q6 ?_));refine Zm ?_;refine Qb (Qa (Qa (Q6 ?_)));refine Q4 zF ?_;refine Q4 (zB 1) ?_;refine Q4 zef ?_;refine Qg ?_;refine Qb (Q8 rfl (Qp (Qb (Qa (Qa (Q6 ?_))))));refine Q34 ?_;refine Qb (Qi ?_);refine Q16 3 1 ?_;refine QK (ι:=Nat×Option Addr×Nat) (fun z=>z.1<=pl) (fun z=>pl - z.1) (fun z=>[Q0C,JI,Y6,Q4d,(14,.slice z.2.1 z.1 z.2.2),Q44,Qf5,(21,.int .i64 (z.1:Int))]) (fun z=>[y0.at_ cur0,.row z.2.1 z.1 z.2.2 3 1 (iv (List.replicate z.1 elem)),.blk b11 Q3Q,.blk b6 Qje,.blk b4 Q3P]) (0,none,0) [1,0,2,3,4] Q1 Z4 Qmy rfl ?_;rintro⟨j,A,c⟩ hj;replace hj:j<=pl:=hj;show sE _ _ _ _ _ [Q0C,JI,Y6,Q4d,(14,.slice A j c),Q44,Qf5,(21,.int .i64 (j:Int))] [y0.at_ cur0,.row A j c 3 1 (iv (List.replicate j elem)),.blk b11 Q3Q,.blk b6 Qje,.blk b4 Q3P] _;by_cases hjl:j<pl
 ·rcases hkd with rfl|rfl
  ·refine Qa (Qa (Q6 ?_));refine Q6t ?_;refine YF ?_;refine Qb (Q9 rfl (Qp (Qb (Qa (Qi (Qa (Q6 ?_)))))));refine KA ?_;refine Qg ?_;refine Qb (Qi (Qa (Qa (Q6 ?_))));refine Q4 zet ?_;refine Zm ?_;refine Qb (Q9 rfl (Qp (Qb (Q9 rfl (Q6 ?_)))));refine Q4 zM ?_;refine KA ?_;refine Qd Jy rfl Q1 (fun bs1 _=>?_);refine Qd Yd rfl Q1 (fun z1 _=>?_);refine Zm ?_;refine Qb (Q6 ?_);refine YH ?_;refine Qx (j+1,z1.1,z1.2) hjl (by show pl - (j+1)<pl - j;omega) Q7r (fun w hw=>?_)
   show Wd [] W [y0.at_ cur0,.row z1.1 (j+1) z1.2 3 1 (iv (List.replicate (j+1) elem)),.blk b11 (.cells ([.string ⟨name.toArray⟩,.int .i64 6,sb,.int .i64 size,.bool big,.int .i64 mn,.int .i64 mx,.int .i64 stop,.int .i64 count,.int .i64 elem,sn,sp]:List Value).toArray 65 (0,0)),.blk b6 (.cells ([.int .i64 vk,.int .i64 vx,vb,vn,.slice Apv pl cpv]:List Value).toArray 30 (0,0)),.blk b4 (.cells ([.slice Af nn cf]:List Value).toArray 24 (0,0))] w;rw[Qbp];exact hw.tl
  ·refine Qa (Qa (Q6 ?_));refine Q6t ?_;refine YF ?_;refine Qb (Q9 rfl (Qp (Qb (Qa (Qi (Qa (Q6 ?_)))))));refine KA ?_;refine Qg ?_;refine Qb (Qi (Qa (Qa (Q6 ?_))));refine Q4 zef ?_;refine Zm ?_;refine Qb (Q8 rfl (Q6 ?_));refine Q4 zet ?_;refine Zm ?_;refine Qb (Q9 rfl (Q6 ?_));refine Q4 zM ?_;refine KA ?_;refine Qd Jy rfl Q1 (fun bs1 _=>?_);refine Qd Yd rfl Q1 (fun z1 _=>?_);refine Zm ?_;refine Qb (Q6 ?_);refine YH ?_;refine Qx (j+1,z1.1,z1.2) hjl (by show pl - (j+1)<pl - j;omega) Q7r (fun w hw=>?_)
   show Wd [] W [y0.at_ cur0,.row z1.1 (j+1) z1.2 3 1 (iv (List.replicate (j+1) elem)),.blk b11 (.cells ([.string ⟨name.toArray⟩,.int .i64 9,sb,.int .i64 size,.bool big,.int .i64 mn,.int .i64 mx,.int .i64 stop,.int .i64 count,.int .i64 elem,sn,sp]:List Value).toArray 65 (0,0)),.blk b6 (.cells ([.int .i64 vk,.int .i64 vx,vb,vn,.slice Apv pl cpv]:List Value).toArray 30 (0,0)),.blk b4 (.cells ([.slice Af nn cf]:List Value).toArray 24 (0,0))] w;rw[Qbp];exact hw.tl
 ·have hjp:j=pl:=by omega
  subst hjp;refine Qa (Qa (Q6 ?_));refine Q6t ?_;refine Q4 zlf ?_;refine Qg ?_;refine Qb (Q8 rfl (Xx (Qb (Qa (Qa (Q6 ?_))))));refine QkQ ?_;refine Vv (E':=[Q0C,JI,Y6,Q4d,(14,.slice A j c),Q44,Qf5]) (O':=[y0.at_ cur0,.row A j c 3 1 (iv (List.replicate j elem)),.blk b11 Q3Q,.blk b6 (.cells ([.int .i64 vk,.int .i64 vx,vb,vn,.slice Apv j cpv]:List Value).toArray 30 (0,0)),.blk b4 Q3P]) KW Zc ?_;exact QsV H.out.1 H.out.2.1 H.out.2.2.1 H.out.2.2.2 he (by simpa using HC.out) Q3 HL.out hL Q3 hy0 HR.out hk9 HSM.out.1 HSM.out.2 hno
theorem Qpz{x:Int}{bv0 ov0 bp op j pn cp:Nat}(hall:VF.All (FoC F) l0)(hgl:Vk l0)(hfl:XD l0)(hfm:QS W W.heap.size Af nn F)(he:0<=x/\x<F.length)(hch:0<l0.len->∃b o,(some ⟨bv0,ov0,none⟩:Option Addr)=some ⟨b,o,none⟩/\b<W.heap.size/\FIn W W.heap.size l0 b (o+1*5))(hl:l0.len=1)(hcn:W.cell? ⟨bv0,ov0+1,none⟩=some (.int .i64 (j:Int)))(hcx:W.cell? ⟨bp,op+j,none⟩=some (.int .i64 x))(hjp:j<pn)(hy0:y0.ok cur0)(hres:RES=apW cur0 (bnW (Vq F x l0 (n+2)) fun m=>.ok ([],m)))(hsz:cur0.length+Qv l0<=C)(hm:n+2+Qv l0<=n+C)(hno:n+C<=1099511627776):
  sE Tryz.prog (bodyPost Tryz.prog Tryz.f49 (FoE W RES n C)) 359 [] W [(3,.int .i64 (n:Int)),(4,.pointer (some ⟨b4,0,none⟩)),(6,.pointer (some ⟨b6,0,none⟩)),(11,.pointer (some ⟨b11,0,none⟩)),(13,.slice y0.A cur0.length y0.c),(14,.slice none 0 0)] [y0.at_ cur0,.blk b11 (.cells ([.string ⟨name.toArray⟩,.int .i64 8,sb,.int .i64 size,.bool big,.int .i64 mn,.int .i64 mx,.int .i64 stop,.int .i64 count,.int .i64 elem,sn,.slice (some ⟨bp,op,none⟩) pn cp]:List Value).toArray 65 (0,0)),.blk b6 (.cells ([.int .i64 vk,.int .i64 vx,vb,vn,.slice (some ⟨bv0,ov0,none⟩) 2 cpv]:List Value).toArray 30 (0,0)),.blk b4 (.cells ([.slice Af nn cf]:List Value).toArray 24 (0,0))] Q6E:=by
 have H:=Qlf;have HC:=Q2 hch;have HR:=Q2 hres;have HL:=Q2 hl;have HSM:=Q2 (And.intro hsz hm);clear hall hgl hfl hfm hch hres hl hsz hm;refine Qa (Q6 ?_);refine YH ?_;refine Qb (Qa (Q6 ?_));refine Zm ?_;refine Qb (Qa (Qa (Q6 ?_)));refine Q4 zF ?_;refine Q4 (zB 1) ?_;refine Q4 zet ?_;refine Qg ?_;refine Qb (Q9 rfl (Qa (Q6 ?_)));refine YH ?_;refine Qb (Q6 ?_);refine Zm ?_;refine Qb (Qa (Qa (Q6 ?_)));refine Q34 ?_;refine Qb (Qi ?_);refine Q16 3 1 ?_;refine QK (ι:=Nat×Option Addr×Nat) (fun z=>z.1<=1) (fun z=>1 - z.1) (fun z=>[Q0C,JI,Y6,Q4d,(14,.slice z.2.1 z.1 z.2.2),Qeh,Qfw,(21,.int .i64 ((z.1+1:Nat):Int))]) (fun z=>[y0.at_ cur0,.row z.2.1 z.1 z.2.2 3 1 (iv (List.replicate z.1 x)),.blk b11 Q9L,.blk b6 Qb8,.blk b4 Q3P]) (0,none,0) [1,0,2,3,4] Q1 Z4 Qmy rfl ?_;rintro⟨r,A,c⟩ hr;replace hr:r<=1:=hr;show sE _ _ _ _ _ [Q0C,JI,Y6,Q4d,(14,.slice A r c),Qeh,Qfw,(21,.int .i64 ((r+1:Nat):Int))] [y0.at_ cur0,.row A r c 3 1 (iv (List.replicate r x)),.blk b11 Q9L,.blk b6 Qb8,.blk b4 Q3P] _;by_cases hr0:r=0
 ·subst hr0;refine Qa (Qa (Q6 ?_));refine Q6t ?_;refine YF ?_;refine Qb (Q9 rfl (Qp (Qb (Qa (Qi (Qa (Q6 ?_)))))));refine KA ?_;refine Qg ?_;refine Qb (Qi (Qa (Qa (Q6 ?_))));refine Q4 zef ?_;refine Zm ?_;refine Qb (Q8 rfl (Q6 ?_));refine Q4 zef ?_;refine Zm ?_;refine Qb (Q8 rfl (Qa (Q6 ?_)));refine Q4 zet ?_;refine Zm ?_;refine Qb (Q9 rfl ?_);refine Xk [.blk b11 Q9L,.blk b6 Qb8] [] Q5 ?_;refine Qc 0 rfl Q5 V7 zM ?_;refine Qc 1 rfl Q5 V7 zF ?_;refine Qc 2 rfl Q5 V7 (zB 0) ?_;refine Qc 3 rfl Q5 V7 zF ?_;refine Qc 4 rfl Q5 V7 (zB 1) ?_;refine Qc 5 rfl Q5 V7 (Xc (j:=0) rfl rfl Q1 rfl rfl rfl Q1) ?_;refine Qc 6 rfl Q5 V7 zF ?_;refine Qc 7 rfl Q5 V7 (zG hcn) ?_;refine Qc 8 rfl Q5 V7 (zi1 (j:=j) (hj:=hjp)) ?_;refine Qc 9 rfl Q5 V7 (zG hcx) ?_;refine QL 10 Q5 rfl rfl Jy Q22 rfl Q1 (fun bs1 _=>?_);refine QL 11 Q5 rfl rfl Yd Q22 rfl Q1 (fun z1 _=>?_);refine Qc 12 rfl Q5 (Qm.sel [3,4] Q1 rfl) zA ?_;refine X8 ?_ Q5;refine Qb (Q6 ?_);refine YH ?_;refine Qx (1,z1.1,z1.2) (Nat.le_refl 1) (by show 1 - 1<1 - 0;omega) Q7r (fun w hw=>hw.tl)
 ·have hr1:r=1:=by omega
  subst hr1;refine Qa (Qa (Q6 ?_));refine Q6t ?_;refine Q4 zlf ?_;refine Qg ?_;refine Qb (Q8 rfl (Xx (Qb (Qa (Qa (Q6 ?_))))));refine QkQ ?_;refine Vv (E':=[Q0C,JI,Y6,Q4d,(14,.slice A 1 c),Qeh,Qfw]) (O':=[y0.at_ cur0,.row A 1 c 3 1 (iv (List.replicate 1 x)),.blk b11 Q9L,.blk b6 Qb8,.blk b4 Q3P]) KW Zc ?_;exact QsV (sB:=0) H.out.1 H.out.2.1 H.out.2.2.1 H.out.2.2.2 he HC.out Q1 HL.out Q1 Q1 hy0 HR.out (.inr ⟨by decide,rfl⟩) HSM.out.1 HSM.out.2 hno
end
end
noncomputable def fo7:Code:=match Q6E with
 |.seq _ (.seq _ (.seq _ (.seq _ (.seq (.seq _ (.cond _ x _)) _))))=>x
 |_=>.skip
structure Hx where
 i:Nat
 l:VF
 cur:List UInt8
 m:Nat
 y:Bf
 q:Nat
section
variable {W:World}{n C cf nn pl cpv b4 b6 b11 bf of cb cn cp:Nat}{RES:Wtg}{y0:Bf}{F:List Rl}{l0:VF}{Ab An Ap Apv:Option Addr}{R:Act->World->Prop}
theorem Qui{name bs:List UInt8}{size mn mx stop count elem:Int}{big:Bool}{vb vn:Value}{vk vx:Int}{names:List (List UInt8)}{parts:List Int}(hv:Fm F)(hall:VF.All (FoC F) l0)(hgl:Vk l0)(hfl:XD l0)(hfm:QS W W.heap.size (some ⟨bf,of,none⟩) nn F)(hFn:F.length=nn)(hch:0<l0.len->∃b o,Apv=some ⟨b,o,none⟩/\b<W.heap.size/\FIn W W.heap.size l0 b o)(hln:l0.len=(QF names).length)(hse:names.length=parts.length)(hp12:parts.length<=12)(hpt:∀x∈parts,0<=x/\x<(F.length:Int))(hrp:Rd W W.heap.size 1 Ap parts.length (iv parts))(hrn:Rd W W.heap.size 1 An names.length (sv names))(hpl:l0.len=pl)(hL:pl<=1048576)(hy0:y0.ok [])(hres:RES=Vh F names parts l0 (n+1))(hsz:300+Qv l0<=C)(hno:n+C<=1099511627776):
  sE Tryz.prog (Exit.then R (bodyPost Tryz.prog Tryz.f49 (FoE W RES n C))) 359 [] W [(4,.pointer (some ⟨b4,0,none⟩)),(6,.pointer (some ⟨b6,0,none⟩)),(11,.pointer (some ⟨b11,0,none⟩)),(13,.slice y0.A ([]:List UInt8).length y0.c),(19,.int .i64 ((n+1:Nat):Int))] [y0.at_ [],.blk b11 (.cells ([.string ⟨name.toArray⟩,.int .i64 7,.slice Ab bs.length cb,.int .i64 size,.bool big,.int .i64 mn,.int .i64 mx,.int .i64 stop,.int .i64 count,.int .i64 elem,.slice An names.length cn,.slice Ap parts.length cp]:List Value).toArray 65 (0,0)),.blk b6 (.cells ([.int .i64 vk,.int .i64 vx,vb,vn,.slice Apv pl cpv]:List Value).toArray 30 (0,0)),.blk b4 (.cells ([.slice (some ⟨bf,of,none⟩) nn cf]:List Value).toArray 24 (0,0))] fo7:=by
 have HFM:=Q2 hfm;have HV0:=Q2 hv;have HPT:=Q2 hpt;have HRP:=Q2 hrp;have HRN:=Q2 hrn;have HA0:=Q2 hall;have HG0:=Q2 hgl;have HF0:=Q2 hfl;have HC0:=Q2 (show 0<l0.len->∃b o,Apv=some ⟨b,o,none⟩/\b<W.heap.size/\FIn W W.heap.size l0 b (o+0*5) by simpa using hch);have HLN:=Q2 (show l0.len=(QF (names.drop 0)).length from hln);have HR0:=Q2 (show RES=apW [] (Vh F (names.drop 0) (parts.drop 0) l0 (n+1)) by rw[ZG];exact hres);obtain⟨CP,hCP⟩:∃CP,Qv l0=CP:=⟨_,rfl⟩;have HCP:=Q2 hCP;rw[hCP] at hsz;clear hfm hv hpt hrp hrn hall hgl hfl hch hres hln hCP;refine Qa (Q6 ?_);refine Zm ?_;refine Qb (Qa (Qa (Q6 ?_)));refine Zm ?_;refine Qb (Qi ?_);refine QK (ι:=Hx) (fun g=>VF.All (FoC F) g.l/\Vk g.l/\XD g.l/\(0<g.l.len->∃b o,Apv=some ⟨b,o,none⟩/\b<W.heap.size/\FIn W W.heap.size g.l b (o+g.q*5))/\g.i<=parts.length/\g.q+g.l.len=pl/\g.l.len=(QF (names.drop g.i)).length/\g.y.ok g.cur/\RES=apW g.cur (Vh F (names.drop g.i) (parts.drop g.i) g.l g.m)/\g.cur.length+Qv g.l<=CP+16*g.i/\g.m+Qv g.l<=n+1+CP) (fun g=>parts.length - g.i) (fun g=>[(4,.pointer (some ⟨b4,0,none⟩)),(6,.pointer (some ⟨b6,0,none⟩)),(11,.pointer (some ⟨b11,0,none⟩)),(13,.slice g.y.A g.cur.length g.y.c),(19,.int .i64 (g.m:Int)),(22,.int .i64 (g.q:Int)),(23,.int .i64 (g.i:Int))]) (fun g=>[g.y.at_ g.cur,.blk b11 (.cells (Q7Z:List Value).toArray 65 (0,0)),.blk b6 (.cells ([.int .i64 vk,.int .i64 vx,vb,vn,.slice Apv pl cpv]:List Value).toArray 30 (0,0)),.blk b4 (.cells ([.slice (some ⟨bf,of,none⟩) nn cf]:List Value).toArray 24 (0,0))]) ⟨0,l0,[],n+1,y0,0⟩ [0,1,2,3] Q1 ⟨HA0.out,HG0.out,HF0.out,HC0.out,Nat.zero_le _,by show 0+l0.len=pl;omega,HLN.out,hy0,HR0.out,by show 0+Qv l0<=CP+16*0;rw[HCP.out];omega,by show n+1+Qv l0<=n+1+CP;rw[HCP.out];exact Nat.le_refl _⟩ KW rfl ?_;clear HA0 HG0 HF0 HC0 HR0 HLN hy0 hpl;rintro⟨i,l,cur,m,y,q⟩ ⟨hall,hgl,hfl,hch,hi,hql,hln,hy,hres,hsz1,hm⟩;replace hi:i<=parts.length:=hi;replace hql:q+l.len=pl:=hql;replace hsz1:cur.length+Qv l<=CP+16*i:=hsz1;replace hm:m+Qv l<=n+1+CP:=hm;replace hy:y.ok cur:=hy;have HLN:=Q2 (show l.len=(QF (names.drop i)).length from hln);have HR:=Q2 (show RES=apW cur (Vh F (names.drop i) (parts.drop i) l m) from hres);have HAL:=Q2 (show VF.All (FoC F) l from hall);have HGL:=Q2 (show Vk l from hgl);have HFL:=Q2 (show XD l from hfl);have HCL:=Q2 (show 0<l.len->∃b o,Apv=some ⟨b,o,none⟩/\b<W.heap.size/\FIn W W.heap.size l b (o+q*5) from hch);clear hall hgl hfl hch hres hln;show sE _ _ _ _ _ [(4,.pointer (some ⟨b4,0,none⟩)),(6,.pointer (some ⟨b6,0,none⟩)),(11,.pointer (some ⟨b11,0,none⟩)),(13,.slice y.A cur.length y.c),(19,.int .i64 (m:Int)),(22,.int .i64 (q:Int)),(23,.int .i64 (i:Int))] [y.at_ cur,.blk b11 (.cells (Q7Z:List Value).toArray 65 (0,0)),.blk b6 (.cells ([.int .i64 vk,.int .i64 vx,vb,vn,.slice Apv pl cpv]:List Value).toArray 30 (0,0)),.blk b4 (.cells ([.slice (some ⟨bf,of,none⟩) nn cf]:List Value).toArray 24 (0,0))] _;by_cases hlt:i<parts.length
 case neg=>
  have HZ:=Q2 (show RES=.ok (cur,m) by
   rw[HR.out,List.drop_of_length_le (l:=parts) Q3,List.drop_of_length_le (l:=names) Q3]
   show Except.ok (cur++[],m)=_
   rw[List.append_nil])
  clear HLN HR HAL HGL HFL HCL;refine Qa (Qa (Q6 ?_));refine Qey ?_;refine Q4 zlf ?_;refine Qg ?_;refine Qb (Q8 rfl (Xx (Qb (Qa (Q6 ?_)))));refine Q0b ?_;refine Qbs ?_;refine Zm ?_;refine Qb (QC (Qk ?_));exact ZU mc4 rfl (.tmp rfl) (.tmp rfl) (.tmp rfl) (fun w hw=>Qgk 0 hw rfl hy HZ.out Q3 Q3)
 case pos=>
  obtain⟨bp,op,x,rfl,hbp,hx,hcx⟩:=Q6F HRP.out hlt;obtain⟨bm,om,s,rfl,hbm,hs,hcs⟩:=Vb HRN.out (show i<names.length by omega);have hxk:=HPT.out x Q07;have hin:i<names.length:=by omega
  have HR2:=Q2 (show RES=apW cur (Vh F (s.data.toList::names.drop (i+1)) (x::parts.drop (i+1)) l m) by
   have h:=HR.out;rw[VS hx,VS hs] at h
   exact h)
  have HLN2:=Q2 (show l.len=(QF (s.data.toList::names.drop (i+1))).length by
   have h:=HLN.out;rw[VS hs] at h
   exact h)
  clear hx hs HR HLN;by_cases hz:s.data.toList=[]
  ·have hst:(s.data.toList==(⟨#[]⟩:ByteArray).data.toList)=true:=by rw[hz];rfl
   have hxn:0<=x/\x<(nn:Int):=⟨hxk.1,by rw[<- hFn];exact hxk.2⟩;obtain⟨hbB2,Ab2,cb2,An2,cn2,Ap2,cp2,hrg2,hru2⟩:=HFM.out.ruleB (k:=x) hxn;have hb16:=(HV0.out.toUsd.rok hxk).bs16;obtain⟨r2,er2⟩:∃r,Qh F x=r:=⟨_,rfl⟩
   have HN0:=Q2 (show RES=apW (cur++r2.bs) (Vh F (names.drop (i+1)) (parts.drop (i+1)) l m) by
    rw[HR2.out,Ke,if_pos hz,er2,Yu])
   rw[er2] at hrg2 hru2 hb16;have HRB2:=Q2 (show Rd W W.heap.size 1 Ab2 r2.bs.length (bv r2.bs) from hru2.b);clear hru2 er2;obtain⟨us,hzs⟩:∃us,r2.bs=us:=⟨_,rfl⟩;simp only[ruC,hzs] at hrg2;rw[hzs] at hb16 HN0 HRB2;have hc2:W.cell? ⟨bf,of+x.toNat*12+2,none⟩=some (.slice Ab2 us.length cb2):=hrg2 2 _ rfl;clear hrg2 hzs;refine Qa (Qa (Q6 ?_));refine Qey ?_;refine YF ?_;refine Qb (Q9 rfl (Qp (Qb (Qa (Qi (Qa (Qa (Q6 ?_))))))));refine QjO ?_;refine Qb (Q9 rfl (Qa ?_));refine Xk [.blk b11 (.cells ([.string ⟨name.toArray⟩,.int .i64 7,.slice Ab bs.length cb,.int .i64 size,.bool big,.int .i64 mn,.int .i64 mx,.int .i64 stop,.int .i64 count,.int .i64 elem,.slice (some ⟨bm,om,none⟩) names.length cn,.slice (some ⟨bp,op,none⟩) parts.length cp]:List Value).toArray 65 (0,0)),.blk b4 (.cells ([.slice (some ⟨bf,of,none⟩) nn cf]:List Value).toArray 24 (0,0))] [] Q5 ?_;refine Qc 0 rfl Q5 Vj zM ?_;refine Qc 1 rfl Q5 Vj zF ?_;refine Qc 2 rfl Q5 Vj (zB 1) ?_;refine Qc 3 rfl Q5 Vj zF ?_;refine Qc 4 rfl Q5 Vj (zB 0) ?_;refine Qc 5 rfl Q5 Vj zM ?_;refine Qc 6 rfl Q5 Vj (zi1 (hj:=hlt)) ?_;refine Qc 7 rfl Q5 Vj (zG hcx) ?_;refine Qc 8 rfl Q5 Vj Q6T ?_;refine Qc 9 rfl Q5 Vj zF ?_;refine Qc 10 rfl Q5 Vj (zG hc2) ?_;refine QL 11 Q5 rfl rfl (Kn 0 y (news:=us) rfl rfl rfl rfl rfl hy (fun w hw=>(HRB2.out.below hw.k.below).more hw.k.size) Q3) (fun _=>.inr Vj) rfl Q1 (fun y2 hy2=>?_);refine Qc 12 rfl Q5 Vj zA ?_;refine X8 ?_ Q5;refine Qb (Xx (Qb (Q6 ?_)));refine YH ?_;exact Qt ⟨i+1,l,cur++us,m,y2,q⟩ [0,1,2,3] Q1 ⟨HAL.out,HGL.out,HFL.out,HCL.out,hlt,hql,by show l.len=(QF (names.drop (i+1))).length;rw[HLN2.out,JZ,if_pos hz],hy2,HN0.out,by show (cur++us).length+Qv l<=CP+16*(i+1);rw[List.length_append];omega,hm⟩ Qhu Q1T rfl
  ·have hst:(s.data.toList==(⟨#[]⟩:ByteArray).data.toList)=false:=beq_eq_false_iff_ne.2 hz
   cases l with
   |nil=>
    have h:=HLN2.out;rw[JZ,if_neg hz] at h;simp [VF.len] at h
   |cons d1 p1 r1=>
    obtain⟨bq,oq,hAr,hbq,⟨sb1,sn1,sp1,hc5,hd5⟩,hrest⟩:=HCL.out Q3w;subst hAr;have HV1:=Q2 (show VIn W W.heap.size (.agg #[.int .i64 d1.k,.int .i64 d1.n,sb1,sn1,sp1]) d1 p1 from ⟨sb1,sn1,sp1,rfl,hd5⟩);obtain⟨_,_,_,_,_,_,_,_,rfl,rfl,rfl,_⟩:=hd5;have hrgv:=hc5.range;have HRS:=Q2 hrest;clear hc5 hrest;simp only[Qv] at hsz1 hm;have hlen1:(VF.cons d1 p1 r1).len=r1.len+1:=rfl;rw[hlen1] at hql;have hqi:q<pl:=by omega
    have hno1:m+Qy d1 p1<=1099511627776:=by unfold Qy;omega
    have HR3:=Q2 (show RES=apW cur (bnW (Qs F x d1 p1 m) fun m=>Vh F (names.drop (i+1)) (parts.drop (i+1)) r1 m) by
     rw[HR2.out,Ke,if_neg hz])
    refine Qa (Qa (Q6 ?_));refine Qey ?_;refine YF ?_;refine Qb (Q9 rfl (Qp (Qb (Qa (Qi (Qa (Qa (Q6 ?_))))))));refine QjO ?_;refine Qb (Q8 rfl (Qp (Qb (Qa ?_))));refine Xk [.blk b11 (.cells ([.string ⟨name.toArray⟩,.int .i64 7,.slice Ab bs.length cb,.int .i64 size,.bool big,.int .i64 mn,.int .i64 mx,.int .i64 stop,.int .i64 count,.int .i64 elem,.slice (some ⟨bm,om,none⟩) names.length cn,.slice (some ⟨bp,op,none⟩) parts.length cp]:List Value).toArray 65 (0,0)),.blk b6 (.cells ([.int .i64 vk,.int .i64 vx,vb,vn,.slice (some ⟨bq,oq,none⟩) pl cpv]:List Value).toArray 30 (0,0)),.blk b4 (.cells ([.slice (some ⟨bf,of,none⟩) nn cf]:List Value).toArray 24 (0,0))] [] Q5 ?_;refine Qc 0 rfl Q5 Zd (zD 2) ?_;refine Qc 1 rfl Q5 Zd zF ?_;refine Qc 2 rfl Q5 Zd (zB 0) ?_;refine Qc 3 rfl Q5 Zd zM ?_;refine Qc 4 rfl Q5 Zd (zi1 (hj:=hlt)) ?_;refine Qc 5 rfl Q5 Zd (zG hcx) ?_;refine Qc 6 rfl Q5 Zd zF ?_;refine Qc 7 rfl Q5 Zd (zB 1) ?_;refine Qc 8 rfl Q5 Zd zM ?_;refine Qc 9 rfl Q5 Zd (Xc (j:=q) rfl rfl Q1 rfl rfl rfl hqi) ?_;refine Qc 10 rfl Q5 Zd (X4 rfl rfl Q1 rfl rfl (fun w hw=>hw.range_old hrgv Qn) rfl) ?_;refine Qc 11 rfl Q5 Zd zM ?_;refine QL 12 Q5 rfl rfl (QY _ _ _ rfl rfl rfl (fun w hw=>(HAL.out.1 HGL.out.1 HGL.out.2.1 HFL.out.1 HFL.out.2.2.1 HFL.out.2.1 w (some ⟨bf,of,none⟩) nn cf m x _ hxk ((HFM.out.below hw.k.below).more hw.k.size) (HV1.out.on hw.k.below) hno1).mono (fun e w' h=>QmT hw h))) (fun q=>.inr (by cases q<;>exact Qm.sel [1,2,3] Q1 rfl)) rfl Q1 (fun z hz1=>?_);cases z with
    |error e=>
     have HX:=Q2 (show RES=.error e from HR3.out.trans (by rw[show Qs F x d1 p1 m=.error e from hz1];rfl));refine Qkr ?_;refine X8 ?_ Q5;refine Qb (Qa (Qa (Q6 ?_)));refine Q4 zM ?_;refine Q4 zht ?_;refine Qg ?_;refine Qb (Q9 rfl (Qa (Q6 ?_)));refine Q4 zM ?_;refine Qbs ?_;refine Zm ?_;refine Qb (QC (Qk (Qu (Qk (Qk (Qu (Qk (Qk ?_))))))));exact ZU mc4 rfl (.tmp rfl) (.tmp rfl) (.tmp rfl) (fun w hw=>Q3h HX.out hw.k.below)
    |ok z=>
     obtain⟨ub,um,uA,uc⟩:=z;obtain⟨hq1,hq2,hq3⟩:=hz1;replace hq1:Qs F x d1 p1 m=.ok (ub,um):=hq1;replace hq2:ub.length<=Qy d1 p1:=hq2;replace hq3:um<=m+Qy d1 p1:=hq3;have HN:=Q2 (show RES=apW (cur++ub) (Vh F (names.drop (i+1)) (parts.drop (i+1)) r1 um) from HR3.out.trans (by rw[hq1,Q9U,Yu]));clear hq1;unfold Qy at hq2 hq3;have hcl:(cur++ub).length+Qv r1<=CP+16*(i+1):=by rw[List.length_append];omega
     refine Qkr ?_;refine X8 ?_ Q5;refine Qb (Qa (Qa (Q6 ?_)));refine Q4 zM ?_;refine Q4 zhf ?_;refine Qg ?_;refine Qb (Q8 rfl (Qp (Qb (Qa (Q6 ?_)))));refine Q0b ?_;refine Qd (Kn 0 y (A2:=uA) (m:=ub.length) (c2:=uc) (news:=ub) rfl rfl rfl rfl rfl hy (fun w hw=>hw.own 4 _ rfl) Q3) rfl Q1 (fun y2 hy2=>?_);refine Zm ?_;refine Qb (Qa (Q6 ?_));refine Q34 ?_;refine Qb (Q6 ?_);refine YH ?_;refine Qb (Q6 ?_);refine YH ?_;exact Qt ⟨i+1,r1,cur++ub,um,y2,q+1⟩ [0,1,2,3] Q1 ⟨HAL.out.2,HGL.out.2.2,HFL.out.2.2.2,fun _=>⟨bq,oq,rfl,hbq,by show FIn W W.heap.size r1 bq (oq+(q+1)*5);rw[show oq+(q+1)*5=oq+q*5+5 by omega];exact HRS.out⟩,hlt,by show q+1+r1.len=pl;omega,by show r1.len=(QF (names.drop (i+1))).length;have h:=HLN2.out;rw[JZ,if_neg hz,hlen1,List.length_cons] at h;omega,hy2,HN.out,hcl,by show um+Qv r1<=n+1+CP;omega⟩ Qhu (.cons rfl rfl (.cons rfl rfl (.cons rfl rfl (.cons rfl rfl (.cons rfl rfl (.cons rfl (by go_num) Q0a)))))) rfl
end
end Go.Proofs.YtphkhfdmlcnoeaaGreatDoor
