import Derived.Test.YtphkhfdmlcnoeaaGreatDoorP31
namespace Go.Proofs.YtphkhfdmlcnoeaaGreatDoor
set_option linter.unusedVariables false
set_option linter.unusedSimpArgs false
set_option maxRecDepth 1000000
set_option maxHeartbeats 32000000
open Go.RowKit
section
variable {A7 A8:Option Addr}{L:List Itm}{W1 w2 wr:World}{c7 c8 i:Nat}{g:Itm}
def RdN(W1 w2:World)(L:List Itm)(A7 A8:Option Addr)(c7 c8:Nat):Prop:=
 ∃cs7,w2.ownsRow W1.heap.size 30 5 (.slice A7 L.length c7) L.length cs7/\Q3I W1 L cs7/\YB w2 W1.heap.size A8 c8 (L.map (·.1))/\(∀g∈L,Q89 g)/\Below W1.heap.size W1 w2
theorem RdN.node(h:RdN W1 w2 L A7 A8 c7 c8)(hb:Below w2.heap.size w2 wr)(hg:L[i]? =some g):
  ∃b o Ab nb cb An nn cn Ap cp,A7=some ⟨b,o,none⟩/\wr.cell? ⟨b,o+i*5,none⟩=some (.int .i64 g.2.1.k)/\wr.cell? ⟨b,o+i*5+1,none⟩=some (.int .i64 g.2.1.n)/\wr.cell? ⟨b,o+i*5+2,none⟩=some (.slice Ab nb cb)/\wr.cell? ⟨b,o+i*5+3,none⟩=some (.slice An nn cn)/\wr.cell? ⟨b,o+i*5+4,none⟩=some (.slice Ap g.2.2.len cp)/\
   VIn wr wr.heap.size (.agg #[.int .i64 g.2.1.k,.int .i64 g.2.1.n,.slice Ab nb cb,.slice An nn cn,.slice Ap g.2.2.len cp]) g.2.1 g.2.2/\Q89 g:=by
 obtain⟨cs7,ho,hc,_,hok,hb1⟩:=h;have hi:i<L.length:=(List.getElem?_eq_some_iff.1 hg).1;obtain⟨b,o,hA,hlt,hcell⟩:=(Rd.of_own ho).2 Q3;obtain⟨sb,sn,sp,hat,hd⟩:=Q3I.at_ L cs7 i g hc hg;have hd':=hd;obtain⟨Ab,nb,cb,An,nn,cn,Ap,cp,rfl,rfl,rfl,_⟩:=hd';have e:∀j u,[Value.int .i64 g.2.1.k,.int .i64 g.2.1.n,.slice Ab nb cb,.slice An nn cn,.slice Ap g.2.2.len cp][j]? =some u->wr.cell? ⟨b,o+(i*5+j),none⟩=some u:=fun j u hu=>(hb.cell (p:=⟨b,o+(i*5+j),none⟩) hlt).trans (hcell _ _ (hat j u hu));refine⟨b,o,Ab,nb,cb,An,nn,cn,Ap,cp,hA,e 0 _ rfl,e 1 _ rfl,e 2 _ rfl,e 3 _ rfl,e 4 _ rfl,⟨_,_,_,rfl,QvQ hd (X4 hb1 hb)⟩,hok g (List.mem_of_getElem? hg)⟩
theorem RdN.path(h:RdN W1 w2 L A7 A8 c7 c8)(hb:Below w2.heap.size w2 wr)(hg:L[i]? =some g):
  ∃b o A' c',A8=some ⟨b,o,none⟩/\wr.cell? ⟨b,o+i,none⟩=some (.slice A' g.1.length c')/\Rd wr wr.heap.size 1 A' g.1.length (iv g.1)/\g.1.length<=c':=by
 obtain⟨cs7,_,_,⟨vs,ho,hl,hel⟩,_,_⟩:=h;have hi:i<L.length:=(List.getElem?_eq_some_iff.1 hg).1;obtain⟨b,o,hA,hlt,hcell⟩:=(Rd.of_own ho).2 Q4W;obtain⟨A',c',hv,hp⟩:=hel i g.1 (by rw[List.getElem?_map,hg];rfl);exact⟨b,o,A',c',hA,(hb.cell (p:=⟨b,o+i,none⟩) hlt).trans (hcell i _ hv),(Rd.of_own hp).on hb,(Qh9 hp).1⟩
def Qvm(W w2:World)(L:List Itm)(gf:Nat)(k:Value)(wr:World):Prop:=∃i:Nat,k=.int .i64 (i:Int)/\i<=L.length/\VS L 0=VS (L.drop i) i/\Below w2.heap.size w2 wr
def Qvx(w2:World)(L:List Itm)(n k:Value)(wr:World):Prop:=∃i:Nat,k=.int .i64 (i:Int)/\i<=L.length/\n=.int .i64 ((szS (L.take i):Nat):Int)/\szS (L.take i)<=4000/\Below w2.heap.size w2 wr
theorem Q46{f:Int×Int}(h:VS L 0=some f):Q9S L=f:=by unfold Q9S;rw[h]
theorem Qne(h:VS L 0=none)(hs:4000<szS L):Q9S L=(14,-1):=by unfold Q9S;rw[h];simp only;rw[if_pos hs]
theorem QpC(h:VS L 0=none)(hs:¬4000<szS L):Q9S L=(0,0):=by unfold Q9S;rw[h];simp only;rw[if_neg hs]
theorem QiC(h:Q89 g):ZC g.2.1 g.2.2.len<=1099512676353+1024:=by
 obtain⟨⟨⟨_,_,hn1,hn2⟩,hb,hns,hnl⟩,_,hp,_⟩:=h;have h1:=XK g.2.1.n hn1 hn2;have h2:=XK (g.2.2.len:Int) Q3 Q3;have h3:=Qbe hnl;have h4:g.2.1.ns.length*1048577<=1048576*1048577:=Nat.mul_le_mul_right _ hns;have h5:=YW g.2.1.bs Q3;unfold ZC;split
 ·omega
 ·split
  ·split
   ·omega
   ·omega
  ·omega
theorem Q3H{w:World}{v:Value}{d:Nd}{p:VF}(hv:VIn w w.heap.size v d p)(hm:XR d/\XU p/\p.len<=1048576):
  Calls Tryz.prog 16 #[v] w fun e w'=>e=.returned (.agg #[.int .i64 (XN d p).1,.int .i64 (XN d p).2])/\Below w.heap.size w w':=by
 rw[Qnt];have HV:=Q2 hv;have HM:=Q2 hm;obtain⟨sb,sn,sp,rfl,hd0⟩:=hv;obtain⟨Ab,nb,cb,An,nn,cn,Ap,cp,rfl,rfl,rfl,_⟩:=hd0;clear hm;go_enter Tryz.func16,Tryz.ntmps16;go_wp2_with fail
 obtain⟨W1,hW1⟩:∃W1,(w.alloc (.cells #[.int .i64 d.k,.int .i64 d.n,.slice Ab nb cb,.slice An nn cn,.slice Ap p.len cp] 30)).alloc (.cells #[.int .i64 0,.int .i64 0] 32)=W1:=⟨_,rfl⟩;have HB1:=Q2 (show Below w.heap.size w W1 by rw[<- hW1];exact Q3h _ _ _)
 have HF1:=Q2 (show FC W1 (w.heap.size+1) 0 0 by
  rw[<- hW1]
  have h:=FC.new (w.alloc (.cells #[.int .i64 d.k,.int .i64 d.n,.slice Ab nb cb,.slice An nn cn,.slice Ap p.len cp] 30)) 0 0
  rw[Qx] at h
  exact h)
 rw[hW1];clear hW1;refine(QdC (most:=601) (HV.out.on HB1.out) HM.out.1 HM.out.2.1 HM.out.2.2 Xk).mono ?_;rintro e w2 ⟨A7,c7,A8,c8,cs7,rfl,ho7,hc7,ho8,hok,hb2⟩;obtain⟨L,hL⟩:∃L,(Jq 601 ([],d,p)).take 601=L:=⟨_,rfl⟩;have hll:L.length<=601:=by rw[<- hL,List.length_take];omega
 rw[hL] at ho7 hc7 ho8 hok ⊢;have HRN:=Q2 (show RdN W1 w2 L A7 A8 c7 c8 from ⟨cs7,ho7,hc7,ho8,hok,hb2⟩);have HF2:=Q2 (HF1.out.on hb2);have HB2:=Q2 (X4 HB1.out hb2);have HLE:=Q2 hL;clear hL ho7 hc7 ho8 hok hb2;have hfz:w.heap.size+1<w2.heap.size:=HF2.out.1;go_wp2_with fail
 go_loopw [5] (Qvm w w2 L (w.heap.size+1)) (fun k _=>L.length - (intOf k).toNat)
 case atStart=>exact⟨0,rfl,Nat.zero_le _,by simp,Below.refl _ _⟩
 case round=>
  obtain⟨i,rfl,hi,hsc,hbr⟩:=hrel;have HSC:=Q2 hsc;have HBR:=Q2 hbr;have HFR:=Q2 (HF2.out.on hbr);clear hsc hbr;by_cases hlt:i<L.length
  ·obtain⟨g,hg⟩:∃g,L[i]? =some g:=⟨_,List.getElem?_eq_getElem hlt⟩
   have HG:=Q2 hg;have HDR:=Q2 (show L.drop i=g::L.drop (i+1) by rw[List.drop_eq_getElem_cons hlt];congr 1;exact(List.getElem?_eq_some_iff.1 hg).2);have hli:(i:Int)<(L.length:Int):=by omega
   have h0:(0:Int)<=(i:Int):=by omega
   by_cases h600:600<=i
   ·have h600':(600:Int)<=(i:Int):=by omega
    have HR:=Q2 (Q46 (by rw[HSC.out,HDR.out];exact K1 (.inl h600)));obtain⟨z4,r0,r1,e0,e1⟩:=HFR.out;go_wp2_with (go_at_call 20;refine(K3 _ _ _).mono ?_;rintro e w' ⟨rfl,rfl⟩)
    clear r0 r1 e0 e1 z4;obtain⟨z4,r0,r1,e0,e1⟩:=((HFR.out.put 2 (i:Int)).alloc (.cells #[.int .i64 2,.int .i64 (i:Int)] 32));refine bodyPost_ret (v:=.agg #[.int .i64 2,.int .i64 (i:Int)]) Qce rfl ?_;exact QsJ
   ·have h600':¬(600:Int)<=(i:Int):=by omega
    obtain⟨b8,o8,Ax,cx,rfl,hcp,_,_⟩:=HRN.out.path HBR.out hg;by_cases h10:10<=g.1.length
    ·have h10':(10:Int)<=(g.1.length:Int):=by omega
     have HR:=Q2 (Q46 (by rw[HSC.out,HDR.out];exact K1 (.inr h10)));obtain⟨z4,r0,r1,e0,e1⟩:=HFR.out;go_wp2_with (go_at_call 20;refine(K3 _ _ _).mono ?_;rintro e w' ⟨rfl,rfl⟩)
     clear r0 r1 e0 e1 z4;obtain⟨z4,r0,r1,e0,e1⟩:=((HFR.out.put 2 (i:Int)).alloc (.cells #[.int .i64 2,.int .i64 (i:Int)] 32));refine bodyPost_ret (v:=.agg #[.int .i64 2,.int .i64 (i:Int)]) Qce rfl ?_;exact QsJ
    ·have h10':¬(10:Int)<=(g.1.length:Int):=by omega
     have hno:¬(600<=i\/10<=g.1.length):=by omega
     obtain⟨b7,o7,Ab',nb',cb',An',nn',cn',Ap',cp',rfl,q0,q1,q2,q3,q4,hvg,hok⟩:=HRN.out.node HBR.out hg;have HVG:=Q2 hvg;have HOK:=Q2 hok;have hgl:=hok.2.2.2;clear hvg hok hg;go_wp2_with fail
     refine(Q7D HVG.out HOK.out.1 HOK.out.2.2.1).mono ?_;rintro e w3 ⟨rfl,hb3⟩;have HB3:=Q2 (X4 HBR.out hb3);have HF3:=Q2 (HFR.out.on hb3);obtain⟨nc,hnc⟩:∃nc,QL g.2.1 g.2.2.len=nc:=⟨_,rfl⟩;have hbd:=Qm7 g.2.1 g.2.2.len;rw[hnc] at hbd ⊢;have HNC:=Q2 hnc;clear hb3 hnc q0 q1 q2 q3 q4;by_cases hz:nc=0
     ·subst hz
      have HS2:=Q2 (show VS L 0=VS (L.drop (i+1)) (i+1) by rw[HSC.out,HDR.out];exact JZ hno HNC.out);go_wp2_with fail
      go_roundw
      case rel=>exact⟨i+1,by go_num,by omega,HS2.out,HB3.out⟩
      case measure=>simp [intOf];omega
     ·have hz':(nc != 0)=true:=by simpa using hz
      have HR:=Q2 (show Q9S L=(nc,(i:Int)) from Q46 (by rw[HSC.out,HDR.out,K0 hno (by rw[HNC.out];exact hz),HNC.out]));obtain⟨z4,r0,r1,e0,e1⟩:=HF3.out;go_wp2_with (go_at_call 20;refine(K3 _ _ _).mono ?_;rintro e w' ⟨rfl,rfl⟩)
      clear r0 r1 e0 e1 z4;obtain⟨z4,r0,r1,e0,e1⟩:=((HF3.out.put nc (i:Int)).alloc (.cells #[.int .i64 nc,.int .i64 (i:Int)] 32));refine bodyPost_ret (v:=.agg #[.int .i64 nc,.int .i64 (i:Int)]) Qce rfl ?_;exact Qsh
  ·have HSN:=Q2 (show VS L 0=none by rw[HSC.out,List.drop_of_length_le Q3];rfl)
   go_wp2_with fail
   clear hlt hi;go_loopw [7,8] (Qvx w2 L) (fun _ k _=>L.length - (intOf k).toNat)
   case atStart=>exact⟨0,rfl,Nat.zero_le _,by simp [szS],by simp [szS],HBR.out⟩
   case round=>
    obtain⟨j,rfl,hj,rfl,hsz,hbr⟩:=hrel;have HBJ:=Q2 hbr;have HFJ:=Q2 (HF2.out.on hbr);clear hbr;obtain⟨s0,hs0⟩:∃s0,szS (L.take j)=s0:=⟨_,rfl⟩;rw[hs0] at hsz ⊢;have HS0:=Q2 hs0;clear hs0;by_cases hlt:j<L.length
    ·obtain⟨g,hg⟩:∃g,L[j]? =some g:=⟨_,List.getElem?_eq_getElem hlt⟩
     have HG:=Q2 hg;obtain⟨b7,o7,Ab',nb',cb',An',nn',cn',Ap',cp',rfl,q0,q1,q2,q3,q4,hvg,hok⟩:=HRN.out.node HBJ.out hg;have HVG:=Q2 hvg;have HOK:=Q2 hok;have hle:=QiC hok;have hli:(j:Int)<(L.length:Int):=by omega
     have h0:(0:Int)<=(j:Int):=by omega
     clear hvg hok hg;go_wp2_with fail
     refine(Q7C HVG.out HOK.out.1 HOK.out.2.2.1).mono ?_;rintro e w3 ⟨rfl,hb3⟩;have HB3:=Q2 (X4 HBJ.out hb3);have HF3:=Q2 (HFJ.out.on hb3);obtain⟨sg,hsg⟩:∃sg,ZC g.2.1 g.2.2.len=sg:=⟨_,rfl⟩;rw[hsg] at hle ⊢;have HN:=Q2 (show szS (L.take (j+1))=s0+sg by rw[Qma HG.out,HS0.out,hsg]);clear hb3 hsg q0 q1 q2 q3 q4;by_cases hbig:4000<s0+sg
     ·have hbig':(4000:Int)<(s0:Int)+(sg:Int):=by omega
      have HR:=Q2 (Qne HSN.out (by have:=QnK L (j+1);have:=HN.out;omega));obtain⟨z4,r0,r1,e0,e1⟩:=HF3.out;go_wp2_with (go_at_call 20;refine(K3 _ _ _).mono ?_;rintro e w' ⟨rfl,rfl⟩)
      clear r0 r1 e0 e1 z4;obtain⟨z4,r0,r1,e0,e1⟩:=((HF3.out.put 14 (-1)).alloc (.cells #[.int .i64 14,.int .i64 (-1)] 32));refine bodyPost_ret (v:=.agg #[.int .i64 14,.int .i64 (-1)]) Qce rfl ?_;exact Qsh
     ·have hbig':¬(4000:Int)<(s0:Int)+(sg:Int):=by omega
      go_wp2_with fail
      go_roundw
      case rel=>exact⟨j+1,by go_num,by omega,by rw[HN.out];simp,by rw[HN.out];omega,HB3.out⟩
      case measure=>simp [intOf];omega
    ·have HR:=Q2 (QpC HSN.out (by have:=HS0.out;rw[List.take_of_length_le Q3] at this;omega))
     obtain⟨z4,r0,r1,e0,e1⟩:=HFJ.out;go_wp2_with fail
     clear r0 r1 e0 e1 z4;obtain⟨z4,r0,r1,e0,e1⟩:=((HFJ.out.put 0 0));refine bodyPost_ret (v:=.agg #[.int .i64 0,.int .i64 0]) Qce rfl ?_;exact⟨by rw[HLE.out,HR.out],Z3 (X4 HB2.out HBJ.out) Q3 _ _⟩
end
theorem Q9Y{F:List Rl}(h:(Qy F).1=0):Qy F=(0,0):=QdW h
section
variable {A:Option Addr}{n c:Nat}{W:World}{F:List Rl}{d:Nd}{l:VF}{v:Value}
theorem Q0b(hf:QX W W.heap.size A n F)(hs:FSm F)(hc:n<=c)(hg:GV W)(hv:VIn W W.heap.size v d l)(hsz:Sz d l):
  Calls Tryz.prog 8 #[.agg #[.slice A n c],v] W (QuV W):=by
 have HF:=Q2 hf;have HS:=Q2 hs;have HG:=Q2 hg;have HV:=Q2 hv;have HSZ:=Q2 hsz;obtain⟨⟨b,cd,x⟩,hp⟩:∃p,JN F d l=p:=⟨_,rfl⟩;have HP:=Q2 hp;obtain⟨⟨fa,fb⟩,hab⟩:∃p,Qy F=p:=⟨_,rfl⟩;have HAB:=Q2 hab;obtain⟨⟨va,vb⟩,hvf⟩:∃p,XN d l=p:=⟨_,rfl⟩;have HVF:=Q2 hvf;obtain⟨⟨q,ga,gb⟩,hq⟩:∃p,Q03 F d l=p:=⟨_,rfl⟩;have HQ:=Q2 hq;obtain⟨sb,sn,sp,rfl,Abv,nb,cbv,Anv,nnv,cnv,Apv,cpv,rfl,rfl,rfl,_⟩:=hv;clear hf hs hg hsz hp;go_enter Tryz.func8,Tryz.ntmps8;refine Qs (M:=[]) (W:=W) (N:=51) (E:=[Vh,Qby]) (O:=[]) ?_ mc3 QV;refine yq<|yr ?_;refine yB fun b2=>?_;refine yB fun b3=>?_;refine yo zA<|yl<|yn<|yq<|yq<|yr ?_;refine Q4 (Qj rfl rfl Q1 rfl rfl (fun w hw=>Q84 KU)) ?_;refine yo zO<|yl<|yn<|y0<|ys<|yn<|yq<|yr<|yo (zD 1)<|yo (zD 0) ?_;refine Q4 (Qj rfl rfl Q1 rfl rfl (fun w hw=>(QdK Q6E HS.out hc KU Q9b HSZ.out).mono (fun _ _ h=>by unfold Qkx at h;rw[HQ.out] at h;exact h))) ?_;refine Q4P ?_;refine yA fun b6=>?_;refine Qdy ?_;refine yl<|yn<|yq<|yr<|yo (zD 2)<|yo (zD 1) ?_;refine Qc QrO rfl Q1 (fun wo hyo=>?_);refine Q4P ?_;refine yA fun b8=>?_;refine Qdy ?_;refine yl<|yn<|yq<|yr<|yo (zD 3) ?_;refine Q4 (Qj rfl rfl Q1 rfl rfl (fun w hw=>(Qak Q6E HS.out).mono (fun _ _ h=>by rw[HAB.out] at h;exact h))) ?_;refine yA fun b9=>?_;refine KG ?_;by_cases hz:fa=0
 ·subst hz;have h0:Qy F=(0,0):=Q9Y (by rw[hab])
  have e2:fb=0:=by rw[h0] at hab;exact(congrArg Prod.snd hab).symm
  subst e2;clear hab;refine yn<|yq<|yq<|yr<|yo zF<|yo (zB 0)<|yo zet<|yl<|yn<|y1<|yr<|yo (zD 3) ?_;refine Q4 (Qj rfl rfl Q1 rfl rfl (fun w hw=>(Q3H Q9b HSZ.out).mono (fun _ _ h=>by rw[HVF.out] at h;exact h))) ?_;refine KG ?_;by_cases hy:va=0
  ·subst hy;have h1:XN d l=(0,0):=QlB (by rw[hvf]);have hfp:=Qf8 h0 h1;rw[hq,HP.out] at hfp;have e3:q=(cd==0):=congrArg Prod.fst hfp;have e4:ga=0:=congrArg (fun p=>p.2.1) hfp;subst e3 e4;clear hfp hq hvf h0 h1;refine yn<|yq<|yq<|yr<|yo zF<|yo (zB 0)<|yo znf<|yl<|yn<|y0<|ys<|yn<|yq<|yr<|yo zF<|yo (zB 2) ?_;refine Q4 (Ja rfl rfl Q1 rfl rfl rfl (b:=true) rfl) ?_;refine yo zM<|yo zM<|yo zF<|yo (zB 1) ?_;refine Q4 (Ja rfl rfl Q1 rfl rfl rfl rfl) ?_;refine Q4 (Qm3 (c:=true) Tryz.underlying4 rfl rfl Q1 rfl rfl rfl (beq_self_eq_true _)) ?_;refine yo zY<|yo zA<|yl<|yn<|yt ?_;exact Q1P
  ·have hq2:Q03 F d l=(false,(va,vb)):=by unfold Q03;rw[if_neg (by rw[h0];simp),if_pos (by rw[hvf];intro e;exact hy (congrArg Prod.fst e)),hvf]
   rw[hq] at hq2;have e3:q=false:=congrArg Prod.fst hq2;have e4:ga=va:=congrArg (fun p=>p.2.1) hq2;have e5:gb=vb:=congrArg (fun p=>p.2.2) hq2;subst e3 e4 e5;have hnz:=neI hy;clear hq hvf h0 hq2;refine yn<|yq<|yq<|yr<|yo zF<|yo (zB 0)<|yo zna<|yl<|yn<|y1<|yq<|yr<|yo (zD 2)<|yo (zD 0) ?_;refine Q4 QrX ?_;refine yo zM<|yo zM<|yo zO<|yo zY<|yo zA<|yl<|yn<|yt<|yc ?_;exact Q1P
 ·have hq2:Q03 F d l=(false,(fa,fb)):=by unfold Q03;rw[if_pos (by rw[hab];intro e;exact hz (congrArg Prod.fst e)),hab]
  rw[hq] at hq2;have e3:q=false:=congrArg Prod.fst hq2;have e4:ga=fa:=congrArg (fun p=>p.2.1) hq2;have e5:gb=fb:=congrArg (fun p=>p.2.2) hq2;subst e3 e4 e5;have hnz:=neI hz;clear hq hvf hab hq2;refine yn<|yq<|yq<|yr<|yo zF<|yo (zB 0) ?_;refine Q4 (Ja rfl rfl Q1 rfl rfl rfl (b:=false) (beq_eq_false_iff_ne.2 hz)) ?_;refine yl<|yn<|y0<|ys<|yn<|yq<|yq<|yr<|yo zF<|yo (zB 0)<|yo zna<|yl<|yn<|y1<|yq<|yr<|yo (zD 2)<|yo (zD 0) ?_;refine Q4 QrX ?_;refine yo zM<|yo zM<|yo zO<|yo zY<|yo zA<|yl<|yn<|yt<|yc ?_;exact Q1P
end
end Go.Proofs.YtphkhfdmlcnoeaaGreatDoor
