import Derived.Test.YtphkhfdmlcnoeaaGreatDoorP25
import Derived.Test.YtphkhfdmlcnoeaaGreatDoorP28
namespace Go.Proofs.YtphkhfdmlcnoeaaGreatDoor
set_option linter.unusedVariables false
set_option linter.unusedSimpArgs false
set_option maxRecDepth 1000000
set_option maxHeartbeats 32000000
open Go.RowKit
section
variable {A7 A8:Option Addr}{L:List Itm}{W1 w2 wr:World}{c7 c8 i:Nat}{g:Itm}
def RdN(W1 w2:World)(L:List Itm)(A7 A8:Option Addr)(c7 c8:Nat):Prop:=
 ∃cs7,w2.ownsRow W1.heap.size 30 5 (.slice A7 L.length c7) L.length cs7/\Q3M W1 L cs7/\Yr w2 W1.heap.size A8 c8 (L.map (·.1))/\(∀g∈L,Q7C g)/\Below W1.heap.size W1 w2
theorem RdN.node(h:RdN W1 w2 L A7 A8 c7 c8)(hb:Below w2.heap.size w2 wr)(hg:L[i]? =some g):
  ∃b o Ab nb cb An nn cn Ap cp,A7=some ⟨b,o,none⟩/\wr.cell? ⟨b,o+i*5,none⟩=some (.int .i64 g.2.1.k)/\wr.cell? ⟨b,o+i*5+1,none⟩=some (.int .i64 g.2.1.n)/\wr.cell? ⟨b,o+i*5+2,none⟩=some (.slice Ab nb cb)/\wr.cell? ⟨b,o+i*5+3,none⟩=some (.slice An nn cn)/\wr.cell? ⟨b,o+i*5+4,none⟩=some (.slice Ap g.2.2.len cp)/\
   VIn wr wr.heap.size (.agg #[.int .i64 g.2.1.k,.int .i64 g.2.1.n,.slice Ab nb cb,.slice An nn cn,.slice Ap g.2.2.len cp]) g.2.1 g.2.2/\Q7C g:=by
 obtain⟨cs7,ho,hc,_,hok,hb1⟩:=h;have hi:i<L.length:=(List.getElem?_eq_some_iff.1 hg).1;obtain⟨b,o,hA,hlt,hcell⟩:=(Rd.of_own ho).2 Q3;obtain⟨sb,sn,sp,hat,hd⟩:=Q3M.at_ L cs7 i g hc hg;have hd':=hd;obtain⟨Ab,nb,cb,An,nn,cn,Ap,cp,rfl,rfl,rfl,_⟩:=hd';have e:∀j u,[Value.int .i64 g.2.1.k,.int .i64 g.2.1.n,.slice Ab nb cb,.slice An nn cn,.slice Ap g.2.2.len cp][j]? =some u->wr.cell? ⟨b,o+(i*5+j),none⟩=some u:=fun j u hu=>(hb.cell (p:=⟨b,o+(i*5+j),none⟩) hlt).trans (hcell _ _ (hat j u hu));refine⟨b,o,Ab,nb,cb,An,nn,cn,Ap,cp,hA,e 0 _ rfl,e 1 _ rfl,e 2 _ rfl,e 3 _ rfl,e 4 _ rfl,⟨_,_,_,rfl,Qvo hd (X2 hb1 hb)⟩,hok g (List.mem_of_getElem? hg)⟩
theorem RdN.path(h:RdN W1 w2 L A7 A8 c7 c8)(hb:Below w2.heap.size w2 wr)(hg:L[i]? =some g):
  ∃b o A' c',A8=some ⟨b,o,none⟩/\wr.cell? ⟨b,o+i,none⟩=some (.slice A' g.1.length c')/\Rd wr wr.heap.size 1 A' g.1.length (iv g.1)/\g.1.length<=c':=by
 obtain⟨cs7,_,_,⟨vs,ho,hl,hel⟩,_,_⟩:=h;have hi:i<L.length:=(List.getElem?_eq_some_iff.1 hg).1;obtain⟨b,o,hA,hlt,hcell⟩:=(Rd.of_own ho).2 Q4j;obtain⟨A',c',hv,hp⟩:=hel i g.1 (by rw[List.getElem?_map,hg];rfl);exact⟨b,o,A',c',hA,(hb.cell (p:=⟨b,o+i,none⟩) hlt).trans (hcell i _ hv),(Rd.of_own hp).on hb,(QgH hp).1⟩
def QvW(W w2:World)(L:List Itm)(gf:Nat)(k:Value)(wr:World):Prop:=∃i:Nat,k=.int .i64 (i:Int)/\i<=L.length/\VG L 0=VG (L.drop i) i/\Below w2.heap.size w2 wr
def QvJ(w2:World)(L:List Itm)(n k:Value)(wr:World):Prop:=∃i:Nat,k=.int .i64 (i:Int)/\i<=L.length/\n=.int .i64 ((szS (L.take i):Nat):Int)/\szS (L.take i)<=4000/\Below w2.heap.size w2 wr
theorem Q3R{f:Int×Int}(h:VG L 0=some f):Qa3 L=f:=by unfold Qa3;rw[h]
theorem Qla(h:VG L 0=none)(hs:4000<szS L):Qa3 L=(14,-1):=by unfold Qa3;rw[h];simp only;rw[if_pos hs]
theorem Qqo(h:VG L 0=none)(hs:¬4000<szS L):Qa3 L=(0,0):=by unfold Qa3;rw[h];simp only;rw[if_neg hs]
theorem QiF(h:Q7C g):Zz g.2.1 g.2.2.len<=1099512676353+1024:=by
 obtain⟨⟨⟨_,_,hn1,hn2⟩,hb,hns,hnl⟩,_,hp,_⟩:=h;have h1:=XG g.2.1.n hn1 hn2;have h2:=XG (g.2.2.len:Int) Q3 Q3;have h3:=Q9T hnl;have h4:g.2.1.ns.length*1048577<=1048576*1048577:=Nat.mul_le_mul_right _ hns;have h5:=YU g.2.1.bs Q3;unfold Zz;split
 ·omega
 ·split
  ·split
   ·omega
   ·omega
  ·omega
theorem Q4c{w:World}{v:Value}{d:Nd}{p:VF}(hv:VIn w w.heap.size v d p)(hm:XN d/\Z4 p/\p.len<=1048576):
  Calls Tryz.prog 16 #[v] w fun e w'=>e=.returned (.agg #[.int .i64 (Z8 d p).1,.int .i64 (Z8 d p).2])/\Below w.heap.size w w':=by
 rw[Qok];have HV:=Q2 hv;have HM:=Q2 hm;obtain⟨sb,sn,sp,rfl,hd0⟩:=hv;obtain⟨Ab,nb,cb,An,nn,cn,Ap,cp,rfl,rfl,rfl,_⟩:=hd0;clear hm;go_enter Tryz.func16,Tryz.ntmps16;go_wp2_with fail
 obtain⟨W1,hW1⟩:∃W1,(w.alloc (.cells #[.int .i64 d.k,.int .i64 d.n,.slice Ab nb cb,.slice An nn cn,.slice Ap p.len cp] 30)).alloc (.cells #[.int .i64 0,.int .i64 0] 32)=W1:=⟨_,rfl⟩;have HB1:=Q2 (show Below w.heap.size w W1 by rw[<- hW1];exact Q2M _ _ _)
 have HF1:=Q2 (show FC W1 (w.heap.size+1) 0 0 by
  rw[<- hW1]
  have h:=FC.new (w.alloc (.cells #[.int .i64 d.k,.int .i64 d.n,.slice Ab nb cb,.slice An nn cn,.slice Ap p.len cp] 30)) 0 0
  rw[Qx] at h
  exact h)
 rw[hW1];clear hW1;refine(Qds (most:=601) (HV.out.on HB1.out) HM.out.1 HM.out.2.1 HM.out.2.2 Xo).mono ?_;rintro e w2 ⟨A7,c7,A8,c8,cs7,rfl,ho7,hc7,ho8,hok,hb2⟩;obtain⟨L,hL⟩:∃L,(Jq 601 ([],d,p)).take 601=L:=⟨_,rfl⟩;have hll:L.length<=601:=by rw[<- hL,List.length_take];omega
 rw[hL] at ho7 hc7 ho8 hok ⊢;have HRN:=Q2 (show RdN W1 w2 L A7 A8 c7 c8 from ⟨cs7,ho7,hc7,ho8,hok,hb2⟩);have HF2:=Q2 (HF1.out.on hb2);have HB2:=Q2 (X2 HB1.out hb2);have HLE:=Q2 hL;clear hL ho7 hc7 ho8 hok hb2;have hfz:w.heap.size+1<w2.heap.size:=HF2.out.1;go_wp2_with fail
 go_loopw [5] (QvW w w2 L (w.heap.size+1)) (fun k _=>L.length - (intOf k).toNat)
 case atStart=>exact⟨0,rfl,Nat.zero_le _,by simp,Below.refl _ _⟩
 case round=>
  obtain⟨i,rfl,hi,hsc,hbr⟩:=hrel;have HSC:=Q2 hsc;have HBR:=Q2 hbr;have HFR:=Q2 (HF2.out.on hbr);clear hsc hbr;by_cases hlt:i<L.length
  ·obtain⟨g,hg⟩:∃g,L[i]? =some g:=⟨_,List.getElem?_eq_getElem hlt⟩
   have HG:=Q2 hg;have HDR:=Q2 (show L.drop i=g::L.drop (i+1) by rw[List.drop_eq_getElem_cons hlt];congr 1;exact(List.getElem?_eq_some_iff.1 hg).2);have hli:(i:Int)<(L.length:Int):=by omega
   have h0:(0:Int)<=(i:Int):=by omega
   by_cases h600:600<=i
   ·have h600':(600:Int)<=(i:Int):=by omega
    have HR:=Q2 (Q3R (by rw[HSC.out,HDR.out];exact Ka (.inl h600)));obtain⟨z4,r0,r1,e0,e1⟩:=HFR.out;go_wp2_with (go_at_call 20;refine(K2 _ _ _).mono ?_;rintro e w' ⟨rfl,rfl⟩)
    clear r0 r1 e0 e1 z4;obtain⟨z4,r0,r1,e0,e1⟩:=((HFR.out.put 2 (i:Int)).alloc (.cells #[.int .i64 2,.int .i64 (i:Int)] 32));refine bodyPost_ret (v:=.agg #[.int .i64 2,.int .i64 (i:Int)]) QbI rfl ?_;exact Qr4
   ·have h600':¬(600:Int)<=(i:Int):=by omega
    obtain⟨b8,o8,Ax,cx,rfl,hcp,_,_⟩:=HRN.out.path HBR.out hg;by_cases h10:10<=g.1.length
    ·have h10':(10:Int)<=(g.1.length:Int):=by omega
     have HR:=Q2 (Q3R (by rw[HSC.out,HDR.out];exact Ka (.inr h10)));obtain⟨z4,r0,r1,e0,e1⟩:=HFR.out;go_wp2_with (go_at_call 20;refine(K2 _ _ _).mono ?_;rintro e w' ⟨rfl,rfl⟩)
     clear r0 r1 e0 e1 z4;obtain⟨z4,r0,r1,e0,e1⟩:=((HFR.out.put 2 (i:Int)).alloc (.cells #[.int .i64 2,.int .i64 (i:Int)] 32));refine bodyPost_ret (v:=.agg #[.int .i64 2,.int .i64 (i:Int)]) QbI rfl ?_;exact Qr4
    ·have h10':¬(10:Int)<=(g.1.length:Int):=by omega
     have hno:¬(600<=i\/10<=g.1.length):=by omega
     obtain⟨b7,o7,Ab',nb',cb',An',nn',cn',Ap',cp',rfl,q0,q1,q2,q3,q4,hvg,hok⟩:=HRN.out.node HBR.out hg;have HVG:=Q2 hvg;have HOK:=Q2 hok;have hgl:=hok.2.2.2;clear hvg hok hg;go_wp2_with fail
     refine(Q7T HVG.out HOK.out.1 HOK.out.2.2.1).mono ?_;rintro e w3 ⟨rfl,hb3⟩;have HB3:=Q2 (X2 HBR.out hb3);have HF3:=Q2 (HFR.out.on hb3);obtain⟨nc,hnc⟩:∃nc,QP g.2.1 g.2.2.len=nc:=⟨_,rfl⟩;have hbd:=Qnk g.2.1 g.2.2.len;rw[hnc] at hbd ⊢;have HNC:=Q2 hnc;clear hb3 hnc q0 q1 q2 q3 q4;by_cases hz:nc=0
     ·subst hz
      have HS2:=Q2 (show VG L 0=VG (L.drop (i+1)) (i+1) by rw[HSC.out,HDR.out];exact V2 hno HNC.out);go_wp2_with fail
      go_roundw
      case rel=>exact⟨i+1,by go_num,by omega,HS2.out,HB3.out⟩
      case measure=>simp [intOf];omega
     ·have hz':(nc != 0)=true:=by simpa using hz
      have HR:=Q2 (show Qa3 L=(nc,(i:Int)) from Q3R (by rw[HSC.out,HDR.out,YH hno (by rw[HNC.out];exact hz),HNC.out]));obtain⟨z4,r0,r1,e0,e1⟩:=HF3.out;go_wp2_with (go_at_call 20;refine(K2 _ _ _).mono ?_;rintro e w' ⟨rfl,rfl⟩)
      clear r0 r1 e0 e1 z4;obtain⟨z4,r0,r1,e0,e1⟩:=((HF3.out.put nc (i:Int)).alloc (.cells #[.int .i64 nc,.int .i64 (i:Int)] 32));refine bodyPost_ret (v:=.agg #[.int .i64 nc,.int .i64 (i:Int)]) QbI rfl ?_;exact QsH
  ·have HSN:=Q2 (show VG L 0=none by rw[HSC.out,List.drop_of_length_le Q3];rfl)
   go_wp2_with fail
   clear hlt hi;go_loopw [7,8] (QvJ w2 L) (fun _ k _=>L.length - (intOf k).toNat)
   case atStart=>exact⟨0,rfl,Nat.zero_le _,by simp [szS],by simp [szS],HBR.out⟩
   case round=>
    obtain⟨j,rfl,hj,rfl,hsz,hbr⟩:=hrel;have HBJ:=Q2 hbr;have HFJ:=Q2 (HF2.out.on hbr);clear hbr;obtain⟨s0,hs0⟩:∃s0,szS (L.take j)=s0:=⟨_,rfl⟩;rw[hs0] at hsz ⊢;have HS0:=Q2 hs0;clear hs0;by_cases hlt:j<L.length
    ·obtain⟨g,hg⟩:∃g,L[j]? =some g:=⟨_,List.getElem?_eq_getElem hlt⟩
     have HG:=Q2 hg;obtain⟨b7,o7,Ab',nb',cb',An',nn',cn',Ap',cp',rfl,q0,q1,q2,q3,q4,hvg,hok⟩:=HRN.out.node HBJ.out hg;have HVG:=Q2 hvg;have HOK:=Q2 hok;have hle:=QiF hok;have hli:(j:Int)<(L.length:Int):=by omega
     have h0:(0:Int)<=(j:Int):=by omega
     clear hvg hok hg;go_wp2_with fail
     refine(Q7z HVG.out HOK.out.1 HOK.out.2.2.1).mono ?_;rintro e w3 ⟨rfl,hb3⟩;have HB3:=Q2 (X2 HBJ.out hb3);have HF3:=Q2 (HFJ.out.on hb3);obtain⟨sg,hsg⟩:∃sg,Zz g.2.1 g.2.2.len=sg:=⟨_,rfl⟩;rw[hsg] at hle ⊢;have HN:=Q2 (show szS (L.take (j+1))=s0+sg by rw[QnV HG.out,HS0.out,hsg]);clear hb3 hsg q0 q1 q2 q3 q4;by_cases hbig:4000<s0+sg
     ·have hbig':(4000:Int)<(s0:Int)+(sg:Int):=by omega
      have HR:=Q2 (Qla HSN.out (by have:=Qkw L (j+1);have:=HN.out;omega));obtain⟨z4,r0,r1,e0,e1⟩:=HF3.out;go_wp2_with (go_at_call 20;refine(K2 _ _ _).mono ?_;rintro e w' ⟨rfl,rfl⟩)
      clear r0 r1 e0 e1 z4;obtain⟨z4,r0,r1,e0,e1⟩:=((HF3.out.put 14 (-1)).alloc (.cells #[.int .i64 14,.int .i64 (-1)] 32));refine bodyPost_ret (v:=.agg #[.int .i64 14,.int .i64 (-1)]) QbI rfl ?_;exact QsH
     ·have hbig':¬(4000:Int)<(s0:Int)+(sg:Int):=by omega
      go_wp2_with fail
      go_roundw
      case rel=>exact⟨j+1,by go_num,by omega,by rw[HN.out];simp,by rw[HN.out];omega,HB3.out⟩
      case measure=>simp [intOf];omega
    ·have HR:=Q2 (Qqo HSN.out (by have:=HS0.out;rw[List.take_of_length_le Q3] at this;omega))
     obtain⟨z4,r0,r1,e0,e1⟩:=HFJ.out;go_wp2_with fail
     clear r0 r1 e0 e1 z4;obtain⟨z4,r0,r1,e0,e1⟩:=((HFJ.out.put 0 0));refine bodyPost_ret (v:=.agg #[.int .i64 0,.int .i64 0]) QbI rfl ?_;exact⟨by rw[HLE.out,HR.out],XT (X2 HB2.out HBJ.out) Q3 _ _⟩
end
def faV:Except Nat Vy->Value
 |.error x=>.tuple #[.agg zrL.toArray,.int .i64 0,.int .i64 (x:Int)]
 |.ok y=>.tuple #[.agg (y.cells).toArray,.int .i64 (y.r.2.2:Int),.int .i64 (-1)]
def faG(O:List Qb):Except Nat Vy->List Qb
 |.error _=>O
 |.ok y=>O++y.L
def faP(res:Rdg (Nd×VF×Nat))(m:Nat):Except Nat Vy->Prop
 |.error x=>res=some (.error x)
 |.ok y=>res=some (.ok y.r)/\QU y.L (.agg (y.cells).toArray) y.r.1 y.r.2.1/\KU y.L m
section
variable {W w w':World}{p nn nd cd cf:Nat}{F:List Rl}{D:List UInt8}{Af Ad:Option Addr}{O:List Qb}{M:List Nat}{e:Ending}{k:Int}{res:Rdg (Nd×VF×Nat)}
theorem QaJ(hw:Wd M W O w)(h:FaE w res e w'):Xf faV (faP res W.heap.size) M W (faG O) e w':=by
 obtain⟨hb,⟨x,h1,h2⟩|⟨d,l,q,v,L,h1,h2,h3,h4⟩⟩:=h
 ·exact⟨.error x,h2,h1,by have:=hw.made hb (New.nil w.heap.size w');rwa [List.append_nil] at this⟩
 ·obtain⟨sb,sn,sp,rfl,hd⟩:=h3.vin h4.on;obtain⟨Ab,nb,cb,An,n',cn,Ap,cp,rfl,rfl,rfl,_⟩:=hd;exact⟨.ok ⟨(d,l,q),Ab,nb,cb,An,n',cn,Ap,l.len,cp,L⟩,h2,⟨h1,h3,fun x hx=>⟨h4.rd x hx,fun b hb=>Nat.le_trans hw.k.size (h4.far x hx b hb)⟩⟩,hw.made hb h4⟩
theorem Q0p{A:Option Addr}{n c s:Nat}{t:TypeId}{xs:List Value}(i:Nat)(hw:Wd [] W O w)(hO:O[i]? =some (.row A n c t s xs)):New [.rd A n s xs] W.heap.size w:=by
 refine Jb (Rd.of_own Q4X) fun b hb=>?_;rcases Nat.lt_or_ge b W.heap.size with hl|hl
 ·exact absurd (hw.new i _ b hO (Q3h Q4X hb) hl) (List.not_mem_nil)
 ·exact hl
def IHf(F:List Rl)(D:List UInt8)(f:Nat):Prop:=∀(W:World) (k:Int) (p:Nat) (Af Ad:Option Addr) (nn nd cd cf:Nat),0<=k/\k<F.length->p<=D.length->Q5c W F D Af nn Ad nd cd->(∃y,Qq F D f k p=some y)->Calls Tryz.prog 43 #[.agg #[.slice Af nn cf],.int .i64 k,.slice Ad nd cd,.int .i64 (p:Int)] W (FaE W (Qq F D f k p))
theorem QwF(hv:Fm F)(f:Nat)(IH:IHf F D f)(hsome:∃y,Qq F D (f+1) k p=some y)(hk:0<=k/\k<F.length)(hp:p<=D.length)(h:Q5c W F D Af nn Ad nd cd)(hkind:(Ql F k).kind=6):
  Calls Tryz.prog 43 #[.agg #[.slice Af nn cf],.int .i64 k,.slice Ad nd cd,.int .i64 (p:Int)] W (FaE W (Qq F D (f+1) k p)):=by
 have H:=Q2 h;have HIH:=Q2 IH;have hD:=h.hD;obtain⟨hl,hFn⟩:=h.len;subst hl;have hr:=hv.toUsd.rok hk;obtain⟨RES,hres⟩:∃x,Qq F D (f+1) k p=x:=⟨_,rfl⟩;have e6:=(Qgj (F:=F) (D:=D) (f:=f) (p:=p) (k:=k) hkind).symm.trans hres;have hno:=hv.numOk hk K3;have hcnt:=hr.count K3;have hel:=hr.elem K3;rw[hres] at hsome ⊢;have HS:=Q2 hsome;obtain⟨bf,of,haf,_⟩:=h.fm.2 YF;subst haf;obtain⟨hbB,Ab,cb,An,cn,Ap,cp,hrg,hru⟩:=h.fm.ruleB (k:=k) Q3;have hkn:0<=k/\k<(nn:Int):=by omega
 clear h hres hsome IH hru;have hfar:Far (Qq F D f (Ql F k).elem) D.length:=Xv hv.toUsd f hel;obtain⟨r,er⟩:∃r,Ql F k=r:=⟨_,rfl⟩;rw[er] at hkind hr hrg e6 hcnt hel hno hfar;clear er;obtain⟨_,Ab2,cb2,An2,cn2,Ap2,cp2,hrg2,_⟩:=H.out.fm.ruleB (k:=r.count) Q3;have HNO:=Q2 hno;clear hno;obtain⟨name,kind,bs,size,big,mn,mx,stop,count,elem,names,parts⟩:=r;simp only[ruC] at hkind hr hrg e6 hcnt hel hrg2 hfar HNO;have hcn2:0<=count/\count<(nn:Int):=by omega
 subst hkind;have HE:=Q2 e6;clear e6;obtain⟨y0,hy0⟩:=V6 (Ql F count) D p;have HY:=Q2 hy0;have HRG:=Q2 hrg2;clear hy0 hrg2;obtain⟨r2,er2⟩:∃r,Ql F count=r:=⟨_,rfl⟩;rw[er2] at HY HNO HRG HE;clear er2;obtain⟨name2,kind2,bs2,size2,big2,mn2,mx2,stop2,count2,elem2,names2,parts2⟩:=r2;go_enter Tryz.func43,Tryz.ntmps43;refine Qv (M:=[]) (W:=W) (N:=447) (E:=[(0,.agg #[.slice Q3v nn cf]),(1,.int .i64 k),(2,.slice Ad D.length cd),(3,.int .i64 (p:Int))]) (O:=[]) ?_ Q9O (Wd.start [] W);refine Qa (Q6 ?_);refine yB fun b4=>?_;refine yA fun b8=>?_;refine KD ?_;refine Qj (Qa (Q6 ?_));refine Q4 zF ?_;refine Q4 (zB 1) ?_;refine Q4 zM ?_;refine Qn9 ?_;refine yA fun b11=>?_;refine yW 0 ?_;refine Qd ?_;refine Qj (Qa (Qa (Q6 ?_)));refine QdC ?_;refine Qd ?_;refine Qj (Qh (Qa (Q6 ?_)));refine Kd ?_;refine Qj (Q7 rfl (Qa (Qa (Q6 ?_))));refine Kd ?_;refine Qj (Q7 rfl (Q6 ?_));refine Kd ?_;refine Qj (Q7 rfl (Qa (Q6 ?_)));refine Kd ?_;refine Qj (Q7 rfl (Qa (Q6 ?_)));refine Kd ?_;refine Qj (Q7 rfl (Qa (Q6 ?_)));refine Kd ?_;refine Qj (Q7 rfl (Qa (Q6 ?_)));refine Q4 zet ?_;refine Q3Y ?_;refine Qj (Q9 rfl (Qa (Q6 ?_)));cases y0 with
 |error x=>
  have HX:=Q2 (show RES=some (.error x) by rw[<- HE.out,HY.out];rfl);refine QsQ ?_;refine Q4 zM ?_;refine Q4 (Qg (v:=.tuple #[.int .i64 0,.int .i64 0,.int .i64 (x:Int)]) rfl rfl Q1 rfl rfl QkZ) ?_;refine Q9o ?_;refine Q4 zA ?_;refine Q4 zA ?_;refine Q3Y ?_;refine Qj (Qa (Qa (Q6 ?_)));refine QeQ ?_;refine Qj (Q9 rfl (Qa (Q6 ?_)));refine QgT ?_;refine yW 1 ?_;refine KD ?_;refine Qj (QB (Qk (Qs (Qk ?_))));exact QO mc4 rfl Zi (.tmp rfl) (.tmp rfl) (fun w hw=>⟨hw.k.below,.inl ⟨x,HX.out,rfl⟩⟩)
 |ok y0=>
  obtain⟨n0,q0⟩:=y0;have hx1:=J5 HNO.out.numK hp HY.out;have hx2:=Q3B HNO.out hp HY.out;obtain⟨m,rfl⟩:∃m:Nat,n0=(m:Int):=⟨n0.toNat,by omega⟩;have HX:=Q2 (show RES=rb (Jh (Qq F D f elem) .nil m q0) fun z=>okR (ndL,z.1,z.2) by rw[<- HE.out,HY.out,Q2G];rfl);refine QsQ ?_;refine Q4 zM ?_;refine Q4 (Qg (v:=.tuple #[.int .i64 (m:Int),.int .i64 (q0:Int),.int .i64 (-1)]) rfl rfl Q1 rfl rfl QkZ) ?_;refine Q9o ?_;refine Q4 zA ?_;refine Q4 zA ?_;refine Q3Y ?_;refine Qj (Qa (Qa (Q6 ?_)));refine QfZ ?_;refine Qj (Q7 rfl (Qt (Qj (Qa (Q6 ?_)))));refine Q4 QkM ?_;refine yA fun b23=>?_;refine yW 0 ?_;refine Qd ?_;refine Qj (Qa (Qa (Q6 ?_)));refine Q3Y ?_;refine Qj (Qh ?_);refine Xe (ι:=El) (fun y=>ZY y.L y.cs y.A/\KU y.L W.heap.size/\y.q<=D.length/\y.A.len+y.n=m/\RES=rb (Jh (Qq F D f elem) y.A y.n y.q) fun z=>okR (ndL,z.1,z.2)) (fun y=>y.n) (fun y=>[(2,.slice Ad D.length cd),(4,.pointer (some ⟨b4,0,none⟩)),(8,.pointer (some ⟨b8,0,none⟩)),(11,.pointer (some ⟨b11,0,none⟩)),(20,.int .i64 (m:Int)),(21,.int .i64 (y.q:Int)),(23,.pointer (some ⟨b23,0,none⟩)),(24,.int .i64 (y.A.len:Int))]) (fun y=>.row y.Ar y.A.len y.c 30 5 y.cs::.blk b23 (.cells ([.int .i64 3,.int .i64 0,.slice none 0 0,.slice none 0 0,.slice y.Ar y.A.len y.c]:List Value).toArray 30 (0,0))::.blk b11 (.cells (QpF:List Value).toArray 65 (0,0))::.blk b8 (.cells zrL.toArray 30 (0,0))::.blk b4 (.cells ([.slice Q3v nn cf]:List Value).toArray 24 (0,0))::y.L) ⟨.nil,[],none,0,[],q0,m⟩ ⟨.nil,.nil _,hx1.2,by show 0+m=m;omega,HX.out⟩ (.cons rfl rfl Q0I) Qcy ?_;rintro⟨A,cs',Ar,c,L,q,n⟩ ⟨hF,hL,hq,hn,hri⟩;replace hn:A.len+n=m:=hn;replace hq:q<=D.length:=hq;have HF:=Q2 hF;have HL:=Q2 hL;have HR:=Q2 hri;clear hF hL hri;show sE _ _ _ _ _ [(2,.slice Ad D.length cd),(4,.pointer (some ⟨b4,0,none⟩)),(8,.pointer (some ⟨b8,0,none⟩)),(11,.pointer (some ⟨b11,0,none⟩)),(20,.int .i64 (m:Int)),(21,.int .i64 (q:Int)),(23,.pointer (some ⟨b23,0,none⟩)),(24,.int .i64 (A.len:Int))] (.row Ar A.len c 30 5 cs'::.blk b23 (.cells ([.int .i64 3,.int .i64 0,.slice none 0 0,.slice none 0 0,.slice Ar A.len c]:List Value).toArray 30 (0,0))::.blk b11 (.cells (QpF:List Value).toArray 65 (0,0))::.blk b8 (.cells zrL.toArray 30 (0,0))::.blk b4 (.cells ([.slice Q3v nn cf]:List Value).toArray 24 (0,0))::L) _;cases n with
  |zero=>
   have HZ:=Q2 (show RES=some (.ok (ndL,A,q)) by rw[HR.out,Q60];rfl);refine Qa (Qa (Q6 ?_));refine Q6T ?_;refine Q4 zlf ?_;refine Qd ?_;refine Qj (Q7 rfl (XK (Qj (Qa (Q6 ?_)))));refine Q4 (zD 1) ?_;refine Q4 zM ?_;refine yW 3 ?_;refine KD ?_;refine Qj (QB (Qs (Qk ?_)));refine QO mc4 rfl Q4H (.tmp rfl) (.tmp rfl) (fun w hw=>⟨hw.k.below,.inr ⟨ndL,A,q,_,.rd Ar A.len 5 cs'::L,HZ.out,rfl,QU.list HF.out (XV 0 hw rfl).1 (XV 0 hw rfl).2,?_⟩⟩);exact(Q0p 0 hw rfl).app Qdz
  |succ n=>
   obtain⟨q1,hy1⟩:=Q64 (one:=Qq F D f elem) (A:=A) (n:=n) (p:=q) (gg:=fun z:VF×Nat=>okR (ndL,z.1,z.2)) Qhq;have HQ:=Q2 hy1;clear hy1;refine Qa (Qa (Q6 ?_));refine Q6T ?_;refine Q4 zlt ?_;refine Qd ?_;refine Qj (Q9 rfl (Qt (Qj (Qa (Qh (Qa (Q6 ?_)))))));refine Q4 (zD 4) ?_;refine QaR ?_;refine Q6T ?_;refine Qc QrM rfl Q1 (fun y hy=>?_);cases y with
   |error x=>
    have HZ:=Q2 (show RES=some (.error x) by rw[HR.out,Q8Z hy];rfl);refine Q9o ?_;refine yA fun b25=>?_;refine yW 0 ?_;refine KD ?_;refine Qj (Qa (Qa (Q6 ?_)));refine QeQ ?_;refine Qj (Q9 rfl (Qa (Q6 ?_)));refine QgT ?_;refine yW 4 ?_;refine KD ?_;refine Qj (QB (Qk (Qs (Qk (Qk (Qs (Qk (Qs (Qk ?_)))))))));exact QO mc4 rfl QdB (.tmp rfl) (.tmp rfl) (fun w hw=>⟨hw.k.below,.inl ⟨x,HZ.out,rfl⟩⟩)
   |ok y=>
    obtain⟨hy1,hy2,hy3⟩:=hy;refine Q9o ?_;refine yA fun b25=>?_;refine yW 0 ?_;refine KD ?_;refine Qj (Qa (Qa (Q6 ?_)));refine QfZ ?_;refine Qj (Q7 rfl (Qt (Qj (Qa (Q6 ?_)))));refine QaR ?_;refine Q4 (zD 0) ?_;refine Qc (Zj (xs:=[(0,.tmp 273)]) (vs:=[(0,.agg (y.cells).toArray)]) (cells:=y.cells) rfl rfl rfl (Q2K y)) rfl Q1 (fun bn _=>?_);refine Qc Y5 rfl Q1 (fun z _=>?_);refine Q4 zF ?_;refine yS 3 ?_;refine Qd ?_;refine Qj (Q6 ?_);refine Q4 zM ?_;refine Q3Y ?_;refine Qj (Q6 ?_);refine Q4 zM ?_;refine Q4 zP ?_;refine Q3Y ?_;refine Qu ⟨A.snoc y.r.1 y.r.2.1,cs'++y.cells,z.1,z.2,L++y.L,y.r.2.2,n⟩ ⟨HF.out.snoc hy2,HL.out.app hy3,(hfar q y.r hq hy1).2,by show (A.snoc _ _).len+n=_;rw[VF.len_snoc];omega,by rw[HR.out,Q8I hy1]⟩ QaO (.cons rfl rfl (.cons rfl rfl (.cons rfl rfl (.cons rfl rfl (.cons rfl rfl (.cons rfl rfl (.cons rfl rfl (.cons rfl (by rw[VF.len_snoc];rfl) .nil)))))))) (fun w hw=>?_);have h:=hw.tl.tl;exact Qau
theorem Qww(hv:Fm F)(f:Nat)(IH:IHf F D f)(hsome:∃y,Qq F D (f+1) k p=some y)(hk:0<=k/\k<F.length)(hp:p<=D.length)(h:Q5c W F D Af nn Ad nd cd)(hkind:(Ql F k).kind=9):
  Calls Tryz.prog 43 #[.agg #[.slice Af nn cf],.int .i64 k,.slice Ad nd cd,.int .i64 (p:Int)] W (FaE W (Qq F D (f+1) k p)):=by
 have H:=Q2 h;have HIH:=Q2 IH;have hD:=h.hD;obtain⟨hl,hFn⟩:=h.len;subst hl;have hr:=hv.toUsd.rok hk;obtain⟨RES,hres⟩:∃x,Qq F D (f+1) k p=x:=⟨_,rfl⟩;have e9:=Qm7;have hel:=hr.elem Q96;rw[hres] at hsome ⊢;have HS:=Q2 hsome;obtain⟨bf,of,haf,_⟩:=h.fm.2 YF;subst haf;obtain⟨hbB,Ab,cb,An,cn,Ap,cp,hrg,hru⟩:=h.fm.ruleB (k:=k) Q3;have hkn:0<=k/\k<(nn:Int):=by omega
 clear h hres hsome IH hru;have hfar:Far (Qq F D f (Ql F k).elem) D.length:=QfN;obtain⟨r,er⟩:∃r,Ql F k=r:=⟨_,rfl⟩;rw[er] at hkind hr hrg e9 hel hfar;clear er;obtain⟨name,kind,bs,size,big,mn,mx,stop,count,elem,names,parts⟩:=r;simp only[ruC] at hkind hr hrg e9 hel hfar;subst hkind;have HX:=Q2 (show RES=rb (Vv Qbf D stop .nil (D.length+1) p) fun z=>okR Q6v by rw[<- e9,Q4n]);clear e9;go_enter Tryz.func43,Tryz.ntmps43;refine Qv (M:=[]) (W:=W) (N:=447) (E:=Qlu) (O:=[]) ?_ Q9O QT;refine Qa (Q6 ?_);refine yB fun b4=>?_;refine yA fun b8=>?_;refine KD ?_;refine Qj (Qa (Q6 ?_));refine Q4 zF ?_;refine Q4 (zB 1) ?_;refine Q4 zM ?_;refine Qn9 ?_;refine yA fun b11=>?_;refine yW 0 ?_;refine Qd ?_;refine Qj (Qa (Qa (Q6 ?_)));refine QdC ?_;refine Qd ?_;refine Qj (Qh (Qa (Q6 ?_)));refine Kd ?_;refine Qj (Q7 rfl (Qa (Qa (Q6 ?_))));refine Kd ?_;refine Qj (Q7 rfl (Q6 ?_));refine Kd ?_;refine Qj (Q7 rfl (Qa (Q6 ?_)));refine Kd ?_;refine Qj (Q7 rfl (Qa (Q6 ?_)));refine Kd ?_;refine Qj (Q7 rfl (Qa (Q6 ?_)));refine Kd ?_;refine Qj (Q7 rfl (Qa (Q6 ?_)));refine Kd ?_;refine Qj (Q7 rfl (Qa (Q6 ?_)));refine Q4 zet ?_;refine Q3Y ?_;refine Qj (Q9 rfl (Qa (Q6 ?_)));refine Q4 QkM ?_;refine yA fun b28=>?_;refine yW 0 ?_;refine Qd ?_;refine Qj (Qa (Qh ?_));refine Xe (ι:=El) Qt2 (fun y=>y.n) (fun y=>[Qcq,(3,.int .i64 (y.q:Int)),Q3n,QdV,Qcd,(28,.pointer (some ⟨b28,0,none⟩))]) (fun y=>.row y.Ar y.A.len y.c 30 5 y.cs::.blk b28 (.cells ([.int .i64 3,.int .i64 0,.slice none 0 0,.slice none 0 0,.slice y.Ar y.A.len y.c]:List Value).toArray 30 (0,0))::.blk b11 QcO::.blk b8 Q6p::.blk b4 QcI::y.L) ⟨.nil,[],none,0,[],p,D.length+1⟩ QlB Q5l Qcy ?_;rintro⟨A,cs',Ar,c,L,q,n⟩ ⟨hF,hL,hq,hn,hri⟩;replace hn:A.len+n<=D.length+1:=hn;replace hq:q<=D.length:=hq;have HF:=Q2 hF;have HL:=Q2 hL;have HR:=Q2 hri;clear hF hL hri;show sE _ _ _ _ _ [Qcq,(3,.int .i64 (q:Int)),Q3n,QdV,Qcd,(28,.pointer (some ⟨b28,0,none⟩))] (.row Ar A.len c 30 5 cs'::.blk b28 (.cells ([.int .i64 3,.int .i64 0,.slice none 0 0,.slice none 0 0,.slice Ar A.len c]:List Value).toArray 30 (0,0))::.blk b11 QcO::.blk b8 Q6p::.blk b4 QcI::L) _;cases n with
 |zero=>
  obtain⟨r,hr⟩:=HS.out;rw[HR.out] at hr;cases hr
 |succ n=>
 cases hc:D[q]? with
 |none=>
  have hle:D.length<=q:=List.getElem?_eq_none_iff.1 hc;have hqd:((q:Int)==(D.length:Int))=true:=beq_iff_eq.2 Q3;have HZ:=Qod;clear hc;refine Qa (Qa (Xb Q5 Q5 ?_));refine Y7 ?_;refine Qe zL ?_;refine Qe zlf ?_;refine Qe zM ?_;refine mc9 ?_;refine Qe zS ?_;refine Qe zS ?_;refine Qe zS ?_;refine Qe zN ?_;refine Z3 ?_;refine Qj (Q7 rfl (XK (Qj (Qa (Qa (Q6 ?_))))));refine Q6T ?_;refine Q4 zL ?_;refine Q4 zea ?_;refine Qd ?_;refine Qj (Q9 rfl (Qa (Q6 ?_)));refine QgT ?_;refine yW 3 ?_;refine KD ?_;refine Qj (QB (Qk (Qs (Qk ?_))));exact QO mc4 rfl Q4H (.tmp rfl) (.tmp rfl) (fun w hw=>⟨hw.k.below,.inl ⟨q,HZ.out,rfl⟩⟩)
 |some c'=>
  have hlt:q<D.length:=(List.getElem?_eq_some_iff.1 hc).1;have HC:=Q2 hc;have hcv:=Za c';have hct:=c'.toNat_lt;obtain⟨qd,od,rfl,_,hcell⟩:=Js H.out.dt hc;clear hc;by_cases hs:(c'.toNat:Int)=stop
  ·have HZ:=Qn5;have hne:((c'.toNat:Int) != stop)=false:=bne_eq_false_iff_eq.2 hs;have hqd:((q:Int)==(D.length:Int))=false:=Qdw;refine Qa (Qa (Xb Q5 Q5 ?_));refine QqV ?_;refine Z3 ?_;refine Qj (Q7 rfl (XK (Qj (Qa (Qa (Q6 ?_))))));refine Q6T ?_;refine Q4 zL ?_;refine Q4 zea ?_;refine Qd ?_;refine Qj (Q7 rfl (Qt (Qj (Qa (Q6 ?_)))));refine Q4 (zD 1) ?_;refine Q4 zM ?_;refine Q4 zP ?_;refine yW 3 ?_;refine KD ?_;refine Qj (QB (Qs (Qk ?_)));refine QO mc4 rfl Q4H (.tmp rfl) (.tmp rfl) (fun w hw=>⟨hw.k.below,.inr ⟨ndL,A,q+1,_,.rd Ar A.len 5 cs'::L,HZ.out,rfl,QU.list HF.out (XV 0 hw rfl).1 (XV 0 hw rfl).2,?_⟩⟩);exact(Q0p 0 hw rfl).app Qdz
  ·have hne:((c'.toNat:Int) != stop)=true:=bne_iff_ne.2 hs;obtain⟨q1,hy1⟩:=Q8T (one:=Qq F D f elem) (A:=A) (n:=n) (p:=q) (gg:=fun z:VF×Nat=>okR Q6v) HC.out hs Qhq;have HQ:=Q2 hy1;clear hy1;refine Qa (Qa (Xb Q5 Q5 ?_));refine QqV ?_;refine Z3 ?_;refine Qj (Q9 rfl (Qt (Qj (Qh (Qa (Q6 ?_))))));refine Q4 (zD 4) ?_;refine QaR ?_;refine Q6T ?_;refine Qc QrM rfl Q1 (fun y hy=>?_)
   cases y with
   |error x=>
    have HZ:=Q2 (show RES=some (.error x) by rw[HR.out,Qcp HC.out hs hy];rfl);refine Q9o ?_;refine yA fun b29=>?_;refine yW 0 ?_;refine KD ?_;refine Qj (Qa (Qa (Q6 ?_)));refine QeQ ?_;refine Qj (Q9 rfl (Qa (Q6 ?_)));refine QgT ?_;refine yW 4 ?_;refine KD ?_;refine Qj (QB (Qk (Qs (Qk (Qs (Qk (Qs (Qk ?_))))))));exact QO mc4 rfl QdB (.tmp rfl) (.tmp rfl) (fun w hw=>⟨hw.k.below,.inl ⟨x,HZ.out,rfl⟩⟩)
   |ok y=>
    obtain⟨hy1,hy2,hy3⟩:=hy;refine Q9o ?_;refine yA fun b29=>?_;refine yW 0 ?_;refine KD ?_;refine Qj (Qa (Qa (Q6 ?_)));refine QfZ ?_;refine Qj (Q7 rfl (Qt (Qj (Qa (Q6 ?_)))));refine QaR ?_;refine Q4 (zD 0) ?_;refine Qc (Zj (xs:=[(0,.tmp 316)]) (vs:=Qh1) (cells:=y.cells) rfl rfl rfl (Q2K y)) rfl Q1 (fun bn _=>?_);refine Qc Y5 rfl Q1 (fun z _=>?_);refine Q4 zF ?_;refine yS 3 ?_;refine Qd ?_;refine Qj (Q6 ?_);refine Q4 zM ?_;refine Q3Y ?_;refine JD ?_;refine Qu Qkd ⟨HF.out.snoc hy2,HL.out.app hy3,(hfar q y.r hq hy1).2,by show (A.snoc _ _).len+n<=_;rw[VF.len_snoc];omega,by rw[HR.out,QdP HC.out hs hy1]⟩ QaO Q5l (fun w hw=>?_);have h:=hw.tl.tl;exact Qau
end
section
variable {c:UInt8}{ks:List Int}{x:Int}
theorem Qd9{F:List Rl}{j:Nat}(hx:ks[j]? =some x)(hf:fir F x c=true)(hp:∀m y,m<j->ks[m]? =some y->fir F y c=false):ZS F ks c=some j:=by
 unfold ZS;obtain⟨hj,hxj⟩:=List.getElem?_eq_some_iff.1 hx;rw[List.findIdx?_eq_some_iff_getElem];refine⟨hj,by rw[hxj];exact hf,fun m hm=>?_⟩;have h:=hp m (ks[m]) hm (List.getElem?_eq_getElem (Nat.lt_trans hm hj));unfold fir at h;rw[h];exact Bool.false_ne_true
theorem QbV{F:List Rl}(hp:∀m y,m<ks.length->ks[m]? =some y->fir F y c=false):ZS F ks c=none:=by
 unfold ZS;rw[List.findIdx?_eq_none_iff];intro x hx;obtain⟨m,hm,rfl⟩:=List.mem_iff_getElem.1 hx;exact hp m _ hm (List.getElem?_eq_getElem hm)
section
variable {W w w':World}{p nn nd cd cf:Nat}{F:List Rl}{D:List UInt8}{Af Ad:Option Addr}{O:List Qb}{M:List Nat}{e:Ending}{k:Int}{res:Rdg (Nd×VF×Nat)}
theorem Q82(hv:Fm F)(hf:QW W W.heap.size Af nn F)(hx:0<=x/\x<nn):Calls Tryz.prog 82 #[.agg #[.slice Af nn cf],.int .i64 x,.int .i64 (c.toNat:Int)] W (QL W (fir F x c)):=by
 have hlen:F.length=nn:=hf.1;obtain⟨m,rfl⟩:∃m:Nat,x=(m:Int):=⟨x.toNat,by omega⟩;exact Qb1 hf hv.toUsd.ok (by have:=hv.len.2;omega) Q3 c.toNat_lt
theorem QwE(hv:Fm F)(f:Nat)(IH:IHf F D f)(hsome:∃y,Qq F D (f+1) k p=some y)(hk:0<=k/\k<F.length)(hp:p<=D.length)(h:Q5c W F D Af nn Ad nd cd)(hkind:(Ql F k).kind=8):
  Calls Tryz.prog 43 #[.agg #[.slice Af nn cf],.int .i64 k,.slice Ad nd cd,.int .i64 (p:Int)] W (FaE W (Qq F D (f+1) k p)):=by
 have H:=Q2 h;have HIH:=Q2 IH;have hD:=h.hD;obtain⟨hl,hFn⟩:=h.len;subst hl;have hr:=hv.toUsd.rok hk;obtain⟨RES,hres⟩:∃x,Qq F D (f+1) k p=x:=⟨_,rfl⟩;have e8n:=Ql5;have e8m:=QqB;have e8:=Qrm;have hpt:=hr.parts Q96;have hp12:=hr.p12;rw[hres] at hsome ⊢;have HS:=Q2 hsome;obtain⟨bf,of,haf,_⟩:=h.fm.2 YF;subst haf;obtain⟨hbB,Ab,cb,An,cn,Ap,cp,hrg,hru⟩:=h.fm.ruleB (k:=k) Q3;have hkn:0<=k/\k<(nn:Int):=by omega
 clear h hres hsome IH;obtain⟨r,er⟩:∃r,Ql F k=r:=⟨_,rfl⟩;rw[er] at hkind hr hrg hru e8m e8 hpt hp12;clear er;have HRP:=Q2 (show Rd W W.heap.size 1 Ap r.parts.length (iv r.parts) from hru.p);clear hru;obtain⟨name,kind,bs,size,big,mn,mx,stop,count,elem,names,parts⟩:=r;simp only[ruC] at hkind hr hrg e8n e8m e8 hpt hp12 HRP;subst hkind;have HE:=Q2 e8;have HEM:=Q2 e8m;have HEN:=Q2 e8n;have HPT:=Q2 hpt;clear e8 e8m e8n hpt;go_enter Tryz.func43,Tryz.ntmps43;refine Qv (M:=[]) (W:=W) (N:=447) (E:=Qlu) (O:=[]) ?_ Q9O QT;refine yq<|yr ?_;refine yB fun b4=>?_;refine yA fun b8=>?_;refine QqE ?_;refine yA fun b11=>?_;refine yW 0 ?_;refine yl<|yn<|yq<|yq<|yr<|yo zF<|yo (zB 0)<|yl<|yn<|yb<|yq<|yr<|yo zef<|yo zA<|yl<|yn<|y0<|yq<|yq<|yr<|yo zef<|yo zA<|yl<|yn<|y0<|yr<|yo zef<|yo zA<|yl<|yn<|y0<|yq<|yr<|yo zef<|yo zA<|yl<|yn<|y0<|yq<|yr<|yo zef<|yo zA<|yl<|yn<|y0<|yq<|yr<|yo zef<|yo zA<|yl<|yn<|y0<|yq<|yr<|yo zef<|yo zA<|yl<|yn<|y0<|yq<|yr<|yo zef<|yo zA<|yl<|yn<|y0<|yq<|yr<|yo zet<|yo zA<|yl<|yn<|y1<|yq<|yq<|yr ?_;cases hc:D[p]? with
 |none=>
  have hle:D.length<=p:=List.getElem?_eq_none_iff.1 hc;have hqd:((p:Int)==(D.length:Int))=true:=beq_iff_eq.2 Q3;have HX:=Q2 (show RES=some (.error p) from (HEN.out hc).symm);clear hc;refine yo zM<|yo zM<|yo zL<|yo zea<|yl<|yn<|y1<|yq<|yr<|yo zM ?_;refine QjB ?_;exact QtB
 |some c=>
  have hlt:p<D.length:=(List.getElem?_eq_some_iff.1 hc).1;have hqd:((p:Int)==(D.length:Int))=false:=Qdw;have HC:=Q2 hc;have hcv:=Za c;have hct:=c.toNat_lt;have HFA:=Q2 (fun(w:World) (hk:Below W.heap.size W w)=>H.out.next hk);obtain⟨qd,od,rfl,_,hcell⟩:=Js H.out.dt hc;clear hc;refine yo zM<|yo zM<|yo zL<|yo zea<|yl<|yn<|y0<|ys<|yn<|yq<|yq<|yr<|yo zA<|yl<|yn<|yb ?_;refine QH (ι:=Nat) (fun j=>j<=parts.length/\∀m y,m<j->parts[m]? =some y->fir F y c=false) (fun j=>parts.length - j) (fun j=>Qtj) (fun _=>QrB) 0 [0,1,2] Q1 ⟨Nat.zero_le _,fun m y hm=>absurd hm (Nat.not_lt_zero m)⟩ Q5l rfl ?_;rintro j ⟨hj,hpre⟩;have HP:=Q2 hpre;clear hpre;show sE _ _ _ _ _ Qtj QrB _;by_cases hin:j<parts.length
  ·obtain⟨bp,op,x,rfl,hbp,hx,hcx⟩:=Q4p HRP.out hin;have hxk:=HPT.out x YS
   have hxn:0<=x/\x<(nn:Int):=by omega
   have hge:parts.getD j 0=x:=by rw[List.getD_eq_getElem?_getD,hx];rfl
   have HX0:=Q2 hx;clear hx;obtain⟨b,hb⟩:∃b,fir F x c=b:=⟨_,rfl⟩;have HB:=Q2 hb;clear hb;cases b with
   |false=>
    refine Qtg ?_;refine Q9d ?_;refine Qr (j+1) [0,1,2] Q1 ⟨hin,fun m y hm hy=>?_⟩ Q2V Qhi rfl;rcases Nat.lt_or_ge m j with h|h
    ·exact HP.out m y h hy
    ·obtain rfl:m=j:=by omega
     have:=HX0.out.symm.trans hy;injection this with this;rw[<- this];exact HB.out
   |true=>
    have hch:=Qd9 HX0.out HB.out HP.out;have HX:=Q2 (show (rb (Qq F D f x p) fun y=>okR (ndL,VF.cons (ndN (j:Int)) VF.nil (VF.cons y.1 y.2.1 VF.nil),y.2.2))=RES by rw[<- HE.out c j HC.out hch,hge]);obtain⟨q1,hy1⟩:∃y,Qq F D f x p=some y:=by
     obtain⟨r,hr⟩:=HS.out;rw[<- HX.out] at hr;cases h1:Qq F D f x p with
     |none=>rw[h1] at hr;cases hr
     |some y=>exact⟨y,rfl⟩
    have HY:=Q2 hy1;clear hy1 hge hch;refine Qtg ?_;refine Z3 ?_;refine yn<|y1<|yq ?_;refine ZR [.blk b11 QvS,.blk b4 QcI] [] Q5 ?_;refine Qn 0 rfl Q5 Q5o (zD 1) ?_;refine Qn 1 rfl Q5 Q5o zF ?_;refine Qn 2 rfl Q5 Q5o (zB 0) ?_;refine Qn 3 rfl Q5 Q5o zM ?_;refine Qn 4 rfl Q5 Q5o Q3X ?_;refine Qn 5 rfl Q5 Q5o (zG hcx) ?_;refine Qn 6 rfl Q5 Q5o zM ?_;refine Qn 7 rfl Q5 Q5o zM ?_;refine Q6m 8 13 Q5 (JC rfl rfl Qs5 (fun y=>.inr (by cases y<;>exact QA.sel [0,2] Q1 rfl)) rfl Q1 (fun y hy=>?_)) (JC rfl rfl Q8U Q6b rfl Q1 (fun b33 _=>?_))
    ·skip
     cases y with
     |error x'=>
      have HZ:=Qrl;refine Qsx ?_;refine QX 13 Q5 rfl rfl Q8U Q6b rfl Q1 (fun b33 _=>?_);refine QK 14 Q5 rfl rfl Yp Q6b rfl (fun _ _=>?_);refine Qh6 ?_;refine Xn ?_ Q5;refine Qlr ?_;refine yW 2 ?_;refine QmR ?_;exact QO mc4 rfl Q0t (.tmp rfl) (.tmp rfl) Qhe
     |ok y=>
      obtain⟨hy1,hy2,hy3⟩:=hy;refine Qsx ?_;refine QX 13 Q5 rfl rfl Q8U Q6b rfl Q1 (fun b33 _=>?_);refine QK 14 Q5 rfl rfl Yp Q6b rfl (fun _ _=>?_);refine Qh6 ?_;refine Xn ?_ Q5;refine QrQ ?_;refine Qc Qto rfl Q1 (fun bn _=>?_);refine QrD ?_;refine QO mc4 rfl Q4H (.tmp rfl) (.tmp rfl) (fun w hw=>⟨hw.k.below,.inr ⟨ndL,.cons (ndN (j:Int)) .nil (.cons y.r.1 y.r.2.1 .nil),y.r.2.2,_,.rd (some ⟨bn,0,none⟩) 2 5 (Q3P j++y.cells)::([]++[]++y.L),by rw[<- HX.out,hy1];rfl,rfl,QU.list ((ZY.nil.snoc (QU.num (j:Int))).snoc hy2) (Nat.le_refl 2) Q1,?_⟩⟩);exact QsO
    ·refine QX 8 Q5 rfl rfl Qs5 (fun y=>.inr (by cases y<;>exact QA.sel [1,3] Q1 rfl)) rfl Q1 (fun y hy=>?_)
     cases y with
     |error x'=>
      have HZ:=Qrl;refine Qsd ?_;refine QK 14 Q5 rfl rfl Yp Q6b rfl (fun _ _=>?_);refine Qh6 ?_;refine Xn ?_ Q5;refine Qlr ?_;refine yW 2 ?_;refine QmR ?_;exact QO mc4 rfl Q0t (.tmp rfl) (.tmp rfl) Qhe
     |ok y=>
      obtain⟨hy1,hy2,hy3⟩:=hy;refine Qsd ?_;refine QK 14 Q5 rfl rfl Yp Q6b rfl (fun _ _=>?_);refine Qh6 ?_;refine Xn ?_ Q5;refine QrQ ?_;refine Qc Qto rfl Q1 (fun bn _=>?_);refine QrD ?_;refine QO mc4 rfl Q4H (.tmp rfl) (.tmp rfl) (fun w hw=>⟨hw.k.below,.inr ⟨ndL,.cons (ndN (j:Int)) .nil (.cons y.r.1 y.r.2.1 .nil),y.r.2.2,_,.rd (some ⟨bn,0,none⟩) 2 5 (Q3P j++y.cells)::([]++[]++y.L),by rw[<- HX.out,hy1];rfl,rfl,QU.list ((ZY.nil.snoc (QU.num (j:Int))).snoc hy2) (Nat.le_refl 2) Q1,?_⟩⟩);exact QsO
  ·have HX:=Q2 (show RES=some (.error p) from (HEM.out c HC.out (QbV fun m y hm hy=>HP.out m y Q3 hy)).symm);refine yq<|yq<|yr<|yo zM<|yo zF<|yo (zB 0)<|yo zL<|yo zlf<|yl<|yn<|y0<|ye<|yn<|yq<|yr<|yo zM ?_;refine QiW ?_;refine QfG ?_;exact QtB
end
end
section
variable {W w w':World}{p nn nd cd cf:Nat}{F:List Rl}{D:List UInt8}{Af Ad:Option Addr}{O:List Qb}{M:List Nat}{e:Ending}{k:Int}{res:Rdg (Nd×VF×Nat)}
theorem QwG(hv:Fm F)(f:Nat)(IH:IHf F D f)(hsome:∃y,Qq F D (f+1) k p=some y)(hk:0<=k/\k<F.length)(hp:p<=D.length)(h:Q5c W F D Af nn Ad nd cd)(hkind:(Ql F k).kind=7):
  Calls Tryz.prog 43 #[.agg #[.slice Af nn cf],.int .i64 k,.slice Ad nd cd,.int .i64 (p:Int)] W (FaE W (Qq F D (f+1) k p)):=by
 have H:=Q2 h;have HIH:=Q2 IH;have hD:=h.hD;obtain⟨hl,hFn⟩:=h.len;subst hl;have hr:=hv.toUsd.rok hk;obtain⟨RES,hres⟩:∃x,Qq F D (f+1) k p=x:=⟨_,rfl⟩;have e7:=(Qh9 (F:=F) (D:=D) (f:=f) (p:=p) (k:=k) hkind).symm.trans hres;have hpt:=hr.parts (.inl hkind);have hp12:=hr.p12;have hse:=hr.seven hkind;rw[hres] at hsome ⊢;have HS:=Q2 hsome;obtain⟨bf,of,haf,_⟩:=h.fm.2 (show 0<nn by omega);subst haf;obtain⟨hbB,Ab,cb,An,cn,Ap,cp,hrg,hru⟩:=h.fm.ruleB (k:=k) Q3;have hkn:0<=k/\k<(nn:Int):=by omega
 clear h hres hsome IH;obtain⟨r,er⟩:∃r,Ql F k=r:=⟨_,rfl⟩;rw[er] at hkind hr hrg hru e7 hpt hp12 hse;clear er;have HRP:=Q2 (show Rd W W.heap.size 1 Ap r.parts.length (iv r.parts) from hru.p);have HRN:=Q2 (show Rd W W.heap.size 1 An r.names.length (sv r.names) from hru.n);clear hru;obtain⟨name,kind,bs,size,big,mn,mx,stop,count,elem,names,parts⟩:=r;simp only[ruC] at hkind hr hrg e7 hpt hp12 hse HRP HRN;subst hkind;have HPT:=Q2 hpt;have HX:=Q2 (show RES=rb (Jm (Qq F D f) [] .nil names parts p) fun z=>okR (ndR z.1,z.2.1,z.2.2) by rw[<- e7,Q51]);clear e7 hpt;go_enter Tryz.func43,Tryz.ntmps43;refine Qv (M:=[]) (W:=W) (N:=447) (E:=[(0,.agg #[.slice (some ⟨bf,of,none⟩) nn cf]),(1,.int .i64 k),(2,.slice Ad D.length cd),(3,.int .i64 (p:Int))]) (O:=[]) ?_ (Ag.cons (Ag.cons mc3 rfl) rfl) (Wd.start [] W);refine yq<|yr ?_;refine yB fun b4=>?_;refine yA fun b8=>?_;refine yo zA<|yo zA<|yl<|yn<|yq<|yr<|yo zF<|yo (zB 1)<|yo zM ?_;refine Q4 (Qz rfl rfl Q1 rfl rfl rfl hkn) ?_;refine Q4 (X7 rfl rfl Q1 rfl rfl (fun w hw=>hw.range_old hrg Qm) rfl) ?_;refine yA fun b11=>?_;refine yW 0 ?_;refine yl<|yn<|yq<|yq<|yr<|yo zF<|yo (zB 0)<|yl<|yn<|yb<|yq<|yr<|yo zef<|yo zA<|yl<|yn<|y0<|yq<|yq<|yr<|yo zef<|yo zA<|yl<|yn<|y0<|yr<|yo zef<|yo zA<|yl<|yn<|y0<|yq<|yr<|yo zef<|yo zA<|yl<|yn<|y0<|yq<|yr<|yo zef<|yo zA<|yl<|yn<|y0<|yq<|yr<|yo zef<|yo zA<|yl<|yn<|y0<|yq<|yr<|yo zef<|yo zA<|yl<|yn<|y0<|yq<|yr<|yo zef<|yo zA<|yl<|yn<|y0<|yq<|yr<|yo zef<|yo zA<|yl<|yn<|y0<|ys<|yn<|yq<|yr ?_;refine Q4 (Xt (xs:=[(0,.const (.int .i64 4))]) (vs:=[(0,.int .i64 4)]) (v:=.agg #[.int .i64 4,.int .i64 0,.slice none 0 0,.slice none 0 0,.slice none 0 0]) rfl rfl Q1 rfl rfl (fun w=>run_build w _ _ _ Q5)) ?_;refine yA fun b36=>?_;refine yW 0 ?_;refine yl<|yn<|yq<|yq<|yr<|yo zA<|yl<|yn<|yb ?_;refine Xe (ι:=Sq) (fun y=>ZY y.L y.cs y.A/\KU y.L W.heap.size/\y.q<=D.length/\y.i<=parts.length/\y.A.len<=y.i/\y.N.length<=y.i/\RES=rb (Jm (Qq F D f) y.N y.A (names.drop y.i) (parts.drop y.i) y.q) fun z=>okR (ndR z.1,z.2.1,z.2.2)) (fun y=>parts.length - y.i) (fun y=>[(2,.slice Ad D.length cd),(3,.int .i64 (y.q:Int)),(4,.pointer (some ⟨b4,0,none⟩)),(8,.pointer (some ⟨b8,0,none⟩)),(11,.pointer (some ⟨b11,0,none⟩)),(36,.pointer (some ⟨b36,0,none⟩)),(37,.int .i64 (y.i:Int))]) (fun y=>.row y.Ar y.A.len y.c 30 5 y.cs::.row y.Nr y.N.length y.cN 9 1 (sv y.N)::.blk b36 (.cells ([.int .i64 4,.int .i64 0,.slice none 0 0,.slice y.Nr y.N.length y.cN,.slice y.Ar y.A.len y.c]:List Value).toArray 30 (0,0))::.blk b11 (.cells ([.string ⟨name.toArray⟩,.int .i64 7,.slice Ab bs.length cb,.int .i64 size,.bool big,.int .i64 mn,.int .i64 mx,.int .i64 stop,.int .i64 count,.int .i64 elem,.slice An names.length cn,.slice Ap parts.length cp]:List Value).toArray 65 (0,0))::.blk b8 (.cells zrL.toArray 30 (0,0))::.blk b4 (.cells ([.slice (some ⟨bf,of,none⟩) nn cf]:List Value).toArray 24 (0,0))::y.L) ⟨[],.nil,[],none,0,none,0,[],p,0⟩ ⟨.nil,.nil _,hp,Nat.zero_le _,Nat.le_refl _,Nat.le_refl _,HX.out⟩ (.cons rfl rfl (.cons rfl rfl (.cons rfl rfl mc1))) (fun w hw=>(hw.row _ _).row _ _) ?_;rintro⟨N,A,cs',Ar,c,Nr,cN,L,q,i⟩ ⟨hF,hL,hq,hi,hA,hN,hri⟩;replace hq:q<=D.length:=hq;replace hi:i<=parts.length:=hi;replace hA:A.len<=i:=hA;replace hN:N.length<=i:=hN;have HF:=Q2 hF;have HL:=Q2 hL;have HR:=Q2 hri;clear hF hL hri;show sE _ _ _ _ _ [(2,.slice Ad D.length cd),(3,.int .i64 (q:Int)),(4,.pointer (some ⟨b4,0,none⟩)),(8,.pointer (some ⟨b8,0,none⟩)),(11,.pointer (some ⟨b11,0,none⟩)),(36,.pointer (some ⟨b36,0,none⟩)),(37,.int .i64 (i:Int))] (.row Ar A.len c 30 5 cs'::.row Nr N.length cN 9 1 (sv N)::.blk b36 (.cells ([.int .i64 4,.int .i64 0,.slice none 0 0,.slice Nr N.length cN,.slice Ar A.len c]:List Value).toArray 30 (0,0))::.blk b11 (.cells ([.string ⟨name.toArray⟩,.int .i64 7,.slice Ab bs.length cb,.int .i64 size,.bool big,.int .i64 mn,.int .i64 mx,.int .i64 stop,.int .i64 count,.int .i64 elem,.slice An names.length cn,.slice Ap parts.length cp]:List Value).toArray 65 (0,0))::.blk b8 (.cells zrL.toArray 30 (0,0))::.blk b4 (.cells ([.slice (some ⟨bf,of,none⟩) nn cf]:List Value).toArray 24 (0,0))::L) _;by_cases hlt:i<parts.length
 case neg=>
  have HZ:=Q2 (show RES=some (.ok (ndR N,A,q)) by
   have h:=HR.out
   simp only at h
   rw[List.drop_of_length_le (l:=parts) Q3,Q87] at h
   exact h)
  refine yq<|yq<|yr<|yo zM<|yo zF<|yo (zB 3)<|yo zL<|yo zlf<|yl<|yn<|y0<|ye<|yn<|yq<|yr<|yo (zD 2)<|yo zM ?_;refine yW 4 ?_;refine yo zA<|yo zA<|yl<|yn<|yt ?_;refine QO mc4 rfl QdB (.tmp rfl) (.tmp rfl) (fun w hw=>⟨hw.k.below,.inr ⟨ndR N,A,q,_,.rd Ar A.len 5 cs'::.rd Nr N.length 1 (sv N)::L,HZ.out,rfl,QU.rec_ HF.out (XV 0 hw rfl).1 (XV 0 hw rfl).2 (XV 1 hw rfl).1,?_⟩⟩);exact((Q0p 0 hw rfl).app (Q0p 1 hw rfl)).app Qdz
 case pos=>
  obtain⟨bp,op,x,rfl,hbp,hx,hcx⟩:=Q4p HRP.out hlt;obtain⟨bm,om,s,rfl,hbm,hs,hcs⟩:=K0 HRN.out (show i<names.length by omega);have hxk:=HPT.out x YS
  have HR2:=Q2 (show RES=rb (Jm (Qq F D f) N A (s.data.toList::names.drop (i+1)) (x::parts.drop (i+1)) q) fun z=>okR (ndR z.1,z.2.1,z.2.2) by
   have h:=HR.out
   simp only at h
   rw[Q0Z hx,Q0Z hs] at h
   exact h)
  obtain⟨q1,hy1⟩:=Q9h (by rw[<- HR2.out];exact HS.out);have HY:=Q2 hy1;clear hy1 hx hs;have hfar:Far (Qq F D f x) D.length:=Xv hv.toUsd f hxk;refine yq<|yq<|yr<|yo zM<|yo zF<|yo (zB 3)<|yo zL<|yo zlt<|yl<|yn<|y1<|ys<|yn<|yq<|yb<|yq ?_;refine ZR [.blk b11 Qrw,.blk b4 QcI] [] Q5 ?_;refine Qn 0 rfl Q5 KP (zD 1) ?_;refine Qn 1 rfl Q5 KP zF ?_;refine Qn 2 rfl Q5 KP (zB 0) ?_;refine Qn 3 rfl Q5 KP zM ?_;refine Qn 4 rfl Q5 KP (zi1 (hj:=hlt)) ?_;refine Qn 5 rfl Q5 KP (zG hcx) ?_;refine Qn 6 rfl Q5 KP zM ?_;refine Qn 7 rfl Q5 KP zM ?_;refine Q6m 8 13 Q5 (JC rfl rfl Qtt (fun y=>.inr (by cases y<;>exact QA.sel [3,5] Q1 rfl)) rfl Q1 (fun y hy=>?_)) (JC rfl rfl Q8U Q6V rfl Q1 (fun b38 _=>?_))
  ·skip
   cases y with
   |error x'=>
    have HZ:=Qk9;refine QqF ?_;refine QX 13 Q5 rfl rfl Q8U Q6V rfl Q1 (fun b38 _=>?_);refine QK 14 Q5 rfl rfl Yp Q6V rfl (fun _ _=>?_);refine QhS ?_;refine Xn ?_ Q5;refine QjM ?_;exact QO mc4 rfl (RsV.blk 5 rfl rfl rfl) (.tmp rfl) (.tmp rfl) Qhe
   |ok y=>
    obtain⟨hy1,hy2,hy3⟩:=hy;refine QqF ?_;refine QX 13 Q5 rfl rfl Q8U Q6V rfl Q1 (fun b38 _=>?_);refine QK 14 Q5 rfl rfl Yp Q6V rfl (fun _ _=>?_);refine QhS ?_;refine Xn ?_ Q5;by_cases hz:s.data.toList=[]
    ·have hst:(s.data.toList != (⟨#[]⟩:ByteArray).data.toList)=false:=bne_eq_false_iff_eq.2 hz;refine yn<|yq<|yq<|yr<|yo zM<|yo zhf<|yl<|yn<|y0<|ys<|yn<|yq<|yq<|yr<|yo zF<|yo (zB 4)<|yo zM ?_;refine Q4 (Xz rfl rfl Q1 rfl rfl rfl (show i<names.length by omega)) ?_;refine yo (zG hcs) ?_;refine Q4 (Q0F rfl rfl Q1 rfl rfl rfl hst) ?_;refine yl<|yn<|y0<|ys<|yn<|yr<|yo zM<|yo zA<|yl<|yn<|yr<|yo zM<|yo zP<|yo zA<|yl ?_;refine Qu ⟨N,A,cs',Ar,c,Nr,cN,L++y.L,y.r.2.2,i+1⟩ ⟨HF.out.keepL y.L,HL.out.app hy3,(hfar q y.r hq hy1).2,by show i+1<=_;omega,by show A.len<=i+1;omega,by show N.length<=i+1;omega,by rw[HR2.out,Q6t hz hy1]⟩ (by show parts.length - (i+1)<parts.length - i;omega) (.cons rfl rfl (.cons rfl rfl (.cons rfl rfl mc2))) (fun w hw=>hw.tl)
    ·have hst:(s.data.toList != (⟨#[]⟩:ByteArray).data.toList)=true:=bne_iff_ne.2 hz;refine Qt8 ?_;refine QX 7 Q5 rfl rfl YZ QaC rfl Q1 (fun bs _=>?_);refine QX 8 Q5 rfl rfl YC QaC rfl Q1 (fun z1 _=>?_);refine Qn 9 rfl Q5 QoW zF ?_;refine QK 10 Q5 rfl rfl (JB 4 rfl rfl rfl rfl rfl rfl rfl) Vx rfl (fun _ _=>?_);refine Xn ?_ Q5;refine yn<|yr<|yo zF<|yo (zB 4)<|yo (zD 1) ?_;refine Qc Qtf rfl Q1 (fun bn _=>?_);refine Qc YC rfl Q1 (fun z2 _=>?_);refine Qon ?_;refine Qu Qdl QsS QcK Q0g (fun w hw=>?_);have h:=hw.tl.tl.tl
     exact Qcf
  ·refine QX 8 Q5 rfl rfl Qtt (fun y=>.inr (by cases y<;>exact QA.sel [4,6] Q1 rfl)) rfl Q1 (fun y hy=>?_)
   cases y with
   |error x'=>
    have HZ:=Qk9;refine QqI ?_;refine QK 14 Q5 rfl rfl Yp Q6V rfl (fun _ _=>?_);refine QhS ?_;refine Xn ?_ Q5;refine QjM ?_;exact QO mc4 rfl (RsV.blk 5 rfl rfl rfl) (.tmp rfl) (.tmp rfl) Qhe
   |ok y=>
    obtain⟨hy1,hy2,hy3⟩:=hy;refine QqI ?_;refine QK 14 Q5 rfl rfl Yp Q6V rfl (fun _ _=>?_);refine QhS ?_;refine Xn ?_ Q5;by_cases hz:s.data.toList=[]
    ·have hst:(s.data.toList != (⟨#[]⟩:ByteArray).data.toList)=false:=bne_eq_false_iff_eq.2 hz;refine yn<|yq<|yq<|yr<|yo zM<|yo zhf<|yl<|yn<|y0<|ys<|yn<|yq<|yq<|yr<|yo zF<|yo (zB 4)<|yo zM ?_;refine Q4 (Xz rfl rfl Q1 rfl rfl rfl (show i<names.length by omega)) ?_;refine yo (zG hcs) ?_;refine Q4 (Q0F rfl rfl Q1 rfl rfl rfl hst) ?_;refine yl<|yn<|y0<|ys<|yn<|yr<|yo zM<|yo zA<|yl<|yn<|yr<|yo zM<|yo zP<|yo zA<|yl ?_;refine Qu ⟨N,A,cs',Ar,c,Nr,cN,L++y.L,y.r.2.2,i+1⟩ ⟨HF.out.keepL y.L,HL.out.app hy3,(hfar q y.r hq hy1).2,by show i+1<=_;omega,by show A.len<=i+1;omega,by show N.length<=i+1;omega,by rw[HR2.out,Q6t hz hy1]⟩ (by show parts.length - (i+1)<parts.length - i;omega) (.cons rfl rfl (.cons rfl rfl (.cons rfl rfl mc2))) (fun w hw=>hw.tl)
    ·have hst:(s.data.toList != (⟨#[]⟩:ByteArray).data.toList)=true:=bne_iff_ne.2 hz;refine Qt8 ?_;refine QX 7 Q5 rfl rfl YZ QaC rfl Q1 (fun bs _=>?_);refine QX 8 Q5 rfl rfl YC QaC rfl Q1 (fun z1 _=>?_);refine Qn 9 rfl Q5 QoW zF ?_;refine QK 10 Q5 rfl rfl (JB 4 rfl rfl rfl rfl rfl rfl rfl) Vx rfl (fun _ _=>?_);refine Xn ?_ Q5;refine yn<|yr<|yo zF<|yo (zB 4)<|yo (zD 1) ?_;refine Qc Qtf rfl Q1 (fun bn _=>?_);refine Qc YC rfl Q1 (fun z2 _=>?_);refine Qon ?_;refine Qu Qdl QsS QcK Q0g (fun w hw=>?_);have h:=hw.tl.tl.tl
     exact Qcf
theorem Q3k(hv:Fm F):∀(f:Nat),IHf F D f
 |0=>fun W k p Af Ad nn nd cd cf hk hp h hs=>by obtain⟨y,hy⟩:=hs;cases hy
 |f+1=>fun W k p Af Ad nn nd cd cf hk hp h hs=>by
  have hkk:=(hv.toUsd.rok hk).kind;rcases (show (Ql F k).kind=1\/(Ql F k).kind=2\/(Ql F k).kind=3\/(Ql F k).kind=4\/(Ql F k).kind=5\/(Ql F k).kind=6\/(Ql F k).kind=7\/(Ql F k).kind=8\/(Ql F k).kind=9\/(Ql F k).kind=10 by omega) with h1|h1|h1|h1|h1|h1|h1|h1|h1|h1
  ·exact Q18 hv f hk hp h (.inl h1)
  ·exact Q18 hv f hk hp h (.inr (.inl h1))
  ·exact Q18 hv f hk hp h (.inr (.inr (.inl h1)))
  ·exact Q18 hv f hk hp h (.inr (.inr (.inr (.inl h1))))
  ·exact Q18 hv f hk hp h (.inr (.inr (.inr (.inr (.inl h1)))))
  ·exact QwF hv f Q9L hs hk hp h h1
  ·exact QwG hv f Q9L hs hk hp h h1
  ·exact QwE hv f Q9L hs hk hp h h1
  ·exact Qww hv f Q9L hs hk hp h h1
  ·exact Q18 hv f hk hp h (.inr (.inr (.inr (.inr (.inr h1)))))
end
theorem Qm3[dq:DQ]{ops:Array Oper}{C:World->Prop}{N:Nat}{E:Env}{o:Oper}{d:Nat}{x:Operand}{a b:Int}(ho:o.op=.field 32 x 0)(hd:o.dst=some d)(hN:d<N)(hw:Qi ops E o=some true)(hx:ev E x=some (.agg #[.int .i64 a,.int .i64 b])):oE Tryz.prog ops C N E ((d,.int .i64 a)::E) o:=
 X8 hd hN hw fun ρ w ha _=>by
  have h:(Instr.field 32 (.agg #[.int .i64 a,.int .i64 b]) 0).run Tryz.prog w=.ok (.int .i64 a) w:=by kernel_rfl
  exact Qmy
section
variable {W:World}{n c m c2:Nat}{F:List Rl}{D:List UInt8}{A A2:Option Addr}
theorem Q5f(hf:QW W W.heap.size A n F)(hs:FSm F)(hz:QF F=(0,0))(hd:Rd W W.heap.size 1 A2 m (bv D))(hmc:m<=c2):
  Calls Tryz.prog 14 #[.agg #[.slice A n c],.slice A2 m c2] W (Q8S F D W):=by
 have HF:=Q2 hf;have HS:=Q2 hs;have HZ:=Q2 hz;have HD:=Q2 hd;have HV:=Q2 (Q0O hz);have hDm:D.length=m:=by have:=hd.len;rw[Xr] at this;exact this
 subst hDm;have HK:=Qox;have HSO:=Q2 (Q98 HV.out D);clear hf hs hz hd;go_enter Tryz.func14,Tryz.ntmps14;refine Qv (M:=[]) (W:=W) (N:=41) (E:=[Yf,(1,.slice A2 D.length c2)]) (O:=[]) ?_ mc3 QT;by_cases hl:1000<D.length
 ·have HX:=Q2 (show Zn F D=((ndZ,.nil),(3,-2)) by unfold Zn;rw[if_neg (by simp [HZ.out]),if_pos hl])
  have hl':(1000:Int)<(D.length:Int):=by omega
  refine yq<|yr ?_;refine yB fun b2=>?_;refine yA fun b4=>?_;refine yA fun b5=>?_;refine yl<|yn<|yq<|yq<|yr<|yo zM<|yo zL<|yo zgt<|yl<|yn<|y1<|yq<|yr ?_;refine Q4 Qdn ?_;refine Q4 (Qg rfl rfl Q1 rfl rfl (fun w hw=>QeO _ _ w)) ?_;refine yW 1 ?_;refine yW 0 ?_;refine yl<|yn<|yt<|yc ?_;exact V9 mc4 rfl Zi Yy (fun w hw=>Kw HX.out hw.k.below)
 ·have hl':¬(1000:Int)<(D.length:Int):=by omega
  have HFA:=Q2 (show Q5c W F D A n A2 D.length c2 from ⟨HF.out,HD.out,by omega,hmc⟩);refine yq<|yr ?_;refine yB fun b2=>?_;refine yA fun b4=>?_;refine yA fun b5=>?_;refine yl<|yn<|yq<|yq<|yr<|yo zM<|yo zL<|yo zgf<|yl<|yn<|y0<|ys<|yn<|yq<|yr<|yo (zD 2)<|yo zM ?_;refine Qc (Xg faV (faP (Qq F D (VX F D) 0 0) W.heap.size) (faG _) rfl rfl rfl (fun w hw=>(Q3k HV.out (VX F D) w 0 0 _ _ _ _ _ _ HK.out XY (HFA.out.next hw.k.below) HSO.out).mono (fun e w' h=>QaJ hw h))) rfl Q1 (fun y hy=>?_);cases y with
  |error x=>
   have HX:=Q2 (Qat HZ.out hl (show Qq F D (VX F D) 0 0=some (.error x) from hy));refine yo zM<|yo zX<|yo zX<|yo zX ?_;refine yA fun b6=>?_;refine yW 0 ?_;refine yo zA<|yo zA<|yl<|yn<|yq<|yq<|yr<|yo zM<|yo zht<|yl<|yn<|y1<|yq<|yr ?_;refine Q4 Qdn ?_;refine yo zM ?_;refine Qlx ?_;exact Qki
  |ok y=>
   obtain⟨hy1,hy2,hy3⟩:=hy;have hfar:=Q7n HV.out hy1;have HY1:=Q2 hy1;have HY2:=Q2 hy2;have HY3:=Q2 hy3;clear hy1 hy2 hy3;by_cases hq:y.r.2.2<D.length
   ·have HX:=Q2 (Q3K HZ.out hl HY1.out hq);have hne:((y.r.2.2:Int) != (D.length:Int))=true:=bne_iff_ne.2 Q3;refine yo zM<|yo zX<|yo zX<|yo zX ?_;refine yA fun b6=>?_;refine yW 0 ?_;refine yo zA<|yo zA<|yl<|yn<|yq<|yq<|yr<|yo zM<|yo zhf<|yl<|yn<|y0<|ys<|yn<|yq<|yq<|yr<|yo zM<|yo zM<|yo zL<|yo zna<|yl<|yn<|y1<|yq<|yr ?_;refine Q4 Qdn ?_;refine yo zM ?_;refine Qlx ?_;exact Qki
   ·have hne:((y.r.2.2:Int) != (D.length:Int))=false:=bne_eq_false_iff_eq.2 Q3;have hsz:=QrE;have HSZ:=Q2 hsz;obtain⟨⟨va,vb⟩,hvf⟩:∃p,Z8 y.r.1 y.r.2.1=p:=⟨_,rfl⟩;have HVF:=Q2 hvf;clear hsz
    by_cases hv0:va=0
    ·subst hv0;have h1:Z8 y.r.1 y.r.2.1=(0,0):=Qv7 (by rw[hvf]);have HX:=Q2 (Q3C HZ.out hl HY1.out hq h1);clear hvf h1;refine yo zM<|yo zX<|yo zX<|yo zX ?_;refine yA fun b6=>?_;refine Qst ?_;refine yo znf<|yl<|yn<|y0<|ys<|yn<|yq<|yr<|yo (zD 0) ?_;refine Q4 mc6 ?_;refine yW 2 ?_;refine yW 1 ?_;refine yl<|yn<|yt ?_;exact V9 mc4 rfl Q0t Zi (fun w hw=>⟨QjN,by rw[HX.out],by rw[HX.out];exact HY2.out,HY3.out.new fun x hx=>hw.onAll x (by simp [faG,hx]),hw.k.below⟩)
    ·have HX:=Q2 (QdR HZ.out hl HY1.out hq (by rw[hvf];intro e;exact hv0 (congrArg Prod.fst e)));have hvn:(va != 0)=true:=bne_iff_ne.2 hv0;clear hvf;refine yo zM<|yo zX<|yo zX<|yo zX ?_;refine yA fun b6=>?_;refine Qst ?_;refine yo zna<|yl<|yn<|y1<|yq<|yr ?_;refine Q4 Qdn ?_;refine Qlx ?_;exact Qki
end
section
variable {A A2:Option Addr}{n c m c2:Nat}{W w:World}{F:List Rl}{D:List UInt8}{O:List Qb}
theorem Q9P{d:Nd}{l:VF}{cd x:Int}(hw:Wd [] W O w)(hf:QW w w.heap.size A n F)(hs:FSm F)(hz:QF F=(0,0))(hd:Rd w w.heap.size 1 A2 m (bv D))(hmc:m<=c2)(h:Zn F D=((d,l),(cd,x))):
  Calls Tryz.prog 14 #[.agg #[.slice A n c],.slice A2 m c2] w (Xf (fun y:Py=>.tuple #[.agg (y.cells d).toArray,.agg #[.int .i64 cd,.int .i64 x]]) (fun y=>QU y.L (.agg (y.cells d).toArray) d l) [] W (fun y=>O++y.L)):=
 (Q5f hf hs hz hd hmc).mono fun e w' ⟨y,h1,h2,h3,h4⟩=>by
  rw[h] at h1 h2;exact⟨y,h1,h2,hw.made h4 h3⟩
theorem Q2a(hf:QW W W.heap.size A n F)(hs:FSm F)(hc:n<=c)(hg:GV W)(hd:Rd W W.heap.size 1 A2 m (bv D))(hmc:m<=c2)(hc2:c2<=maxLen):
  Calls Tryz.prog 3 #[.agg #[.slice A n c],.slice A2 m c2] W (Qv3 W):=by
 have HF:=Q2 hf;have HS:=Q2 hs;have HG:=Q2 hg;have HD:=Q2 hd;obtain⟨⟨⟨d,l⟩,cd,x⟩,hp⟩:∃p,Zn F D=p:=⟨_,rfl⟩;have HP:=Q2 hp;obtain⟨⟨fa,fb⟩,hab⟩:∃p,QF F=p:=⟨_,rfl⟩;have HAB:=Q2 hab
 have HSZ:=Q2 (show d.ns.length<=1048576/\l.len<=1048576/\Z4 l by
  by_cases hz:cd=0
  ·have hok:(Zn F D).2.1=0:=by rw[hp];exact hz
   have h:Sz d l:=by have:=Qpx HS.out hok;rw[hp] at this;exact this
   exact⟨h.1.2.2.1,h.2.2,h.2.1⟩
  ·have hbad:(Zn F D).1=(ndZ,.nil):=QkP (by rw[hp];exact hz);rw[hp] at hbad;have e1:d=ndZ:=congrArg Prod.fst hbad;have e2:l=.nil:=congrArg Prod.snd hbad;subst e1 e2
   exact⟨by decide,by decide,trivial⟩)
 clear hf hs hg hd;go_enter Tryz.func3,Tryz.ntmps3;refine Qv (M:=[]) (W:=W) (N:=45) (E:=[Yf,Qa1]) (O:=[]) ?_ mc3 QT;refine yq<|yr ?_;refine yB fun b2=>?_;refine yo zA<|yl<|yn<|yq<|yq<|yr ?_;refine Q4 (Qg rfl rfl Q1 rfl rfl (fun w hw=>Q83 Q05)) ?_;refine yo zO<|yl<|yn<|y0<|ys<|yn<|yq<|yr<|yo (zD 0)<|yo zM ?_;refine Qc (Xg _ _ _ rfl rfl rfl (fun w hw=>Q2z hw Q6w HS.out hc Q05 (HD.out.up hw.k.below) hmc hc2 HP.out)) rfl Q1 (fun y hy=>?_);refine Q6I ?_;refine yA fun b5=>?_;refine yA fun b6=>?_;refine yW 1 ?_;refine yW 0 ?_;refine QhO ?_;refine Q4 (Qg rfl rfl Q1 rfl rfl (fun w hw=>(QaP Q6w HS.out).mono (fun _ _ h=>by rw[HAB.out] at h;exact h))) ?_;refine yA fun b7=>?_;refine Q4f ?_;have HY:=Q2 hy;clear hy;by_cases hz:fa=0
 ·subst hz;have h0:QF F=(0,0):=QbF (by rw[hab]);have H0:=Q2 h0
  have e2:fb=0:=by rw[h0] at hab;exact(congrArg Prod.snd hab).symm
  subst e2;clear hab h0 hp;refine yn<|yq<|yr<|yo zF<|yo (zB 0)<|yo znf<|yl<|yn<|y0<|ys<|yn<|yq<|yr<|yo (zD 3)<|yo zM ?_;refine Qc (Xg _ _ _ rfl rfl rfl (fun w hw=>Q9P hw Q6w HS.out H0.out (HD.out.up hw.k.below) hmc HP.out)) rfl Q1 (fun z hz=>?_);refine Q6I ?_;refine yA fun b8=>?_;refine yA fun b9=>?_;refine yW 1 ?_;refine yW 0 ?_;refine yl<|yn<|yq<|yr<|yo (zD 3)<|yo (zD 0) ?_;refine Q4 Qr6 ?_;refine yo zM<|yo (zD 4)<|yo (zD 1) ?_;refine Q4 (Qg rfl rfl Q1 rfl rfl (fun w hw=>Q0i d l d l w _ _ HSZ.out.1 HSZ.out.2.1 HSZ.out.2.2 (HY.out.vin fun x hx=>hw.onAll x Q00) (hz.vin fun x hx=>hw.onAll x Q00))) ?_;refine yo zY<|yo zA<|yl<|yn<|yt ?_;exact Qmc
 ·have hq2:Zn F D=((ndZ,.nil),(fa,fb)):=by unfold Zn;rw[if_pos (by rw[hab];intro e;exact hz (congrArg Prod.fst e)),hab]
  rw[hp] at hq2;have e1:d=ndZ:=congrArg (fun p=>p.1.1) hq2;have e2:l=.nil:=congrArg (fun p=>p.1.2) hq2;have e3:cd=fa:=congrArg (fun p=>p.2.1) hq2;have e4:x=fb:=congrArg (fun p=>p.2.2) hq2;subst e1 e2 e3 e4;have hnz:=neI hz;clear hq2 hp hab;refine yn<|yq<|yr<|yo zF<|yo (zB 0)<|yo zna<|yl<|yn<|y1<|yq<|yr<|yo (zD 1)<|yo (zD 0) ?_;refine Q4 Qr6 ?_;refine yo zM<|yo (zD 2) ?_;refine Q4 Qd3 ?_;refine Q4 (Qg rfl rfl Q1 rfl rfl (fun w hw=>Q0i ndZ .nil ndZ .nil w _ _ Q1 Q1 trivial (HY.out.vin fun x hx=>hw.onAll x Q00) (QU.zero.vin fun x hx=>by cases hx))) ?_;refine yo zY<|yo zA<|yl<|yn<|yt<|yc ?_;exact Qmc
end
end Go.Proofs.YtphkhfdmlcnoeaaGreatDoor
