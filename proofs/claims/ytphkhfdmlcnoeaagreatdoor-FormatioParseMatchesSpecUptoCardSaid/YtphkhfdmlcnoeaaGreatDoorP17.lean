import Derived.Test.YtphkhfdmlcnoeaaGreatDoorP16
namespace Go.Proofs.YtphkhfdmlcnoeaaGreatDoor
set_option linter.unusedVariables false
set_option linter.unusedSimpArgs false
set_option maxRecDepth 1000000
set_option maxHeartbeats 32000000
open Go.RowKit
section
variable {A:Option Addr}{W1 w:World}{c i:Nat}{d:Nd}{ns:List (List UInt8)}{p:VF}{rc:Bool}{v:Value}
def Ql2(d:Nd)(p:VF):Prop:=XN d->Z4 p->p.len<=1048576->QP d p.len=0->Yh p->(XM d p).length<=1099511627776->∀(w:World) (v:Value),VIn w w.heap.size v d p->
 Calls Tryz.prog 102 #[v] w (JP w (XM d p))
theorem QfK(hv:VIn w w.heap.size v d p)(hf:XN d)(hk:d.k=1):Calls Tryz.prog 102 #[v] w (JP w (XM d p)):=by
 have HE:=Q2 (QcB (d:=d) (p:=p) hk);obtain⟨sb,sn,sp,rfl,Ab,nb,cb,An,nn,cn,Ap,cp,rfl,rfl,rfl,hbc,hnc,hpc,hpm,hrb,hrn,hp⟩:=hv;obtain⟨⟨h1,h2,h3,h4⟩,_⟩:=hf;have hl1:=XG d.k h1 h2;have hl2:=XG d.n h3 h4;have hk1:(d.k==1)=true:=by simp [hk]
 clear hrb hrn hp hk;go_enter Tryz.func102,Tryz.ntmps102;go_wp2_with fail
 refine(XX d.k _ h1 h2).mono ?_;rintro e w1 ⟨A1,c1,rfl,hown1,hb1⟩;have hz1:=hb1.size;have q0:w1.cell? ⟨w.heap.size,0,none⟩=some (.int .i64 d.k):=Q4C;have q1:w1.cell? ⟨w.heap.size,1,none⟩=some (.int .i64 d.n):=Q4C;simp only[Qx] at hz1 hown1;have HB1:=Qnb;clear hb1;go_wp2_with fail
 refine(XX d.n _ h3 h4).mono ?_;rintro e w2 ⟨A2,c2,rfl,hown2,hb2⟩;have hz2:=hb2.size;have HB2:=Q2 (X2 HB1.out hb2);have hown1':=Qab;go_wp2_with (at_builtin;refine XW _ slB rfl (.tmp 13) (.tmp 16) rfl (w.heap.size+1) A1 (num d.k).length c1 (bv (num d.k)) rfl hown1' _ A2 (num d.n).length c2 (bv (num d.n)) rfl (Rd.of_own hown2) (VM _) Q3 Q3 HB2.out Q3 ?_;intro A3 c3 w3 hown3 _ hb3)
 exact QoP
theorem QaZ(hv:VIn w w.heap.size v d p)(hf:XN d)(hk:d.k=2):Calls Tryz.prog 102 #[v] w (JP w (XM d p)):=by
 have HE:=Q2 (Q5O (d:=d) (p:=p) hk);obtain⟨sb,sn,sp,rfl,Ab,nb,cb,An,nn,cn,Ap,cp,rfl,rfl,rfl,hbc,hnc,hpc,hpm,hrb,hrn,hp⟩:=hv;obtain⟨⟨h1,h2,h3,h4⟩,hbl,_⟩:=hf;have hl1:=XG d.k h1 h2;have hnb:d.bs.length=nb:=by have:=hrb.len;rw[Xr] at this;exact this
 have hl2:=YU d.bs Q3;have hnb':nb<=1048576:=by omega
 have hk1:(d.k==1)=false:=by simp [hk]
 have hk2:(d.k==2)=true:=by simp [hk]
 have HRB:=Q2 hrb;clear hrb hrn hp hk hnb;go_enter Tryz.func102,Tryz.ntmps102;go_wp2_with fail
 refine(XX d.k _ h1 h2).mono ?_;rintro e w1 ⟨A1,c1,rfl,hown1,hb1⟩;have hz1:=hb1.size;have q0:w1.cell? ⟨w.heap.size,0,none⟩=some (.int .i64 d.k):=Q4C;have q2:w1.cell? ⟨w.heap.size,2,none⟩=some (.slice Ab nb cb):=Q4C;simp only[Qx] at hz1 hown1;have HB1:=Qnb;clear hb1;go_wp2_with fail
 refine(Q4G (bs:=d.bs) ((HRB.out.below HB1.out).more HB1.out.size) Q3).mono ?_;rintro e w2 ⟨A2,c2,rfl,hown2,hb2⟩;have hz2:=hb2.size;have HB2:=Q2 (X2 HB1.out hb2);have hown1':=Qab;go_wp2_with (at_builtin;refine XW _ slB rfl (.tmp 20) (.tmp 23) rfl (w.heap.size+1) A1 (num d.k).length c1 (bv (num d.k)) rfl hown1' _ A2 (ZE d.bs).length c2 (bv (ZE d.bs)) rfl (Rd.of_own hown2) (VM _) Q3 Q3 HB2.out Q3 ?_;intro A3 c3 w3 hown3 _ hb3)
 exact QoP
def Q9I(w W1:World)(pre:List UInt8)(p:VF)(rc:Bool)(ns:List (List UInt8))(out k:Value)(wr:World):Prop:=
 ∃(i:Nat) (A:Option Addr) (c:Nat),i<=p.len/\k=.int .i64 (i:Int)/\out=.slice A (pre++XI (p.take i) rc ns).length c/\
  wr.ownsRow W1.heap.size 5 1 (.slice A (pre++XI (p.take i) rc ns).length c) (pre++XI (p.take i) rc ns).length (bv (pre++XI (p.take i) rc ns))/\Below W1.heap.size W1 wr
theorem QoT{r F:VF}(h:VF.All Ql2 (F.drop i))(hd:F.drop i=.cons d p r)(hf:Z4 (F.drop i))(hg:Yh (F.drop i))(hl:(XM d p).length<=1099511627776):∀(w:World) (v:Value),VIn w w.heap.size v d p->
  Calls Tryz.prog 102 #[v] w (JP w (XM d p)):=by
 rw[hd] at h hf hg;exact h.1 hf.1 hf.2.2.1 hf.2.1 hg.1 hg.2.1 hl
theorem Q8o{w3:World}{nk nnp:List UInt8}(h:w3.ownsRow W1.heap.size 5 1 (.slice A (nk.length+nnp.length) c) (nk.length+nnp.length) (bv nk++bv nnp))(hb:Below W1.heap.size W1 w3):
  Q9I w W1 (nk++nnp) p rc ns (.slice A (nk.length+nnp.length) c) (.int .i64 0) w3:=by
 have e:nk++nnp++XI (p.take 0) rc ns=nk++nnp:=by rw[VF.take_zero];simp [XI]
 refine⟨0,A,c,Nat.zero_le _,rfl,?_,?_,hb⟩
 ·rw[e,List.length_append]
 ·rw[e,List.length_append,Q09];exact h
theorem QdK{w4:World}{pre add:List UInt8}{n:Nat}{xs:List Value}(hi:i<p.len)(hadd:XI (p.take (i+1)) rc ns=XI (p.take i) rc ns++add)(h:w4.ownsRow W1.heap.size 5 1 (.slice A n c) n xs)(hx:xs=bv (pre++XI (p.take i) rc ns)++bv add)(hn:n=(pre++XI (p.take i) rc ns).length+add.length)(hb:Below W1.heap.size W1 w4):
  Q9I w W1 pre p rc ns (.slice A n c) (.int .i64 ((i:Int)+1)) w4:=by
 subst hx hn;have e:pre++XI (p.take (i+1)) rc ns=(pre++XI (p.take i) rc ns)++add:=by rw[hadd,List.append_assoc]
 refine⟨i+1,A,c,hi,by go_num,?_,?_,hb⟩
 ·rw[e];simp only[List.length_append]
 ·rw[e,List.length_append,Q09];exact h
theorem QpC(F:VF)(ns:List (List UInt8))(i:Nat)(d:Nd)(p r:VF)(h:F.drop i=.cons d p r):XI (F.take (i+1)) false ns=XI (F.take i) false ns++XM d p:=by
 rw[Q4d F false ns i d p r h];simp
theorem QnQ(F:VF)(ns:List (List UInt8))(i:Nat)(d:Nd)(p r:VF)(s:List UInt8)(h:F.drop i=.cons d p r)(hs:ns[i]? =some s):XI (F.take (i+1)) true ns=XI (F.take i) true ns++(ZE s++XM d p):=by
 rw[Q4d F true ns i d p r h];have:(ns.drop i).headD []=s:=by
  have e:(ns.drop i)[0]? =some s:=by rw[List.getElem?_drop];simpa using hs
  cases hd:ns.drop i with
  |nil=>rw[hd] at e;simp at e
  |cons x l=>rw[hd] at e;simp at e;simp [e]
 rw[this];simp
theorem Qbp(hall:VF.All Ql2 p)(hv:VIn w w.heap.size v d p)(hf:XN d)(hfp:Z4 p)(hgp:Yh p)(hpl:p.len<=1048576)(hk:d.k=3)(hlen:(XM d p).length<=1099511627776):Calls Tryz.prog 102 #[v] w (JP w (XM d p)):=by
 have he:=Q23 (d:=d) (p:=p) Q3 Q3;have hrc:(d.k==4)=false:=by simp [hk]
 rw[hrc] at he;rw[he] at hlen;have HRC:=Q2 hrc;obtain⟨sb,sn,sp,rfl,Ab,nb,cb,An,nn,cn,Ap,cp,rfl,rfl,rfl,hbc,hnc,hpc,hpm,hrb,hrn,hp⟩:=hv;obtain⟨⟨h1,h2,h3,h4⟩,_⟩:=hf;have hl1:=XG d.k h1 h2;have hl2:=XG (p.len:Int) Q3 Q3;have hk1:(d.k==1)=false:=by simp [hk]
 have hk2:(d.k==2)=false:=by simp [hk]
 have HP:=Q2 hp;have HFP:=Q2 hfp;have HGP:=Q2 hgp;have HALL:=Q2 hall;simp only[List.length_append] at hlen;obtain⟨np,hnp⟩:∃np,p.len=np:=⟨_,rfl⟩;have HNP:=Q2 hnp;rw[hnp] at hpl hpc hl2 hlen he ⊢;have HE:=Q2 he;clear he;clear hrb hrn hp hk hfp hgp hall hnp;go_enter Tryz.func102,Tryz.ntmps102;go_wp2_with fail
 refine(XX d.k _ h1 h2).mono ?_;rintro e w1 ⟨A1,c1,rfl,hown1,hb1⟩;have hz1:=hb1.size;have q0:w1.cell? ⟨w.heap.size,0,none⟩=some (.int .i64 d.k):=Q4C;have q4:w1.cell? ⟨w.heap.size,4,none⟩=some (.slice Ap np cp):=Q4C;have HW1:=Q2 hb1;clear hb1;go_wp2_with fail
 refine(XX (np:Int) _ Q3 Q3).mono ?_;rintro e w2 ⟨A2,c2,rfl,hown2,hb2⟩;have hz2:=hb2.size;have HB2:=Q2 (HW1.out.trans (hb2.mono hz1));have hown1':=Qab;obtain⟨W1,hW1⟩:∃W1,w.alloc (.cells #[.int .i64 d.k,.int .i64 d.n,.slice Ab nb cb,.slice An nn cn,.slice Ap np cp] 30)=W1:=⟨_,rfl⟩;have hW1z:W1.heap.size=w.heap.size+1:=by rw[<- hW1];simp
 have HWB:=Qo7;rw[hW1] at hown1 hown1' hz1 HB2 HW1;have HBX:=Q2 (show W1.cell? Q0u=some (.int .i64 d.k)/\W1.cell? ⟨w.heap.size,4,none⟩=some (.slice Ap np cp) by rw[<- hW1];exact⟨by simp,by simp⟩);have HZ:=Q2 hW1z;clear hW1 hb2;generalize num d.k=nk at*
 generalize num (np:Int)=nnp at*
 have hzle:w.heap.size<W1.heap.size:=by omega
 clear hW1z;go_wp2_with (at_builtin;refine XW _ slB rfl (.tmp 25) (.tmp 29) rfl W1.heap.size A1 nk.length c1 (bv nk) rfl hown1' _ A2 nnp.length c2 (bv nnp) rfl (Rd.of_own hown2) (VM _) Q3 Q3 HB2.out Q3 ?_;intro A3 c3 w3 hown3 _ hb3;have q40:=(hb3.cell (p:=⟨w.heap.size,4,none⟩) (by exact hzle)).trans HBX.out.2)
 go_loopw [3,34] (Q9I w W1 (nk++nnp) p false d.ns) (fun _ k _=>np - (intOf k).toNat)
 case atStart=>exact Q8o hown3 hb3
 case round=>
  clear hown3 hb3 q40 hown1 hown1' hown2 q0 q4 HB2 HW1 hz1 hz2;obtain⟨i,A,c,hi,rfl,rfl,hown,hbw⟩:=hrel;rw[HNP.out] at hi;have HBW:=Q2 hbw;have HWR:=Qkx;have hzw:=hbw.size;have r0:wr.cell? ⟨w.heap.size,0,none⟩=some (.int .i64 d.k):=(hbw.cell (by exact hzle)).trans HBX.out.1;clear hbw;by_cases hlt:i<np
  ·obtain⟨b,o,hAp,hb,hfin⟩:=HP.out Q6o
   subst hAp;obtain⟨d',p',hdr⟩:=VF.drop_cons (F:=p) (i:=i) Qcl;have hl':(XM d' p').length<=1099511627776:=Nat.le_trans (Q8g (rc:=false) (ns:=d.ns) hdr) Q3;have hlacc:=Q0N (F:=p) (rc:=false) (ns:=d.ns) (i:=i);have hlacc2:=Q0N (F:=p) (rc:=false) (ns:=d.ns) (i:=i+1);obtain⟨sb',sn',sp',⟨k0,k1,k2,k3,k4⟩,hd'⟩:=hfin.at_ hdr;have HV':Hid (VIn w w.heap.size (.agg #[.int .i64 d'.k,.int .i64 d'.n,sb',sn',sp']) d' p'):=Qeh;obtain⟨Ab',nb',cb',An',nn',cn',Ap',cp',rfl,rfl,rfl,_⟩:=hd';have q0:=(HWR.out.cell Jt).trans k0;have q1:=(HWR.out.cell Jt).trans k1;have q2:=(HWR.out.cell Jt).trans k2;have q3:=(HWR.out.cell Jt).trans k3;have q4:=(HWR.out.cell Jt).trans k4;clear k0 k1 k2 k3 k4 hfin;have HCT:=QsV;have HADD:=Q2 (QpC p d.ns i d' p' _ hdr);clear hdr;have hrc':=HRC.out;have hzlt:w.heap.size<wr.heap.size:=by omega
   have r0':∀ob,(wr.alloc ob).cell? ⟨w.heap.size,0,none⟩=some (.int .i64 d.k):=fun ob=>Qf r0;have hli:(i:Int)<(np:Int):=by omega
   have h0:(0:Int)<=(i:Int):=by omega
   obtain⟨acc,hacc⟩:∃acc,nk++nnp++XI (p.take i) false d.ns=acc:=⟨_,rfl⟩;have HACC:=Q2 hacc;have hal:acc.length=nk.length+nnp.length+(XI (p.take i) false d.ns).length:=by rw[<- hacc];simp;omega
   rw[hacc] at hown ⊢;have hal':acc.length<=1099511627776:=by omega
   clear hacc hal;go_wp2_with fail
   refine(HCT.out _ _ ((HV'.out.below HWR.out Xo).keep (fun q hq=>(JS _ _).cell Q3) Zt)).mono ?_;rintro e w4 ⟨A4,c4,rfl,hown4,hb4⟩;have hz4:=hb4.size;have HB4:=Q2 (show Below W1.heap.size W1 w4 from HBW.out.trans ((X2 (JS wr _) hb4).mono hzw));have hown':=ZQ (ZQ hown (JS wr _) Xo) hb4 Zt;clear hb4;go_wp2_with (at_builtin;refine XW _ slB rfl (.tmp 51) (.tmp 53) rfl W1.heap.size A acc.length c (bv acc) rfl hown' _ A4 (XM d' p').length c4 (bv (XM d' p')) rfl (Rd.of_own hown4) (VM _) Q3 (by have:=HB4.out.size;omega) HB4.out (Nat.le_refl _) ?_;intro A5 c5 w5 hown5 _ hb5)
   exact⟨QdK Qcl HADD.out hown5 (by rw[HACC.out]) (by rw[HACC.out]) hb5,by simp [intOf];omega⟩
  ·have HAL:=Q2 (show p.take i=p from VF.take_all Q6o)
   go_wp2_with fail
   go_ret;rw[HE.out];refine JP.as (JL hown Q3) rfl ?_ HWR.out;rw[HAL.out,List.append_assoc]
end
section
variable {d:Nd}{p:VF}{v:Value}{w:World}
theorem Qjs{wr w6 w7:World}{base e s n:Nat}{xs:List Value}(hg:w6.grownBy w7 v.ownBlock)(hown:wr.ownsRow base e s v n xs)(hz:wr.heap.size<w6.heap.size):∀o,w7.cell? ⟨wr.heap.size,o,none⟩=w6.cell? ⟨wr.heap.size,o,none⟩:=by
 intro o;have h:=hg.block wr.heap.size hz (fun e=>by have:=(hown.lt _ e.symm).2;omega);simp only[World.cell?,h]
theorem QeY(hall:VF.All Ql2 p)(hv:VIn w w.heap.size v d p)(hf:XN d)(hfp:Z4 p)(hgp:Yh p)(hpl:p.len<=1048576)(hk:d.k=4)(hnl:d.ns.length=p.len)(hlen:(XM d p).length<=1099511627776):Calls Tryz.prog 102 #[v] w (JP w (XM d p)):=by
 have he:=Q23 (d:=d) (p:=p) Q3 Q3;have hrc:(d.k==4)=true:=by simp [hk]
 rw[hrc] at he;rw[he] at hlen;have HRC:=Q2 hrc;obtain⟨sb,sn,sp,rfl,Ab,nb,cb,An,nn,cn,Ap,cp,rfl,rfl,rfl,hbc,hnc,hpc,hpm,hrb,hrn,hp⟩:=hv;obtain⟨⟨h1,h2,h3,h4⟩,_,_,hf4⟩:=hf;have hl1:=XG d.k h1 h2;have hl2:=XG (p.len:Int) Q3 Q3;have hk1:(d.k==1)=false:=by simp [hk]
 have hk2:(d.k==2)=false:=by simp [hk]
 have HRN:=Q2 hrn;have hnn:nn=p.len:=by have:=hrn.len;rw[JE] at this;omega
 have HP:=Q2 hp;have HFP:=Q2 hfp;have HGP:=Q2 hgp;have HALL:=Q2 hall;simp only[List.length_append] at hlen;obtain⟨np,hnp⟩:∃np,p.len=np:=⟨_,rfl⟩;have HNP:=Q2 hnp;rw[hnp] at hpl hpc hl2 hlen he hnl hnn ⊢;have HE:=Q2 he;clear he;have HNS:=Q2 hf4;clear hrb hrn hp hk hfp hgp hall hnp hf4;have hnn1:nn<=np:=by omega
 have hnn2:np<=nn:=by omega
 clear hnn hnl;go_enter Tryz.func102,Tryz.ntmps102;go_wp2_with fail
 refine(XX d.k _ h1 h2).mono ?_;rintro e w1 ⟨A1,c1,rfl,hown1,hb1⟩;have hz1:=hb1.size;have q0:w1.cell? ⟨w.heap.size,0,none⟩=some (.int .i64 d.k):=Q4C;have q4:w1.cell? ⟨w.heap.size,4,none⟩=some (.slice Ap np cp):=Q4C;have HW1:=Q2 hb1;clear hb1;go_wp2_with fail
 refine(XX (np:Int) _ Q3 Q3).mono ?_;rintro e w2 ⟨A2,c2,rfl,hown2,hb2⟩;have hz2:=hb2.size;have HB2:=Q2 (HW1.out.trans (hb2.mono hz1));have hown1':=Qab;obtain⟨W1,hW1⟩:∃W1,w.alloc (.cells #[.int .i64 d.k,.int .i64 d.n,.slice Ab nb cb,.slice An nn cn,.slice Ap np cp] 30)=W1:=⟨_,rfl⟩;have hW1z:W1.heap.size=w.heap.size+1:=by rw[<- hW1];simp
 have HWB:=Qo7;rw[hW1] at hown1 hown1' hz1 HB2 HW1;have HBX:=Q2 (show W1.cell? Q0u=some (.int .i64 d.k)/\W1.cell? ⟨w.heap.size,4,none⟩=some (.slice Ap np cp)/\W1.cell? ⟨w.heap.size,3,none⟩=some (.slice An nn cn) by rw[<- hW1];exact⟨by simp,by simp,by simp⟩);have HZ:=Q2 hW1z;clear hW1 hb2;generalize num d.k=nk at*
 generalize num (np:Int)=nnp at*
 have hzle:w.heap.size<W1.heap.size:=by omega
 clear hW1z;go_wp2_with (at_builtin;refine XW _ slB rfl (.tmp 25) (.tmp 29) rfl W1.heap.size A1 nk.length c1 (bv nk) rfl hown1' _ A2 nnp.length c2 (bv nnp) rfl (Rd.of_own hown2) (VM _) Q3 Q3 HB2.out Q3 ?_;intro A3 c3 w3 hown3 _ hb3;have q40:=(hb3.cell (p:=⟨w.heap.size,4,none⟩) (by exact hzle)).trans HBX.out.2.1)
 go_loopw [3,34] (Q9I w W1 (nk++nnp) p true d.ns) (fun _ k _=>np - (intOf k).toNat)
 case atStart=>exact Q8o hown3 hb3
 case round=>
  clear hown3 hb3 q40 hown1 hown1' hown2 q0 q4 HB2 HW1 hz1 hz2;obtain⟨i,A,c,hi,rfl,rfl,hown,hbw⟩:=hrel;rw[HNP.out] at hi;have HBW:=Q2 hbw;have HWR:=Qkx;have hzw:=hbw.size;have r0:wr.cell? ⟨w.heap.size,0,none⟩=some (.int .i64 d.k):=(hbw.cell (by exact hzle)).trans HBX.out.1;clear hbw;by_cases hlt:i<np
  ·obtain⟨b,o,hAp,hb,hfin⟩:=HP.out Q6o
   subst hAp;obtain⟨d',p',hdr⟩:=VF.drop_cons (F:=p) (i:=i) Qcl;have hl':(XM d' p').length<=1099511627776:=Nat.le_trans (Q8g (rc:=true) (ns:=d.ns) hdr) Q3;have hlacc:=Q0N (F:=p) (rc:=true) (ns:=d.ns) (i:=i);have hlacc2:=Q0N (F:=p) (rc:=true) (ns:=d.ns) (i:=i+1);obtain⟨sb',sn',sp',⟨k0,k1,k2,k3,k4⟩,hd'⟩:=hfin.at_ hdr;have HV':Hid (VIn w w.heap.size (.agg #[.int .i64 d'.k,.int .i64 d'.n,sb',sn',sp']) d' p'):=Qeh;obtain⟨Ab',nb',cb',An',nn',cn',Ap',cp',rfl,rfl,rfl,_⟩:=hd';have q0:=(HWR.out.cell Jt).trans k0;have q1:=(HWR.out.cell Jt).trans k1;have q2:=(HWR.out.cell Jt).trans k2;have q3:=(HWR.out.cell Jt).trans k3;have q4:=(HWR.out.cell Jt).trans k4;clear k0 k1 k2 k3 k4 hfin;have HCT:=QsV;have hni:i<nn:=by omega
   obtain⟨bn,on,s,hAn,hbn,hsn,hcn⟩:=K0 HRN.out hni;subst hAn;have HADD:=Q2 (QnQ p d.ns i d' p' _ _ hdr hsn);have hsl:s.size<=1048576:=by simpa using HNS.out _ (List.mem_of_getElem? hsn)
   have hchl:(ZE s.data.toList).length<=1048586:=by
    have h1:=YU s.data.toList (by simpa using (show s.size<=140737488355318 by omega));have h2:s.data.toList.length=s.size:=by simp
    omega
   rw[HADD.out] at hlacc2;simp only[List.length_append] at hlacc2;have s3:wr.cell? ⟨w.heap.size,3,none⟩=some (.slice (some ⟨bn,on,none⟩) nn cn):=(HBW.out.cell (by exact hzle)).trans HBX.out.2.2;have sc:wr.cell? ⟨bn,on+i,none⟩=some (.string s):=(HWR.out.cell (by exact hbn)).trans hcn;have hni':(i:Int)<(nn:Int):=by omega
   have hcv:=Qil s;have s3':∀ob,(wr.alloc ob).cell? ⟨w.heap.size,3,none⟩=some (.slice (some ⟨bn,on,none⟩) nn cn):=fun ob=>Qf s3;have sc':∀ob,(wr.alloc ob).cell? ⟨bn,on+i,none⟩=some (.string s):=fun ob=>Qf sc;clear hsn hcn;clear hdr;have hrc':=HRC.out;have hzlt:w.heap.size<wr.heap.size:=by omega
   have r0':∀ob,(wr.alloc ob).cell? ⟨w.heap.size,0,none⟩=some (.int .i64 d.k):=fun ob=>Qf r0;have hli:(i:Int)<(np:Int):=by omega
   have h0:(0:Int)<=(i:Int):=by omega
   obtain⟨acc,hacc⟩:∃acc,nk++nnp++XI (p.take i) true d.ns=acc:=⟨_,rfl⟩;have HACC:=Q2 hacc;have hal:acc.length=nk.length+nnp.length+(XI (p.take i) true d.ns).length:=by rw[<- hacc];simp;omega
   rw[hacc] at hown ⊢;have hal':acc.length<=1099511627776:=by omega
   clear hacc hal;go_wp2_with fail
   have hb5:=QaB (wr.alloc (.cells #[.int .i64 d'.k,.int .i64 d'.n,.slice Ab' nb' cb',.slice An' nn' cn',.slice Ap' p'.len cp'] 30)) s;have hz5:=hb5.size;refine(Q4G (bs:=s.data.toList) (QiU _ _ _ X4) Q3).mono ?_;rintro e w6 ⟨A6,c6,rfl,hown6,hb6⟩;have hz6:=hb6.size;have HB6:=Q2 (show Below wr.heap.size wr w6 from X2 (X2 (JS _ _) hb5) hb6);have hz66:=HB6.out.size
   have HX:=(show Yk w6 wr.heap.size 0 d' (.slice Ab' nb' cb') (.slice An' nn' cn') (.slice Ap' p'.len cp') from by
    have hk:∀o,w6.cell? ⟨wr.heap.size,o,none⟩=(wr.alloc (.cells #[.int .i64 d'.k,.int .i64 d'.n,.slice Ab' nb' cb',.slice An' nn' cn',.slice Ap' p'.len cp'] 30)).cell? ⟨wr.heap.size,o,none⟩:=fun o=>(X2 hb5 hb6).cell Qm
    exact⟨(hk 0).trans Qm,(hk 1).trans Qm,(hk 2).trans Qm,(hk 3).trans Qm,(hk 4).trans Qm⟩)
   have hown':=ZQ hown HB6.out Xo;have hzx:wr.heap.size<w6.heap.size:=by simp only[Qx] at hz5;omega
   clear hcv hb5 hb6;generalize ZE s.data.toList=ch at*
   obtain⟨x0,x1,x2,x3,x4⟩:=HX;go_wp2_with (at_builtin;refine Q4S _ slB rfl (.tmp 42) (.tmp 49) rfl W1.heap.size A acc.length c (bv acc) rfl hown' _ A6 ch.length c6 (bv ch) rfl (Rd.of_own hown6) (VM _) Q3 Q3 ?_;intro A7 c7 w7 hown7 hg7 hb7;have hx7:=Qjs hg7 hown hzx;have y0:=(hx7 0).trans x0;have y1:=(hx7 1).trans x1;have y2:=(hx7 2).trans x2;have y3:=(hx7 3).trans x3;have y4:=(hx7 4).trans x4;clear hx7)
   have HB7:=Q2 (show Below W1.heap.size W1 w7 from HBW.out.trans ((HB6.out.mono hzw).trans hb7));have HW7:=Q2 (show Below w.heap.size w w7 from X2 HWB.out HB7.out);have hz7:=HB7.out.size;refine(HCT.out _ _ (HV'.out.on HW7.out)).mono ?_;rintro e w4 ⟨A4,c4,rfl,hown4,hb4⟩;have hz4:=hb4.size;have HB4:=Q2 (show Below W1.heap.size W1 w4 from HB7.out.trans (hb4.mono hz7));have hown8:=ZQ hown7 hb4 Xo;clear hb4;go_wp2_with (at_builtin;refine XW _ slB rfl (.tmp 51) (.tmp 53) rfl W1.heap.size A7 (acc.length+ch.length) c7 (bv acc++bv ch) rfl hown8 _ A4 (XM d' p').length c4 (bv (XM d' p')) rfl (Rd.of_own hown4) (VM _) Q3 (by have:=HB4.out.size;omega) HB4.out (Nat.le_refl _) ?_;intro A5 c5 w5 hown5 _ hb5)
   exact⟨QdK Qcl HADD.out hown5 (by rw[HACC.out,Q09,List.append_assoc]) (by rw[HACC.out,List.length_append];omega) hb5,by simp [intOf];omega⟩
  ·have HAL:=Q2 (show p.take i=p from VF.take_all Q6o)
   go_wp2_with fail
   go_ret;rw[HE.out];refine JP.as (JL hown Q3) rfl ?_ HWR.out;rw[HAL.out,List.append_assoc]
theorem QdY(d:Nd)(p:VF)(hall:VF.All Ql2 p):Ql2 d p:=by
 intro hf hfp hpl hc hg hlen w v hv;obtain⟨⟨k1,k4⟩,_,_,_,_,hnl,_⟩:=Y0 hc;by_cases h1:d.k=1
 ·exact QfK hv hf h1
 ·by_cases h2:d.k=2
  ·exact QaZ hv hf h2
  ·by_cases h3:d.k=3
   ·exact Qbp hall hv hf hfp hg hpl h3 hlen
   ·exact QeY hall hv hf hfp hg hpl Q3 (hnl Q3) hlen
theorem Q9W(hf:XN d)(hfp:Z4 p)(hpl:p.len<=1048576)(hc:QP d p.len=0)(hg:Yh p)(hlen:(XM d p).length<=1099511627776)(hv:VIn w w.heap.size v d p):
  Calls Tryz.prog 102 #[v] w (JP w (XM d p)):=VF.all_each QdY d p hf hfp hpl hc hg hlen w v hv
end
section
variable {d:Nd}{m:Nat}{p:VF}{v:Value}{w:World}
def Z8(d:Nd)(p:VF):Int×Int:=match Xd (.cons d p .nil) 0 1 with|.inl f=>f|.inr _=>if 4000<(XM d p).length then (14,-1) else (0,0)
theorem Q5W{f:Int×Int}(h:Xd (.cons d p .nil) 0 1=.inl f):Z8 d p=f:=by unfold Z8;rw[h]
theorem QcY(h:Xd (.cons d p .nil) 0 1=.inr m)(hl:4000<(XM d p).length):Z8 d p=(14,-1):=by unfold Z8;rw[h];simp only;rw[if_pos hl]
theorem Qh2(h:Xd (.cons d p .nil) 0 1=.inr m)(hl:¬4000<(XM d p).length):Z8 d p=(0,0):=by unfold Z8;rw[h];simp only;rw[if_neg hl]
structure Mod(d:Nd)(p:VF):Prop where
 nd:XN d
 fp:Z4 p
 pl:p.len<=1048576
 el:(XM d p).length<=1099511627776
theorem Q5B{base g o:Nat}{e s n:Nat}{x:Value}{xs:List Value}(h:w.ownsRow base e s v n xs)(hg:g<base):(w.setCell ⟨g,o,none⟩ x).ownsRow base e s v n xs:=by
 refine⟨h.1,?_⟩;rcases h.2 with hn|⟨k,cap,cur,hv,hk,hh,r⟩
 ·exact .inl hn
 ·refine .inr ⟨k,cap,cur,hv,hk,?_,r⟩
  rw[Below.heap_setCell _ _ _ _ (by simp only;omega)];exact hh
def Qs6(w:World)(d:Nd)(p:VF)(e:Ending)(w':World):Prop:=
 Below w.heap.size w w'/\((∃c i,c≠0/\Z8 d p=(c,i)/\e=.returned (.tuple #[.slice none 0 0,.agg #[.int .i64 c,.int .i64 i]]))\/
  (∃A c m,Xd (.cons d p .nil) 0 1=.inr m/\Z8 d p=(0,0)/\(XM d p).length<=4000/\e=.returned (.tuple #[.slice A (XM d p).length c,.agg #[.int .i64 0,.int .i64 0]])/\w'.ownsRow w.heap.size 5 1 (.slice A (XM d p).length c) (XM d p).length (bv (XM d p))))
theorem Q7A(hm:Mod d p)(hv:VIn w w.heap.size v d p):Calls Tryz.prog 69 #[v] w (Qs6 w d p):=by
 have HV:=Q2 hv;have HM:=Q2 hm;obtain⟨sb,sn,sp,rfl,Ab,nb,cb,An,nn,cn,Ap,cp,rfl,rfl,rfl,hbc,hnc,hpc,hpm,hrb,hrn,hp⟩:=hv;clear hrb hrn hp hm;go_enter Tryz.func69,Tryz.ntmps69;go_wp2_with fail
 refine(Q3A (num:=0) (lev:=1) HM.out.nd HM.out.fp HM.out.pl Q8u Q3 Q3).mono ?_;rintro e w2 ⟨hb2,hres⟩;have F1:=Q8x;simp only[Qx] at F1
 have HBX:=Q2 (show Yk w2 w.heap.size 0 d (.slice Ab nb cb) (.slice An nn cn) (.slice Ap p.len cp) from by
  have hk:∀o,w2.cell? ⟨w.heap.size,o,none⟩=_:=fun o=>hb2.cell Zt
  exact ⟨(hk 0).trans (Qf Qm),(hk 1).trans (Qf Qm),(hk 2).trans (Qf Qm),(hk 3).trans (Qf Qm),(hk 4).trans (Qf Qm)⟩)
 have HB2:=Q8A;have HF1:=Q2 F1;have hz2:w.heap.size+1<w2.heap.size:=F1.1;clear hb2 F1;rcases hres with ⟨c,ix,hr,rfl⟩|⟨m,hr,rfl⟩
 ·have hc:=VK _ _ _ _ _ hr
  have hc0:(c==0)=false:=by simpa using hc
  have hneq:=Q2y c ix 0 0;have HF:=Q2 (Q5W hr);have HC:=Q2 hc;have P2:=Qk6;have P1:=FC.new w2 c ix;have PB:=Qmi;clear hr hc;go_wp2_with fail
  obtain⟨W4,hW4⟩:∃W4,w2.alloc (.cells #[.int .i64 c,.int .i64 ix] 32)=W4:=⟨_,rfl⟩;rw[hW4] at P1 P2 PB ⊢;have HPB:=Q2 PB;clear hW4 PB;obtain⟨z3,a0,a1,g0,g1⟩:=P1;obtain⟨z4,r0,r1,e0,e1⟩:=P2;go_region
  go_wp2_with fail
  refine QkB ?_;exact QlY
 ·have hneq:=Q2y 0 0 0 0
  have hg:=Q3E _ _ _ _ hr;have HR:=Q2 hr;obtain⟨x0,x1,x2,x3,x4⟩:=HBX.out;simp only[Nat.zero_add] at x1 x2 x3 x4;have y0:=fun ob=>Qf (o:=ob) x0;have y1:=fun ob=>Qf (o:=ob) x1;have y2:=fun ob=>Qf (o:=ob) x2;have y3:=fun ob=>Qf (o:=ob) x3;have y4:=fun ob=>Qf (o:=ob) x4;clear hr;go_wp2_with fail
  refine(Q9W HM.out.nd HM.out.fp HM.out.pl hg.1 hg.2.1 HM.out.el (HV.out.on (Ky HB2.out _))).mono ?_;rintro e w3 ⟨A3,c3,rfl,hown3,hb3⟩;have HB3:=Q2 (show Below w.heap.size w w3 from X2 (Ky HB2.out _) hb3);have HR3:=Q2 ((HF1.out.alloc (.cells #[.int .i64 0,.int .i64 0] 32)).on hb3);have HOWN:=Q2 hown3;obtain⟨z4,r0,r1,e0,e1⟩:=HR3.out;have hel:=HM.out.el;clear hb3 hown3 x0 x1 x2 x3 x4 y0 y1 y2 y3 y4;by_cases hbig:4000<(XM d p).length
  ·have HF:=Q2 (QcY HR.out hbig)
   have hbig':(4000:Int)<((XM d p).length:Int):=by omega
   go_wp2_with (go_at_call 103;refine(JF _ _ _).mono ?_;rintro e w' ⟨rfl,rfl⟩)
   refine bodyPost_ret (v:=.tuple #[.slice none 0 0,.agg #[.int .i64 14,.int .i64 (-1)]]) Qo6 rfl ?_;exact⟨Ky (XT HB3.out Q3 _ _) _,.inl ⟨14,-1,by decide,HF.out,rfl⟩⟩
  ·have HF:=Q2 (Qh2 HR.out hbig)
   have hbig':¬(4000:Int)<((XM d p).length:Int):=by omega
   go_wp2_with fail
   refine bodyPost_ret (v:=.tuple #[.slice A3 (XM d p).length c3,.agg #[.int .i64 0,.int .i64 0]]) Qo6 rfl ?_;refine⟨XT HB3.out Q3 _ _,.inr ⟨A3,c3,m,HR.out,HF.out,by omega,rfl,?_⟩⟩;exact JL (Q5B (Q5B HOWN.out Zt) Zt) Zt
theorem Q6M(hm:Mod d p)(hv:VIn w w.heap.size v d p):Calls Tryz.prog 34 #[v] w fun e w'=>e=.returned (.agg #[.int .i64 (Z8 d p).1,.int .i64 (Z8 d p).2])/\Below w.heap.size w w':=by
 have HV:=Q2 hv;have HM:=Q2 hm;obtain⟨sb,sn,sp,rfl,Ab,nb,cb,An,nn,cn,Ap,cp,rfl,rfl,rfl,hbc,hnc,hpc,hpm,hrb,hrn,hp⟩:=hv;clear hrb hrn hp hm;go_enter Tryz.func34,Tryz.ntmps34;go_wp2_with fail
 refine(Q7A HM.out Q8u).mono ?_;rintro e w2 ⟨hb2,hres⟩;have F1:=Q8x;simp only[Qx] at F1;have HB2:=Q8A;have HF1:=Q2 F1;have hz2:w.heap.size+1<w2.heap.size:=F1.1;clear hb2 F1;obtain⟨A,n,c,cd,ix,he,hf⟩:∃A n c cd ix,e=.returned (.tuple #[.slice A n c,.agg #[.int .i64 cd,.int .i64 ix]])/\Z8 d p=(cd,ix):=by
  rcases hres with ⟨c,i,_,h,he⟩|⟨A,c,m,_,h,_,he,_⟩
  ·exact Qao
  ·exact Qao
 subst he;have HF:=Q2 hf;clear hf hres;obtain⟨z4,r0,r1,e0,e1⟩:=HF1.out;go_wp2_with fail
 refine Ql1 ?_;exact QnS
end
theorem Q9A:∀{F:VF},Yh F->QaT F
 |.nil,_=>trivial
 |.cons d p r,h=>⟨h.1,Q9A h.2.1,Q9A h.2.2⟩
def VX(F:List Rl)(D:List UInt8):Nat:=(D.length+1)*(F.length+1)
theorem Qaf{F:List Rl}{D:List UInt8}:Q1j F D 0 0<=VX F D:=by
 unfold Q1j VX;have:=Qe1 F (0:Int).toNat;rw[Nat.sub_zero,Nat.succ_mul];omega
abbrev ndZ:Nd:=⟨0,0,[],[]⟩
def Zn(F:List Rl)(D:List UInt8):(Nd×VF)×(Int×Int):=
 if QF F≠(0,0) then ((ndZ,.nil),QF F)
 else if 1000<D.length then ((ndZ,.nil),(3,-2))
 else match Qq F D (VX F D) 0 0 with
  |none=>((ndZ,.nil),(1,0))
  |some (.error e)=>((ndZ,.nil),(1,(e:Int)))
  |some (.ok y)=>if y.2.2<D.length then ((ndZ,.nil),(1,(y.2.2:Int))) else if Z8 y.1 y.2.1≠(0,0) then ((ndZ,.nil),(14,-2)) else ((y.1,y.2.1),(0,0))
def Q1P(F:List Rl)(d:Nd)(l:VF):List UInt8×(Int×Int):=
 if QF F≠(0,0) then ([],QF F)
 else if Z8 d l≠(0,0) then ([],Z8 d l)
 else match XL F (.cons d l .nil) [([],some 0)] [] 0 with
  |.error e=>([],(13,(e:Int)))
  |.ok (b,_)=>if 1000<b.length then ([],(14,-2)) else (b,(0,0))
section
variable {F:List Rl}{D:List UInt8}{d:Nd}{l:VF}
theorem Q0O(h:QF F=(0,0)):Fm F:=by
 refine Qv0 ?_;unfold QF at h;split at h
 ·exact h
 ·next hc=>simpa using hc
theorem Qo9(h:(Xa F).1=0):Xa F=(0,0):=by
 unfold Xa at h ⊢;split at h
 ·exact Q54
 split at h
 ·exact Q54
 next h0 h1=>
 rw[if_neg h0,if_neg h1];cases e1:Xh F.length (fun k=>Zc F k != 0) with
 |some k=>
  rw[e1] at h;have:=(Q13 e1).2.1;simp only at h;rw[h] at this;cases this
 |none=>
  rw[e1] at h;simp only at h ⊢;cases e2:Xh F.length (fun k=>Jy F k != 0) with
  |some k=>
   rw[e2] at h;have:=(Q13 e2).2.1;simp only at h;rw[h] at this;cases this
  |none=>
   rw[e2] at h;simp only at h ⊢;cases e3:Xh F.length (Q1c F) with
   |some k=>rw[e3] at h;exact Q66
   |none=>
    rw[e3] at h;simp only at h ⊢;cases e4:Xh F.length (fun k=>!((Zg F).getD k false)) with
    |some k=>rw[e4] at h;exact Q66
    |none=>
     rw[e4] at h;simp only at h ⊢;cases e5:Xh F.length (ZB F) with
     |some k=>rw[e5] at h;exact Q66
     |none=>rfl
theorem QbF(h:(QF F).1=0):QF F=(0,0):=by
 unfold QF at h ⊢;split at h
 ·next hc=>exact absurd (Qo9 h) hc
 ·next hc=>
  rw[if_neg hc];split at h
  ·exact Q54
  ·next hl=>rw[if_neg hl]
theorem Qv7(h:(Z8 d l).1=0):Z8 d l=(0,0):=by
 unfold Z8 at h ⊢;split at h
 ·next f hf=>
  obtain⟨c,i⟩:=f;exact absurd h (VK _ _ _ _ _ hf)
 ·next m hm=>
  split at h
  ·exact Q54
  ·next hl=>rw[if_neg hl]
theorem Qjk(h:Z8 d l=(0,0)):QP d l.len=0/\QaT l:=by
 unfold Z8 at h;split at h
 ·next f hf=>
  subst h;exact absurd rfl (VK _ _ _ _ _ hf)
 ·next m hm=>
  have:=Q3E _ _ _ _ hm;exact⟨this.1,Q9A this.2.1⟩
theorem Q98(hv:Fm F)(D:List UInt8):∃y,Qq F D (VX F D) 0 0=some y:=Q29 hv.toVld _ Qm8 XY Qaf
theorem Q7n(hv:Fm F){y:Nd×VF×Nat}(h:Qq F D (VX F D) 0 0=some (.ok y)):0<y.2.2/\y.2.2<=D.length:=Xv hv.toUsd _ Qm8 0 y XY h
theorem QpG(h:(Zn F D).2.1=0):QF F=(0,0)/\D.length<=1000/\∃d l,Zn F D=((d,l),(0,0))/\Qq F D (VX F D) 0 0=some (.ok (d,l,D.length))/\Z8 d l=(0,0):=by
 unfold Zn at h ⊢;split at h
 ·next h0=>exact absurd (QbF h) h0
 next h0=>
 have h0:QF F=(0,0):=by simpa using h0
 rw[if_neg (by simpa using h0)];split at h
 ·exact Q54
 next h1=>
 refine⟨h0,by omega,?_⟩;rw[if_neg h1];split at h
 ·exact Q54
 ·exact Q66
 ·next y hy=>
  have hfar:=Q7n (Q0O h0) hy;obtain⟨d,l,q⟩:=y;simp only at h hfar;split at h
  ·exact Q66
  ·next hq=>
   have hq:q=D.length:=by omega
   subst hq;split at h
   ·exact Q54
   ·next hval=>
    refine⟨d,l,?_,hy,by simpa using hval⟩;simp only;rw[if_neg Q3,if_neg hval]
theorem QkP(h:(Zn F D).2.1≠0):(Zn F D).1=(ndZ,.nil):=by
 unfold Zn at h ⊢;split
 ·rfl
 split
 ·rfl
 split
 ·rfl
 ·rfl
 ·split
  ·rfl
  ·split
   ·rfl
   ·next h1 h2 _ y hy h3 h4=>
    rw[if_neg h1,if_neg h2,hy] at h;simp only at h;rw[if_neg h3,if_neg h4] at h;exact absurd rfl h
end
section
variable {D:List UInt8}{F:List Rl}{W:World}
structure Py where
 Ab:Option Addr
 nb:Nat
 cb:Nat
 An:Option Addr
 nn:Nat
 cn:Nat
 Ap:Option Addr
 np:Nat
 cp:Nat
 L:List Qb
abbrev Py.cells(y:Py)(d:Nd):List Value:=[.int .i64 d.k,.int .i64 d.n,.slice y.Ab y.nb y.cb,.slice y.An y.nn y.cn,.slice y.Ap y.np y.cp]
def Q8S(F:List Rl)(D:List UInt8)(W:World)(e:Ending)(w':World):Prop:=∃y:Py,e=.returned (.tuple #[.agg (y.cells (Zn F D).1.1).toArray,.agg #[.int .i64 (Zn F D).2.1,.int .i64 (Zn F D).2.2]])/\QU y.L (.agg (y.cells (Zn F D).1.1).toArray) (Zn F D).1.1 (Zn F D).1.2/\New y.L W.heap.size w'/\Below W.heap.size W w'
theorem QU.zero:QU [] (.agg #[.int .i64 0,.int .i64 0,.slice none 0 0,.slice none 0 0,.slice none 0 0]) ndZ .nil:=
 ⟨_,_,_,rfl,fun w _=>⟨none,0,0,none,0,0,none,0,rfl,rfl,rfl,Nat.le_refl _,Nat.le_refl _,Nat.le_refl _,Nat.zero_le _,ZC _ _ _,ZC _ _ _,fun h=>absurd h (Nat.lt_irrefl 0)⟩⟩
theorem Kw{w:World}{c x:Int}(h:Zn F D=((ndZ,.nil),(c,x)))(hb:Below W.heap.size W w):Q8S F D W (.returned (.tuple #[.agg #[.int .i64 0,.int .i64 0,.slice none 0 0,.slice none 0 0,.slice none 0 0],.agg #[.int .i64 c,.int .i64 x]])) w:=
 ⟨⟨none,0,0,none,0,0,none,0,0,[]⟩,by rw[h],by rw[h];exact QU.zero,New.nil _ _,hb⟩
theorem QsF{P:Program}{fn:Func}{R:Ending->World->Prop}{N:Nat}{M:List Nat}{E:Env}{O:List Qb}{e:Exit}(he:e=.normal\/e=.ret)(h:xE (bodyPost P fn R) N M W E O e):xE (bodyPostD P fn R) N M W E O e:=fun a w ha hw=>by
 have h:=h a w ha hw;rcases he with rfl|rfl
 ·obtain⟨hd,v,h1,h2⟩:=h
  exact Qp1
 ·obtain⟨hd,v,h1,h2⟩:=h
  exact Qp1
theorem Qdc{A A2:Option Addr}{n c m c2:Nat}(hf:QW W W.heap.size A n F)(hs:FSm F)(hc:n<=c)(hg:GV W)(hz:QF F≠(0,0)):
  Calls Tryz.prog 11 #[.agg #[.slice A n c],.slice A2 m c2] W (Q8S F D W):=by
 have HF:=Q2 hf;have HS:=Q2 hs;have HG:=Q2 hg;have HZ:=Q2 hz;obtain⟨⟨a,b⟩,hab⟩:∃p,QF F=p:=⟨_,rfl⟩;have HAB:=Q2 hab;clear hf hs hg hz hab;go_enter_defers Tryz.func11,Tryz.ntmps11;refine Qv (M:=[]) (W:=W) (N:=49) (E:=[Yf,Qa1]) (O:=[]) ?_ mc3 QT;refine yq<|yr ?_;refine yB fun b2=>?_;refine yA fun b4=>?_;refine yA fun b5=>?_;refine QhO ?_;refine Q4 (Qg rfl rfl Q1 rfl rfl (fun w hw=>(Vp Q6w HS.out hc Q05).mono (fun e w' h=>by rw[HAB.out] at h;exact h))) ?_;refine yA fun b6=>?_;refine Q4f ?_;have hne:(!(a==0&&b==0))=true:=by
  have h:=HZ.out;rw[HAB.out] at h;refine Qbw ?_;by_cases h0:a=0
  ·exact .inr fun h1=>h (by rw[h0,h1])
  ·exact .inl h0
 refine QgS ?_;refine yl<|yn<|y1<|yq ?_;refine ZR [.blk b6 (.cells ([.int .i64 a,.int .i64 b]:List Value).toArray 32 (0,0))] [] Q5 ?_;refine Qn 0 rfl Q5 JO Qd3 ?_;refine Qn 1 rfl Q5 JO (zD 0) ?_;refine QK 2 Q5 rfl rfl QlV Q3y rfl (fun _ _=>?_);rw[QE (by rfl)];refine QK 3 Q5 rfl rfl KI Q3y rfl (fun _ _=>?_);rw[QE (by rfl)];refine Xn ?_ Q5;refine yn<|yt<|yc ?_;refine QsF (.inr rfl) (V9 (.inr rfl) rfl Q0t Zi (fun w hw=>?_));have e:Zn F D=((ndZ,.nil),(a,b)):=by unfold Zn;rw[if_pos HZ.out,HAB.out]
 exact Kw e hw.k.below
end
theorem Qe3{F:List Rl}{D:List UInt8}{A A2:Option Addr}{n c m c2:Nat}{W:World}(hf:QW W W.heap.size A n F)(hs:FSm F)(hc:n<=c)(hg:GV W)(hz:QF F=(0,0))(hd:Rd W W.heap.size 1 A2 m (bv D))(hl:1000<D.length):
  Calls Tryz.prog 11 #[.agg #[.slice A n c],.slice A2 m c2] W (Q8S F D W):=by
 have HF:=Q2 hf;have HS:=Q2 hs;have HG:=Q2 hg;have HZ:=Q2 hz;have hm:1000<(m:Int):=by have:=hd.len;rw[Xr] at this;omega
 clear hf hs hg hz hd;go_enter_defers Tryz.func11,Tryz.ntmps11;refine Qv (M:=[]) (W:=W) (N:=49) (E:=[Yf,Qa1]) (O:=[]) ?_ mc3 QT;refine yq<|yr ?_;refine yB fun b2=>?_;refine yA fun b4=>?_;refine yA fun b5=>?_;refine QhO ?_;refine Q4 Qn1 ?_;refine yA fun b6=>?_;refine Q4f ?_;have hne:(!((0:Int)==0&&(0:Int)==0))=false:=rfl;refine QgS ?_;refine yl<|yn<|y0<|ys<|yn<|yq<|yq<|yr<|yo zM<|yo zL<|yo zgt<|yl<|yn<|y1<|yq<|yr ?_;refine Q4 Qd3 ?_;refine Q4 QhG ?_;refine yW 2 ?_;refine yW 1 ?_;refine yl<|yn<|yt<|yc ?_;refine QsF (.inr rfl) (V9 (.inr rfl) rfl Q0t Zi (fun w hw=>?_));have e:Zn F D=((ndZ,.nil),(3,-2)):=by unfold Zn;rw[if_neg (by simp [HZ.out]),if_pos hl]
 exact Kw e hw.k.below
section
variable {A:Option Addr}{W w:World}{bs:List UInt8}{c n:Nat}
theorem Rd.up{s:Nat}{xs:List Value}(h:Rd W W.heap.size s A n xs)(hb:Below W.heap.size W w):Rd w w.heap.size s A n xs:=(h.below hb).more hb.size
theorem KQ{r:Rl}{sb sn sp:Value}{n:Int}:Calls Tryz.prog 108 #[.agg (ruC r sb sn sp).toArray,.int .i64 n] W fun e w'=>e=.returned (.bool (YI r n))/\Below W.heap.size W w':=by
 obtain⟨name,kind,bs,size,big,mn,mx,stop,count,elem,names,parts⟩:=r;simp only[ruC];go_enter Tryz.func108,Tryz.ntmps108;refine Qv (M:=[]) (W:=W) (N:=15) (E:=[(0,.agg [.string ⟨name.toArray⟩,.int .i64 kind,sb,.int .i64 size,.bool big,.int .i64 mn,.int .i64 mx,.int .i64 stop,.int .i64 count,.int .i64 elem,sn,sp].toArray),(1,.int .i64 n)]) (O:=[]) ?_ mc3 QT;by_cases h1:mn<=n
 ·obtain⟨b,hb⟩:∃b,decide (n<=mx)=b:=⟨_,rfl⟩;refine Qa (Q6 ?_);refine yB fun b2=>?_;refine Q3Y ?_;refine Qj (Qa (Q6 ?_));refine Q4 zM ?_;refine QdC ?_;refine Q4 zht ?_;refine Q6T ?_;refine QdC ?_;refine Q4 (Q6s rfl rfl Q1 rfl rfl rfl QS) ?_;refine Q4 zY ?_;refine Q3Y ?_;refine Qj (QB ?_);exact Q8 mc4 rfl (.tmp rfl) (fun w hw=>⟨by unfold YI;simp only;rw[decide_eq_true h1,hb];rfl,hw.k.below⟩)
 ·refine Qa (Q6 ?_);refine yB fun b2=>?_;refine Q3Y ?_;refine Qj (Qa (Q6 ?_));refine Q4 zM ?_;refine QdC ?_;refine Q4 zhf ?_;refine Q4 zM ?_;refine Q4 zS ?_;refine Q4 zS ?_;refine Q4 zS ?_;refine Q4 zS ?_;refine Q4 zN ?_;refine Q3Y ?_;refine Qj (QB ?_);exact Q8 mc4 rfl (.tmp rfl) (fun w hw=>⟨by unfold YI;simp only;rw[decide_eq_false h1];rfl,hw.k.below⟩)
end
section
variable {A:Option Addr}{B c g i:Nat}{F:List Rl}{W:World}{n:Int}{r:Rl}{xs:List UInt8}{z:Wz}
theorem QvQ(n:Int):IntKind.u8.wrap n=((UInt8.ofNat (n % 256).toNat).toNat:Int):=by
 have h:IntKind.u8.wrap n=n % 256:=rfl;have h0:=Int.emod_nonneg n (show (256:Int)≠0 by decide);have h1:=Int.emod_lt_of_pos n (show (0:Int)<256 by decide);rw[h,UInt8.toNat_ofNat_of_lt' (by show (n % 256).toNat<256;omega)];omega
theorem Qbd:∀(m:Nat) (n:Int) (k:Nat),0<=n->k<m->(leW m n)[k]? =some (UInt8.ofNat (n / 2 ^ (8*k) % 256).toNat)
 |0,_,_,_,h=>absurd h (Nat.not_lt_zero _)
 |m+1,n,0,h0,_=>by simp [leW]
 |m+1,n,k+1,h0,h=>by
  rw[leW,List.getElem?_cons_succ,Qbd m (n / 256) k (Int.ediv_nonneg h0 Q1) Q3,Int.ediv_ediv_of_nonneg (by decide:(0:Int)<=256)];rw[show (256:Int)*2 ^ (8*k)=2 ^ (8*(k+1)) by rw[show 8*(k+1)=8+8*k by omega,Int.pow_add];rfl]
theorem Qg2{big:Bool}{m:Nat}(h0:0<=n)(hi:i<m):(Q0D big m n)[i]? =some (UInt8.ofNat (n / 2 ^ (8*(if big then m - 1 - i else i)) % 256).toNat):=by
 unfold Q0D;cases big with
 |false=>exact Qbd m n i h0 hi
 |true=>
  show (leW m n).reverse[i]? =_;rw[List.getElem?_reverse (by rw[Q2L];exact hi),Q2L];exact Qbd m n (m - 1 - i) h0 Q3
theorem Q9k{α:Type}{l:List α}{x:α}(h:l[i]? =some x):l.take (i+1)=l.take i++[x]:=by rw[List.take_add_one,h];rfl
theorem Q5T(h:JX r)(hc:YI r n=true):(Q2l r n).length<=30:=by
 obtain⟨h1,h2⟩:=Qcx.1 hc;unfold Q2l;split
 ·next h3=>
  have a:=h.dec h3;have b:=h.mn3 h3;have:=Lib.itoa_length_le n Q3 Q3;rw[List.length_append];simp;omega
 ·next h3=>
  have a:=h.num (h.kind.resolve_right h3);rw[Q5X];omega
theorem Qw6{n:Nat}{w:World}{A':Option Addr}{b:List UInt8}{O:List Qb}{c':Nat}(i j:Nat)(h:Je W z B g F A c xs n)(hw:Wd (wM g A xs.length c) W O w)(hO:O[i]? =some (.blk g (z.obj A' (xs++b).length c' n)))(hP:O[j]? =some (Kj A' c' (xs++b)))(hb:b.length<=30):WrE z g W A c xs (.ok (b,n)) n 30 (.returned (.tuple #[])) w:=
 Q9X h i j hw hO hP rfl hb Q3
theorem Q62{n:Nat}(h:Je W z B g F A c xs n){sb sn sp:Value}(hr:JX r)(h2:r.kind=2){x:Int}(hx:YI r x=true)(hl:xs.length<=1099511627776):
  Calls Tryz.prog 84 #[.pointer (some ⟨g,0,none⟩),.agg (ruC r sb sn sp).toArray,.int .i64 x] W (WrE z g W A c xs (.ok (Q2l r x,n)) n 30):=by
 have H:=Q2 h;have hwd:=h.wd;have hkind:=hr.kind;have hdec:=hr.dec;have hmn3:=hr.mn3;have hnum:=hr.num;have hlen:=Q5T hr hx;obtain⟨hx1,hx2⟩:=Qcx.1 hx;obtain⟨uy,hys⟩:∃uy,Q2l r x=uy:=⟨_,rfl⟩;rw[hys] at hlen ⊢;have HYS:=Q2 hys;clear h hr hx hys;obtain⟨name,kind,bs,size,big,mn,mx,stop,count,elem,names,parts⟩:=r;obtain⟨Af,nn,cf⟩:=z;simp only at h2 hkind hdec hmn3 hnum hx1 hx2;simp only[ruC];go_enter Tryz.func84,Tryz.ntmps84;refine Qv (M:=wM g A xs.length c) (W:=W) (N:=55) (E:=[ZU,Qhd,(2,.int .i64 x)]) (O:=[.blk g Qtc,.row A xs.length c 5 1 (bv xs)]) ?_ Zo hwd;clear hwd
 subst h2;obtain⟨hs1,hs4,hm0,hmm,hmx⟩:=hnum rfl;obtain⟨sz,rfl⟩:∃sz:Nat,size=(sz:Int):=Qfd
 have hx0:0<=x:=by omega
 have HY:=Q2 (show uy=Q0D big sz x by rw[<- HYS.out];unfold Q2l;rw[if_neg QfQ];rfl);have hyl:uy.length=sz:=by rw[HY.out,Q5X]
 have hne3:((2:Int)==3)=false:=rfl;clear hdec hnum hkind hmn3;refine yq<|yr ?_;refine yB fun b4=>?_;refine yl<|yn<|yq<|yq<|yr<|yo zF<|yo (zB 0)<|yo zea<|yl<|yn<|y0<|ys<|yn<|yq<|yr<|yo zF<|yo (zB 0)<|yo zM<|yl<|yn<|yb ?_;refine Xe (ι:=Nat×Option Addr×Nat) (fun y=>y.1<=sz) (fun y=>sz - y.1) (fun y=>[ZU,(2,.int .i64 x),Q3n,(27,.int .i64 (sz:Int)),(28,.int .i64 (y.1:Int))]) (fun y=>[.blk b4 QqM,.blk g (.cells ([.slice Af nn cf,.slice y.2.1 (xs++uy.take y.1).length y.2.2,.int .i64 (n:Int)]:List Value).toArray 77 (0,0)),.row y.2.1 (xs++uy.take y.1).length y.2.2 5 1 (bv (xs++uy.take y.1))]) (0,A,c) XY Yj (fun w hw=>?_) ?_
 ·simp only[List.take_zero,List.append_nil]
  exact hw
 rintro⟨i,Ai,ci⟩ hi;replace hi:i<=sz:=hi;show sE _ _ _ _ _ [ZU,(2,.int .i64 x),Q3n,(27,.int .i64 (sz:Int)),(28,.int .i64 (i:Int))] [.blk b4 QqM,.blk g (.cells ([.slice Af nn cf,.slice Ai (xs++uy.take i).length ci,.int .i64 (n:Int)]:List Value).toArray 77 (0,0)),.row Ai (xs++uy.take i).length ci 5 1 (bv (xs++uy.take i))] _;by_cases hlt:i<sz
 ·obtain⟨k,hk⟩:∃k,(if big then sz - 1 - i else i)=k:=⟨_,rfl⟩
  have hk4:k<4:=by rw[<- hk];split<;>omega
  obtain⟨cB,hcB⟩:∃b:UInt8,UInt8.ofNat (x / 2 ^ (8*k) % 256).toNat=b:=⟨_,rfl⟩;have hcv:IntKind.u8.wrap (x / 2 ^ (8*(k:Int)).toNat)=(cB.toNat:Int):=by rw[QvQ,<- hcB];rw[show (8*(k:Int)).toNat=8*k by omega]
  have hy:uy[i]? =some cB:=by rw[HY.out,Qg2 hx0 hlt,hk,hcB]
  have hl1:(xs++uy.take i).length+1=(xs++uy.take (i+1)).length:=by rw[Q9k hy,List.length_append,List.length_append,List.length_append];rfl
  have hb1:bv (xs++uy.take i)++[.int .u8 (cB.toNat:Int)]=bv (xs++uy.take (i+1)):=by rw[Q9k hy];unfold bv;simp
  have hbnd:(xs++uy.take i).length<=1099511627876:=by rw[List.length_append,List.length_take];omega
  clear hcB hy;cases big with
  |true=>
   have hk':sz - 1 - i=k:=hk;have e1:(sz:Int) - 1 - (i:Int)=(k:Int):=by omega
   refine Qsh ?_;refine yo zA<|yl<|yn<|yq<|yq<|yr<|yo zF<|yo (zB 0)<|yl<|yn<|y1<|yr<|yo zF<|yo (zB 0)<|yo zQ<|yo zM<|yo zQ ?_;refine Q4 Q3q ?_;refine yo zA<|yl<|yn ?_;rw[e1];refine QqD ?_;refine QX 9 Q5 rfl rfl YZ QaI rfl Q1 (fun bn _=>?_);refine QX 10 Q5 rfl rfl YC QaI rfl Q1 (fun z2 _=>?_);refine Qld ?_;refine QK 13 Q5 rfl rfl Qlz Vx rfl (fun _ _=>?_);refine Xn ?_ Q5;refine Q99 ?_;exact QtF
  |false=>
   have hk':i=k:=hk;subst hk';refine Qsh ?_;refine yo zA<|yl<|yn<|yq<|yq<|yr<|yo zF<|yo (zB 0)<|yl<|yn<|y0<|ys<|yn ?_;refine QqD ?_;refine QX 9 Q5 rfl rfl YZ QaI rfl Q1 (fun bn _=>?_);refine QX 10 Q5 rfl rfl YC QaI rfl Q1 (fun z2 _=>?_);refine Qld ?_;refine QK 13 Q5 rfl rfl Qlz Vx rfl (fun _ _=>?_);refine Xn ?_ Q5;refine Q99 ?_;exact QtF
 ·have hie:uy.take i=uy:=List.take_of_length_le Q3;refine Qef ?_;refine Y8 Q5Q rfl (fun w hw=>?_);rw[hie] at hw;exact Qw6 1 2 H.out hw rfl rfl hlen
end
section
variable {v:Value}
section
variable {M:List Nat}{W w w':World}{O:List Qb}{b n c s m:Nat}{e:TypeId}{xs ys:List Value}
theorem Wd.row_rd(h:Wd M W (.row (some ⟨b,0,none⟩) n c e s xs::O) w)(hM:M=[])(hk:Xx [b] w w')(hr:Rd w' w'.heap.size s (some ⟨b,0,none⟩) m ys):Wd M W (.rd (some ⟨b,0,none⟩) m s ys::O) w':=by
 subst hM;have hb:W.heap.size<=b:=by
  rcases Nat.lt_or_ge b W.heap.size with hl|hl
  ·have h1:b∈[]:=h.new 0 _ b rfl rfl hl
   cases h1
  ·exact hl
 have hp:=List.pairwise_cons.1 h.pairs;have hne:∀x∈O,∀q,x.foot=some q->q≠b:=fun x hx q hq hqb=>by
  subst hqb;have:=hp.1 x hx q rfl hq;cases this
 refine .of_pairs (h.k.trans hk fun q hq hlt=>?_) ?_ ?_ ?_
 ·rw[List.mem_singleton] at hq
  omega
 ·intro x hx
  rcases List.mem_cons.1 hx with rfl|hx
  ·exact hr
  ·exact(h.onAll x Q1G).keep hk.size fun q hq=>hk.block q ((h.onAll x Q1G).lt hq) (by rw[List.mem_singleton];exact hne x hx q hq)
 ·intro x hx q hq hlt
  rcases List.mem_cons.1 hx with rfl|hx
  ·have:q=b:=by
    simp only[Qb.foot] at hq;split at hq
    ·cases hq
    ·cases hq;rfl
   omega
  ·exact h.newAll x Q1G q hq hlt
 ·refine List.pairwise_cons.2 ⟨fun x hx q hq hq'=>?_,hp.2⟩
  have:q=b:=by
   simp only[Qb.foot] at hq;split at hq
   ·cases hq
   ·cases hq;rfl
  exact absurd this (hne x hx q hq')
end
section
variable {F:List Rl}{r:Rl}{d:Nd}{p:VF}
theorem Q5H(h:r.kind=2\/r.kind=3):Vu F r d p=(d.k==1&&YI r d.n):=by unfold Vu;rw[if_neg Q3,if_pos h]
theorem Q9Q(h:r.kind=6):Vu F r d p=(d.k==3&&YI (Ql F r.count) (p.len:Int)):=by unfold Vu;exact QmZ
end
section
variable {W w w':World}{z:Wz}{B g c n:Nat}{F:List Rl}{A:Option Addr}{xs:List UInt8}
theorem QdU{b3 b4 nn cf:Nat}{Af:Option Addr}{x cnt:Int}(hf:QW w B Af nn F)(hB:B<=w.heap.size)(h3:w.cell? ⟨b3,0,none⟩=some (.pointer (some ⟨g,0,none⟩)))(h4:w.cell? ⟨b4,8,none⟩=some (.int .i64 cnt))(hg:w.cell? ⟨g,0,none⟩=some (.slice Af nn cf))(hc:0<=cnt/\cnt<F.length):
  Calls Tryz.prog 107 ([Value.int .i64 x].toArray++#[.pointer (some ⟨b3,0,none⟩),.pointer (some ⟨b4,0,none⟩)]) w fun e w'=>e=.returned (.bool (YI (Ql F cnt) x))/\Below w.heap.size w w':=by
 have hl:=hf.1;obtain⟨bf,of,haf,_⟩:=hf.2 Q3;subst haf;obtain⟨hbB,Ab,cb,An,cn,Ap,cp,hrg,hru⟩:=hf.ruleB (k:=cnt) Q3;have hcn:0<=cnt/\cnt<(nn:Int):=by omega
 clear hf hru;obtain⟨r,er⟩:∃r,Ql F cnt=r:=⟨_,rfl⟩;rw[er] at hrg ⊢;clear er;have hcc:∀W:World,Calls Tryz.prog 108 #[.agg (ruC r (.slice Ab r.bs.length cb) (.slice An r.names.length cn) (.slice Ap r.parts.length cp)).toArray,.int .i64 x] W fun e w'=>e=.returned (.bool (YI r x))/\Below W.heap.size W w':=fun W=>KQ
 obtain⟨bb,hbb⟩:∃bb,YI r x=bb:=⟨_,rfl⟩;rw[hbb] at hcc ⊢;obtain⟨name,kind,bs,size,big,mn,mx,stop,count,elem,names,parts⟩:=r;simp only[ruC] at hrg hcc;show Calls Tryz.prog 107 #[.int .i64 x,.pointer (some ⟨b3,0,none⟩),.pointer (some ⟨b4,0,none⟩)] w _;go_enter Tryz.func107,Tryz.ntmps107;refine Qv (M:=[]) (W:=w) (N:=16) (E:=[(0,.int .i64 x),(1,.pointer (some ⟨b3,0,none⟩)),(2,.pointer (some ⟨b4,0,none⟩))]) (O:=[]) ?_ Zo (Wd.start [] w);refine Qfg ?_;refine Qe (zG h3) ?_;refine Qe mc5 ?_;refine Qe zF ?_;refine Qe zF ?_;refine Qe (zG hg) ?_;refine Qe zF ?_;refine Qe (zG h4) ?_;refine Qe Qnh ?_;refine Qe (X7 rfl rfl Q1 rfl rfl (fun w hw=>hw.range_old hrg Qm) rfl) ?_;refine Qe zM ?_;refine Qe Qrr ?_;refine Q7w ?_;exact Q8 mc4 rfl (.tmp rfl) (fun w hw=>⟨rfl,hw.k.below⟩)
def FiE(W:World)(b:Bool)(e:Ending)(w':World):Prop:=e=.returned (.bool b)/\Below W.heap.size W w'
theorem Q1R{k:Int}{d:Nd}{p:VF}(h:Je W z B g F A c xs n)(hv:Fm F)(hk:0<=k/\k<F.length){Ab An Ap:Option Addr}{cb cn cp:Nat}(hru:RuB W B (Ql F k) Ab cb An cn Ap cp)(hval:VIn W B v d p)(hd1:d.bs.length<=1048576)(hd2:d.ns.length<=1048576)(h26:(Ql F k).kind=2\/(Ql F k).kind=6):
  Calls Tryz.prog 83 #[.pointer (some ⟨g,0,none⟩),.agg (ruC (Ql F k) (.slice Ab (Ql F k).bs.length cb) (.slice An (Ql F k).names.length cn) (.slice Ap (Ql F k).parts.length cp)).toArray,v] W (FiE W (Vu F (Ql F k) d p)):=by
 have hFn:=h.len;have hr:=hv.toUsd.rok hk;have hBW:B<=W.heap.size:=by have:=h.hB;have:=h.lt;omega
 have HFM:=Q2 h.fm;have hcg:W.cell? ⟨g,0,none⟩=some (.slice z.Af z.n z.cf):=by
  rw[cell_of_row W g 0 _ _ _ h.cur];rfl
 clear h;obtain⟨r,er⟩:∃r,Ql F k=r:=⟨_,rfl⟩;rw[er] at hr hru h26 ⊢;clear er;obtain⟨sb,sn,sp,rfl,Abv,nb,cbv,Anv,nnv,cnv,Apv,cpv,rfl,rfl,rfl,hnb,hnn,hpl,hcm,hrb,hrn,hch⟩:=hval;have hnbl:d.bs.length=nb:=by have:=hrb.len;rw[Xr] at this;exact this
 have hnnl:d.ns.length=nnv:=by have:=hrn.len;rw[JE] at this;exact this
 subst hnbl hnnl;have HRB:=Q2 hrb;have HRN:=Q2 hrn;have HCH:=Q2 hch;have HRU:=Q2 hru;have hcnt:=hr.count;obtain⟨dk,dn,dbs,dns⟩:=d;obtain⟨Af,nn,cf⟩:=z;simp only at hFn hcg hd1 hd2 hnb hnn;clear hrb hrn hch hru hr;obtain⟨name,kind,bs,size,big,mn,mx,stop,count,elem,names,parts⟩:=r;simp only at hcnt h26;simp only[ruC];go_enter Tryz.func83,Tryz.ntmps83;refine Qv (M:=[]) (W:=W) (N:=150) (E:=[(0,.pointer Q7E),(1,.agg [.string ⟨name.toArray⟩,.int .i64 kind,.slice Ab bs.length cb,.int .i64 size,.bool big,.int .i64 mn,.int .i64 mx,.int .i64 stop,.int .i64 count,.int .i64 elem,.slice An names.length cn,.slice Ap parts.length cp].toArray),(2,.agg #[.int .i64 dk,.int .i64 dn,.slice Abv dbs.length cbv,.slice Anv dns.length cnv,.slice Apv p.len cpv])]) (O:=[]) ?_ Zo (Wd.start [] W);obtain⟨RES,hres⟩:∃x,Vu F ⟨name,kind,bs,size,big,mn,mx,stop,count,elem,names,parts⟩ ⟨dk,dn,dbs,dns⟩ p=x:=⟨_,rfl⟩;rw[hres];have HRS:=Q2 hres;clear hres;refine yq<|yr ?_;refine yB fun b3=>?_;refine yB fun b4=>?_;refine yB fun b5=>?_;refine yo zA<|yl<|yn<|yq<|yr<|yo zu<|yo zA<|yl<|yn<|yq<|yq<|yr<|yo zF<|yo (zB 1)<|yl ?_
 rcases h26 with k2|k6
 ·subst k2
  have hcc:∀W:World,Calls Tryz.prog 108 #[.agg [.string ⟨name.toArray⟩,.int .i64 2,.slice Ab bs.length cb,.int .i64 size,.bool big,.int .i64 mn,.int .i64 mx,.int .i64 stop,.int .i64 count,.int .i64 elem,.slice An names.length cn,.slice Ap parts.length cp].toArray,.int .i64 dn] W fun e w'=>e=.returned (.bool (YI ⟨name,2,bs,size,big,mn,mx,stop,count,elem,names,parts⟩ dn))/\Below W.heap.size W w':=fun W=>KQ (r:=⟨name,2,bs,size,big,mn,mx,stop,count,elem,names,parts⟩)
  by_cases hdk:dk=1
  ·have HZ:=Q2 (show RES=YI ⟨name,2,bs,size,big,mn,mx,stop,count,elem,names,parts⟩ dn by rw[<- HRS.out,Q5H (.inl rfl)];simp only;rw[hdk];rfl);refine yn<|yb<|yq<|yr<|yo zef<|yo zA<|yl<|yn<|y0<|yq<|yq<|yr<|yo zet<|yo zA<|yl<|yn<|y1<|ys<|yn<|y1<|yq<|yr<|yo zF<|yo (zB 0)<|yo zet<|yo zM<|yo (zD 1)<|yo zF<|yo (zB 0) ?_;refine Q4 Qrr ?_;refine yo zY<|yo zA<|yl<|yn<|yt<|yk<|yc ?_;exact Q8 mc4 rfl (.tmp rfl) QoM
  ·have HZ:=Q2 (show RES=false by rw[<- HRS.out,Q5H (.inl rfl)];simp only;rw[beq_eq_false_iff_ne.2 hdk];rfl);refine yn<|yb<|yq<|yr<|yo zef<|yo zA<|yl<|yn<|y0<|yq<|yq<|yr<|yo zet<|yo zA<|yl<|yn<|y1<|ys<|yn<|y1<|yq<|yr<|yo zF<|yo (zB 0)<|yo zef<|yo zM<|yo zS<|yo zS<|yo zS<|yo zS<|yo zN<|yo zA<|yl<|yn<|yt<|yk<|yc ?_;exact Q8 mc4 rfl (.tmp rfl) QoM
 ·subst k6;have HCT:=Q2 (hcnt (.inl rfl))
  by_cases hdk:dk=3
  ·have HZ:=Q2 (show RES=YI (Ql F count) (p.len:Int) by rw[<- HRS.out,Q9Q rfl];simp only;rw[hdk];rfl);refine yn<|yb<|yq<|yr<|yo zef<|yo zA<|yl<|yn<|y0<|yq<|yq<|yr<|yo zef<|yo zA<|yl<|yn<|y0<|yr<|yo zef<|yo zA<|yl<|yn<|y0<|yq<|yr<|yo zef<|yo zA<|yl<|yn<|y0<|yq<|yr<|yo zef<|yo zA<|yl<|yn<|y0<|yq<|yr<|yo zef<|yo zA<|yl<|yn<|y0<|yq<|yr<|yo zet<|yo zA<|yl<|yn<|y1<|yq<|yr<|yo zF<|yo (zB 0)<|yo zet<|yo zM<|yo zM<|yo zF<|yo (zB 0)<|yo zL ?_;(refine Q4 (Kg rfl rfl Q1 rfl rfl rfl (fun w hw=>QdU (HFM.out.below (hw.k.below.mono hBW)) (by have:=hw.k.size;omega) (hw.cell_blkL 2 rfl rfl) (hw.cell_blkL 1 rfl rfl) (hw.cell_old hcg Qm) HCT.out)) ?_);refine yo zY<|yo zA<|yl<|yn<|yt<|yk<|yc ?_;exact Q8 mc4 rfl (.tmp rfl) QoM
  ·have HZ:=Q2 (show RES=false by rw[<- HRS.out,Q9Q rfl];simp only;rw[beq_eq_false_iff_ne.2 hdk];rfl);refine yn<|yb<|yq<|yr<|yo zef<|yo zA<|yl<|yn<|y0<|yq<|yq<|yr<|yo zef<|yo zA<|yl<|yn<|y0<|yr<|yo zef<|yo zA<|yl<|yn<|y0<|yq<|yr<|yo zef<|yo zA<|yl<|yn<|y0<|yq<|yr<|yo zef<|yo zA<|yl<|yn<|y0<|yq<|yr<|yo zef<|yo zA<|yl<|yn<|y0<|yq<|yr<|yo zet<|yo zA<|yl<|yn<|y1<|yq<|yr<|yo zF<|yo (zB 0)<|yo zef<|yo zM<|yo zS<|yo zS<|yo zS<|yo zS<|yo zS<|yo zN<|yo zA<|yl<|yn<|yt<|yk<|yc ?_;exact Q8 mc4 rfl (.tmp rfl) QoM
end
end
def eqF:VF->VF->Bool
 |.nil,.nil=>true
 |.cons d p r,.cons d' p' r'=>(d.k==d'.k&&d.n==d'.n&&d.bs==d'.bs&&d.ns==d'.ns&&p.len==p'.len&&eqF p p')&&eqF r r'
 |_,_=>false
def eqV(d:Nd)(p:VF)(d':Nd)(p':VF):Bool:=d.k==d'.k&&d.n==d'.n&&d.bs==d'.bs&&d.ns==d'.ns&&p.len==p'.len&&eqF p p'
theorem Q6X(d:Nd)(p r:VF)(d':Nd)(p' r':VF):eqF (.cons d p r) (.cons d' p' r')=(eqV d p d' p'&&eqF r r'):=rfl
theorem Qpv:∀(F G:VF),eqF F G=true↔F=G:=by
 intro F;induction F with
 |nil=>intro G;cases G with
  |nil=>simp [eqF]
  |cons=>simp [eqF]
 |cons d p r ih1 ih2=>intro G;cases G with
  |nil=>simp [eqF]
  |cons d' p' r'=>
   rw[Q6X,eqV];simp only[Bool.and_eq_true,beq_iff_eq,ih1,ih2,VF.cons.injEq];constructor
   ·rintro⟨⟨⟨⟨⟨⟨h1,h2⟩,h3⟩,h4⟩,h5⟩,h6⟩,h7⟩
    obtain⟨a,b,c,e⟩:=d;obtain⟨a',b',c',e'⟩:=d';simp only at h1 h2 h3 h4;subst h1 h2 h3 h4;exact⟨rfl,h6,h7⟩
   ·rintro⟨rfl,rfl,rfl⟩
    exact⟨⟨⟨⟨⟨⟨rfl,rfl⟩,rfl⟩,rfl⟩,rfl⟩,rfl⟩,rfl⟩
theorem QhX(d:Nd)(p:VF)(d':Nd)(p':VF):eqV d p d' p'=true↔d=d'/\p=p':=by
 have h:=Qpv (.cons d p .nil) (.cons d' p' .nil);rw[Q6X,show eqF .nil .nil=true from rfl,Bool.and_true] at h;rw[h];simp
theorem Q4a{W:World}{A A2:Option Addr}{n c m c2:Nat}{xs uy:List (List UInt8)}(h1:Rd W W.heap.size 1 A n (sv xs))(h2:Rd W W.heap.size 1 A2 m (sv uy))(hn:n<=1048576):Calls Tryz.prog 42 #[.slice A n c,.slice A2 m c2] W (FiE W (xs==uy)):=by
 have H1:=Q2 h1;have H2:=Q2 h2;have hl1:xs.length=n:=by have:=h1.len;unfold sv at this;simpa using this
 have hl2:uy.length=m:=by have:=h2.len;unfold sv at this;simpa using this
 clear h1 h2;go_enter Tryz.func42,Tryz.ntmps42;refine Qv (M:=[]) (W:=W) (N:=26) (E:=[(0,.slice A n c),(1,.slice A2 m c2)]) (O:=[]) ?_ mc3 (Wd.start [] W);by_cases hnm:n=m
 case neg=>
  have hne:(xs==uy)=false:=by
   rw[beq_eq_false_iff_ne];intro e;rw[e] at hl1;omega
  refine yq<|yr<|yo zA<|yl<|yn<|yq<|yq<|yr<|yo zM<|yo zL<|yo zM<|yo zL<|yo znt<|yl<|yn<|y1<|yq<|yr<|yo zA<|yl<|yn<|yt<|yc ?_;exact Q8 mc4 rfl (.tmp rfl) (fun w hw=>⟨by rw[hne],hw.k.below⟩)
 subst hnm;refine yq<|yr<|yo zA<|yl<|yn<|yq<|yq<|yr<|yo zM<|yo zL<|yo zM<|yo zL<|yo znf<|yl<|yn<|y0<|ys<|yn<|yq<|yq<|yr<|yo zA<|yl<|yn<|yb ?_;refine Xe (ι:=Nat) (fun k=>k<=n/\xs.take k=uy.take k) (fun k=>n - k) (fun k=>[(0,.slice A n c),(1,.slice A2 n c2),(5,.int .i64 (k:Int))]) (fun _=>[]) 0 ⟨Nat.zero_le _,rfl⟩ J0 Ju ?_;rintro k ⟨hk,hall⟩;have HA:=Q2 hall;clear hall;by_cases hkn:k<n
 ·obtain⟨b,o,s,rfl,hb,hs,hc⟩:=K0 H1.out hkn;obtain⟨b2,o2,s2,rfl,hb2,hs2,hc2⟩:=K0 H2.out hkn
  by_cases hss:s.data.toList=s2.data.toList
  ·have he:(s.data.toList != s2.data.toList)=false:=bne_eq_false_iff_eq.2 hss;refine QqX ?_;refine Qe zM ?_;refine Qu4 ?_;refine Q9d ?_;refine Qu (k+1) ⟨hkn,?_⟩ Q3 Q59 Ju;rw[List.take_add_one,List.take_add_one,HA.out,hs,hs2,hss]
  ·have he:(s.data.toList != s2.data.toList)=true:=bne_iff_ne.2 hss
   have hne:(xs==uy)=false:=by
    rw[beq_eq_false_iff_ne];intro e;rw[e,hs2] at hs;exact hss (Option.some.inj hs).symm
   refine QqX ?_;refine Qe zM ?_;refine Qu4 ?_;refine QkX ?_;exact Q8 mc4 rfl (.tmp rfl) (fun w hw=>⟨by rw[hne],hw.k.below⟩)
 ·refine QjL ?_;refine Q8 mc4 rfl (.tmp rfl) (fun w hw=>⟨?_,hw.k.below⟩);have h3:xs.take k=xs:=List.take_of_length_le Q3;have h4:uy.take k=uy:=List.take_of_length_le Q3;have:=HA.out;rw[h3,h4] at this;rw[this,beq_self_eq_true]
def SaC(d:Nd)(p:VF):Prop:=∀(d':Nd) (p':VF) (W:World) (v v':Value),d.ns.length<=1048576->p.len<=1048576->Z4 p->VIn W W.heap.size v d p->VIn W W.heap.size v' d' p'->Calls Tryz.prog 13 #[v,v'] W (FiE W (eqV d p d' p'))
structure Sw where
 i:Nat
 l:VF
 l':VF
theorem Yk.range2{w:World}{b o:Nat}{d:Nd}{sb sn sp:Value}(h:Yk w b o d sb sn sp):w.rangeAt b o [.int .i64 d.k,.int .i64 d.n,sb,sn,sp]:=fun j u hu=>by
 obtain⟨h0,h1,h2,h3,h4⟩:=h;match j,hu with
 |0,hu=>cases hu;exact h0
 |1,hu=>cases hu;exact h1
 |2,hu=>cases hu;exact h2
 |3,hu=>cases hu;exact h3
 |4,hu=>cases hu;exact h4
theorem Qf9(d:Nd)(p:VF)(hall:VF.All SaC p):SaC d p:=by
 intro d' p' W v v' hns hp6 hfp hv hv';have HALL:=Q2 hall;have HFP:=Q2 hfp;obtain⟨RES,hres⟩:∃x,eqV d p d' p'=x:=⟨_,rfl⟩;have HR:=Q2 hres;rw[hres];obtain⟨sb,sn,sp,rfl,Ab,nb,cb,An,nn,cn,Ap,cp,rfl,rfl,rfl,hnb,hnn,hpl,hcm,hrb,hrn,hch⟩:=hv;obtain⟨sb',sn',sp',rfl,Ab',nb',cb',An',nn',cn',Ap',cp',rfl,rfl,rfl,hnb',hnn',hpl',hcm',hrb',hrn',hch'⟩:=hv';have hnnl:d.ns.length=nn:=by have:=hrn.len;rw[JE] at this;exact this
 have HRB:=Q2 hrb;have HRN:=Q2 hrn;have HCH:=Q2 hch;have HRB':=Q2 hrb';have HRN':=Q2 hrn';have HCH':=Q2 hch';have hn6:nn<=1048576:=by omega
 obtain⟨dk,dn,dbs,dns⟩:=d;obtain⟨dk',dn',dbs',dns'⟩:=d';clear hrb hrn hch hrb' hrn' hch' hall hfp hns hnnl hres;go_enter Tryz.func13,Tryz.ntmps13;refine Qv (M:=[]) (W:=W) (N:=62) (E:=[(0,.agg #[.int .i64 dk,.int .i64 dn,.slice Ab nb cb,.slice An nn cn,.slice Ap p.len cp]),(1,.agg #[.int .i64 dk',.int .i64 dn',.slice Ab' nb' cb',.slice An' nn' cn',.slice Ap' p'.len cp'])]) (O:=[]) ?_ mc3 QT;refine yq<|yr ?_;refine yB fun b2=>?_;refine yB fun b3=>?_;refine yo zA<|yl ?_;by_cases hk:dk=dk'
 case neg=>
  have HZ:=Q2 (show RES=false by rw[<- HR.out];unfold eqV;simp only;rw[beq_eq_false_iff_ne.2 hk];rfl);refine yn<|yq<|yq<|yr<|yo zF<|yo (zB 1)<|yo zF<|yo (zB 0)<|yo znt<|yo zM<|yo zS<|yo zS<|yo zS<|yo zS<|yo zS<|yo zY<|yo zM<|yo zS<|yo zS<|yo zS<|yo zS<|yo zS<|yo zS<|yo zY<|yo zM<|yo zS<|yo zS<|yo zS<|yo zS<|yo zS<|yo zS<|yo zY<|yo zM<|yo zS<|yo zS<|yo zS<|yo zS<|yo zS<|yo zS<|yo zS<|yo zY<|yl<|yn<|y1<|yq<|yr<|yo zA<|yl<|yn<|yt<|yc ?_;exact QeI
 by_cases hn:dn=dn'
 case neg=>
  have HZ:=Q2 (show RES=false by rw[<- HR.out];unfold eqV;simp only;rw[beq_eq_false_iff_ne.2 hn];simp);refine yn<|yq<|yq<|yr<|yo zF<|yo (zB 1)<|yo zF<|yo (zB 0)<|yo znf<|yo zM<|yo zF<|yo (zB 1)<|yo zF<|yo (zB 0)<|yo znt<|yo zN<|yo zM<|yo zS<|yo zS<|yo zS<|yo zS<|yo zS<|yo zS<|yo zY<|yo zM<|yo zS<|yo zS<|yo zS<|yo zS<|yo zS<|yo zS<|yo zY<|yo zM<|yo zS<|yo zS<|yo zS<|yo zS<|yo zS<|yo zS<|yo zS<|yo zY<|yl<|yn<|y1<|yq<|yr<|yo zA<|yl<|yn<|yt<|yc ?_;exact QeI
 have hby:∀w,Wd [] W [.blk b3 (.cells ([.int .i64 dk',.int .i64 dn',.slice Ab' nb' cb',.slice An' nn' cn',.slice Ap' p'.len cp']:List Value).toArray 30 (0,0)),.blk b2 (.cells ([.int .i64 dk,.int .i64 dn,.slice Ab nb cb,.slice An nn cn,.slice Ap p.len cp]:List Value).toArray 30 (0,0))] w->Calls Tryz.prog 18 #[.slice Ab nb cb,.slice Ab' nb' cb'] w (FiE w (dbs==dbs')):=fun w hw=>(Calls.stay (Q4I (HRB.out.up hw.k.below) (HRB'.out.up hw.k.below))).mono fun e w' h=>h;have hst:∀w,Wd [] W [.blk b3 (.cells ([.int .i64 dk',.int .i64 dn',.slice Ab' nb' cb',.slice An' nn' cn',.slice Ap' p'.len cp']:List Value).toArray 30 (0,0)),.blk b2 (.cells ([.int .i64 dk,.int .i64 dn,.slice Ab nb cb,.slice An nn cn,.slice Ap p.len cp]:List Value).toArray 30 (0,0))] w->Calls Tryz.prog 42 #[.slice An nn cn,.slice An' nn' cn'] w (FiE w (dns==dns')):=fun w hw=>Q4a (HRN.out.up hw.k.below) (HRN'.out.up hw.k.below) hn6;obtain⟨qb,hqb⟩:∃q,(dbs==dbs')=q:=⟨_,rfl⟩;obtain⟨qn,hqn⟩:∃q,(dns==dns')=q:=⟨_,rfl⟩;have HRE:=Q2 (show RES=(qb&&qn&&p.len==p'.len&&eqF p p') by rw[<- HR.out];unfold eqV;simp only;rw[hqb,hqn,hk,hn,beq_self_eq_true,beq_self_eq_true];rfl);rw[hqb] at hby;rw[hqn] at hst;cases qb with
 |false=>
  have HZ:=Q2 (show RES=false by rw[HRE.out];rfl);refine yn<|yq<|yq<|yr<|yo zF<|yo (zB 1)<|yo zF<|yo (zB 0)<|yo znf<|yo zM<|yo zF<|yo (zB 1)<|yo zF<|yo (zB 0)<|yo znf<|yo zN<|yo zM<|yo zF<|yo (zB 1)<|yo zF<|yo (zB 0) ?_;refine Q4 (Qg rfl rfl Q1 rfl rfl (fun w hw=>hby w hw)) ?_;refine yo zO<|yo zN<|yo zM<|yo zS<|yo zS<|yo zS<|yo zS<|yo zS<|yo zS<|yo zY<|yo zM<|yo zS<|yo zS<|yo zS<|yo zS<|yo zS<|yo zS<|yo zS<|yo zY<|yl<|yn<|y1<|yq<|yr<|yo zA<|yl<|yn<|yt<|yc ?_;exact QeI
 |true=>
 cases qn with
 |false=>
  have HZ:=Q2 (show RES=false by rw[HRE.out];rfl);refine Qoj ?_;refine yo zO<|yo zN<|yo zM<|yo zS<|yo zS<|yo zS<|yo zS<|yo zS<|yo zS<|yo zS<|yo zY<|yl<|yn<|y1<|yq<|yr<|yo zA<|yl<|yn<|yt<|yc ?_;exact QeI
 |true=>
 by_cases hlen:p.len=p'.len
 case neg=>
  have HZ:=Q2 (show RES=false by rw[HRE.out,beq_eq_false_iff_ne.2 hlen];rfl);refine Qoj ?_;refine yo zO<|yo zN<|yo zM<|yo zF<|yo (zB 1)<|yo zL<|yo zF<|yo (zB 0)<|yo zL<|yo znt<|yo zN<|yl<|yn<|y1<|yq<|yr<|yo zA<|yl<|yn<|yt<|yc ?_;exact QeI
 have HS:=Q2 (show RES=eqF p p' by rw[HRE.out,hlen,beq_self_eq_true];rfl);refine Qoj ?_;refine yo zO<|yo zN<|yo zM<|yo zF<|yo (zB 1)<|yo zL<|yo zF<|yo (zB 0)<|yo zL<|yo znf<|yo zN<|yl<|yn<|y0<|ys<|yn<|yq<|yq<|yr<|yo zA<|yl<|yn<|yb ?_;obtain⟨L,hL⟩:∃L,p.len=L:=⟨_,rfl⟩;have hL':p'.len=L:=hlen.symm.trans hL;clear hby hst hlen hqb hqn;rw[hL] at hp6 hpl;have HLL:=Q2 (And.intro hL hL');simp only[hL,hL'];refine Xe (ι:=Sw) (fun y=>VF.All SaC y.l/\Z4 y.l/\(0<y.l.len->∃b o,Ap=some ⟨b,o,none⟩/\b<W.heap.size/\FIn W W.heap.size y.l b (o+y.i*5))/\(0<y.l'.len->∃b o,Ap'=some ⟨b,o,none⟩/\b<W.heap.size/\FIn W W.heap.size y.l' b (o+y.i*5))/\y.i+y.l.len=L/\y.i+y.l'.len=L/\RES=eqF y.l y.l') (fun y=>L - y.i) (fun y=>[Q40,QcF,(5,.int .i64 (y.i:Int))]) (fun _=>QrT) ⟨0,p,p'⟩ ⟨HALL.out,HFP.out,by simpa using HCH.out,by simpa using HCH'.out,by show 0+p.len=L;rw[HLL.out.1,Nat.zero_add],by show 0+p'.len=L;rw[HLL.out.2,Nat.zero_add],HS.out⟩ J0 Ju ?_;rintro⟨i,l,l'⟩ ⟨hall,hfl,hcl,hcl',hil,hil',hre⟩;replace hil:i+l.len=L:=hil;replace hil':i+l'.len=L:=hil';have HAL:=Q2 (show VF.All SaC l from hall);have HFL:=Q2 (show Z4 l from hfl);have HCL:=Q2 (show 0<l.len->∃b o,Ap=some ⟨b,o,none⟩/\b<W.heap.size/\FIn W W.heap.size l b (o+i*5) from hcl);have HCL':=Q2 (show 0<l'.len->∃b o,Ap'=some ⟨b,o,none⟩/\b<W.heap.size/\FIn W W.heap.size l' b (o+i*5) from hcl');have HRL:=Q2 (show RES=eqF l l' from hre);clear hall hfl hcl hcl' hre;show sE _ _ _ _ _ [Q40,QcF,(5,.int .i64 (i:Int))] QrT _;cases l with
 |nil=>
  have hiL:i=L:=hil;have h0:l'=.nil:=by cases l' with
   |nil=>rfl
   |cons=>simp only[VF.len] at hil';omega
  subst h0;have HZ:=Q2 (show RES=true from HRL.out);refine yq<|yq<|yr<|yo zM<|yo zF<|yo (zB 1)<|yo zL<|yo zlf<|yl<|yn<|y0<|ye<|yn<|yq<|yr<|yo zA<|yl<|yn<|yt ?_;exact QeI
 |cons d1 p1 r1=>
  cases l' with
  |nil=>simp only[VF.len] at hil hil';omega
  |cons d2 p2 r2=>
   have hilt:i<L:=by simp only[VF.len] at hil;omega
   obtain⟨b,o,rfl,hb,⟨sb1,sn1,sp1,hc1,hd1⟩,hr1⟩:=HCL.out (Nat.succ_pos _);obtain⟨b',o',rfl,hb',⟨sb2,sn2,sp2,hc2,hd2⟩,hr2⟩:=HCL'.out (Nat.succ_pos _);have HV1:=Q2 (show VIn W W.heap.size (.agg #[.int .i64 d1.k,.int .i64 d1.n,sb1,sn1,sp1]) d1 p1 from ⟨sb1,sn1,sp1,rfl,hd1⟩);have HV2:=Q2 (show VIn W W.heap.size (.agg #[.int .i64 d2.k,.int .i64 d2.n,sb2,sn2,sp2]) d2 p2 from ⟨sb2,sn2,sp2,rfl,hd2⟩);have hg1:=hc1.range2;have hg2:=hc2.range2;have HR1:=Q2 hr1;have HR2:=Q2 hr2;clear hc1 hc2 hd1 hd2 hr1 hr2;obtain⟨q,hq⟩:∃q,eqV d1 p1 d2 p2=q:=⟨_,rfl⟩;have HQ:=Q2 hq;have HRQ:=Q2 (show RES=(q&&eqF r1 r2) by rw[HRL.out,Q6X,hq]);clear hq;cases q with
   |false=>
    have HZ:=Q2 (show RES=false by rw[HRQ.out];rfl);refine Qrn ?_;refine QkX ?_;exact QeI
   |true=>
    have HZ:=Q2 (show RES=eqF r1 r2 by rw[HRQ.out];rfl);refine Qrn ?_;refine Q9d ?_;refine Qu ⟨i+1,r1,r2⟩ ⟨HAL.out.2,HFL.out.2.2.2,fun _=>⟨b,o,rfl,hb,by show FIn W W.heap.size r1 b (o+(i+1)*5);rw[show o+(i+1)*5=o+i*5+5 by omega];exact HR1.out⟩,fun _=>⟨b',o',rfl,hb',by show FIn W W.heap.size r2 b' (o'+(i+1)*5);rw[show o'+(i+1)*5=o'+i*5+5 by omega];exact HR2.out⟩,by show i+1+r1.len=L;simp only[VF.len] at hil;omega,by show i+1+r2.len=L;simp only[VF.len] at hil';omega,HZ.out⟩ (by show L - (i+1)<L - i;omega) Q59 Ju
theorem Q0i(d:Nd)(p:VF):SaC d p:=VF.all_each Qf9 d p
section
variable {t:TypeId}{x:Operand}
section
variable {P:Program}{ops:Array Oper}{Q:Exit->Act->World->Prop}{N:Nat}{M:List Nat}{W:World}{E:Env}{O:List Qb}{o:Oper}{rest:List Oper}{B:List PanicEntry->World->Prop}{C:World->Prop}{d:Nat}
theorem QpQ[dq:DQ]{v:Value}[hB:Pan Q B](ho:o.op=.panic x)(hw:Qi ops E o=some true)(hx:ev E x=some (.iface t v))(h:∀w,Wd M W O w->B [{ v:=.iface t v,recovered:=false }] w):lE P ops Q N M W E O (o::rest):=fun a w ha hW=>by
 refine wpList_step fun K hK=>?_;rw[if_pos (ha.want hw)];have hr:∀ρ:Operand->Value,ρ x=.iface t v->(execOp ρ o).run P w=.halt (.panic (.iface t v)) w:=fun ρ hx=>by simp [execOp,ho,hx,go_sem]
 unfold Oper.wp;rw[hr a.eval (ha.eval hx)];exact hB.on a _ w ha.df (h w hW)
theorem Qvj[dq:DQ]{v:Value}(hm:∀w,(Instr.makeInterface t v).run P w=.ok (.iface t v) w)(ho:o.op=.makeInterface t x)(hd:o.dst=some d)(hN:d<N)(hw:Qi ops E o=some true)(hx:ev E x=some v):oE P ops C N E ((d,.iface t v)::E) o:=
 X8 hd hN hw fun ρ w ha _=>by
  simp only[execOp,ho,ha.eval hx,Sem.run_bind,hm w,Result.andThen_ok];rfl
end
section
variable {W w w':World}{z:Wz}{B g c n:Nat}{F:List Rl}{A:Option Addr}{xs:List UInt8}{k:Int}{d:Nd}{p:VF}{v:Value}
theorem Quo(hF:∀k:Int,0<=k/\k<F.length->(Ql F k).kind=2\/(Ql F k).kind=6)(hv:Fm F)(hk:0<=k/\k<F.length)(h:Je W z B g F A c xs n)(hval:VIn W B v d p)(hd1:d.bs.length<=1048576)(hd2:d.ns.length<=1048576)(hn0:QP d p.len=0)(hpl6:p.len<=1048576)(hsz:xs.length+Zm d p<=1099511627776)(hno:n+Zm d p<=1099511627776)(hfit:Vu F (Ql F k) d p=false):
  Calls Tryz.prog 45 #[.pointer (some ⟨g,0,none⟩),.int .i64 k,v] W (WrE z g W A c xs (XE F k d p n) n (Zm d p)):=by
 have H:=Q2 h;have HV0:=Q2 hv;have hwd:=h.wd;have hFn:=h.len;have hr:=hv.toUsd.rok hk;have hfc:=fun(w:World) (Ab An Ap:Option Addr) (cb cn cp:Nat) (hw:Je w z B g F A c xs n) (hru:RuB w B (Ql F k) Ab cb An cn Ap cp) (hval:VIn w B v d p)=>Q1R hw hv hk hru hval hd1 hd2 (hF k hk)
 rw[hfit] at hfc;obtain⟨RES,hres⟩:∃x,XE F k d p n=x:=⟨_,rfl⟩;have HVAL:=Q2 hval;have HK0:=Q2 (show Ql F k=Ql F k from rfl);have HZ:=Q2 (show RES=.error n by rw[<- hres,Qfe hfit]);rw[hres];obtain⟨Af,nn,cf⟩:=z;simp only at hFn;obtain⟨bf,of,haf,_⟩:=h.fm.2 YF;simp only at haf;subst haf;obtain⟨hbB,Ab,cb,An,cn,Ap,cp,hrg,hru⟩:=h.fm.ruleB (k:=k) Q0r;have hbM:bf∉wM g A xs.length c:=fun hm=>by
  rcases VQ.1 hm with e|e
  ·have:=h.hB;omega
  ·have:=(h.far _ e).1;omega
 have hkn:0<=k/\k<(nn:Int):=by omega
 have hBW:B<=W.heap.size:=by have:=h.hB;have:=h.lt;omega
 replace hfc:=fun(w:World) (hw:Je w _ B g F A c xs n) (hr:RuB w B (Ql F k) Ab cb An cn Ap cp) (hvl:VIn w B v d p)=>hfc w Ab An Ap cb cn cp hw hr hvl
 clear h;obtain⟨r,er⟩:∃r,Ql F k=r:=⟨_,rfl⟩;rw[er] at hr hrg hru hfc HK0;clear er hfit;obtain⟨sb,sn,sp,rfl,Abv,nb,cbv,Anv,nnv,cnv,Apv,cpv,rfl,rfl,rfl,hnb,hnn,hpl,hcm,hrb,hrn,hch⟩:=hval;have hnbl:d.bs.length=nb:=by have:=hrb.len;rw[Xr] at this;exact this
 have hnnl:d.ns.length=nnv:=by have:=hrn.len;rw[JE] at this;exact this
 subst hnbl hnnl;have HRB:=Q2 hrb;have HCH:=Q2 hch;have HRU:=Q2 hru;have HRK:=Q2 hr;have HD:=Q2 (Eq.refl d);obtain⟨dk,dn,dbs,dns⟩:=d;simp only[Zm] at hsz hno hd1 hd2 hnb hnn ⊢;clear hrb hrn hch hru hv;obtain⟨name,kind,bs,size,big,mn,mx,stop,count,elem,names,parts⟩:=r;simp only[ruC] at hr hrg hfc HK0;have HFC:=Q2 hfc;have HRUB:=Qde;clear hfc;go_enter Tryz.func45,Tryz.ntmps45;haveI:Pan (bodyPost Tryz.prog Tryz.f45 (WrE ⟨some ⟨bf,of,none⟩,nn,cf⟩ g W A c xs RES n (300+dbs.length+Z1 p))) (Q9e RES (wM g A xs.length c) W):=Pan.body fun ch w' ⟨x,h1,h2,h3⟩=>K4
 refine Qv (M:=wM g A xs.length c) (W:=W) (N:=223) (E:=Qvf) (O:=Qug) ?_ Zo hwd;clear hwd;refine yq<|yr ?_;refine yB fun b5=>?_;refine QnA ?_;refine yA fun b6=>?_;refine Qut ?_;refine yo zO<|yl<|yn<|y1<|yr<|yo zM ?_;refine Q4 mc5 ?_;refine yo zF<|yo (zB 2) ?_;refine Q4 QhG ?_;refine Q4 (Qvj (fun w=>by kernel_rfl) rfl rfl Q1 rfl rfl) ?_;exact QpQ rfl rfl rfl (fun w hw=>⟨n,HZ.out,rfl,hw.k⟩)
theorem Qwz(hv:Fm F)(hk:0<=k/\k<F.length)(h:Je W z B g F A c xs n)(hval:VIn W B v d p)(hd1:d.bs.length<=1048576)(hd2:d.ns.length<=1048576)(hn0:QP d p.len=0)(hpl6:p.len<=1048576)(hsz:xs.length+Zm d p<=1099511627776)(hno:n+Zm d p<=1099511627776)(hfit:Vu F (Ql F k) d p=true)(hkind:(Ql F k).kind=2):
  Calls Tryz.prog 45 #[.pointer (some ⟨g,0,none⟩),.int .i64 k,v] W (WrE z g W A c xs (XE F k d p n) n (Zm d p)):=by
 have H:=Q2 h;have HV0:=Q2 hv;have hwd:=h.wd;have hFn:=h.len;have hr:=hv.toUsd.rok hk;have hfc:=fun(w:World) (Ab An Ap:Option Addr) (cb cn cp:Nat) (hw:Je w z B g F A c xs n) (hru:RuB w B (Ql F k) Ab cb An cn Ap cp) (hval:VIn w B v d p)=>Q1R hw hv hk hru hval hd1 hd2 (.inl hkind)
 rw[hfit] at hfc;obtain⟨RES,hres⟩:∃x,XE F k d p n=x:=⟨_,rfl⟩;have HVAL:=Q2 hval;have HL:=Q2 (show RES=.ok (Q1w F (Ql F k) d p,n+1) by rw[<- hres];exact QdE hfit (by unfold KZ;rw[if_neg Q3,if_neg Q3,if_neg Q3]) (Q95 Q3 Q3));have HK0:=Q2 (show (Ql F k).kind=2/\Q1w F (Ql F k) d p=Q2l (Ql F k) d.n from ⟨hkind,by unfold Q1w;rw[if_neg Q3,if_pos K3]⟩);rw[HK0.out.2] at HL;have hcnt:YI (Ql F k) d.n=true:=by rw[Q5H K3,Bool.and_eq_true] at hfit;exact hfit.2
 have hNO:=JX.of hr K3;rw[hres];obtain⟨Af,nn,cf⟩:=z;simp only at hFn;obtain⟨bf,of,haf,_⟩:=h.fm.2 YF;simp only at haf;subst haf;obtain⟨hbB,Ab,cb,An,cn,Ap,cp,hrg,hru⟩:=h.fm.ruleB (k:=k) Q0r;have hbM:bf∉wM g A xs.length c:=fun hm=>by
  rcases VQ.1 hm with e|e
  ·have:=h.hB;omega
  ·have:=(h.far _ e).1;omega
 have hkn:0<=k/\k<(nn:Int):=by omega
 have hBW:B<=W.heap.size:=by have:=h.hB;have:=h.lt;omega
 replace hfc:=fun(w:World) (hw:Je w _ B g F A c xs n) (hr:RuB w B (Ql F k) Ab cb An cn Ap cp) (hvl:VIn w B v d p)=>hfc w Ab An Ap cb cn cp hw hr hvl
 clear h;obtain⟨r,er⟩:∃r,Ql F k=r:=⟨_,rfl⟩;have hkd2:=hkind;rw[er] at hr hrg hru hfc HK0 HL hcnt hNO hkd2;clear er hfit;obtain⟨sb,sn,sp,rfl,Abv,nb,cbv,Anv,nnv,cnv,Apv,cpv,rfl,rfl,rfl,hnb,hnn,hpl,hcm,hrb,hrn,hch⟩:=hval;have hnbl:d.bs.length=nb:=by have:=hrb.len;rw[Xr] at this;exact this
 have hnnl:d.ns.length=nnv:=by have:=hrn.len;rw[JE] at this;exact this
 subst hnbl hnnl;have HRB:=Q2 hrb;have HCH:=Q2 hch;have HRU:=Q2 hru;have HRK:=Q2 hr;have HD:=Q2 (Eq.refl d);obtain⟨dk,dn,dbs,dns⟩:=d;simp only[Zm] at hsz hno hd1 hd2 hnb hnn ⊢;clear hrb hrn hch hru hv;obtain⟨name,kind,bs,size,big,mn,mx,stop,count,elem,names,parts⟩:=r;have hnc:=fun(w:World) (hw:Je w ⟨some ⟨bf,of,none⟩,nn,cf⟩ B g F A c xs (n+1))=>Q62 hw (sb:=.slice Ab bs.length cb) (sn:=.slice An names.length cn) (sp:=.slice Ap parts.length cp) hNO hkd2 hcnt Q3
 have hnl:=Q5T hNO hcnt;obtain⟨uy,hys⟩:∃uy,Q2l ⟨name,kind,bs,size,big,mn,mx,stop,count,elem,names,parts⟩ dn=uy:=⟨_,rfl⟩;simp only[hys] at hnc hnl HL;simp only[ruC] at hr hrg hfc HK0 hnc;have HNC:=Q2 hnc;clear hnc hNO hcnt;have HFC:=Q2 hfc;have HRUB:=Qde;clear hfc;go_enter Tryz.func45,Tryz.ntmps45;haveI:Pan (bodyPost Tryz.prog Tryz.f45 (WrE ⟨some ⟨bf,of,none⟩,nn,cf⟩ g W A c xs RES n (300+dbs.length+Z1 p))) (Q9e RES (wM g A xs.length c) W):=Pan.body fun ch w' ⟨x,h1,h2,h3⟩=>K4
 refine Qv (M:=wM g A xs.length c) (W:=W) (N:=223) (E:=Qvf) (O:=Qug) ?_ Zo hwd;clear hwd;refine yq<|yr ?_;refine yB fun b5=>?_;refine QnA ?_;refine yA fun b6=>?_;refine Qut ?_;refine yo zO<|yl ?_;obtain⟨hkd,_⟩:=HK0.out;replace hkd:kind=2:=hkd;subst hkd;have HZ:=Q2 (show RES=.ok (uy,n+1) from HL.out);have e1:(n:Int)+1=((n+1:Nat):Int):=rfl;refine QvF ?_;refine yl<|yn<|yq<|yr<|yo zF<|yo (zB 0)<|yl<|yn<|yb<|yq<|yr<|yo zef<|yo zA<|yl<|yn<|y0<|yq<|yq<|yr<|yo zet<|yo zA<|yl ?_;rw[e1];refine yn<|y1<|ys<|yn<|y1<|yr<|yo zM<|yo (zD 0)<|yo zF<|yo (zB 1) ?_;refine Jn QqG rfl Q1 (fun y hy=>?_);refine yl ?_;obtain⟨ub,um,uA,uc⟩:=y;obtain⟨hy1,hy2,hy3⟩:=hy;injection hy1 with hy1;injection hy1 with hyb hym;simp only at hyb hym;subst hyb hym;refine yd ?_;exact Y8 Q5Q rfl (fun w hw=>Q9X H.out 2 3 (b:=uy) hw rfl rfl HZ.out Q3 Q3)
end
end
section
variable {W w w':World}{z:Wz}{B g c n:Nat}{F:List Rl}{A:Option Addr}{xs:List UInt8}{k:Int}{d:Nd}{p:VF}{v:Value}
def WvC(z:Wz)(B g:Nat)(F:List Rl)(d:Nd)(p:VF):Prop:=QP d p.len=0->QaT p->XN d->Z4 p->p.len<=1048576->∀(W:World) (A:Option Addr) (c:Nat) (xs:List UInt8) (n:Nat) (k:Int) (v:Value),0<=k/\k<F.length->Je W z B g F A c xs n->VIn W B v d p->xs.length+Zm d p<=1099511627776->n+Zm d p<=1099511627776->Calls Tryz.prog 45 #[.pointer (some ⟨g,0,none⟩),.int .i64 k,v] W (WrE z g W A c xs (XE F k d p n) n (Zm d p))
theorem Yk.range{w:World}{b o:Nat}{d:Nd}{sb sn sp:Value}(h:Yk w b o d sb sn sp):w.rangeAt b o [.int .i64 d.k,.int .i64 d.n,sb,sn,sp]:=fun j u hu=>by
 obtain⟨h0,h1,h2,h3,h4⟩:=h;match j,hu with
 |0,hu=>cases hu;exact h0
 |1,hu=>cases hu;exact h1
 |2,hu=>cases hu;exact h2
 |3,hu=>cases hu;exact h3
 |4,hu=>cases hu;exact h4
structure Aw where
 i:Nat
 l:VF
 uy:List UInt8
 m:Nat
 A:Option Addr
 c:Nat
theorem QeE{l:VF}(hall:VF.All (WvC z B g F) l)(hgl:QaT l)(hfl:Z4 l)(h:Je W z B g F A c xs n)(hk:0<=k/\k<F.length){Ap:Option Addr}{cp:Nat}(hch:0<l.len->∃b o,Ap=some ⟨b,o,none⟩/\b<B/\FIn W B l b o)(hl6:l.len<=1048576)(hsz:xs.length+Z1 l<=1099511627776)(hno:n+Z1 l<=1099511627776):
  Calls Tryz.prog 85 #[.pointer (some ⟨g,0,none⟩),.int .i64 k,.slice Ap l.len cp] W (WrE z g W A c xs (Q3m F k l n) n (Z1 l)):=by
 have H:=Q2 h;have hwd:=h.wd;obtain⟨RES,hres⟩:∃x,Q3m F k l n=x:=⟨_,rfl⟩;have HR0:=Q2 (show RES=apW [] (Q3m F k l n) by rw[Q5y,hres]);rw[hres];have HA0:=Q2 hall;have HG0:=Q2 hgl;have HF0:=Q2 hfl;have HC0:=Q2 hch;obtain⟨Af,nn,cf⟩:=z;obtain⟨L,hL⟩:∃L,l.len=L:=⟨_,rfl⟩;obtain⟨C,hC⟩:∃C,Z1 l=C:=⟨_,rfl⟩;have HLC:=Q2 (And.intro hL hC);rw[hL] at hl6 ⊢;rw[hC] at hsz hno ⊢;clear h hres hall hgl hfl hch hL hC;go_enter Tryz.func85,Tryz.ntmps85;haveI:Pan (bodyPost Tryz.prog Tryz.f85 (WrE ⟨Af,nn,cf⟩ g W A c xs RES n C)) (Q9e RES (wM g A xs.length c) W):=Pan.body fun ch w' ⟨x,h1,h2,h3⟩=>K4
 refine Qv (M:=wM g A xs.length c) (W:=W) (N:=19) (E:=[ZU,Q8k,(2,.slice Ap L cp)]) (O:=[.blk g Qtc,.row A xs.length c 5 1 (bv xs)]) ?_ Zo hwd;clear hwd;refine yq<|yr<|yo zM<|yo zL<|yo zM<|yl<|yn<|yb ?_;refine Xe (ι:=Aw) (fun y=>VF.All (WvC ⟨Af,nn,cf⟩ B g F) y.l/\QaT y.l/\Z4 y.l/\(0<y.l.len->∃b o,Ap=some ⟨b,o,none⟩/\b<B/\FIn W B y.l b (o+y.i*5))/\y.i+y.l.len=L/\RES=apW y.uy (Q3m F k y.l y.m)/\y.uy.length+Z1 y.l<=C/\y.m+Z1 y.l<=n+C) (fun y=>L - y.i) (fun y=>[ZU,Q8k,(8,.slice Ap L cp),(9,.int .i64 (L:Int)),(10,.int .i64 (y.i:Int))]) (fun y=>[.blk g (.cells ([.slice Af nn cf,.slice y.A (xs++y.uy).length y.c,.int .i64 (y.m:Int)]:List Value).toArray 77 (0,0)),.row y.A (xs++y.uy).length y.c 5 1 (bv (xs++y.uy))]) ⟨0,l,[],n,A,c⟩ ⟨HA0.out,HG0.out,HF0.out,by simpa using HC0.out,by show 0+l.len=L;rw[HLC.out.1,Nat.zero_add],HR0.out,by show 0+Z1 l<=C;rw[HLC.out.2];omega,by show n+Z1 l<=n+C;rw[HLC.out.2];omega⟩ Yj (fun w hw=>?_) ?_
 ·simp only[List.append_nil]
  exact hw
 rintro⟨i,l,uy,m,A',c'⟩ ⟨hall,hgl,hfl,hch,hil,hres,hy,hm⟩;replace hil:i+l.len=L:=hil;replace hy:uy.length+Z1 l<=C:=hy;replace hm:m+Z1 l<=n+C:=hm;have HR:=Q2 (show RES=apW uy (Q3m F k l m) from hres);have HAL:=Q2 (show VF.All (WvC ⟨Af,nn,cf⟩ B g F) l from hall);have HGL:=Q2 (show QaT l from hgl);have HFL:=Q2 (show Z4 l from hfl);have HCL:=Q2 (show 0<l.len->∃b o,Ap=some ⟨b,o,none⟩/\b<B/\FIn W B l b (o+i*5) from hch);clear hall hgl hfl hch hres;show sE _ _ _ _ _ [ZU,Q8k,(8,.slice Ap L cp),(9,.int .i64 (L:Int)),(10,.int .i64 (i:Int))] [.blk g (.cells ([.slice Af nn cf,.slice A' (xs++uy).length c',.int .i64 (m:Int)]:List Value).toArray 77 (0,0)),.row A' (xs++uy).length c' 5 1 (bv (xs++uy))] _;cases l with
 |nil=>
  have hiL:i=L:=hil;have HZ:=Q2 (show RES=.ok (uy,m) by rw[HR.out];show Except.ok (uy++[],m)=_;rw[List.append_nil]);have hy':uy.length<=C:=by simp only[Z1] at hy;exact hy
  have hm':m<=n+C:=by simp only[Z1] at hm;exact hm
  refine Qef ?_;exact Y8 Q5Q rfl (fun w hw=>Q9X H.out 0 1 (b:=uy) hw rfl rfl HZ.out hy' hm')
 |cons d p r=>
  have hilt:i<L:=by simp only[VF.len] at hil;omega
  obtain⟨b,o,rfl,hb,⟨sb,sn,sp,hc5,hd5⟩,hrest⟩:=HCL.out (Nat.succ_pos _);have HV0:=Q2 (show VIn W B (.agg #[.int .i64 d.k,.int .i64 d.n,sb,sn,sp]) d p from ⟨sb,sn,sp,rfl,hd5⟩);obtain⟨_,_,_,_,_,_,_,_,rfl,rfl,rfl,_⟩:=hd5;have hrg:=hc5.range;have HV:=HV0;have HRS:=Q2 hrest;have hbM:b∉wM g A xs.length c:=fun hm=>by
   rcases VQ.1 hm with e|e
   ·have:=H.out.hB;omega
   ·have:=(H.out.far _ e).1;omega
  clear hc5 hrest HV0;simp only[Z1] at hy hm;have hsz1:(xs++uy).length+Zm d p<=1099511627776:=by rw[List.length_append];unfold Zm;omega
  have hno1:m+Zm d p<=1099511627776:=by unfold Zm;omega
  refine yq<|yr<|yo zlt<|yl<|yn<|yq<|y1<|ys<|yn<|yq<|yb<|yq<|yr<|yo (zi (hj:=hilt)) ?_;refine Q4 (X7 rfl rfl Q1 rfl rfl (fun w hw=>hw.range_old hrg hbM) rfl) ?_;refine yA fun b7=>?_;refine yW 0 ?_;refine yl<|yn<|yr<|yo zM<|yo zM<|yo (zD 0) ?_;refine Jn (Xw _ _ _ rfl rfl rfl (fun w hw=>(HAL.out.1 HGL.out.1 HGL.out.2.1 HFL.out.1 HFL.out.2.2.1 HFL.out.2.1 w A' c' (xs++uy) m k _ hk (H.out.nextW hw 1 2 rfl rfl) (HV.out.below (H.out.below hw.k) Xo) hsz1 hno1).mono (fun e w' h=>QlQ 1 2 Q1 hw rfl rfl (fun x hx=>by rw[HR.out];show apW uy (bnW (XE F k d p m) _)=_;rw[hx];rfl) h))) rfl Q1 (fun y hy2=>?_);refine yl ?_;obtain⟨ub,um,uA,uc⟩:=y;obtain⟨hy3,hy4,hy5⟩:=hy2;replace hy3:XE F k d p m=.ok (ub,um):=hy3;replace hy4:ub.length<=Zm d p:=hy4;replace hy5:um<=m+Zm d p:=hy5;have HN:=Q2 (show RES=apW (uy++ub) (Q3m F k r um) by rw[HR.out];show apW uy (bnW (XE F k d p m) _)=_;rw[hy3,QuY,Qhw]);clear hy3;unfold Zm at hy4 hy5;refine Q99 ?_;refine Qu ⟨i+1,r,uy++ub,um,uA,uc⟩ ⟨HAL.out.2,HGL.out.2.2,HFL.out.2.2.2,fun _=>⟨b,o,rfl,hb,by show FIn W B r b (o+(i+1)*5);rw[show o+(i+1)*5=o+i*5+5 by omega];exact HRS.out⟩,by show i+1+r.len=L;simp only[VF.len] at hil;omega,HN.out,by show (uy++ub).length+Z1 r<=C;rw[List.length_append];omega,by show um+Z1 r<=n+C;omega⟩ (by show L - (i+1)<L - i;omega) J9 (fun w hw=>?_);have h:=hw.tl;simp only[<- List.append_assoc];exact h
theorem QwQ(hF:∀k:Int,0<=k/\k<F.length->(Ql F k).kind=2\/(Ql F k).kind=6)(hall:VF.All (WvC z B g F) p)(hgp:QaT p)(hfp:Z4 p)(hv:Fm F)(hk:0<=k/\k<F.length)(h:Je W z B g F A c xs n)(hval:VIn W B v d p)(hd1:d.bs.length<=1048576)(hd2:d.ns.length<=1048576)(hn0:QP d p.len=0)(hpl6:p.len<=1048576)(hsz:xs.length+Zm d p<=1099511627776)(hno:n+Zm d p<=1099511627776)(hfit:Vu F (Ql F k) d p=true)(hkind:(Ql F k).kind=6):
  Calls Tryz.prog 45 #[.pointer (some ⟨g,0,none⟩),.int .i64 k,v] W (WrE z g W A c xs (XE F k d p n) n (Zm d p)):=by
 have H:=Q2 h;have HV0:=Q2 hv;have hwd:=h.wd;have hFn:=h.len;have hr:=hv.toUsd.rok hk;have hfc:=fun(w:World) (Ab An Ap:Option Addr) (cb cn cp:Nat) (hw:Je w z B g F A c xs n) (hru:RuB w B (Ql F k) Ab cb An cn Ap cp) (hval:VIn w B v d p)=>Q1R hw hv hk hru hval hd1 hd2 (.inr hkind)
 rw[hfit] at hfc;obtain⟨RES,hres⟩:∃x,XE F k d p n=x:=⟨_,rfl⟩;have HVAL:=Q2 hval;have HALL:=Q2 hall;have HGP:=Q2 hgp;have HFP:=Q2 hfp;clear hall hgp hfp;have HK0:=Q2 (show (Ql F k).kind=6 from hkind);have HL:=Q2 (show RES=apW (Q2l Qf5 (p.len:Int)) (Q3m F (Ql F k).elem p (n+1)) by rw[<- hres];exact QjS hfit hkind);have hcnt:YI (Ql F (Ql F k).count) (p.len:Int)=true:=by rw[Q9Q hkind,Bool.and_eq_true] at hfit;exact hfit.2
 have hNO:=hv.numOk hk K3;have hct:=hr.count K3;have hk2:(Ql F (Ql F k).count).kind=2:=by have:=hF _ hct;have:=hNO.kind;omega
 have hel:=hr.elem K3;rw[hres];obtain⟨Af,nn,cf⟩:=z;simp only at hFn;obtain⟨bf,of,haf,_⟩:=h.fm.2 YF;simp only at haf;subst haf;obtain⟨hbB,Ab,cb,An,cn,Ap,cp,hrg,hru⟩:=h.fm.ruleB (k:=k) Q0r;have hbM:bf∉wM g A xs.length c:=fun hm=>by
  rcases VQ.1 hm with e|e
  ·have:=h.hB;omega
  ·have:=(h.far _ e).1;omega
 have hkn:0<=k/\k<(nn:Int):=by omega
 have hBW:B<=W.heap.size:=by have:=h.hB;have:=h.lt;omega
 replace hfc:=fun(w:World) (hw:Je w _ B g F A c xs n) (hr:RuB w B (Ql F k) Ab cb An cn Ap cp) (hvl:VIn w B v d p)=>hfc w Ab An Ap cb cn cp hw hr hvl
 clear h;obtain⟨r,er⟩:∃r,Ql F k=r:=⟨_,rfl⟩;rw[er] at hr hrg hru hfc HK0 HL hcnt hNO hct hel hk2;clear er hfit;obtain⟨sb,sn,sp,rfl,Abv,nb,cbv,Anv,nnv,cnv,Apv,cpv,rfl,rfl,rfl,hnb,hnn,hpl,hcm,hrb,hrn,hch⟩:=hval;have hnbl:d.bs.length=nb:=by have:=hrb.len;rw[Xr] at this;exact this
 have hnnl:d.ns.length=nnv:=by have:=hrn.len;rw[JE] at this;exact this
 subst hnbl hnnl;have HRB:=Q2 hrb;have HCH:=Q2 hch;have HRU:=Q2 hru;have HRK:=Q2 hr;have HD:=Q2 (Eq.refl d);obtain⟨dk,dn,dbs,dns⟩:=d;simp only[Zm] at hsz hno hd1 hd2 hnb hnn ⊢;clear hrb hrn hch hru hv;obtain⟨name,kind,bs,size,big,mn,mx,stop,count,elem,names,parts⟩:=r;obtain⟨hbB2,Ab2,cb2,An2,cn2,Ap2,cp2,hrg2,hru2⟩:=H.out.fm.ruleB (k:=count) (by simp only;exact QrJ);have hct2:0<=count/\count<(nn:Int):=QrJ;simp only at hcnt hNO HL hk2;obtain⟨r2,er2⟩:∃r,Ql F count=r:=⟨_,rfl⟩;rw[er2] at hrg2 hcnt hNO HL hk2;clear er2 hru2;have hnc:=fun(w:World) (hw:Je w ⟨some ⟨bf,of,none⟩,nn,cf⟩ B g F A c xs (n+1))=>Q62 hw (sb:=.slice Ab2 r2.bs.length cb2) (sn:=.slice An2 r2.names.length cn2) (sp:=.slice Ap2 r2.parts.length cp2) hNO hk2 hcnt Q3
 have hnl:=Q5T hNO hcnt;obtain⟨uy,hys⟩:∃uy,Q2l r2 (p.len:Int)=uy:=⟨_,rfl⟩;simp only[hys] at hnc hnl HL;clear hys hNO hcnt hct;obtain⟨name2,kind2,bs2,size2,big2,mn2,mx2,stop2,count2,elem2,names2,parts2⟩:=r2;simp only[ruC] at hnc hrg2;have HNC:=Q2 hnc;clear hnc;simp only[ruC] at hr hrg hfc HK0;have HFC:=Q2 hfc;have HRUB:=Qde;clear hfc;go_enter Tryz.func45,Tryz.ntmps45;haveI:Pan (bodyPost Tryz.prog Tryz.f45 (WrE ⟨some ⟨bf,of,none⟩,nn,cf⟩ g W A c xs RES n (300+dbs.length+Z1 p))) (Q9e RES (wM g A xs.length c) W):=Pan.body fun ch w' ⟨x,h1,h2,h3⟩=>K4
 refine Qv (M:=wM g A xs.length c) (W:=W) (N:=223) (E:=Qvf) (O:=Qug) ?_ Zo hwd;clear hwd;refine yq<|yr ?_;refine yB fun b5=>?_;refine QnA ?_;refine yA fun b6=>?_;refine Qut ?_;refine yo zO<|yl ?_;have hkd:kind=6:=HK0.out;subst hkd;have hel':0<=elem/\elem<F.length:=hel;have hsz1:(xs++uy).length+Z1 p<=1099511627776:=by rw[List.length_append];omega
 have hno1:(n+1)+Z1 p<=1099511627776:=by omega
 have e1:(n:Int)+1=((n+1:Nat):Int):=rfl;refine QvF ?_;refine yl<|yn<|yq<|yr<|yo zF<|yo (zB 0)<|yl<|yn<|yb<|yq<|yr<|yo zef<|yo zA<|yl<|yn<|y0<|yq<|yq<|yr<|yo zef<|yo zA<|yl<|yn<|y0<|yr<|yo zef<|yo zA<|yl<|yn<|y0<|yq<|yr<|yo zef<|yo zA<|yl<|yn<|y0<|yq<|yr<|yo zef<|yo zA<|yl<|yn<|y0<|yq<|yr<|yo zef<|yo zA<|yl<|yn<|y0<|yq<|yr<|yo zet<|yo zA<|yl<|yn<|y1<|yq ?_;rw[e1];refine YB (B:=Q9e RES (wM g A xs.length c) W) [.blk b6 QgY,.blk b5 (.cells ([.int .i64 dk,.int .i64 dn,.slice Abv dbs.length cbv,.slice Anv dns.length cnv,.slice Apv p.len cpv]:List Value).toArray 30 (0,0)),.blk g (.cells ([.slice Q3v nn cf,.slice A xs.length c,.int .i64 (n+1:Int)]:List Value).toArray 77 (0,0))] [13] Q5 ?_ ?_
 ·infer_instance
 refine Z9 0 rfl Q5 Q3J zM ?_;refine Z9 1 rfl Q5 Q3J zM ?_;refine Z9 2 rfl Q5 Q3J mc5 ?_;refine Z9 3 rfl Q5 Q3J zF ?_;refine Z9 4 rfl Q5 Q3J zF ?_;refine Z9 5 rfl Q5 Q3J (zB 2) ?_;refine Z9 6 rfl Q5 Q3J zF ?_;refine Z9 7 rfl Q5 Q3J (zB 0) ?_;refine Z9 8 rfl Q5 Q3J (Qz rfl rfl Q1 rfl rfl rfl hct2) ?_;refine Z9 9 rfl Q5 Q3J (X7 rfl rfl Q1 rfl rfl (fun w hw=>hw.range_old hrg2 hbM) rfl) ?_;refine Z9 10 rfl Q5 Q3J zF ?_;refine Z9 11 rfl Q5 Q3J (zB 1) ?_;refine Z9 12 rfl Q5 Q3J zL ?_;refine Q2A 13 Q5 rfl rfl QqG (fun i=>.inl Q1) rfl Q1 (fun y hy=>?_);refine Qht ?_ Q5;obtain⟨ub,um,uA,uc⟩:=y;obtain⟨hy1,hy2,hy3⟩:=hy;injection hy1 with hy1;injection hy1 with hyb hym;simp only at hyb hym;subst hyb hym;refine yn<|yr<|yo zM<|yo zF<|yo (zB 0)<|yo zF<|yo (zB 1) ?_;refine Jn (Xw _ _ _ rfl rfl rfl (fun w hw=>(QeE HALL.out HGP.out HFP.out (H.out.nextW hw 2 3 rfl rfl) hel' (fun h0=>by obtain⟨b,o,h1,h2,h3⟩:=HCH.out h0;exact⟨b,o,h1,h2,h3.below h2 (H.out.below hw.k) Xo⟩) hpl6 hsz1 hno1).mono (fun e w' h=>QlQ 2 3 Q1 hw rfl rfl (fun x hx=>by rw[HL.out];show apW uy (Q3m F elem p (n+1))=_;rw[hx];rfl) h))) rfl Q1 (fun y hy=>?_);refine yl ?_;obtain⟨rb1,rm1,rA1,rc1⟩:=y;obtain⟨hz1,hz2,hz3⟩:=hy;replace hz1:Q3m F elem p (n+1)=.ok (rb1,rm1):=hz1;replace hz2:rb1.length<=Z1 p:=hz2;replace hz3:rm1<=n+1+Z1 p:=hz3;have HZ:=Q2 (show RES=.ok (uy++rb1,rm1) by rw[HL.out];show apW uy (Q3m F elem p (n+1))=_;rw[hz1];rfl);clear hz1;have hbl:(uy++rb1).length=uy.length+rb1.length:=List.length_append ..;simp only[List.append_assoc];refine yd ?_;exact Y8 Q5Q rfl (fun w hw=>Q9X H.out 2 3 (b:=uy++rb1) hw rfl rfl HZ.out Q3 Q3)
end
section
variable {d:Nd}{f:Int×Int}{p:VF}{v:Value}{w:World}
def VF.cnt:VF->Nat
 |.nil=>0
 |.cons _ p r=>p.cnt+r.cnt+1
theorem Qdq(F:VF):∀(num lev m:Nat),Xd F num lev=.inr m->m=num+F.cnt:=by
 induction F with
 |nil=>intro num lev m h;injection h with h;simp [VF.cnt];omega
 |cons d p r ih1 ih2=>
  intro num lev m h;by_cases h1:600<=num\/10<lev
  ·rw[Zw h1] at h;cases h
  ·by_cases h2:QP d p.len≠0
   ·rw[XS h1 h2] at h;cases h
   ·cases hp:Xd p (num+1) (lev+1) with
    |inl f=>rw[Zl h1 h2 hp] at h;cases h
    |inr k=>
     rw[ZH h1 h2 hp] at h;have a:=ih1 _ _ _ hp;have b:=ih2 _ _ _ h;simp only[VF.cnt];omega
theorem Qdf{x:List UInt8}(h:x.length<=1048576):(ZE x).length<=1048586:=by have:=YU x Q3;omega
theorem Q90{np:Nat}{body:List UInt8}(hd:XN d)(hn:np<=1048576):(Q0l d np body).length<=1048600+body.length:=by
 obtain⟨⟨h1,h2,h3,h4⟩,h5,_,_⟩:=hd;have a:=XG d.k h1 h2;have b:=XG d.n h3 h4;have c:=Qdf h5;have e:=XG (np:Int) Q3 Q3;unfold Q0l;rw[List.length_append];split
 ·omega
 split
 ·omega
 ·rw[List.length_append];omega
theorem Qq1(F:VF):∀(rc:Bool) (ns:List (List UInt8)),Z4 F->(∀x∈ns,x.length<=1048576)->(XI F rc ns).length<=F.cnt*2100000:=by
 induction F with
 |nil=>intro rc ns _ _;simp [XI]
 |cons d p r ih1 ih2=>
  intro rc ns hf hn;obtain⟨hd,hl,hp,hr⟩:=hf;have a:=Q90 (body:=XI p (d.k==4) d.ns) hd hl;have b:=ih1 (d.k==4) d.ns hp hd.2.2.2;have c:=ih2 rc ns.tail hr (fun x hx=>hn x (List.mem_of_mem_tail hx));have e:(if rc then ZE (ns.headD []) else []).length<=1048586:=by
   split
   ·refine Qdf ?_
    cases ns with
    |nil=>simp
    |cons x l=>exact hn x List.mem_cons_self
   ·simp
  simp only[XI,VF.cnt,List.length_append];omega
theorem Sz.mod{l:VF}(h:Sz d l){m:Nat}(hc:Xd (.cons d l .nil) 0 1=.inr m):Mod d l:=by
 refine⟨h.1,h.2.1,h.2.2,?_⟩;have a:=Q10 _ _ _ _ hc;have b:=Qdq _ _ _ _ hc;have c:=Q90 (body:=XI l (d.k==4) d.ns) h.1 h.2.2;have e:=Qq1 l (d.k==4) d.ns h.2.1 h.1.2.2.2;simp only[VF.cnt] at b;have g:l.cnt<=600:=by have:=a.2 Q3;omega
 have k:l.cnt*2100000<=600*2100000:=Nat.mul_le_mul_right _ g;unfold XM;omega
theorem QdD(hm:Sz d p)(hf:Xd (.cons d p .nil) 0 1=.inl f)(hv:VIn w w.heap.size v d p):Calls Tryz.prog 69 #[v] w (Qs6 w d p):=by
 have HV:=Q2 hv;have HM:=Q2 hm;obtain⟨sb,sn,sp,rfl,Ab,nb,cb,An,nn,cn,Ap,cp,rfl,rfl,rfl,hbc,hnc,hpc,hpm,hrb,hrn,hp⟩:=hv;clear hrb hrn hp hm;go_enter Tryz.func69,Tryz.ntmps69;go_wp2_with fail
 refine(Q3A (num:=0) (lev:=1) HM.out.1 HM.out.2.1 HM.out.2.2 Q8u Q3 Q3).mono ?_;rintro e w2 ⟨hb2,hres⟩;have F1:=Q8x;simp only[Qx] at F1
 have HBX:=Q2 (show Yk w2 w.heap.size 0 d (.slice Ab nb cb) (.slice An nn cn) (.slice Ap p.len cp) from by
  have hk:∀o,w2.cell? ⟨w.heap.size,o,none⟩=_:=fun o=>hb2.cell Zt
  exact ⟨(hk 0).trans (Qf Qm),(hk 1).trans (Qf Qm),(hk 2).trans (Qf Qm),(hk 3).trans (Qf Qm),(hk 4).trans (Qf Qm)⟩)
 have HB2:=Q8A;have HF1:=Q2 F1;have hz2:w.heap.size+1<w2.heap.size:=F1.1;clear hb2 F1;rcases hres with ⟨c,ix,hr,rfl⟩|⟨m,hr,rfl⟩
 ·have hc:=VK _ _ _ _ _ hr
  have hc0:(c==0)=false:=by simpa using hc
  have hneq:=Q2y c ix 0 0;have HF:=Q2 (Q5W hr);have HC:=Q2 hc;have P2:=Qk6;have P1:=FC.new w2 c ix;have PB:=Qmi;clear hr hc;go_wp2_with fail
  obtain⟨W4,hW4⟩:∃W4,w2.alloc (.cells #[.int .i64 c,.int .i64 ix] 32)=W4:=⟨_,rfl⟩;rw[hW4] at P1 P2 PB ⊢;have HPB:=Q2 PB;clear hW4 PB;obtain⟨z3,a0,a1,g0,g1⟩:=P1;obtain⟨z4,r0,r1,e0,e1⟩:=P2;go_region
  go_wp2_with fail
  refine QkB ?_;exact QlY
 ·rw[hf] at hr;cases hr
theorem Qaa(hm:Sz d p)(hfl:Xd (.cons d p .nil) 0 1=.inl f)(hv:VIn w w.heap.size v d p):Calls Tryz.prog 34 #[v] w fun e w'=>e=.returned (.agg #[.int .i64 (Z8 d p).1,.int .i64 (Z8 d p).2])/\Below w.heap.size w w':=by
 have HV:=Q2 hv;have HM:=Q2 hm;obtain⟨sb,sn,sp,rfl,Ab,nb,cb,An,nn,cn,Ap,cp,rfl,rfl,rfl,hbc,hnc,hpc,hpm,hrb,hrn,hp⟩:=hv;clear hrb hrn hp hm;go_enter Tryz.func34,Tryz.ntmps34;go_wp2_with fail
 refine(QdD HM.out hfl Q8u).mono ?_;rintro e w2 ⟨hb2,hres⟩;have F1:=Q8x;simp only[Qx] at F1;have HB2:=Q8A;have HF1:=Q2 F1;have hz2:w.heap.size+1<w2.heap.size:=F1.1;clear hb2 F1;obtain⟨A,n,c,cd,ix,he,hf⟩:∃A n c cd ix,e=.returned (.tuple #[.slice A n c,.agg #[.int .i64 cd,.int .i64 ix]])/\Z8 d p=(cd,ix):=by
  rcases hres with ⟨c,i,_,h,he⟩|⟨A,c,m,_,h,_,he,_⟩
  ·exact Qao
  ·exact Qao
 subst he;have HF:=Q2 hf;clear hf hres;obtain⟨z4,r0,r1,e0,e1⟩:=HF1.out;go_wp2_with fail
 refine Ql1 ?_;exact QnS
theorem Q4t(hm:Sz d p)(hv:VIn w w.heap.size v d p):Calls Tryz.prog 34 #[v] w fun e w'=>e=.returned (.agg #[.int .i64 (Z8 d p).1,.int .i64 (Z8 d p).2])/\Below w.heap.size w w':=by
 cases hc:Xd (.cons d p .nil) 0 1 with
 |inl f=>exact Qaa hm hc hv
 |inr m=>exact Q6M (hm.mod hc) hv
end
end Go.Proofs.YtphkhfdmlcnoeaaGreatDoor
