import Derived.Test.YtphkhfdmlcnoeaaGreatDoorP13
namespace Go.Proofs.YtphkhfdmlcnoeaaGreatDoor
set_option linter.unusedVariables false
set_option linter.unusedSimpArgs false
set_option maxRecDepth 1000000
set_option maxHeartbeats 32000000
open Go.RowKit
section
variable {d:Nd}{np:Nat}
theorem Q26(h:d.k<1\/4<d.k):QP d np=5:=by unfold QP;rw[if_pos h]
theorem Q8W(d:Nd)(np:Nat):Qgt d np=true↔((d.k≠1/\d.n≠0)\/(d.k≠2/\0<d.bs.length)\/(d.k≠4/\0<d.ns.length)\/(d.k<3/\0<np)\/(d.k=4/\d.ns.length≠np)):=by
 unfold Qgt;simp only[Bool.or_eq_true,decide_eq_true_eq];constructor
 ·rintro((((h|h)|h)|h)|h)
  ·exact .inl h
  ·exact .inr (.inl h)
  ·exact .inr (.inr (.inl h))
  ·exact .inr (.inr (.inr (.inl h)))
  ·exact .inr (.inr (.inr (.inr h)))
 ·rintro(h|h|h|h|h)
  ·exact .inl (.inl (.inl (.inl h)))
  ·exact .inl (.inl (.inl (.inr h)))
  ·exact .inl (.inl (.inr h))
  ·exact .inl (.inr h)
  ·exact .inr h
theorem Q24(hk:¬(d.k<1\/4<d.k))(h:(d.k≠1/\d.n≠0)\/(d.k≠2/\0<d.bs.length)\/(d.k≠4/\0<d.ns.length)\/(d.k<3/\0<np)\/(d.k=4/\d.ns.length≠np)):QP d np=6:=by
 unfold QP;rw[if_neg hk,if_pos ((Q8W d np).2 h)]
theorem Q7s(hk:¬(d.k<1\/4<d.k))(h:¬((d.k≠1/\d.n≠0)\/(d.k≠2/\0<d.bs.length)\/(d.k≠4/\0<d.ns.length)\/(d.k<3/\0<np)\/(d.k=4/\d.ns.length≠np))):QP d np=JU d.ns np:=by
 unfold QP JU;rw[if_neg hk,if_neg (fun h'=>h ((Q8W d np).1 h'))]
theorem KT{w:World}{v:Value}{p:VF}(h:VIn w w.heap.size v d p)(hx:Small d.ns)(hnn:d.ns.length<=9223372036854775807):
  Calls Tryz.prog 142 #[v] w fun e w'=>e=.returned (.int .i64 (QP d p.len))/\Below w.heap.size w w':=by
 obtain⟨sb,sn,sp,rfl,Ab,nb,cb,An,nn,cn,Ap,cp,rfl,rfl,rfl,hbc,hnc,hpc,hpm,hrb,hrn,hp⟩:=h;have eb:d.bs.length=nb:=by have:=hrb.len;rw[Xr] at this;exact this
 have en:d.ns.length=nn:=by have:=hrn.len;rw[JE] at this;exact this
 rw[en] at hnn;obtain⟨k,n,bs,ns⟩:=d;simp only at eb en hrb hrn hx ⊢;by_cases hk:k<1\/4<k
 ·rw[Q26 (by exact hk)];exact Qik hk
 ·obtain⟨np,hnp⟩:∃np,p.len=np:=⟨_,rfl⟩
  rw[hnp];by_cases h1:k=1
  ·subst h1
   by_cases hn:n=0
   ·have hn0:(n != 0)=false:=by simp [hn]
    by_cases hb0:nb=0
    ·skip
     by_cases hs0:nn=0
     ·skip
      by_cases hp0:np=0
      ·skip
       refine Q4k ?_;exact Q2h hrn hnc hnn hx hn0 hb0 hs0 hp0
      ·have hp1:0<np:=by omega
       refine JK ?_;exact Q1d hn0 hb0 hs0 hp1
     ·have hs1:0<nn:=by omega
      refine JK ?_;exact Q3s hn0 hb0 hs1
    ·have hb1:0<nb:=by omega
     refine JK ?_;exact Q58 hn0 hb1
   ·have hn1:(n != 0)=true:=by simp [hn]
    by_cases hb0:nb=0
    ·skip
     by_cases hs0:nn=0
     ·skip
      by_cases hp0:np=0
      ·skip
       refine Q4k ?_;exact Q2i hrn hnc hnn hx hn1 hb0 hs0 hp0
      ·have hp1:0<np:=by omega
       refine JK ?_;exact Q1f hn1 hb0 hs0 hp1
     ·have hs1:0<nn:=by omega
      refine JK ?_;exact Q2N hn1 hb0 hs1
    ·have hb1:0<nb:=by omega
     refine JK ?_;exact Q5j hn1 hb1
  ·by_cases h2:k=2
   ·subst h2
    by_cases hn:n=0
    ·have hn0:(n != 0)=false:=by simp [hn]
     by_cases hb0:nb=0
     ·skip
      by_cases hs0:nn=0
      ·skip
       by_cases hp0:np=0
       ·skip
        refine Q4k ?_;exact Q2q hrn hnc hnn hx hn0 hb0 hs0 hp0
       ·have hp1:0<np:=by omega
        refine JK ?_;exact Q1g hn0 hb0 hs0 hp1
      ·have hs1:0<nn:=by omega
       refine JK ?_;exact Q3d hn0 hb0 hs1
     ·have hb1:0<nb:=by omega
      by_cases hs0:nn=0
      ·skip
       by_cases hp0:np=0
       ·skip
        refine Q4k ?_;exact Q2b hrn hnc hnn hx hn0 hb1 hs0 hp0
       ·have hp1:0<np:=by omega
        refine JK ?_;exact Q1e hn0 hb1 hs0 hp1
      ·have hs1:0<nn:=by omega
       refine JK ?_;exact Q2D hn0 hb1 hs1
    ·have hn1:(n != 0)=true:=by simp [hn]
     refine JK ?_;exact Q7R hn1
   ·by_cases h3:k=3
    ·subst h3
     by_cases hn:n=0
     ·have hn0:(n != 0)=false:=by simp [hn]
      by_cases hb0:nb=0
      ·skip
       by_cases hs0:nn=0
       ·skip
        by_cases hp0:np=0
        ·skip
         refine Q4k ?_;exact Q27 hrn hnc hnn hx hn0 hb0 hs0 hp0
        ·have hp1:0<np:=by omega
         refine Q4k ?_;exact Q25 hrn hnc hnn hx hn0 hb0 hs0 hp1
       ·have hs1:0<nn:=by omega
        refine JK ?_;exact Q3j hn0 hb0 hs1
      ·have hb1:0<nb:=by omega
       refine JK ?_;exact Q5b hn0 hb1
     ·have hn1:(n != 0)=true:=by simp [hn]
      refine JK ?_;exact Q80 hn1
    ·obtain rfl:k=4:=by omega
     by_cases hn:n=0
     ·have hn0:(n != 0)=false:=by simp [hn]
      by_cases hb0:nb=0
      ·skip
       by_cases hs0:nn=0
       ·skip
        by_cases hp0:np=0
        ·skip
         refine Q4k ?_;exact Q2s hrn hnc hnn hx hn0 hb0 hs0 hp0 Q3
        ·have hp1:0<np:=by omega
         by_cases hne:nn=np
         ·omega
         ·refine JK ?_;exact Q0m hn0 hb0 hs0 hp1 hne
       ·have hs1:0<nn:=by omega
        by_cases hp0:np=0
        ·skip
         by_cases hne:nn=np
         ·omega
         ·refine JK ?_;exact Q0h hn0 hb0 hs1 hp0 hne
        ·have hp1:0<np:=by omega
         by_cases hne:nn=np
         ·refine Q4k ?_;exact Q2t hrn hnc hnn hx hn0 hb0 hs1 hp1 hne
         ·refine JK ?_;exact Q0K hn0 hb0 hs1 hp1 hne
      ·have hb1:0<nb:=by omega
       refine JK ?_;exact Q5h hn0 hb1
     ·have hn1:(n != 0)=true:=by simp [hn]
      refine JK ?_;exact Q7Y hn1
end
section
variable {d:Nd}{l lev n num:Nat}{p r:VF}{v:Value}{w:World}
theorem JF(c i:Int)(w:World):Calls Tryz.prog 103 #[.int .i64 c,.int .i64 i] w fun e w'=>e=.returned (.agg #[.int .i64 c,.int .i64 i])/\w.alloc (.cells #[.int .i64 c,.int .i64 i] 32)=w':=by
 go_enter Tryz.func103,Tryz.ntmps103;go_wp2
 exact bodyPost_ret (v:=.agg #[.int .i64 c,.int .i64 i]) (by simp [results,Tryz.results103,go_sem]) rfl ⟨rfl,rfl⟩
def XN(d:Nd):Prop:=Qwv d/\d.bs.length<=1048576/\d.ns.length<=1048576/\∀x∈d.ns,x.length<=1048576
def Z4:VF->Prop
 |.nil=>True
 |.cons d p r=>XN d/\p.len<=1048576/\Z4 p/\Z4 r
theorem Z4.drop:∀(F:VF) (i:Nat),Z4 F->Z4 (F.drop i):=by
 intro F;induction F with
 |nil=>intro i _;cases i<;>trivial
 |cons d p r _ ih=>
  intro i h;cases i with
  |zero=>exact h
  |succ i=>exact ih i h.2.2.2
theorem XN.small(h:XN d):Small d.ns:=fun x hx=>Nat.le_trans (h.2.2.2 x hx) Q3
def Q3H(w:World)(r:Sum (Int×Int) Nat)(e:Ending)(w':World):Prop:=
 Below w.heap.size w w'/\((∃c i,r=.inl (c,i)/\e=.returned (.tuple #[.int .i64 0,.agg #[.int .i64 c,.int .i64 i]]))\/(∃m:Nat,r=.inr m/\e=.returned (.tuple #[.int .i64 (m:Int),.agg #[.int .i64 0,.int .i64 0]])))
theorem Q7p(d:Nd)(p r:VF)(n l:Nat):Xd (.cons d p r) n l=match Xd (.cons d p .nil) n l with|.inl f=>.inl f|.inr m=>Xd r m l:=by
 by_cases h1:600<=n\/10<l
 ·rw[Zw h1,Zw h1]
 ·by_cases h2:QP d p.len≠0
  ·rw[XS h1 h2,XS h1 h2]
  ·cases hp:Xd p (n+1) (l+1) with
   |inl f=>rw[Zl h1 h2 hp,Zl h1 h2 hp]
   |inr m=>rw[ZH h1 h2 hp,ZH h1 h2 hp];rfl
theorem Qpo{f:Int×Int}(h:Xd (.cons d p .nil) n l=.inl f):Xd (.cons d p r) n l=.inl f:=by rw[Q7p,h]
theorem Qph{m:Nat}(h:Xd (.cons d p .nil) n l=.inr m):Xd (.cons d p r) n l=Xd r m l:=by rw[Q7p,h]
theorem Qfp(hv:VIn w w.heap.size v d p)(h:600<=num\/10<lev)(hn:num<=600)(hl:lev<=11):
  Calls Tryz.prog 101 #[v,.int .i64 (num:Int),.int .i64 (lev:Int)] w (Q3H w (Xd (.cons d p .nil) num lev)):=by
 have HC:=Q2 (Zw (d:=d) (p:=p) (r:=.nil) h);obtain⟨sb,sn,sp,rfl,Ab,nb,cb,An,nn,cn,Ap,cp,rfl,rfl,rfl,hbc,hnc,hpc,hpm,hrb,hrn,hp⟩:=hv;clear hrb hrn hp;rcases h with h|h
 ·have h':(600:Int)<=(num:Int):=by omega
  go_enter Tryz.func101,Tryz.ntmps101;go_wp2_with (go_at_call 103;refine(JF _ _ _).mono ?_;rintro e w' ⟨rfl,rfl⟩)
  refine Qny ?_;exact Qk4
 ·by_cases h6:(600:Int)<=(num:Int)
  ·go_enter Tryz.func101,Tryz.ntmps101
   go_wp2_with (go_at_call 103;refine(JF _ _ _).mono ?_;rintro e w' ⟨rfl,rfl⟩)
   refine Qny ?_;exact Qk4
  ·have h':(10:Int)<(lev:Int):=by omega
   go_enter Tryz.func101,Tryz.ntmps101;go_wp2_with (go_at_call 103;refine(JF _ _ _).mono ?_;rintro e w' ⟨rfl,rfl⟩)
   refine Qny ?_;exact Qk4
theorem Qfc(hv:VIn w w.heap.size v d p)(hf:XN d)(hn:num<600)(hl:lev<=10)(hc:QP d p.len≠0):
  Calls Tryz.prog 101 #[v,.int .i64 (num:Int),.int .i64 (lev:Int)] w (Q3H w (Xd (.cons d p .nil) num lev)):=by
 have HC:=Q2 (XS (d:=d) (p:=p) (r:=.nil) (num:=num) (lev:=lev) Q3 hc);have HV:=Q2 hv;obtain⟨sb,sn,sp,rfl,Ab,nb,cb,An,nn,cn,Ap,cp,rfl,rfl,rfl,hbc,hnc,hpc,hpm,hrb,hrn,hp⟩:=hv;have hnc0:(QP d p.len != 0)=true:=by simp [hc]
 have HF:=Q2 hf;clear hrb hrn hp hf hc;have h1:¬(600:Int)<=(num:Int):=by omega
 have h2:¬(10:Int)<(lev:Int):=by omega
 go_enter Tryz.func101,Tryz.ntmps101;go_wp2_with fail
 refine(KT (d:=d) (p:=p) Q8u HF.out.small (by have:=HF.out.2.2.1;omega)).mono ?_;rintro e w2 ⟨rfl,hb2⟩;have F1:=Q8x;simp only[Qx] at F1;obtain⟨z,c0,c1,f0,f1⟩:=F1;have HB2:=Q8A;clear hb2;go_wp2_with (go_at_call 103;refine(JF _ _ _).mono ?_;rintro e w' ⟨rfl,rfl⟩)
 refine bodyPost_ret (v:=.tuple #[.int .i64 0,.agg #[.int .i64 (QP d p.len),.int .i64 (num:Int)]]) (by simp [results,Tryz.results101,go_sem,c0,c1,z]) rfl ?_;exact⟨Ky (XT HB2.out Q3 _ _) _,.inl ⟨_,_,HC.out,rfl⟩⟩
def Que(w:World)(g:Nat)(p:VF)(n l:Nat)(next k:Value)(wr:World):Prop:=
 ∃i m:Nat,i<=p.len/\k=.int .i64 (i:Int)/\next=.int .i64 (m:Int)/\m<=600/\Xd p n l=Xd (p.drop i) m l/\Below w.heap.size w wr/\FC wr g 0 0
def QpT(d:Nd)(p:VF):Prop:=XN d->Z4 p->p.len<=1048576->∀(w:World) (v:Value) (num lev:Nat),VIn w w.heap.size v d p->num<=600->lev<=11->
 Calls Tryz.prog 101 #[v,.int .i64 (num:Int),.int .i64 (lev:Int)] w (Q3H w (Xd (.cons d p .nil) num lev))
theorem QkQ{F:VF}{i:Nat}(h:VF.All QpT (F.drop i))(hd:F.drop i=.cons d p r)(hf:Z4 (F.drop i)):∀(w:World) (v:Value) (num lev:Nat),VIn w w.heap.size v d p->num<=600->lev<=11->
  Calls Tryz.prog 101 #[v,.int .i64 (num:Int),.int .i64 (lev:Int)] w (Q3H w (Xd (.cons d p .nil) num lev)):=by
 rw[hd] at h hf;exact h.1 hf.1 hf.2.2.1 hf.2.1
theorem Qdr(hall:VF.All QpT p)(hv:VIn w w.heap.size v d p)(hf:XN d)(hfp:Z4 p)(hpl:p.len<=1048576)(hn:num<600)(hl:lev<=10)(hc:QP d p.len=0):
  Calls Tryz.prog 101 #[v,.int .i64 (num:Int),.int .i64 (lev:Int)] w (Q3H w (Xd (.cons d p .nil) num lev)):=by
 have HV:=Q2 hv;obtain⟨sb,sn,sp,rfl,Ab,nb,cb,An,nn,cn,Ap,cp,rfl,rfl,rfl,hbc,hnc,hpc,hpm,hrb,hrn,hp⟩:=hv;have HNC:=Q2 hc;have HF:=Q2 hf;have HFP:=Q2 hfp;have HALL:=Q2 hall;have HP:=Q2 hp;clear hrb hrn hp hf hc hfp hall;have h1:¬(600:Int)<=(num:Int):=by omega
 have h2:¬(10:Int)<(lev:Int):=by omega
 go_enter Tryz.func101,Tryz.ntmps101;go_wp2_with fail
 refine(KT (d:=d) (p:=p) Q8u HF.out.small (by have:=HF.out.2.2.1;omega)).mono ?_;rintro e w2 ⟨rfl,hb2⟩;rw[HNC.out];have F1:=Q8x;simp only[Qx] at F1;have HF1:=Q2 F1;have hbox:w2.cell? ⟨w.heap.size,4,none⟩=some (.slice Ap p.len cp):=(hb2.cell Zt).trans (Qf Qm);have HB2:=Q8A;clear hb2 F1;obtain⟨np,hnp⟩:∃np,p.len=np:=⟨_,rfl⟩;have HNP:=Q2 hnp;rw[hnp] at hbox hpl hpc ⊢;clear hnp;go_wp2_with fail
 go_loopw [9,33] (Que w (w.heap.size+1) p (num+1) (lev+1)) (fun _ k _=>np - (intOf k).toNat)
 case atStart=>exact⟨0,num+1,Nat.zero_le _,rfl,by go_num,by omega,by rw[VF.drop_zero],HB2.out,HF1.out⟩
 case round=>
  obtain⟨i,m,hi,rfl,rfl,hm,hch,hbw,hfc⟩:=hrel;rw[HNP.out] at hi;have HCH:=Q2 hch;have HBW:=Q2 hbw;have HFC:=Q2 hfc;have hzw:=hbw.size;have hzf:w.heap.size+1<wr.heap.size:=hfc.1;clear hch hbw hfc hbox;by_cases hlt:i<np
  ·obtain⟨b,o,hAp,hb,hfin⟩:=HP.out Q6o
   subst hAp;obtain⟨d',p',hdr⟩:=VF.drop_cons (F:=p) (i:=i) Qcl;obtain⟨sb',sn',sp',⟨k0,k1,k2,k3,k4⟩,hd'⟩:=hfin.at_ hdr;have HV':Hid (VIn w w.heap.size (.agg #[.int .i64 d'.k,.int .i64 d'.n,sb',sn',sp']) d' p'):=Qeh;obtain⟨Ab',nb',cb',An',nn',cn',Ap',cp',rfl,rfl,rfl,_⟩:=hd';have q0:=(HBW.out.cell Jt).trans k0;have q1:=(HBW.out.cell Jt).trans k1;have q2:=(HBW.out.cell Jt).trans k2;have q3:=(HBW.out.cell Jt).trans k3;have q4:=(HBW.out.cell Jt).trans k4;clear k0 k1 k2 k3 k4 hfin;have HDR:=Q2 hdr;clear hdr;have hli:(i:Int)<(np:Int):=by omega
   have h0:(0:Int)<=(i:Int):=by omega
   have hct:=QkQ (VF.all_drop HALL.out i) HDR.out (Z4.drop p i HFP.out);have HCT:=Q2 hct;clear hct;go_wp2_with fail
   refine(HCT.out _ _ m (lev+1) ((HV'.out.below HBW.out Xo).keep (fun q hq=>(Q2M _ _ _).cell Q3) Zt) hm Q3).mono ?_;intro e w3 hend;obtain⟨hb3,hres⟩:=hend;have F3:=(FC.new (wr.alloc (.cells #[.int .i64 d'.k,.int .i64 d'.n,.slice Ab' nb' cb',.slice An' nn' cn',.slice Ap' p'.len cp'] 30)) 0 0).on hb3;simp only[Qx] at F3;have R3:=(HFC.out.on (Q2M _ _ _)).on hb3;have HB3:=Q2 (show Below w.heap.size w w3 from X2 HBW.out (X2 (Q2M _ _ _) hb3));have HF3:=Q2 F3;have HR3:=Q2 R3;have hz3:wr.heap.size+1<w3.heap.size:=F3.1;clear hb3 F3 R3;rcases hres with ⟨c,ix,hr,rfl⟩|⟨m',hr,rfl⟩
   ·have hc0:(c==0)=false:=by
     have:=VK _ _ _ _ _ hr;simpa using this
    have hneq:=Q2y c ix 0 0;have HR:=Q2 (show Xd (.cons d p .nil) num lev=.inl (c,ix) from Zl Q3 (by rw[HNC.out];simp) (by rw[HCH.out,HDR.out];exact Qpo hr));obtain⟨z3,a0,a1,g0,g1⟩:=HF3.out;obtain⟨z4,r0,r1,e0,e1⟩:=HR3.out;clear hr z4 r0 r1 e0 e1;have P1:=HF3.out.put c ix;have P2:=(HR3.out.far (g:=wr.heap.size+1) (o:=0) (v:=.int .i64 c) Q3).far (g:=wr.heap.size+1) (o:=1) (v:=.int .i64 ix) Q3;have PB:=XT HB3.out (g:=wr.heap.size+1) Q3 (.int .i64 c) (.int .i64 ix);go_wp2_with fail
    obtain⟨W4,hW4⟩:∃W4,((w3.setCell ⟨wr.heap.size+1,0,none⟩ (.int .i64 c)).setCell ⟨wr.heap.size+1,1,none⟩ (.int .i64 ix))=W4:=⟨_,rfl⟩;rw[hW4] at P1 P2 PB ⊢;have HPB:=Q2 PB;clear hW4 PB z3 a0 a1 g0 g1;obtain⟨z3,a0,a1,g0,g1⟩:=P1;obtain⟨z4,r0,r1,e0,e1⟩:=P2;go_region
    go_wp2_with fail
    refine bodyPost_ret (v:=.tuple #[.int .i64 0,.agg #[.int .i64 c,.int .i64 ix]]) QoB rfl ?_;exact⟨(XT HPB.out Q3 _ _).drew,.inl ⟨_,_,HR.out,rfl⟩⟩
   ·have HR:=Q2 (show Xd p (num+1) (lev+1)=Xd (p.drop (i+1)) m' (lev+1) by rw[HCH.out,HDR.out];exact Qph hr)
    have hm':m'<=600:=(Q10 _ _ _ _ hr).2 hm;have hneq:=Q2y 0 0 0 0;obtain⟨z3,a0,a1,g0,g1⟩:=HF3.out;clear hr;go_wp2_with fail
    go_roundw
    case rel=>exact⟨i+1,m',by rw[HNP.out];omega,by go_num,rfl,hm',HR.out,XT HB3.out Q3 _ _,(HR3.out.far Q3).far Q3⟩
    case measure=>simp [intOf];omega
  ·have HR:=Q2 (show Xd (.cons d p .nil) num lev=.inr m by
    rw[ZH (m:=m) Q3 (by rw[HNC.out];simp) (by rw[HCH.out,VF.drop_nil (by rw[HNP.out];omega)];rfl)];rfl)
   obtain⟨z4,r0,r1,e0,e1⟩:=HFC.out;go_wp2_with fail
   refine bodyPost_ret (v:=.tuple #[.int .i64 (m:Int),.agg #[.int .i64 0,.int .i64 0]]) QoB rfl ?_;exact⟨XT HBW.out Q3 _ _,.inr ⟨m,HR.out,rfl⟩⟩
theorem Qg5(d:Nd)(p:VF)(hall:VF.All QpT p):QpT d p:=by
 intro hf hfp hpl w v num lev hv hn hl;by_cases h:600<=num\/10<lev
 ·exact Qfp hv h hn hl
 ·by_cases hc:QP d p.len=0
  ·exact Qdr hall hv hf hfp hpl Q3 Q3 hc
  ·exact Qfc hv hf Q3 Q3 hc
theorem Q3A(hf:XN d)(hfp:Z4 p)(hpl:p.len<=1048576)(hv:VIn w w.heap.size v d p)(hn:num<=600)(hl:lev<=11):
  Calls Tryz.prog 101 #[v,.int .i64 (num:Int),.int .i64 (lev:Int)] w (Q3H w (Xd (.cons d p .nil) num lev)):=
 VF.all_each Qg5 d p hf hfp hpl w v num lev hv hn hl
end
section
variable {l:VF}{n:Int}
section
variable {F:List Rl}{D:List UInt8}
def Sz(d:Nd)(l:VF):Prop:=XN d/\Z4 l/\l.len<=1048576
theorem Q3B{r:Rl}(hr:JX r){p q:Nat}(hp:p<=D.length)(h:YD r D p=some (.ok (n,q))):0<=n/\n<4294967296:=by
 have a:=Qj9 hr.numK hp h;refine⟨a.2.2.2,?_⟩;by_cases h3:r.kind=3
 ·have:=a.2.1 h3;have:=hr.dec h3
  omega
 ·have h2:=hr.kind.resolve_right h3;have b:=a.2.2.1 h3;obtain⟨c1,c2,c3,c4,c5⟩:=hr.num h2
  rcases (show r.size=1\/r.size=2\/r.size=3\/r.size=4 by omega) with e|e|e|e<;>rw[e] at c5<;>simp at c5<;>omega
theorem Qlp(h:0<=n/\n<4294967296):Sz (ndN n) .nil:=⟨⟨⟨by show (-9223372036854775808:Int)<=1;omega,by show (1:Int)<=9223372036854775807;omega,by show (-9223372036854775808:Int)<=n;omega,by show n<=9223372036854775807;omega⟩,by simp,by simp,by simp⟩,trivial,by simp [VF.len]⟩
theorem Q5R{bs:List UInt8}(h:bs.length<=1048576):Sz (ndB bs) .nil:=⟨⟨⟨by show (-9223372036854775808:Int)<=2;omega,by show (2:Int)<=9223372036854775807;omega,by show (-9223372036854775808:Int)<=0;omega,by show (0:Int)<=9223372036854775807;omega⟩,h,by simp,by simp⟩,trivial,by simp [VF.len]⟩
theorem Qah(hf:Z4 l)(hl:l.len<=1048576):Sz ndL l:=⟨⟨⟨by show (-9223372036854775808:Int)<=3;omega,by show (3:Int)<=9223372036854775807;omega,by show (-9223372036854775808:Int)<=0;omega,by show (0:Int)<=9223372036854775807;omega⟩,by simp,by simp,by simp⟩,hf,hl⟩
theorem QuQ{ns:List (List UInt8)}(hf:Z4 l)(hl:l.len<=1048576)(hn:ns.length<=1048576)(hs:∀x∈ns,x.length<=1048576):Sz (ndR ns) l:=⟨⟨⟨by show (-9223372036854775808:Int)<=4;omega,by show (4:Int)<=9223372036854775807;omega,by show (-9223372036854775808:Int)<=0;omega,by show (0:Int)<=9223372036854775807;omega⟩,by simp,hn,hs⟩,hf,hl⟩
theorem Q8c{one:Nat->Rdg (Nd×VF×Nat)}{m:Nat}(hf:Far one m)(h1:∀p y,p<=m->one p=some (.ok y)->Sz y.1 y.2.1):∀{n p:Nat} {z:VF×Nat},p<=m->Jv one n p=some (.ok z)->Z4 z.1/\z.1.len<=z.2 - p
 |0,p,z,hp,h=>by
  rw[<- QN h];exact⟨trivial,by simp [VF.len]⟩
 |n+1,p,z,hp,h=>by
  obtain⟨y,hy,hg⟩:=Xy h;obtain⟨z',hz,hg⟩:=Xy hg;have a:=hf p y hp hy;have b:=h1 p y hp hy;have c:=Q8c hf h1 a.2 hz;have d:=Kf hf a.2 hz;rw[<- QN hg];refine⟨⟨b.1,b.2.2,b.2.1,c.1⟩,?_⟩
  simp only[VF.len];omega
theorem Qda{one:Nat->Rdg (Nd×VF×Nat)}{stop:Int}(hf:Far one D.length)(h1:∀p y,p<=D.length->one p=some (.ok y)->Sz y.1 y.2.1):∀{f p:Nat} {z:VF×Nat},p<=D.length->Vh one D stop f p=some (.ok z)->Z4 z.1/\z.1.len<=z.2 - p
 |0,p,z,hp,h=>by cases h
 |f+1,p,z,hp,h=>by
  unfold Vh at h
  split at h
  ·exact(Yv h).elim
  ·split at h
   ·rw[<- QN h];exact⟨trivial,by simp [VF.len]⟩
   ·obtain⟨y,hy,hg⟩:=Xy h;obtain⟨z',hz,hg⟩:=Xy hg;have a:=hf p y hp hy;have b:=h1 p y hp hy;have c:=Qda hf h1 a.2 hz;have d:=Q14 hf a.2 hz;rw[<- QN hg];refine⟨⟨b.1,b.2.2,b.2.1,c.1⟩,?_⟩
    simp only[VF.len];omega
theorem Qcn{one:Int->Nat->Rdg (Nd×VF×Nat)}{m:Nat}:∀{ns:List (List UInt8)} {ks:List Int} {p:Nat} {z:List (List UInt8)×VF×Nat},(∀k∈ks,Far (one k) m)->(∀k∈ks,∀p y,p<=m->one k p=some (.ok y)->Sz y.1 y.2.1)->p<=m->Vc one ns ks p=some (.ok z)->Z4 z.2.1/\z.2.1.len<=ks.length/\z.1.length<=ks.length/\∀x∈z.1,x∈ns
 |[],ks,p,z,hf,h1,hp,h=>by
  have:okR ([],.nil,p)=some (.ok z):=by cases ks<;>exact h
  rw[<- QN this];exact⟨trivial,by simp [VF.len],by simp,by simp⟩
 |_::_,[],p,z,hf,h1,hp,h=>by
  rw[<- QN h];exact⟨trivial,by simp [VF.len],by simp,by simp⟩
 |nm::ns,k::ks,p,z,hf,h1,hp,h=>by
  unfold Vc at h;obtain⟨y,hy,hg⟩:=Xy h;obtain⟨z',hz,hg⟩:=Xy hg;have a:=hf k List.mem_cons_self p y hp hy;have b:=h1 k List.mem_cons_self p y hp hy;obtain⟨c1,c2,c3,c4⟩:=Qcn (fun k hk=>hf k QjJ) QeK a.2 hz;split at hg
  ·rw[<- QN hg,List.length_cons];exact⟨c1,by omega,by omega,fun x hx=>List.mem_cons_of_mem _ (c4 x hx)⟩
  ·rw[<- QN hg,List.length_cons];refine⟨⟨b.1,b.2.2,b.2.1,c1⟩,?_,?_,fun x hx=>?_⟩
   ·simp only[VF.len];omega
   ·simp only[List.length_cons];omega
   ·rcases List.mem_cons.1 hx with rfl|hx
    ·exact List.mem_cons_self
    ·exact List.mem_cons_of_mem _ (c4 x hx)
theorem YV(hv:Fm F)(hD:D.length<=1048576)(hnm:∀r∈F,∀x∈r.names,x.length<=1048576):∀(f:Nat) {k:Int},0<=k/\k<F.length->∀(p:Nat) (y:Nd×VF×Nat),p<=D.length->Qq F D f k p=some (.ok y)->Sz y.1 y.2.1
 |0,k,hk,p,y,hp,h=>by cases h
 |f+1,k,hk,p,y,hp,h=>by
  have hr:=hv.toUsd.rok hk;have hno:=hv.numOk hk;have hfar:=Xv (D:=D) hv.toUsd (f+1) hk p y hp h;have hnames:=hnm _ (List.mem_of_getElem? (Q2g hk))
  unfold Qq at h;simp only at h;obtain⟨r,e⟩:∃r,Ql F k=r:=⟨_,rfl⟩;simp only[e] at h hr hno hnames;split at h
  ·obtain⟨q,hq,hg⟩:=Xy h;rw[<- QN hg];exact Qah trivial (by simp [VF.len])
  split at h
  ·next h1 h23=>
   obtain⟨z,hz,hg⟩:=Xy h;rw[<- QN hg];exact Qlp (Q3B (n:=z.1) (q:=z.2) (JX.of hr h23) hp hz)
  split at h
  ·obtain⟨z,hz,hg⟩:=Xy h;obtain⟨rfl,hn⟩:=Vk hz;rw[<- QN hg];exact Q5R Qhz
  split at h
  ·obtain⟨x,hx,hg⟩:=Xy h;obtain⟨z,hz,hg⟩:=Xy hg;obtain⟨rfl,hn⟩:=Vk hz;rw[<- QN hg];exact Q5R Qhz
  split at h
  ·obtain⟨q,hq,hg⟩:=Xy h;rw[<- QN hg];exact Q5R Qhz
  split at h
  ·next h1 h23 h4 h10 h5 h6=>
   obtain⟨x,hx,hg⟩:=Xy h;obtain⟨z,hz,hg⟩:=Xy hg;have c:=J5 (n:=x.1) (q:=x.2) (hno (.inl h6)).numK hp hx;have hff:=Xv (D:=D) hv.toUsd f Qbs;have b:=Q8c hff (fun p y hp h=>YV hv hD hnm f Qbs p y hp h) c.2 hz;have d:=Kf hff c.2 hz;exact Qn8
  split at h
  ·next h1 h23 h4 h10 h5 h6 h9=>
   obtain⟨z,hz,hg⟩:=Xy h;have hff:=Xv (D:=D) hv.toUsd f Qd8;have b:=Qda hff (fun p y hp h=>YV hv hD hnm f Qd8 p y hp h) hp hz;have d:=Q14 hff hp hz;exact Qn8
  split at h
  ·next h1 h23 h4 h10 h5 h6 h9 h8=>
   split at h
   ·exact Q1x
   ·split at h
    ·exact Q1x
    ·next c hc _ i hi=>
     obtain⟨z,hz,hg⟩:=Xy h;have hil:=Q2d hi;have:=hr.p12;have b:=YV hv hD hnm f (hr.parts (.inr h8) _ (Q17 hil)) p z hp hz;have a:=Qlp (n:=(i:Int)) Q3;rw[<- QN hg];exact Qah ⟨a.1,by simp [VF.len],trivial,b.1,b.2.2,b.2.1,trivial⟩ (by simp [VF.len])
  ·next h1 h23 h4 h10 h5 h6 h9 h8=>
   have h7:r.kind=7:=by
    have:=hr.kind;omega
   obtain⟨z,hz,hg⟩:=Xy h;obtain⟨c1,c2,c3,c4⟩:=Qcn QkW (fun k hk=>YV hv hD hnm f Qnw) hp hz;have:=hr.p12;rw[<- QN hg];exact QuQ c1 (by show z.2.1.len<=1048576;omega) (by show z.1.length<=1048576;omega) fun x hx=>hnames x (c4 x hx)
end
end
section
variable {C0:World->Prop}{K:Act->(World->Prop)->Prop}{R:Value->World->Prop}{a:Act}{k:Nat}{ι:Type}
def Zx(P:Program)(R:Value->World->Prop)(B:List PanicEntry->World->Prop):Result Next->Prop
 |.ok (.value u) w'=>R u w'
 |.ok .skip w'=>R undef w'
 |.ok (.enter f args) w'=>Calls P f args w' (fun e w''=>(∃v,e=.returned v/\R v w'')\/∃ch,e=.panicked ch/\B ch w'')
 |_=>False
theorem Zx.of{P:Program}{B:List PanicEntry->World->Prop}{r:Result Next}(h:ZI P R r):Zx P R B r:=by
 cases r with
 |ok n w'=>
  cases n<;>simp only[ZI] at h<;>simp only[Zx]
  case value u=>exact h
  case skip=>exact h
  case enter f args=>exact h.mono fun e w'' h=>.inl h
 |halt x w'=>simp only[ZI] at h
class Pan[dq:DQ](Q:Exit->Act->World->Prop)(B:outParam (List PanicEntry->World->Prop)):Prop where
 on:∀a ch w,a.defers=DQ.D->B ch w->Q (.panic ch) a w
instance [dq:DQ]{Q:Exit->Act->World->Prop}{B:List PanicEntry->World->Prop}{K:Act->World->Prop}[h:Pan Q B]:Pan (Exit.then K Q) B:=⟨fun a ch w hd hb=>h.on a ch w hd hb⟩
instance [dq:DQ]{Q:Exit->Act->World->Prop}{B:List PanicEntry->World->Prop}{id:Nat}[h:Pan Q B]:Pan (Exit.inBlock id Q) B:=⟨fun a ch w hd hb=>h.on a ch w hd hb⟩
theorem Pan.body{P:Program}{fn:Func}{R:Ending->World->Prop}{B:List PanicEntry->World->Prop}(h:∀ch w,B ch w->R (.panicked ch) w):@Pan dq0 (bodyPost P fn R) B:=@Pan.mk dq0 _ _ fun a ch w hd hb=>⟨hd,h ch w hb⟩
theorem Oper.wp_of_loudP{P:Program}{o:Oper}{w:World}{B:List PanicEntry->World->Prop}{K:Act->World->Prop}{Q:Exit->Act->World->Prop}(h:Zx P R B ((execOp a.eval o).run P w))(hk:∀v w',R v w'->K (a.put o.dst v) w')(hb:∀ch w',B ch w'->Q (.panic ch) a w'):o.wp P a w K Q:=by
 unfold Oper.wp;generalize (execOp a.eval o).run P w=r at h;cases r with
 |ok n w'=>
  cases n<;>simp only[Zx] at h<;>simp only[Oper.upon]
  case value u=>exact hk _ _ h
  case skip=>exact hk _ _ h
  case enter f args=>
   refine h.mono fun e w'' h=>?_;rcases h with ⟨v,he,hr⟩|⟨ch,he,hr⟩
   ·subst he;exact hk _ _ hr
   ·subst he;exact hb _ _ hr
 |halt x w'=>simp only[Zx] at h
def pE[dq:DQ](P:Program)(ops:Array Oper)(N:Nat)(M:List Nat)(W:World)(E:Env)(O:List Qb)(o:Oper)(ι:Type)(V:ι->Value)(G:ι->List Qb)(p:ι->Prop)(B:List PanicEntry->World->Prop):Prop:=
 ∀a w,Ag N E a->Wd M W O w->Region.wanted o (yielded ops a.tmps)=true/\Zx P (fun v w'=>∃i,v=V i/\p i/\Wd M W (G i) w') B ((execOp a.eval o).run P w)
def Zp{ι:Type}(V:ι->Value)(p:ι->Prop)(M:List Nat)(W:World)(G:ι->List Qb)(B:List PanicEntry->World->Prop)(e:Ending)(w':World):Prop:=Xf V p M W G e w'\/∃ch,e=.panicked ch/\B ch w'
section
variable {P:Program}{ops:Array Oper}{Q:Exit->Act->World->Prop}{N:Nat}{E E':Env}{o:Oper}{rest:List Oper}{M:List Nat}{W:World}{O O0:List Qb}{d:Nat}{B:List PanicEntry->World->Prop}{T:List Nat}{f:Nat}{listed:Array Bool}
theorem Jn[dq:DQ]{V:ι->Value}{G:ι->List Qb}{p:ι->Prop}[hB:Pan Q B](h1:pE P ops N M W E O o ι V G p B)(hd:o.dst=some d)(hN:d<N)(h:∀i,p i->lE P ops Q N M W ((d,V i)::E) (G i) rest):lE P ops Q N M W E O (o::rest):=fun a w ha hW=>by
 obtain⟨hw,hl⟩:=h1 a w ha hW;refine wpList_step fun K hK=>?_;rw[if_pos hw];refine Oper.wp_of_loudP hl ?_ (fun ch w' hb=>hB.on a ch w' ha.df hb);exact Qkf
theorem Qw4[dq:DQ]{V:ι->Value}{p:ι->Prop}{G:ι->List Qb}{f:FuncId}{args:Array Value}(hw:Qi ops E o=some true)(hv:∀ρ w,Ev E ρ->(execOp ρ o).run P w=.ok (.enter f args) w)
  (hc:∀w,Wd M W O w->Calls P f args w (Zp V p M W G B)):pE P ops N M W E O o ι V G p B:=fun a w ha hW=>by
 refine⟨ha.want hw,?_⟩;rw[hv a.eval w ha.ev];refine(hc w hW).mono ?_;rintro e w' (⟨i,rfl,hp,hW'⟩|⟨ch,rfl,hb⟩)
 ·exact .inl ⟨_,rfl,i,rfl,hp,hW'⟩
 ·exact .inr ⟨ch,rfl,hb⟩
theorem Xw[dq:DQ](V:ι->Value)(p:ι->Prop)(G:ι->List Qb){f:FuncId}{xs:List Operand}{ts:Array TypeId}{vs:List Value}[he:En P f](ho:o.op=.call { callee:=.value (.func f),args:=xs.toArray,argTypes:=ts })(hw:Qi ops E o=some true)(hx:evs E xs=some vs)
  (hc:∀w,Wd M W O w->Calls P f vs.toArray w (Zp V p M W G B)):pE P ops N M W E O o ι V G p B:=
 Qw4 hw (fun ρ w ha=>QeG ho hx ρ w ha) hc
def stepPn(P:Program)(ops:Array Oper)(C0:World->Prop)(T:List Nat)(B:List PanicEntry->World->Prop)(i:Nat)(a:Act)(D:World->Prop)(K:Act->(World->Prop)->Prop):Prop:=
 match ops[i]? with
 |none=>K a D
 |some o=>(Region.wanted o (yielded ops a.tmps)=false/\K (a.put o.dst undef) D)\/(Region.wanted o (yielded ops a.tmps)=true/\
   ∃(ι:Type) (V:ι->Value) (G:ι->World->Prop),(∀w,D w->Zx P (fun v w'=>∃i,v=V i/\G i w') B ((execOp a.eval o).run P w))/\(∀x,Stb (G x)/\(i∈T\/∀w,G x w->C0 w))/\∀x,K (a.put o.dst (V x)) (G x))
def Qai(P:Program)(ops:Array Oper)(C0:World->Prop)(T:List Nat)(B:List PanicEntry->World->Prop)(Q:Exit->Act->World->Prop):Nat->Array Bool->Act->(World->Prop)->Prop
 |0,listed,a,D=>Region.ready .any ops listed=[]/\∀w,D w->Q .normal a w
 |f+1,listed,a,D=>(Region.ready .any ops listed=[]->∀w,D w->Q .normal a w)/\∀i∈Region.ready .any ops listed,stepPn P ops C0 T B i a D (Qai P ops C0 T B Q f (listed.setIfInBounds i true))
theorem Q6R(a:Act)(d:Option Nat)(v:Value):(a.put d v).defers=a.defers:=by cases d<;>rfl
theorem Qe7[dq:DQ](hB:Pan Q B):∀(f:Nat) (listed:Array Bool) (a:Act) (D:World->Prop),a.defers=DQ.D->Qai P ops C0 T B Q f listed a D->∀w,D w->wpAny P .any ops Q f listed a w:=by
 intro f;induction f with
 |zero=>intro listed a D hd h w hw;exact⟨h.1,h.2 w hw⟩
 |succ f ih=>
  intro listed a D hd h w hw;refine⟨fun h0=>h.1 h0 w hw,fun i hi=>?_⟩;have hs:=h.2 i hi;unfold stepPn at hs;unfold wpOp;split
  ·rename_i ho;simp only[ho] at hs;exact ih _ _ _ hd hs w hw
  ·rename_i o ho
   simp only[ho] at hs;rcases hs with ⟨hwt,hk⟩|⟨hwt,ι,V,G,hr,hG,hk⟩
   ·rw[if_neg (by rw[hwt];decide)]
    exact ih _ _ _ ((Q6R _ _ _).trans hd) hk w hw
   ·rw[if_pos hwt]
    refine .inl (Oper.wp_of_loudP (hr w hw) ?_ (fun ch w' hb=>hB.on a ch w' hd hb));rintro v w' ⟨j,rfl,hj⟩;exact ih _ _ _ ((Q6R _ _ _).trans hd) (hk j) w' hj
theorem Zf.stepPn{C0:World->Prop}{i:Nat}{o:Oper}{a:Act}{v:Value}{D:World->Prop}{K:Act->(World->Prop)->Prop}(hi:ops[i]? =some o)(h:Zf P ops C0 o a v)(hD:Stb D)(hC:∀w,D w->C0 w)(hk:K (a.put o.dst v) D):stepPn P ops C0 T B i a D K:=by
 have h0:=Zf.step (T:=T) hi h hD hC hk;unfold VR at h0;unfold Go.Proofs.YtphkhfdmlcnoeaaGreatDoor.stepPn;simp only[hi] at h0 ⊢;rcases h0 with h0|⟨hw,ι,V,G,h1,h2,h3⟩
 ·exact .inl h0
 ·exact .inr ⟨hw,ι,V,G,fun w hw=>.of (h1 w hw),h2,h3⟩
theorem Q65{i:Nat}{oi:Oper}{v:Value}(hi:ops[i]? =some oi)(hsel:∀(j:Nat) (o:Oper) cs b,ops[j]? =some o->o.op≠ .select cs b)(hT:∀t∈T,∃f,Go.Proofs.YtphkhfdmlcnoeaaGreatDoor.waits ops f t i=true):
  ∀(f:Nat) (listed:Array Bool) (a:Act) (D:World->Prop),Clo ops listed->Stb D->(∀w,D w->C0 w)->
   (∀j oj,ops[j]? =some oj->j≠i->listed.getD j true=false->(∀e∈oj.after,Region.binds .any e=true->e.on≠i)->oi.apart ops oj=true)->
   i∈Region.ready .any ops listed->Zf P ops C0 oi a v->
   Qai P ops C0 T B Q f (listed.setIfInBounds i true) (a.put oi.dst v) D->Qai P ops C0 T B Q (f+1) listed a D:=by
 intro f;induction f with
 |zero=>
  intro listed a D hcl hD hC _ hr hy H;refine⟨fun h=>Qbg,fun j hj=>?_⟩;by_cases hji:j=i
  ·subst hji;exact hy.stepPn hi hD hC H
  ·have:=ready_mono hj hji
   rw[H.1] at this;cases this
 |succ f ih=>
  intro listed a D hcl hD hC hfree hr hy H;refine⟨fun h=>Qbg,fun j hj=>?_⟩;by_cases hji:j=i
  ·subst hji;exact hy.stepPn hi hD hC H
  ·have h1:=H.2 j (ready_mono hj hji)
   obtain⟨hjun,oj,hoj,hall⟩:=mem_ready.1 hj;have hjT:j∉T:=fun hm=>by
    obtain⟨f',hf'⟩:=hT j hm;have h1:=hcl.waits f' j i oj hoj hall hf';have h0:=(mem_ready.1 hr).1;rcases Nat.lt_or_ge i listed.size with h'|h'
    ·simp [h'] at h0 h1;rw[h0] at h1;cases h1
    ·simp [Array.getElem?_eq_none h'] at h1
   have hnot:∀e∈oj.after,Region.binds .any e=true->e.on≠i:=fun e he hb heq=>by
    have h1:=hall e he hb;have h0:=(mem_ready.1 hr).1;rw[heq] at h1;rcases Nat.lt_or_ge i listed.size with h'|h'
    ·simp [h'] at h0 h1;rw[h0] at h1;cases h1
    ·simp [Array.getElem?_eq_none h'] at h1
   obtain⟨a1,a2,a3⟩:=Oper.apart_spec (hfree j oj hoj hji hjun hnot);have hfree':∀k ok,ops[k]? =some ok->k≠i->(listed.setIfInBounds j true).getD k true=false->
     (∀e∈ok.after,Region.binds .any e=true->e.on≠i)->oi.apart ops ok=true:=fun k ok hk hki hun hno=>by
    refine hfree k ok hk hki ?_ hno;by_cases hjk:j=k
    ·subst hjk;exact hjun
    ·rw[getD_set_ne true hjk] at hun;exact hun
   have go:∀u (G:World->Prop),Stb G->(∀w,G w->C0 w)->Qai P ops C0 T B Q f ((listed.setIfInBounds i true).setIfInBounds j true) ((a.put oi.dst v).put oj.dst u) G->Qai P ops C0 T B Q (f+1) (listed.setIfInBounds j true) (a.put oj.dst u) G:=by
    intro u G hG hGC hk;refine Qt5 ?_;exact hk
   unfold Go.Proofs.YtphkhfdmlcnoeaaGreatDoor.stepPn at h1 ⊢;simp only[hoj] at h1 ⊢;rw[wanted_put oj a oi.dst v a1,execOp_put oj (fun cs b=>hsel j oj cs b hoj) a oi.dst v a1] at h1;rcases h1 with ⟨hw,hk⟩|⟨hw,ι,V,G,hr1,hG,hk⟩
   ·exact .inl ⟨hw,go _ _ hD hC hk⟩
   ·exact Qsi
def dP[dq:DQ](P:Program)(ops:Array Oper)(Q:Exit->Act->World->Prop)(N:Nat)(M:List Nat)(W:World)(O0:List Qb)(T:List Nat)(B:List PanicEntry->World->Prop)(f:Nat)(listed:Array Bool)(E:Env)(O:List Qb):Prop:=
 Clo ops listed->∀a,Ag N E a->Qai P ops (Wd M W O0) T B Q f listed a (Wd M W O)
theorem YB[dq:DQ](O0:List Qb)(T:List Nat:=[]){id:Nat}{l:List Oper}(hm:P.follows .mixedOrders=true)(hB:Pan Q B)(h:dP P l.toArray Q N M W O0 T B l.length (Array.replicate l.length false) E O):sE P Q N M W E O (.region id l.toArray true):=fun a w ha hw=>
 wp_region_any hm (by simpa using Qe7 hB _ _ _ _ ha.df (h (by simpa using Q8n l.toArray) a ha) _ hw.drew)
theorem Z9[dq:DQ](k:Nat)(ho:ops[k]? =some o)(hB:Qhx ops T listed k=true)(hT:QA M W O0 O)(h1:oE P ops (Wd M W O0) N E E' o)(h2:dP P ops Q N M W O0 T B f (listed.setIfInBounds k true) E' O):dP P ops Q N M W O0 T B (f+1) listed E O:=fun hcl a ha=>by
 unfold Qhx at hB;simp only[Bool.and_eq_true,List.all_eq_true] at hB;obtain⟨⟨⟨hTw,hr⟩,hf⟩,hs⟩:=hB;have hr':k∈Region.ready .any ops listed:=by simpa using hr
 have hTT:∀t∈T,∃f,waits ops f t k=true:=fun t ht=>⟨_,hTw t ht⟩;have h:=h1 a ha;split at h
 ·rename_i hw
  obtain⟨v,hv,hE⟩:=h;exact Q65 ho Qaq hTT f listed a _ hcl Wd.stb hT Q9E hr' (.inl ⟨hw,hv⟩) (h2 Q1o _ hE)
 ·rename_i hw
  exact Q65 ho Qaq hTT f listed a _ hcl Wd.stb hT Q9E hr' QhN (h2 Q1o _ h)
theorem QcX[dq:DQ]{V:ι->Value}{G:ι->List Qb}{p:ι->Prop}(ho:ops[k]? =some o)(ha:Ag N E a)(hne:∃w,Wd M W O w)(h1:pE P ops N M W E O o ι V G p B)(hT:∀i,k∈T\/QA M W O0 (G i))(hk:∀i,p i->K (a.put o.dst (V i)) (Wd M W (G i))):stepPn P ops (Wd M W O0) T B k a (Wd M W O) K:=by
 unfold stepPn;simp only[ho];obtain⟨w0,hw0⟩:=hne;refine .inr ⟨(h1 a w0 ha hw0).1,{ i:ι // p i },fun i=>V i.1,fun i=>Wd M W (G i.1),fun w hw=>?_,fun i=>⟨Wd.stb,hT i.1⟩,fun i=>hk i.1 i.2⟩;have h:=(h1 a w ha hw).2;generalize (execOp a.eval o).run P w=r at h;cases r with
 |ok n w'=>
  cases n<;>simp only[Zx] at h ⊢
  case value u=>obtain⟨i,h1,h2,h3⟩:=h;exact Qar
  case skip=>obtain⟨i,h1,h2,h3⟩:=h;exact Qar
  case enter f args=>
   refine h.mono fun e w'' h=>?_;rcases h with ⟨v,he,i,h1,h2,h3⟩|h
   ·exact .inl ⟨v,he,⟨i,h2⟩,h1,h3⟩
   ·exact .inr h
 |halt x w'=>simp only[Zx] at h
theorem QdM{D:World->Prop}(hne:¬∃w,D w){o:Oper}(ho:ops[k]? =some o)(hw:Region.wanted o (yielded ops a.tmps)=true):stepPn P ops C0 T B k a D K:=by
 unfold stepPn;exact QqR
theorem Q2A[dq:DQ](k:Nat){V:ι->Value}{G:ι->List Qb}{p:ι->Prop}(hB:Region.ready .any ops listed=[k])(ho:ops[k]? =some o)(hw:Qi ops E o=some true)(h1:pE P ops N M W E O o ι V G p B)(hT:∀i,k∈T\/QA M W O0 (G i))(hd:o.dst=some d)(hN:d<N)(h:∀i,p i->dP P ops Q N M W O0 T B f (listed.setIfInBounds k true) ((d,V i)::E) (G i)):dP P ops Q N M W O0 T B (f+1) listed E O:=fun hcl a ha=>by
 refine⟨fun h0=>absurd Q5M Qm,fun i hi=>?_⟩;rw[hB] at hi;rw[List.mem_singleton] at hi;subst hi;have hr':i∈Region.ready .any ops listed:=by rw[hB];exact Q6U
 by_cases hne:∃w,Wd M W O w
 ·exact QcX ho ha hne h1 hT fun x hp=>h x hp Q1o _ Qey
 ·exact QdM hne ho J1
theorem pE.of[dq:DQ]{ι:Type}{V:ι->Value}{G:ι->List Qb}{p:ι->Prop}(h:uE P ops N M W E O o ι V G p):pE P ops N M W E O o ι V G p B:=fun a w ha hw=>⟨(h a w ha hw).1,.of (h a w ha hw).2⟩
theorem Qht[dq:DQ](h:xE Q N M W E O .normal)(hB:Region.ready .any ops listed=[]):dP P ops Q N M W O0 T B 0 listed E O:=fun _ a ha=>⟨hB,fun w hw=>h a w ha hw⟩
end
end
section
variable {g m:Nat}{o o':Obj}
def Qb.ap(x y:Qb):Prop:=∀b,x.foot=some b->y.foot=some b->(x.w||y.w)=false
section
variable {M:List Nat}{W w w':World}{O O' L:List Qb}
theorem Wd.pairs(h:Wd M W O w):O.Pairwise Qb.ap:=by
 rw[List.pairwise_iff_getElem];intro i j hi hj hij b hx hy;cases hw:(O[i].w||O[j].w) with
 |false=>rfl
 |true=>exact absurd (h.nd i j _ _ b (List.getElem?_eq_getElem hi) (List.getElem?_eq_getElem hj) hx hy hw) Q3
theorem Wd.of_pairs(k:Xx M W w)(h1:∀x∈O,x.on w)(h2:∀x∈O,∀b,x.foot=some b->b<W.heap.size->(if x.w then b∈M else b∉M))(h3:O.Pairwise Qb.ap):Wd M W O w:=by
 refine⟨k,fun i x hx=>h1 x YS,fun i x b hx=>h2 x YS b,fun i j x y b hx hy hfx hfy hw=>?_⟩;obtain⟨hi,rfl⟩:=List.getElem?_eq_some_iff.1 hx;obtain⟨hj,rfl⟩:=List.getElem?_eq_some_iff.1 hy;rw[List.pairwise_iff_getElem] at h3;rcases Nat.lt_trichotomy i j with hij|hij|hij
 ·rw[h3 i j hi hj hij b hfx hfy] at hw;cases hw
 ·exact hij
 ·rw[Bool.or_comm,h3 j i hj hi hij b hfy hfx] at hw;cases hw
theorem Wd.onAll(h:Wd M W O w):∀x∈O,x.on w:=fun x hx=>by
 obtain⟨i,hi,rfl⟩:=List.mem_iff_getElem.1 hx;exact h.own i _ (List.getElem?_eq_getElem hi)
theorem Wd.newAll(h:Wd M W O w):∀x∈O,∀b,x.foot=some b->b<W.heap.size->(if x.w then b∈M else b∉M):=fun x hx b hb=>by
 obtain⟨i,hi,rfl⟩:=List.mem_iff_getElem.1 hx;exact h.new i _ b (List.getElem?_eq_getElem hi) hb
theorem Wd.perm(h:Wd M W O w)(hp:O.Perm O'):Wd M W O' w:=
 .of_pairs h.k (fun x hx=>h.onAll x (hp.mem_iff.2 hx)) (fun x hx=>h.newAll x (hp.mem_iff.2 hx)) (h.pairs.perm hp fun hxy b hy hx=>by rw[Bool.or_comm];exact hxy b hx hy)
theorem Wd.sub(h:Wd M W O w)(hs:O'.Sublist O):Wd M W O' w:=
 .of_pairs h.k (fun x hx=>h.onAll x (hs.subset hx)) (fun x hx=>h.newAll x (hs.subset hx)) (h.pairs.sublist hs)
structure New(L:List Qb)(m:Nat)(w:World):Prop where
 rd:∀x∈L,x.w=false
 on:∀x∈L,x.on w
 far:∀x∈L,∀b,x.foot=some b->m<=b
theorem New.nil(m:Nat)(w:World):New [] m w:=⟨by simp,by simp,by simp⟩
theorem New.app{L L':List Qb}(h:New L m w)(h':New L' m w):New (L++L') m w:=
 ⟨fun x hx=>(List.mem_append.1 hx).elim (h.rd x) (h'.rd x),fun x hx=>(List.mem_append.1 hx).elim (h.on x) (h'.on x),fun x hx=>(List.mem_append.1 hx).elim (h.far x) (h'.far x)⟩
theorem New.less{m':Nat}(h:New L m w)(hm:m'<=m):New L m' w:=⟨h.rd,h.on,fun x hx b hb=>Nat.le_trans hm (h.far x hx b hb)⟩
theorem Wd.addL(h:Wd M W O w)(hm:W.heap.size<=m)(hO:∀x∈O,∀b,x.foot=some b->b<m)(hL:New L m w):Wd M W (O++L) w:=by
 refine .of_pairs h.k (fun x hx=>(List.mem_append.1 hx).elim (h.onAll x) (hL.on x)) (fun x hx b hb hlt=>?_) ?_
 ·rcases List.mem_append.1 hx with hx|hx
  ·exact h.newAll x hx b hb hlt
  ·have:=hL.far x hx b hb
   omega
 ·rw[List.pairwise_append]
  refine⟨h.pairs,?_,fun x hx y hy b hbx hby=>?_⟩
  ·rw[List.pairwise_iff_getElem]
   intro i j hi hj hij b hx hy;rw[hL.rd _ (List.getElem_mem hi),hL.rd _ (List.getElem_mem hj)];rfl
  ·have:=hO x hx b hbx
   have:=hL.far y hy b hby;omega
def Qq5(L:List Qb)(φ:World->Prop):Prop:=∀w,(∀x∈L,x.on w)->φ w
theorem Qq5.of{φ:World->Prop}(h:Qq5 L φ)(hw:Wd M W O w)(hs:∀x∈L,x∈O):φ w:=h w fun x hx=>hw.onAll x (hs x hx)
theorem Xx.mono{M M':List Nat}(h:Xx M W w)(hM:∀b∈M,b∈M'):Xx M' W w:=⟨h.os,h.tape,h.output,h.size,fun k hk hn=>h.block k hk fun hm=>hn (hM k hm)⟩
theorem Wd.wrote(h:Wd M W (.blk g o::O) w)(hk:Xx [g] w w')(ho:w'.heap[g]? =some o'):Wd M W (.blk g o'::O) w':=
 h.upd (i:=0) (x:=.blk g o) (y:=.blk g o') rfl rfl rfl ⟨hk.os,hk.tape,hk.output,hk.size,fun k hk1 hn=>hk.block k hk1 (by
  simp only[List.mem_singleton]
  intro e
  subst e
  exact hn rfl)⟩ ho (fun b hb=>.inl hb)
theorem Wd.wroteL(h:Wd M W (.blk g o::O) w)(hk:Xx [g] w w')(ho:w'.heap[g]? =some o')(hL:New L w.heap.size w'):Wd M W (.blk g o'::(O++L)) w':=by
 have h1:=h.wrote hk ho;have:=h1.addL (m:=w.heap.size) (L:=L) h.k.size (fun x hx b hb=>?_) hL
 ·exact this
 ·rcases List.mem_cons.1 hx with rfl|hx
  ·cases hb
   exact(Array.getElem?_eq_some_iff.1 (h.own 0 _ rfl)).1
  ·exact(h.onAll x Q1G).lt hb
theorem Wd.made(h:Wd M W O w)(hb:Below w.heap.size w w')(hL:New L w.heap.size w'):Wd M W (O++L) w':=
 (h.on hb).addL (m:=w.heap.size) h.k.size (fun x hx b hb=>(h.onAll x hx).lt hb) hL
theorem Wd.blkH(h:Wd M W (.blk g o::O) w):w.heap[g]? =some o:=h.own 0 _ rfl
theorem Wd.startB(h:W.heap[g]? =some o):Wd [g] W [.blk g o] W:=(Wd.start [g] W).add (y:=.blk g o) h (fun b hb _=>by cases hb;exact List.mem_singleton.2 rfl) Qm
end
end
section
variable {A:Option Addr}{L:List Qb}{c:Nat}{cs:List Value}{d:Nd}{l:VF}{v:Value}{w:World}
def QU(L:List Qb)(v:Value)(d:Nd)(l:VF):Prop:=∃sb sn sp,v=.agg #[.int .i64 d.k,.int .i64 d.n,sb,sn,sp]/\Qq5 L fun w=>Hd w w.heap.size d l.len (FIn w w.heap.size l) sb sn sp
def ZY(L:List Qb)(cs:List Value)(l:VF):Prop:=cs.length=l.len*5/\Qq5 L fun w=>∀b o,b<w.heap.size->(∀j u,cs[j]? =some u->w.cell? ⟨b,o+j,none⟩=some u)->FIn w w.heap.size l b o
theorem QU.vin(h:QU L v d l)(hw:∀x∈L,x.on w):VIn w w.heap.size v d l:=by
 obtain⟨sb,sn,sp,e,h⟩:=h;exact⟨sb,sn,sp,e,h w hw⟩
theorem FIn.snoc{w:World}{B:Nat}{d:Nd}{p:VF}:∀{F:VF} {b o:Nat},FIn w B F b o->(∃sb sn sp,Yk w b (o+F.len*5) d sb sn sp/\Hd w B d p.len (FIn w B p) sb sn sp)->FIn w B (F.snoc d p) b o
 |.nil,b,o,h,hn=>⟨by simpa [VF.len] using hn,trivial⟩
 |.cons d' p' r,b,o,h,hn=>⟨h.1,FIn.snoc h.2 (by
  have e:o+5+r.len*5=o+(r.len+1)*5:=by omega
  rw[e]
  exact hn)⟩
theorem ZY.nil:ZY [] [] .nil:=⟨rfl,fun w _ b o _ _=>trivial⟩
theorem ZY.snoc{L L':List Qb}{cs:List Value}{l:VF}{k n:Int}{sb sn sp:Value}{d:Nd}{p:VF}(h:ZY L cs l)(hv:QU L' (.agg #[.int .i64 k,.int .i64 n,sb,sn,sp]) d p):ZY (L++L') (cs++[.int .i64 k,.int .i64 n,sb,sn,sp]) (l.snoc d p):=by
 obtain⟨hl,h⟩:=h;obtain⟨sb',sn',sp',e,hv⟩:=hv;simp only[Value.agg.injEq,Array.mk.injEq,List.cons.injEq,Value.int.injEq,true_and,and_true] at e;obtain⟨e1,e2,e3,e4,e5⟩:=e;subst e1 e2 e3 e4 e5;refine⟨by rw[List.length_append,hl,VF.len_snoc];simp only[List.length_cons,List.length_nil];omega,fun w hw b o hb hc=>?_⟩
 have h1:=h w (fun x hx=>hw x (List.mem_append_left _ hx)) b o hb (fun j u hu=>hc j u (by
  rw[List.getElem?_append_left (List.getElem?_eq_some_iff.1 hu).1];exact hu))
 have hat:∀i u,[Value.int .i64 d.k,.int .i64 d.n,sb,sn,sp][i]? =some u->w.cell? ⟨b,o+l.len*5+i,none⟩=some u:=fun i u hu=>by
  have:=hc (cs.length+i) u (by rw[List.getElem?_append_right (Nat.le_add_right _ _),Nat.add_sub_cancel_left];exact hu);rw[hl] at this;rw[Nat.add_assoc];exact this
 exact h1.snoc ⟨sb,sn,sp,⟨hat 0 _ rfl,hat 1 _ rfl,hat 2 _ rfl,hat 3 _ rfl,hat 4 _ rfl⟩,hv w fun x hx=>hw x (List.mem_append_right _ hx)⟩
theorem ZC(w:World)(B s:Nat):Rd w B s none 0 []:=⟨by simp,fun h=>absurd h Q9Z⟩
theorem QU.num(n:Int):QU [] (.agg #[.int .i64 1,.int .i64 n,.slice none 0 0,.slice none 0 0,.slice none 0 0]) (ndN n) .nil:=
 ⟨_,_,_,rfl,fun w _=>⟨none,0,0,none,0,0,none,0,rfl,rfl,rfl,Nat.le_refl _,Nat.le_refl _,Nat.le_refl _,Nat.zero_le _,ZC _ _ _,ZC _ _ _,fun h=>absurd h (Nat.lt_irrefl 0)⟩⟩
theorem QU.bytes{n:Nat}{bs:List UInt8}(hc:n<=c):QU [.rd A n 1 (bv bs)] (.agg #[.int .i64 2,.int .i64 0,.slice A n c,.slice none 0 0,.slice none 0 0]) (ndB bs) .nil:=
 ⟨_,_,_,rfl,fun w hw=>⟨A,n,c,none,0,0,none,0,rfl,rfl,rfl,hc,Nat.le_refl _,Nat.le_refl _,Nat.zero_le _,hw _ List.mem_cons_self,ZC _ _ _,fun h=>absurd h Q9Z⟩⟩
theorem ZY.at_(h:ZY L cs l)(hr:Rd w w.heap.size 5 A l.len cs)(hw:∀x∈L,x.on w):0<l.len->∃b o,A=some ⟨b,o,none⟩/\b<w.heap.size/\FIn w w.heap.size l b o:=fun h0=>by
 obtain⟨b,o,e,hb,hc⟩:=hr.2 h0;exact⟨b,o,e,hb,h.2 w hw b o hb hc⟩
theorem QU.list(h:ZY L cs l)(hc:l.len<=c)(hm:c<=maxLen):QU (.rd A l.len 5 cs::L) (.agg #[.int .i64 3,.int .i64 0,.slice none 0 0,.slice none 0 0,.slice A l.len c]) ndL l:=
 ⟨_,_,_,rfl,fun w hw=>⟨none,0,0,none,0,0,A,c,rfl,rfl,rfl,Nat.le_refl _,Nat.le_refl _,hc,hm,ZC _ _ _,ZC _ _ _,h.at_ (hw _ List.mem_cons_self) fun x hx=>hw x Q1G⟩⟩
theorem QU.rec_{An:Option Addr}{m cn:Nat}{ns:List (List UInt8)}(h:ZY L cs l)(hc:l.len<=c)(hm:c<=maxLen)(hn:m<=cn):QU (.rd A l.len 5 cs::.rd An m 1 (sv ns)::L) (.agg #[.int .i64 4,.int .i64 0,.slice none 0 0,.slice An m cn,.slice A l.len c]) (ndR ns) l:=
 ⟨_,_,_,rfl,fun w hw=>⟨none,0,0,An,m,cn,A,c,rfl,rfl,rfl,Nat.le_refl _,hn,hc,hm,ZC _ _ _,hw (.rd An m 1 (sv ns)) Qm,h.at_ (hw _ List.mem_cons_self) fun x hx=>hw x Q00⟩⟩
theorem QU.cells(h:QU L v d l):∃sb sn sp,v=.agg #[.int .i64 d.k,.int .i64 d.n,sb,sn,sp]:=by
 obtain⟨sb,sn,sp,e,_⟩:=h;exact⟨sb,sn,sp,e⟩
end
section
variable {bytes m:Nat}{c:UInt8}{e t t':TypeId}{w:World}{x y:Operand}
theorem Wd.tail{M:List Nat}{W:World}{x:Qb}{O:List Qb}(h:Wd M W (x::O) w):Wd M W O w:=
 ⟨h.k,fun i y hy=>h.own (i+1) y QmF,fun i y b hy hf hl=>h.new (i+1) y b QmF hf hl,fun i j y z b hy hz hf hg hw=>by
  have:=h.nd (i+1) (j+1) y z b QmF (by simpa using hz) hf hg hw
  omega⟩
section
variable {P:Program}{ops:Array Oper}{C:World->Prop}{N:Nat}{E:Env}{o:Oper}{d:Nat}
theorem QwP(ho:o.op=.binOp .shr t x y t')(hd:o.dst=some d)(hN:d<N)(hw:Qi ops E o=some true)(hx:ev E x=some (.int .u8 (c.toNat:Int)))(hy:ev E y=some (.int .u64 4)):oE P ops C N E ((d,.int .u8 ((c.toNat / 16:Nat):Int))::E) o:=
 Q0y ho hd hN hw hx hy fun w=>by
  rw[binOp_shr,shift_shr_u8 (h₀:=by decide) (h₁:=by decide)];have:(c.toNat:Int) / 2 ^ (4:Int).toNat=((c.toNat / 16:Nat):Int):=by
   rw[show (2:Int) ^ (4:Int).toNat=16 by decide];omega
  rw[this];rfl
theorem Qpf(c:UInt8):bits .and .u8 (c.toNat:Int) 15=((c.toNat % 16:Nat):Int):=by
 have h:∀n:Fin 256,bits .and .u8 ((n:Nat):Int) 15=(((n:Nat) % 16:Nat):Int):=by decide+kernel
 exact h ⟨c.toNat,c.toNat_lt⟩
theorem QwJ(ho:o.op=.binOp .and t x y t')(hd:o.dst=some d)(hN:d<N)(hw:Qi ops E o=some true)(hx:ev E x=some (.int .u8 (c.toNat:Int)))(hy:ev E y=some (.int .u8 15)):oE P ops C N E ((d,.int .u8 ((c.toNat % 16:Nat):Int))::E) o:=
 Q0y ho hd hN hw hx hy fun w=>by rw[binOp_and,intBits_and,Qpf];rfl
theorem Qv1(hm:m<255)(ho:o.op=.binOp .add t x y t')(hd:o.dst=some d)(hN:d<N)(hw:Qi ops E o=some true)(hx:ev E x=some (.int .u8 (m:Int)))(hy:ev E y=some (.int .u8 1)):oE P ops C N E ((d,.int .u8 ((m+1:Nat):Int))::E) o:=
 Q7l ho hd hN hw hx hy (by
  have h:∀n:Fin 255,IntKind.u8.wrap (((n:Nat):Int)+1)=(((n:Nat)+1:Nat):Int):=by decide+kernel
  exact h ⟨m,hm⟩)
end
theorem QpU(h:m<16):(⟨#[48,49,50,51,52,53,54,55,56,57,97,98,99,100,101,102]⟩:ByteArray).extract m (m+1)=⟨#[hx m]⟩:=by
 have h':∀n:Fin 16,(⟨#[48,49,50,51,52,53,54,55,56,57,97,98,99,100,101,102]⟩:ByteArray).extract n (n+1)=⟨#[hx n]⟩:=by decide+kernel
 exact h' ⟨m,h⟩
theorem Q1T(a b:List UInt8):(⟨a.toArray⟩:ByteArray)++⟨b.toArray⟩=⟨(a++b).toArray⟩:=by
 refine Qjx ?_;simp
section
variable {P:Program}{ops:Array Oper}{N:Nat}{E:Env}{o:Oper}{M:List Nat}{W:World}{O:List Qb}
theorem QfP(hT:SlT P t e 1 bytes)(a b:ByteArray)(w:World):
  (Instr.buildSlice t 2 #[(0,.string a),(1,.string b)]).run P w=.ok (.slice (some ⟨w.heap.size,0,none⟩) 2 2) (w.alloc (.cells [Value.string a,.string b].toArray e)):=by
 obtain⟨i,z,hi,hz,hsz,hby,hzs⟩:=hT.info;refine run_buildSlice w t e 2 _ [Value.string a,.string b].toArray i z hT.und hi hz Ye Ye ?_;rw[hsz];have hZ:∀Z:Array Value,Z.size=2->Instr.fill (fun i=>some (i*1,1)) Z [(0,Value.string a),(1,Value.string b)]=some #[.string a,.string b]:=by
  rintro⟨l⟩ h;match l,h with
  |[z0,z1],_=>rfl
 exact hZ _ Qm
theorem Qlw{a b:ByteArray}[hT:Sl P t e 1 bytes](ho:o.op=.buildSlice t 2 #[(0,x),(1,y)])(hw:Qi ops E o=some true)(hx:ev E x=some (.string a))(hy:ev E y=some (.string b)):
  uE P ops N M W E O o Nat (fun b=>.slice (some ⟨b,0,none⟩) 2 2) (fun g=>.blk g (.cells [Value.string a,.string b].toArray e (0,0))::O) (fun _=>True):=
 Zj (xs:=[(0,x),(1,y)]) (vs:=[(0,.string a),(1,.string b)]) ho hw (by simp [evp,hx,hy]) (fun w=>QfP hT.h a b w)
end
theorem Qva{M:List Nat}{W:World}{O:List Qb}{g c:Nat}{A:Option Addr}{ws:List (List UInt8)}(u:Bool)(s:List UInt8)(hn:ws.length<=1048576)(hw:Wd M W (.blk g (.cells [.slice A ws.length c].toArray 27 (0,0))::.row A ws.length c 9 1 (sv ws)::O) w):
  Calls Tryz.prog 122 ([Value.bool u,.string ⟨s.toArray⟩].toArray++#[.pointer (some ⟨g,0,none⟩)]) w (Xf (fun _:Option Addr×Nat=>.tuple #[]) (fun _=>True) M W (fun y=>.blk g (.cells [.slice y.1 (ws++ifW u s).length y.2].toArray 27 (0,0))::.row y.1 (ws++ifW u s).length y.2 9 1 (sv (ws++ifW u s))::O)):=by
 rw[show ([Value.bool u,.string ⟨s.toArray⟩].toArray++#[.pointer (some ⟨g,0,none⟩)]:Array Value)=#[.bool u,.string ⟨s.toArray⟩,.pointer (some ⟨g,0,none⟩)] by simp];cases u with
 |false=>
  go_enter Tryz.func122,Tryz.ntmps122;refine Qv (M:=M) (W:=W) (N:=10) (E:=[(0,.bool false),(1,.string ⟨s.toArray⟩),(2,.pointer Q7E)]) (O:=.blk g (.cells [.slice A ws.length c].toArray 27 (0,0))::.row A ws.length c 9 1 (sv ws)::O) ?_ Zo hw;repeat(first|refine Q4 zM ?_|refine Qd ?_|refine Qa ?_|refine Q6 ?_|refine Qt ?_|refine Q7 rfl ?_)
  refine Y8 Q5Q rfl (fun w hw=>⟨(A,c),rfl,trivial,?_⟩);rw[show ws++ifW false s=ws from List.append_nil ws];exact hw
 |true=>
  go_enter Tryz.func122,Tryz.ntmps122;refine Qv (M:=M) (W:=W) (N:=10) (E:=[(0,.bool true),(1,.string ⟨s.toArray⟩),(2,.pointer Q7E)]) (O:=.blk g (.cells [.slice A ws.length c].toArray 27 (0,0))::.row A ws.length c 9 1 (sv ws)::O) ?_ Zo hw;repeat(first|refine Q4 zM ?_|refine Q4 (zB 0) ?_|refine Qc (ZZ (size:=1) (cs:=[.string ⟨s.toArray⟩]) rfl rfl rfl rfl rfl Q1) rfl Q1 (fun bn _=>?_)|refine Qc (J4 (news:=[.string ⟨s.toArray⟩]) 2 rfl rfl rfl rfl rfl QbG Q9R Q3) rfl Q1 (fun y _=>?_)|refine yS 1 ?_|refine Qd ?_|refine Qa ?_|refine Q6 ?_|refine Q9 rfl ?_)
  refine Y8 Q5Q rfl (fun w hw=>⟨y,rfl,trivial,?_⟩);have h:=hw.tail;rw[show (ws++ifW true s).length=ws.length+1 by simp [ifW],Qub];exact h
theorem Qbc:Lib.fields [108,105,116,101,114,97,108,32,110,117,109,98,101,114,32,100,101,99,105,109,97,108,32,98,121,116,101,115,32,117,110,116,105,108,32,99,111,117,110,116,101,100,32,115,101,113,117,101,110,99,101,32,99,104,111,105,99,101,32,114,101,112,101,97,116,32,98,108,111,98]=Q6i:=by decide+kernel
theorem Qj3{M:List Nat}{W:World}{O:List Qb}(hg:GV W)(hw:Wd M W O w)(hgw:GV w):
  Calls Tryz.prog 121 #[.string ⟨#[108,105,116,101,114,97,108,32,110,117,109,98,101,114,32,100,101,99,105,109,97,108,32,98,121,116,101,115,32,117,110,116,105,108,32,99,111,117,110,116,101,100,32,115,101,113,117,101,110,99,101,32,99,104,111,105,99,101,32,114,101,112,101,97,116,32,98,108,111,98]⟩] w (Xf (fun b:Nat=>.slice (some ⟨b,0,none⟩) 10 10) (fun _=>True) M W (fun b=>.rd (some ⟨b,0,none⟩) 10 1 (sv Q6i)::O)):=by
 refine(Tryz.strings_Fields _ w Q1 (by
  intro j b hb
  have h:∀x∈(⟨#[108,105,116,101,114,97,108,32,110,117,109,98,101,114,32,100,101,99,105,109,97,108,32,98,121,116,101,115,32,117,110,116,105,108,32,99,111,117,110,116,101,100,32,115,101,113,117,101,110,99,101,32,99,104,111,105,99,101,32,114,101,112,101,97,116,32,98,108,111,98]⟩:ByteArray).data.toList,x.toNat<128:=by decide+kernel
  exact h b (List.mem_of_getElem? hb)) hgw.sp).mono ?_
 rintro e w' ⟨he,hw'⟩;have hk:Lib.fields (⟨#[108,105,116,101,114,97,108,32,110,117,109,98,101,114,32,100,101,99,105,109,97,108,32,98,121,116,101,115,32,117,110,116,105,108,32,99,111,117,110,116,101,100,32,115,101,113,117,101,110,99,101,32,99,104,111,105,99,101,32,114,101,112,101,97,116,32,98,108,111,98]⟩:ByteArray).data.toList=Q6i:=Qbc;rw[hk] at he hw';subst he hw';refine⟨w.heap.size,rfl,trivial,hw.push QsD ⟨rfl,fun _=>⟨w.heap.size,0,rfl,by simp,fun j u hu=>?_⟩⟩ (fun b' hb'=>by cases hb';exact Nat.le_refl _)⟩;rw[Nat.zero_add];exact(cell_of_row _ w.heap.size j _ _ (0,0) Qfz).trans (by rw[List.getElem?_toArray];exact hu)
end
section
variable {e:TypeId}{n:Nat}
theorem Q8C{Q:Exit->Act->World->Prop}{N:Nat}{M:List Nat}{W:World}{E:Env}{O:List Qb}{ex:Exit}(i:Nat){b s:Nat}{cs:List Value}(hO:O[i]? =some (.blk b (.cells cs.toArray e (0,0))))(hl:cs.length=n*s)(hn:n<=maxLen)(h:xE Q N M W E (O.set i (.row (some ⟨b,0,none⟩) n n e s cs)) ex):xE Q N M W E O ex:=fun a w ha hW=>h a w ha (hW.blk_row hO hl hn)
theorem row_rd{w:World}{A:Option Addr}{c s:Nat}{xs:List Value}(h:(Qb.row A n c e s xs).on w)(hs:0<s):Rd w w.heap.size s A n xs/\n<=c:=by
 have h':w.ownsRow 0 e s (.slice A n c) n xs:=h;rcases h'.2 with ⟨hv,h0⟩|⟨g,cap,cur,hv,_,hg,h1,h2,h3,h4⟩
 ·simp only[Value.slice.injEq] at hv
  exact⟨⟨h'.1,fun hn=>absurd hn Q3⟩,by omega⟩
 ·simp only[Value.slice.injEq] at hv
  obtain⟨rfl,_,rfl⟩:=hv;refine⟨⟨h'.1,fun hn=>⟨g,0,rfl,(Array.getElem?_eq_some_iff.1 hg).1,fun j u hu=>?_⟩⟩,h1⟩;rw[Nat.zero_add];refine(cell_of_row w g j cur e (0,0) hg).trans ?_;have hj:j<n*s:=by
   rcases Nat.lt_or_ge j (n*s) with hj|hj
   ·exact hj
   ·rw[List.getElem?_eq_none (by rw[h'.1];exact hj)] at hu;cases hu
  rw[<- h4,List.getElem?_take,if_pos hj] at hu;rw[<- hu];simp
section
variable {P:Program}{ops:Array Oper}{N:Nat}{E:Env}{o:Oper}{M:List Nat}{W:World}{O:List Qb}
theorem QjU{t:TypeId}{x:Operand}{p:Addr}{v:Value}[hT:T1 P t](ho:o.op=.load t x)(hw:Qi ops E o=some true)(hx:ev E x=some (.pointer (some p)))(hc:∀w,Wd M W O w->w.cell? p=some v):uE P ops N M W E O o Unit (fun _=>v) (fun _=>O) (fun _=>True):=
 Q4q hw fun ρ w ha hW=>⟨(),w,by
  obtain⟨ds,hu,hr,hi⟩:=hT.h
  have hagg:(isAgg t).run P w=.ok false w:=by
   unfold isAgg
   rw[Sem.run_bind,run_underlying hu w]
   cases ds<;>simp_all
  simp [execOp,ho,ha.eval hx,Instr.loadAt,Instr.sureAddr,loadVar,Sem.run_bind,hagg,hc w hW,go_sem],trivial,hW⟩
end
theorem Qjm{k:Int}(h:1<=k/\k<=10):(sv Q6i)[(k - 1).toNat]? =some (.string ⟨(JW k).toArray⟩):=by
 rcases (show k=1\/k=2\/k=3\/k=4\/k=5\/k=6\/k=7\/k=8\/k=9\/k=10 by omega) with rfl|rfl|rfl|rfl|rfl|rfl|rfl|rfl|rfl|rfl<;>rfl
theorem Qq9{bs:List UInt8}{i:Nat}{c:UInt8}(h:bs[i]? =some c):Vm (bs.take i)++([hx (c.toNat / 16)]++[hx (c.toNat % 16)])=Vm (bs.take (i+1)):=by
 rw[List.take_add_one,h];unfold Vm;simp [Qce]
theorem Q6F(bs:List UInt8):(Vm bs).length=2*bs.length:=by
 induction bs with
 |nil=>rfl
 |cons c l ih=>
  show (Qce c++Vm l).length=_;rw[List.length_append,ih,List.length_cons];show 2+_=_;omega
theorem VE(l:List UInt8):(⟨l.toArray⟩:ByteArray).size=l.length:=by simp [ByteArray.size]
theorem YO{l:List UInt8}(h:Qw l=true):l.length<=32:=by
 unfold Qw at h;rw[Bool.and_eq_true,Bool.and_eq_true,decide_eq_true_eq] at h;exact h.1.1
theorem Q0C{ws ws':List (List UInt8)}{u:Bool}{s:List UInt8}{m:Nat}(h:ws++ifW u s=ws')(hm:ws.length<=m):ws'.length<=m+1:=by
 rw[<- h,List.length_append];unfold ifW;split<;>simp<;>omega
structure NSm(n:Nat)(r:Rl):Prop where
 stop:0<=r.stop/\r.stop<=4294967295
 size:0<=r.size/\r.size<=4294967295
 mn:0<=r.mn/\r.mn<=4294967295
 mx:0<=r.mx/\r.mx<=4294967295
 count:0<=r.count/\r.count<n
 elem:0<=r.elem/\r.elem<n
theorem QmC{r:Rl}(h:ROk n r)(hn:0<n):NSm n r:=by
 have hz:=QoU h;have hk:=h.kind;have a6:r.kind=2->r.mx<=4294967295:=fun h2=>by
  obtain⟨b1,b2,_,_,b5⟩:=h.num h2;generalize r.size=size at b1 b2 b5;rcases (show size=1\/size=2\/size=3\/size=4 by omega) with rfl|rfl|rfl|rfl<;>simp at b5<;>omega
 refine⟨?_,?_,?_,?_,?_,?_⟩
 ·by_cases hu:r.kind=3\/r.kind=5\/r.kind=9
  ·have:=h.stop hu;omega
  ·rw[hz.stop Q3 Q3 Q3];omega
 ·by_cases h2:r.kind=2
  ·have:=h.num h2;omega
  ·by_cases h4:r.kind=4
   ·have:=h.size4 h4;omega
   ·by_cases h5:r.kind=5
    ·have:=h.size5 h5;omega
    ·rw[hz.size h2 h4 h5];omega
 ·by_cases h2:r.kind=2
  ·have:=h.num h2;have:=a6 h2;omega
  ·rw[hz.mn h2];omega
 ·by_cases h2:r.kind=2
  ·have:=h.num h2;have:=a6 h2;omega
  ·by_cases h3:r.kind=3
   ·have:=h.dec h3;omega
   ·rw[hz.mx h2 h3];omega
 ·by_cases hu:r.kind=6\/r.kind=10
  ·exact h.count hu
  ·rw[hz.count Q3 Q3];omega
 ·by_cases hu:r.kind=6\/r.kind=9
  ·exact h.elem hu
  ·rw[hz.elem Q3 Q3];omega
end
def QvP(W:World)(l:List UInt8)(e:Ending)(w':World):Prop:=e=.returned (.string ⟨l.toArray⟩)/\Below W.heap.size W w'
theorem Qek{F:List Rl}{r:Rl}{A Ab An Ap:Option Addr}{n c cb cn cp:Nat}{W:World}(hf:QW W W.heap.size A n F)(hl:RuL W r Ab cb An cn Ap cp)(hL:LOk F r)(hn0:0<n)(hg:GV W)(hj:(Lib.join (VZ F r) [32]).length<=1000000):
  Calls Tryz.prog 90 #[.agg #[.slice A n c],.agg (ruC r (.slice Ab r.bs.length cb) (.slice An r.names.length cn) (.slice Ap r.parts.length cp)).toArray] W (QvP W (Q3i F r)):=by
 have hlen:F.length=n:=hf.1;have hN:=QmC (hlen▸hL.ok) hn0;have hk:=hL.ok.kind;have hb16:=hL.ok.bs16;have hp12:=hL.ok.p12;obtain⟨b,o,rfl⟩:=hf.addr hn0;obtain⟨rc,Ac,cc,Ad,cd,Ae,ce,hrc,hgc,_⟩:=hf.rl (i:=r.count.toNat) (by have:=hN.count;omega);obtain⟨rm,Am,cm,Bm,dm,Cm,em,hrm,hgm,_⟩:=hf.rl (i:=r.elem.toNat) (by have:=hN.elem;omega);have HNC:=Q2 (Q2w hrc);have HNM:=Q2 (Q2w hrm);have HFM:=Q2 hf;have HL:=Q2 hl;have HLO:=Q2 hL;have HG:=Q2 hg;have HJ:=Q2 hj;have HLEN:=Q2 hlen;have hks:=hN.stop;have hkz:=hN.size;have hkn:=hN.mn;have hkx:=hN.mx;have hkc:=hN.count;have hke:=hN.elem;clear hrc hrm hf hl hL hg hj hlen hN;have hkw:=Qjm hk;go_enter Tryz.func90,Tryz.ntmps90;refine Qv (M:=[]) (W:=W) (N:=146) (E:=[Q9a,Qgs]) (O:=[]) ?_ mc3 QT;repeat(first|refine Q4 zA ?_|refine Qc YR rfl Q1 (fun br _=>?_)|refine Qd ?_|refine Qa ?_|refine Q6 ?_)
 rename_i bf _ _;refine Qot (ι:=Nat×Nat) QgG (fun y=>[Q4N,Q9r,(5,.pointer (some ⟨y.1,0,none⟩))]) (fun y=>[.blk y.1 (.cells [.slice (some ⟨y.2,0,none⟩) 2 2].toArray 27 (0,0)),.row (some ⟨y.2,0,none⟩) 2 2 9 1 (sv [r.name,JW r.kind]),Qb.blk br Q9n,Qb.blk bf Q8y]) ?_ ?_
 ·refine Jz [] Q5 ?_;refine Qn 0 rfl Q5 Xi zF ?_;refine Qn 1 rfl Q5 Xi (zB 0) ?_;refine Qn 3 rfl Q5 Xi zF ?_;refine Qn 4 rfl Q5 Xi (zB 0) ?_;refine Qn 5 rfl Q5 Xi zQ ?_;refine Q6m 2 9 Q5 (JC rfl rfl Qr1 QmH rfl Q1 (fun bz _=>?_)) (JC rfl rfl Qa5 QmH rfl Q1 (fun g _=>?_))
  ·refine Qn 6 rfl Q5 (QA.sel [1,2] Q1 rfl) Kq ?_;refine Q6m 7 9 Q5 (JC rfl rfl Qlh QmH rfl Q1 (fun _ _=>?_)) (JC rfl rfl Qa5 Q8V rfl Q1 (fun g _=>?_))
   ·refine Q6m 8 9 Q5 (JC rfl rfl Qb3 Q8V rfl Q1 (fun bs _=>?_)) (JC rfl rfl Qa5 Q8V rfl Q1 (fun g _=>?_))
    ·refine QX 9 Q5 rfl rfl Qa5 Q4M rfl Q1 (fun g _=>?_);refine QK 10 Q5 rfl rfl Qp3 Q4M rfl (fun _ _=>?_);refine Xn ?_ Q5;refine Q8C 1 (n:=2) (s:=1) rfl rfl Q1 ?_;exact Xq (g,bs) [0,1,3,4] Q1 trivial J0 rfl
    ·refine QX 8 Q5 rfl rfl Qb3 Q4M rfl Q1 (fun bs _=>?_);refine QK 10 Q5 rfl rfl QoV Q4M rfl (fun _ _=>?_);refine Xn ?_ Q5;refine Qf0 ?_;exact Xq (g,bs) [1,0,3,4] Q1 trivial J0 rfl
   ·refine QX 7 Q5 rfl rfl (QjU rfl rfl rfl (fun w hw=>hw.cell_rd 1 rfl hkw)) Q8V rfl Q1 (fun _ _=>?_);refine QX 8 Q5 rfl rfl Qb3 Q4M rfl Q1 (fun bs _=>?_);refine QK 10 Q5 rfl rfl QoV Q4M rfl (fun _ _=>?_);refine Xn ?_ Q5;refine Qf0 ?_;exact Xq (g,bs) [1,0,3,4] Q1 trivial J0 rfl
  ·refine QX 2 Q5 rfl rfl Qr1 Q8V rfl Q1 (fun bz _=>?_);refine Qn 6 rfl Q5 (QA.sel [2,3] Q1 rfl) Kq ?_;refine QX 7 Q5 rfl rfl Qlh Q8V rfl Q1 (fun _ _=>?_);refine QX 8 Q5 rfl rfl Qb3 Q4M rfl Q1 (fun bs _=>?_);refine QK 10 Q5 rfl rfl Qlz Q4M rfl (fun _ _=>?_);refine Xn ?_ Q5;refine Qf0 ?_;exact Xq (g,bs) [2,0,3,4] Q1 trivial J0 rfl
 rintro⟨g,bs⟩ _;show sE _ _ _ _ _ [Q4N,Q9r,Q6P] [Qb.blk g (.cells [.slice Vw [r.name,JW r.kind].length 2].toArray 27 (0,0)),Qb.row Vw [r.name,JW r.kind].length 2 9 1 (sv [r.name,JW r.kind]),Qb.blk br Q9n,Qb.blk bf Q8y] _;generalize hw0:[r.name,JW r.kind]=ws0;have hl0:ws0.length<=2:=by rw[<- hw0];exact Nat.le_refl _
 repeat(first|refine Q4 zM ?_|refine Q4 zA ?_|refine Q4 zF ?_|refine Q4 (zB 2) ?_|refine Qd ?_|refine Qa ?_|refine Q6 ?_|refine Qh ?_|refine Q4 zL ?_|refine Q4 (YN rfl rfl Q1 rfl rfl rfl (by rfl)) ?_|refine Q4 Qtb ?_)
 refine QH (ι:=Nat) (fun i=>i<=r.bs.length) (fun i=>r.bs.length - i) (fun i=>[Q4N,Q9r,Q6P,Qh5,(7,.bool (r.kind==2)),(8,.string ⟨(Vm (r.bs.take i)).toArray⟩),(29,.slice Ab r.bs.length cb),(30,.int .i64 (r.bs.length:Int)),(31,.int .i64 (i:Int))]) Qu3 0 [0,1,2,3] Q1 XY Qnv rfl ?_;rintro i hi;by_cases hin:i<r.bs.length
 ·obtain⟨bb,ob,hA,_,hbc⟩:=HL.out.b.2 Q3;subst hA;obtain⟨cc,hcc⟩:∃cc,r.bs[i]? =some cc:=⟨_,List.getElem?_eq_getElem hin⟩;have hcell:W.cell? ⟨bb,ob+i,none⟩=some (.int .u8 (cc.toNat:Int)):=hbc i _ (by unfold bv;rw[List.getElem?_map,hcc];rfl);have hlt:cc.toNat<256:=cc.toNat_lt;have HCC:=Q2 hcc;clear hcc hbc
  repeat(first|refine Q4 zA ?_|refine Q4 zC ?_|refine Q4 (Xz rfl rfl Q1 rfl rfl rfl hin) ?_|refine Qd ?_|refine Qa ?_|refine Q6 ?_|refine Qt ?_|refine Q9 rfl ?_|refine Qh ?_|refine Q4 zlt ?_)
  repeat(first|refine Qe zM ?_|refine Qe zA ?_|refine Qe (QwP rfl rfl Q1 rfl rfl rfl) ?_|refine Qe (QwJ rfl rfl Q1 rfl rfl rfl) ?_|refine Qe (Qv1 Q3 rfl rfl Q1 rfl rfl rfl) ?_|(refine Qe (QjV Tryz.underlying9 rfl rfl Q1 rfl rfl rfl rfl Q3 (by first|(show cc.toNat / 16+1<=16;omega)|(show cc.toNat % 16+1<=16;omega))) ?_;rw[QpU Q3])|(refine Qe QdS ?_;rw[Q1T])|refine Z3 ?_|refine Xb Q5 Q5 ?_)
  refine QkO ?_
  refine Qr (i+1) [0,1,2,3] Q1 hin (by show r.bs.length - (i+1)<r.bs.length - i;omega) (.cons rfl rfl (.cons rfl rfl (.cons rfl rfl (.cons rfl rfl (.cons rfl rfl (.cons rfl (by rw[<- Qq9 HCC.out]) Q59)))))) rfl
 have htk:r.bs.take i=r.bs:=List.take_of_length_le Q3;rw[htk];repeat(first|refine Q4 zA ?_|refine Q4 zF ?_|refine Q4 (zB 2) ?_|refine Qd ?_|refine Qa ?_|refine Q6 ?_|refine Q7 rfl ?_|refine XK ?_|refine Q4 zlf ?_)
 refine Qot (ι:=Unit) QgG (fun _=>[Q4N,Q9r,Q6P,Qh5,(7,.bool (r.kind==2)),(8,.string ⟨(Vm r.bs).toArray⟩),(11,.string ⟨(if r.big then Qdt else Yb).toArray⟩)]) Qu3 ?_ ?_
 ·refine X0 rfl (fun hb=>?_) (fun hb=>?_)
  ·skip
   repeat(first|refine Q4 zA ?_|refine Qd ?_|refine Q6 ?_)
   exact Qse
  ·refine Qt ?_;exact Qse
 rintro _ _;repeat(first|refine Q4 zM ?_|refine Q4 zF ?_|refine Q4 (zB 2) ?_|refine Qc Q6j rfl Q1 (fun y1 _=>?_)|refine Qd ?_|refine Qa ?_|refine Q6 ?_|refine Q4 (YN rfl rfl Q1 rfl rfl rfl (by rfl)) ?_)
 generalize hw1:ws0++ifW (r.kind==1) (Vm r.bs)=ws1;have hl1:=Q0C hw1 hl0;refine Jz [6] Q5 ?_;refine QbO ?_;refine Qn 2 rfl Q5 Xi (Qg (f:=123) rfl rfl Q1 rfl rfl (fun w hw=>VY w)) ?_;refine Qlt ?_;refine QX 6 Q5 rfl rfl Q6j Vx rfl Q1 (fun y2 _=>?_);refine Xn ?_ Q5;generalize hw2:ws1++ifW (XO r.kind) (Lib.itoa r.stop)=ws2;have hl2:=Q0C hw2 hl1;refine Qa ?_;refine Jz [6] Q5 ?_;refine QbO ?_;refine Qn 2 rfl Q5 Xi (Qg (f:=124) rfl rfl Q1 rfl rfl (fun w hw=>Q0b w)) ?_;refine Qlt ?_;refine QX 6 Q5 rfl rfl Q6j Vx rfl Q1 (fun y3 _=>?_);refine Xn ?_ Q5;generalize hw3:ws2++ifW (XP r.kind) (Lib.itoa r.size)=ws3;have hl3:=Q0C hw3 hl2;repeat(first|refine Q4 zM ?_|refine Q4 zF ?_|refine Q4 (zB 2) ?_|refine Qc Q6j rfl Q1 (fun y4 _=>?_)|refine Q4 (Qg (f:=114) rfl rfl Q1 rfl rfl (fun w hw=>Q5L Q05 Q3 Q3)) ?_|refine Qd ?_|refine Qa ?_|refine Q6 ?_)
 generalize hw4:ws3++ifW (r.kind==2) (if r.big then Qdt else Yb)=ws4;have hl4:=Q0C hw4 hl3;repeat(first|refine Qc Q6j rfl Q1 (fun y5 _=>?_)|refine Qd ?_|refine Qa ?_)
 generalize hw5:ws4++ifW (r.kind==2) (Lib.itoa r.mn)=ws5;have hl5:=Q0C hw5 hl4;refine Jz [6] Q5 ?_;refine QbO ?_;refine Qn 2 rfl Q5 Xi Qsb ?_;refine Qlt ?_;refine QX 6 Q5 rfl rfl Q6j Vx rfl Q1 (fun y6 _=>?_);refine Xn ?_ Q5;generalize hw6:ws5++ifW (Z0 r.kind) (Lib.itoa r.mx)=ws6;have hl6:=Q0C hw6 hl5;refine Qa ?_;refine Jz [10] Q5 ?_;refine QbO ?_;refine Qn 2 rfl Q5 Xi Q30 ?_;refine Qta ?_;refine Qn 7 rfl Q5 Xi (Qz rfl rfl Q1 rfl rfl rfl hkc) ?_;refine Qn 8 rfl Q5 Xi zF ?_;refine Qn 9 rfl Q5 Xi zR ?_;refine QX 10 Q5 rfl rfl Q6j Vx rfl Q1 (fun y7 _=>?_);refine Xn ?_ Q5;generalize hw7:ws6++ifW (Qy r.kind) (rc.name)=ws7;have hl7:=Q0C hw7 hl6;refine Qa ?_;refine Jz [10] Q5 ?_;refine QbO ?_;refine Qn 2 rfl Q5 Xi (Qg (f:=127) rfl rfl Q1 rfl rfl (fun w hw=>Q35 w)) ?_;refine Qta ?_;refine Qn 7 rfl Q5 Xi (Qz rfl rfl Q1 rfl rfl rfl hke) ?_;refine Qn 8 rfl Q5 Xi zF ?_;refine Qn 9 rfl Q5 Xi zR ?_;refine QX 10 Q5 rfl rfl Q6j Vx rfl Q1 (fun y8 _=>?_);refine Xn ?_ Q5;generalize hw8:ws7++ifW (JV r.kind) (rm.name)=ws8;have hl8:=Q0C hw8 hl7;repeat(first|refine Q4 zM ?_|refine Q4 zF ?_|refine Q4 (zB 2) ?_|refine Qd ?_|refine Qa ?_|refine Q6 ?_|refine Qh ?_|refine Q4 zL ?_)
 have hh:ws8=Q3O F r:=by
  rw[<- hw8,<- hw7,<- hw6,<- hw5,<- hw4,<- hw3,<- hw2,<- hw1,<- hw0];unfold Q3O;rw[HNC.out,HNM.out]
 have HH:=Q2 hh;clear hw0 hw1 hw2 hw3 hw4 hw5 hw6 hw7 hw8 hl0 hl1 hl2 hl3 hl4 hl5 hl6 hl7 hh
 refine QH (ι:=Nat×Option Addr×Nat) (fun y=>y.1<=r.parts.length) (fun y=>r.parts.length - y.1) (fun y=>[Q4N,Q9r,Q6P,Qh5,(113,.slice Ap r.parts.length cp),(114,.int .i64 (r.parts.length:Int)),(115,.int .i64 (y.1:Int))]) (fun y=>[Qb.blk g (.cells [.slice y.2.1 (ws8++(List.range y.1).map (XH F r)).length y.2.2].toArray 27 (0,0)),Qb.row y.2.1 (ws8++(List.range y.1).map (XH F r)).length y.2.2 9 1 (sv (ws8++(List.range y.1).map (XH F r))),Qb.blk br Q9n,Qb.blk bf Q8y]) (0,y8.1,y8.2) [0,1,2,3] Q1 XY Q0I (by
  show _=[Qb.blk g (.cells [.slice y8.1 (ws8++(List.range 0).map (XH F r)).length y8.2].toArray 27 (0,0)),Qb.row y8.1 (ws8++(List.range 0).map (XH F r)).length y8.2 9 1 (sv (ws8++(List.range 0).map (XH F r))),Qb.blk br (.cells (ruC r (.slice Ab r.bs.length cb) (.slice An r.names.length cn) (.slice Ap r.parts.length cp)).toArray 65 (0,0)),Qb.blk bf (.cells [.slice (some ⟨b,o,none⟩) n c].toArray 24 (0,0))]
  rw[show (List.range 0).map (XH F r)=[] from rfl,List.append_nil]
  rfl) ?_
 rintro⟨i,A',c'⟩ hi;have hi':i<=r.parts.length:=hi;clear hi;show sE _ _ _ _ _ [Q4N,Q9r,Q6P,Qh5,(113,.slice Ap r.parts.length cp),(114,.int .i64 (r.parts.length:Int)),(115,.int .i64 (i:Int))] [Qb.blk g (.cells [.slice A' (ws8++(List.range i).map (XH F r)).length c'].toArray 27 (0,0)),Qb.row A' (ws8++(List.range i).map (XH F r)).length c' 9 1 (sv (ws8++(List.range i).map (XH F r))),Qb.blk br Q9n,Qb.blk bf Q8y] _;obtain⟨wp,hwp⟩:∃wp,wp=ws8++(List.range i).map (XH F r):=⟨_,rfl⟩;have hlp:wp.length<=100:=by rw[hwp,List.length_append,List.length_map,List.length_range];omega
 rw[<- hwp];have HWP:=Q2 hwp;clear hwp;by_cases hin:i<r.parts.length
 ·obtain⟨bp,op,hA,_,hpc⟩:=HL.out.p.2 Q3;subst hA;obtain⟨x,hx⟩:∃x,r.parts[i]? =some x:=⟨_,List.getElem?_eq_getElem hin⟩;have hcp:W.cell? ⟨bp,op+i,none⟩=some (.int .i64 x):=hpc i _ (by unfold iv;rw[List.getElem?_map,hx];rfl)
  have hxn:0<=x/\x<(n:Int):=by
   have h78:r.kind=7\/r.kind=8:=by
    refine Classical.byContradiction fun hno=>?_;have:=(QoU HLO.out.ok).parts Q3 Q3;rw[this] at hin;exact absurd hin Qm
   have:=HLO.out.ok.parts h78 x YS;rw[HLEN.out] at this;exact this
  obtain⟨rx,Ax,cx,Bx,dx,Cx,ex,hrx,hgx,_⟩:=HFM.out.rl (i:=x.toNat) Q3;have hnx:=Q2w hrx;have hnl:rx.name.length<=32:=by rw[<- hnx];exact YO (HLO.out.all x (by rw[HLEN.out];exact hxn))
  have hgp:r.parts.getD i 0=x:=by rw[List.getD_eq_getElem?_getD,hx];rfl
  have HX:=Q2 (show YQ F (r.parts.getD i 0)=rx.name by rw[hgp,hnx]);clear hx hrx hnx hgp hpc;have hstep:∀q,q=XH F r i->wp++[q]=ws8++(List.range (i+1)).map (XH F r):=fun q hq=>by rw[hq,HWP.out,List.range_succ,List.map_append,List.append_assoc];rfl
  have HST:=Q2 hstep;clear hstep;by_cases h7:r.kind=7
  ·have hk7:(r.kind==7)=true:=beq_iff_eq.2 h7;have hnp:=(HLO.out.ok.seven h7).1;obtain⟨bn,on,hAn,_,hnc⟩:=HL.out.n.2 Q3;subst hAn;obtain⟨l,hl'⟩:∃l,r.names[i]? =some l:=⟨_,List.getElem?_eq_getElem Q3⟩;have hcn:W.cell? ⟨bn,on+i,none⟩=some (.string ⟨l.toArray⟩):=hnc i _ (by unfold sv;rw[List.getElem?_map,hl'];rfl)
   have hinn:i<r.names.length:=by omega
   have hll:l.length<=32:=by
    rcases HLO.out.part h7 l (List.mem_of_getElem? hl') with rfl|h
    ·decide
    ·exact YO h
   have HGN:=Q2 (show r.names.getD i []=l by rw[List.getD_eq_getElem?_getD,hl'];rfl);clear hl' hnc hnp;by_cases he:l=[]
   ·subst he
    repeat(first|refine Q4 zM ?_|refine Q4 zA ?_|refine Q4 zF ?_|refine Q4 (zB 2) ?_|refine Q4 (zB 3) ?_|refine Q4 zC ?_|refine Q4 zR ?_|refine Q4 Qbt ?_|refine Q4 Qci ?_|(refine Q4 QdS ?_;rw[Q1T])|refine Qc Q6j rfl Q1 (fun yz _=>?_)|refine Qd ?_|refine Qa ?_|refine Q6 ?_|refine Qt ?_|refine Q9 rfl ?_|refine Qh ?_|refine Q4 zea ?_|refine Q4 Q4e ?_|refine Q4 zP ?_|refine Q4 Qry ?_)
    refine Qr (i+1,yz.1,yz.2) [0,1,2,3] Q1 hin (by show r.parts.length - (i+1)<r.parts.length - i;omega) (.cons rfl rfl (.cons rfl rfl (.cons rfl rfl (.cons rfl rfl (.cons rfl rfl (.cons rfl rfl (.cons rfl (by go_num) .nil))))))) ?_;have hq:=HST.out ([45]++[58]++rx.name) (by unfold XH;rw[hk7,HGN.out,HX.out];rfl);show [Qb.blk g (.cells [.slice yz.1 (wp++[[45]++[58]++rx.name]).length yz.2].toArray 27 (0,0)),Qb.row yz.1 (wp++[[45]++[58]++rx.name]).length yz.2 9 1 (sv (wp++[[45]++[58]++rx.name])),_,_]=[Qb.blk g (.cells [.slice yz.1 (ws8++(List.range (i+1)).map (XH F r)).length yz.2].toArray 27 (0,0)),Qb.row yz.1 (ws8++(List.range (i+1)).map (XH F r)).length yz.2 9 1 (sv (ws8++(List.range (i+1)).map (XH F r))),_,_];rw[hq];rfl
   ·have hle:((⟨l.toArray⟩:ByteArray).data.toList==(⟨#[]⟩:ByteArray).data.toList)=false:=beq_eq_false_iff_ne.2 (by simpa using he)
    repeat(first|refine Q4 zM ?_|refine Q4 zA ?_|refine Q4 zF ?_|refine Q4 (zB 2) ?_|refine Q4 (zB 3) ?_|refine Q4 zC ?_|refine Q4 zR ?_|refine Q4 Qbt ?_|refine Q4 Qci ?_|(refine Q4 QdS ?_;rw[Q1T])|refine Qc Q6j rfl Q1 (fun yz _=>?_)|refine Qd ?_|refine Qa ?_|refine Q6 ?_|refine Qt ?_|refine Q9 rfl ?_|refine Q7 rfl ?_|refine Qh ?_|refine Q4 zea ?_|refine Q4 Q4e ?_|refine Q4 zP ?_|refine Q4 zsa ?_)
    refine Qr (i+1,yz.1,yz.2) [0,1,2,3] Q1 hin (by show r.parts.length - (i+1)<r.parts.length - i;omega) (.cons rfl rfl (.cons rfl rfl (.cons rfl rfl mc2))) ?_;have hq:=HST.out (l++[58]++rx.name) (by unfold XH;rw[hk7,HGN.out,HX.out,beq_eq_false_iff_ne.2 he];rfl);show [Qb.blk g (.cells [.slice yz.1 (wp++[l++[58]++rx.name]).length yz.2].toArray 27 (0,0)),Qb.row yz.1 (wp++[l++[58]++rx.name]).length yz.2 9 1 (sv (wp++[l++[58]++rx.name])),_,_]=[Qb.blk g (.cells [.slice yz.1 (ws8++(List.range (i+1)).map (XH F r)).length yz.2].toArray 27 (0,0)),Qb.row yz.1 (ws8++(List.range (i+1)).map (XH F r)).length yz.2 9 1 (sv (ws8++(List.range (i+1)).map (XH F r))),_,_];rw[hq];rfl
  ·have hk7:(r.kind==7)=false:=beq_eq_false_iff_ne.2 h7
   repeat(first|refine Q4 zM ?_|refine Q4 zA ?_|refine Q4 zF ?_|refine Q4 (zB 2) ?_|refine Q4 (zB 3) ?_|refine Q4 zC ?_|refine Q4 zR ?_|refine Q4 Qbt ?_|refine Q4 Qci ?_|(refine Q4 QdS ?_;rw[Q1T])|refine Qc Q6j rfl Q1 (fun yz _=>?_)|refine Qd ?_|refine Qa ?_|refine Q6 ?_|refine Qt ?_|refine Q9 rfl ?_|refine Q7 rfl ?_|refine Qh ?_|refine Q4 zea ?_|refine Q4 Q4e ?_|refine Q4 zP ?_)
   refine Qr (i+1,yz.1,yz.2) [0,1,2,3] Q1 hin (by show r.parts.length - (i+1)<r.parts.length - i;omega) (.cons rfl rfl (.cons rfl rfl (.cons rfl rfl mc2))) ?_;have hq:=HST.out ([]++rx.name) (by unfold XH;rw[hk7,HX.out];rfl);show [Qb.blk g (.cells [.slice yz.1 (wp++[[]++rx.name]).length yz.2].toArray 27 (0,0)),Qb.row yz.1 (wp++[[]++rx.name]).length yz.2 9 1 (sv (wp++[[]++rx.name])),_,_]=[Qb.blk g (.cells [.slice yz.1 (ws8++(List.range (i+1)).map (XH F r)).length yz.2].toArray 27 (0,0)),Qb.row yz.1 (ws8++(List.range (i+1)).map (XH F r)).length yz.2 9 1 (sv (ws8++(List.range (i+1)).map (XH F r))),_,_];rw[hq];rfl
 have hlw:wp=VZ F r:=by
  rw[HWP.out,HH.out,show i=r.parts.length by omega];rfl
 have hjw:(Lib.join wp [32]).length<=1000000:=by rw[hlw];exact HJ.out
 have HLW:=Q2 hlw;clear hlw;repeat(first|refine Q4 zA ?_|refine Q4 (zB 0) ?_|refine Q4 (Qg (f:=128) rfl rfl Q1 rfl rfl (fun w hw=>Qc5 (row_rd Q0v Q1).1 (row_rd Q0v Q1).2 Q3 hjw)) ?_|(refine Q4 QdS ?_;rw[Q1T])|refine Qd ?_|refine Qa ?_|refine Q6 ?_|refine Q7 rfl ?_|refine XK ?_|refine QB ?_|refine Q4 zlf ?_)
 refine Q8 mc4 rfl (.tmp rfl) (fun w hw=>⟨?_,hw.k.below⟩);unfold Q3i;rw[HLW.out]
section
variable {A Ab An Ap:Option Addr}{W:World}{c cb cn cp m n:Nat}{early:List Rl}{r:Rl}
theorem QbX(he:QW W W.heap.size A m early)(hl:RuL W r Ab cb An cn Ap cp)(hs:RSm r)(hm:m<=1048576)(hn:n<=1048576)(hk1:(r.kind==1)=true)(hk7:(r.kind==7)=false)(hk8:(r.kind==8)=false):
  Calls Tryz.prog 115 #[.agg (ruC r (.slice Ab r.bs.length cb) (.slice An r.names.length cn) (.slice Ap r.parts.length cp)).toArray,.slice A m c,.int .i64 (n:Int)] W (Jg W (Xm r early n)):=by
 have HE:=Q2 he;have HL:=Q2 hl;have HS:=Q2 hs;have hnm:(⟨r.name.toArray⟩:ByteArray).size<=9223372036854775807:=by
  exact QhI
 obtain⟨C,hC⟩:∃C,Xm r early n=C:=⟨_,rfl⟩;have HC:=Q2 hC;rw[hC];clear hC he hl hs;go_enter Tryz.func115,Tryz.ntmps115;refine Qv (M:=[]) (W:=W) (N:=84) (E:=Qhl) (O:=[]) ?_ Zo QT;repeat(first|refine Q4 zA ?_|refine Q4 zF ?_|refine Q4 (zB 0) ?_|refine yB fun br=>?_|refine Q4 Qhp ?_|refine Qd ?_|refine Qa ?_|refine Q6 ?_|refine Qh ?_|refine Q4 zO ?_)
 refine X0 rfl (fun h1=>?_) (fun h1=>?_)
 ·skip
  refine mc7 ?_
  refine Q8 (.inr rfl) rfl (.tmp rfl) (fun w hw=>Qo ?_ hw);exact QgZ
 refine Qi0 ?_
 refine X0 rfl (fun h2=>?_) (fun h2=>?_)
 ·skip
  refine mc7 ?_
  refine Q8 (.inr rfl) rfl (.tmp rfl) (fun w hw=>Qo ?_ hw);exact Qgi
 refine Qgu ?_
 refine X0 rfl (fun h3=>?_) (fun h3=>?_)
 ·skip
  refine mc7 ?_
  refine Q8 (.inr rfl) rfl (.tmp rfl) (fun w hw=>Qo ?_ hw);exact Qgk
 refine QgL ?_
 refine X0 rfl (fun h4=>?_) (fun h4=>?_)
 ·skip
  refine mc7 ?_
  refine Q8 (.inr rfl) rfl (.tmp rfl) (fun w hw=>Qo ?_ hw);exact QgI
 refine QrW ?_
 refine X0 rfl (fun h5=>?_) (fun h5=>?_)
 ·skip
  refine mc7 ?_
  refine Q8 (.inr rfl) rfl (.tmp rfl) (fun w hw=>Qo ?_ hw);rw[<- HC.out];simp [Xm,hk1,hk7,hk8,h1,h2,h3,h4,h5]
 refine Qr9 ?_
 refine X0 rfl (fun h6=>?_) (fun h6=>?_)
 ·skip
  refine mc7 ?_
  refine Q8 (.inr rfl) rfl (.tmp rfl) (fun w hw=>Qo ?_ hw);rw[<- HC.out];simp [Xm,hk1,hk7,hk8,h1,h2,h3,h4,h5,h6]
 refine QrI ?_
 refine X0 rfl (fun h10=>?_) (fun h10=>?_)
 ·skip
  refine mc7 ?_
  refine Q8 (.inr rfl) rfl (.tmp rfl) (fun w hw=>Qo ?_ hw);rw[<- HC.out];simp [Xm,hk1,hk7,hk8,h1,h2,h3,h4,h5,h6,h10]
 refine QhT ?_
 refine X0 rfl (fun h11=>?_) (fun h11=>?_)
 ·skip
  refine mc7 ?_
  refine Q8 (.inr rfl) rfl (.tmp rfl) (fun w hw=>Qo ?_ hw);exact QjW
 refine QgK ?_
 refine Q8 (.inr rfl) rfl (.tmp rfl) (fun w hw=>Qo ?_ hw);exact QjW
theorem QcV(he:QW W W.heap.size A m early)(hl:RuL W r Ab cb An cn Ap cp)(hs:RSm r)(hm:m<=1048576)(hn:n<=1048576)(hk1:(r.kind==1)=false)(hk7:(r.kind==7)=true)(hk8:(r.kind==8)=false):
  Calls Tryz.prog 115 #[.agg (ruC r (.slice Ab r.bs.length cb) (.slice An r.names.length cn) (.slice Ap r.parts.length cp)).toArray,.slice A m c,.int .i64 (n:Int)] W (Jg W (Xm r early n)):=by
 have HE:=Q2 he;have HL:=Q2 hl;have HS:=Q2 hs;have hnm:(⟨r.name.toArray⟩:ByteArray).size<=9223372036854775807:=by
  exact QhI
 obtain⟨C,hC⟩:∃C,Xm r early n=C:=⟨_,rfl⟩;have HC:=Q2 hC;rw[hC];clear hC he hl hs;go_enter Tryz.func115,Tryz.ntmps115;refine Qv (M:=[]) (W:=W) (N:=84) (E:=Qhl) (O:=[]) ?_ Zo QT;repeat(first|refine Q4 zA ?_|refine Q4 zF ?_|refine Q4 (zB 0) ?_|refine yB fun br=>?_|refine Q4 Qhp ?_|refine Qd ?_|refine Qa ?_|refine Q6 ?_|refine Qh ?_|refine Q4 zO ?_)
 refine X0 rfl (fun h1=>?_) (fun h1=>?_)
 ·skip
  refine mc7 ?_
  refine Q8 (.inr rfl) rfl (.tmp rfl) (fun w hw=>Qo ?_ hw);exact QgZ
 refine Qi0 ?_
 refine X0 rfl (fun h2=>?_) (fun h2=>?_)
 ·skip
  refine mc7 ?_
  refine Q8 (.inr rfl) rfl (.tmp rfl) (fun w hw=>Qo ?_ hw);exact Qgi
 refine Qgu ?_
 refine X0 rfl (fun h3=>?_) (fun h3=>?_)
 ·skip
  refine mc7 ?_
  refine Q8 (.inr rfl) rfl (.tmp rfl) (fun w hw=>Qo ?_ hw);exact Qgk
 refine QgL ?_
 refine X0 rfl (fun h4=>?_) (fun h4=>?_)
 ·skip
  refine mc7 ?_
  refine Q8 (.inr rfl) rfl (.tmp rfl) (fun w hw=>Qo ?_ hw);exact QgI
 refine Qoc ?_
 refine X0 rfl (fun h6=>?_) (fun h6=>?_)
 ·skip
  refine mc7 ?_
  refine Q8 (.inr rfl) rfl (.tmp rfl) (fun w hw=>Qo ?_ hw);exact QmD
 repeat(first|refine Q4 zM ?_|refine Q4 zA ?_|refine Q4 zF ?_|refine Q4 (zB 0) ?_|refine Qd ?_|refine Qa ?_|refine Q6 ?_|refine Q4 zL ?_|refine Q4 zea ?_|refine Q4 znr ?_|refine Q4 zY ?_)
 refine X0 rfl (fun h7=>?_) (fun h7=>?_)
 ·skip
  refine mc7 ?_
  refine Q8 (.inr rfl) rfl (.tmp rfl) (fun w hw=>Qo ?_ hw);rw[<- HC.out];simp [Xm,hk1,hk7,hk8,h1,h2,h3,h4,h6,h7]
 refine QrW ?_
 refine X0 rfl (fun h8=>?_) (fun h8=>?_)
 ·rw[h8]
  repeat(first|refine Q4 zA ?_|refine Qd ?_|refine Qa ?_|refine Q6 ?_|refine Qt ?_|refine Q9 rfl ?_|refine QB ?_|refine Qk ?_|refine Qs ?_)
  refine Q8 (.inr rfl) rfl (.tmp rfl) (fun w hw=>Qo ?_ hw);rw[<- HC.out];simp [Xm,hk1,hk7,hk8,h1,h2,h3,h4,h6,h7,h8]
 refine QrI ?_
 refine X0 rfl (fun h10=>?_) (fun h10=>?_)
 ·skip
  refine mc7 ?_
  refine Q8 (.inr rfl) rfl (.tmp rfl) (fun w hw=>Qo ?_ hw);rw[<- HC.out];simp [Xm,hk1,hk7,hk8,h1,h2,h3,h4,h6,h7,h8,h10]
 refine QhT ?_
 refine X0 rfl (fun h11=>?_) (fun h11=>?_)
 ·skip
  refine mc7 ?_
  refine Q8 (.inr rfl) rfl (.tmp rfl) (fun w hw=>Qo ?_ hw);exact QoS
 refine QgK ?_
 refine Q8 (.inr rfl) rfl (.tmp rfl) (fun w hw=>Qo ?_ hw);exact QoS
theorem Qdo(he:QW W W.heap.size A m early)(hl:RuL W r Ab cb An cn Ap cp)(hs:RSm r)(hm:m<=1048576)(hn:n<=1048576)(hk1:(r.kind==1)=false)(hk7:(r.kind==7)=false)(hk8:(r.kind==8)=true):
  Calls Tryz.prog 115 #[.agg (ruC r (.slice Ab r.bs.length cb) (.slice An r.names.length cn) (.slice Ap r.parts.length cp)).toArray,.slice A m c,.int .i64 (n:Int)] W (Jg W (Xm r early n)):=by
 have HE:=Q2 he;have HL:=Q2 hl;have HS:=Q2 hs;have hnm:(⟨r.name.toArray⟩:ByteArray).size<=9223372036854775807:=by
  exact QhI
 obtain⟨C,hC⟩:∃C,Xm r early n=C:=⟨_,rfl⟩;have HC:=Q2 hC;rw[hC];clear hC he hl hs;go_enter Tryz.func115,Tryz.ntmps115;refine Qv (M:=[]) (W:=W) (N:=84) (E:=Qhl) (O:=[]) ?_ Zo QT;repeat(first|refine Q4 zA ?_|refine Q4 zF ?_|refine Q4 (zB 0) ?_|refine yB fun br=>?_|refine Q4 Qhp ?_|refine Qd ?_|refine Qa ?_|refine Q6 ?_|refine Qh ?_|refine Q4 zO ?_)
 refine X0 rfl (fun h1=>?_) (fun h1=>?_)
 ·skip
  refine mc7 ?_
  refine Q8 (.inr rfl) rfl (.tmp rfl) (fun w hw=>Qo ?_ hw);exact QgZ
 refine Qi0 ?_
 refine X0 rfl (fun h2=>?_) (fun h2=>?_)
 ·skip
  refine mc7 ?_
  refine Q8 (.inr rfl) rfl (.tmp rfl) (fun w hw=>Qo ?_ hw);exact Qgi
 refine Qgu ?_
 refine X0 rfl (fun h3=>?_) (fun h3=>?_)
 ·skip
  refine mc7 ?_
  refine Q8 (.inr rfl) rfl (.tmp rfl) (fun w hw=>Qo ?_ hw);exact Qgk
 refine QgL ?_
 refine X0 rfl (fun h4=>?_) (fun h4=>?_)
 ·skip
  refine mc7 ?_
  refine Q8 (.inr rfl) rfl (.tmp rfl) (fun w hw=>Qo ?_ hw);exact QgI
 refine Qoc ?_
 refine X0 rfl (fun h6=>?_) (fun h6=>?_)
 ·skip
  refine mc7 ?_
  refine Q8 (.inr rfl) rfl (.tmp rfl) (fun w hw=>Qo ?_ hw);exact QmD
 repeat(first|refine Q4 zM ?_|refine Q4 zA ?_|refine Q4 zF ?_|refine Q4 (zB 0) ?_|refine Qd ?_|refine Qa ?_|refine Q6 ?_|refine Q7 rfl ?_|refine Q4 zL ?_|refine Q4 Q2P ?_|refine Q4 (KR rfl rfl Q1 rfl rfl rfl (by first|assumption|rfl)) ?_|refine Q4 zY ?_|refine Q4 zN ?_|refine Q4 zS ?_)
 refine X0 rfl (fun h9=>?_) (fun h9=>?_)
 ·rw[h9]
  refine mc7 ?_
  refine Q8 (.inr rfl) rfl (.tmp rfl) (fun w hw=>Qo ?_ hw);rw[<- HC.out];simp [Xm,hk1,hk7,hk8,h1,h2,h3,h4,h6,h9]
 refine Qr9 ?_
 refine X0 rfl (fun h10=>?_) (fun h10=>?_)
 ·skip
  refine mc7 ?_
  refine Q8 (.inr rfl) rfl (.tmp rfl) (fun w hw=>Qo ?_ hw);rw[<- HC.out];simp [Xm,hk1,hk7,hk8,h1,h2,h3,h4,h6,h9,h10]
 refine QhT ?_
 refine X0 rfl (fun h11=>?_) (fun h11=>?_)
 ·skip
  refine mc7 ?_
  refine Q8 (.inr rfl) rfl (.tmp rfl) (fun w hw=>Qo ?_ hw);exact QjG
 refine QgK ?_
 refine Q8 (.inr rfl) rfl (.tmp rfl) (fun w hw=>Qo ?_ hw);exact QjG
theorem Qc6(he:QW W W.heap.size A m early)(hl:RuL W r Ab cb An cn Ap cp)(hs:RSm r)(hm:m<=1048576)(hn:n<=1048576)(hk1:(r.kind==1)=false)(hk7:(r.kind==7)=false)(hk8:(r.kind==8)=false):
  Calls Tryz.prog 115 #[.agg (ruC r (.slice Ab r.bs.length cb) (.slice An r.names.length cn) (.slice Ap r.parts.length cp)).toArray,.slice A m c,.int .i64 (n:Int)] W (Jg W (Xm r early n)):=by
 have HE:=Q2 he;have HL:=Q2 hl;have HS:=Q2 hs;have hnm:(⟨r.name.toArray⟩:ByteArray).size<=9223372036854775807:=by
  exact QhI
 obtain⟨C,hC⟩:∃C,Xm r early n=C:=⟨_,rfl⟩;have HC:=Q2 hC;rw[hC];clear hC he hl hs;go_enter Tryz.func115,Tryz.ntmps115;refine Qv (M:=[]) (W:=W) (N:=84) (E:=Qhl) (O:=[]) ?_ Zo QT;repeat(first|refine Q4 zA ?_|refine Q4 zF ?_|refine Q4 (zB 0) ?_|refine yB fun br=>?_|refine Q4 Qhp ?_|refine Qd ?_|refine Qa ?_|refine Q6 ?_|refine Qh ?_|refine Q4 zO ?_)
 refine X0 rfl (fun h1=>?_) (fun h1=>?_)
 ·skip
  refine mc7 ?_
  refine Q8 (.inr rfl) rfl (.tmp rfl) (fun w hw=>Qo ?_ hw);exact QgZ
 refine Qi0 ?_
 refine X0 rfl (fun h2=>?_) (fun h2=>?_)
 ·skip
  refine mc7 ?_
  refine Q8 (.inr rfl) rfl (.tmp rfl) (fun w hw=>Qo ?_ hw);exact Qgi
 refine Qgu ?_
 refine X0 rfl (fun h3=>?_) (fun h3=>?_)
 ·skip
  refine mc7 ?_
  refine Q8 (.inr rfl) rfl (.tmp rfl) (fun w hw=>Qo ?_ hw);exact Qgk
 refine QgL ?_
 refine X0 rfl (fun h4=>?_) (fun h4=>?_)
 ·skip
  refine mc7 ?_
  refine Q8 (.inr rfl) rfl (.tmp rfl) (fun w hw=>Qo ?_ hw);exact QgI
 refine Qoc ?_
 refine X0 rfl (fun h6=>?_) (fun h6=>?_)
 ·skip
  refine mc7 ?_
  refine Q8 (.inr rfl) rfl (.tmp rfl) (fun w hw=>Qo ?_ hw);exact QmD
 repeat(first|refine Q4 zM ?_|refine Q4 zA ?_|refine Q4 zF ?_|refine Q4 (zB 0) ?_|refine Qd ?_|refine Qa ?_|refine Q6 ?_|refine Q7 rfl ?_|refine Q4 zL ?_|refine Q4 Q2P ?_|refine Q4 (YM rfl rfl Q1 rfl rfl rfl (by first|assumption|rfl)) ?_|refine Q4 zN ?_|refine Q4 zS ?_)
 refine X0 rfl (fun h10=>?_) (fun h10=>?_)
 ·skip
  refine mc7 ?_
  refine Q8 (.inr rfl) rfl (.tmp rfl) (fun w hw=>Qo ?_ hw);rw[<- HC.out];simp [Xm,hk1,hk7,hk8,h1,h2,h3,h4,h6,h10]
 refine QhT ?_
 refine X0 rfl (fun h11=>?_) (fun h11=>?_)
 ·skip
  refine mc7 ?_
  refine Q8 (.inr rfl) rfl (.tmp rfl) (fun w hw=>Qo ?_ hw);exact QjA
 refine QgK ?_
 refine Q8 (.inr rfl) rfl (.tmp rfl) (fun w hw=>Qo ?_ hw);exact QjA
theorem Q5k(he:QW W W.heap.size A m early)(hl:RuL W r Ab cb An cn Ap cp)(hs:RSm r)(hm:m<=1048576)(hn:n<=1048576):
  Calls Tryz.prog 115 #[.agg (ruC r (.slice Ab r.bs.length cb) (.slice An r.names.length cn) (.slice Ap r.parts.length cp)).toArray,.slice A m c,.int .i64 (n:Int)] W (Jg W (Xm r early n)):=by
 by_cases h1:r.kind=1
 ·exact QbX he hl hs hm hn (beq_iff_eq.2 h1) Q8M Q8M
 ·by_cases h7:r.kind=7
  ·exact QcV he hl hs hm hn Q8M (beq_iff_eq.2 h7) Q8M
  ·by_cases h8:r.kind=8
   ·exact Qdo he hl hs hm hn Q8M Q8M (beq_iff_eq.2 h8)
   ·exact Qc6 he hl hs hm hn (beq_eq_false_iff_ne.2 h1) (beq_eq_false_iff_ne.2 h7) (beq_eq_false_iff_ne.2 h8)
end
section
variable {F p:VF}{d:Nd}{i:Nat}{ns:List (List UInt8)}{rc:Bool}
def Q0l(d:Nd)(np:Nat)(body:List UInt8):List UInt8:=num d.k++(if d.k=1 then num d.n else if d.k=2 then ZE d.bs else num (np:Int)++body)
def XI:VF->Bool->List (List UInt8)->List UInt8
 |.nil,_,_=>[]
 |.cons d p r,rc,ns=>(if rc then ZE (ns.headD []) else [])++(Q0l d p.len (XI p (d.k==4) d.ns)++XI r rc ns.tail)
def XM(d:Nd)(p:VF):List UInt8:=Q0l d p.len (XI p (d.k==4) d.ns)
theorem Qfi(F:VF):∀(rc:Bool) (ns:List (List UInt8)) (i:Nat),XI F rc ns=XI (F.take i) rc ns++XI (F.drop i) rc (ns.drop i):=by
 induction F with
 |nil=>intro rc ns i;cases i<;>rfl
 |cons d p r _ ih=>
  intro rc ns i;cases i with
  |zero=>rw[VF.take_zero,VF.drop_zero,List.drop_zero];rfl
  |succ i=>
   show _=XI (.cons d p (r.take i)) rc ns++XI (r.drop i) rc (ns.drop (i+1));simp only[XI];rw[ih rc ns.tail i,List.drop_tail];simp only[List.append_assoc]
theorem Q4d(F:VF):∀(rc:Bool) (ns:List (List UInt8)) (i:Nat) (d:Nd) (p r:VF),F.drop i=.cons d p r->
  XI (F.take (i+1)) rc ns=XI (F.take i) rc ns++((if rc then ZE ((ns.drop i).headD []) else [])++XM d p):=by
 induction F with
 |nil=>intro rc ns i d p r h;cases i<;>simp [VF.drop] at h
 |cons d' p' r' _ ih=>
  intro rc ns i d p r h;cases i with
  |zero=>
   rw[VF.drop_zero] at h;injection h with h1 h2 h3;subst h1 h2 h3;show XI (.cons d' p' (r'.take 0)) rc ns=_;rw[VF.take_zero,VF.take_zero];simp [XI,XM]
  |succ i=>
   show XI (.cons d' p' (r'.take (i+1))) rc ns=XI (.cons d' p' (r'.take i)) rc ns++_;simp only[XI];rw[ih rc ns.tail i d p r h,List.drop_tail];simp only[List.append_assoc]
theorem Q0N:(XI (F.take i) rc ns).length<=(XI F rc ns).length:=by
 rw[Qfi F rc ns i,List.length_append];omega
theorem Q23(h1:¬d.k=1)(h2:¬d.k=2):XM d p=num d.k++(num (p.len:Int)++XI p (d.k==4) d.ns):=by
 unfold XM Q0l;rw[if_neg h1,if_neg h2]
theorem QcB(h1:d.k=1):XM d p=num d.k++num d.n:=by unfold XM Q0l;rw[if_pos h1]
theorem Q5O(h2:d.k=2):XM d p=num d.k++ZE d.bs:=by unfold XM Q0l;rw[if_neg Q3,if_pos h2]
theorem Q8g{r:VF}(h:F.drop i=.cons d p r):(XM d p).length<=(XI F rc ns).length:=by
 have h1:=Q4d F rc ns i d p r h;have h2:=Q0N (F:=F) (rc:=rc) (ns:=ns) (i:=i+1);rw[h1] at h2;simp only[List.length_append] at h2;omega
def Yh:VF->Prop
 |.nil=>True
 |.cons d p r=>QP d p.len=0/\Yh p/\Yh r
theorem Yh.drop:∀(F:VF) (i:Nat),Yh F->Yh (F.drop i):=by
 intro F;induction F with
 |nil=>intro i _;cases i<;>trivial
 |cons d p r _ ih=>
  intro i h;cases i with
  |zero=>exact h
  |succ i=>exact ih i h.2.2
theorem Q3E(F:VF):∀(num lev m:Nat),Xd F num lev=.inr m->Yh F:=by
 induction F with
 |nil=>intro _ _ _ _;trivial
 |cons d p r ih1 ih2=>
  intro num lev m h;by_cases h1:600<=num\/10<lev
  ·rw[Zw h1] at h;cases h
  ·by_cases h2:QP d p.len≠0
   ·rw[XS h1 h2] at h;cases h
   ·cases hp:Xd p (num+1) (lev+1) with
    |inl f=>rw[Zl h1 h2 hp] at h;cases h
    |inr k=>
     rw[ZH h1 h2 hp] at h;exact⟨by simpa using h2,ih1 _ _ _ hp,ih2 _ _ _ h⟩
theorem Y0{np:Nat}(h:QP d np=0):(1<=d.k/\d.k<=4)/\(d.k=1\/d.n=0)/\(d.k=2\/d.bs=[])/\(d.k=4\/d.ns=[])/\(3<=d.k\/np=0)/\(d.k=4->d.ns.length=np)/\np<=600/\d.ns.all Qw=true/\d.ns.Nodup:=by
 by_cases hk:d.k<1\/4<d.k
 ·rw[Q26 hk] at h;cases h
 ·by_cases hf:(d.k≠1/\d.n≠0)\/(d.k≠2/\0<d.bs.length)\/(d.k≠4/\0<d.ns.length)\/(d.k<3/\0<np)\/(d.k=4/\d.ns.length≠np)
  ·rw[Q24 hk hf] at h;cases h
  ·rw[Q7s hk hf] at h
   have h6:¬600<np:=fun h'=>by rw[Q5x h'] at h;cases h
   have h7:d.ns.all Qw=true:=by
    cases e:d.ns.all Qw with
    |true=>rfl
    |false=>rw[Qeq h6 e] at h;cases h
   have h8:d.ns.Nodup:=by
    by_cases e:d.ns.Nodup
    ·exact e
    ·rw[Qf6 h6 h7 e] at h;cases h
   have z:∀{α:Type} (l:List α),¬0<l.length->l=[]:=fun l hl=>List.eq_nil_of_length_eq_zero Q3;refine⟨by omega,by omega,?_,?_,by omega,by omega,by omega,h7,h8⟩
   ·by_cases e:d.k=2
    ·exact .inl e
    ·exact .inr (z _ Q3)
   ·by_cases e:d.k=4
    ·exact .inl e
    ·exact .inr (z _ Q3)
def Qb7(w:World)(s:ByteArray):Nat:=grownCap w s.size 0 5
def Kk(w:World)(s:ByteArray):World:=w.drew.alloc (.cells (bytesRow s (Qb7 w s)) 5 ((bytesRow s (Qb7 w s)).size,(bytesRow s (Qb7 w s)).size+1))
theorem Qil(s:ByteArray)(w:World):(convert 9 25 (.string s)).run Tryz.prog w=.ok (.slice (some ⟨w.heap.size,0,none⟩) s.size (Qb7 w s)) (Kk w s):=
 run_bytes_of_string w 9 25 5 s Tryz.underlying9 Tryz.underlying25 Tryz.underlying5
theorem QaB(w:World)(s:ByteArray):Below w.heap.size w (Kk w s):=((Below.refl _ _).drew).alloc Xo _
theorem QbZ(w:World)(s:ByteArray):(Kk w s).heap.size=w.heap.size+1:=by simp [Kk]
theorem QmP(w:World)(s:ByteArray):Rd (Kk w s) (Kk w s).heap.size 1 (some ⟨w.heap.size,0,none⟩) s.size (bv s.data.toList):=by
 refine⟨by simp [bv],fun _=>⟨_,_,rfl,by rw[QbZ];omega,fun j u hu=>?_⟩⟩;have hj:j<s.size:=by
  have:=(List.getElem?_eq_some_iff.1 hu).1;simpa [bv] using this
 unfold Kk;rw[Nat.zero_add];have e:=cell_of_row (w.drew.alloc (.cells (bytesRow s (Qb7 w s)) 5 ((bytesRow s (Qb7 w s)).size,(bytesRow s (Qb7 w s)).size+1))) w.heap.size j (bytesRow s (Qb7 w s)) 5 _ (heap_alloc_new w.drew _);rw[e];have:(bytesRow s (Qb7 w s))[j]? =some (.int .u8 (s[j].toNat:Int)):=by
  unfold bytesRow;rw[Array.getElem?_append_left (by simpa using hj)];rw[Array.getElem?_map,Array.getElem?_eq_getElem (by simpa using hj)];rfl
 rw[this,<- hu];simp only[bv,List.getElem?_map,Q19 hj,Option.map_some]
theorem QiU(w:World)(s:ByteArray)(g:Nat)(hg:g=w.heap.size):Rd (Kk w s) (Kk w s).heap.size 1 (some ⟨g,0,none⟩) s.size (bv s.data.toList):=by subst hg;exact QmP w s
end
end Go.Proofs.YtphkhfdmlcnoeaaGreatDoor
