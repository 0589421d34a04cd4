import Derived.Test.YtphkhfdmlcnoeaaGreatDoorP14
namespace Go.Proofs.YtphkhfdmlcnoeaaGreatDoor
set_option linter.unusedVariables false
set_option linter.unusedSimpArgs false
set_option maxRecDepth 1000000
set_option maxHeartbeats 32000000
open Go.RowKit
def eqF:VF->VF->Bool
 |.nil,.nil=>true
 |.cons d p r,.cons d' p' r'=>(d.k==d'.k&&d.n==d'.n&&d.bs==d'.bs&&d.ns==d'.ns&&p.len==p'.len&&eqF p p')&&eqF r r'
 |_,_=>false
def eqV(d:Nd)(p:VF)(d':Nd)(p':VF):Bool:=d.k==d'.k&&d.n==d'.n&&d.bs==d'.bs&&d.ns==d'.ns&&p.len==p'.len&&eqF p p'
theorem Q6p(d:Nd)(p r:VF)(d':Nd)(p' r':VF):eqF (.cons d p r) (.cons d' p' r')=(eqV d p d' p'&&eqF r r'):=rfl
theorem Qp6:∀(F G:VF),eqF F G=true↔F=G:=by
 intro F;induction F with
 |nil=>intro G;cases G with
  |nil=>simp [eqF]
  |cons=>simp [eqF]
 |cons d p r ih1 ih2=>intro G;cases G with
  |nil=>simp [eqF]
  |cons d' p' r'=>
   rw[Q6p,eqV];simp only[Bool.and_eq_true,beq_iff_eq,ih1,ih2,VF.cons.injEq];constructor
   ·rintro⟨⟨⟨⟨⟨⟨h1,h2⟩,h3⟩,h4⟩,h5⟩,h6⟩,h7⟩
    obtain⟨a,b,c,e⟩:=d;obtain⟨a',b',c',e'⟩:=d';simp only at h1 h2 h3 h4;subst h1 h2 h3 h4;exact⟨rfl,h6,h7⟩
   ·rintro⟨rfl,rfl,rfl⟩
    exact⟨⟨⟨⟨⟨⟨rfl,rfl⟩,rfl⟩,rfl⟩,rfl⟩,rfl⟩,rfl⟩
theorem Qpv(d:Nd)(p:VF)(d':Nd)(p':VF):eqV d p d' p'=true↔d=d'/\p=p':=by
 have h:=Qp6 (.cons d p .nil) (.cons d' p' .nil);rw[Q6p,show eqF .nil .nil=true from rfl,Bool.and_true] at h;rw[h];simp
theorem K9{W:World}{A A2:Option Addr}{n c m c2:Nat}{xs uy:List (List UInt8)}(h1:Rd W W.heap.size 1 A n (sv xs))(h2:Rd W W.heap.size 1 A2 m (sv uy))(hn:n<=1048576):Calls Tryz.prog 42 #[.slice A n c,.slice A2 m c2] W (FiE W (xs==uy)):=by
 have H1:=Q2 h1;have H2:=Q2 h2;have hl1:xs.length=n:=by have:=h1.len;unfold sv at this;simpa using this
 have hl2:uy.length=m:=by have:=h2.len;unfold sv at this;simpa using this
 clear h1 h2;go_enter Tryz.func42,Tryz.ntmps42;refine Qz (M:=[]) (W:=W) (N:=26) (E:=[(0,.slice A n c),(1,.slice A2 m c2)]) (O:=[]) ?_ mc3 (Wd.start [] W);by_cases hnm:n=m
 case neg=>
  have hne:(xs==uy)=false:=by
   rw[beq_eq_false_iff_ne];intro e;rw[e] at hl1;omega
  refine yq<|yr<|yo zA<|yl<|yn<|yq<|yq<|yr<|yo zM<|yo zL<|yo zM<|yo zL<|yo znt<|yl<|yn<|y1<|yq<|yr<|yo zA<|yl<|yn<|yt<|yc ?_;exact Q7 mc4 rfl (.tmp rfl) (fun w hw=>⟨by rw[hne],hw.k.below⟩)
 subst hnm;refine yq<|yr<|yo zA<|yl<|yn<|yq<|yq<|yr<|yo zM<|yo zL<|yo zM<|yo zL<|yo znf<|yl<|yn<|y0<|ys<|yn<|yq<|yq<|yr<|yo zA<|yl<|yn<|yb ?_;refine Xu (ι:=Nat) (fun k=>k<=n/\xs.take k=uy.take k) (fun k=>n - k) (fun k=>[(0,.slice A n c),(1,.slice A2 n c2),(5,.int .i64 (k:Int))]) (fun _=>[]) 0 QfH Jf Zc ?_;rintro k ⟨hk,hall⟩;have HA:=Q2 hall;clear hall;by_cases hkn:k<n
 ·obtain⟨b,o,s,rfl,hb,hs,hc⟩:=Vb H1.out hkn;obtain⟨b2,o2,s2,rfl,hb2,hs2,hc2⟩:=Vb H2.out hkn
  by_cases hss:s.data.toList=s2.data.toList
  ·have he:(s.data.toList != s2.data.toList)=false:=bne_eq_false_iff_eq.2 hss;refine QrX ?_;refine Qe zM ?_;refine QhK ?_;refine Qg7 ?_;refine Qx (k+1) ⟨hkn,?_⟩ Q3 Q5u Zc;rw[List.take_add_one,List.take_add_one,HA.out,hs,hs2,hss]
  ·have he:(s.data.toList != s2.data.toList)=true:=bne_iff_ne.2 hss
   have hne:(xs==uy)=false:=by
    exact Qnc
   refine QrX ?_;refine Qe zM ?_;refine QhK ?_;refine Qju ?_;exact Q7 mc4 rfl (.tmp rfl) (fun w hw=>⟨by rw[hne],hw.k.below⟩)
 ·refine yq<|yq<|yr<|yo zM<|yo zM<|yo zL<|yo zlf<|yl<|yn<|y0<|ye<|yn<|yq<|yr<|yo zA<|yl<|yn<|yt ?_;refine Q7 mc4 rfl (.tmp rfl) (fun w hw=>⟨?_,hw.k.below⟩);have h3:xs.take k=xs:=List.take_of_length_le Q3;have h4:uy.take k=uy:=List.take_of_length_le Q3;have:=HA.out;rw[h3,h4] at this;rw[this,beq_self_eq_true]
def SaC(d:Nd)(p:VF):Prop:=∀(d':Nd) (p':VF) (W:World) (v v':Value),d.ns.length<=1048576->p.len<=1048576->XD p->VIn W W.heap.size v d p->VIn W W.heap.size v' d' p'->Calls Tryz.prog 13 #[v,v'] W (FiE W (eqV d p d' p'))
structure Sw where
 i:Nat
 l:VF
 l':VF
theorem VW.range2{w:World}{b o:Nat}{d:Nd}{sb sn sp:Value}(h:VW w b o d sb sn sp):w.rangeAt b o [.int .i64 d.k,.int .i64 d.n,sb,sn,sp]:=fun j u hu=>by
 obtain⟨h0,h1,h2,h3,h4⟩:=h;match j,hu with
 |0,hu=>cases hu;exact h0
 |1,hu=>cases hu;exact h1
 |2,hu=>cases hu;exact h2
 |3,hu=>cases hu;exact h3
 |4,hu=>cases hu;exact h4
theorem QeT(d:Nd)(p:VF)(hall:VF.All SaC p):SaC d p:=by
 intro d' p' W v v' hns hp6 hfp hv hv';have HALL:=Q2 hall;have HFP:=Q2 hfp;obtain⟨RES,hres⟩:∃x,eqV d p d' p'=x:=⟨_,rfl⟩;have HR:=Q2 hres;rw[hres];obtain⟨sb,sn,sp,rfl,Ab,nb,cb,An,nn,cn,Ap,cp,rfl,rfl,rfl,hnb,hnn,hpl,hcm,hrb,hrn,hch⟩:=hv;obtain⟨sb',sn',sp',rfl,Ab',nb',cb',An',nn',cn',Ap',cp',rfl,rfl,rfl,hnb',hnn',hpl',hcm',hrb',hrn',hch'⟩:=hv';have hnnl:d.ns.length=nn:=by have:=hrn.len;rw[Xw] at this;exact this
 have HRB:=Q2 hrb;have HRN:=Q2 hrn;have HCH:=Q2 hch;have HRB':=Q2 hrb';have HRN':=Q2 hrn';have HCH':=Q2 hch';have hn6:nn<=1048576:=by omega
 obtain⟨dk,dn,dbs,dns⟩:=d;obtain⟨dk',dn',dbs',dns'⟩:=d';clear hrb hrn hch hrb' hrn' hch' hall hfp hns hnnl hres;go_enter Tryz.func13,Tryz.ntmps13;refine Qz (M:=[]) (W:=W) (N:=62) (E:=[(0,.agg #[.int .i64 dk,.int .i64 dn,.slice Ab nb cb,.slice An nn cn,.slice Ap p.len cp]),(1,.agg #[.int .i64 dk',.int .i64 dn',.slice Ab' nb' cb',.slice An' nn' cn',.slice Ap' p'.len cp'])]) (O:=[]) ?_ mc3 QR;refine yq<|yr ?_;refine yB fun b2=>?_;refine yB fun b3=>?_;refine yo zA<|yl ?_;by_cases hk:dk=dk'
 case neg=>
  have HZ:=Q2 (show RES=false by rw[<- HR.out];unfold eqV;simp only;rw[beq_eq_false_iff_ne.2 hk];rfl);refine yn<|yq<|yq<|yr<|yo zF<|yo (zB 1)<|yo zF<|yo (zB 0)<|yo znt<|yo zM<|yo zS<|yo zS<|yo zS<|yo zS<|yo zS<|yo zY<|yo zM<|yo zS<|yo zS<|yo zS<|yo zS<|yo zS<|yo zS<|yo zY<|yo zM<|yo zS<|yo zS<|yo zS<|yo zS<|yo zS<|yo zS<|yo zY<|yo zM<|yo zS<|yo zS<|yo zS<|yo zS<|yo zS<|yo zS<|yo zS<|yo zY<|yl<|yn<|y1<|yq<|yr<|yo zA<|yl<|yn<|yt<|yc ?_;exact Qal
 by_cases hn:dn=dn'
 case neg=>
  have HZ:=Q2 (show RES=false by rw[<- HR.out];unfold eqV;simp only;rw[beq_eq_false_iff_ne.2 hn];simp);refine yn<|yq<|yq<|yr<|yo zF<|yo (zB 1)<|yo zF<|yo (zB 0)<|yo znf<|yo zM<|yo zF<|yo (zB 1)<|yo zF<|yo (zB 0)<|yo znt<|yo zN<|yo zM<|yo zS<|yo zS<|yo zS<|yo zS<|yo zS<|yo zS<|yo zY<|yo zM<|yo zS<|yo zS<|yo zS<|yo zS<|yo zS<|yo zS<|yo zY<|yo zM<|yo zS<|yo zS<|yo zS<|yo zS<|yo zS<|yo zS<|yo zS<|yo zY<|yl<|yn<|y1<|yq<|yr<|yo zA<|yl<|yn<|yt<|yc ?_;exact Qal
 have hby:∀w,Wd [] W [.blk b3 (.cells ([.int .i64 dk',.int .i64 dn',.slice Ab' nb' cb',.slice An' nn' cn',.slice Ap' p'.len cp']:List Value).toArray 30 (0,0)),.blk b2 (.cells ([.int .i64 dk,.int .i64 dn,.slice Ab nb cb,.slice An nn cn,.slice Ap p.len cp]:List Value).toArray 30 (0,0))] w->Calls Tryz.prog 18 #[.slice Ab nb cb,.slice Ab' nb' cb'] w (FiE w (dbs==dbs')):=fun w hw=>(Calls.stay (Q0J (HRB.out.up hw.k.below) (HRB'.out.up hw.k.below))).mono fun e w' h=>h;have hst:∀w,Wd [] W [.blk b3 (.cells ([.int .i64 dk',.int .i64 dn',.slice Ab' nb' cb',.slice An' nn' cn',.slice Ap' p'.len cp']:List Value).toArray 30 (0,0)),.blk b2 (.cells ([.int .i64 dk,.int .i64 dn,.slice Ab nb cb,.slice An nn cn,.slice Ap p.len cp]:List Value).toArray 30 (0,0))] w->Calls Tryz.prog 42 #[.slice An nn cn,.slice An' nn' cn'] w (FiE w (dns==dns')):=fun w hw=>K9 (HRN.out.up hw.k.below) (HRN'.out.up hw.k.below) hn6;obtain⟨qb,hqb⟩:∃q,(dbs==dbs')=q:=⟨_,rfl⟩;obtain⟨qn,hqn⟩:∃q,(dns==dns')=q:=⟨_,rfl⟩;have HRE:=Q2 (show RES=(qb&&qn&&p.len==p'.len&&eqF p p') by rw[<- HR.out];unfold eqV;simp only;rw[hqb,hqn,hk,hn,beq_self_eq_true,beq_self_eq_true];rfl);rw[hqb] at hby;rw[hqn] at hst;cases qb with
 |false=>
  have HZ:=Q2 (show RES=false by rw[HRE.out];rfl);refine yn<|yq<|yq<|yr<|yo zF<|yo (zB 1)<|yo zF<|yo (zB 0)<|yo znf<|yo zM<|yo zF<|yo (zB 1)<|yo zF<|yo (zB 0)<|yo znf<|yo zN<|yo zM<|yo zF<|yo (zB 1)<|yo zF<|yo (zB 0) ?_;refine Q4 (Ql rfl rfl Q1 rfl rfl (fun w hw=>hby w hw)) ?_;refine yo zO<|yo zN<|yo zM<|yo zS<|yo zS<|yo zS<|yo zS<|yo zS<|yo zS<|yo zY<|yo zM<|yo zS<|yo zS<|yo zS<|yo zS<|yo zS<|yo zS<|yo zS<|yo zY<|yl<|yn<|y1<|yq<|yr<|yo zA<|yl<|yn<|yt<|yc ?_;exact Qal
 |true=>
 cases qn with
 |false=>
  have HZ:=Q2 (show RES=false by rw[HRE.out];rfl);refine Qkh ?_;refine yo zO<|yo zN<|yo zM<|yo zS<|yo zS<|yo zS<|yo zS<|yo zS<|yo zS<|yo zS<|yo zY<|yl<|yn<|y1<|yq<|yr<|yo zA<|yl<|yn<|yt<|yc ?_;exact Qal
 |true=>
 by_cases hlen:p.len=p'.len
 case neg=>
  have HZ:=Q2 (show RES=false by rw[HRE.out,beq_eq_false_iff_ne.2 hlen];rfl);refine Qkh ?_;refine yo zO<|yo zN<|yo zM<|yo zF<|yo (zB 1)<|yo zL<|yo zF<|yo (zB 0)<|yo zL<|yo znt<|yo zN<|yl<|yn<|y1<|yq<|yr<|yo zA<|yl<|yn<|yt<|yc ?_;exact Qal
 have HS:=Q2 (show RES=eqF p p' by rw[HRE.out,hlen,beq_self_eq_true];rfl);refine Qkh ?_;refine yo zO<|yo zN<|yo zM<|yo zF<|yo (zB 1)<|yo zL<|yo zF<|yo (zB 0)<|yo zL<|yo znf<|yo zN<|yl<|yn<|y0<|ys<|yn<|yq<|yq<|yr<|yo zA<|yl<|yn<|yb ?_;obtain⟨L,hL⟩:∃L,p.len=L:=⟨_,rfl⟩;have hL':p'.len=L:=hlen.symm.trans hL;clear hby hst hlen hqb hqn;rw[hL] at hp6 hpl;have HLL:=Q2 (And.intro hL hL');simp only[hL,hL'];refine Xu (ι:=Sw) (fun y=>VF.All SaC y.l/\XD y.l/\(0<y.l.len->∃b o,Ap=some ⟨b,o,none⟩/\b<W.heap.size/\FIn W W.heap.size y.l b (o+y.i*5))/\(0<y.l'.len->∃b o,Ap'=some ⟨b,o,none⟩/\b<W.heap.size/\FIn W W.heap.size y.l' b (o+y.i*5))/\y.i+y.l.len=L/\y.i+y.l'.len=L/\RES=eqF y.l y.l') (fun y=>L - y.i) (fun y=>[Q1v,QnD,(5,.int .i64 (y.i:Int))]) (fun _=>Qsc) ⟨0,p,p'⟩ ⟨HALL.out,HFP.out,by simpa using HCH.out,by simpa using HCH'.out,by show 0+p.len=L;rw[HLL.out.1,Nat.zero_add],by show 0+p'.len=L;rw[HLL.out.2,Nat.zero_add],HS.out⟩ Jf Zc ?_;rintro⟨i,l,l'⟩ ⟨hall,hfl,hcl,hcl',hil,hil',hre⟩;replace hil:i+l.len=L:=hil;replace hil':i+l'.len=L:=hil';have HAL:=Q2 (show VF.All SaC l from hall);have HFL:=Q2 (show XD l from hfl);have HCL:=Q2 (show 0<l.len->∃b o,Ap=some ⟨b,o,none⟩/\b<W.heap.size/\FIn W W.heap.size l b (o+i*5) from hcl);have HCL':=Q2 (show 0<l'.len->∃b o,Ap'=some ⟨b,o,none⟩/\b<W.heap.size/\FIn W W.heap.size l' b (o+i*5) from hcl');have HRL:=Q2 (show RES=eqF l l' from hre);clear hall hfl hcl hcl' hre;show sE _ _ _ _ _ [Q1v,QnD,(5,.int .i64 (i:Int))] Qsc _;cases l with
 |nil=>
  have hiL:i=L:=hil;have h0:l'=.nil:=by cases l' with
   |nil=>rfl
   |cons=>simp only[VF.len] at hil';omega
  subst h0;have HZ:=Q2 (show RES=true from HRL.out);refine yq<|yq<|yr<|yo zM<|yo zF<|yo (zB 1)<|yo zL<|yo zlf<|yl<|yn<|y0<|ye<|yn<|yq<|yr<|yo zA<|yl<|yn<|yt ?_;exact Qal
 |cons d1 p1 r1=>
  cases l' with
  |nil=>simp only[VF.len] at hil hil';omega
  |cons d2 p2 r2=>
   have hilt:i<L:=by simp only[VF.len] at hil;omega
   obtain⟨b,o,rfl,hb,⟨sb1,sn1,sp1,hc1,hd1⟩,hr1⟩:=HCL.out Q3w;obtain⟨b',o',rfl,hb',⟨sb2,sn2,sp2,hc2,hd2⟩,hr2⟩:=HCL'.out Q3w;have HV1:=Q2 (show VIn W W.heap.size Qoe d1 p1 from ⟨sb1,sn1,sp1,rfl,hd1⟩);have HV2:=Q2 (show VIn W W.heap.size Qlp d2 p2 from ⟨sb2,sn2,sp2,rfl,hd2⟩);have hg1:=hc1.range2;have hg2:=hc2.range2;have HR1:=Q2 hr1;have HR2:=Q2 hr2;clear hc1 hc2 hd1 hd2 hr1 hr2;obtain⟨q,hq⟩:∃q,eqV d1 p1 d2 p2=q:=⟨_,rfl⟩;have HQ:=Q2 hq;have HRQ:=Q2 (show RES=(q&&eqF r1 r2) by rw[HRL.out,Q6p,hq]);clear hq;cases q with
   |false=>
    have HZ:=Q2 (show RES=false by rw[HRQ.out];rfl);refine Qsy ?_;refine Qju ?_;exact Qal
   |true=>
    have HZ:=Q2 (show RES=eqF r1 r2 by rw[HRQ.out];rfl);refine Qsy ?_;refine Qg7 ?_;refine Qx ⟨i+1,r1,r2⟩ ⟨HAL.out.2,HFL.out.2.2.2,fun _=>⟨b,o,rfl,hb,by show FIn W W.heap.size r1 b (o+(i+1)*5);rw[show o+(i+1)*5=o+i*5+5 by omega];exact HR1.out⟩,fun _=>⟨b',o',rfl,hb',by show FIn W W.heap.size r2 b' (o'+(i+1)*5);rw[show o'+(i+1)*5=o'+i*5+5 by omega];exact HR2.out⟩,by show i+1+r1.len=L;simp only[VF.len] at hil;omega,by show i+1+r2.len=L;simp only[VF.len] at hil';omega,HZ.out⟩ (by show L - (i+1)<L - i;omega) Q5u Zc
theorem Qdj(d:Nd)(p:VF):SaC d p:=VF.all_each QeT d p
section
variable {W w w':World}{z:Wz}{B g c n:Nat}{F:List Rl}{A:Option Addr}{xs:List UInt8}{k:Int}{d:Nd}{p:VF}{v:Value}
def WvC(z:Wz)(B g:Nat)(F:List Rl)(d:Nd)(p:VF):Prop:=QJ d p.len=0->Vk p->XI d->XD p->p.len<=1048576->∀(W:World) (A:Option Addr) (c:Nat) (xs:List UInt8) (n:Nat) (k:Int) (v:Value),0<=k/\k<F.length->XV W z B g F A c xs n->VIn W B v d p->xs.length+Qy d p<=1099511627776->n+Qy d p<=1099511627776->Calls Tryz.prog 45 #[.pointer (some ⟨g,0,none⟩),.int .i64 k,v] W (WrE z g W A c xs (Qs F k d p n) n (Qy d p))
theorem VW.range{w:World}{b o:Nat}{d:Nd}{sb sn sp:Value}(h:VW w b o d sb sn sp):w.rangeAt b o [.int .i64 d.k,.int .i64 d.n,sb,sn,sp]:=fun j u hu=>by
 obtain⟨h0,h1,h2,h3,h4⟩:=h;match j,hu with
 |0,hu=>cases hu;exact h0
 |1,hu=>cases hu;exact h1
 |2,hu=>cases hu;exact h2
 |3,hu=>cases hu;exact h3
 |4,hu=>cases hu;exact h4
structure Aw where
 i:Nat
 l:VF
 uy:List UInt8
 m:Nat
 A:Option Addr
 c:Nat
theorem Q5X{l:VF}(hall:VF.All (WvC z B g F) l)(hgl:Vk l)(hfl:XD l)(h:XV W z B g F A c xs n)(hk:0<=k/\k<F.length){Ap:Option Addr}{cp:Nat}(hch:0<l.len->∃b o,Ap=some ⟨b,o,none⟩/\b<B/\FIn W B l b o)(hl6:l.len<=1048576)(hsz:xs.length+Qv l<=1099511627776)(hno:n+Qv l<=1099511627776):
  Calls Tryz.prog 85 #[.pointer (some ⟨g,0,none⟩),.int .i64 k,.slice Ap l.len cp] W (WrE z g W A c xs (Vq F k l n) n (Qv l)):=by
 have H:=Q2 h;have hwd:=h.wd;obtain⟨RES,hres⟩:∃x,Vq F k l n=x:=⟨_,rfl⟩;have HR0:=Q2 (show RES=apW [] (Vq F k l n) by rw[ZG,hres]);rw[hres];have HA0:=Q2 hall;have HG0:=Q2 hgl;have HF0:=Q2 hfl;have HC0:=Q2 hch;obtain⟨Af,nn,cf⟩:=z;obtain⟨L,hL⟩:∃L,l.len=L:=⟨_,rfl⟩;obtain⟨C,hC⟩:∃C,Qv l=C:=⟨_,rfl⟩;have HLC:=Q2 (And.intro hL hC);rw[hL] at hl6 ⊢;rw[hC] at hsz hno ⊢;clear h hres hall hgl hfl hch hL hC;go_enter Tryz.func85,Tryz.ntmps85;haveI:Pan (bodyPost Tryz.prog Tryz.f85 (WrE ⟨Af,nn,cf⟩ g W A c xs RES n C)) (Vx RES (wM g A xs.length c) W):=Pan.body fun ch w' ⟨x,h1,h2,h3⟩=>VY
 refine Qz (M:=wM g A xs.length c) (W:=W) (N:=19) (E:=[Yq,Q29,(2,.slice Ap L cp)]) (O:=[.blk g QoJ,.row A xs.length c 5 1 (bv xs)]) ?_ XW hwd;clear hwd;refine yq<|yr<|yo zM<|yo zL<|yo zM<|yl<|yn<|yb ?_;refine Xu (ι:=Aw) (fun y=>VF.All (WvC ⟨Af,nn,cf⟩ B g F) y.l/\Vk y.l/\XD y.l/\(0<y.l.len->∃b o,Ap=some ⟨b,o,none⟩/\b<B/\FIn W B y.l b (o+y.i*5))/\y.i+y.l.len=L/\RES=apW y.uy (Vq F k y.l y.m)/\y.uy.length+Qv y.l<=C/\y.m+Qv y.l<=n+C) (fun y=>L - y.i) (fun y=>[Yq,Q29,(8,.slice Ap L cp),(9,.int .i64 (L:Int)),(10,.int .i64 (y.i:Int))]) (fun y=>[.blk g (.cells ([.slice Af nn cf,.slice y.A (xs++y.uy).length y.c,.int .i64 (y.m:Int)]:List Value).toArray 77 (0,0)),.row y.A (xs++y.uy).length y.c 5 1 (bv (xs++y.uy))]) ⟨0,l,[],n,A,c⟩ ⟨HA0.out,HG0.out,HF0.out,by simpa using HC0.out,by show 0+l.len=L;rw[HLC.out.1,Nat.zero_add],HR0.out,by show 0+Qv l<=C;rw[HLC.out.2];omega,by show n+Qv l<=n+C;rw[HLC.out.2];omega⟩ Vg (fun w hw=>?_) ?_
 ·simp only[List.append_nil]
  exact hw
 rintro⟨i,l,uy,m,A',c'⟩ ⟨hall,hgl,hfl,hch,hil,hres,hy,hm⟩;replace hil:i+l.len=L:=hil;replace hy:uy.length+Qv l<=C:=hy;replace hm:m+Qv l<=n+C:=hm;have HR:=Q2 (show RES=apW uy (Vq F k l m) from hres);have HAL:=Q2 (show VF.All (WvC ⟨Af,nn,cf⟩ B g F) l from hall);have HGL:=Q2 (show Vk l from hgl);have HFL:=Q2 (show XD l from hfl);have HCL:=Q2 (show 0<l.len->∃b o,Ap=some ⟨b,o,none⟩/\b<B/\FIn W B l b (o+i*5) from hch);clear hall hgl hfl hch hres;show sE _ _ _ _ _ [Yq,Q29,(8,.slice Ap L cp),(9,.int .i64 (L:Int)),(10,.int .i64 (i:Int))] [.blk g (.cells ([.slice Af nn cf,.slice A' (xs++uy).length c',.int .i64 (m:Int)]:List Value).toArray 77 (0,0)),.row A' (xs++uy).length c' 5 1 (bv (xs++uy))] _;cases l with
 |nil=>
  have hiL:i=L:=hil;have HZ:=Q2 (show RES=.ok (uy,m) by rw[HR.out];show Except.ok (uy++[],m)=_;rw[List.append_nil]);have hy':uy.length<=C:=by simp only[Qv] at hy;exact hy
  have hm':m<=n+C:=by simp only[Qv] at hm;exact hm
  refine yq<|yr<|yo zlf<|yl<|yn<|yq<|y0<|ye<|yx<|yx<|yu ?_;exact Zi Kf rfl (fun w hw=>Ye H.out 0 1 (b:=uy) hw rfl rfl HZ.out hy' hm')
 |cons d p r=>
  have hilt:i<L:=by simp only[VF.len] at hil;omega
  obtain⟨b,o,rfl,hb,⟨sb,sn,sp,hc5,hd5⟩,hrest⟩:=HCL.out Q3w;have HV0:=Q2 (show VIn W B (.agg #[.int .i64 d.k,.int .i64 d.n,sb,sn,sp]) d p from ⟨sb,sn,sp,rfl,hd5⟩);obtain⟨_,_,_,_,_,_,_,_,rfl,rfl,rfl,_⟩:=hd5;have hrg:=hc5.range;have HV:=HV0;have HRS:=Q2 hrest;have hbM:b∉wM g A xs.length c:=fun hm=>by
   rcases XX.1 hm with e|e
   ·have:=H.out.hB;omega
   ·exact QaZ
  clear hc5 hrest HV0;simp only[Qv] at hy hm;have hsz1:(xs++uy).length+Qy d p<=1099511627776:=by rw[List.length_append];unfold Qy;omega
  have hno1:m+Qy d p<=1099511627776:=by unfold Qy;omega
  refine yq<|yr<|yo zlt<|yl<|yn<|yq<|y1<|ys<|yn<|yq<|yb<|yq<|yr<|yo (zi (hj:=hilt)) ?_;refine Q4 (X4 rfl rfl Q1 rfl rfl (fun w hw=>hw.range_old hrg hbM) rfl) ?_;refine yA fun b7=>?_;refine yW 0 ?_;refine yl<|yn<|yr<|yo zM<|yo zM<|yo (zD 0) ?_;refine Q0V (J9 _ _ _ rfl rfl rfl (fun w hw=>(HAL.out.1 HGL.out.1 HGL.out.2.1 HFL.out.1 HFL.out.2.2.1 HFL.out.2.1 w A' c' (xs++uy) m k _ hk (H.out.nextW hw 1 2 rfl rfl) (HV.out.below Q5i Xr) hsz1 hno1).mono (fun e w' h=>Q9f 1 2 Q1 hw rfl rfl (fun x hx=>by rw[HR.out];show apW uy (bnW (Qs F k d p m) _)=_;rw[hx];rfl) h))) rfl Q1 (fun y hy2=>?_);refine yl ?_;obtain⟨ub,um,uA,uc⟩:=y;obtain⟨hy3,hy4,hy5⟩:=hy2;replace hy3:Qs F k d p m=.ok (ub,um):=hy3;replace hy4:ub.length<=Qy d p:=hy4;replace hy5:um<=m+Qy d p:=hy5;have HN:=Q2 (show RES=apW (uy++ub) (Vq F k r um) by rw[HR.out];show apW uy (bnW (Qs F k d p m) _)=_;rw[hy3,Q9U,Yu]);clear hy3;unfold Qy at hy4 hy5;refine yn<|yr<|yo zP<|yo zM<|yl ?_;refine Qx ⟨i+1,r,uy++ub,um,uA,uc⟩ ⟨HAL.out.2,HGL.out.2.2,HFL.out.2.2.2,fun _=>⟨b,o,rfl,hb,by show FIn W B r b (o+(i+1)*5);rw[show o+(i+1)*5=o+i*5+5 by omega];exact HRS.out⟩,by show i+1+r.len=L;simp only[VF.len] at hil;omega,HN.out,by show (uy++ub).length+Qv r<=C;rw[List.length_append];omega,by show um+Qv r<=n+C;omega⟩ (by show L - (i+1)<L - i;omega) Yj (fun w hw=>?_);have h:=hw.tl;simp only[<- List.append_assoc];exact h
theorem QvU(hall:VF.All (WvC z B g F) p)(hgp:Vk p)(hfp:XD p)(hv:Fm F)(hk:0<=k/\k<F.length)(h:XV W z B g F A c xs n)(hval:VIn W B v d p)(hd1:d.bs.length<=1048576)(hd2:d.ns.length<=1048576)(hn0:QJ d p.len=0)(hpl6:p.len<=1048576)(hsz:xs.length+Qy d p<=1099511627776)(hno:n+Qy d p<=1099511627776)(hfit:X0 F (Qh F k) d p=true)(hkind:(Qh F k).kind=6):
  Calls Tryz.prog 45 #[.pointer (some ⟨g,0,none⟩),.int .i64 k,v] W (WrE z g W A c xs (Qs F k d p n) n (Qy d p)):=by
 have H:=Q2 h;have HV0:=Q2 hv;have hwd:=h.wd;have hFn:=h.len;have hr:=hv.toUsd.rok hk;have hfc:=Q8e
 rw[hfit] at hfc;obtain⟨RES,hres⟩:∃x,Qs F k d p n=x:=⟨_,rfl⟩;have HVAL:=Q2 hval;have HALL:=Q2 hall;have HGP:=Q2 hgp;have HFP:=Q2 hfp;clear hall hgp hfp;have HK0:=Q2 (show (Qh F k).kind=6 from hkind);have HL:=Q2 (show RES=apW (Z2 Qf4 (p.len:Int)) (Vq F (Qh F k).elem p (n+1)) by rw[<- hres];exact Qcj hfit hkind);have hcnt:XP (Qh F (Qh F k).count) (p.len:Int)=true:=by rw[Q33 hkind,Bool.and_eq_true] at hfit;exact hfit.2
 have hNO:=hv.numOk hk Q0Z;have hct:=hr.count Q0Z;have hel:=hr.elem Q0Z;rw[hres];obtain⟨Af,nn,cf⟩:=z;simp only at hFn;obtain⟨bf,of,haf,_⟩:=h.fm.2 VX;simp only at haf;subst haf;obtain⟨hbB,Ab,cb,An,cn,Ap,cp,hrg,hru⟩:=h.fm.ruleB (k:=k) Yx;have hbM:bf∉wM g A xs.length c:=fun hm=>by
  rcases XX.1 hm with e|e
  ·exact Vp
  ·exact Q0i
 have hkn:0<=k/\k<(nn:Int):=by omega
 have hBW:B<=W.heap.size:=by have:=h.hB;have:=h.lt;omega
 replace hfc:=fun(w:World) (hw:XV w _ B g F A c xs n) (hr:RuB w B (Qh F k) Ab cb An cn Ap cp) (hvl:VIn w B v d p)=>hfc w Ab An Ap cb cn cp hw hr hvl
 clear h;obtain⟨r,er⟩:∃r,Qh F k=r:=⟨_,rfl⟩;rw[er] at hr hrg hru hfc HK0 HL hcnt hNO hct hel;clear er hfit;obtain⟨sb,sn,sp,rfl,Abv,nb,cbv,Anv,nnv,cnv,Apv,cpv,rfl,rfl,rfl,hnb,hnn,hpl,hcm,hrb,hrn,hch⟩:=hval;have hnbl:d.bs.length=nb:=by have:=hrb.len;rw[QM] at this;exact this
 have hnnl:d.ns.length=nnv:=by have:=hrn.len;rw[Xw] at this;exact this
 subst hnbl hnnl;have HRB:=Q2 hrb;have HCH:=Q2 hch;have HRU:=Q2 hru;have HRK:=Q2 hr;have HD:=Q2 (Eq.refl d);obtain⟨dk,dn,dbs,dns⟩:=d;simp only[Qy] at hsz hno hd1 hd2 hnb hnn ⊢;clear hrb hrn hch hru hv;obtain⟨name,kind,bs,size,big,mn,mx,stop,count,elem,names,parts⟩:=r;obtain⟨hbB2,Ab2,cb2,An2,cn2,Ap2,cp2,hrg2,hru2⟩:=H.out.fm.ruleB (k:=count) (by simp only;exact Qgm);have hct2:0<=count/\count<(nn:Int):=Qgm;simp only at hcnt hNO HL;obtain⟨r2,er2⟩:∃r,Qh F count=r:=⟨_,rfl⟩;rw[er2] at hrg2 hcnt hNO HL;clear er2 hru2;have hnc:=Qs7
 have hnl:=Jw hNO hcnt;obtain⟨uy,hys⟩:∃uy,Z2 r2 (p.len:Int)=uy:=⟨_,rfl⟩;simp only[hys] at hnc hnl HL;clear hys hNO hcnt hct;obtain⟨name2,kind2,bs2,size2,big2,mn2,mx2,stop2,count2,elem2,names2,parts2⟩:=r2;simp only[ruC] at hnc hrg2;have HNC:=Q2 hnc;clear hnc;simp only[ruC] at hr hrg hfc HK0;have HFC:=Q2 hfc;have HRUB:=Q3Z;clear hfc;go_enter Tryz.func45,Tryz.ntmps45;haveI:Pan (bodyPost Tryz.prog Tryz.f45 (WrE ⟨some ⟨bf,of,none⟩,nn,cf⟩ g W A c xs RES n (300+dbs.length+Qv p))) (Vx RES (wM g A xs.length c) W):=Pan.body fun ch w' ⟨x,h1,h2,h3⟩=>VY
 refine Qz (M:=wM g A xs.length c) (W:=W) (N:=223) (E:=Q8k) (O:=Q6O) ?_ XW hwd;clear hwd;refine yq<|yr ?_;refine yB fun b5=>?_;refine Q0x ?_;refine yA fun b6=>?_;refine Q26 ?_;have hkd:kind=6:=HK0.out;subst hkd;have hel':0<=elem/\elem<F.length:=hel;have hsz1:(xs++uy).length+Qv p<=1099511627776:=by rw[List.length_append];omega
 have hno1:(n+1)+Qv p<=1099511627776:=by omega
 have e1:(n:Int)+1=((n+1:Nat):Int):=rfl;refine Q7U ?_;refine yl<|yn<|yq<|yr<|yo zF<|yo (zB 0)<|yl<|yn<|yb<|yq<|yr<|yo zef<|yo zA<|yl<|yn<|y0<|yq<|yq<|yr<|yo zef<|yo zA<|yl<|yn<|y0<|yr<|yo zef<|yo zA<|yl<|yn<|y0<|yq<|yr<|yo zef<|yo zA<|yl<|yn<|y0<|yq<|yr<|yo zef<|yo zA<|yl<|yn<|y0<|yq<|yr<|yo zef<|yo zA<|yl<|yn<|y0<|yq<|yr<|yo zet<|yo zA<|yl<|yn<|y1<|yq ?_;rw[e1];refine Q3f (B:=Vx RES (wM g A xs.length c) W) [.blk b6 QfT,.blk b5 Qcb,.blk g QbB] [13] Q5 ?_ ?_
 ·infer_instance
 refine Qs0 ?_;refine QhC 13 Q5 rfl rfl Qgi (fun i=>.inl Q1) rfl Q1 (fun y hy=>?_);refine QgW ?_ Q5;obtain⟨ub,um,uA,uc⟩:=y;obtain⟨hy1,hy2,hy3⟩:=hy;injection hy1 with hy1;injection hy1 with hyb hym;simp only at hyb hym;subst hyb hym;refine yn<|yr<|yo zM<|yo zF<|yo (zB 0)<|yo zF<|yo (zB 1) ?_;refine Q0V (J9 _ _ _ rfl rfl rfl (fun w hw=>(Q5X HALL.out HGP.out HFP.out QdE hel' Qst hpl6 hsz1 hno1).mono (fun e w' h=>Q9f 2 3 Q1 hw rfl rfl (fun x hx=>by rw[HL.out];show apW uy Q4q=_;rw[hx];rfl) h))) rfl Q1 (fun y hy=>?_);refine yl ?_;obtain⟨rb1,rm1,rA1,rc1⟩:=y;obtain⟨hz1,hz2,hz3⟩:=hy;replace hz1:Vq F elem p (n+1)=.ok (rb1,rm1):=hz1;replace hz2:rb1.length<=Qv p:=hz2;replace hz3:rm1<=n+1+Qv p:=hz3;have HZ:=Q2 (show RES=.ok (uy++rb1,rm1) by rw[HL.out];show apW uy Q4q=_;rw[hz1];rfl);clear hz1;have hbl:(uy++rb1).length=uy.length+rb1.length:=Q9w;simp only[List.append_assoc];refine yd ?_;exact Zi Kf rfl (fun w hw=>Ye H.out 2 3 (b:=uy++rb1) hw rfl rfl HZ.out Q3 Q3)
theorem QvI(hall:VF.All (WvC z B g F) p)(hgp:Vk p)(hfp:XD p)(hv:Fm F)(hk:0<=k/\k<F.length)(h:XV W z B g F A c xs n)(hval:VIn W B v d p)(hd1:d.bs.length<=1048576)(hd2:d.ns.length<=1048576)(hn0:QJ d p.len=0)(hpl6:p.len<=1048576)(hsz:xs.length+Qy d p<=1099511627776)(hno:n+Qy d p<=1099511627776)(hfit:X0 F (Qh F k) d p=true)(hkind:(Qh F k).kind=9):
  Calls Tryz.prog 45 #[.pointer (some ⟨g,0,none⟩),.int .i64 k,v] W (WrE z g W A c xs (Qs F k d p n) n (Qy d p)):=by
 have H:=Q2 h;have HV0:=Q2 hv;have hwd:=h.wd;have hFn:=h.len;have hr:=hv.toUsd.rok hk;have hfc:=Q8e
 rw[hfit] at hfc;obtain⟨RES,hres⟩:∃x,Qs F k d p n=x:=⟨_,rfl⟩;have HVAL:=Q2 hval;have HALL:=Q2 hall;have HGP:=Q2 hgp;have HFP:=Q2 hfp;clear hall hgp hfp;have HK0:=Q2 (show (Qh F k).kind=9 from hkind);have HL:=Q2 (show RES=bnW (Vq F (Qh F k).elem p (n+1)) fun m=>.ok ([ZJ (Qh F k)],m) by rw[<- hres];exact Qck hfit hkind);have hel:=hr.elem Q4S;rw[hres];obtain⟨Af,nn,cf⟩:=z;simp only at hFn;obtain⟨bf,of,haf,_⟩:=h.fm.2 VX;simp only at haf;subst haf;obtain⟨hbB,Ab,cb,An,cn,Ap,cp,hrg,hru⟩:=h.fm.ruleB (k:=k) Yx;have hbM:bf∉wM g A xs.length c:=fun hm=>by
  rcases XX.1 hm with e|e
  ·exact Vp
  ·exact Q0i
 have hkn:0<=k/\k<(nn:Int):=by omega
 have hBW:B<=W.heap.size:=by have:=h.hB;have:=h.lt;omega
 replace hfc:=fun(w:World) (hw:XV w _ B g F A c xs n) (hr:RuB w B (Qh F k) Ab cb An cn Ap cp) (hvl:VIn w B v d p)=>hfc w Ab An Ap cb cn cp hw hr hvl
 clear h;obtain⟨r,er⟩:∃r,Qh F k=r:=⟨_,rfl⟩;rw[er] at hr hrg hru hfc HK0 HL hel;clear er hfit;obtain⟨sb,sn,sp,rfl,Abv,nb,cbv,Anv,nnv,cnv,Apv,cpv,rfl,rfl,rfl,hnb,hnn,hpl,hcm,hrb,hrn,hch⟩:=hval;have hnbl:d.bs.length=nb:=by have:=hrb.len;rw[QM] at this;exact this
 have hnnl:d.ns.length=nnv:=by have:=hrn.len;rw[Xw] at this;exact this
 subst hnbl hnnl;have HRB:=Q2 hrb;have HCH:=Q2 hch;have HRU:=Q2 hru;have HRK:=Q2 hr;have HD:=Q2 (Eq.refl d);obtain⟨dk,dn,dbs,dns⟩:=d;simp only[Qy] at hsz hno hd1 hd2 hnb hnn ⊢;clear hrb hrn hch hru hv;obtain⟨name,kind,bs,size,big,mn,mx,stop,count,elem,names,parts⟩:=r;simp only[ruC,ZJ] at hr hrg hfc HK0 HL;have HFC:=Q2 hfc;have HRUB:=Q3Z;clear hfc;go_enter Tryz.func45,Tryz.ntmps45;haveI:Pan (bodyPost Tryz.prog Tryz.f45 (WrE ⟨some ⟨bf,of,none⟩,nn,cf⟩ g W A c xs RES n (300+dbs.length+Qv p))) (Vx RES (wM g A xs.length c) W):=Pan.body fun ch w' ⟨x,h1,h2,h3⟩=>VY
 refine Qz (M:=wM g A xs.length c) (W:=W) (N:=223) (E:=Q8k) (O:=Q6O) ?_ XW hwd;clear hwd;refine yq<|yr ?_;refine yB fun b5=>?_;refine Q0x ?_;refine yA fun b6=>?_;refine Q26 ?_;have hkd:kind=9:=HK0.out;subst hkd;have hel':0<=elem/\elem<F.length:=hel;obtain⟨sB,hsB⟩:∃b:UInt8,UInt8.ofNat (stop % 256).toNat=b:=⟨_,rfl⟩;have hcv:IntKind.u8.wrap stop=(sB.toNat:Int):=by rw[Q1X,hsB]
 rw[hsB] at HL;have hsz1:xs.length+Qv p<=1099511627776:=by omega
 have hno1:(n+1)+Qv p<=1099511627776:=by omega
 have e1:(n:Int)+1=((n+1:Nat):Int):=rfl;refine Q7U ?_;refine yl<|yn<|yq<|yr<|yo zF<|yo (zB 0)<|yl<|yn<|yb<|yq<|yr<|yo zef<|yo zA<|yl<|yn<|y0<|yq<|yq<|yr<|yo zef<|yo zA<|yl<|yn<|y0<|yr<|yo zef<|yo zA<|yl<|yn<|y0<|yq<|yr<|yo zef<|yo zA<|yl<|yn<|y0<|yq<|yr<|yo zef<|yo zA<|yl<|yn<|y0<|yq<|yr<|yo zef<|yo zA<|yl<|yn<|y0<|yq<|yr<|yo zef<|yo zA<|yl<|yn<|y0<|yq<|yr<|yo zet<|yo zA<|yl ?_;rw[e1];refine yn<|y1<|yq<|yr<|yo zM<|yo zF<|yo (zB 0)<|yo zF<|yo (zB 1) ?_;refine Q0V (J9 _ _ _ rfl rfl rfl (fun w hw=>(Q5X HALL.out HGP.out HFP.out QdE hel' Qst hpl6 hsz1 hno1).mono (fun e w' h=>Q9f 2 3 Q1 hw rfl rfl (fun x hx=>by rw[HL.out];show bnW Q4q _=_;rw[hx];rfl) h))) rfl Q1 (fun y hy=>?_);refine yl ?_;obtain⟨uy,um,uA,uc⟩:=y;obtain⟨hz1,hz2,hz3⟩:=hy;replace hz1:Vq F elem p (n+1)=.ok (uy,um):=hz1;replace hz2:uy.length<=Qv p:=hz2;replace hz3:um<=n+1+Qv p:=hz3;have HZ:=Q2 (show RES=.ok (uy++[sB],um) by rw[HL.out];show bnW Q4q _=_;rw[hz1];rfl);clear hz1;have hl1:(xs++uy).length+1=(xs++(uy++[sB])).length:=by simp only[List.length_append,List.length_cons,List.length_nil];omega
 have hb1:bv (xs++uy)++[.int .u8 (sB.toNat:Int)]=bv (xs++(uy++[sB])):=by unfold bv;simp
 have hbl:(uy++[sB]).length=uy.length+1:=Q9w;have hbnd:(xs++uy).length<=1099511627776:=by rw[List.length_append];omega
 refine yn ?_;refine Xk [.blk b6 QrO,.blk g (.cells ([.slice Vz nn cf,.slice uA (xs++uy).length uc,.int .i64 (um:Int)]:List Value).toArray 77 (0,0))] [12] Q5 ?_;refine QqX ?_;refine Qc 7 rfl Q5 Q6y Q2b ?_;refine QL 8 Q5 rfl rfl VE (fun _=>.inr Vj) rfl Q1 (fun bn _=>?_);refine QL 9 Q5 rfl rfl Qmt (fun _=>.inr Vj) rfl Q1 (fun z2 _=>?_);rw[hl1,hb1];refine Qc 10 rfl Q5 Vj mc5 ?_;refine Qc 11 rfl Q5 Vj zF ?_;refine X6 12 Q5 rfl rfl Qhi JR rfl (fun _ _=>?_);refine X8 ?_ Q5;refine yd ?_;exact Zi Kf rfl (fun w hw=>Ye H.out 3 4 (b:=uy++[sB]) (m:=um) hw rfl rfl HZ.out Q3 Q3)
end
section
variable {d:Nd}{f:Int×Int}{p:VF}{v:Value}{w:World}
def VF.cnt:VF->Nat
 |.nil=>0
 |.cons _ p r=>p.cnt+r.cnt+1
theorem QcS(F:VF):∀(num lev m:Nat),Xg F num lev=.inr m->m=num+F.cnt:=by
 induction F with
 |nil=>intro num lev m h;injection h with h;simp [VF.cnt];omega
 |cons d p r ih1 ih2=>
  intro num lev m h;by_cases h1:600<=num\/10<lev
  ·rw[Zz h1] at h;cases h
  ·by_cases h2:QJ d p.len≠0
   ·rw[XZ h1 h2] at h;cases h
   ·cases hp:Xg p (num+1) (lev+1) with
    |inl f=>rw[Zv h1 h2 hp] at h;cases h
    |inr k=>
     rw[ZM h1 h2 hp] at h;have a:=ih1 _ _ _ hp;have b:=ih2 _ _ _ h;simp only[VF.cnt];omega
theorem Qc3{x:List UInt8}(h:x.length<=1048576):(ZK x).length<=1048586:=by have:=K2 x Q3;omega
theorem Q9l{np:Nat}{body:List UInt8}(hd:XI d)(hn:np<=1048576):(Q0D d np body).length<=1048600+body.length:=by
 obtain⟨⟨h1,h2,h3,h4⟩,h5,_,_⟩:=hd;have a:=XG d.k h1 h2;have b:=XG d.n h3 h4;have c:=Qc3 h5;have e:=XG (np:Int) Q3 Q3;unfold Q0D;rw[List.length_append];split
 ·omega
 split
 ·omega
 ·rw[List.length_append];omega
theorem Qp1(F:VF):∀(rc:Bool) (ns:List (List UInt8)),XD F->(∀x∈ns,x.length<=1048576)->(XL F rc ns).length<=F.cnt*2100000:=by
 induction F with
 |nil=>intro rc ns _ _;simp [XL]
 |cons d p r ih1 ih2=>
  intro rc ns hf hn;obtain⟨hd,hl,hp,hr⟩:=hf;have a:=Q9l (body:=XL p (d.k==4) d.ns) hd hl;have b:=ih1 (d.k==4) d.ns hp hd.2.2.2;have c:=ih2 rc ns.tail hr (fun x hx=>hn x (List.mem_of_mem_tail hx));have e:(if rc then ZK (ns.headD []) else []).length<=1048586:=by
   split
   ·refine Qc3 ?_
    cases ns with
    |nil=>simp
    |cons x l=>exact hn x List.mem_cons_self
   ·simp
  simp only[XL,VF.cnt,List.length_append];omega
theorem Sz.mod{l:VF}(h:Sz d l){m:Nat}(hc:Xg (.cons d l .nil) 0 1=.inr m):Mod d l:=by
 refine⟨h.1,h.2.1,h.2.2,?_⟩;have a:=Q1k _ _ _ _ hc;have b:=QcS _ _ _ _ hc;have c:=Q9l (body:=XL l (d.k==4) d.ns) h.1 h.2.2;have e:=Qp1 l (d.k==4) d.ns h.2.1 h.1.2.2.2;simp only[VF.cnt] at b;have g:l.cnt<=600:=by have:=a.2 Q3;omega
 have k:l.cnt*2100000<=600*2100000:=Nat.mul_le_mul_right _ g;unfold XQ;omega
theorem Qch(hm:Sz d p)(hf:Xg (.cons d p .nil) 0 1=.inl f)(hv:VIn w w.heap.size v d p):Calls Tryz.prog 69 #[v] w (QsH w d p):=by
 have HV:=Q2 hv;have HM:=Q2 hm;obtain⟨sb,sn,sp,rfl,Ab,nb,cb,An,nn,cn,Ap,cp,rfl,rfl,rfl,hbc,hnc,hpc,hpm,hrb,hrn,hp⟩:=hv;clear hrb hrn hp hm;go_enter Tryz.func69,Tryz.ntmps69;go_wp2_with fail
 refine(Q3u (num:=0) (lev:=1) HM.out.1 HM.out.2.1 HM.out.2.2 Q8N Q3 Q3).mono ?_;rintro e w2 ⟨hb2,hres⟩;have F1:=Q9u;simp only[QB] at F1
 have HBX:=Q2 (show VW w2 w.heap.size 0 d (.slice Ab nb cb) (.slice An nn cn) (.slice Ap p.len cp) from by
  have hk:∀o,w2.cell? ⟨w.heap.size,o,none⟩=_:=fun o=>hb2.cell Zp
  exact ⟨(hk 0).trans (Qj Qn),(hk 1).trans (Qj Qn),(hk 2).trans (Qj Qn),(hk 3).trans (Qj Qn),(hk 4).trans (Qj Qn)⟩)
 have HB2:=Q94;have HF1:=Q2 F1;have hz2:w.heap.size+1<w2.heap.size:=F1.1;clear hb2 F1;rcases hres with ⟨c,ix,hr,rfl⟩|⟨m,hr,rfl⟩
 ·have hc:=VP _ _ _ _ _ hr
  have hc0:(c==0)=false:=by simpa using hc
  have hneq:=Q35 c ix 0 0;have HF:=Q2 (Q7j hr);have HC:=Q2 hc;have P2:=Qms;have P1:=FC.new w2 c ix;have PB:=Qk4;clear hr hc;go_wp2_with fail
  obtain⟨W4,hW4⟩:∃W4,w2.alloc (.cells #[.int .i64 c,.int .i64 ix] 32)=W4:=⟨_,rfl⟩;rw[hW4] at P1 P2 PB ⊢;have HPB:=Q2 PB;clear hW4 PB;obtain⟨z3,a0,a1,g0,g1⟩:=P1;obtain⟨z4,r0,r1,e0,e1⟩:=P2;go_region
  go_wp2_with fail
  refine QmN ?_;exact Qjk
 ·rw[hf] at hr;cases hr
theorem Qao(hm:Sz d p)(hfl:Xg (.cons d p .nil) 0 1=.inl f)(hv:VIn w w.heap.size v d p):Calls Tryz.prog 34 #[v] w fun e w'=>e=.returned (.agg #[.int .i64 (XJ d p).1,.int .i64 (XJ d p).2])/\Below w.heap.size w w':=by
 have HV:=Q2 hv;have HM:=Q2 hm;obtain⟨sb,sn,sp,rfl,Ab,nb,cb,An,nn,cn,Ap,cp,rfl,rfl,rfl,hbc,hnc,hpc,hpm,hrb,hrn,hp⟩:=hv;clear hrb hrn hp hm;go_enter Tryz.func34,Tryz.ntmps34;go_wp2_with fail
 refine(Qch HM.out hfl Q8N).mono ?_;rintro e w2 ⟨hb2,hres⟩;have F1:=Q9u;simp only[QB] at F1;have HB2:=Q94;have HF1:=Q2 F1;have hz2:w.heap.size+1<w2.heap.size:=F1.1;clear hb2 F1;obtain⟨A,n,c,cd,ix,he,hf⟩:∃A n c cd ix,e=.returned (.tuple #[.slice A n c,.agg #[.int .i64 cd,.int .i64 ix]])/\XJ d p=(cd,ix):=by
  rcases hres with ⟨c,i,_,h,he⟩|⟨A,c,m,_,h,_,he,_⟩
  ·exact Q9J
  ·exact Q9J
 subst he;have HF:=Q2 hf;clear hf hres;obtain⟨z4,r0,r1,e0,e1⟩:=HF1.out;go_wp2_with fail
 refine QjI ?_;exact Qji
theorem Q0q(hm:Sz d p)(hv:VIn w w.heap.size v d p):Calls Tryz.prog 34 #[v] w fun e w'=>e=.returned (.agg #[.int .i64 (XJ d p).1,.int .i64 (XJ d p).2])/\Below w.heap.size w w':=by
 cases hc:Xg (.cons d p .nil) 0 1 with
 |inl f=>exact Qao hm hc hv
 |inr m=>exact Q7q (hm.mod hc) hv
end
section
variable {A A2:Option Addr}{a:Act}{c c2 d m n:Nat}{v:Value}{x:Operand}{y:Nd×VF×Nat}
section
variable {P:Program}{ops:Array Oper}{N:Nat}{E:Env}{o:Oper}{M:List Nat}{W:World}{O:List Qf}{C:World->Prop}
theorem QkT[dq:DQ]{t:TypeId}{cs:List Value}(ho:o.op=.box t x)(hw:Qo ops E o=some true)(hx:ev E x=some v)(hc:v.cells=cs.toArray):uE P ops N M W E O o Nat (fun b=>.pointer (some ⟨b,0,none⟩)) (fun b=>.blk b (.cells cs.toArray t (0,0))::O) (fun b=>W.heap.size<=b/\∀x∈O,∀q,x.foot=some q->q<b):=
 Q00 hw fun ρ w ha hW=>
  ⟨w.heap.size,w.alloc (.cells cs.toArray t (0,0)),by
   simp [execOp,ho,ha.eval hx,Instr.box,newVar,newRow,go_sem]
   show w.alloc (Obj.cells v.cells t)=_
   rw[hc],⟨hW.k.size,fun x hx q hq=>(hW.onAll x hx).lt hq⟩,hW.push ((Below.refl _ _).alloc (Nat.le_refl _) _) (heap_alloc_new w _) (fun b hb=>by cases hb;exact Nat.le_refl _)⟩
theorem QoF[dq:DQ]{p:Addr}(ho:o.op=.nilCheck x)(hd:o.dst=some d)(hN:d<N)(hw:Qo ops E o=some true)(hx:ev E x=some (.pointer (some p))):oE P ops C N E ((d,.pointer (some p))::E) o:=
 Xi hd hN hw fun ρ w ha _=>by simp [execOp,ho,ha.eval hx,go_sem]
theorem QoQ[dq:DQ]{y:Operand}{t':TypeId}{a b a' b':Int}{v:Bool}(ho:o.op=.binOp .neq 32 x y t')(hd:o.dst=some d)(hN:d<N)(hw:Qo ops E o=some true)(hx:ev E x=some (.agg #[.int .i64 a,.int .i64 b]))(hy:ev E y=some (.agg #[.int .i64 a',.int .i64 b']))(hb:(!(a==a'&&b==b'))=v):oE Tryz.prog ops C N E ((d,.bool v)::E) o:=
 Xi hd hN hw fun ρ w ha _=>by
  subst hb;by_cases h1:a=a'<;>by_cases h2:b=b'<;>simp [execOp,ho,ha.eval hx,ha.eval hy,h1,h2,go_sem]
theorem Wd.lost{w w':World}{g:Nat}{o:Obj}(h:Wd M W (.blk g o::O) w)(hk:XM [g] w w'):Wd M W O w':=by
 refine .of_pairs (h.k.trans hk fun b hb hlt=>?_) (fun x hx=>(h.onAll x Q1M).keep hk.size fun b hb=>hk.block b ((h.onAll x Q1M).lt hb) ?_) (fun x hx=>h.newAll x Q1M) (List.pairwise_cons.1 h.pairs).2
 ·rw[List.mem_singleton] at hb;subst hb;exact h.new 0 _ _ rfl rfl hlt
 ·rw[List.mem_singleton];intro e;subst e;have:=(List.pairwise_cons.1 h.pairs).1 x hx b rfl hb
  cases this
theorem VO[dq:DQ]{w:World}{r:ResultVar}(ha:Ag N E a)(hw:C w)(h:RsV P C E r v):RsF P a w r v:=by
 cases r with
 |tmp t=>
  show a.tmps[t]?.getD undef=v;rw[ha.at_ h];rfl
 |cell t ty=>
  obtain⟨p,h1,h2⟩:=h;refine⟨p,?_,h2 w hw⟩;rw[ha.at_ h1];rfl
end
section
variable {M:List Nat}{W w w':World}{O:List Qf}{g k b4 b5 N:Nat}{E:Env}{R:Ending->World->Prop}{e:Exit}
abbrev paD(b4 b5:Nat):List Deferred:=[{ target:=.fn (.func 30) #[.pointer (some ⟨b4,0,none⟩),.pointer (some ⟨b5,0,none⟩)],args:=#[] }]
theorem Qua[dq:DQ]{u:Value}(hdq:dq.D=paD b4 b5)(he:e=.normal\/e=.ret)(h4:RsV Tryz.prog (Wd M W O) E (.cell 4 30) v)(h5:RsV Tryz.prog (Wd M W O) E (.cell 5 32) u)(hR:∀w,Wd M W O w->R (.returned (.tuple #[v,u])) w):xE (bodyPostD Tryz.prog Tryz.f11 R) N M W E O e:=fun a w ha hw=>by
 have h:Leaves Tryz.prog Tryz.f11 a.tmps R a.defers .returning w:=by
  rw[ha.df,hdq];refine leaves_cons (f:=30) (args:=QgK) Qn (by simp [go_sem]) ?_;refine(QaF _ _ _).mono ?_;exact QqQ
 rcases he with rfl|rfl<;>exact h
theorem Qnz[dq:DQ]{c x:Int}{ch:List PanicEntry}{a0 a1 a2 a3 a4 r0 r1:Value}(hdq:dq.D=paD b4 b5)(hch:ch=YO c x)(h4:E.lookup 4=some (.pointer (some ⟨b4,0,none⟩)))(h5:E.lookup 5=some (.pointer (some ⟨b5,0,none⟩)))(ha:Ag N E a)(hw:Wd M W (.blk b4 (.cells ([a0,a1,a2,a3,a4]:List Value).toArray 30 (0,0))::.blk b5 (.cells ([r0,r1]:List Value).toArray 32 (0,0))::O) w)
  (hR:∀w,Below W.heap.size W w->R (.returned (.tuple #[.agg #[.int .i64 0,.int .i64 0,.slice none 0 0,.slice none 0 0,.slice none 0 0],.agg #[.int .i64 c,.int .i64 x]])) w) (hM:M=[]):bodyPostD Tryz.prog Tryz.f11 R (.panic ch) a w:=by
 subst hM;subst hch;show Leaves Tryz.prog Tryz.f11 a.tmps R a.defers (.panicking (YO c x)) w;rw[ha.df,hdq];refine leaves_cons (f:=30) (args:=QgK) Qn (by simp [go_sem]) ?_;refine(Q8p hw).mono ?_;rintro e' u' w8 ⟨rfl,rfl,hw8⟩;exact⟨_,QpH rfl (VO ha hw8 (RsV.blk 0 h4 rfl rfl)) (VO ha hw8 (RsV.blk 1 h5 rfl rfl)),hR _ hw8.k.below⟩
theorem Qta{z:Rv}{res:Rdg (Nd×VF×Nat)}{o:Obj}{e:Ending}(hw:Wd [] W (.blk g o::O) w)(h:VlE z g w res e w'):JB (fun y:Vy=>.agg (y.cells).toArray) (fun y=>res=some (.ok y.r)/\Zn y.L (.agg (y.cells).toArray) y.r.1 y.r.2.1/\Q3T y.L W.heap.size) [] W (fun y=>.blk g (z.obj y.r.2.2)::(O++y.L)) (fun ch w'=>∃x:Nat,res=some (.error x)/\ch=YO 1 x/\Wd [] W O w') e w':=by
 obtain⟨hk,⟨x,h1,h2⟩|⟨d,l,q,v,L,h1,h2,h3,h4,h5⟩⟩:=h
 ·exact .inr ⟨_,h2,x,h1,rfl,hw.lost hk⟩
 ·obtain⟨sb,sn,sp,rfl,hd⟩:=h4.vin h5.on;obtain⟨Ab,nb,cb,An,nn,cn,Ap,cp,rfl,rfl,rfl,_⟩:=hd;exact .inl ⟨⟨(d,l,q),Ab,nb,cb,An,nn,cn,Ap,l.len,cp,L⟩,h2,Qrv,hw.wroteL hk h3 h5⟩
end
section
variable {F:List Rl}{D:List UInt8}
theorem Qhh{x:Nat}(h0:QI F=(0,0))(h1:¬1000<D.length)(h:XK F D (KM F D) 0 0=some (.error x)):Q0j F D=((ndZ,.nil),(1,(x:Int))):=by
 unfold Q0j;rw[if_neg (by simp [h0]),if_neg h1,h]
theorem Q8V(h0:QI F=(0,0))(h1:¬1000<D.length)(h:XK F D (KM F D) 0 0=some (.ok y))(hq:y.2.2<D.length):Q0j F D=((ndZ,.nil),(1,(y.2.2:Int))):=by
 unfold Q0j;rw[if_neg (by simp [h0]),if_neg h1,h];simp only;rw[if_pos hq]
theorem Q9p(h0:QI F=(0,0))(h1:¬1000<D.length)(h:XK F D (KM F D) 0 0=some (.ok y))(hq:¬y.2.2<D.length)(hv:XJ y.1 y.2.1=(0,0)):Q0j F D=((y.1,y.2.1),(0,0)):=by
 unfold Q0j;rw[if_neg (by simp [h0]),if_neg h1,h];simp only;rw[if_neg hq,if_neg (by simp [hv])]
end
theorem QeE{F:List Rl}{D:List UInt8}{W:World}(hF:∀k:Int,0<=k/\k<F.length->(Qh F k).kind=2\/(Qh F k).kind=6)(hR:∃y,XK F D (KM F D) 0 0=some y/\∀v,y=.ok v->Sz v.1 v.2.1/\XJ v.1 v.2.1=(0,0))(hf:QS W W.heap.size A n F)(hs:FSm F)(hc:n<=c)(hg:GV W)(hz:QI F=(0,0))(hd:Rd W W.heap.size 1 A2 m (bv D))(hl:¬1000<D.length)(hmc:m<=c2)(hc2:c2<=maxLen):
  Calls Tryz.prog 11 #[.agg #[.slice A n c],.slice A2 m c2] W (QrR F D W):=by
 have HF:=Q2 hf;have HS:=Q2 hs;have HG:=Q2 hg;have HZ:=Q2 hz;have HD:=Q2 hd;have HL:=Q2 hl;have HV:=Q2 (Q75 hz);have hDm:D.length=m:=by have:=hd.len;rw[QM] at this;exact this
 have hm:¬1000<(m:Int):=by omega
 have h0n:0<n:=by have:=HV.out.len;have:=hf.1;omega
 have HK:=Q2 (show 0<=(0:Int)/\(0:Int)<F.length by have:=HV.out.len;omega);have HSO:=Q2 hR;have HF26:=Q2 hF;clear hF hR hf hs hg hz hd hl;go_enter_defers Tryz.func11,Tryz.ntmps11;refine Qz (M:=[]) (W:=W) (N:=49) (E:=[VD,(1,.slice A2 m c2)]) (O:=[]) ?_ mc3 QR;refine yq<|yr ?_;refine yB fun b2=>?_;refine yA fun b4=>?_;refine yA fun b5=>?_;refine yl<|yn<|yq<|yq<|yr<|yo (zD 2) ?_;refine Q4 Qn3 ?_;refine yA fun b6=>?_;refine Q58 ?_;have hne:(!((0:Int)==0&&(0:Int)==0))=false:=rfl;refine Qlz ?_;refine yl<|yn<|y0<|ys<|yn<|yq<|yq<|yr<|yo zM<|yo zL<|yo zgf<|yl<|yn<|y0<|ys<|yn<|yq<|yr<|yo zu ?_;refine QhL rfl rfl rfl rfl (fun dq' hdq=>?_);refine yl<|yn<|yq ?_;replace hdq:dq'.D=paD b4 b5:=hdq;refine Xk [.blk b2 QlT] [] Q5 ?_;refine Qc 0 rfl Q5 QbA (zD 0) ?_;refine Qc 1 rfl Q5 QbA (zD 0) ?_;refine Qc 3 rfl Q5 QbA zM ?_;refine QL 2 Q5 rfl rfl (QY (fun y:(Option Addr×Nat)×List Value×List Qf=>.slice y.1.1 n y.1.2) (fun y=>n<=y.1.2/\FsL F n y.1.1 y.2.1 y.2.2) (fun y=>_++y.2.2) rfl rfl rfl (fun w hw=>(Q8l Q5m HS.out hc Q10 HZ.out h0n).mono (fun e w' ⟨As,cs,xs,L,h1,h2,h3,h4,h5⟩=>⟨((As,cs),xs,L),h1,⟨h2,h3⟩,hw.made h5 h4⟩))) (fun _=>.inr QbA) rfl Q1 (fun y hy=>?_);obtain⟨⟨As,cs⟩,xs,Lf⟩:=y;obtain⟨hncs,hfs⟩:=hy;replace hncs:n<=cs:=hncs;have HFS:=Q2 (show FsL F n As xs Lf from hfs);clear hfs;refine Qc 4 rfl Q5 QbA (Jv (xs:=[(0,.tmp 21),(1,.tmp 23),(2,.tmp 24)]) (vs:=[VD,(1,.slice As n cs),(2,.slice A2 m c2)]) (v:=.agg #[.slice A n c,.slice As n cs,.slice A2 m c2,.int .i64 0]) rfl rfl Q1 rfl rfl Q8b) ?_;refine QL 5 Q5 rfl rfl (QkT (cs:=[.slice A n c,.slice As n cs,.slice A2 m c2,.int .i64 0]) rfl rfl rfl rfl) (fun _=>.inr (Qm.sel [4] Q1 rfl)) rfl Q1 (fun g hg=>?_);obtain⟨hg1,hg2⟩:=hg;refine Qc 6 rfl Q5 (Qm.sel [4] Q1 rfl) zA ?_;refine X8 ?_ Q5;have HG2:=Q2 (show ∀x∈Lf,∀q,x.foot=some q->q<g from fun x hx=>hg2 x Q7c);clear hg2;refine yn<|yq<|yr<|yo zM ?_;refine Qes (J9 _ _ _ rfl rfl rfl (fun w hw=>(Q4V (z:=⟨A,As,A2,n,m,c,cs,c2⟩) (B:=g) (g:=g) (D:=D) HF26.out HV.out (KM F D) w 0 0 HK.out ⟨⟨(HF.out.below hw.k.below).more hg1,HFS.out.fr (fun x hx=>hw.onAll x Q7c) HG2.out h0n,(HD.out.below hw.k.below).more hg1⟩,Nat.le_refl _,hw.own 0 _ rfl,hc,hmc,hc2,Nat.zero_le _,by omega⟩ (HSO.out.imp fun _ h=>h.1)).mono (fun e w' h=>Qta hw h))) rfl Q1 (fun a ch w ha ⟨x,h1,h2,h3⟩=>Qnz hdq h2 rfl rfl ha (h3.sel [2,1] Q1) (fun w2 hb=>Qhk (Qhh HZ.out HL.out h1) hb) rfl) (fun y hy=>?_);refine yW 3 ?_;refine yl ?_;obtain⟨hy1,hy2,hy3⟩:=hy;have HYF:=Q2 hy3;have HY1:=Q2 hy1;have HY2:=Q2 hy2;have hfar:=QlB HV.out hy1;clear hy1 hy2 hy3;by_cases hq:y.r.2.2<D.length
 ·have hqm:(y.r.2.2:Int)<(m:Int):=by omega
  refine Qf1 ?_;refine yo zF<|yo (zB 0)<|yo zM<|yo zL<|yo zlt<|yl<|yn<|y1<|yr<|yo zM ?_;refine Q4 QkW ?_;refine yo zF<|yo (zB 0) ?_;exact Qes (J9 (B:=fun ch w'=>ch=YO 1 (y.r.2.2:Int)/\Wd [] W _ w') _ _ _ rfl rfl rfl (fun w hw=>Q7v hw (fun w' hw'=>⟨rfl,hw'⟩))) rfl Q1 (fun a ch w ha (hb:ch=YO 1 (y.r.2.2:Int)/\_)=>Qnz hdq hb.1 rfl rfl ha (hb.2.sel [3,2] Q1) (fun w2 hb=>Qhk (Q8V HZ.out HL.out HY1.out hq) hb) rfl) (fun i=>i.elim)
 ·have hqm:¬(y.r.2.2:Int)<(m:Int):=by omega
  obtain⟨hsz,hvf⟩:Sz y.r.1 y.r.2.1/\XJ y.r.1 y.r.2.1=(0,0):=by
   obtain⟨x,h1,h2⟩:=HSO.out;rw[HY1.out] at h1;injection h1 with h1;exact h2 _ h1.symm
  have HSZ:=Q2 hsz;have HVF:=Q2 hvf;clear hsz hvf
  have HF0:=Q2 (Q9p HZ.out HL.out HY1.out hq HVF.out);refine yn<|yq<|yq<|yr<|yo zM ?_;refine Q4 (QoF rfl rfl Q1 rfl rfl) ?_;refine yo zF<|yo (zB 0)<|yo zM<|yo zL<|yo zlf<|yl<|yn<|y0<|ys<|yn<|yq<|yq<|yr<|yo (zD 3) ?_;refine Q4 (Ql rfl rfl Q1 rfl rfl (fun w hw=>(Q0q HSZ.out (HY2.out.vin fun x hx=>hw.onAll x (by simp [hx]))).mono (fun e w' h=>by rw[HVF.out] at h;exact h))) ?_;refine Q4 mc6 ?_;refine Q4 (QoQ rfl rfl Q1 rfl rfl rfl rfl) ?_;refine yl<|yn<|y0<|ys<|yn<|yq<|yr<|yo (zD 3) ?_;refine Q4 mc6 ?_;refine yW 3 ?_;refine yW 2 ?_;refine yl<|yn<|yt ?_;exact Qua hdq mc4 (RsV.blk 3 rfl rfl rfl) Qg2 (fun w hw=>⟨⟨y.Ab,y.nb,y.cb,y.An,y.nn,y.cn,y.Ap,y.np,y.cp,y.L⟩,by rw[HF0.out],by rw[HF0.out];exact HY2.out,HYF.out.new fun x hx=>hw.onAll x Q7c,hw.k.below⟩)
end
end Go.Proofs.YtphkhfdmlcnoeaaGreatDoor
