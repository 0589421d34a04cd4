import Derived.Test.YtphkhfdmlcnoeaaGreatDoorP19
namespace Go.Proofs.YtphkhfdmlcnoeaaGreatDoor
set_option linter.unusedVariables false
set_option linter.unusedSimpArgs false
set_option maxRecDepth 1000000
set_option maxHeartbeats 32000000
open Go.RowKit
def eqF:VF->VF->Bool
 |.nil,.nil=>true
 |.cons d p r,.cons d' p' r'=>(d.k==d'.k&&d.n==d'.n&&d.bs==d'.bs&&d.ns==d'.ns&&p.len==p'.len&&eqF p p')&&eqF r r'
 |_,_=>false
def eqV(d:Nd)(p:VF)(d':Nd)(p':VF):Bool:=d.k==d'.k&&d.n==d'.n&&d.bs==d'.bs&&d.ns==d'.ns&&p.len==p'.len&&eqF p p'
theorem Q6X(d:Nd)(p r:VF)(d':Nd)(p' r':VF):eqF (.cons d p r) (.cons d' p' r')=(eqV d p d' p'&&eqF r r'):=rfl
theorem QqG:∀(F G:VF),eqF F G=true↔F=G:=by
 intro F;induction F with
 |nil=>intro G;cases G with
  |nil=>simp [eqF]
  |cons=>simp [eqF]
 |cons d p r ih1 ih2=>intro G;cases G with
  |nil=>simp [eqF]
  |cons d' p' r'=>
   rw[Q6X,eqV];simp only[Bool.and_eq_true,beq_iff_eq,ih1,ih2,VF.cons.injEq];constructor
   ·rintro⟨⟨⟨⟨⟨⟨h1,h2⟩,h3⟩,h4⟩,h5⟩,h6⟩,h7⟩
    obtain⟨a,b,c,e⟩:=d;obtain⟨a',b',c',e'⟩:=d';simp only at h1 h2 h3 h4;subst h1 h2 h3 h4;exact⟨rfl,h6,h7⟩
   ·rintro⟨rfl,rfl,rfl⟩
    exact⟨⟨⟨⟨⟨⟨rfl,rfl⟩,rfl⟩,rfl⟩,rfl⟩,rfl⟩,rfl⟩
theorem QqD(d:Nd)(p:VF)(d':Nd)(p':VF):eqV d p d' p'=true↔d=d'/\p=p':=by
 have h:=QqG (.cons d p .nil) (.cons d' p' .nil);rw[Q6X,show eqF .nil .nil=true from rfl,Bool.and_true] at h;rw[h];simp
theorem Q3V{W:World}{A A2:Option Addr}{n c m c2:Nat}{xs uy:List (List UInt8)}(h1:Rd W W.heap.size 1 A n (sv xs))(h2:Rd W W.heap.size 1 A2 m (sv uy))(hn:n<=1048576):Calls Tryz.prog 42 #[.slice A n c,.slice A2 m c2] W (FiE W (xs==uy)):=by
 have H1:=Q2 h1;have H2:=Q2 h2;have hl1:xs.length=n:=by have:=h1.len;unfold sv at this;simpa using this
 have hl2:uy.length=m:=by have:=h2.len;unfold sv at this;simpa using this
 clear h1 h2;go_enter Tryz.func42,Tryz.ntmps42;refine Qs (M:=[]) (W:=W) (N:=26) (E:=[(0,.slice A n c),(1,.slice A2 m c2)]) (O:=[]) ?_ mc3 (Wd.start [] W);by_cases hnm:n=m
 case neg=>
  have hne:(xs==uy)=false:=by
   rw[beq_eq_false_iff_ne];intro e;rw[e] at hl1;omega
  refine yq<|yr<|yo zA<|yl<|yn<|yq<|yq<|yr<|yo zM<|yo zL<|yo zM<|yo zL<|yo znt<|yl<|yn<|y1<|yq<|yr<|yo zA<|yl<|yn<|yt<|yc ?_;exact Q7 mc4 rfl (.tmp rfl) (fun w hw=>⟨by rw[hne],hw.k.below⟩)
 subst hnm;refine yq<|yr<|yo zA<|yl<|yn<|yq<|yq<|yr<|yo zM<|yo zL<|yo zM<|yo zL<|yo znf<|yl<|yn<|y0<|ys<|yn<|yq<|yq<|yr<|yo zA<|yl<|yn<|yb ?_;refine X8 (ι:=Nat) (fun k=>k<=n/\xs.take k=uy.take k) (fun k=>n - k) (fun k=>[(0,.slice A n c),(1,.slice A2 n c2),(5,.int .i64 (k:Int))]) (fun _=>[]) 0 Qf0 J9 Zk ?_;rintro k ⟨hk,hall⟩;have HA:=Q2 hall;clear hall;by_cases hkn:k<n
 ·obtain⟨b,o,s,rfl,hb,hs,hc⟩:=VI H1.out hkn;obtain⟨b2,o2,s2,rfl,hb2,hs2,hc2⟩:=VI H2.out hkn
  by_cases hss:s.data.toList=s2.data.toList
  ·have he:(s.data.toList != s2.data.toList)=false:=bne_eq_false_iff_eq.2 hss;refine QrL ?_;refine Qd zM ?_;refine Qgx ?_;refine QhT ?_;refine Qr (k+1) ⟨hkn,?_⟩ Q3 Q59 Zk;rw[List.take_add_one,List.take_add_one,HA.out,hs,hs2,hss]
  ·have he:(s.data.toList != s2.data.toList)=true:=bne_iff_ne.2 hss
   have hne:(xs==uy)=false:=by
    exact Qpe
   refine QrL ?_;refine Qd zM ?_;refine Qgx ?_;refine QmB ?_;exact Q7 mc4 rfl (.tmp rfl) (fun w hw=>⟨by rw[hne],hw.k.below⟩)
 ·refine yq<|yq<|yr<|yo zM<|yo zM<|yo zL<|yo zlf<|yl<|yn<|y0<|ye<|yn<|yq<|yr<|yo zA<|yl<|yn<|yt ?_;refine Q7 mc4 rfl (.tmp rfl) (fun w hw=>⟨?_,hw.k.below⟩);have h3:xs.take k=xs:=List.take_of_length_le Q3;have h4:uy.take k=uy:=List.take_of_length_le Q3;have:=HA.out;rw[h3,h4] at this;rw[this,beq_self_eq_true]
def SaC(d:Nd)(p:VF):Prop:=∀(d':Nd) (p':VF) (W:World) (v v':Value),d.ns.length<=1048576->p.len<=1048576->XU p->VIn W W.heap.size v d p->VIn W W.heap.size v' d' p'->Calls Tryz.prog 13 #[v,v'] W (FiE W (eqV d p d' p'))
structure Sw where
 i:Nat
 l:VF
 l':VF
theorem Yk.range2{w:World}{b o:Nat}{d:Nd}{sb sn sp:Value}(h:Yk w b o d sb sn sp):w.rangeAt b o [.int .i64 d.k,.int .i64 d.n,sb,sn,sp]:=fun j u hu=>by
 obtain⟨h0,h1,h2,h3,h4⟩:=h;match j,hu with
 |0,hu=>cases hu;exact h0
 |1,hu=>cases hu;exact h1
 |2,hu=>cases hu;exact h2
 |3,hu=>cases hu;exact h3
 |4,hu=>cases hu;exact h4
theorem Qed(d:Nd)(p:VF)(hall:VF.All SaC p):SaC d p:=by
 intro d' p' W v v' hns hp6 hfp hv hv';have HALL:=Q2 hall;have HFP:=Q2 hfp;obtain⟨RES,hres⟩:∃x,eqV d p d' p'=x:=⟨_,rfl⟩;have HR:=Q2 hres;rw[hres];obtain⟨sb,sn,sp,rfl,Ab,nb,cb,An,nn,cn,Ap,cp,rfl,rfl,rfl,hnb,hnn,hpl,hcm,hrb,hrn,hch⟩:=hv;obtain⟨sb',sn',sp',rfl,Ab',nb',cb',An',nn',cn',Ap',cp',rfl,rfl,rfl,hnb',hnn',hpl',hcm',hrb',hrn',hch'⟩:=hv';have hnnl:d.ns.length=nn:=by have:=hrn.len;rw[XQ] at this;exact this
 have HRB:=Q2 hrb;have HRN:=Q2 hrn;have HCH:=Q2 hch;have HRB':=Q2 hrb';have HRN':=Q2 hrn';have HCH':=Q2 hch';have hn6:nn<=1048576:=by omega
 obtain⟨dk,dn,dbs,dns⟩:=d;obtain⟨dk',dn',dbs',dns'⟩:=d';clear hrb hrn hch hrb' hrn' hch' hall hfp hns hnnl hres;go_enter Tryz.func13,Tryz.ntmps13;refine Qs (M:=[]) (W:=W) (N:=62) (E:=[(0,.agg #[.int .i64 dk,.int .i64 dn,.slice Ab nb cb,.slice An nn cn,.slice Ap p.len cp]),(1,.agg #[.int .i64 dk',.int .i64 dn',.slice Ab' nb' cb',.slice An' nn' cn',.slice Ap' p'.len cp'])]) (O:=[]) ?_ mc3 QV;refine yq<|yr ?_;refine yB fun b2=>?_;refine yB fun b3=>?_;refine yo zA<|yl ?_;by_cases hk:dk=dk'
 case neg=>
  have HZ:=Q2 (show RES=false by rw[<- HR.out];unfold eqV;simp only;rw[beq_eq_false_iff_ne.2 hk];rfl);refine yn<|yq<|yq<|yr<|yo zF<|yo (zB 1)<|yo zF<|yo (zB 0)<|yo znt<|yo zM<|yo zS<|yo zS<|yo zS<|yo zS<|yo zS<|yo zY<|yo zM<|yo zS<|yo zS<|yo zS<|yo zS<|yo zS<|yo zS<|yo zY<|yo zM<|yo zS<|yo zS<|yo zS<|yo zS<|yo zS<|yo zS<|yo zY<|yo zM<|yo zS<|yo zS<|yo zS<|yo zS<|yo zS<|yo zS<|yo zS<|yo zY<|yl<|yn<|y1<|yq<|yr<|yo zA<|yl<|yn<|yt<|yc ?_;exact Qfg
 by_cases hn:dn=dn'
 case neg=>
  have HZ:=Q2 (show RES=false by rw[<- HR.out];unfold eqV;simp only;rw[beq_eq_false_iff_ne.2 hn];simp);refine yn<|yq<|yq<|yr<|yo zF<|yo (zB 1)<|yo zF<|yo (zB 0)<|yo znf<|yo zM<|yo zF<|yo (zB 1)<|yo zF<|yo (zB 0)<|yo znt<|yo zN<|yo zM<|yo zS<|yo zS<|yo zS<|yo zS<|yo zS<|yo zS<|yo zY<|yo zM<|yo zS<|yo zS<|yo zS<|yo zS<|yo zS<|yo zS<|yo zY<|yo zM<|yo zS<|yo zS<|yo zS<|yo zS<|yo zS<|yo zS<|yo zS<|yo zY<|yl<|yn<|y1<|yq<|yr<|yo zA<|yl<|yn<|yt<|yc ?_;exact Qfg
 have hby:∀w,Wd [] W [.blk b3 (.cells ([.int .i64 dk',.int .i64 dn',.slice Ab' nb' cb',.slice An' nn' cn',.slice Ap' p'.len cp']:List Value).toArray 30 (0,0)),.blk b2 (.cells ([.int .i64 dk,.int .i64 dn,.slice Ab nb cb,.slice An nn cn,.slice Ap p.len cp]:List Value).toArray 30 (0,0))] w->Calls Tryz.prog 18 #[.slice Ab nb cb,.slice Ab' nb' cb'] w (FiE w (dbs==dbs')):=fun w hw=>(Calls.stay (Q4Z (HRB.out.up hw.k.below) (HRB'.out.up hw.k.below))).mono fun e w' h=>h;have hst:∀w,Wd [] W [.blk b3 (.cells ([.int .i64 dk',.int .i64 dn',.slice Ab' nb' cb',.slice An' nn' cn',.slice Ap' p'.len cp']:List Value).toArray 30 (0,0)),.blk b2 (.cells ([.int .i64 dk,.int .i64 dn,.slice Ab nb cb,.slice An nn cn,.slice Ap p.len cp]:List Value).toArray 30 (0,0))] w->Calls Tryz.prog 42 #[.slice An nn cn,.slice An' nn' cn'] w (FiE w (dns==dns')):=fun w hw=>Q3V (HRN.out.up hw.k.below) (HRN'.out.up hw.k.below) hn6;obtain⟨qb,hqb⟩:∃q,(dbs==dbs')=q:=⟨_,rfl⟩;obtain⟨qn,hqn⟩:∃q,(dns==dns')=q:=⟨_,rfl⟩;have HRE:=Q2 (show RES=(qb&&qn&&p.len==p'.len&&eqF p p') by rw[<- HR.out];unfold eqV;simp only;rw[hqb,hqn,hk,hn,beq_self_eq_true,beq_self_eq_true];rfl);rw[hqb] at hby;rw[hqn] at hst;cases qb with
 |false=>
  have HZ:=Q2 (show RES=false by rw[HRE.out];rfl);refine yn<|yq<|yq<|yr<|yo zF<|yo (zB 1)<|yo zF<|yo (zB 0)<|yo znf<|yo zM<|yo zF<|yo (zB 1)<|yo zF<|yo (zB 0)<|yo znf<|yo zN<|yo zM<|yo zF<|yo (zB 1)<|yo zF<|yo (zB 0) ?_;refine Q4 (Qj rfl rfl Q1 rfl rfl (fun w hw=>hby w hw)) ?_;refine yo zO<|yo zN<|yo zM<|yo zS<|yo zS<|yo zS<|yo zS<|yo zS<|yo zS<|yo zY<|yo zM<|yo zS<|yo zS<|yo zS<|yo zS<|yo zS<|yo zS<|yo zS<|yo zY<|yl<|yn<|y1<|yq<|yr<|yo zA<|yl<|yn<|yt<|yc ?_;exact Qfg
 |true=>
 cases qn with
 |false=>
  have HZ:=Q2 (show RES=false by rw[HRE.out];rfl);refine QmX ?_;refine yo zO<|yo zN<|yo zM<|yo zS<|yo zS<|yo zS<|yo zS<|yo zS<|yo zS<|yo zS<|yo zY<|yl<|yn<|y1<|yq<|yr<|yo zA<|yl<|yn<|yt<|yc ?_;exact Qfg
 |true=>
 by_cases hlen:p.len=p'.len
 case neg=>
  have HZ:=Q2 (show RES=false by rw[HRE.out,beq_eq_false_iff_ne.2 hlen];rfl);refine QmX ?_;refine yo zO<|yo zN<|yo zM<|yo zF<|yo (zB 1)<|yo zL<|yo zF<|yo (zB 0)<|yo zL<|yo znt<|yo zN<|yl<|yn<|y1<|yq<|yr<|yo zA<|yl<|yn<|yt<|yc ?_;exact Qfg
 have HS:=Q2 (show RES=eqF p p' by rw[HRE.out,hlen,beq_self_eq_true];rfl);refine QmX ?_;refine yo zO<|yo zN<|yo zM<|yo zF<|yo (zB 1)<|yo zL<|yo zF<|yo (zB 0)<|yo zL<|yo znf<|yo zN<|yl<|yn<|y0<|ys<|yn<|yq<|yq<|yr<|yo zA<|yl<|yn<|yb ?_;obtain⟨L,hL⟩:∃L,p.len=L:=⟨_,rfl⟩;have hL':p'.len=L:=hlen.symm.trans hL;clear hby hst hlen hqb hqn;rw[hL] at hp6 hpl;have HLL:=Q2 (And.intro hL hL');simp only[hL,hL'];refine X8 (ι:=Sw) (fun y=>VF.All SaC y.l/\XU y.l/\(0<y.l.len->∃b o,Ap=some ⟨b,o,none⟩/\b<W.heap.size/\FIn W W.heap.size y.l b (o+y.i*5))/\(0<y.l'.len->∃b o,Ap'=some ⟨b,o,none⟩/\b<W.heap.size/\FIn W W.heap.size y.l' b (o+y.i*5))/\y.i+y.l.len=L/\y.i+y.l'.len=L/\RES=eqF y.l y.l') (fun y=>L - y.i) (fun y=>[Q2k,Q7Q,(5,.int .i64 (y.i:Int))]) (fun _=>Qte) ⟨0,p,p'⟩ ⟨HALL.out,HFP.out,by simpa using HCH.out,by simpa using HCH'.out,by show 0+p.len=L;rw[HLL.out.1,Nat.zero_add],by show 0+p'.len=L;rw[HLL.out.2,Nat.zero_add],HS.out⟩ J9 Zk ?_;rintro⟨i,l,l'⟩ ⟨hall,hfl,hcl,hcl',hil,hil',hre⟩;replace hil:i+l.len=L:=hil;replace hil':i+l'.len=L:=hil';have HAL:=Q2 (show VF.All SaC l from hall);have HFL:=Q2 (show XU l from hfl);have HCL:=Q2 (show 0<l.len->∃b o,Ap=some ⟨b,o,none⟩/\b<W.heap.size/\FIn W W.heap.size l b (o+i*5) from hcl);have HCL':=Q2 (show 0<l'.len->∃b o,Ap'=some ⟨b,o,none⟩/\b<W.heap.size/\FIn W W.heap.size l' b (o+i*5) from hcl');have HRL:=Q2 (show RES=eqF l l' from hre);clear hall hfl hcl hcl' hre;show sE _ _ _ _ _ [Q2k,Q7Q,(5,.int .i64 (i:Int))] Qte _;cases l with
 |nil=>
  have hiL:i=L:=hil;have h0:l'=.nil:=by cases l' with
   |nil=>rfl
   |cons=>simp only[VF.len] at hil';omega
  subst h0;have HZ:=Q2 (show RES=true from HRL.out);refine yq<|yq<|yr<|yo zM<|yo zF<|yo (zB 1)<|yo zL<|yo zlf<|yl<|yn<|y0<|ye<|yn<|yq<|yr<|yo zA<|yl<|yn<|yt ?_;exact Qfg
 |cons d1 p1 r1=>
  cases l' with
  |nil=>simp only[VF.len] at hil hil';omega
  |cons d2 p2 r2=>
   have hilt:i<L:=by simp only[VF.len] at hil;omega
   obtain⟨b,o,rfl,hb,⟨sb1,sn1,sp1,hc1,hd1⟩,hr1⟩:=HCL.out Q7z;obtain⟨b',o',rfl,hb',⟨sb2,sn2,sp2,hc2,hd2⟩,hr2⟩:=HCL'.out Q7z;have HV1:=Q2 (show VIn W W.heap.size (.agg #[.int .i64 d1.k,.int .i64 d1.n,sb1,sn1,sp1]) d1 p1 from ⟨sb1,sn1,sp1,rfl,hd1⟩);have HV2:=Q2 (show VIn W W.heap.size Qn2 d2 p2 from ⟨sb2,sn2,sp2,rfl,hd2⟩);have hg1:=hc1.range2;have hg2:=hc2.range2;have HR1:=Q2 hr1;have HR2:=Q2 hr2;clear hc1 hc2 hd1 hd2 hr1 hr2;obtain⟨q,hq⟩:∃q,eqV d1 p1 d2 p2=q:=⟨_,rfl⟩;have HQ:=Q2 hq;have HRQ:=Q2 (show RES=(q&&eqF r1 r2) by rw[HRL.out,Q6X,hq]);clear hq;cases q with
   |false=>
    have HZ:=Q2 (show RES=false by rw[HRQ.out];rfl);refine QrQ ?_;refine QmB ?_;exact Qfg
   |true=>
    have HZ:=Q2 (show RES=eqF r1 r2 by rw[HRQ.out];rfl);refine QrQ ?_;refine QhT ?_;refine Qr ⟨i+1,r1,r2⟩ ⟨HAL.out.2,HFL.out.2.2.2,fun _=>⟨b,o,rfl,hb,by show FIn W W.heap.size r1 b (o+(i+1)*5);rw[show o+(i+1)*5=o+i*5+5 by omega];exact HR1.out⟩,fun _=>⟨b',o',rfl,hb',by show FIn W W.heap.size r2 b' (o'+(i+1)*5);rw[show o'+(i+1)*5=o'+i*5+5 by omega];exact HR2.out⟩,by show i+1+r1.len=L;simp only[VF.len] at hil;omega,by show i+1+r2.len=L;simp only[VF.len] at hil';omega,HZ.out⟩ (by show L - (i+1)<L - i;omega) Q59 Zk
theorem QbS(d:Nd)(p:VF):SaC d p:=VF.all_each Qed d p
section
variable {W w w':World}{z:Wz}{B g c n:Nat}{F:List Rl}{A:Option Addr}{xs:List UInt8}{k:Int}{d:Nd}{p:VF}{v:Value}
def WvC(z:Wz)(B g:Nat)(F:List Rl)(d:Nd)(p:VF):Prop:=QL d p.len=0->Q3t p->XR d->XU p->p.len<=1048576->∀(W:World) (A:Option Addr) (c:Nat) (xs:List UInt8) (n:Nat) (k:Int) (v:Value),0<=k/\k<F.length->XV W z B g F A c xs n->VIn W B v d p->xs.length+QH d p<=1099511627776->n+QH d p<=1099511627776->Calls Tryz.prog 45 #[.pointer (some ⟨g,0,none⟩),.int .i64 k,v] W (WrE z g W A c xs (QD F k d p n) n (QH d p))
theorem Yk.range{w:World}{b o:Nat}{d:Nd}{sb sn sp:Value}(h:Yk w b o d sb sn sp):w.rangeAt b o [.int .i64 d.k,.int .i64 d.n,sb,sn,sp]:=fun j u hu=>by
 obtain⟨h0,h1,h2,h3,h4⟩:=h;match j,hu with
 |0,hu=>cases hu;exact h0
 |1,hu=>cases hu;exact h1
 |2,hu=>cases hu;exact h2
 |3,hu=>cases hu;exact h3
 |4,hu=>cases hu;exact h4
structure Aw where
 i:Nat
 l:VF
 uy:List UInt8
 m:Nat
 A:Option Addr
 c:Nat
theorem Q72{l:VF}(hall:VF.All (WvC z B g F) l)(hgl:Q3t l)(hfl:XU l)(h:XV W z B g F A c xs n)(hk:0<=k/\k<F.length){Ap:Option Addr}{cp:Nat}(hch:0<l.len->∃b o,Ap=some ⟨b,o,none⟩/\b<B/\FIn W B l b o)(hl6:l.len<=1048576)(hsz:xs.length+QU l<=1099511627776)(hno:n+QU l<=1099511627776):
  Calls Tryz.prog 85 #[.pointer (some ⟨g,0,none⟩),.int .i64 k,.slice Ap l.len cp] W (WrE z g W A c xs (Q1f F k l n) n (QU l)):=by
 have H:=Q2 h;have hwd:=h.wd;obtain⟨RES,hres⟩:∃x,Q1f F k l n=x:=⟨_,rfl⟩;have HR0:=Q2 (show RES=apW [] (Q1f F k l n) by rw[V7,hres]);rw[hres];have HA0:=Q2 hall;have HG0:=Q2 hgl;have HF0:=Q2 hfl;have HC0:=Q2 hch;obtain⟨Af,nn,cf⟩:=z;obtain⟨L,hL⟩:∃L,l.len=L:=⟨_,rfl⟩;obtain⟨C,hC⟩:∃C,QU l=C:=⟨_,rfl⟩;have HLC:=Q2 (And.intro hL hC);rw[hL] at hl6 ⊢;rw[hC] at hsz hno ⊢;clear h hres hall hgl hfl hch hL hC;go_enter Tryz.func85,Tryz.ntmps85;haveI:Pan (bodyPost Tryz.prog Tryz.f85 (WrE ⟨Af,nn,cf⟩ g W A c xs RES n C)) (VJ RES (wM g A xs.length c) W):=Pan.body fun ch w' ⟨x,h1,h2,h3⟩=>J6
 refine Qs (M:=wM g A xs.length c) (W:=W) (N:=19) (E:=[ZR,Q5Q,(2,.slice Ap L cp)]) (O:=[.blk g Qli,.row A xs.length c 5 1 (bv xs)]) ?_ Z0 hwd;clear hwd;refine yq<|yr<|yo zM<|yo zL<|yo zM<|yl<|yn<|yb ?_;refine X8 (ι:=Aw) (fun y=>VF.All (WvC ⟨Af,nn,cf⟩ B g F) y.l/\Q3t y.l/\XU y.l/\(0<y.l.len->∃b o,Ap=some ⟨b,o,none⟩/\b<B/\FIn W B y.l b (o+y.i*5))/\y.i+y.l.len=L/\RES=apW y.uy (Q1f F k y.l y.m)/\y.uy.length+QU y.l<=C/\y.m+QU y.l<=n+C) (fun y=>L - y.i) (fun y=>[ZR,Q5Q,(8,.slice Ap L cp),(9,.int .i64 (L:Int)),(10,.int .i64 (y.i:Int))]) (fun y=>[.blk g (.cells ([.slice Af nn cf,.slice y.A (xs++y.uy).length y.c,.int .i64 (y.m:Int)]:List Value).toArray 77 (0,0)),.row y.A (xs++y.uy).length y.c 5 1 (bv (xs++y.uy))]) ⟨0,l,[],n,A,c⟩ ⟨HA0.out,HG0.out,HF0.out,by simpa using HC0.out,by show 0+l.len=L;rw[HLC.out.1,Nat.zero_add],HR0.out,by show 0+QU l<=C;rw[HLC.out.2];omega,by show n+QU l<=n+C;rw[HLC.out.2];omega⟩ Q0J (fun w hw=>?_) ?_
 ·simp only[List.append_nil]
  exact hw
 rintro⟨i,l,uy,m,A',c'⟩ ⟨hall,hgl,hfl,hch,hil,hres,hy,hm⟩;replace hil:i+l.len=L:=hil;replace hy:uy.length+QU l<=C:=hy;replace hm:m+QU l<=n+C:=hm;have HR:=Q2 (show RES=apW uy (Q1f F k l m) from hres);have HAL:=Q2 (show VF.All (WvC ⟨Af,nn,cf⟩ B g F) l from hall);have HGL:=Q2 (show Q3t l from hgl);have HFL:=Q2 (show XU l from hfl);have HCL:=Q2 (show 0<l.len->∃b o,Ap=some ⟨b,o,none⟩/\b<B/\FIn W B l b (o+i*5) from hch);clear hall hgl hfl hch hres;show sE _ _ _ _ _ [ZR,Q5Q,(8,.slice Ap L cp),(9,.int .i64 (L:Int)),(10,.int .i64 (i:Int))] [.blk g (.cells ([.slice Af nn cf,.slice A' (xs++uy).length c',.int .i64 (m:Int)]:List Value).toArray 77 (0,0)),.row A' (xs++uy).length c' 5 1 (bv (xs++uy))] _;cases l with
 |nil=>
  have hiL:i=L:=hil;have HZ:=Q2 (show RES=.ok (uy,m) by rw[HR.out];show Except.ok (uy++[],m)=_;rw[List.append_nil]);have hy':uy.length<=C:=by simp only[QU] at hy;exact hy
  have hm':m<=n+C:=by simp only[QU] at hm;exact hm
  refine Qe0 ?_;exact Zc Yu rfl (fun w hw=>Yd H.out 0 1 (b:=uy) hw rfl rfl HZ.out hy' hm')
 |cons d p r=>
  have hilt:i<L:=by simp only[VF.len] at hil;omega
  obtain⟨b,o,rfl,hb,⟨sb,sn,sp,hc5,hd5⟩,hrest⟩:=HCL.out Q7z;have HV0:=Q2 (show VIn W B (.agg #[.int .i64 d.k,.int .i64 d.n,sb,sn,sp]) d p from ⟨sb,sn,sp,rfl,hd5⟩);obtain⟨_,_,_,_,_,_,_,_,rfl,rfl,rfl,_⟩:=hd5;have hrg:=hc5.range;have HV:=HV0;have HRS:=Q2 hrest;have hbM:b∉wM g A xs.length c:=fun hm=>by
   rcases Z1.1 hm with e|e
   ·have:=H.out.hB;omega
   ·exact Q9B
  clear hc5 hrest HV0;simp only[QU] at hy hm;have hsz1:(xs++uy).length+QH d p<=1099511627776:=by rw[List.length_append];unfold QH;omega
  have hno1:m+QH d p<=1099511627776:=by unfold QH;omega
  refine yq<|yr<|yo zlt<|yl<|yn<|yq<|y1<|ys<|yn<|yq<|yb<|yq<|yr<|yo (zi (hj:=hilt)) ?_;refine Q4 (Xs rfl rfl Q1 rfl rfl (fun w hw=>hw.range_old hrg hbM) rfl) ?_;refine yA fun b7=>?_;refine yW 0 ?_;refine yl<|yn<|yr<|yo zM<|yo zM<|yo (zD 0) ?_;refine ZP (Xp _ _ _ rfl rfl rfl (fun w hw=>(HAL.out.1 HGL.out.1 HGL.out.2.1 HFL.out.1 HFL.out.2.2.1 HFL.out.2.1 w A' c' (xs++uy) m k _ hk (H.out.nextW hw 1 2 rfl rfl) (HV.out.below Q4w Xk) hsz1 hno1).mono (fun e w' h=>Q9v 1 2 Q1 hw rfl rfl (fun x hx=>by rw[HR.out];show apW uy (bnW (QD F k d p m) _)=_;rw[hx];rfl) h))) rfl Q1 (fun y hy2=>?_);refine yl ?_;obtain⟨ub,um,uA,uc⟩:=y;obtain⟨hy3,hy4,hy5⟩:=hy2;replace hy3:QD F k d p m=.ok (ub,um):=hy3;replace hy4:ub.length<=QH d p:=hy4;replace hy5:um<=m+QH d p:=hy5;have HN:=Q2 (show RES=apW (uy++ub) (Q1f F k r um) by rw[HR.out];show apW uy (bnW (QD F k d p m) _)=_;rw[hy3,Qln,Q3j]);clear hy3;unfold QH at hy4 hy5;refine Q8i ?_;refine Qr ⟨i+1,r,uy++ub,um,uA,uc⟩ ⟨HAL.out.2,HGL.out.2.2,HFL.out.2.2.2,fun _=>⟨b,o,rfl,hb,by show FIn W B r b (o+(i+1)*5);rw[show o+(i+1)*5=o+i*5+5 by omega];exact HRS.out⟩,by show i+1+r.len=L;simp only[VF.len] at hil;omega,HN.out,by show (uy++ub).length+QU r<=C;rw[List.length_append];omega,by show um+QU r<=n+C;omega⟩ (by show L - (i+1)<L - i;omega) Yc (fun w hw=>?_);have h:=hw.tl;simp only[<- List.append_assoc];exact h
theorem Qwt(hall:VF.All (WvC z B g F) p)(hgp:Q3t p)(hfp:XU p)(hv:Fm F)(hk:0<=k/\k<F.length)(h:XV W z B g F A c xs n)(hval:VIn W B v d p)(hd1:d.bs.length<=1048576)(hd2:d.ns.length<=1048576)(hn0:QL d p.len=0)(hpl6:p.len<=1048576)(hsz:xs.length+QH d p<=1099511627776)(hno:n+QH d p<=1099511627776)(hfit:Xm F (Qg F k) d p=true)(hkind:(Qg F k).kind=6):
  Calls Tryz.prog 45 #[.pointer (some ⟨g,0,none⟩),.int .i64 k,v] W (WrE z g W A c xs (QD F k d p n) n (QH d p)):=by
 have H:=Q2 h;have HV0:=Q2 hv;have hwd:=h.wd;have hFn:=h.len;have hr:=hv.toUsd.rok hk;have hfc:=Qbd
 rw[hfit] at hfc;obtain⟨RES,hres⟩:∃x,QD F k d p n=x:=⟨_,rfl⟩;have HVAL:=Q2 hval;have HALL:=Q2 hall;have HGP:=Q2 hgp;have HFP:=Q2 hfp;clear hall hgp hfp;have HK0:=Q2 (show (Qg F k).kind=6 from hkind);have HL:=Q2 (show RES=apW (YO (Qg F (Qg F k).count) (p.len:Int)) (Q1f F (Qg F k).elem p (n+1)) by rw[<- hres];exact QjS hfit hkind);have hcnt:Vc (Qg F (Qg F k).count) (p.len:Int)=true:=by rw[Qa6 hkind,Bool.and_eq_true] at hfit;exact hfit.2
 have hNO:=hv.numOk hk KY;have hct:=hr.count KY;have hel:=hr.elem KY;rw[hres];obtain⟨Af,nn,cf⟩:=z;simp only at hFn;obtain⟨bf,of,haf,_⟩:=h.fm.2 Vf;simp only at haf;subst haf;obtain⟨hbB,Ab,cb,An,cn,Ap,cp,hrg,hru⟩:=h.fm.ruleB (k:=k) Jx;have hbM:bf∉wM g A xs.length c:=fun hm=>by
  rcases Z1.1 hm with e|e
  ·exact Vu
  ·exact Q0w
 have hkn:0<=k/\k<(nn:Int):=by omega
 have hBW:B<=W.heap.size:=by have:=h.hB;have:=h.lt;omega
 replace hfc:=fun(w:World) (hw:XV w _ B g F A c xs n) (hr:RuB w B (Qg F k) Ab cb An cn Ap cp) (hvl:VIn w B v d p)=>hfc w Ab An Ap cb cn cp hw hr hvl
 clear h;obtain⟨r,er⟩:∃r,Qg F k=r:=⟨_,rfl⟩;rw[er] at hr hrg hru hfc HK0 HL hcnt hNO hct hel;clear er hfit;obtain⟨sb,sn,sp,rfl,Abv,nb,cbv,Anv,nnv,cnv,Apv,cpv,rfl,rfl,rfl,hnb,hnn,hpl,hcm,hrb,hrn,hch⟩:=hval;have hnbl:d.bs.length=nb:=by have:=hrb.len;rw[X5] at this;exact this
 have hnnl:d.ns.length=nnv:=by have:=hrn.len;rw[XQ] at this;exact this
 subst hnbl hnnl;have HRB:=Q2 hrb;have HCH:=Q2 hch;have HRU:=Q2 hru;have HRK:=Q2 hr;have HD:=Q2 (Eq.refl d);obtain⟨dk,dn,dbs,dns⟩:=d;simp only[QH] at hsz hno hd1 hd2 hnb hnn ⊢;clear hrb hrn hch hru hv;obtain⟨name,kind,bs,size,big,mn,mx,stop,count,elem,names,parts⟩:=r;obtain⟨hbB2,Ab2,cb2,An2,cn2,Ap2,cp2,hrg2,hru2⟩:=H.out.fm.ruleB (k:=count) (by simp only;exact Qgs);have hct2:0<=count/\count<(nn:Int):=Qgs;simp only at hcnt hNO HL;obtain⟨r2,er2⟩:∃r,Qg F count=r:=⟨_,rfl⟩;rw[er2] at hrg2 hcnt hNO HL;clear er2 hru2;have hnc:=QsC
 have hnl:=Q01 hNO hcnt;obtain⟨uy,hys⟩:∃uy,YO r2 (p.len:Int)=uy:=⟨_,rfl⟩;simp only[hys] at hnc hnl HL;clear hys hNO hcnt hct;obtain⟨name2,kind2,bs2,size2,big2,mn2,mx2,stop2,count2,elem2,names2,parts2⟩:=r2;simp only[ruC] at hnc hrg2;have HNC:=Q2 hnc;clear hnc;simp only[ruC] at hr hrg hfc HK0;have HFC:=Q2 hfc;have HRUB:=Q2D;clear hfc;go_enter Tryz.func45,Tryz.ntmps45;haveI:Pan (bodyPost Tryz.prog Tryz.f45 (WrE ⟨some ⟨bf,of,none⟩,nn,cf⟩ g W A c xs RES n (300+dbs.length+QU p))) (VJ RES (wM g A xs.length c) W):=Pan.body fun ch w' ⟨x,h1,h2,h3⟩=>J6
 refine Qs (M:=wM g A xs.length c) (W:=W) (N:=223) (E:=Q9I) (O:=Q7U) ?_ Z0 hwd;clear hwd;refine yq<|yr ?_;refine yB fun b5=>?_;refine Q0y ?_;refine yA fun b6=>?_;refine Q1M ?_;have hkd:kind=6:=HK0.out;subst hkd;have hel':0<=elem/\elem<F.length:=hel;have hsz1:(xs++uy).length+QU p<=1099511627776:=by rw[List.length_append];omega
 have hno1:(n+1)+QU p<=1099511627776:=by omega
 have e1:(n:Int)+1=((n+1:Nat):Int):=rfl;refine Q85 ?_;refine yl<|yn<|yq<|yr<|yo zF<|yo (zB 0)<|yl<|yn<|yb<|yq<|yr<|yo zef<|yo zA<|yl<|yn<|y0<|yq<|yq<|yr<|yo zef<|yo zA<|yl<|yn<|y0<|yr<|yo zef<|yo zA<|yl<|yn<|y0<|yq<|yr<|yo zef<|yo zA<|yl<|yn<|y0<|yq<|yr<|yo zef<|yo zA<|yl<|yn<|y0<|yq<|yr<|yo zef<|yo zA<|yl<|yn<|y0<|yq<|yr<|yo zet<|yo zA<|yl<|yn<|y1<|yq ?_;rw[e1];refine Vb (B:=VJ RES (wM g A xs.length c) W) [.blk b6 QgR,.blk b5 QcQ,.blk g Qds] [13] Q5 ?_ ?_
 ·infer_instance
 refine Qt9 ?_;refine Q0I 13 Q5 rfl rfl Qhy (fun i=>.inl Q1) rfl Q1 (fun y hy=>?_);refine Q91 ?_ Q5;obtain⟨ub,um,uA,uc⟩:=y;obtain⟨hy1,hy2,hy3⟩:=hy;injection hy1 with hy1;injection hy1 with hyb hym;simp only at hyb hym;subst hyb hym;refine yn<|yr<|yo zM<|yo zF<|yo (zB 0)<|yo zF<|yo (zB 1) ?_;refine ZP (Xp _ _ _ rfl rfl rfl (fun w hw=>(Q72 HALL.out HGP.out HFP.out QfN hel' Qrs hpl6 hsz1 hno1).mono (fun e w' h=>Q9v 2 3 Q1 hw rfl rfl (fun x hx=>by rw[HL.out];show apW uy Qbn=_;rw[hx];rfl) h))) rfl Q1 (fun y hy=>?_);refine yl ?_;obtain⟨rb1,rm1,rA1,rc1⟩:=y;obtain⟨hz1,hz2,hz3⟩:=hy;replace hz1:Q1f F elem p (n+1)=.ok (rb1,rm1):=hz1;replace hz2:rb1.length<=QU p:=hz2;replace hz3:rm1<=n+1+QU p:=hz3;have HZ:=Q2 (show RES=.ok (uy++rb1,rm1) by rw[HL.out];show apW uy Qbn=_;rw[hz1];rfl);clear hz1;have hbl:(uy++rb1).length=uy.length+rb1.length:=Qay;simp only[List.append_assoc];refine yd ?_;exact Zc Yu rfl (fun w hw=>Yd H.out 2 3 (b:=uy++rb1) hw rfl rfl HZ.out Q3 Q3)
theorem Qww(hall:VF.All (WvC z B g F) p)(hgp:Q3t p)(hfp:XU p)(hv:Fm F)(hk:0<=k/\k<F.length)(h:XV W z B g F A c xs n)(hval:VIn W B v d p)(hd1:d.bs.length<=1048576)(hd2:d.ns.length<=1048576)(hn0:QL d p.len=0)(hpl6:p.len<=1048576)(hsz:xs.length+QH d p<=1099511627776)(hno:n+QH d p<=1099511627776)(hfit:Xm F (Qg F k) d p=true)(hkind:(Qg F k).kind=9):
  Calls Tryz.prog 45 #[.pointer (some ⟨g,0,none⟩),.int .i64 k,v] W (WrE z g W A c xs (QD F k d p n) n (QH d p)):=by
 have H:=Q2 h;have HV0:=Q2 hv;have hwd:=h.wd;have hFn:=h.len;have hr:=hv.toUsd.rok hk;have hfc:=Qbd
 rw[hfit] at hfc;obtain⟨RES,hres⟩:∃x,QD F k d p n=x:=⟨_,rfl⟩;have HVAL:=Q2 hval;have HALL:=Q2 hall;have HGP:=Q2 hgp;have HFP:=Q2 hfp;clear hall hgp hfp;have HK0:=Q2 (show (Qg F k).kind=9 from hkind);have HL:=Q2 (show RES=bnW (Q1f F (Qg F k).elem p (n+1)) fun m=>.ok ([Yq (Qg F k)],m) by rw[<- hres];exact Qpb hfit hkind);have hel:=hr.elem Q07;rw[hres];obtain⟨Af,nn,cf⟩:=z;simp only at hFn;obtain⟨bf,of,haf,_⟩:=h.fm.2 Vf;simp only at haf;subst haf;obtain⟨hbB,Ab,cb,An,cn,Ap,cp,hrg,hru⟩:=h.fm.ruleB (k:=k) Jx;have hbM:bf∉wM g A xs.length c:=fun hm=>by
  rcases Z1.1 hm with e|e
  ·exact Vu
  ·exact Q0w
 have hkn:0<=k/\k<(nn:Int):=by omega
 have hBW:B<=W.heap.size:=by have:=h.hB;have:=h.lt;omega
 replace hfc:=fun(w:World) (hw:XV w _ B g F A c xs n) (hr:RuB w B (Qg F k) Ab cb An cn Ap cp) (hvl:VIn w B v d p)=>hfc w Ab An Ap cb cn cp hw hr hvl
 clear h;obtain⟨r,er⟩:∃r,Qg F k=r:=⟨_,rfl⟩;rw[er] at hr hrg hru hfc HK0 HL hel;clear er hfit;obtain⟨sb,sn,sp,rfl,Abv,nb,cbv,Anv,nnv,cnv,Apv,cpv,rfl,rfl,rfl,hnb,hnn,hpl,hcm,hrb,hrn,hch⟩:=hval;have hnbl:d.bs.length=nb:=by have:=hrb.len;rw[X5] at this;exact this
 have hnnl:d.ns.length=nnv:=by have:=hrn.len;rw[XQ] at this;exact this
 subst hnbl hnnl;have HRB:=Q2 hrb;have HCH:=Q2 hch;have HRU:=Q2 hru;have HRK:=Q2 hr;have HD:=Q2 (Eq.refl d);obtain⟨dk,dn,dbs,dns⟩:=d;simp only[QH] at hsz hno hd1 hd2 hnb hnn ⊢;clear hrb hrn hch hru hv;obtain⟨name,kind,bs,size,big,mn,mx,stop,count,elem,names,parts⟩:=r;simp only[ruC,Yq] at hr hrg hfc HK0 HL;have HFC:=Q2 hfc;have HRUB:=Q2D;clear hfc;go_enter Tryz.func45,Tryz.ntmps45;haveI:Pan (bodyPost Tryz.prog Tryz.f45 (WrE ⟨some ⟨bf,of,none⟩,nn,cf⟩ g W A c xs RES n (300+dbs.length+QU p))) (VJ RES (wM g A xs.length c) W):=Pan.body fun ch w' ⟨x,h1,h2,h3⟩=>J6
 refine Qs (M:=wM g A xs.length c) (W:=W) (N:=223) (E:=Q9I) (O:=Q7U) ?_ Z0 hwd;clear hwd;refine yq<|yr ?_;refine yB fun b5=>?_;refine Q0y ?_;refine yA fun b6=>?_;refine Q1M ?_;have hkd:kind=9:=HK0.out;subst hkd;have hel':0<=elem/\elem<F.length:=hel;obtain⟨sB,hsB⟩:∃b:UInt8,UInt8.ofNat (stop % 256).toNat=b:=⟨_,rfl⟩;have hcv:IntKind.u8.wrap stop=(sB.toNat:Int):=by rw[Qcn,hsB]
 rw[hsB] at HL;have hsz1:xs.length+QU p<=1099511627776:=by omega
 have hno1:(n+1)+QU p<=1099511627776:=by omega
 have e1:(n:Int)+1=((n+1:Nat):Int):=rfl;refine Q85 ?_;refine yl<|yn<|yq<|yr<|yo zF<|yo (zB 0)<|yl<|yn<|yb<|yq<|yr<|yo zef<|yo zA<|yl<|yn<|y0<|yq<|yq<|yr<|yo zef<|yo zA<|yl<|yn<|y0<|yr<|yo zef<|yo zA<|yl<|yn<|y0<|yq<|yr<|yo zef<|yo zA<|yl<|yn<|y0<|yq<|yr<|yo zef<|yo zA<|yl<|yn<|y0<|yq<|yr<|yo zef<|yo zA<|yl<|yn<|y0<|yq<|yr<|yo zef<|yo zA<|yl<|yn<|y0<|yq<|yr<|yo zet<|yo zA<|yl ?_;rw[e1];refine yn<|y1<|yq<|yr<|yo zM<|yo zF<|yo (zB 0)<|yo zF<|yo (zB 1) ?_;refine ZP (Xp _ _ _ rfl rfl rfl (fun w hw=>(Q72 HALL.out HGP.out HFP.out QfN hel' Qrs hpl6 hsz1 hno1).mono (fun e w' h=>Q9v 2 3 Q1 hw rfl rfl (fun x hx=>by rw[HL.out];show bnW Qbn _=_;rw[hx];rfl) h))) rfl Q1 (fun y hy=>?_);refine yl ?_;obtain⟨uy,um,uA,uc⟩:=y;obtain⟨hz1,hz2,hz3⟩:=hy;replace hz1:Q1f F elem p (n+1)=.ok (uy,um):=hz1;replace hz2:uy.length<=QU p:=hz2;replace hz3:um<=n+1+QU p:=hz3;have HZ:=Q2 (show RES=.ok (uy++[sB],um) by rw[HL.out];show bnW Qbn _=_;rw[hz1];rfl);clear hz1;have hl1:(xs++uy).length+1=(xs++(uy++[sB])).length:=by simp only[List.length_append,List.length_cons,List.length_nil];omega
 have hb1:bv (xs++uy)++[.int .u8 (sB.toNat:Int)]=bv (xs++(uy++[sB])):=by unfold bv;simp
 have hbl:(uy++[sB]).length=uy.length+1:=Qay;have hbnd:(xs++uy).length<=1099511627776:=by rw[List.length_append];omega
 refine yn ?_;refine Z7 [.blk b6 QhQ,.blk g (.cells ([.slice Q8X nn cf,.slice uA (xs++uy).length uc,.int .i64 (um:Int)]:List Value).toArray 77 (0,0))] [12] Q5 ?_;refine QrN ?_;refine Qn 7 rfl Q5 Q6j Qcr ?_;refine QS 8 Q5 rfl rfl VG (fun _=>.inr Qhv) rfl Q1 (fun bn _=>?_);refine QS 9 Q5 rfl rfl QhA (fun _=>.inr Qhv) rfl Q1 (fun z2 _=>?_);rw[hl1,hb1];refine Qn 10 rfl Q5 Qhv mc5 ?_;refine Qn 11 rfl Q5 Qhv zF ?_;refine QI 12 Q5 rfl rfl Qho J0 rfl (fun _ _=>?_);refine Xu ?_ Q5;refine yd ?_;exact Zc Yu rfl (fun w hw=>Yd H.out 3 4 (b:=uy++[sB]) (m:=um) hw rfl rfl HZ.out Q3 Q3)
end
section
variable {d:Nd}{f:Int×Int}{p:VF}{v:Value}{w:World}
def VF.cnt:VF->Nat
 |.nil=>0
 |.cons _ p r=>p.cnt+r.cnt+1
theorem QcC(F:VF):∀(num lev m:Nat),Xe F num lev=.inr m->m=num+F.cnt:=by
 induction F with
 |nil=>intro num lev m h;injection h with h;simp [VF.cnt];omega
 |cons d p r ih1 ih2=>
  intro num lev m h;by_cases h1:600<=num\/10<lev
  ·rw[ZA h1] at h;cases h
  ·by_cases h2:QL d p.len≠0
   ·rw[Z4 h1 h2] at h;cases h
   ·cases hp:Xe p (num+1) (lev+1) with
    |inl f=>rw[Zs h1 h2 hp] at h;cases h
    |inr k=>
     rw[ZU h1 h2 hp] at h;have a:=ih1 _ _ _ hp;have b:=ih2 _ _ _ h;simp only[VF.cnt];omega
theorem QcS{x:List UInt8}(h:x.length<=1048576):(ZF x).length<=1048586:=by have:=YW x Q3;omega
theorem Q8O{np:Nat}{body:List UInt8}(hd:XR d)(hn:np<=1048576):(Q0E d np body).length<=1048600+body.length:=by
 obtain⟨⟨h1,h2,h3,h4⟩,h5,_,_⟩:=hd;have a:=XK d.k h1 h2;have b:=XK d.n h3 h4;have c:=QcS h5;have e:=XK (np:Int) Q3 Q3;unfold Q0E;rw[List.length_append];split
 ·omega
 split
 ·omega
 ·rw[List.length_append];omega
theorem QpH(F:VF):∀(rc:Bool) (ns:List (List UInt8)),XU F->(∀x∈ns,x.length<=1048576)->(XO F rc ns).length<=F.cnt*2100000:=by
 induction F with
 |nil=>intro rc ns _ _;simp [XO]
 |cons d p r ih1 ih2=>
  intro rc ns hf hn;obtain⟨hd,hl,hp,hr⟩:=hf;have a:=Q8O (body:=XO p (d.k==4) d.ns) hd hl;have b:=ih1 (d.k==4) d.ns hp hd.2.2.2;have c:=ih2 rc ns.tail hr (fun x hx=>hn x (List.mem_of_mem_tail hx));have e:(if rc then ZF (ns.headD []) else []).length<=1048586:=by
   split
   ·refine QcS ?_
    cases ns with
    |nil=>simp
    |cons x l=>exact hn x List.mem_cons_self
   ·simp
  simp only[XO,VF.cnt,List.length_append];omega
theorem Sz.mod{l:VF}(h:Sz d l){m:Nat}(hc:Xe (.cons d l .nil) 0 1=.inr m):Mod d l:=by
 refine⟨h.1,h.2.1,h.2.2,?_⟩;have a:=Q11 _ _ _ _ hc;have b:=QcC _ _ _ _ hc;have c:=Q8O (body:=XO l (d.k==4) d.ns) h.1 h.2.2;have e:=QpH l (d.k==4) d.ns h.2.1 h.1.2.2.2;simp only[VF.cnt] at b;have g:l.cnt<=600:=by have:=a.2 Q3;omega
 have k:l.cnt*2100000<=600*2100000:=Nat.mul_le_mul_right _ g;unfold XW;omega
theorem Qcz(hm:Sz d p)(hf:Xe (.cons d p .nil) 0 1=.inl f)(hv:VIn w w.heap.size v d p):Calls Tryz.prog 69 #[v] w (Qt5 w d p):=by
 have HV:=Q2 hv;have HM:=Q2 hm;obtain⟨sb,sn,sp,rfl,Ab,nb,cb,An,nn,cn,Ap,cp,rfl,rfl,rfl,hbc,hnc,hpc,hpm,hrb,hrn,hp⟩:=hv;clear hrb hrn hp hm;go_enter Tryz.func69,Tryz.ntmps69;go_wp2_with fail
 refine(Q2E (num:=0) (lev:=1) HM.out.1 HM.out.2.1 HM.out.2.2 Q9h Q3 Q3).mono ?_;rintro e w2 ⟨hb2,hres⟩;have F1:=Q9e;simp only[Qx] at F1
 have HBX:=Q2 (show Yk w2 w.heap.size 0 d (.slice Ab nb cb) (.slice An nn cn) (.slice Ap p.len cp) from by
  have hk:∀o,w2.cell? ⟨w.heap.size,o,none⟩=_:=fun o=>hb2.cell Zp
  exact ⟨(hk 0).trans (Qf Ql),(hk 1).trans (Qf Ql),(hk 2).trans (Qf Ql),(hk 3).trans (Qf Ql),(hk 4).trans (Qf Ql)⟩)
 have HB2:=Q9f;have HF1:=Q2 F1;have hz2:w.heap.size+1<w2.heap.size:=F1.1;clear hb2 F1;rcases hres with ⟨c,ix,hr,rfl⟩|⟨m,hr,rfl⟩
 ·have hc:=VV _ _ _ _ _ hr
  have hc0:(c==0)=false:=by simpa using hc
  have hneq:=Q2H c ix 0 0;have HF:=Q2 (Q5L hr);have HC:=Q2 hc;have P2:=Qlz;have P1:=FC.new w2 c ix;have PB:=Qn1;clear hr hc;go_wp2_with fail
  obtain⟨W4,hW4⟩:∃W4,w2.alloc (.cells #[.int .i64 c,.int .i64 ix] 32)=W4:=⟨_,rfl⟩;rw[hW4] at P1 P2 PB ⊢;have HPB:=Q2 PB;clear hW4 PB;obtain⟨z3,a0,a1,g0,g1⟩:=P1;obtain⟨z4,r0,r1,e0,e1⟩:=P2;go_region
  go_wp2_with fail
  refine QmJ ?_;exact Qmz
 ·rw[hf] at hr;cases hr
theorem Qa9(hm:Sz d p)(hfl:Xe (.cons d p .nil) 0 1=.inl f)(hv:VIn w w.heap.size v d p):Calls Tryz.prog 34 #[v] w fun e w'=>e=.returned (.agg #[.int .i64 (XN d p).1,.int .i64 (XN d p).2])/\Below w.heap.size w w':=by
 have HV:=Q2 hv;have HM:=Q2 hm;obtain⟨sb,sn,sp,rfl,Ab,nb,cb,An,nn,cn,Ap,cp,rfl,rfl,rfl,hbc,hnc,hpc,hpm,hrb,hrn,hp⟩:=hv;clear hrb hrn hp hm;go_enter Tryz.func34,Tryz.ntmps34;go_wp2_with fail
 refine(Qcz HM.out hfl Q9h).mono ?_;rintro e w2 ⟨hb2,hres⟩;have F1:=Q9e;simp only[Qx] at F1;have HB2:=Q9f;have HF1:=Q2 F1;have hz2:w.heap.size+1<w2.heap.size:=F1.1;clear hb2 F1;obtain⟨A,n,c,cd,ix,he,hf⟩:∃A n c cd ix,e=.returned (.tuple #[.slice A n c,.agg #[.int .i64 cd,.int .i64 ix]])/\XN d p=(cd,ix):=by
  rcases hres with ⟨c,i,_,h,he⟩|⟨A,c,m,_,h,_,he,_⟩
  ·exact Qas
  ·exact Qas
 subst he;have HF:=Q2 hf;clear hf hres;obtain⟨z4,r0,r1,e0,e1⟩:=HF1.out;go_wp2_with fail
 refine Ql1 ?_;exact Ql6
theorem Yy(hm:Sz d p)(hv:VIn w w.heap.size v d p):Calls Tryz.prog 34 #[v] w fun e w'=>e=.returned (.agg #[.int .i64 (XN d p).1,.int .i64 (XN d p).2])/\Below w.heap.size w w':=by
 cases hc:Xe (.cons d p .nil) 0 1 with
 |inl f=>exact Qa9 hm hc hv
 |inr m=>exact Q5Y (hm.mod hc) hv
end
section
variable {A A2:Option Addr}{a:Act}{c c2 d m n:Nat}{v:Value}{x:Operand}{y:Nd×VF×Nat}
section
variable {P:Program}{ops:Array Oper}{N:Nat}{E:Env}{o:Oper}{M:List Nat}{W:World}{O:List Qb}{C:World->Prop}
theorem Qki[dq:DQ]{t:TypeId}{cs:List Value}(ho:o.op=.box t x)(hw:Qi ops E o=some true)(hx:ev E x=some v)(hc:v.cells=cs.toArray):uE P ops N M W E O o Nat (fun b=>.pointer (some ⟨b,0,none⟩)) (fun b=>.blk b (.cells cs.toArray t (0,0))::O) (fun b=>W.heap.size<=b/\∀x∈O,∀q,x.foot=some q->q<b):=
 Q1U hw fun ρ w ha hW=>
  ⟨w.heap.size,w.alloc (.cells cs.toArray t (0,0)),by
   simp [execOp,ho,ha.eval hx,Instr.box,newVar,newRow,go_sem]
   show w.alloc (Obj.cells v.cells t)=_
   rw[hc],⟨hW.k.size,fun x hx q hq=>(hW.onAll x hx).lt hq⟩,hW.push ((Below.refl _ _).alloc (Nat.le_refl _) _) (heap_alloc_new w _) (fun b hb=>by cases hb;exact Nat.le_refl _)⟩
theorem Qkh[dq:DQ]{p:Addr}(ho:o.op=.nilCheck x)(hd:o.dst=some d)(hN:d<N)(hw:Qi ops E o=some true)(hx:ev E x=some (.pointer (some p))):oE P ops C N E ((d,.pointer (some p))::E) o:=
 Xd hd hN hw fun ρ w ha _=>by simp [execOp,ho,ha.eval hx,go_sem]
theorem Qgj[dq:DQ]{y:Operand}{t':TypeId}{a b a' b':Int}{v:Bool}(ho:o.op=.binOp .neq 32 x y t')(hd:o.dst=some d)(hN:d<N)(hw:Qi ops E o=some true)(hx:ev E x=some (.agg #[.int .i64 a,.int .i64 b]))(hy:ev E y=some (.agg #[.int .i64 a',.int .i64 b']))(hb:(!(a==a'&&b==b'))=v):oE Tryz.prog ops C N E ((d,.bool v)::E) o:=
 Xd hd hN hw fun ρ w ha _=>by
  subst hb;by_cases h1:a=a'<;>by_cases h2:b=b'<;>simp [execOp,ho,ha.eval hx,ha.eval hy,h1,h2,go_sem]
theorem Wd.lost{w w':World}{g:Nat}{o:Obj}(h:Wd M W (.blk g o::O) w)(hk:Xz [g] w w'):Wd M W O w':=by
 refine .of_pairs (h.k.trans hk fun b hb hlt=>?_) (fun x hx=>(h.onAll x Q1K).keep hk.size fun b hb=>hk.block b ((h.onAll x Q1K).lt hb) ?_) (fun x hx=>h.newAll x Q1K) (List.pairwise_cons.1 h.pairs).2
 ·rw[List.mem_singleton] at hb;subst hb;exact h.new 0 _ _ rfl rfl hlt
 ·rw[List.mem_singleton];intro e;subst e;have:=(List.pairwise_cons.1 h.pairs).1 x hx b rfl hb
  cases this
theorem VW[dq:DQ]{w:World}{r:ResultVar}(ha:Ag N E a)(hw:C w)(h:RsV P C E r v):RsF P a w r v:=by
 cases r with
 |tmp t=>
  show a.tmps[t]?.getD undef=v;rw[ha.at_ h];rfl
 |cell t ty=>
  obtain⟨p,h1,h2⟩:=h;refine⟨p,?_,h2 w hw⟩;rw[ha.at_ h1];rfl
end
section
variable {M:List Nat}{W w w':World}{O:List Qb}{g k b4 b5 N:Nat}{E:Env}{R:Ending->World->Prop}{e:Exit}
abbrev paD(b4 b5:Nat):List Deferred:=[{ target:=.fn (.func 30) #[.pointer (some ⟨b4,0,none⟩),.pointer (some ⟨b5,0,none⟩)],args:=#[] }]
theorem Qoj[dq:DQ]{u:Value}(hdq:dq.D=paD b4 b5)(he:e=.normal\/e=.ret)(h4:RsV Tryz.prog (Wd M W O) E (.cell 4 30) v)(h5:RsV Tryz.prog (Wd M W O) E (.cell 5 32) u)(hR:∀w,Wd M W O w->R (.returned (.tuple #[v,u])) w):xE (bodyPostD Tryz.prog Tryz.f11 R) N M W E O e:=fun a w ha hw=>by
 have h:Leaves Tryz.prog Tryz.f11 a.tmps R a.defers .returning w:=by
  rw[ha.df,hdq];refine leaves_cons (f:=30) (args:=Qgl) Ql (by simp [go_sem]) ?_;refine(Q9C _ _ _).mono ?_;exact QtC
 rcases he with rfl|rfl<;>exact h
theorem QlE[dq:DQ]{c x:Int}{ch:List PanicEntry}{a0 a1 a2 a3 a4 r0 r1:Value}(hdq:dq.D=paD b4 b5)(hch:ch=JM c x)(h4:E.lookup 4=some (.pointer (some ⟨b4,0,none⟩)))(h5:E.lookup 5=some (.pointer (some ⟨b5,0,none⟩)))(ha:Ag N E a)(hw:Wd M W (.blk b4 (.cells ([a0,a1,a2,a3,a4]:List Value).toArray 30 (0,0))::.blk b5 (.cells ([r0,r1]:List Value).toArray 32 (0,0))::O) w)
  (hR:∀w,Below W.heap.size W w->R (.returned (.tuple #[.agg #[.int .i64 0,.int .i64 0,.slice none 0 0,.slice none 0 0,.slice none 0 0],.agg #[.int .i64 c,.int .i64 x]])) w) (hM:M=[]):bodyPostD Tryz.prog Tryz.f11 R (.panic ch) a w:=by
 subst hM;subst hch;show Leaves Tryz.prog Tryz.f11 a.tmps R a.defers (.panicking (JM c x)) w;rw[ha.df,hdq];refine leaves_cons (f:=30) (args:=Qgl) Ql (by simp [go_sem]) ?_;refine(Q7B hw).mono ?_;rintro e' u' w8 ⟨rfl,rfl,hw8⟩;exact⟨_,Qqy rfl (VW ha hw8 (RsV.blk 0 h4 rfl rfl)) (VW ha hw8 (RsV.blk 1 h5 rfl rfl)),hR _ hw8.k.below⟩
theorem Qus{z:Rv}{res:Rdg (Nd×VF×Nat)}{o:Obj}{e:Ending}(hw:Wd [] W (.blk g o::O) w)(h:VlE z g w res e w'):Zu (fun y:Vy=>.agg (y.cells).toArray) (fun y=>res=some (.ok y.r)/\XA y.L (.agg (y.cells).toArray) y.r.1 y.r.2.1/\Q2z y.L W.heap.size) [] W (fun y=>.blk g (z.obj y.r.2.2)::(O++y.L)) (fun ch w'=>∃x:Nat,res=some (.error x)/\ch=JM 1 x/\Wd [] W O w') e w':=by
 obtain⟨hk,⟨x,h1,h2⟩|⟨d,l,q,v,L,h1,h2,h3,h4,h5⟩⟩:=h
 ·exact .inr ⟨_,h2,x,h1,rfl,hw.lost hk⟩
 ·obtain⟨sb,sn,sp,rfl,hd⟩:=h4.vin h5.on;obtain⟨Ab,nb,cb,An,nn,cn,Ap,cp,rfl,rfl,rfl,_⟩:=hd;exact .inl ⟨⟨(d,l,q),Ab,nb,cb,An,nn,cn,Ap,l.len,cp,L⟩,h2,Qs0,hw.wroteL hk h3 h5⟩
end
section
variable {F:List Rl}{D:List UInt8}
theorem Qgn{x:Nat}(h0:Qy F=(0,0))(h1:¬1000<D.length)(h:QE F D (Q0R F D) 0 0=some (.error x)):YF F D=((ndZ,.nil),(1,(x:Int))):=by
 unfold YF;rw[if_neg (by simp [h0]),if_neg h1,h]
theorem Q8E(h0:Qy F=(0,0))(h1:¬1000<D.length)(h:QE F D (Q0R F D) 0 0=some (.ok y))(hq:y.2.2<D.length):YF F D=((ndZ,.nil),(1,(y.2.2:Int))):=by
 refine QfL ?_;rw[if_pos hq]
theorem Qkj(h0:Qy F=(0,0))(h1:¬1000<D.length)(h:QE F D (Q0R F D) 0 0=some (.ok y))(hq:¬y.2.2<D.length)(hv:XN y.1 y.2.1≠(0,0)):YF F D=((ndZ,.nil),(14,-2)):=by
 refine QfL ?_;rw[if_neg hq,if_pos hv]
theorem Q98(h0:Qy F=(0,0))(h1:¬1000<D.length)(h:QE F D (Q0R F D) 0 0=some (.ok y))(hq:¬y.2.2<D.length)(hv:XN y.1 y.2.1=(0,0)):YF F D=((y.1,y.2.1),(0,0)):=by
 refine QfL ?_;rw[if_neg hq,if_neg (by simp [hv])]
end
theorem Qg1{F:List Rl}{D:List UInt8}{W:World}(hf:QX W W.heap.size A n F)(hs:FSm F)(hc:n<=c)(hg:GV W)(hz:Qy F=(0,0))(hd:Rd W W.heap.size 1 A2 m (bv D))(hl:¬1000<D.length)(hmc:m<=c2)(hc2:c2<=maxLen):
  Calls Tryz.prog 11 #[.agg #[.slice A n c],.slice A2 m c2] W (Qbz F D W):=by
 have HF:=Q2 hf;have HS:=Q2 hs;have HG:=Q2 hg;have HZ:=Q2 hz;have HD:=Q2 hd;have HL:=Q2 hl;have HV:=Q2 (Qdc hz);have hDm:D.length=m:=by have:=hd.len;rw[X5] at this;exact this
 have hm:¬1000<(m:Int):=by omega
 have h0n:0<n:=by have:=HV.out.len;have:=hf.1;omega
 have HK:=Q2 (show 0<=(0:Int)/\(0:Int)<F.length by have:=HV.out.len;omega);have HSO:=Q2 (Qjn HV.out D);clear hf hs hg hz hd hl;go_enter_defers Tryz.func11,Tryz.ntmps11;refine Qs (M:=[]) (W:=W) (N:=49) (E:=[Vh,QeQ]) (O:=[]) ?_ mc3 QV;refine yq<|yr ?_;refine yB fun b2=>?_;refine yA fun b4=>?_;refine yA fun b5=>?_;refine Qi2 ?_;refine Q4 QhP ?_;refine yA fun b6=>?_;refine KG ?_;have hne:(!((0:Int)==0&&(0:Int)==0))=false:=rfl;refine Q5H ?_;refine yl<|yn<|y0<|ys<|yn<|yq<|yq<|yr<|yo zM<|yo zL<|yo zgf<|yl<|yn<|y0<|ys<|yn<|yq<|yr<|yo zu ?_;refine Qgm rfl rfl rfl rfl (fun dq' hdq=>?_);refine yl<|yn<|yq ?_;replace hdq:dq'.D=paD b4 b5:=hdq;refine Z7 [.blk b2 QlK] [] Q5 ?_;refine Qn 0 rfl Q5 QcE (zD 0) ?_;refine Qn 1 rfl Q5 QcE (zD 0) ?_;refine Qn 3 rfl Q5 QcE zM ?_;refine QS 2 Q5 rfl rfl (XB (fun y:(Option Addr×Nat)×List Value×List Qb=>.slice y.1.1 n y.1.2) (fun y=>n<=y.1.2/\FsL F n y.1.1 y.2.1 y.2.2) (fun y=>_++y.2.2) rfl rfl rfl (fun w hw=>(Q8c Q6E HS.out hc KU HZ.out h0n).mono (fun e w' ⟨As,cs,xs,L,h1,h2,h3,h4,h5⟩=>⟨((As,cs),xs,L),h1,⟨h2,h3⟩,hw.made h5 h4⟩))) (fun _=>.inr QcE) rfl Q1 (fun y hy=>?_);obtain⟨⟨As,cs⟩,xs,Lf⟩:=y;obtain⟨hncs,hfs⟩:=hy;replace hncs:n<=cs:=hncs;have HFS:=Q2 (show FsL F n As xs Lf from hfs);clear hfs;refine Qn 4 rfl Q5 QcE (ZW (xs:=[(0,.tmp 21),(1,.tmp 23),(2,.tmp 24)]) (vs:=[Vh,(1,.slice As n cs),(2,.slice A2 m c2)]) (v:=.agg #[.slice A n c,.slice As n cs,.slice A2 m c2,.int .i64 0]) rfl rfl Q1 rfl rfl Q7I) ?_;refine QS 5 Q5 rfl rfl (Qki (cs:=[.slice A n c,.slice As n cs,.slice A2 m c2,.int .i64 0]) rfl rfl rfl rfl) (fun _=>.inr (QJ.sel [4] Q1 rfl)) rfl Q1 (fun g hg=>?_);obtain⟨hg1,hg2⟩:=hg;refine Qn 6 rfl Q5 (QJ.sel [4] Q1 rfl) zA ?_;refine Xu ?_ Q5;have HG2:=Q2 (show ∀x∈Lf,∀q,x.foot=some q->q<g from fun x hx=>hg2 x Q4E);clear hg2;refine yn<|yq<|yr<|yo zM ?_;refine QfJ (Xp _ _ _ rfl rfl rfl (fun w hw=>(Q4J (z:=⟨A,As,A2,n,m,c,cs,c2⟩) (B:=g) (g:=g) (D:=D) HV.out (Q0R F D) w 0 0 HK.out ⟨⟨(HF.out.below hw.k.below).more hg1,HFS.out.fr (fun x hx=>hw.onAll x Q4E) HG2.out h0n,(HD.out.below hw.k.below).more hg1⟩,Nat.le_refl _,hw.own 0 _ rfl,hc,hmc,hc2,Nat.zero_le _,by omega⟩ HSO.out).mono (fun e w' h=>Qus hw h))) rfl Q1 (fun a ch w ha ⟨x,h1,h2,h3⟩=>QlE hdq h2 rfl rfl ha (h3.sel [2,1] Q1) (fun w2 hb=>Q2N (Qgn HZ.out HL.out h1) hb) rfl) (fun y hy=>?_);refine yW 3 ?_;refine yl ?_;obtain⟨hy1,hy2,hy3⟩:=hy;have HYF:=Q2 hy3;have HY1:=Q2 hy1;have HY2:=Q2 hy2;have hfar:=Qor HV.out hy1;clear hy1 hy2 hy3;by_cases hq:y.r.2.2<D.length
 ·have hqm:(y.r.2.2:Int)<(m:Int):=by omega
  refine QfV ?_;refine yo zF<|yo (zB 0)<|yo zM<|yo zL<|yo zlt<|yl<|yn<|y1<|yr<|yo zM ?_;refine Q4 Qkr ?_;refine yo zF<|yo (zB 0) ?_;exact QfJ (Xp (B:=fun ch w'=>ch=JM 1 (y.r.2.2:Int)/\Wd [] W _ w') _ _ _ rfl rfl rfl (fun w hw=>Q0c hw (fun w' hw'=>⟨rfl,hw'⟩))) rfl Q1 (fun a ch w ha (hb:ch=JM 1 (y.r.2.2:Int)/\_)=>QlE hdq hb.1 rfl rfl ha (hb.2.sel [3,2] Q1) (fun w2 hb=>Q2N (Q8E HZ.out HL.out HY1.out hq) hb) rfl) Q0e
 ·have hqm:¬(y.r.2.2:Int)<(m:Int):=by omega
  have hsz:=Q04 HV.out Q3 (fun r hr x hx=>(HS.out.2 r hr).each x hx) _ HK.out 0 _ Ze HY1.out;have HSZ:=Q2 hsz;obtain⟨⟨va,vb⟩,hvf⟩:∃p,XN y.r.1 y.r.2.1=p:=⟨_,rfl⟩;have HVF:=Q2 hvf;clear hsz hvf;by_cases hv0:(va,vb)=((0:Int),(0:Int))
  ·have HF0:=Q2 (Q98 HZ.out HL.out HY1.out hq (HVF.out.trans hv0));have e1:va=0:=congrArg Prod.fst hv0;have e2:vb=0:=congrArg Prod.snd hv0;subst e1 e2;clear hv0;refine QrW ?_;refine Q4 (Qgj rfl rfl Q1 rfl rfl rfl rfl) ?_;refine yl<|yn<|y0<|ys<|yn<|yq<|yr<|yo (zD 3) ?_;refine Q4 mc6 ?_;refine yW 3 ?_;refine yW 2 ?_;refine yl<|yn<|yt ?_;exact Qoj hdq mc4 Qh8 Q3i (fun w hw=>⟨⟨y.Ab,y.nb,y.cb,y.An,y.nn,y.cn,y.Ap,y.np,y.cp,y.L⟩,by rw[HF0.out],by rw[HF0.out];exact HY2.out,HYF.out.new fun x hx=>hw.onAll x Q4E,hw.k.below⟩)
  ·have HF0:=Q2 (Qkj HZ.out HL.out HY1.out hq (by rw[HVF.out];exact hv0))
   have hne2:(!(va==0&&vb==0))=true:=by
    refine Q99 ?_;by_cases h0:va=0
    ·exact .inr fun h1=>hv0 (by rw[h0,h1])
    ·exact .inl h0
   clear hv0;refine QrW ?_;refine Q4 (Qgj rfl rfl Q1 rfl rfl rfl hne2) ?_;refine yl<|yn<|y1<|yq<|yr ?_;refine Q4 QhR ?_;refine Q4 Qhd ?_;refine yW 3 ?_;refine yW 2 ?_;refine yl<|yn<|yt<|yc ?_;exact Qoj hdq mc4 Qh8 Q3i (fun w hw=>Q2N HF0.out hw.k.below)
theorem Qbq{F:List Rl}{D:List UInt8}{W:World}(hf:QX W W.heap.size A n F)(hs:FSm F)(hc:n<=c)(hg:GV W)(hd:Rd W W.heap.size 1 A2 m (bv D))(hmc:m<=c2)(hc2:c2<=maxLen):
  Calls Tryz.prog 11 #[.agg #[.slice A n c],.slice A2 m c2] W (Qbz F D W):=by
 by_cases hz:Qy F=(0,0)
 ·by_cases hl:1000<D.length
  ·exact QeL hf hs hc hg hz hd hl
  ·exact Qg1 hf hs hc hg hz hd hl hmc hc2
 ·exact Qck hf hs hc hg hz
end
end Go.Proofs.YtphkhfdmlcnoeaaGreatDoor
