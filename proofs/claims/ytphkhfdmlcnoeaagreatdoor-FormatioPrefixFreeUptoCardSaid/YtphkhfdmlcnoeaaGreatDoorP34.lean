import Derived.Test.YtphkhfdmlcnoeaaGreatDoorP33
namespace Go.Proofs.YtphkhfdmlcnoeaaGreatDoor
set_option linter.unusedVariables false
set_option linter.unusedSimpArgs false
open Go.RowKit
def eqF:VF→VF→Bool
 |.nil,.nil=>true
 |.cons d p r,.cons d' p' r'=>(d.k==d'.k&&d.n==d'.n&&d.bs==d'.bs&&d.ns==d'.ns&&p.len==p'.len&&eqF p p')&&eqF r r'
 |_,_=>false
def eqV(d:Nd)(p:VF)(d':Nd)(p':VF):Bool:=d.k==d'.k&&d.n==d'.n&&d.bs==d'.bs&&d.ns==d'.ns&&p.len==p'.len&&eqF p p'
theorem Q2L(d:Nd)(p r:VF)(d':Nd)(p' r':VF):eqF (.cons d p r) (.cons d' p' r')=(eqV d p d' p'&&eqF r r'):=rfl
theorem Qd9:∀(F G:VF),eqF F G=true↔F=G:=by
 intro F
 induction F with
 |nil=>intro G;cases G with
  |nil=>simp [eqF]
  |cons=>simp [eqF]
 |cons d p r ih1 ih2=>intro G;cases G with
  |nil=>simp [eqF]
  |cons d' p' r'=>
   rw[Q2L,eqV]
   simp only[Bool.and_eq_true,beq_iff_eq,ih1,ih2,VF.cons.injEq]
   constructor
   ·rintro⟨⟨⟨⟨⟨⟨h1,h2⟩,h3⟩,h4⟩,h5⟩,h6⟩,h7⟩
    obtain⟨a,b,c,e⟩:=d;obtain⟨a',b',c',e'⟩:=d'
    simp only at h1 h2 h3 h4
    subst h1 h2 h3 h4;exact⟨rfl,h6,h7⟩
   ·rintro⟨rfl,rfl,rfl⟩
    exact⟨⟨⟨⟨⟨⟨rfl,rfl⟩,rfl⟩,rfl⟩,rfl⟩,rfl⟩,rfl⟩
theorem Q9l(d:Nd)(p:VF)(d':Nd)(p':VF):eqV d p d' p'=true↔d=d'∧p=p':=by
 have h:=Qd9 (.cons d p .nil) (.cons d' p' .nil);rw[Q2L,show eqF .nil .nil=true from rfl,Bool.and_true] at h;rw[h]
 simp
set_option maxRecDepth 100000 in
set_option maxHeartbeats 4000000 in
theorem Q1w{W:World}{A A2:Option Addr}{n c m c2:Nat}{xs uy:List (List UInt8)}(h1:Rd W W.heap.size 1 A n (sv xs))(h2:Rd W W.heap.size 1 A2 m (sv uy))(hn:n≤1048576):Calls Tryz.prog 42 #[.slice A n c,.slice A2 m c2] W (FiE W (xs==uy)):=by
 have H1:=Lib.hid h1;have H2:=Lib.hid h2
 have hl1:xs.length=n:=by have:=h1.len;unfold sv at this;simpa using this
 have hl2:uy.length=m:=by have:=h2.len;unfold sv at this;simpa using this
 clear h1 h2
 go_enter Tryz.func42,Tryz.ntmps42
 refine QE (M:=[]) (W:=W) (N:=26) (E:=[(0,.slice A n c),(1,.slice A2 m c2)]) (O:=[]) ?_ (Ag.cons (Ag.cons (Ag.nil rfl rfl) rfl) rfl) (Wd.start [] W)
 by_cases hnm:n=m
 case neg=>
  have hne:(xs==uy)=false:=by
   rw[beq_eq_false_iff_ne];intro e;rw[e] at hl1
   omega
  refine yq<|yr<|yo zA<|yl<|yn<|yq<|yq<|yr<|yo zM<|yo zL<|yo zM<|yo zL<|yo znt<|yl<|yn<|y1<|yq<|yr<|yo zA<|yl<|yn<|yt<|yc ?_;exact Q7 (by exact .inr rfl) rfl (.tmp rfl) (fun w hw=>⟨by rw[hne],hw.k.below⟩)
 subst hnm;refine yq<|yr<|yo zA<|yl<|yn<|yq<|yq<|yr<|yo zM<|yo zL<|yo zM<|yo zL<|yo znf<|yl<|yn<|y0<|ys<|yn<|yq<|yq<|yr<|yo zA<|yl<|yn<|yb ?_;refine Z8 (ι:=Nat) (fun k=>k≤n∧xs.take k=uy.take k) (fun k=>n - k) (fun k=>[(0,.slice A n c),(1,.slice A2 n c2),(5,.int .i64 (k:Int))]) (fun _=>[]) 0 ⟨Nat.zero_le _,rfl⟩ (.cons rfl rfl (.cons rfl rfl (.cons rfl rfl .nil))) (fun w hw=>hw) ?_
 rintro k ⟨hk,hall⟩
 have HA:=Lib.hid hall;clear hall
 by_cases hkn:k<n
 ·obtain⟨b,o,s,rfl,hb,hs,hc⟩:=YW H1.out hkn;obtain⟨b2,o2,s2,rfl,hb2,hs2,hc2⟩:=YW H2.out hkn
  by_cases hss:s.data.toList=s2.data.toList
  ·have he:(s.data.toList != s2.data.toList)=false:=bne_eq_false_iff_eq.2 hss;refine yq<|yq<|yr<|yo zM<|yo zM<|yo zL<|yo zlt<|yl<|yn<|y1<|ys<|yn<|yq<|yb<|yq<|Xj (by kernel_rfl) (by kernel_rfl) ?_;refine Q5 zM ?_;refine Q5 zM ?_;refine Q5 (zi1 (hj:=hkn)) ?_;refine Q5 (zG hc) ?_;refine Q5 zM ?_;refine Q5 zM ?_;refine Q5 (zi1 (hj:=hkn)) ?_;refine Q5 (zG hc2) ?_;refine Q5 (YM rfl rfl (by decide) rfl rfl rfl (by assumption)) ?_;refine XM ?_;refine yn<|y0<|ys<|yn<|yr<|yo zM<|yo zP<|yo zA<|yl ?_;refine Xb (k+1) ⟨hkn,?_⟩ (by omega) (.cons rfl rfl (.cons rfl rfl (.cons rfl (by go_num) .nil))) (fun w hw=>hw);rw[List.take_add_one,List.take_add_one,HA.out,hs,hs2,hss]
  ·have he:(s.data.toList != s2.data.toList)=true:=bne_iff_ne.2 hss
   have hne:(xs==uy)=false:=by
    rw[beq_eq_false_iff_ne];intro e;rw[e,hs2] at hs;exact hss (Option.some.inj hs).symm
   refine yq<|yq<|yr<|yo zM<|yo zM<|yo zL<|yo zlt<|yl<|yn<|y1<|ys<|yn<|yq<|yb<|yq<|Xj (by kernel_rfl) (by kernel_rfl) ?_;refine Q5 zM ?_;refine Q5 zM ?_;refine Q5 (zi1 (hj:=hkn)) ?_;refine Q5 (zG hc) ?_;refine Q5 zM ?_;refine Q5 zM ?_;refine Q5 (zi1 (hj:=hkn)) ?_;refine Q5 (zG hc2) ?_;refine Q5 (YM rfl rfl (by decide) rfl rfl rfl (by assumption)) ?_;refine XM ?_;refine yn<|y1<|yq<|yr<|yo zA<|yl<|yn<|yt<|yk<|yc<|yc<|yk<|yc ?_;exact Q7 (by exact .inr rfl) rfl (.tmp rfl) (fun w hw=>⟨by rw[hne],hw.k.below⟩)
 ·refine yq<|yq<|yr<|yo zM<|yo zM<|yo zL<|yo zlf<|yl<|yn<|y0<|ye<|yn<|yq<|yr<|yo zA<|yl<|yn<|yt ?_;refine Q7 (by exact .inr rfl) rfl (.tmp rfl) (fun w hw=>⟨?_,hw.k.below⟩);have h3:xs.take k=xs:=List.take_of_length_le (by omega);have h4:uy.take k=uy:=List.take_of_length_le (by omega);have:=HA.out;rw[h3,h4] at this;rw[this,beq_self_eq_true]
def SaC(d:Nd)(p:VF):Prop:=∀(d':Nd) (p':VF) (W:World) (v v':Value),d.ns.length≤1048576→p.len≤1048576→Zq p→VIn W W.heap.size v d p→VIn W W.heap.size v' d' p'→Calls Tryz.prog 13 #[v,v'] W (FiE W (eqV d p d' p'))
structure Sw where
 i:Nat
 l:VF
 l':VF
theorem VK.range2{w:World}{b o:Nat}{d:Nd}{sb sn sp:Value}(h:VK w b o d sb sn sp):w.rangeAt b o [.int .i64 d.k,.int .i64 d.n,sb,sn,sp]:=fun j u hu=>by
 obtain⟨h0,h1,h2,h3,h4⟩:=h
 match j,hu with
 |0,hu=>cases hu;exact h0
 |1,hu=>cases hu;exact h1
 |2,hu=>cases hu;exact h2
 |3,hu=>cases hu;exact h3
 |4,hu=>cases hu;exact h4
set_option maxRecDepth 100000 in
set_option maxHeartbeats 32000000 in
theorem Q7E(d:Nd)(p:VF)(hall:VF.All SaC p):SaC d p:=by
 intro d' p' W v v' hns hp6 hfp hv hv';have HALL:=Lib.hid hall;have HFP:=Lib.hid hfp;obtain⟨RES,hres⟩:∃x,eqV d p d' p'=x:=⟨_,rfl⟩;have HR:=Lib.hid hres;rw[hres];obtain⟨sb,sn,sp,rfl,Ab,nb,cb,An,nn,cn,Ap,cp,rfl,rfl,rfl,hnb,hnn,hpl,hcm,hrb,hrn,hch⟩:=hv;obtain⟨sb',sn',sp',rfl,Ab',nb',cb',An',nn',cn',Ap',cp',rfl,rfl,rfl,hnb',hnn',hpl',hcm',hrb',hrn',hch'⟩:=hv'
 have hnnl:d.ns.length=nn:=by have:=hrn.len;rw[XB] at this;exact this
 have HRB:=Lib.hid hrb;have HRN:=Lib.hid hrn;have HCH:=Lib.hid hch;have HRB':=Lib.hid hrb';have HRN':=Lib.hid hrn';have HCH':=Lib.hid hch'
 have hn6:nn≤1048576:=by omega
 obtain⟨dk,dn,dbs,dns⟩:=d;obtain⟨dk',dn',dbs',dns'⟩:=d';clear hrb hrn hch hrb' hrn' hch' hall hfp hns hnnl hres
 go_enter Tryz.func13,Tryz.ntmps13
 refine QE (M:=[]) (W:=W) (N:=62) (E:=[(0,.agg #[.int .i64 dk,.int .i64 dn,.slice Ab nb cb,.slice An nn cn,.slice Ap p.len cp]),(1,.agg #[.int .i64 dk',.int .i64 dn',.slice Ab' nb' cb',.slice An' nn' cn',.slice Ap' p'.len cp'])]) (O:=[]) ?_ (Ag.cons (Ag.cons (Ag.nil rfl rfl) rfl) rfl) (Wd.start [] W);refine yq<|yr ?_;refine yB fun b2=>?_;refine yB fun b3=>?_;refine yo zA<|yl ?_
 by_cases hk:dk=dk'
 case neg=>
  have HZ:=Lib.hid (show RES=false by rw[← HR.out];unfold eqV;simp only;rw[beq_eq_false_iff_ne.2 hk];rfl);refine yn<|yq<|yq<|yr<|yo zF<|yo (zB 1)<|yo zF<|yo (zB 0)<|yo znt<|yo zM<|yo zS<|yo zS<|yo zS<|yo zS<|yo zS<|yo zY<|yo zM<|yo zS<|yo zS<|yo zS<|yo zS<|yo zS<|yo zS<|yo zY<|yo zM<|yo zS<|yo zS<|yo zS<|yo zS<|yo zS<|yo zS<|yo zY<|yo zM<|yo zS<|yo zS<|yo zS<|yo zS<|yo zS<|yo zS<|yo zS<|yo zY<|yl<|yn<|y1<|yq<|yr<|yo zA<|yl<|yn<|yt<|yc ?_;exact Q7 (by exact .inr rfl) rfl (.tmp rfl) (fun w hw=>⟨by rw[HZ.out],hw.k.below⟩)
 by_cases hn:dn=dn'
 case neg=>
  have HZ:=Lib.hid (show RES=false by rw[← HR.out];unfold eqV;simp only;rw[beq_eq_false_iff_ne.2 hn];simp);refine yn<|yq<|yq<|yr<|yo zF<|yo (zB 1)<|yo zF<|yo (zB 0)<|yo znf<|yo zM<|yo zF<|yo (zB 1)<|yo zF<|yo (zB 0)<|yo znt<|yo zN<|yo zM<|yo zS<|yo zS<|yo zS<|yo zS<|yo zS<|yo zS<|yo zY<|yo zM<|yo zS<|yo zS<|yo zS<|yo zS<|yo zS<|yo zS<|yo zY<|yo zM<|yo zS<|yo zS<|yo zS<|yo zS<|yo zS<|yo zS<|yo zS<|yo zY<|yl<|yn<|y1<|yq<|yr<|yo zA<|yl<|yn<|yt<|yc ?_;exact Q7 (by exact .inr rfl) rfl (.tmp rfl) (fun w hw=>⟨by rw[HZ.out],hw.k.below⟩)
 have hby:∀w,Wd [] W [.blk b3 (.cells ([.int .i64 dk',.int .i64 dn',.slice Ab' nb' cb',.slice An' nn' cn',.slice Ap' p'.len cp']:List Value).toArray 30 (0,0)),.blk b2 (.cells ([.int .i64 dk,.int .i64 dn,.slice Ab nb cb,.slice An nn cn,.slice Ap p.len cp]:List Value).toArray 30 (0,0))] w→Calls Tryz.prog 18 #[.slice Ab nb cb,.slice Ab' nb' cb'] w (FiE w (dbs==dbs')):=fun w hw=>(Calls.stay (K7 (HRB.out.up hw.k.below) (HRB'.out.up hw.k.below))).mono fun e w' h=>h
 have hst:∀w,Wd [] W [.blk b3 (.cells ([.int .i64 dk',.int .i64 dn',.slice Ab' nb' cb',.slice An' nn' cn',.slice Ap' p'.len cp']:List Value).toArray 30 (0,0)),.blk b2 (.cells ([.int .i64 dk,.int .i64 dn,.slice Ab nb cb,.slice An nn cn,.slice Ap p.len cp]:List Value).toArray 30 (0,0))] w→Calls Tryz.prog 42 #[.slice An nn cn,.slice An' nn' cn'] w (FiE w (dns==dns')):=fun w hw=>Q1w (HRN.out.up hw.k.below) (HRN'.out.up hw.k.below) hn6
 obtain⟨qb,hqb⟩:∃q,(dbs==dbs')=q:=⟨_,rfl⟩;obtain⟨qn,hqn⟩:∃q,(dns==dns')=q:=⟨_,rfl⟩;have HRE:=Lib.hid (show RES=(qb&&qn&&p.len==p'.len&&eqF p p') by rw[← HR.out];unfold eqV;simp only;rw[hqb,hqn,hk,hn,beq_self_eq_true,beq_self_eq_true];rfl);rw[hqb] at hby;rw[hqn] at hst
 cases qb with
 |false=>
  have HZ:=Lib.hid (show RES=false by rw[HRE.out];rfl);refine yn<|yq<|yq<|yr<|yo zF<|yo (zB 1)<|yo zF<|yo (zB 0)<|yo znf<|yo zM<|yo zF<|yo (zB 1)<|yo zF<|yo (zB 0)<|yo znf<|yo zN<|yo zM<|yo zF<|yo (zB 1)<|yo zF<|yo (zB 0) ?_;refine Q1 (Qb rfl rfl (by decide) rfl rfl (fun w hw=>hby w hw)) ?_;refine yo zO<|yo zN<|yo zM<|yo zS<|yo zS<|yo zS<|yo zS<|yo zS<|yo zS<|yo zY<|yo zM<|yo zS<|yo zS<|yo zS<|yo zS<|yo zS<|yo zS<|yo zS<|yo zY<|yl<|yn<|y1<|yq<|yr<|yo zA<|yl<|yn<|yt<|yc ?_;exact Q7 (by exact .inr rfl) rfl (.tmp rfl) (fun w hw=>⟨by rw[HZ.out],hw.k.below⟩)
 |true=>
 cases qn with
 |false=>
  have HZ:=Lib.hid (show RES=false by rw[HRE.out];rfl);refine yn<|yq<|yq<|yr<|yo zF<|yo (zB 1)<|yo zF<|yo (zB 0)<|yo znf<|yo zM<|yo zF<|yo (zB 1)<|yo zF<|yo (zB 0)<|yo znf<|yo zN<|yo zM<|yo zF<|yo (zB 1)<|yo zF<|yo (zB 0) ?_;refine Q1 (Qb rfl rfl (by decide) rfl rfl (fun w hw=>hby w hw)) ?_;refine yo zO<|yo zN<|yo zM<|yo zF<|yo (zB 1)<|yo zF<|yo (zB 0) ?_;refine Q1 (Qb rfl rfl (by decide) rfl rfl (fun w hw=>hst w hw)) ?_;refine yo zO<|yo zN<|yo zM<|yo zS<|yo zS<|yo zS<|yo zS<|yo zS<|yo zS<|yo zS<|yo zY<|yl<|yn<|y1<|yq<|yr<|yo zA<|yl<|yn<|yt<|yc ?_;exact Q7 (by exact .inr rfl) rfl (.tmp rfl) (fun w hw=>⟨by rw[HZ.out],hw.k.below⟩)
 |true=>
 by_cases hlen:p.len=p'.len
 case neg=>
  have HZ:=Lib.hid (show RES=false by rw[HRE.out,beq_eq_false_iff_ne.2 hlen];rfl);refine yn<|yq<|yq<|yr<|yo zF<|yo (zB 1)<|yo zF<|yo (zB 0)<|yo znf<|yo zM<|yo zF<|yo (zB 1)<|yo zF<|yo (zB 0)<|yo znf<|yo zN<|yo zM<|yo zF<|yo (zB 1)<|yo zF<|yo (zB 0) ?_;refine Q1 (Qb rfl rfl (by decide) rfl rfl (fun w hw=>hby w hw)) ?_;refine yo zO<|yo zN<|yo zM<|yo zF<|yo (zB 1)<|yo zF<|yo (zB 0) ?_;refine Q1 (Qb rfl rfl (by decide) rfl rfl (fun w hw=>hst w hw)) ?_;refine yo zO<|yo zN<|yo zM<|yo zF<|yo (zB 1)<|yo zL<|yo zF<|yo (zB 0)<|yo zL<|yo znt<|yo zN<|yl<|yn<|y1<|yq<|yr<|yo zA<|yl<|yn<|yt<|yc ?_;exact Q7 (by exact .inr rfl) rfl (.tmp rfl) (fun w hw=>⟨by rw[HZ.out],hw.k.below⟩)
 have HS:=Lib.hid (show RES=eqF p p' by rw[HRE.out,hlen,beq_self_eq_true];rfl);refine yn<|yq<|yq<|yr<|yo zF<|yo (zB 1)<|yo zF<|yo (zB 0)<|yo znf<|yo zM<|yo zF<|yo (zB 1)<|yo zF<|yo (zB 0)<|yo znf<|yo zN<|yo zM<|yo zF<|yo (zB 1)<|yo zF<|yo (zB 0) ?_;refine Q1 (Qb rfl rfl (by decide) rfl rfl (fun w hw=>hby w hw)) ?_;refine yo zO<|yo zN<|yo zM<|yo zF<|yo (zB 1)<|yo zF<|yo (zB 0) ?_;refine Q1 (Qb rfl rfl (by decide) rfl rfl (fun w hw=>hst w hw)) ?_;refine yo zO<|yo zN<|yo zM<|yo zF<|yo (zB 1)<|yo zL<|yo zF<|yo (zB 0)<|yo zL<|yo znf<|yo zN<|yl<|yn<|y0<|ys<|yn<|yq<|yq<|yr<|yo zA<|yl<|yn<|yb ?_;obtain⟨L,hL⟩:∃L,p.len=L:=⟨_,rfl⟩;have hL':p'.len=L:=hlen.symm.trans hL;clear hby hst hlen hqb hqn;rw[hL] at hp6 hpl;have HLL:=Lib.hid (And.intro hL hL')
 simp only[hL,hL']
 refine Z8 (ι:=Sw) (fun y=>VF.All SaC y.l∧Zq y.l∧(0<y.l.len→∃b o,Ap=some ⟨b,o,none⟩∧b<W.heap.size∧FIn W W.heap.size y.l b (o+y.i*5))∧(0<y.l'.len→∃b o,Ap'=some ⟨b,o,none⟩∧b<W.heap.size∧FIn W W.heap.size y.l' b (o+y.i*5))∧y.i+y.l.len=L∧y.i+y.l'.len=L∧RES=eqF y.l y.l') (fun y=>L - y.i) (fun y=>[(2,.pointer (some ⟨b2,0,none⟩)),(3,.pointer (some ⟨b3,0,none⟩)),(5,.int .i64 (y.i:Int))]) (fun _=>[.blk b3 (.cells ([.int .i64 dk',.int .i64 dn',.slice Ab' nb' cb',.slice An' nn' cn',.slice Ap' L cp']:List Value).toArray 30 (0,0)),.blk b2 (.cells ([.int .i64 dk,.int .i64 dn,.slice Ab nb cb,.slice An nn cn,.slice Ap L cp]:List Value).toArray 30 (0,0))]) ⟨0,p,p'⟩ ⟨HALL.out,HFP.out,by simpa using HCH.out,by simpa using HCH'.out,by show 0+p.len=L;rw[HLL.out.1,Nat.zero_add],by show 0+p'.len=L;rw[HLL.out.2,Nat.zero_add],HS.out⟩ (.cons rfl rfl (.cons rfl rfl (.cons rfl rfl .nil))) (fun w hw=>hw) ?_
 rintro⟨i,l,l'⟩ ⟨hall,hfl,hcl,hcl',hil,hil',hre⟩
 replace hil:i+l.len=L:=hil
 replace hil':i+l'.len=L:=hil'
 have HAL:=Lib.hid (show VF.All SaC l from hall);have HFL:=Lib.hid (show Zq l from hfl);have HCL:=Lib.hid (show 0<l.len→∃b o,Ap=some ⟨b,o,none⟩∧b<W.heap.size∧FIn W W.heap.size l b (o+i*5) from hcl);have HCL':=Lib.hid (show 0<l'.len→∃b o,Ap'=some ⟨b,o,none⟩∧b<W.heap.size∧FIn W W.heap.size l' b (o+i*5) from hcl');have HRL:=Lib.hid (show RES=eqF l l' from hre);clear hall hfl hcl hcl' hre
 show sE _ _ _ _ _ [(2,.pointer (some ⟨b2,0,none⟩)),(3,.pointer (some ⟨b3,0,none⟩)),(5,.int .i64 (i:Int))] [.blk b3 (.cells ([.int .i64 dk',.int .i64 dn',.slice Ab' nb' cb',.slice An' nn' cn',.slice Ap' L cp']:List Value).toArray 30 (0,0)),.blk b2 (.cells ([.int .i64 dk,.int .i64 dn,.slice Ab nb cb,.slice An nn cn,.slice Ap L cp]:List Value).toArray 30 (0,0))] _
 cases l with
 |nil=>
  have hiL:i=L:=hil
  have h0:l'=.nil:=by cases l' with
   |nil=>rfl
   |cons=>simp only[VF.len] at hil';omega
  subst h0;have HZ:=Lib.hid (show RES=true from HRL.out);refine yq<|yq<|yr<|yo zM<|yo zF<|yo (zB 1)<|yo zL<|yo zlf<|yl<|yn<|y0<|ye<|yn<|yq<|yr<|yo zA<|yl<|yn<|yt ?_;exact Q7 (by exact .inr rfl) rfl (.tmp rfl) (fun w hw=>⟨by rw[HZ.out],hw.k.below⟩)
 |cons d1 p1 r1=>
  cases l' with
  |nil=>simp only[VF.len] at hil hil';omega
  |cons d2 p2 r2=>
   have hilt:i<L:=by simp only[VF.len] at hil;omega
   obtain⟨b,o,rfl,hb,⟨sb1,sn1,sp1,hc1,hd1⟩,hr1⟩:=HCL.out (Nat.succ_pos _);obtain⟨b',o',rfl,hb',⟨sb2,sn2,sp2,hc2,hd2⟩,hr2⟩:=HCL'.out (Nat.succ_pos _);have HV1:=Lib.hid (show VIn W W.heap.size (.agg #[.int .i64 d1.k,.int .i64 d1.n,sb1,sn1,sp1]) d1 p1 from ⟨sb1,sn1,sp1,rfl,hd1⟩);have HV2:=Lib.hid (show VIn W W.heap.size (.agg #[.int .i64 d2.k,.int .i64 d2.n,sb2,sn2,sp2]) d2 p2 from ⟨sb2,sn2,sp2,rfl,hd2⟩);have hg1:=hc1.range2;have hg2:=hc2.range2;have HR1:=Lib.hid hr1;have HR2:=Lib.hid hr2;clear hc1 hc2 hd1 hd2 hr1 hr2;obtain⟨q,hq⟩:∃q,eqV d1 p1 d2 p2=q:=⟨_,rfl⟩;have HQ:=Lib.hid hq;have HRQ:=Lib.hid (show RES=(q&&eqF r1 r2) by rw[HRL.out,Q2L,hq]);clear hq
   cases q with
   |false=>
    have HZ:=Lib.hid (show RES=false by rw[HRQ.out];rfl);refine yq<|yq<|yr<|yo zM<|yo zF<|yo (zB 1)<|yo zL<|yo zlt<|yl<|yn<|y1<|ys<|yn<|yq<|yb<|yq<|Xj (by kernel_rfl) (by kernel_rfl) ?_;refine Q5 zF ?_;refine Q5 (zB 1) ?_;refine Q5 zM ?_;refine Q5 (zi (hj:=hilt)) ?_;refine Q5 (QB rfl rfl (by decide) rfl rfl (fun w hw=>hw.range_old hg1 (by simp)) rfl) ?_;refine Q5 zF ?_;refine Q5 (zB 0) ?_;refine Q5 zM ?_;refine Q5 (zi (hj:=hilt)) ?_;refine Q5 (QB rfl rfl (by decide) rfl rfl (fun w hw=>hw.range_old hg2 (by simp)) rfl) ?_;refine Q5 (Qb rfl rfl (by decide) rfl rfl (fun w hw=>(HAL.out.1 d2 p2 w _ _ HFL.out.1.2.2.1 HFL.out.2.1 HFL.out.2.2.1 (HV1.out.on hw.k.below) (HV2.out.on hw.k.below)).mono (fun e w' h=>by rw[HQ.out] at h;exact h))) ?_;refine Q5 zO ?_;refine XM ?_;refine yn<|y1<|yq<|yr<|yo zA<|yl<|yn<|yt<|yk<|yc<|yc<|yk<|yc ?_;exact Q7 (by exact .inr rfl) rfl (.tmp rfl) (fun w hw=>⟨by rw[HZ.out],hw.k.below⟩)
   |true=>
    have HZ:=Lib.hid (show RES=eqF r1 r2 by rw[HRQ.out];rfl);refine yq<|yq<|yr<|yo zM<|yo zF<|yo (zB 1)<|yo zL<|yo zlt<|yl<|yn<|y1<|ys<|yn<|yq<|yb<|yq<|Xj (by kernel_rfl) (by kernel_rfl) ?_;refine Q5 zF ?_;refine Q5 (zB 1) ?_;refine Q5 zM ?_;refine Q5 (zi (hj:=hilt)) ?_;refine Q5 (QB rfl rfl (by decide) rfl rfl (fun w hw=>hw.range_old hg1 (by simp)) rfl) ?_;refine Q5 zF ?_;refine Q5 (zB 0) ?_;refine Q5 zM ?_;refine Q5 (zi (hj:=hilt)) ?_;refine Q5 (QB rfl rfl (by decide) rfl rfl (fun w hw=>hw.range_old hg2 (by simp)) rfl) ?_;refine Q5 (Qb rfl rfl (by decide) rfl rfl (fun w hw=>(HAL.out.1 d2 p2 w _ _ HFL.out.1.2.2.1 HFL.out.2.1 HFL.out.2.2.1 (HV1.out.on hw.k.below) (HV2.out.on hw.k.below)).mono (fun e w' h=>by rw[HQ.out] at h;exact h))) ?_;refine Q5 zO ?_;refine XM ?_;refine yn<|y0<|ys<|yn<|yr<|yo zM<|yo zP<|yo zA<|yl ?_;refine Xb ⟨i+1,r1,r2⟩ ⟨HAL.out.2,HFL.out.2.2.2,fun _=>⟨b,o,rfl,hb,by show FIn W W.heap.size r1 b (o+(i+1)*5);rw[show o+(i+1)*5=o+i*5+5 by omega];exact HR1.out⟩,fun _=>⟨b',o',rfl,hb',by show FIn W W.heap.size r2 b' (o'+(i+1)*5);rw[show o'+(i+1)*5=o'+i*5+5 by omega];exact HR2.out⟩,by show i+1+r1.len=L;simp only[VF.len] at hil;omega,by show i+1+r2.len=L;simp only[VF.len] at hil';omega,HZ.out⟩ (by show L - (i+1)<L - i;omega) (.cons rfl rfl (.cons rfl rfl (.cons rfl (by go_num) .nil))) (fun w hw=>hw)
theorem Kr(d:Nd)(p:VF):SaC d p:=VF.all_each Q7E d p
end Go.Proofs.YtphkhfdmlcnoeaaGreatDoor
