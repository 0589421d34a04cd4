import Derived.Test.YtphkhfdmlcnoeaaGreatDoorP27
import Derived.Test.YtphkhfdmlcnoeaaGreatDoorP28
namespace Go.Proofs.YtphkhfdmlcnoeaaGreatDoor
set_option linter.unusedVariables false
set_option linter.unusedSimpArgs false
set_option maxRecDepth 1000000
set_option maxHeartbeats 32000000
open Go.RowKit
section
variable {i:Nat}{names:List (List UInt8)}{u:List UInt8}
theorem Q8c(h:names[i]? =some u)(hz:u=[]):QF (names.take (i+1))=QF (names.take i):=by
 rw[List.take_add_one,h];unfold QF;rw[List.filter_append];show _++List.filter _ [u]=_;rw[List.filter_cons_of_neg (by simp [hz])];exact List.append_nil _
theorem Q7y(h:names[i]? =some u)(hz:¬u=[]):QF (names.take (i+1))=QF (names.take i)++[u]:=by
 rw[List.take_add_one,h];unfold QF;rw[List.filter_append];show _++List.filter _ [u]=_;rw[List.filter_cons_of_pos (by simpa using hz)];rfl
theorem Qld(N:List (List UInt8))(s:ByteArray):sv (N++[s.data.toList])=sv N++[.string s]:=by
 unfold sv;rw[List.map_append];obtain⟨⟨l⟩⟩:=s;rfl
section
variable {W w w':World}{nn cf n:Nat}{F:List Rl}{Af:Option Addr}{k:Int}{d:Nd}{p:VF}{v:Value}
theorem QtZ(hv:Fm F)(hk:0<=k/\k<F.length)(h:QS W W.heap.size Af nn F)(hval:VIn W W.heap.size v d p)(hn0:QJ d p.len=0)(hd1:d.bs.length<=1048576)(hno:n+Qy d p<=1099511627776)(hall:VF.All (FoC F) p)(hgp:Vk p)(hfp:XD p)(hpl6:p.len<=1048576)(hd2:d.ns.length<=1048576)(hkind:(Qh F k).kind=7):
  Calls Tryz.prog 49 #[.agg #[.slice Af nn cf],.int .i64 k,v,.int .i64 (n:Int)] W (FoE W (Qs F k d p n) n (Qy d p)):=by
 have HF:=Q2 h;have HVAL:=Q2 hval;have hFn:F.length=nn:=h.1;have hr:=hv.toUsd.rok hk;obtain⟨_,_,_,hpn,hnn7⟩:=YY hn0;obtain⟨RES,hres⟩:∃x,Qs F k d p n=x:=⟨_,rfl⟩;have HBAD:=Q2 (show X0 F (Qh F k) d p=false->RES=.error n from fun h=>by rw[<- hres];exact Y4 h);have HG:=Q2 (And.intro hall (And.intro hgp hfp));have HV0:=Q2 hv;have hseven:=hr.seven hkind;have hp12:=hr.p12;have hpt:=hr.parts Q0Z;have HL7:=Q2 (show p.len=(QF (Qh F k).names).length->X0 F (Qh F k) d p=true->RES=Vh F (Qh F k).names (Qh F k).parts p (n+1) from fun hpn h=>by rw[<- hres];exact Qd8 h hkind (hr.seven hkind).1 hpn);clear hall hgp hfp;rw[hres];obtain⟨bf,of,haf,_⟩:=h.2 VX;subst haf;obtain⟨hbB,Ab,cb,An,cn,Ap,cp,hrg,hru⟩:=h.ruleB (k:=k) Q3;have hkn:0<=k/\k<(nn:Int):=by omega
 clear h hres;obtain⟨r,er⟩:∃r,Qh F k=r:=⟨_,rfl⟩;rw[er] at hkind hr hrg hru HBAD HL7 hseven hp12 hpt;clear er;have HRK:=Q2 hr;obtain⟨sb,sn,sp,rfl,Abv,nb,cbv,Anv,nnv,cnv,Apv,cpv,rfl,rfl,rfl,hnb,hnn,hpl,hcm,hrb,hrn,hch⟩:=hval;have hnbl:d.bs.length=nb:=by have:=hrb.len;rw[QM] at this;exact this
 have hnnl:d.ns.length=nnv:=by have:=hrn.len;rw[Xw] at this;exact this
 subst hnbl hnnl;have HCH:=Q2 hch;obtain⟨dk,dn,dbs,dns⟩:=d;simp only[Qy] at hno hd1 hpn ⊢;replace hd1:dbs.length<=1048576:=hd1;have HRP:=Q2 (show Rd W W.heap.size 1 Ap r.parts.length (iv r.parts) from hru.p);have HRN:=Q2 (show Rd W W.heap.size 1 An r.names.length (sv r.names) from hru.n);have HDN:=Q2 (show Rd W W.heap.size 1 Anv dns.length (sv dns) from hrn);replace hnn7:dk=4->dns.length=p.len:=hnn7;replace hd2:dns.length<=1048576:=hd2;clear hrb hrn hch hru hv hr;obtain⟨name,kind,bs,size,big,mn,mx,stop,count,elem,names,parts⟩:=r;simp only[ruC] at hkind hrg HRP hseven hp12 hpt HRN;have hcost:1<=300+dbs.length+Qv p:=by omega
 obtain⟨CO,hCO⟩:∃CO,300+dbs.length+Qv p=CO:=⟨_,rfl⟩;have hCb:300+dbs.length+Qv p<=CO:=by omega
 rw[hCO] at hno hcost ⊢;clear hCO;go_enter Tryz.func49,Tryz.ntmps49;refine Qz (M:=[]) (W:=W) (N:=359) (E:=[(0,.agg #[.slice Vz nn cf]),Q29,(2,.agg [.int .i64 dk,.int .i64 dn,.slice Abv dbs.length cbv,.slice Anv dns.length cnv,.slice Apv p.len cpv].toArray),(3,.int .i64 (n:Int))]) (O:=[]) ?_ Qbe (Wd.start [] W);refine yq<|yr ?_;refine yB fun b4=>?_;refine yB fun b6=>?_;refine Qam ?_;refine yA fun b11=>?_;refine Q9G ?_;subst hkind;have HB:=Q2 (show (dk==4&&dns==QF names)=false->RES=.error n from fun h=>HBAD.out (Eq.trans (Q3I rfl) h));have HY:=Q2 (show p.len=(QF names).length->(dk==4&&dns==QF names)=true->RES=Vh F names parts p (n+1) from fun hl h=>HL7.out hl (Eq.trans (Q3I rfl) h));clear HBAD HL7;have hse:names.length=parts.length:=hseven.1;replace hp12:parts.length<=12:=hp12;have HPT:=Q2 (show ∀x∈parts,0<=x/\x<(F.length:Int) from hpt);clear hpt;by_cases hw1:¬dk=4
 ·have hq:(dk != 4)=true:=bne_iff_ne.2 hw1;have HX:=Q2 (show RES=.error n from HB.out (by rw[beq_eq_false_iff_ne.2 hw1];rfl));refine yn<|yq<|yq<|yr<|yo zF<|yo (zB 0)<|yo zef<|yo zM<|yo zF<|yo (zB 0)<|yo zef<|yo zN<|yl<|yn<|y0<|ys<|yn<|yq<|yq<|yr<|yo zF<|yo (zB 0)<|yo zef<|yo zM<|yo zF<|yo (zB 0)<|yo zef<|yo zN<|yo zM<|yo zF<|yo (zB 0)<|yo zef<|yo zN<|yl<|yn<|y0<|ys<|yn<|yq<|yq<|yr<|yo zF<|yo (zB 0)<|yo zet<|yl<|yn<|y1<|yr<|yo zA<|yl<|yn<|yq<|yq<|yr<|yo zF<|yo (zB 1)<|yo zM<|yo zna<|yl<|yn<|y1<|yq<|yr<|yo zM<|yo zA<|yo zA<|yo zA<|yl<|yn<|yt<|yc ?_;exact ZU mc4 rfl (.tmp rfl) (.tmp rfl) (.tmp rfl) (fun w hw=>Q3h HX.out hw.k.below)
 have hw1:=Decidable.not_not.1 hw1;subst hw1;have hnl7:=hnn7 rfl;refine yn<|yq<|yq<|yr<|yo zF<|yo (zB 0)<|yo zef<|yo zM<|yo zF<|yo (zB 0)<|yo zef<|yo zN<|yl<|yn<|y0<|ys<|yn<|yq<|yq<|yr<|yo zF<|yo (zB 0)<|yo zef<|yo zM<|yo zF<|yo (zB 0)<|yo zef<|yo zN<|yo zM<|yo zF<|yo (zB 0)<|yo zef<|yo zN<|yl<|yn<|y0<|ys<|yn<|yq<|yq<|yr<|yo zF<|yo (zB 0)<|yo zet<|yl<|yn<|y1<|yr<|yo zA<|yl<|yn<|yq<|yq<|yr<|yo zF<|yo (zB 1)<|yo zM<|yo znf<|yl<|yn<|y0<|ys<|yn<|yq<|yr<|yo zA<|yl<|yn<|yq<|yr<|yo zA<|yl<|yn<|yq<|yr<|yo zA<|yl<|yn<|yq<|yq<|yr<|yo zF<|yo (zB 0)<|yl<|yn<|yb<|yq<|yr<|yo zef<|yo zA<|yl<|yn<|y0<|yq<|yq<|yr<|yo zef<|yo zA<|yl<|yn<|y0<|yr<|yo zef<|yo zA<|yl<|yn<|y0<|yq<|yr<|yo zef<|yo zA<|yl<|yn<|y0<|yq<|yr<|yo zef<|yo zA<|yl<|yn<|y0<|yq<|yr<|yo zef<|yo zA<|yl<|yn<|y0<|yq<|yr<|yo zef<|yo zA<|yl<|yn<|y0<|yq<|yr<|yo zef<|yo zA<|yl<|yn<|y0<|yq<|yr<|yo zet<|yo zA<|yl<|yn<|y1<|yq<|yr<|yo zA<|yl<|yn<|yq<|yq<|yr<|yo zA<|yl<|yn<|yb ?_;refine Q16 9 1 ?_;refine QK (ι:=Nat×Option Addr×Nat) (fun z=>z.1<=names.length) (fun z=>names.length - z.1) (fun z=>[(3,.int .i64 (n:Int)),(4,.pointer (some ⟨b4,0,none⟩)),(6,.pointer (some ⟨b6,0,none⟩)),(11,.pointer (some ⟨b11,0,none⟩)),(13,.slice none 0 0),(14,.slice none 0 0),(17,.slice z.2.1 (QF (names.take z.1)).length z.2.2),(18,.int .i64 (z.1:Int))]) (fun z=>[.row z.2.1 (QF (names.take z.1)).length z.2.2 9 1 (sv (QF (names.take z.1))),.blk b11 (.cells (Q7Z:List Value).toArray 65 (0,0)),.blk b6 (.cells ([.int .i64 4,.int .i64 dn,.slice Abv dbs.length cbv,.slice Anv dns.length cnv,.slice Apv p.len cpv]:List Value).toArray 30 (0,0)),.blk b4 (.cells ([.slice Vz nn cf]:List Value).toArray 24 (0,0))]) (0,none,0) [0,1,2,3] Q1 Z4 (.cons rfl rfl KW) rfl ?_;rintro⟨j,A,c⟩ hj;replace hj:j<=names.length:=hj;show sE _ _ _ _ _ [(3,.int .i64 (n:Int)),(4,.pointer (some ⟨b4,0,none⟩)),(6,.pointer (some ⟨b6,0,none⟩)),(11,.pointer (some ⟨b11,0,none⟩)),(13,.slice none 0 0),(14,.slice none 0 0),(17,.slice A (QF (names.take j)).length c),(18,.int .i64 (j:Int))] [.row A (QF (names.take j)).length c 9 1 (sv (QF (names.take j))),.blk b11 (.cells (Q7Z:List Value).toArray 65 (0,0)),.blk b6 (.cells ([.int .i64 4,.int .i64 dn,.slice Abv dbs.length cbv,.slice Anv dns.length cnv,.slice Apv p.len cpv]:List Value).toArray 30 (0,0)),.blk b4 (.cells ([.slice Vz nn cf]:List Value).toArray 24 (0,0))] _;by_cases hjl:j<names.length
 ·obtain⟨bm,om,s,rfl,hbm,hs,hcs⟩:=Vb HRN.out hjl
  by_cases hz:s.data.toList=[]
  ·have hst:(s.data.toList != (⟨#[]⟩:ByteArray).data.toList)=false:=by rw[hz];rfl
   have hnt:=Q8c hs hz;clear hs;refine QoD ?_;refine yl<|yn<|y0<|ys<|yn<|yr<|yo zM<|yo zP<|yo zA<|yl ?_;exact Qx (j+1,A,c) hjl QmR (.cons rfl rfl (.cons rfl rfl (.cons rfl rfl (.cons rfl rfl (.cons rfl rfl (.cons rfl rfl (.cons rfl (by rw[hnt]) Q0a))))))) (fun w hw=>by show Wd [] W [.row A (QF (names.take (j+1))).length c 9 1 (sv (QF (names.take (j+1)))),.blk b11 (.cells ([.string ⟨name.toArray⟩,.int .i64 7,.slice Ab bs.length cb,.int .i64 size,.bool big,.int .i64 mn,.int .i64 mx,.int .i64 stop,.int .i64 count,.int .i64 elem,.slice (some ⟨bm,om,none⟩) names.length cn,.slice Ap parts.length cp]:List Value).toArray 65 (0,0)),.blk b6 (.cells ([.int .i64 4,.int .i64 dn,.slice Abv dbs.length cbv,.slice Anv dns.length cnv,.slice Apv p.len cpv]:List Value).toArray 30 (0,0)),.blk b4 (.cells ([.slice Vz nn cf]:List Value).toArray 24 (0,0))] w;rw[hnt];exact hw)
  ·have hst:(s.data.toList != (⟨#[]⟩:ByteArray).data.toList)=true:=bne_iff_ne.2 hz;have hnt:=Q7y hs hz;clear hs
   have hnl:(QF (names.take j)).length<=j:=by
    have h:=List.length_filter_le (fun s:List UInt8=>s != []) (names.take j);rw[List.length_take] at h;unfold QF;omega
   refine QoD ?_;refine yl<|yn<|y1<|yr<|yo zM<|yo zF<|yo (zB 1)<|yo zM<|yo (zi1 (hj:=hjl))<|yo (zG hcs) ?_;refine Qd Jy rfl Q1 (fun bs1 _=>?_);refine Qd Qr2 rfl Q1 (fun z1 _=>?_);refine Kk ?_;have hll:(QF (names.take j)++[s.data.toList]).length=(QF (names.take j)).length+1:=by rw[List.length_append];rfl
   refine Qx (j+1,z1.1,z1.2) hjl QmR (.cons rfl rfl (.cons rfl rfl (.cons rfl rfl (.cons rfl rfl (.cons rfl rfl (.cons rfl rfl (.cons rfl (by rw[hnt,hll]) Q0a))))))) (fun w hw=>?_);show Wd [] W [.row z1.1 (QF (names.take (j+1))).length z1.2 9 1 (sv (QF (names.take (j+1)))),.blk b11 (.cells ([.string ⟨name.toArray⟩,.int .i64 7,.slice Ab bs.length cb,.int .i64 size,.bool big,.int .i64 mn,.int .i64 mx,.int .i64 stop,.int .i64 count,.int .i64 elem,.slice (some ⟨bm,om,none⟩) names.length cn,.slice Ap parts.length cp]:List Value).toArray 65 (0,0)),.blk b6 (.cells ([.int .i64 4,.int .i64 dn,.slice Abv dbs.length cbv,.slice Anv dns.length cnv,.slice Apv p.len cpv]:List Value).toArray 30 (0,0)),.blk b4 (.cells ([.slice (some ⟨bf,of,none⟩) nn cf]:List Value).toArray 24 (0,0))] w;rw[hnt,hll,Qld];exact hw.tl
 ·have hjn:j=names.length:=by omega
  subst hjn;rw[List.take_length];have hnn12:(QF names).length<=12:=by
   have h:=List.length_filter_le (fun s:List UInt8=>s != []) names;unfold QF;omega
  cases hb:(QF names==dns)
  ·have hne:¬dns=QF names:=fun h=>by rw[h,beq_self_eq_true] at hb;cases hb
   have HX:=Q2 (show RES=.error n from HB.out (by rw[show (dns==QF names)=false from beq_eq_false_iff_ne.2 hne];rfl));refine QnO ?_;refine Qdz ?_;exact ZU mc4 rfl (.tmp rfl) (.tmp rfl) (.tmp rfl) (fun w hw=>Q3h HX.out hw.k.below)
  ·have hee:dns=QF names:=(beq_iff_eq.1 hb).symm
   have hpln:p.len=(QF names).length:=by rw[<- hnl7,hee]
   have HX:=Q2 (HY.out hpln (by rw[show (dns==QF names)=true from beq_iff_eq.2 hee];rfl));refine QnO ?_;refine yo zA<|yl<|yn<|yq<|yq<|yr<|yo zM<|yo zO<|yl<|yn<|y0<|ys<|yn<|yq<|yr<|yo zM<|yo zP<|yo zA<|yl<|yn<|yq<|yr<|yo zA<|yl<|yn<|yq<|yq<|yr<|yo zF<|yo (zB 1)<|yo zef<|yl<|yn<|y0<|ys<|yn<|yq<|yq<|yr<|yo zM<|yo zA<|yl<|yn<|yb ?_;refine QK (ι:=Nat) (fun i=>i<=p.len) (fun i=>p.len - i) (fun i=>[(4,.pointer (some ⟨b4,0,none⟩)),(6,.pointer (some ⟨b6,0,none⟩)),(11,.pointer (some ⟨b11,0,none⟩)),(13,.slice none 0 0),(19,.int .i64 ((n+1:Nat):Int)),(21,.int .i64 (i:Int))]) (fun _=>[.blk b11 (.cells (Q7Z:List Value).toArray 65 (0,0)),.blk b6 (.cells ([.int .i64 4,.int .i64 dn,.slice Abv dbs.length cbv,.slice Anv dns.length cnv,.slice Apv p.len cpv]:List Value).toArray 30 (0,0)),.blk b4 (.cells ([.slice Vz nn cf]:List Value).toArray 24 (0,0))]) 0 [1,2,3] Q1 Z4 (.cons rfl rfl (.cons rfl rfl (.cons rfl rfl (.cons rfl rfl (.cons rfl (by go_num) Qe6))))) rfl ?_;rintro i hi;show sE _ _ _ _ _ [(4,.pointer (some ⟨b4,0,none⟩)),(6,.pointer (some ⟨b6,0,none⟩)),(11,.pointer (some ⟨b11,0,none⟩)),(13,.slice none 0 0),(19,.int .i64 ((n+1:Nat):Int)),(21,.int .i64 (i:Int))] [.blk b11 (.cells (Q7Z:List Value).toArray 65 (0,0)),.blk b6 (.cells ([.int .i64 4,.int .i64 dn,.slice Abv dbs.length cbv,.slice Anv dns.length cnv,.slice Apv p.len cpv]:List Value).toArray 30 (0,0)),.blk b4 (.cells ([.slice Vz nn cf]:List Value).toArray 24 (0,0))] _;by_cases hil:i<p.len
   ·refine yq<|yq<|yr<|yo zM<|yo zF<|yo (zB 1)<|yo zL<|yo zlt<|yl<|yn<|y1<|ys<|yn<|yq<|yb<|yq<|yr<|yo zF<|yo (zB 0)<|yl<|yn<|yb<|yq<|yq<|yr<|yo zef<|yo zA<|yl<|yn<|y0<|yr<|yo zef<|yo zA<|yl<|yn<|y0<|yq<|yr<|yo zef<|yo zA<|yl<|yn<|y0<|ys<|yn<|yr<|yo zM<|yo zP<|yo zA<|yl ?_;exact Qt (i+1) [0,1,2] Q1 hil (by show p.len - (i+1)<p.len - i;omega) Q8S rfl
   ·have hip:i=p.len:=by omega
    subst hip;refine yq<|yq<|yr<|yo zM<|yo zF<|yo (zB 1)<|yo zL<|yo zlf<|yl<|yn<|y0<|ye<|yn<|yq<|yq<|yr<|yo zF<|yo (zB 0)<|yo zet<|yl<|yn<|y1 ?_;refine Q16 5 1 ?_;refine Vv (E':=[(4,.pointer (some ⟨b4,0,none⟩)),(6,.pointer (some ⟨b6,0,none⟩)),(11,.pointer (some ⟨b11,0,none⟩)),(13,.slice none 0 0),(19,.int .i64 ((n+1:Nat):Int))]) (O':=[.row none 0 0 5 1 [],.blk b11 (.cells (Q7Z:List Value).toArray 65 (0,0)),.blk b6 (.cells ([.int .i64 4,.int .i64 dn,.slice Abv dbs.length cbv,.slice Anv dns.length cnv,.slice Apv p.len cpv]:List Value).toArray 30 (0,0)),.blk b4 (.cells ([.slice Vz nn cf]:List Value).toArray 24 (0,0))]) Vg Zc ?_;exact Qui (y0:=⟨false,none,0,[]⟩) HV0.out HG.out.1 HG.out.2.1 HG.out.2.2 HF.out hFn HCH.out hpln hse hp12 HPT.out HRP.out HRN.out rfl hpl6 Q6c HX.out Q3 hno
theorem Qed(hv:Fm F):∀d p,FoC F d p:=VF.all_each fun d p hall hn0 hgp hnf hfp hpl6 W Af nn cf n k v hk h hval hno=>by
 have hr:=hv.toUsd.rok hk;obtain⟨hnd,hd1,hd2,hd3⟩:=hnf;have hkd:=hr.kind;by_cases h7:(Qh F k).kind=7
 ·exact QtZ hv hk h hval hn0 hd1 hno hall hgp hfp hpl6 hd2 h7
 by_cases h8:(Qh F k).kind=8
 ·exact Qu3 hv hk h hval hn0 hd1 hno hall hgp hfp hpl6 h8
 by_cases h6:(Qh F k).kind=6\/(Qh F k).kind=9
 ·exact Qp4 hv hk h hval hn0 hd1 hno hall hgp hfp hpl6 h6
 exact Qq9 hv hk h hval hn0 hd1 hno Q3
end
end
def QqY(F:List Rl)(d:Nd)(l:VF)(W:World)(e:Ending)(w':World):Prop:=∃A c,e=.returned (.tuple #[.slice A (Js F d l).1.length c,.agg #[.int .i64 (Js F d l).2.1,.int .i64 (Js F d l).2.2]])/\New [.rd A (Js F d l).1.length 1 (bv (Js F d l).1)] W.heap.size w'/\Below W.heap.size W w'
theorem Qqb{W w w':World}{O:List Qf}{e:Ending}{res:Wtg}{n cost:Nat}(hw:Wd [] W O w)(h:FoE w res n cost e w'):X7 foV (fun q=>foP res n cost q/\∀y,q=.ok y->∀b,(Qf.rd y.A y.b.length 1 (bv y.b)).foot=some b->W.heap.size<=b) [] W (foG O) e w':=by
 obtain⟨hb,⟨x,h1,h2⟩|⟨b,m,A,c,h1,h2,h3,h4,h5⟩⟩:=h
 ·exact⟨.error x,h2,⟨h1,fun y hy=>by cases hy⟩,by have:=hw.made hb (New.nil w.heap.size w');rwa [List.append_nil] at this⟩
 ·refine⟨.ok ⟨b,m,A,c⟩,h2,⟨⟨h1,h4,h5⟩,fun y hy b' hb'=>?_⟩,hw.made hb h3⟩
  cases hy
  exact Nat.le_trans hw.k.size (h3.far _ List.mem_cons_self b' hb')
section
variable {W w:World}{n c:Nat}{F:List Rl}{d:Nd}{l:VF}{A:Option Addr}{v:Value}{x y:Int}
theorem Qpf(h:Js F d l=([],(x,y)))(hb:Below W.heap.size W w):QqY F d l W (.returned (.tuple #[.slice none 0 0,.agg #[.int .i64 x,.int .i64 y]])) w:=by
 refine⟨none,0,by rw[h];rfl,?_,hb⟩;rw[h];exact Yr (J7 _ _ _) (fun b hb=>by cases hb)
theorem Qa2(hf:QS W W.heap.size A n F)(hz:QI F=(0,0))(hz2:XJ d l=(0,0))(hv:VIn W W.heap.size v d l)(hsz:Sz d l):
  Calls Tryz.prog 17 #[.agg #[.slice A n c],v] W (QqY F d l W):=by
 have HF:=Q2 hf;have HZ:=Q2 hz;have HZ2:=Q2 hz2;have HSZ:=Q2 hsz;have HV:=Q2 hv;have HFM:=Q2 (Q75 hz);have HK:=Q2 (show 0<=(0:Int)/\(0:Int)<F.length by have:=HFM.out.len;omega);have HGD:=Q2 (Q8W hz2);have hcost:=Q77 hsz hz2;obtain⟨sb,sn,sp,rfl,Abv,nb,cbv,Anv,nnv,cnv,Apv,cpv,rfl,rfl,rfl,_⟩:=hv;clear hf hz hz2 hsz;go_enter Tryz.func17,Tryz.ntmps17;refine Qz (M:=[]) (W:=W) (N:=26) (E:=[VD,Qbg]) (O:=[]) ?_ mc3 QR;refine yq<|yr ?_;refine yB fun b2=>?_;refine yB fun b3=>?_;refine yo zA ?_;refine yA fun b5=>?_;refine yl<|yn<|yq<|yr<|yo (zD 2)<|yo (zD 1) ?_;refine Qd (QY foV (fun q=>foP (Qs F 0 d l 0) 0 (Qy d l) q/\∀y,q=.ok y->∀b,(Qf.rd y.A y.b.length 1 (bv y.b)).foot=some b->W.heap.size<=b) (foG _) rfl rfl rfl (fun w hw=>(Qed HFM.out d l HGD.out.1 HGD.out.2 HSZ.out.1 HSZ.out.2.1 HSZ.out.2.2 w _ _ _ 0 0 _ HK.out Q5m Q78 Q3).mono (fun e w' h=>Qqb hw h))) rfl Q1 (fun y hy=>?_);obtain⟨hy,hyf⟩:=hy;cases y with
 |error x=>
  have HX:=Q2 (Qg4 HZ.out HZ2.out (show Qs F 0 d l 0=.error x from hy));clear hyf;refine yo zM<|yo zX<|yo zX<|yo zX<|yo zA<|yo zA<|yo zA<|yl<|yn<|yq<|yq<|yr<|yo zM<|yo zht<|yl<|yn<|y1<|yq<|yr<|yo zM ?_;refine Qoc ?_;exact Qoz
 |ok y=>
  obtain⟨b,m,A',c'⟩:=y;obtain⟨hy1,hy2,hy3⟩:=hy;have HY:=Q2 (show Qs F 0 d l 0=.ok (b,m) from hy1);have HYF:=Q2 (show ∀b',(Qf.rd A' b.length 1 (bv b)).foot=some b'->W.heap.size<=b' from hyf _ rfl);clear hy1 hyf;by_cases hl:1000<b.length
  ·have HX:=Q2 (Qc0 HZ.out HZ2.out HY.out hl)
   have hl':(1000:Int)<(b.length:Int):=by omega
   refine yo zM<|yo zX<|yo zX<|yo zX<|yo zA<|yo zA<|yo zA<|yl<|yn<|yq<|yq<|yr<|yo zM<|yo zhf<|yl<|yn<|y0<|ys<|yn<|yq<|yq<|yr<|yo zM<|yo zL<|yo zgt<|yl<|yn<|y1<|yq<|yr ?_;refine Qoc ?_;exact Qoz
  ·have HX:=Q2 (Q4o HZ.out HZ2.out HY.out hl)
   have hl':¬(1000:Int)<(b.length:Int):=by omega
   refine yo zM<|yo zX<|yo zX<|yo zX<|yo zA<|yo zA<|yo zA<|yl<|yn<|yq<|yq<|yr<|yo zM<|yo zhf<|yl<|yn<|y0<|ys<|yn<|yq<|yq<|yr<|yo zM<|yo zL<|yo zgf<|yl<|yn<|y0<|ys<|yn<|yq<|yr<|yo zM ?_;refine Q4 mc6 ?_;refine Qc2 ?_;refine yl<|yn<|yt ?_;exact ZS mc4 rfl (.tmp rfl) Kb (fun w hw=>⟨A',c',by rw[HX.out];rfl,by rw[HX.out];exact Yr (hw.own 3 _ rfl) HYF.out,hw.k.below⟩)
end
section
variable {A:Option Addr}{n c:Nat}{W w:World}{F:List Rl}{d:Nd}{l:VF}{v:Value}{O:List Qf}
theorem QiT{b:List UInt8}{cd x:Int}(hw:Wd [] W O w)(hf:QS w w.heap.size A n F)(hz:QI F=(0,0))(hz2:XJ d l=(0,0))(hv:VIn w w.heap.size v d l)(hsz:Sz d l)(h:Js F d l=(b,(cd,x))):
  Calls Tryz.prog 17 #[.agg #[.slice A n c],v] w (X7 (fun y:Option Addr×Nat=>.tuple #[.slice y.1 b.length y.2,.agg #[.int .i64 cd,.int .i64 x]]) (fun y=>True) [] W (fun y=>O++[.rd y.1 b.length 1 (bv b)])):=
 (Qa2 hf hz hz2 hv hsz).mono fun e w' ⟨A',c',h1,h2,h3⟩=>by
  rw[h] at h1 h2;exact⟨(A',c'),h1,trivial,hw.made h3 h2⟩
theorem Q2y(hf:QS W W.heap.size A n F)(hs:FSm F)(hc:n<=c)(hg:GV W)(hv:VIn W W.heap.size v d l)(hsz:Sz d l):
  Calls Tryz.prog 4 #[.agg #[.slice A n c],v] W (Qtv W):=by
 have HF:=Q2 hf;have HS:=Q2 hs;have HG:=Q2 hg;have HV:=Q2 hv;have HSZ:=Q2 hsz;obtain⟨⟨b,cd,x⟩,hp⟩:∃p,Js F d l=p:=⟨_,rfl⟩;have HP:=Q2 hp;obtain⟨⟨fa,fb⟩,hab⟩:∃p,QI F=p:=⟨_,rfl⟩;have HAB:=Q2 hab;obtain⟨⟨va,vb⟩,hvf⟩:∃p,XJ d l=p:=⟨_,rfl⟩;have HVF:=Q2 hvf;obtain⟨sb,sn,sp,rfl,Abv,nb,cbv,Anv,nnv,cnv,Apv,cpv,rfl,rfl,rfl,_⟩:=hv;clear hf hs hg hsz;go_enter Tryz.func4,Tryz.ntmps4;refine Qz (M:=[]) (W:=W) (N:=49) (E:=[VD,Qbg]) (O:=[]) ?_ mc3 QR;refine yq<|yr ?_;refine yB fun b2=>?_;refine yB fun b3=>?_;refine yo zA<|yl<|yn<|yq<|yq<|yr ?_;refine Q4 (Ql rfl rfl Q1 rfl rfl (fun w hw=>Q8m Q10)) ?_;refine yo zO<|yl<|yn<|y0<|ys<|yn<|yq<|yr<|yo (zD 1)<|yo (zD 0) ?_;refine Qd (QY _ _ _ rfl rfl rfl (fun w hw=>Qdc hw Q5m HS.out hc Q10 Q78 HSZ.out HP.out)) rfl Q1 (fun wo hyo=>?_);refine Q8D ?_;refine yA fun b6=>?_;refine Qc2 ?_;refine yl<|yn<|yq<|yr<|yo (zD 2) ?_;refine Q4 (Ql rfl rfl Q1 rfl rfl (fun w hw=>(Q9I Q5m HS.out).mono (fun _ _ h=>by rw[HAB.out] at h;exact h))) ?_;refine yA fun b7=>?_;refine Q58 ?_;by_cases hz:fa=0
 ·subst hz;have h0:QI F=(0,0):=Qo9 (by rw[hab]);have H0:=Q2 h0
  have e2:fb=0:=by rw[h0] at hab;exact(congrArg Prod.snd hab).symm
  subst e2;clear hab;refine yn<|yq<|yq<|yr<|yo zF<|yo (zB 0)<|yo zet<|yl<|yn<|y1<|yr<|yo (zD 2) ?_;refine Q4 (Ql rfl rfl Q1 rfl rfl (fun w hw=>(Q47 Q78 HSZ.out).mono (fun _ _ h=>by rw[HVF.out] at h;exact h))) ?_;refine Q58 ?_;by_cases hy:va=0
  ·subst hy;have h1:XJ d l=(0,0):=Qto (by rw[hvf]);have H1:=Q2 h1
   have e4:vb=0:=by rw[h1] at hvf;exact(congrArg Prod.snd hvf).symm
   subst e4;clear hvf h0 h1 hp;refine yn<|yq<|yq<|yr<|yo zF<|yo (zB 0)<|yo znf<|yl<|yn<|y0<|ys<|yn<|yq<|yr<|yo (zD 3)<|yo (zD 2) ?_;refine Qd (QY _ _ _ rfl rfl rfl (fun w hw=>QiT hw Q5m H0.out H1.out Q78 HSZ.out HP.out)) rfl Q1 (fun z hz=>?_);refine yo zM<|yo zX<|yo zX<|yo zA ?_;refine yW 0 ?_;refine yl<|yn<|yq<|yr<|yo (zD 1)<|yo (zD 0) ?_;refine Q4 Qqy ?_;refine yo zM<|yo zM<|yo zM ?_;refine Q4 (Ql rfl rfl Q1 rfl rfl (fun w hw=>Calls.stay (Q0J (a:=b) (b:=b) (B:=w.heap.size) (B':=w.heap.size) (hw.onAll (.rd wo.1 b.length 1 (bv b)) Qn) (hw.onAll (.rd z.1 b.length 1 (bv b)) Qn)))) ?_;refine yo zY<|yo zA<|yl<|yn<|yt ?_;exact Q7 mc4 rfl (.tmp rfl) (fun w hw=>⟨by rw[beq_self_eq_true],hw.k.below⟩)
  ·have hq2:Js F d l=([],(va,vb)):=by rw[<- hvf];exact Qha h0 (by rw[hvf];intro e;exact hy (congrArg Prod.fst e))
   rw[hp] at hq2;have e1:b=[]:=congrArg Prod.fst hq2;have e3:cd=va:=congrArg (fun p=>p.2.1) hq2;have e4:x=vb:=congrArg (fun p=>p.2.2) hq2;subst e1 e3 e4;have hnz:=neI hy;clear hq2 hp hvf h0;refine yn<|yq<|yq<|yr<|yo zF<|yo (zB 0)<|yo zna<|yl<|yn<|y1<|yq<|yr<|yo (zD 1)<|yo (zD 0) ?_;refine QjB ?_;exact Q7 mc4 rfl (.tmp rfl) QbC
 ·have hq2:Js F d l=([],(fa,fb)):=by rw[<- hab];exact Qgr (by rw[hab];intro e;exact hz (congrArg Prod.fst e))
  rw[hp] at hq2;have e1:b=[]:=congrArg Prod.fst hq2;have e3:cd=fa:=congrArg (fun p=>p.2.1) hq2;have e4:x=fb:=congrArg (fun p=>p.2.2) hq2;subst e1 e3 e4;have hnz:=neI hz;have hnz2:(cd==0)=false:=beq_eq_false_iff_ne.2 hz;clear hq2 hp hab hvf;refine yn<|yq<|yq<|yr<|yo zF<|yo (zB 0) ?_;refine Q4 (Yz rfl rfl Q1 rfl rfl rfl hnz2) ?_;refine yl<|yn<|y0<|ys<|yn<|yq<|yq<|yr<|yo zF<|yo (zB 0)<|yo zna<|yl<|yn<|y1<|yq<|yr<|yo (zD 1)<|yo (zD 0) ?_;refine QjB ?_;exact Q7 mc4 rfl (.tmp rfl) QbC
end
end Go.Proofs.YtphkhfdmlcnoeaaGreatDoor
