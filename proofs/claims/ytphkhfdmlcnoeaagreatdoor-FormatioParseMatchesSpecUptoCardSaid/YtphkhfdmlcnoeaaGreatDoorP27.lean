import Derived.Test.YtphkhfdmlcnoeaaGreatDoorP18
namespace Go.Proofs.YtphkhfdmlcnoeaaGreatDoor
set_option linter.unusedVariables false
set_option linter.unusedSimpArgs false
set_option maxRecDepth 1000000
set_option maxHeartbeats 32000000
open Go.RowKit
section
variable {c:UInt8}{i:Nat}{l:List UInt8}
def nI(big:Bool)(l:List UInt8)(i:Nat):Int:=if big then QI true (l.take i) else leN (l.drop (l.length - i))
theorem Qpr(big:Bool)(l:List UInt8):nI big l 0=0:=by
 unfold nI;cases big
 ·rw[if_neg Q1,Nat.sub_zero,List.drop_length];rfl
 ·rw[if_pos rfl];rfl
theorem Qgv(big:Bool)(l:List UInt8):nI big l l.length=QI big l:=by
 unfold nI;cases big
 ·rw[if_neg Q1,Nat.sub_self];rfl
 ·rw[if_pos rfl,List.take_length]
theorem Qu9(h:l[i]? =some c):256*nI true l i+(c.toNat:Int)=nI true l (i+1):=by
 unfold nI;rw[if_pos rfl,if_pos rfl,List.take_add_one,h];show _=QI true (l.take i++[c]);rw[Q6E];omega
theorem Qju(hi:i<l.length)(h:l[l.length - 1 - i]? =some c):256*nI false l i+(c.toNat:Int)=nI false l (i+1):=by
 unfold nI;rw[if_neg Q1,if_neg Q1];obtain⟨hl,hc⟩:=List.getElem?_eq_some_iff.1 h;have e:l.drop (l.length - (i+1))=c::l.drop (l.length - i):=by
  rw[show l.length - (i+1)=l.length - 1 - i by omega,List.drop_eq_getElem_cons hl,hc,show l.length - 1 - i+1=l.length - i by omega]
 rw[e];show _=(c.toNat:Int)+256*leN (l.drop (l.length - i));omega
theorem Qw0{big:Bool}(hi:i<=l.length)(h4:l.length<=4):0<=nI big l i/\nI big l i<4294967296:=by
 have h:0<=nI big l i/\∃j,j<=4/\nI big l i<256 ^ j:=by
  unfold nI;cases big
  ·rw[if_neg Q1];exact⟨Kb false _,_,by rw[List.length_drop];omega,Q0R false _⟩
  ·rw[if_pos rfl];exact⟨Kb true _,_,by rw[List.length_take];omega,Q0R true _⟩
 obtain⟨h0,j,hj,h1⟩:=h;refine⟨h0,?_⟩;rcases (show j=0\/j=1\/j=2\/j=3\/j=4 by omega) with rfl|rfl|rfl|rfl|rfl<;>simp at h1<;>omega
def nmT:Except Nat (Int×Nat)->Value
 |.error x=>.tuple #[.int .i64 0,.int .i64 0,.int .i64 (x:Int)]
 |.ok y=>.tuple #[.int .i64 y.1,.int .i64 (y.2:Int),.int .i64 (-1)]
section
variable {W:World}{p nd cd:Nat}{D:List UInt8}{Ad:Option Addr}
theorem ZP{r:Rl}{sb sn sp:Value}(hr:JX r)(hd:Rd W W.heap.size 1 Ad nd (bv D))(hD:D.length<=1000)(hp:p<=D.length){y:Except Nat (Int×Nat)}(hy:YD r D p=some y):
  Calls Tryz.prog 81 #[.agg (ruC r sb sn sp).toArray,.slice Ad nd cd,.int .i64 (p:Int)] W (fun e w'=>e=.returned (nmT y)/\Below W.heap.size W w'):=by
 have hnd:D.length=nd:=by have:=hd.len;rw[Xr] at this;exact this
 subst hnd;have HD:=Q2 hd;have HY:=Q2 hy;have hkind:=hr.kind;have hdec:=hr.dec;have hnum:=hr.num;have hst0:=hr.stop;clear hr hd hy;obtain⟨name,kind,bs,size,big,mn,mx,stop,count,elem,names,parts⟩:=r;simp only at hkind hdec hnum hst0;simp only[ruC];go_enter Tryz.func81,Tryz.ntmps81;refine Qv (M:=[]) (W:=W) (N:=118) (E:=[(0,.agg [.string ⟨name.toArray⟩,.int .i64 kind,sb,.int .i64 size,.bool big,.int .i64 mn,.int .i64 mx,.int .i64 stop,.int .i64 count,.int .i64 elem,sn,sp].toArray),(1,.slice Ad D.length cd),(2,.int .i64 (p:Int))]) (O:=[]) ?_ Zo (Wd.start [] W);by_cases h3:kind=3
 ·subst h3;have HRE:=Q2 (show JM stop mx (D.drop p) false 0 p=some y by rw[<- HY.out];unfold YD;rw[if_pos rfl]);obtain⟨hmx0,hmx1,hst⟩:=hdec rfl;clear hdec hnum hst0 hkind;refine yq<|yr ?_;refine yB fun b3=>?_;refine yo zA<|yo zA<|yo zA<|yl<|yn<|yq<|yr<|yo zA<|yl<|yn<|yq<|yq<|yr<|yo zF<|yo (zB 0)<|yo zef<|yl<|yn<|y0<|ys<|yn<|yq<|yq<|yr<|yo zM<|yo zA<|yl<|yn<|yb ?_;refine QH (ι:=Nat×Int) (fun i=>p+i.1<=D.length/\JM stop mx (D.drop (p+i.1)) (decide (0<i.1)) i.2 (p+i.1)=some y/\(0<=i.2/\i.2<=999999999)/\(i.1=0->i.2=0)/\(0<i.1->∃c,D[p]? =some c/\(i.2=0↔c.toNat=48))) (fun i=>D.length - (p+i.1)) (fun i=>[(1,.slice Ad D.length cd),(2,.int .i64 (p:Int)),(3,.pointer (some ⟨b3,0,none⟩)),(9,.int .i64 i.2),(12,.int .i64 ((p+i.1:Nat):Int))]) (fun _=>[.blk b3 (.cells ([.string ⟨name.toArray⟩,.int .i64 3,sb,.int .i64 size,.bool big,.int .i64 mn,.int .i64 mx,.int .i64 stop,.int .i64 count,.int .i64 elem,sn,sp]:List Value).toArray 65 (0,0))]) (0,0) [0] Q1 ⟨hp,HRE.out,by decide,fun _=>rfl,fun h=>absurd h Q9Z⟩ Yj rfl ?_
  rintro⟨i,n⟩ ⟨hi,hres,⟨hn0,hn1⟩,hz0,hz⟩;have HRES:=Q2 hres;have HZ:=Q2 hz;clear hres hz;simp only at hi hn0 hn1 hz0;show sE _ _ _ _ _ [(1,.slice Ad D.length cd),(2,.int .i64 (p:Int)),(3,.pointer (some ⟨b3,0,none⟩)),(9,.int .i64 n),(12,.int .i64 ((p+i:Nat):Int))] [.blk b3 (.cells ([.string ⟨name.toArray⟩,.int .i64 3,sb,.int .i64 size,.bool big,.int .i64 mn,.int .i64 mx,.int .i64 stop,.int .i64 count,.int .i64 elem,sn,sp]:List Value).toArray 65 (0,0))] _;cases hc:D[p+i]? with
  |none=>
   have hle:D.length<=p+i:=List.getElem?_eq_none_iff.1 hc;have HE:=Q2 (show y=.error (p+i) by have:=(Qc0 (stop:=stop) (mx:=mx) (n:=n) (b:=decide (0<i)) hc).symm.trans HRES.out;injection this with this;exact this.symm);clear hc;refine yq<|yq<|yr<|yo zM<|yo zM<|yo zL<|yo zlf<|yl<|yn<|y0<|ye<|yn<|yq<|yr<|yo zM<|yo zL<|yo zA<|yo zA<|yo zA<|yl<|yn<|yt ?_;have hpl:D.length=p+i:=by omega
   exact QO mc4 rfl (.tmp rfl) (.tmp rfl) (.tmp rfl) (fun w hw=>⟨by rw[HE.out,hpl];rfl,hw.k.below⟩)
  |some c=>
   have hlt:p+i<D.length:=(List.getElem?_eq_some_iff.1 hc).1;have HC:=Q2 hc;have hcv:=Za c;have hct:=c.toNat_lt;obtain⟨qb,ob,rfl,hqB,hcell⟩:=Js HD.out hc;clear hc;refine yq<|yq<|yr<|yo zM<|yo zM<|yo zL<|yo zlt<|yl<|yn<|y1<|ys<|yn<|yq<|yb<|yq<|yr<|yo zM<|yo zM<|yo zi1<|yo (zG hcell) ?_;refine Q4 Q2p ?_;refine yo zA<|yl<|yn ?_;by_cases hs:0<i/\(c.toNat:Int)=stop
   ·have HE:=Q2 (show y=.ok (n,p+i+1) by have:=(Q8j (mx:=mx) (n:=n) HC.out (decide_eq_true hs.1) hs.2).symm.trans HRES.out;injection this with this;exact this.symm);obtain⟨hi0,hs⟩:=hs;have hq:((c.toNat:Int)==stop)=true:=beq_iff_eq.2 hs;refine yq<|yq<|yr<|yo zM<|yo zM<|yo zgt<|yo zM<|yo zM<|yo zF<|yo (zB 0)<|yo zea<|yo zY<|yl<|yn<|y1<|yq<|yr<|yo zM<|yo zM<|yo zP<|yo zA<|yo zA<|yo zA<|yl<|yn<|yt<|yc<|yk<|yc<|yc<|yk<|yc ?_;exact QO mc4 rfl (.tmp rfl) (.tmp rfl) (.tmp rfl) (fun w hw=>⟨by rw[HE.out];rfl,hw.k.below⟩)
   ·have hsn:¬(decide (0<i)=true/\(c.toNat:Int)=stop):=fun h=>hs ⟨of_decide_eq_true h.1,h.2⟩
    refine XU (ι:=Unit) (fun _=>True) (fun _=>[(1,.slice (some ⟨qb,ob,none⟩) D.length cd),(2,.int .i64 (p:Int)),(3,.pointer (some ⟨b3,0,none⟩)),(9,.int .i64 n),(12,.int .i64 ((p+i:Nat):Int)),(13,.int .i64 (c.toNat:Int))]) (fun _=>[.blk b3 (.cells ([.string ⟨name.toArray⟩,.int .i64 3,sb,.int .i64 size,.bool big,.int .i64 mn,.int .i64 mx,.int .i64 stop,.int .i64 count,.int .i64 elem,sn,sp]:List Value).toArray 65 (0,0))]) ?_ (fun _ _=>?_)
    ·by_cases hi0:0<i
     ·have hq:((c.toNat:Int)==stop)=false:=beq_eq_false_iff_ne.2 (fun h=>hs ⟨hi0,h⟩);refine yq<|yr<|yo zM<|yo zM<|yo zgt<|yo zM<|yo zM<|yo zF<|yo (zB 0)<|yo zea<|yo zY<|yl<|yn<|y0<|ys ?_;exact Xq () [0] Q1 trivial Q5l rfl
     ·refine yq<|yr<|yo zM<|yo zM<|yo zgf<|yo zM<|yo zS<|yo zS<|yo zS<|yo zS<|yo zN<|yl<|yn<|y0<|ys ?_;exact Xq () [0] Q1 trivial Q5l rfl
    ·by_cases hdd:48<=c.toNat/\c.toNat<=57
     ·have hin:inB (c.toNat:Int) 48 57=true:=QM.2 Q3
      by_cases hi0:0<i
      ·obtain⟨c0,hc0,hz0'⟩:=HZ.out hi0
       simp only at hz0';obtain⟨qb',ob',e',_,hcell0⟩:=Js HD.out hc0;cases e';clear hc0;by_cases h0:c0.toNat=48
       ·have HE:=Q2 (show y=.error (p+i) by have:=(Vg (mx:=mx) HC.out hsn (.inr (.inl ⟨decide_eq_true hi0,hz0'.2 h0⟩))).symm.trans HRES.out;injection this with this;exact this.symm);have h0':((c0.toNat:Int)==48)=true:=beq_iff_eq.2 Q3;refine Qi7 ?_;refine yo zO<|yo zM<|yo zM<|yo zM<|yo zgt<|yo zM<|yo zM<|yo zM<|yo zi1<|yo (zG hcell0)<|yo zea<|yo zY<|yo zN<|yl<|yn<|y1<|yq<|yr<|yo zM<|yo zA<|yo zA<|yo zA<|yl<|yn<|yt<|yc<|yk<|yc<|yc<|yk<|yc ?_;exact QO mc4 rfl (.tmp rfl) (.tmp rfl) (.tmp rfl) (fun w hw=>⟨by rw[HE.out];rfl,hw.k.below⟩)
       ·have h0':((c0.toNat:Int)==48)=false:=beq_eq_false_iff_ne.2 Q3
        have hn0':n≠0:=fun h=>h0 (hz0'.1 h);by_cases hm:mx<10*n+((c.toNat:Int) - 48)
        ·have HE:=Q2 (show y=.error (p+i) by have:=(Vg (mx:=mx) HC.out hsn (.inr (.inr hm))).symm.trans HRES.out;injection this with this;exact this.symm);refine QqH ?_;refine Qre ?_;exact QO mc4 rfl (.tmp rfl) (.tmp rfl) (.tmp rfl) (fun w hw=>⟨by rw[HE.out];rfl,hw.k.below⟩)
        ·have HN:=Q2 (show JM stop mx (D.drop (p+(i+1))) (decide (0<i+1)) (10*n+(c.toNat:Int) - 48) (p+(i+1))=some y by rw[show 10*n+(c.toNat:Int) - 48=10*n+((c.toNat:Int) - 48) by omega,show decide (0<i+1)=true from decide_eq_true Q3,<- HRES.out,Q15 HC.out hsn hdd (fun h=>hn0' h.2) hm];rfl);have HC0:=Q2 (show ∃c,D[p]? =some c/\(10*n+(c0.toNat:Int) - 48=10*n+(c0.toNat:Int) - 48) by obtain⟨c,hc,_⟩:=HZ.out hi0;exact⟨c,hc,rfl⟩);refine QqH ?_;refine Qt1 ?_;refine Qr (i+1,10*n+(c.toNat:Int) - 48) [0] Q1 ⟨hlt,HN.out,⟨by show 0<=10*n+(c.toNat:Int) - 48;omega,by show 10*n+(c.toNat:Int) - 48<=999999999;omega⟩,fun h=>absurd h (Nat.succ_ne_zero i),fun _=>?_⟩ (by show D.length - (p+(i+1))<D.length - (p+i);omega) J9 rfl;obtain⟨c1,hc1,h1⟩:=HZ.out hi0;refine⟨c1,hc1,?_⟩
         show 10*n+(c.toNat:Int) - 48=0↔_;simp only at h1;omega
      ·have hi00:i=0:=by omega
       subst hi00;have hn00:n=0:=hz0 rfl;subst hn00;by_cases hm:mx<10*0+((c.toNat:Int) - 48)
       ·have HE:=Q2 (show y=.error (p+0) by have:=(Vg (mx:=mx) HC.out hsn (.inr (.inr hm))).symm.trans HRES.out;injection this with this;exact this.symm);refine QrH ?_;refine Qre ?_;exact QO mc4 rfl (.tmp rfl) (.tmp rfl) (.tmp rfl) (fun w hw=>⟨by rw[HE.out];rfl,hw.k.below⟩)
       ·have HN:=Q2 (show JM stop mx (D.drop (p+1)) true (10*0+(c.toNat:Int) - 48) (p+1)=some y by rw[show (10*0+(c.toNat:Int) - 48)=10*0+((c.toNat:Int) - 48) by omega,<- HRES.out];exact(Q15 HC.out hsn hdd (fun h=>by simp at h) hm).symm);refine QrH ?_;refine Qt1 ?_;refine Qr (1,10*0+(c.toNat:Int) - 48) [0] Q1 ⟨hlt,HN.out,⟨by show 0<=10*0+(c.toNat:Int) - 48;omega,by show 10*0+(c.toNat:Int) - 48<=999999999;omega⟩,fun h=>absurd h (Nat.succ_ne_zero 0),fun _=>⟨c,HC.out,by show 10*0+(c.toNat:Int) - 48=0↔_;omega⟩⟩ (by show D.length - (p+1)<D.length - (p+0);omega) J9 rfl
     ·have hin:inB (c.toNat:Int) 48 57=false:=Bool.eq_false_iff.2 fun h=>hdd (by have:=QM.1 h;omega)
      have HE:=Q2 (show y=.error (p+i) by have:=(Vg (mx:=mx) HC.out hsn (.inl hdd)).symm.trans HRES.out;injection this with this;exact this.symm);refine Qi7 ?_;refine yo zO<|yo zM<|yo zS<|yo zS<|yo zS<|yo zS<|yo zS<|yo zS<|yo zS<|yo zS<|yo zS<|yo zS<|yo zY<|yl<|yn<|y1<|yq<|yr<|yo zM<|yo zA<|yo zA<|yo zA<|yl<|yn<|yt<|yc<|yk<|yc<|yc<|yk<|yc ?_;exact QO mc4 rfl (.tmp rfl) (.tmp rfl) (.tmp rfl) (fun w hw=>⟨by rw[HE.out];rfl,hw.k.below⟩)
 ·have h2:kind=2:=hkind.resolve_right h3;subst h2;obtain⟨hs1,hs4,hm0,hmm,hmx⟩:=hnum rfl;obtain⟨sz,rfl⟩:∃sz:Nat,size=(sz:Int):=⟨size.toNat,by omega⟩;have HRE:=Q2 (show rb (ZG D p (sz:Int)) (fun y=>if QI big y.1<mn\/mx<QI big y.1 then erR p else okR (QI big y.1,y.2))=some y by rw[<- HY.out];unfold YD;rw[if_neg QfQ]);clear hdec hnum hkind hst0
  by_cases hsh:(D.length:Int) - p<(sz:Int)
  ·have HE:=Q2 (show y=.error D.length by have:=HRE.out;unfold ZG at this;rw[if_pos hsh] at this;injection this with this;exact this.symm);refine yq<|yr ?_;refine yB fun b3=>?_;refine yo zA<|yo zA<|yo zA<|yl<|yn<|yq<|yr<|yo zA<|yl<|yn<|yq<|yq<|yr<|yo zF<|yo (zB 0)<|yo zet<|yl<|yn<|y1<|yq<|yq<|yr<|yo zM<|yo zL<|yo zM<|yo zQ<|yo zF<|yo (zB 0)<|yo zlt<|yl<|yn<|y1<|yq<|yr<|yo zM<|yo zL<|yo zA<|yo zA<|yo zA<|yl<|yn<|yt<|yc<|yc ?_;exact QO mc4 rfl (.tmp rfl) (.tmp rfl) (.tmp rfl) (fun w hw=>⟨by rw[HE.out];rfl,hw.k.below⟩)
  ·obtain⟨l,hl⟩:∃l,(D.drop p).take sz=l:=⟨_,rfl⟩
   have hll:l.length=sz:=by rw[<- hl,List.length_take,List.length_drop];omega
   have HRF:=Q2 (show (if QI big l<mn\/mx<QI big l then erR p else okR (QI big l,p+sz))=some y by have:=HRE.out;unfold ZG at this;rw[if_neg hsh,show ((sz:Int)).toNat=sz from rfl,hl] at this;exact this);have hget:∀j,j<sz->∃c,l[j]? =some c/\D[p+j]? =some c:=fun j hj=>by
    have h1:p+j<D.length:=by omega
    refine⟨D[p+j],?_,List.getElem?_eq_getElem h1⟩;rw[<- hl,List.getElem?_take_of_lt hj,List.getElem?_drop,List.getElem?_eq_getElem h1]
   have HGET:=Q2 hget;clear hget hl;subst hll;refine yq<|yr ?_;refine yB fun b3=>?_;refine yo zA<|yo zA<|yo zA<|yl<|yn<|yq<|yr<|yo zA<|yl<|yn<|yq<|yq<|yr<|yo zF<|yo (zB 0)<|yo zet<|yl<|yn<|y1<|yq<|yq<|yr<|yo zM<|yo zL<|yo zM<|yo zQ<|yo zF<|yo (zB 0)<|yo zlf<|yl<|yn<|y0<|ys<|yn<|yq<|yq<|yr<|yo zA<|yl<|yn<|yb ?_;refine QH (ι:=Nat) (fun i=>i<=l.length) (fun i=>l.length - i) (fun i=>[(1,.slice Ad D.length cd),(2,.int .i64 (p:Int)),(3,.pointer (some ⟨b3,0,none⟩)),(9,.int .i64 (nI big l i)),(10,.int .i64 (i:Int))]) (fun _=>[.blk b3 (.cells ([.string ⟨name.toArray⟩,.int .i64 2,sb,.int .i64 (l.length:Int),.bool big,.int .i64 mn,.int .i64 mx,.int .i64 stop,.int .i64 count,.int .i64 elem,sn,sp]:List Value).toArray 65 (0,0))]) 0 [0] Q1 XY (.cons rfl rfl (.cons rfl rfl (.cons rfl rfl (.cons rfl (by rw[Qpr]) Qfv)))) rfl ?_;intro i hi;show sE _ _ _ _ _ [(1,.slice Ad D.length cd),(2,.int .i64 (p:Int)),(3,.pointer (some ⟨b3,0,none⟩)),(9,.int .i64 (nI big l i)),(10,.int .i64 (i:Int))] [.blk b3 (.cells ([.string ⟨name.toArray⟩,.int .i64 2,sb,.int .i64 (l.length:Int),.bool big,.int .i64 mn,.int .i64 mx,.int .i64 stop,.int .i64 count,.int .i64 elem,sn,sp]:List Value).toArray 65 (0,0))] _;have hlt:=Qw0 (big:=big) hi Q3;by_cases hin:i<l.length
   ·cases big with
    |true=>
     obtain⟨c,hc1,hc2⟩:=HGET.out i hin;obtain⟨qb,ob,rfl,hqB,hcell⟩:=Js HD.out hc2;have hcv:=Za c;have hct:=c.toNat_lt;have hstep:=Qu9 hc1;have hjj:(p:Int)+(i:Int)=((p+i:Nat):Int):=by omega
     have hpi:p+i<D.length:=(List.getElem?_eq_some_iff.1 hc2).1;have hw2:IntKind.i64.wrap (256*nI true l i+(c.toNat:Int))=nI true l (i+1):=by rw[<- hstep];exact IntWalk.i64_in _ Q3
     have hw3:IntKind.i64.wrap ((p:Int)+(i:Int))=((p+i:Nat):Int):=by rw[<- hjj];exact IntWalk.i64_in _ Q3
     clear hc1 hc2 hstep;refine yq<|yq<|yr<|yo zM<|yo zF<|yo (zB 0)<|yo zlt<|yl<|yn<|y1<|ys<|yn<|yq<|yb<|yq<|yr<|yo zM<|yo zM ?_;refine Q4 (Q7l (k:=.i64) rfl rfl Q1 rfl rfl rfl hw3) ?_;refine yo zA<|yl<|yn<|yq<|yq<|yr<|yo zF<|yo (zB 0)<|yo zO<|yl<|yn<|y0<|ys<|yn<|yr<|yo zM ?_;refine QrA ?_;refine Qr (i+1) [0] Q1 hin Qhb J9 rfl
    |false=>
     obtain⟨c,hc1,hc2⟩:=HGET.out (l.length - 1 - i) Q3;obtain⟨qb,ob,rfl,hqB,hcell⟩:=Js HD.out hc2;have hcv:=Za c;have hct:=c.toNat_lt;have hstep:=Qju hin hc1;have hpi:p+(l.length - 1 - i)<D.length:=(List.getElem?_eq_some_iff.1 hc2).1;have hjj:(p:Int)+(l.length:Int) - 1 - (i:Int)=((p+(l.length - 1 - i):Nat):Int):=by omega
     have hw2:IntKind.i64.wrap (256*nI false l i+(c.toNat:Int))=nI false l (i+1):=by rw[<- hstep];exact IntWalk.i64_in _ Q3
     have hw3:IntKind.i64.wrap ((p:Int)+(l.length:Int) - 1 - (i:Int))=((p+(l.length - 1 - i):Nat):Int):=by rw[<- hjj];exact IntWalk.i64_in _ Q3
     clear hc1 hc2 hstep;refine yq<|yq<|yr<|yo zM<|yo zF<|yo (zB 0)<|yo zlt<|yl<|yn<|y1<|ys<|yn<|yq<|yb<|yq<|yr<|yo zM<|yo zM<|yo zP<|yo zA<|yl<|yn<|yq<|yq<|yr<|yo zF<|yo (zB 0)<|yo zO<|yl<|yn<|y1<|yr<|yo zM<|yo zF<|yo (zB 0)<|yo zP<|yo zQ<|yo zM ?_;refine Q4 (Q4R (k:=.i64) rfl rfl Q1 rfl rfl rfl hw3) ?_;refine yo zA<|yl<|yn<|yr<|yo zM ?_;refine QrA ?_;refine Qr (i+1) [0] Q1 hin Qhb J9 rfl
   ·have hil:i=l.length:=by omega
    subst hil;rw[Qgv];obtain⟨n,hn⟩:∃n,QI big l=n:=⟨_,rfl⟩;rw[Qgv] at hlt;rw[hn] at hlt;have HRG:=Q2 (show (if n<mn\/mx<n then erR p else okR (n,p+l.length))=some y by rw[<- hn];exact HRF.out);rw[hn];clear hn;by_cases hb:mn<=n/\n<=mx
    ·have hib:inB n mn mx=true:=QM.2 hb;have HE:=Q2 (show y=.ok (n,p+l.length) by have:=HRG.out;rw[if_neg Q3] at this;injection this with this;exact this.symm);refine QrV ?_;refine yo zO<|yl<|yn<|y0<|ys<|yn<|yq<|Xb Q5 Q5 ?_;refine Y7 ?_;refine Q2v ?_;refine Qe zP ?_;refine Qe zA ?_;refine Qe zA ?_;refine Q4o ?_;refine yn<|yt<|yc ?_;exact QO mc4 rfl (.tmp rfl) (.tmp rfl) (.tmp rfl) (fun w hw=>⟨by rw[HE.out];rfl,hw.k.below⟩)
    ·have hib:inB n mn mx=false:=Bool.eq_false_iff.2 fun h=>hb (QM.1 h)
     have HE:=Q2 (show y=.error p by have:=HRG.out;rw[if_pos Q3] at this;injection this with this;exact this.symm);refine QrV ?_;refine yo zO<|yl<|yn<|y1<|yq<|yr<|yo zM<|yo zA<|yo zA<|yo zA<|yl<|yn<|yt<|yc<|yc ?_;exact QO mc4 rfl (.tmp rfl) (.tmp rfl) (.tmp rfl) (fun w hw=>⟨by rw[HE.out];rfl,hw.k.below⟩)
end
end
end Go.Proofs.YtphkhfdmlcnoeaaGreatDoor
