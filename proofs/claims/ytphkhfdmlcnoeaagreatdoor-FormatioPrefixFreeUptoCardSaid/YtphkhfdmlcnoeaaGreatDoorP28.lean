import Derived.Test.YtphkhfdmlcnoeaaGreatDoorP27
namespace Go.Proofs.YtphkhfdmlcnoeaaGreatDoor
set_option linter.unusedVariables false
set_option linter.unusedSimpArgs false
open Go.RowKit
section
variable {W:World}{z:Rv}{B g p:Nat}{F:List Rl}{D:List UInt8}
theorem QbK{stop mx n:Int}{b:Bool}{p:Nat}(h:D[p]? =none):ZN stop mx (D.drop p) b n p=some (.error p):=by
 have:D.drop p=[]:=List.drop_eq_nil_of_le (by
  rcases Nat.lt_or_ge p D.length with hl|hl
  ·rw[List.getElem?_eq_getElem hl] at h;cases h
  ·exact hl)
 rw[this]
 rfl
theorem Qa5{stop mx n:Int}{b:Bool}{p:Nat}{c:UInt8}(h:D[p]? =some c)(hb:b=true)(hs:(c.toNat:Int)=stop):ZN stop mx (D.drop p) b n p=some (.ok (n,p+1)):=by
 rw[Z9 h,ZN,if_pos (by simp [hb,hs])]
 rfl
theorem Kk{stop mx n:Int}{b:Bool}{p:Nat}{c:UInt8}(h:D[p]? =some c)(h1:¬(b=true∧(c.toNat:Int)=stop))(h2:¬(48≤c.toNat∧c.toNat≤57)∨(b=true∧n=0)∨mx<10*n+((c.toNat:Int) - 48)):ZN stop mx (D.drop p) b n p=some (.error p):=by
 rw[Z9 h,ZN,if_neg (by simpa using h1),if_pos]
 ·rfl
 ·simp only[Bool.or_eq_true,Bool.not_eq_true',decide_eq_false_iff_not,Bool.and_eq_true,decide_eq_true_eq]
  rcases h2 with h2|h2|h2
  ·exact .inl (.inl h2)
  ·exact .inl (.inr h2)
  ·exact .inr h2
theorem Q4v{stop mx n:Int}{b:Bool}{p:Nat}{c:UInt8}(h:D[p]? =some c)(h1:¬(b=true∧(c.toNat:Int)=stop))(hd:48≤c.toNat∧c.toNat≤57)(hz:¬(b=true∧n=0))(hm:¬mx<10*n+((c.toNat:Int) - 48)):ZN stop mx (D.drop p) b n p=ZN stop mx (D.drop (p+1)) true (10*n+((c.toNat:Int) - 48)) (p+1):=by
 rw[Z9 h,ZN,if_neg (by simpa using h1),if_neg]
 simp only[Bool.or_eq_true,Bool.not_eq_true',decide_eq_false_iff_not,Bool.and_eq_true,decide_eq_true_eq,not_or,Decidable.not_not]
 exact⟨⟨hd,hz⟩,hm⟩
set_option maxRecDepth 100000 in
set_option maxHeartbeats 16000000 in
theorem Q8l(h:J0 W z B g F D p){r:Rl}{sb sn sp:Value}(hmx:0≤r.mx∧r.mx≤999999999)(hst:¬(48≤r.stop∧r.stop≤57)):Calls Tryz.prog 98 #[.pointer (some ⟨g,0,none⟩),.agg (ruC r sb sn sp).toArray] W (NmE z g W (ZN r.stop r.mx (D.drop p) false 0 p)):=by
 have H:=Lib.hid h;have hwd:=h.wd;have hp:=h.hp;have hD:=h.hD;obtain⟨name,kind,bs,size,big,mn,mx,stop,count,elem,names,parts⟩:=r
 simp only[ruC] at hmx hst ⊢
 obtain⟨RES,hres⟩:∃r,ZN stop mx (D.drop p) false 0 p=r:=⟨_,rfl⟩;have HR0:=Lib.hid hres;rw[hres];clear h hres;obtain⟨Af,As,Ad,nn,nd,cf,cs,cd⟩:=z
 go_enter Tryz.func98,Tryz.ntmps98
 haveI:Pan (bodyPost Tryz.prog Tryz.f98 (NmE ⟨Af,As,Ad,nn,nd,cf,cs,cd⟩ g W RES)) (Q7K RES g W):=Pan.body fun ch w' ⟨x,h1,h2,h3⟩=>⟨h3,.inl ⟨x,h1,by rw[h2]⟩⟩
 refine QE (M:=[g]) (W:=W) (N:=83) (E:=[(0,.pointer (some ⟨g,0,none⟩)),(1,.agg [.string ⟨name.toArray⟩,.int .i64 kind,sb,.int .i64 size,.bool big,.int .i64 mn,.int .i64 mx,.int .i64 stop,.int .i64 count,.int .i64 elem,sn,sp].toArray)]) (O:=[.blk g (.cells ([.slice Af nn cf,.slice As nn cs,.slice Ad nd cd,.int .i64 (p:Int)]:List Value).toArray 60 (0,0))]) ?_ (Ag.cons (Ag.cons (Ag.nil rfl rfl) rfl) rfl) hwd;clear hwd;refine yq<|yr ?_;refine yB fun b3=>?_;refine yo zA<|yl<|yn<|yq<|Xj (by kernel_rfl) (by kernel_rfl) ?_;refine Q5 zM ?_;refine Q5 (Qp rfl rfl (by decide) rfl rfl) ?_;refine Q5 zF ?_;refine Q5 (zB 1) ?_;refine Q5 zA ?_;refine Q5 zA ?_;refine XM ?_;refine yn<|yb ?_;refine Z8 (ι:=Nat×Int) (fun y=>p+y.1≤D.length∧RES=ZN stop mx (D.drop (p+y.1)) (decide (0<y.1)) y.2 (p+y.1)∧0≤y.2∧y.2≤999999999) (fun y=>D.length - y.1) (fun y=>[(0,.pointer (some ⟨g,0,none⟩)),(3,.pointer (some ⟨b3,0,none⟩)),(5,.int .i64 y.2),(6,.int .i64 (p:Int))]) (fun y=>[.blk b3 (.cells ([.string ⟨name.toArray⟩,.int .i64 kind,sb,.int .i64 size,.bool big,.int .i64 mn,.int .i64 mx,.int .i64 stop,.int .i64 count,.int .i64 elem,sn,sp]:List Value).toArray 65 (0,0)),.blk g (.cells ([.slice Af nn cf,.slice As nn cs,.slice Ad nd cd,.int .i64 ((p+y.1:Nat):Int)]:List Value).toArray 60 (0,0))]) (0,0) ⟨hp,HR0.out.symm,by decide,by decide⟩ (.cons rfl rfl (.cons rfl rfl (.cons rfl rfl (.cons rfl rfl .nil)))) (fun w hw=>hw) ?_
 rintro⟨i,n⟩ ⟨hpi,hres,hn0,hn1⟩
 have HRES:=Lib.hid hres;clear hres
 simp only at hpi hn0 hn1
 show sE _ _ _ _ _ [(0,.pointer (some ⟨g,0,none⟩)),(3,.pointer (some ⟨b3,0,none⟩)),(5,.int .i64 n),(6,.int .i64 (p:Int))] [.blk b3 (.cells ([.string ⟨name.toArray⟩,.int .i64 kind,sb,.int .i64 size,.bool big,.int .i64 mn,.int .i64 mx,.int .i64 stop,.int .i64 count,.int .i64 elem,sn,sp]:List Value).toArray 65 (0,0)),.blk g (.cells ([.slice Af nn cf,.slice As nn cs,.slice Ad nd cd,.int .i64 ((p+i:Nat):Int)]:List Value).toArray 60 (0,0))] _
 cases hc:D[p+i]? with
 |none=>
  have HE:=Lib.hid (show RES=some (.error (p+i)) by rw[HRES.out];exact QbK hc);have HC:=Lib.hid hc;clear hc;refine yb<|yq<|yr<|yo zM ?_;exact XY (QV _ _ _ rfl rfl rfl (fun w hw=>Q14 (H.out.next hw.k hpi (hw.own 1 _ rfl)) HC.out hw (fun w' hw'=>⟨p+i,HE.out,rfl,hw'.k⟩))) rfl (by decide) (fun i=>i.elim)
 |some c=>
  have hlt:p+i<D.length:=(List.getElem?_eq_some_iff.1 hc).1;have HC:=Lib.hid hc;have hcv:=Yx c;have hct:=c.toNat_lt;clear hc;refine yb<|yq<|yr<|yo zM ?_;refine Q1 (Qb rfl rfl (by decide) rfl rfl (fun w hw=>JN (H.out.next hw.k hpi (hw.own 1 _ rfl)) HC.out)) ?_;refine yo zA<|yl<|yn ?_;obtain⟨dg,hdg⟩:∃dg,decide (48≤c.toNat∧c.toNat≤57)=dg:=⟨_,rfl⟩;refine Qai (ι:=Unit) (fun _=>True) (fun _=>[(0,.pointer (some ⟨g,0,none⟩)),(3,.pointer (some ⟨b3,0,none⟩)),(5,.int .i64 n),(6,.int .i64 (p:Int)),(7,.int .u8 (c.toNat:Int)),(8,.bool dg)]) (fun _=>[.blk b3 (.cells ([.string ⟨name.toArray⟩,.int .i64 kind,sb,.int .i64 size,.bool big,.int .i64 mn,.int .i64 mx,.int .i64 stop,.int .i64 count,.int .i64 elem,sn,sp]:List Value).toArray 65 (0,0)),.blk g (.cells ([.slice Af nn cf,.slice As nn cs,.slice Ad nd cd,.int .i64 ((p+i:Nat):Int)]:List Value).toArray 60 (0,0))]) ?_ (fun _ _=>?_)
  ·by_cases h48:c.toNat<48
   ·obtain rfl:dg=false:=by rw[← hdg];exact decide_eq_false (by omega)
    refine yr<|yo zM<|yo zhf<|yo zM<|yo zS<|yo zS<|yo zN<|yo zA<|yl ?_;exact Zd () [0,1] (by decide) trivial (.cons rfl rfl (.cons rfl rfl (.cons rfl rfl (.cons rfl rfl (.cons rfl rfl (.cons rfl rfl .nil)))))) rfl
   ·by_cases h57:c.toNat≤57
    ·obtain rfl:dg=true:=by rw[← hdg];exact decide_eq_true (by omega)
     refine yr<|yo zM<|yo zht<|yo zM<|yo zM<|yo zqt<|yo zY<|yo zA<|yl ?_;exact Zd () [0,1] (by decide) trivial (.cons rfl rfl (.cons rfl rfl (.cons rfl rfl (.cons rfl rfl (.cons rfl rfl (.cons rfl rfl .nil)))))) rfl
    ·obtain rfl:dg=false:=by rw[← hdg];exact decide_eq_false (by omega)
     refine yr<|yo zM<|yo zht<|yo zM<|yo zM<|yo zqf<|yo zY<|yo zA<|yl ?_;exact Zd () [0,1] (by decide) trivial (.cons rfl rfl (.cons rfl rfl (.cons rfl rfl (.cons rfl rfl (.cons rfl rfl (.cons rfl rfl .nil)))))) rfl
  ·by_cases hs:(c.toNat:Int)=stop
   ·have hq:((c.toNat:Int)==stop)=true:=beq_iff_eq.2 hs
    obtain rfl:dg=false:=by rw[← hdg];exact decide_eq_false (by omega)
    by_cases hi:0<i
    ·have HE:=Lib.hid (show RES=some (.ok (n,p+i+1)) by rw[HRES.out];exact Qa5 HC.out (decide_eq_true hi) hs);refine yq<|yb<|yq<|yr<|yo zM ?_;refine Q1 (XE rfl rfl (by decide) rfl rfl rfl Tryz.underlying3 hcv) ?_;refine yo zF<|yo (zB 0)<|yo zea<|yo zM<|yo zM ?_;refine Q1 (Qp rfl rfl (by decide) rfl rfl) ?_;refine yo zF<|yo (zB 1)<|yo zM<|yo zgt<|yo zY<|yo zA<|yl<|yn<|y1<|yq<|yr<|yo zM ?_;refine Q1 (Qp rfl rfl (by decide) rfl rfl) ?_;refine yo zF<|yo (zB 1)<|yo zP ?_;refine Q1 (Qp rfl rfl (by decide) rfl rfl) ?_;refine yo zF ?_;refine yS 1 ?_;refine yl<|yn<|yq<|yr<|yo zM<|yo zA<|yl<|yn<|yt<|yk<|yc<|yk<|yc<|yk ?_;exact Q7 (by exact .inr rfl) rfl (.tmp rfl) (fun w hw=>⟨hw.k,.inr ⟨n,p+i+1,HE.out,rfl,hw.own 1 _ rfl⟩⟩)
    ·have HE:=Lib.hid (show RES=some (.error (p+i)) by rw[HRES.out];exact Kk HC.out (fun h=>hi (of_decide_eq_true h.1)) (.inl (by omega)));refine yq<|yb<|yq<|yr<|yo zM ?_;refine Q1 (XE rfl rfl (by decide) rfl rfl rfl Tryz.underlying3 hcv) ?_;refine yo zF<|yo (zB 0)<|yo zea<|yo zM<|yo zM ?_;refine Q1 (Qp rfl rfl (by decide) rfl rfl) ?_;refine yo zF<|yo (zB 1)<|yo zM<|yo zgf<|yo zY<|yo zA<|yl<|yn<|y0<|yq<|yq<|yr<|yo zM<|yo zO<|yo zA<|yl<|yn<|y1<|ys<|yn<|y1<|yr<|yo zM ?_;refine Q1 (Qp rfl rfl (by decide) rfl rfl) ?_;refine yo zF<|yo (zB 1) ?_;exact XY (QV _ _ _ rfl rfl rfl (fun w hw=>Zp hw (fun w' hw'=>⟨p+i,HE.out,rfl,hw'.k⟩))) rfl (by decide) (fun i=>i.elim)
   ·have hq:((c.toNat:Int)==stop)=false:=beq_eq_false_iff_ne.2 hs
    cases dg with
    |false=>
     have hnd:¬(48≤c.toNat∧c.toNat≤57):=of_decide_eq_false hdg;have HE:=Lib.hid (show RES=some (.error (p+i)) by rw[HRES.out];exact Kk HC.out (fun h=>hs h.2) (.inl hnd));refine yq<|yb<|yq<|yr<|yo zM ?_;refine Q1 (XE rfl rfl (by decide) rfl rfl rfl Tryz.underlying3 hcv) ?_;refine yo zF<|yo (zB 0)<|yo zea<|yo zM<|yo zS<|yo zS<|yo zS<|yo zS<|yo zS<|yo zS<|yo zN<|yo zA<|yl<|yn<|y0<|yq<|yq<|yr<|yo zM<|yo zO<|yo zA<|yl<|yn<|y1<|ys<|yn<|y1<|yr<|yo zM ?_;refine Q1 (Qp rfl rfl (by decide) rfl rfl) ?_;refine yo zF<|yo (zB 1) ?_;exact XY (QV _ _ _ rfl rfl rfl (fun w hw=>Zp hw (fun w' hw'=>⟨p+i,HE.out,rfl,hw'.k⟩))) rfl (by decide) (fun i=>i.elim)
    |true=>
     have hdd:48≤c.toNat∧c.toNat≤57:=of_decide_eq_true hdg;have hsub:IntKind.u8.wrap ((c.toNat:Int) - 48)=(c.toNat:Int) - 48:=IntWalk.u8_in _ (by omega);have hcv2:IntKind.i64.wrap ((c.toNat:Int) - 48)=(c.toNat:Int) - 48:=IntWalk.i64_in _ (by omega)
     by_cases hz:0<i∧n=0
     ·have HE:=Lib.hid (show RES=some (.error (p+i)) by rw[HRES.out];exact Kk HC.out (fun h=>hs h.2) (.inr (.inl ⟨decide_eq_true hz.1,hz.2⟩)));obtain⟨hi,rfl⟩:=hz;refine yq<|yb<|yq<|yr<|yo zM ?_;refine Q1 (XE rfl rfl (by decide) rfl rfl rfl Tryz.underlying3 hcv) ?_;refine yo zF<|yo (zB 0)<|yo zea<|yo zM<|yo zS<|yo zS<|yo zS<|yo zS<|yo zS<|yo zS<|yo zN<|yo zA<|yl<|yn<|y0<|yq<|yq<|yr<|yo zM<|yo zO<|yo zA<|yl<|yn<|y0<|yq<|yr<|yo zM ?_;refine Q1 (Qp rfl rfl (by decide) rfl rfl) ?_;refine yo zF<|yo (zB 1)<|yo zM<|yo zgt<|yo zM<|yo zM<|yo zet<|yo zY<|yo zA<|yl<|yn<|y1<|ys<|yn<|y1<|yr<|yo zM ?_;refine Q1 (Qp rfl rfl (by decide) rfl rfl) ?_;refine yo zF<|yo (zB 1) ?_;exact XY (QV _ _ _ rfl rfl rfl (fun w hw=>Zp hw (fun w' hw'=>⟨p+i,HE.out,rfl,hw'.k⟩))) rfl (by decide) (fun i=>i.elim)
     ·by_cases hi:0<i
      ·have hne:(n==0)=false:=beq_eq_false_iff_ne.2 (fun h=>hz ⟨hi,h⟩)
       by_cases hm:mx<10*n+((c.toNat:Int) - 48)
       ·have HE:=Lib.hid (show RES=some (.error (p+i)) by rw[HRES.out];exact Kk HC.out (fun h=>hs h.2) (.inr (.inr hm)));refine yq<|yb<|yq<|yr<|yo zM ?_;refine Q1 (XE rfl rfl (by decide) rfl rfl rfl Tryz.underlying3 hcv) ?_;refine yo zF<|yo (zB 0)<|yo zea<|yo zM<|yo zS<|yo zS<|yo zS<|yo zS<|yo zS<|yo zS<|yo zN<|yo zA<|yl<|yn<|y0<|yq<|yq<|yr<|yo zM<|yo zO<|yo zA<|yl<|yn<|y0<|yq<|yr<|yo zM ?_;refine Q1 (Qp rfl rfl (by decide) rfl rfl) ?_;refine yo zF<|yo (zB 1)<|yo zM<|yo zgt<|yo zM<|yo zM<|yo zea<|yo zY<|yo zA<|yl<|yn<|y0<|yr<|yo zM ?_;refine Q1 (Kw (k:=.i64) rfl rfl (by decide) rfl rfl rfl (IntWalk.i64_in _ (by omega))) ?_;refine yo zM ?_;refine Q1 (Q3a (k:=.u8) rfl rfl (by decide) rfl rfl rfl hsub) ?_;refine Q1 (XE rfl rfl (by decide) rfl rfl rfl Tryz.underlying3 hcv2) ?_;refine yo zP<|yo zF<|yo (zB 0)<|yo zgt<|yo zA<|yl<|yn<|y1<|yr<|yo zM ?_;refine Q1 (Qp rfl rfl (by decide) rfl rfl) ?_;refine yo zF<|yo (zB 1) ?_;exact XY (QV _ _ _ rfl rfl rfl (fun w hw=>Zp hw (fun w' hw'=>⟨p+i,HE.out,rfl,hw'.k⟩))) rfl (by decide) (fun i=>i.elim)
       ·have HN:=Lib.hid (show RES=ZN stop mx (D.drop (p+(i+1))) (decide (0<i+1)) (10*n+((c.toNat:Int) - 48)) (p+(i+1)) by rw[HRES.out,Q4v HC.out (fun h=>hs h.2) hdd (fun h=>hz ⟨of_decide_eq_true h.1,h.2⟩) hm,show decide (0<i+1)=true from decide_eq_true (by omega)];rfl);refine yq<|yb<|yq<|yr<|yo zM ?_;refine Q1 (XE rfl rfl (by decide) rfl rfl rfl Tryz.underlying3 hcv) ?_;refine yo zF<|yo (zB 0)<|yo zea<|yo zM<|yo zS<|yo zS<|yo zS<|yo zS<|yo zS<|yo zS<|yo zN<|yo zA<|yl<|yn<|y0<|yq<|yq<|yr<|yo zM<|yo zO<|yo zA<|yl<|yn<|y0<|yq<|yr<|yo zM ?_;refine Q1 (Qp rfl rfl (by decide) rfl rfl) ?_;refine yo zF<|yo (zB 1)<|yo zM<|yo zgt<|yo zM<|yo zM<|yo zea<|yo zY<|yo zA<|yl<|yn<|y0<|yr<|yo zM ?_;refine Q1 (Kw (k:=.i64) rfl rfl (by decide) rfl rfl rfl (IntWalk.i64_in _ (by omega))) ?_;refine yo zM ?_;refine Q1 (Q3a (k:=.u8) rfl rfl (by decide) rfl rfl rfl hsub) ?_;refine Q1 (XE rfl rfl (by decide) rfl rfl rfl Tryz.underlying3 hcv2) ?_;refine yo zP<|yo zF<|yo (zB 0)<|yo zgf<|yo zA<|yl<|yn<|y0<|ys<|yn<|yq<|yr<|yo zM ?_;refine Q1 (Kw (k:=.i64) rfl rfl (by decide) rfl rfl rfl (IntWalk.i64_in _ (by omega))) ?_;refine yo zM ?_;refine Q1 (Q3a (k:=.u8) rfl rfl (by decide) rfl rfl rfl hsub) ?_;refine Q1 (XE rfl rfl (by decide) rfl rfl rfl Tryz.underlying3 hcv2) ?_;refine yo zP<|yo zA<|yl<|yn<|yr<|yo zM ?_;refine Q1 (Qp rfl rfl (by decide) rfl rfl) ?_;refine yo zF<|yo (zB 1)<|yo zP ?_;refine Q1 (Qp rfl rfl (by decide) rfl rfl) ?_;refine yo zF ?_;refine yS 1 ?_;refine yl<|yd ?_;refine Xb (i+1,10*n+((c.toNat:Int) - 48)) ⟨hlt,HN.out,by show 0≤10*n+((c.toNat:Int) - 48);omega,by show 10*n+((c.toNat:Int) - 48)≤999999999;omega⟩ (by show D.length - (i+1)<D.length - i;omega) (.cons rfl rfl (.cons rfl rfl (.cons rfl rfl (.cons rfl rfl .nil)))) (fun w hw=>hw)
      ·skip
       by_cases hm:mx<10*n+((c.toNat:Int) - 48)
       ·have HE:=Lib.hid (show RES=some (.error (p+i)) by rw[HRES.out];exact Kk HC.out (fun h=>hs h.2) (.inr (.inr hm)));refine yq<|yb<|yq<|yr<|yo zM ?_;refine Q1 (XE rfl rfl (by decide) rfl rfl rfl Tryz.underlying3 hcv) ?_;refine yo zF<|yo (zB 0)<|yo zea<|yo zM<|yo zS<|yo zS<|yo zS<|yo zS<|yo zS<|yo zS<|yo zN<|yo zA<|yl<|yn<|y0<|yq<|yq<|yr<|yo zM<|yo zO<|yo zA<|yl<|yn<|y0<|yq<|yr<|yo zM ?_;refine Q1 (Qp rfl rfl (by decide) rfl rfl) ?_;refine yo zF<|yo (zB 1)<|yo zM<|yo zgf<|yo zM<|yo zS<|yo zS<|yo zN<|yo zA<|yl<|yn<|y0<|yr<|yo zM ?_;refine Q1 (Kw (k:=.i64) rfl rfl (by decide) rfl rfl rfl (IntWalk.i64_in _ (by omega))) ?_;refine yo zM ?_;refine Q1 (Q3a (k:=.u8) rfl rfl (by decide) rfl rfl rfl hsub) ?_;refine Q1 (XE rfl rfl (by decide) rfl rfl rfl Tryz.underlying3 hcv2) ?_;refine yo zP<|yo zF<|yo (zB 0)<|yo zgt<|yo zA<|yl<|yn<|y1<|yr<|yo zM ?_;refine Q1 (Qp rfl rfl (by decide) rfl rfl) ?_;refine yo zF<|yo (zB 1) ?_;exact XY (QV _ _ _ rfl rfl rfl (fun w hw=>Zp hw (fun w' hw'=>⟨p+i,HE.out,rfl,hw'.k⟩))) rfl (by decide) (fun i=>i.elim)
       ·have HN:=Lib.hid (show RES=ZN stop mx (D.drop (p+(i+1))) (decide (0<i+1)) (10*n+((c.toNat:Int) - 48)) (p+(i+1)) by rw[HRES.out,Q4v HC.out (fun h=>hs h.2) hdd (fun h=>hz ⟨of_decide_eq_true h.1,h.2⟩) hm,show decide (0<i+1)=true from decide_eq_true (by omega)];rfl);refine yq<|yb<|yq<|yr<|yo zM ?_;refine Q1 (XE rfl rfl (by decide) rfl rfl rfl Tryz.underlying3 hcv) ?_;refine yo zF<|yo (zB 0)<|yo zea<|yo zM<|yo zS<|yo zS<|yo zS<|yo zS<|yo zS<|yo zS<|yo zN<|yo zA<|yl<|yn<|y0<|yq<|yq<|yr<|yo zM<|yo zO<|yo zA<|yl<|yn<|y0<|yq<|yr<|yo zM ?_;refine Q1 (Qp rfl rfl (by decide) rfl rfl) ?_;refine yo zF<|yo (zB 1)<|yo zM<|yo zgf<|yo zM<|yo zS<|yo zS<|yo zN<|yo zA<|yl<|yn<|y0<|yr<|yo zM ?_;refine Q1 (Kw (k:=.i64) rfl rfl (by decide) rfl rfl rfl (IntWalk.i64_in _ (by omega))) ?_;refine yo zM ?_;refine Q1 (Q3a (k:=.u8) rfl rfl (by decide) rfl rfl rfl hsub) ?_;refine Q1 (XE rfl rfl (by decide) rfl rfl rfl Tryz.underlying3 hcv2) ?_;refine yo zP<|yo zF<|yo (zB 0)<|yo zgf<|yo zA<|yl<|yn<|y0<|ys<|yn<|yq<|yr<|yo zM ?_;refine Q1 (Kw (k:=.i64) rfl rfl (by decide) rfl rfl rfl (IntWalk.i64_in _ (by omega))) ?_;refine yo zM ?_;refine Q1 (Q3a (k:=.u8) rfl rfl (by decide) rfl rfl rfl hsub) ?_;refine Q1 (XE rfl rfl (by decide) rfl rfl rfl Tryz.underlying3 hcv2) ?_;refine yo zP<|yo zA<|yl<|yn<|yr<|yo zM ?_;refine Q1 (Qp rfl rfl (by decide) rfl rfl) ?_;refine yo zF<|yo (zB 1)<|yo zP ?_;refine Q1 (Qp rfl rfl (by decide) rfl rfl) ?_;refine yo zF ?_;refine yS 1 ?_;refine yl<|yd ?_;refine Xb (i+1,10*n+((c.toNat:Int) - 48)) ⟨hlt,HN.out,by show 0≤10*n+((c.toNat:Int) - 48);omega,by show 10*n+((c.toNat:Int) - 48)≤999999999;omega⟩ (by show D.length - (i+1)<D.length - i;omega) (.cons rfl rfl (.cons rfl rfl (.cons rfl rfl (.cons rfl rfl .nil)))) (fun w hw=>hw)
end
end Go.Proofs.YtphkhfdmlcnoeaaGreatDoor
