import Derived.Test.YtphkhfdmlcnoeaaGreatDoorP15
namespace Go.Proofs.YtphkhfdmlcnoeaaGreatDoor
set_option linter.unusedVariables false
set_option linter.unusedSimpArgs false
set_option maxRecDepth 1000000
set_option maxHeartbeats 32000000
open Go.RowKit
section
variable {c:UInt8}{k:Nat}{size stop:Int}
abbrev Qga{α:Type}(RES:Rdg α)(g:Nat)(W:World)(ch:List PanicEntry)(w':World):Prop:=∃x:Nat,RES=some (.error x)/\ch=JM 1 x/\Xz [g] W w'
def UtE(z:Rv)(B g:Nat)(D:List UInt8)(p:Nat)(W:World)(res:Rdg Nat)(e:Ending)(w':World):Prop:=Xz [g] W w'/\((∃x:Nat,res=some (.error x)/\e=.panicked (JM 1 x))\/∃q A c,res=some (.ok q)/\e=.returned (.slice A ((D.drop p).take (q - p)).length c)/\w'.heap[g]? =some (z.obj (q+1))/\Rd w' B 1 A ((D.drop p).take (q - p)).length (bv ((D.drop p).take (q - p)))/\((D.drop p).take (q - p)).length<=c)
section
variable {W:World}{z:Rv}{B g p:Nat}{F:List Rl}{D:List UInt8}
theorem Qmf{p:Nat}(h:D[p]? =none):Kn stop size (D.drop p) k p=some (.error p):=by
 have:D.drop p=[]:=List.drop_eq_nil_of_le (by
  rcases Nat.lt_or_ge p D.length with hl|hl
  ·rw[List.getElem?_eq_getElem hl] at h;cases h
  ·exact hl)
 rw[this];rfl
theorem Qjo{p:Nat}(h:D[p]? =some c)(hs:(c.toNat:Int)=stop):Kn stop size (D.drop p) k p=some (.ok p):=by
 rw[ZM h,Kn,if_pos hs];rfl
theorem QiP{p:Nat}(h:D[p]? =some c)(hs:¬(c.toNat:Int)=stop)(hz:(k:Int)=size):Kn stop size (D.drop p) k p=some (.error p):=by
 rw[ZM h,Kn,if_neg hs,if_pos hz];rfl
theorem Qjl{p:Nat}(h:D[p]? =some c)(hs:¬(c.toNat:Int)=stop)(hz:¬(k:Int)=size):Kn stop size (D.drop p) k p=Kn stop size (D.drop (p+1)) (k+1) (p+1):=by
 rw[ZM h,Kn,if_neg hs,if_neg hz]
theorem Kb(c:UInt8):IntKind.i64.wrap (c.toNat:Int)=(c.toNat:Int):=IntWalk.i64_in _ (by have:=c.toNat_lt;omega)
theorem Qci(h:J2 W z B g F D p){r:Rl}{sb sn sp:Value}:Calls Tryz.prog 64 #[.pointer (some ⟨g,0,none⟩),.agg (ruC r sb sn sp).toArray] W (UtE z B g D p W (Kn r.stop r.size (D.drop p) 0 p)):=by
 have H:=Q2 h;have hwd:=h.wd;have hp:=h.hp;have hD:=h.hD;have hnd:=h.len.1;have hcd:=h.hnd;obtain⟨name,kind,bs,size,big,mn,mx,stop,count,elem,names,parts⟩:=r;simp only[ruC];obtain⟨RES,hres⟩:∃r,Kn stop size (D.drop p) 0 p=r:=⟨_,rfl⟩;have HR0:=Q2 hres;rw[hres];clear h hres;obtain⟨Af,As,Ad,nn,nd,cf,cs,cd⟩:=z;simp only at hnd hcd;go_enter Tryz.func64,Tryz.ntmps64;haveI:Pan (bodyPost Tryz.prog Tryz.f64 (UtE ⟨Af,As,Ad,nn,nd,cf,cs,cd⟩ B g D p W RES)) (Qga RES g W):=Pan.body fun ch w' ⟨x,h1,h2,h3⟩=>J6
 refine Qs (M:=[g]) (W:=W) (N:=55) (E:=[ZR,Qh4]) (O:=QdG) ?_ mc3 hwd;clear hwd;refine yq<|yr ?_;refine yB fun b3=>?_;refine yo zA<|yl<|yn<|yq<|yr<|yo zM ?_;refine Q4 mc5 ?_;refine yo zF<|yo (zB 1)<|yo zA<|yl<|yn<|yq<|yb ?_;refine X8 (ι:=Nat) (fun i=>p+i<=D.length/\RES=Kn stop size (D.drop (p+i)) i (p+i)) (fun i=>D.length - i) (fun i=>[ZR,Q7Q,(5,.int .i64 (p:Int))]) (fun i=>Qon) 0 ⟨hp,HR0.out.symm⟩ J9 Zk ?_;rintro i ⟨hpi,hres⟩;have HRES:=Q2 hres;clear hres;show sE _ _ _ _ _ [ZR,Q7Q,(5,.int .i64 (p:Int))] Qon _;cases hc:D[p+i]? with
 |none=>
  have HE:=Q2 (show RES=some Q2I by rw[HRES.out];exact Qmf hc);have HC:=Q2 hc;clear hc;refine yq<|yq ?_;refine Vb (B:=Qga RES g W) Qon [] Q5 ?_ ?_
  ·infer_instance
  refine XC 0 rfl Q5 Xj zM ?_;refine XC 3 rfl Q5 Xj zF ?_;refine XC 4 rfl Q5 Xj (zB 0) ?_;exact Q0I 1 Q5 rfl rfl Qrk Q0e rfl Q1 Q0e
 |some c=>
  have hlt:p+i<D.length:=(List.getElem?_eq_some_iff.1 hc).1;have HC:=Q2 hc;have hcv:=Kb c;clear hc;by_cases hs:(c.toNat:Int)=stop
  ·have HE:=Q2 (show RES=some (.ok (p+i)) by rw[HRES.out];exact Qjo HC.out hs);have hne:((c.toNat:Int) != stop)=false:=bne_eq_false_iff_eq.2 hs;refine QtF ?_;refine Qd (zB 0) ?_;refine Qd zna ?_;refine ZJ ?_;refine yn<|y0<|ye<|yn<|yq<|yr<|yo zM ?_;refine Qn8 ?_;refine yl<|yn<|yq<|Xt Q5 Q5 ?_;refine Q4X ?_;refine Qd (zB 1) ?_;refine Q92 ?_;refine Qd mc5 ?_;refine Q6T ?_;refine Qd zQ ?_;refine Qd (Qi0 (l:=p) (h:=p+i) rfl rfl Q1 rfl rfl rfl (congrArg (fun x:Int=>some (Value.int .i64 x)) (show ((p+i:Nat):Int)+1 - 1=((p+i:Nat):Int) by omega)) Q3 Q3) ?_;refine Q6I ?_;refine Q7 mc4 rfl (.tmp rfl) (fun w hw=>⟨hw.k,.inr ⟨p+i,ZX Ad cd p 1,cd - p,HE.out,?_,hw.own 1 _ rfl,?_,?_⟩⟩)
   ·have hd:Rd W B 1 Ad nd (bv D):=H.out.env.dt;rw[show p+i - p=i by omega,(Q3G (p:=p) (m:=i) (c:=cd) hd Q3 hcd).1]
   ·have hd:Rd w B 1 Ad nd (bv D):=(H.out.env.keep H.out.hB H.out.lt hw.k).dt;rw[show p+i - p=i by omega];exact(Q3G (p:=p) (m:=i) hd Q3 hcd).2
   ·rw[show p+i - p=i by omega,(Q3G (p:=p) (m:=i) (n:=nd) (c:=cd) H.out.env.dt Q3 hcd).1]
    omega
  ·have hne:((c.toNat:Int) != stop)=true:=bne_iff_ne.2 hs
   by_cases hz:(i:Int)=size
   ·have HE:=Q2 (show RES=some Q2I by rw[HRES.out];exact QiP HC.out hs hz);refine Qr7 ?_;refine Qd zQ ?_;refine Q7P ?_;refine Qd zet ?_;refine ZJ ?_;refine yn<|y1<|yr<|yo zM ?_;refine QdT ?_;exact Q5I
   ·have HN:=Q2 (show RES=Kn stop size (D.drop (p+(i+1))) (i+1) (p+(i+1)) by rw[HRES.out];exact Qjl HC.out hs hz);refine Qr7 ?_;refine Qd zQ ?_;refine Q7P ?_;refine Qd zef ?_;refine ZJ ?_;refine yn<|y0<|ys<|yn<|yr<|yo zM ?_;refine Qn8 ?_;refine yl<|yd ?_;refine Qr (i+1) ⟨hlt,HN.out⟩ (by show D.length - (i+1)<D.length - i;omega) J9 Zk
end
end
section
variable {b:Bool}{c:UInt8}{mx n stop:Int}
section
variable {W:World}{z:Rv}{B g p:Nat}{F:List Rl}{D:List UInt8}
theorem QoS{p:Nat}(h:D[p]? =none):VP stop mx (D.drop p) b n p=some (.error p):=by
 have:D.drop p=[]:=List.drop_eq_nil_of_le (by
  rcases Nat.lt_or_ge p D.length with hl|hl
  ·rw[List.getElem?_eq_getElem hl] at h;cases h
  ·exact hl)
 rw[this];rfl
theorem QiZ{p:Nat}(h:D[p]? =some c)(hb:b=true)(hs:(c.toNat:Int)=stop):VP stop mx (D.drop p) b n p=some (.ok (n,p+1)):=by
 rw[ZM h,VP,if_pos (by simp [hb,hs])];rfl
theorem Q30{p:Nat}(h:D[p]? =some c)(h1:¬(b=true/\(c.toNat:Int)=stop))(h2:¬(48<=c.toNat/\c.toNat<=57)\/(b=true/\n=0)\/mx<10*n+((c.toNat:Int) - 48)):VP stop mx (D.drop p) b n p=some (.error p):=by
 rw[ZM h,VP,if_neg (by simpa using h1),if_pos]
 ·rfl
 ·simp only[Bool.or_eq_true,Bool.not_eq_true',decide_eq_false_iff_not,Bool.and_eq_true,decide_eq_true_eq]
  rcases h2 with h2|h2|h2
  ·exact .inl (.inl h2)
  ·exact .inl (.inr h2)
  ·exact .inr h2
theorem Q8x{p:Nat}(h:D[p]? =some c)(h1:¬(b=true/\(c.toNat:Int)=stop))(hd:48<=c.toNat/\c.toNat<=57)(hz:¬(b=true/\n=0))(hm:¬mx<10*n+((c.toNat:Int) - 48)):VP stop mx (D.drop p) b n p=VP stop mx (D.drop (p+1)) true (10*n+((c.toNat:Int) - 48)) (p+1):=by
 rw[ZM h,VP,if_neg (by simpa using h1),if_neg];simp only[Bool.or_eq_true,Bool.not_eq_true',decide_eq_false_iff_not,Bool.and_eq_true,decide_eq_true_eq,not_or,Decidable.not_not];exact⟨⟨hd,hz⟩,hm⟩
theorem Qf5(h:J2 W z B g F D p){r:Rl}{sb sn sp:Value}(hmx:0<=r.mx/\r.mx<=999999999)(hst:¬(48<=r.stop/\r.stop<=57)):Calls Tryz.prog 98 #[.pointer (some ⟨g,0,none⟩),.agg (ruC r sb sn sp).toArray] W (NmE z g W (VP r.stop r.mx (D.drop p) false 0 p)):=by
 have H:=Q2 h;have hwd:=h.wd;have hp:=h.hp;have hD:=h.hD;obtain⟨name,kind,bs,size,big,mn,mx,stop,count,elem,names,parts⟩:=r;simp only[ruC] at hmx hst ⊢;obtain⟨RES,hres⟩:∃r,VP stop mx (D.drop p) false 0 p=r:=⟨_,rfl⟩;have HR0:=Q2 hres;rw[hres];clear h hres;obtain⟨Af,As,Ad,nn,nd,cf,cs,cd⟩:=z;go_enter Tryz.func98,Tryz.ntmps98;haveI:Pan (bodyPost Tryz.prog Tryz.f98 (NmE ⟨Af,As,Ad,nn,nd,cf,cs,cd⟩ g W RES)) (Qga RES g W):=Pan.body fun ch w' ⟨x,h1,h2,h3⟩=>J6
 refine Qs (M:=[g]) (W:=W) (N:=83) (E:=[ZR,Qh4]) (O:=QdG) ?_ mc3 hwd;clear hwd;refine yq<|yr ?_;refine yB fun b3=>?_;refine yo zA<|yl<|yn<|yq<|Xt Q5 Q5 ?_;refine Q4X ?_;refine Qd (zB 1) ?_;refine Qd zA ?_;refine Q0i ?_;refine yn<|yb ?_;refine X8 (ι:=Nat×Int) (fun y=>p+y.1<=D.length/\RES=VP stop mx (D.drop (p+y.1)) (decide (0<y.1)) y.2 (p+y.1)/\0<=y.2/\y.2<=999999999) (fun y=>D.length - y.1) (fun y=>[ZR,Q7Q,(5,.int .i64 y.2),(6,.int .i64 (p:Int))]) (fun y=>[.blk b3 (.cells ([.string QgE,.int .i64 kind,sb,.int .i64 size,.bool big,.int .i64 mn,.int .i64 mx,.int .i64 stop,.int .i64 count,.int .i64 elem,sn,sp]:List Value).toArray 65 (0,0)),.blk g (.cells ([.slice Af nn cf,.slice As nn cs,.slice Ad nd cd,.int .i64 ((p+y.1:Nat):Int)]:List Value).toArray 60 (0,0))]) (0,0) ⟨hp,HR0.out.symm,by decide,by decide⟩ mc1 Zk ?_;rintro⟨i,n⟩ ⟨hpi,hres,hn0,hn1⟩;have HRES:=Q2 hres;clear hres;simp only at hpi hn0 hn1;show sE _ _ _ _ _ [ZR,Q7Q,(5,.int .i64 n),(6,.int .i64 (p:Int))] Qon _;cases hc:D[p+i]? with
 |none=>
  have HE:=Q2 (show RES=some Q2I by rw[HRES.out];exact QoS hc);have HC:=Q2 hc;clear hc;refine yb<|yq<|yr<|yo zM ?_;exact ZP Qrk rfl Q1 Q0e
 |some c=>
  have hlt:p+i<D.length:=(List.getElem?_eq_some_iff.1 hc).1;have HC:=Q2 hc;have hcv:=Kb c;have hct:=c.toNat_lt;clear hc;refine yb<|yq<|yr<|yo zM ?_;refine Q4 (Qj rfl rfl Q1 rfl rfl (fun w hw=>Q38 (H.out.next hw.k hpi Q0Q) HC.out)) ?_;refine yo zA<|yl<|yn ?_;obtain⟨dg,hdg⟩:∃dg,decide (48<=c.toNat/\c.toNat<=57)=dg:=⟨_,rfl⟩;refine Zh (ι:=Unit) QdB (fun _=>[ZR,Q7Q,(5,.int .i64 n),(6,.int .i64 (p:Int)),(7,.int .u8 (c.toNat:Int)),(8,.bool dg)]) (fun _=>Qon) ?_ (fun _ _=>?_)
  ·by_cases h48:c.toNat<48
   ·obtain rfl:dg=false:=by rw[<- hdg];exact Qlx
    refine yr<|yo zM<|yo zhf<|yo zM<|yo zS<|yo zS<|yo zN<|yo zA<|yl ?_;exact Qel
   ·by_cases h57:c.toNat<=57
    ·obtain rfl:dg=true:=by rw[<- hdg];exact decide_eq_true Q3
     refine yr<|yo zM<|yo zht<|yo zM<|yo zM<|yo zqt<|yo zY<|yo zA<|yl ?_;exact Qel
    ·obtain rfl:dg=false:=by rw[<- hdg];exact Qlx
     refine yr<|yo zM<|yo zht<|yo zM<|yo zM<|yo zqf<|yo zY<|yo zA<|yl ?_;exact Qel
  ·by_cases hs:(c.toNat:Int)=stop
   ·have hq:((c.toNat:Int)==stop)=true:=beq_iff_eq.2 hs
    obtain rfl:dg=false:=by rw[<- hdg];exact Qlx
    by_cases hi:0<i
    ·have HE:=Q2 (show RES=some (.ok (n,p+i+1)) by rw[HRES.out];exact QiZ HC.out (decide_eq_true hi) hs);refine QtG ?_;refine yo zF<|yo (zB 1)<|yo zM<|yo zgt<|yo zY<|yo zA<|yl<|yn<|y1<|yq<|yr<|yo zM ?_;refine Qn8 ?_;refine yl<|yn<|yq<|yr<|yo zM<|yo zA<|yl<|yn<|yt<|yk<|yc<|yk<|yc<|yk ?_;exact Q7 mc4 rfl (.tmp rfl) (fun w hw=>⟨hw.k,.inr ⟨n,p+i+1,HE.out,rfl,hw.own 1 _ rfl⟩⟩)
    ·have HE:=Q2 (show RES=some Q2I by rw[HRES.out];exact Q30 HC.out (fun h=>hi (of_decide_eq_true h.1)) (.inl Q3));refine QtG ?_;refine yo zF<|yo (zB 1)<|yo zM<|yo zgf<|yo zY<|yo zA<|yl<|yn<|y0<|yq<|yq<|yr<|yo zM<|yo zO<|yo zA<|yl<|yn<|y1<|ys<|yn<|y1<|yr<|yo zM ?_;refine QdT ?_;exact Q5I
   ·have hq:((c.toNat:Int)==stop)=false:=beq_eq_false_iff_ne.2 hs
    cases dg with
    |false=>
     have hnd:¬(48<=c.toNat/\c.toNat<=57):=of_decide_eq_false hdg;have HE:=Q2 (show RES=some Q2I by rw[HRES.out];exact Q30 HC.out (fun h=>hs h.2) (.inl hnd));refine yq<|yb<|yq<|yr<|yo zM ?_;refine Q4 Q7E ?_;refine yo zF<|yo (zB 0)<|yo zea<|yo zM<|yo zS<|yo zS<|yo zS<|yo zS<|yo zS<|yo zS<|yo zN<|yo zA<|yl<|yn<|y0<|yq<|yq<|yr<|yo zM<|yo zO<|yo zA<|yl<|yn<|y1<|ys<|yn<|y1<|yr<|yo zM ?_;refine QdT ?_;exact Q5I
    |true=>
     have hdd:48<=c.toNat/\c.toNat<=57:=of_decide_eq_true hdg;have hsub:IntKind.u8.wrap ((c.toNat:Int) - 48)=(c.toNat:Int) - 48:=IntWalk.u8_in _ Q3;have hcv2:IntKind.i64.wrap ((c.toNat:Int) - 48)=(c.toNat:Int) - 48:=Q1X;by_cases hz:0<i/\n=0
     ·have HE:=Q2 (show RES=some Q2I by rw[HRES.out];exact Q30 HC.out (fun h=>hs h.2) (.inr (.inl ⟨decide_eq_true hz.1,hz.2⟩)));obtain⟨hi,rfl⟩:=hz;refine QuS ?_;refine yo zF<|yo (zB 1)<|yo zM<|yo zgt<|yo zM<|yo zM<|yo zet<|yo zY<|yo zA<|yl<|yn<|y1<|ys<|yn<|y1<|yr<|yo zM ?_;refine QdT ?_;exact Q5I
     ·by_cases hi:0<i
      ·have hne:(n==0)=false:=beq_eq_false_iff_ne.2 (fun h=>hz ⟨hi,h⟩)
       by_cases hm:mx<10*n+((c.toNat:Int) - 48)
       ·have HE:=QsY;refine QuS ?_;refine yo zF<|yo (zB 1)<|yo zM<|yo zgt<|yo zM<|yo zM<|yo zea<|yo zY<|yo zA<|yl<|yn<|y0<|yr<|yo zM ?_;refine QmH ?_;exact Q5I
       ·have HN:=Q2 (show RES=VP stop mx (D.drop (p+(i+1))) (decide (0<i+1)) (10*n+((c.toNat:Int) - 48)) (p+(i+1)) by rw[HRES.out,Q8x HC.out (fun h=>hs h.2) hdd (fun h=>hz ⟨of_decide_eq_true h.1,h.2⟩) hm,show decide (0<i+1)=true from decide_eq_true Q3];rfl);refine yq<|yb<|yq<|yr<|yo zM ?_;refine Q4 Q7E ?_;refine yo zF<|yo (zB 0)<|yo zea<|yo zM<|yo zS<|yo zS<|yo zS<|yo zS<|yo zS<|yo zS<|yo zN<|yo zA<|yl<|yn<|y0<|yq<|yq<|yr<|yo zM<|yo zO<|yo zA<|yl<|yn<|y0<|yq<|yr<|yo zM ?_;refine Q4 mc5 ?_;refine yo zF<|yo (zB 1)<|yo zM<|yo zgt<|yo zM<|yo zM<|yo zea<|yo zY<|yo zA<|yl<|yn<|y0<|yr<|yo zM ?_;refine Q4 Q6H ?_;refine yo zM ?_;refine Q4 (Q8J (k:=.u8) rfl rfl Q1 rfl rfl rfl hsub) ?_;refine Q4 (YH rfl rfl Q1 rfl rfl rfl Tryz.underlying3 hcv2) ?_;refine yo zP<|yo zF<|yo (zB 0)<|yo zgf<|yo zA<|yl<|yn<|y0<|ys<|yn<|yq<|yr<|yo zM ?_;refine Q4 Q6H ?_;refine yo zM ?_;refine Q4 (Q8J (k:=.u8) rfl rfl Q1 rfl rfl rfl hsub) ?_;refine Q4 (YH rfl rfl Q1 rfl rfl rfl Tryz.underlying3 hcv2) ?_;refine yo zP<|yo zA<|yl<|yn<|yr<|yo zM ?_;refine Q4 mc5 ?_;refine yo zF<|yo (zB 1)<|yo zP ?_;refine Q4 mc5 ?_;refine yo zF ?_;refine yS 1 ?_;refine yl<|yd ?_;refine Qr (i+1,10*n+((c.toNat:Int) - 48)) ⟨hlt,HN.out,by show 0<=10*n+((c.toNat:Int) - 48);omega,by show 10*n+((c.toNat:Int) - 48)<=999999999;omega⟩ (by show D.length - (i+1)<D.length - i;omega) (.cons rfl rfl (.cons rfl rfl (.cons rfl rfl (.cons rfl rfl .nil)))) (fun w hw=>hw)
      ·skip
       by_cases hm:mx<10*n+((c.toNat:Int) - 48)
       ·have HE:=QsY;refine QuS ?_;refine yo zF<|yo (zB 1)<|yo zM<|yo zgf<|yo zM<|yo zS<|yo zS<|yo zN<|yo zA<|yl<|yn<|y0<|yr<|yo zM ?_;refine QmH ?_;exact Q5I
       ·have HN:=Q2 (show RES=VP stop mx (D.drop (p+(i+1))) (decide (0<i+1)) (10*n+((c.toNat:Int) - 48)) (p+(i+1)) by rw[HRES.out,Q8x HC.out (fun h=>hs h.2) hdd (fun h=>hz ⟨of_decide_eq_true h.1,h.2⟩) hm,show decide (0<i+1)=true from decide_eq_true Q3];rfl);refine yq<|yb<|yq<|yr<|yo zM ?_;refine Q4 Q7E ?_;refine yo zF<|yo (zB 0)<|yo zea<|yo zM<|yo zS<|yo zS<|yo zS<|yo zS<|yo zS<|yo zS<|yo zN<|yo zA<|yl<|yn<|y0<|yq<|yq<|yr<|yo zM<|yo zO<|yo zA<|yl<|yn<|y0<|yq<|yr<|yo zM ?_;refine Q4 mc5 ?_;refine yo zF<|yo (zB 1)<|yo zM<|yo zgf<|yo zM<|yo zS<|yo zS<|yo zN<|yo zA<|yl<|yn<|y0<|yr<|yo zM ?_;refine Q4 Q6H ?_;refine yo zM ?_;refine Q4 (Q8J (k:=.u8) rfl rfl Q1 rfl rfl rfl hsub) ?_;refine Q4 (YH rfl rfl Q1 rfl rfl rfl Tryz.underlying3 hcv2) ?_;refine yo zP<|yo zF<|yo (zB 0)<|yo zgf<|yo zA<|yl<|yn<|y0<|ys<|yn<|yq<|yr<|yo zM ?_;refine Q4 Q6H ?_;refine yo zM ?_;refine Q4 (Q8J (k:=.u8) rfl rfl Q1 rfl rfl rfl hsub) ?_;refine Q4 (YH rfl rfl Q1 rfl rfl rfl Tryz.underlying3 hcv2) ?_;refine yo zP<|yo zA<|yl<|yn<|yr<|yo zM ?_;refine Q4 mc5 ?_;refine yo zF<|yo (zB 1)<|yo zP ?_;refine Q4 mc5 ?_;refine yo zF ?_;refine yS 1 ?_;refine yl<|yd ?_;refine Qr (i+1,10*n+((c.toNat:Int) - 48)) ⟨hlt,HN.out,by show 0<=10*n+((c.toNat:Int) - 48);omega,by show 10*n+((c.toNat:Int) - 48)<=999999999;omega⟩ (by show D.length - (i+1)<D.length - i;omega) (.cons rfl rfl (.cons rfl rfl (.cons rfl rfl (.cons rfl rfl .nil)))) (fun w hw=>hw)
end
end
theorem Wd.wroteAt{M:List Nat}{W w w':World}{O:List Qb}{g:Nat}{o o':Obj}(i:Nat)(h:Wd M W O w)(hO:O[i]? =some (.blk g o))(hk:Xz [g] w w')(ho:w'.heap[g]? =some o'):Wd M W (O.set i (.blk g o')) w':=
 h.upd hO rfl rfl ⟨hk.os,hk.tape,hk.output,hk.size,fun k hk1 hn=>hk.block k hk1 (by
  simp only[List.mem_singleton]
  intro e;subst e
  exact hn rfl)⟩ ho (fun b hb=>.inl hb)
theorem Xz.cell{W w:World}{g B:Nat}{q:Addr}(h:Xz [g] W w)(hB:B<=g)(hg:g<W.heap.size)(hq:q.block<B):w.cell? q=W.cell? q:=
 World.cell?_of_block (h.block q.block Q3 Q4W)
theorem Rd.back{W w:World}{g B s n:Nat}{A:Option Addr}{xs:List Value}(h:Rd w B s A n xs)(hk:Xz [g] W w)(hB:B<=g)(hg:g<W.heap.size):Rd W B s A n xs:=
 h.keep fun q hq=>(hk.cell hB hg hq).symm
theorem Xz.thenK{W w w':World}{g:Nat}(h:Xz [g] W w)(k:Xz [g] w w'):Xz [g] W w':=h.trans k fun b hb _=>hb
abbrev VK{α:Type}(RES:Rdg α)(g:Nat)(W:World)(ch:List PanicEntry)(w':World):Prop:=∃x:Nat,RES=some (.error x)/\ch=JM 1 x/\Xz [g] W w'
section
variable {W w w':World}{z:Rv}{B g p i:Nat}{F:List Rl}{D:List UInt8}{O:List Qb}{o:Obj}{e:Ending}{α:Type}{RES:Rdg α}
theorem Q9U{res:Rdg (Int×Nat)}(i:Nat)(hO:O[i]? =some (.blk g o))(hw:Wd [g] W O w)(hx:∀x:Nat,res=some (.error x)->RES=some (.error x))(h:NmE z g w res e w'):Zu (fun y:Int×Nat=>.int .i64 y.1) (fun y=>res=some (.ok y)) [g] W (fun y=>O.set i (.blk g (z.obj y.2))) (VK RES g W) e w':=by
 obtain⟨hk,⟨x,h1,h2⟩|⟨n,q,h1,h2,h3⟩⟩:=h
 ·exact QcR
 ·exact .inl ⟨(n,q),h2,h1,hw.wroteAt i hO hk h3⟩
theorem QeC{res:Rdg (List UInt8×Nat)}(i:Nat)(hO:O[i]? =some (.blk g o))(hw:Wd [g] W O w)(hx:∀x:Nat,res=some (.error x)->RES=some (.error x))(hB:B<=g)(hg:g<W.heap.size)(h:ByE z B g w res e w'):Zu (fun y:(List UInt8×Nat)×Option Addr×Nat=>.slice y.2.1 y.1.1.length y.2.2) (fun y=>res=some (.ok y.1)/\Rd W B 1 y.2.1 y.1.1.length (bv y.1.1)/\y.1.1.length<=y.2.2) [g] W (fun y=>O.set i (.blk g (z.obj y.1.2))) (VK RES g W) e w':=by
 obtain⟨hk,⟨x,h1,h2⟩|⟨l,q,A,c,h1,h2,h3,h4,h5⟩⟩:=h
 ·exact QcR
 ·exact .inl ⟨((l,q),A,c),h2,⟨h1,h4.back (hw.k.thenK hk) hB hg,h5⟩,hw.wroteAt i hO hk h3⟩
theorem Q2u(h:J2 W z B g F D p){r:Rl}{sb sn sp:Value}(hr:Yh r):Calls Tryz.prog 61 #[.pointer (some ⟨g,0,none⟩),.agg (ruC r sb sn sp).toArray] W (NmE z g W (Q0a r D p)):=by
 have H:=Q2 h;have hwd:=h.wd;have hp:=h.hp;have hD:=h.hD;have HNO:=Q2 hr;have hkind:=hr.kind;have hdec:=hr.dec;have hnum:=hr.num;obtain⟨RES,hres⟩:∃x,Q0a r D p=x:=⟨_,rfl⟩;have HR0:=Q2 hres;rw[hres];clear h hr hres;obtain⟨name,kind,bs,size,big,mn,mx,stop,count,elem,names,parts⟩:=r;obtain⟨Af,As,Ad,nn,nd,cf,cs,cd⟩:=z;simp only at hkind hdec hnum;have hdc:=fun(w:World) (hw:J2 w ⟨Af,As,Ad,nn,nd,cf,cs,cd⟩ B g F D p) (h3:kind=3)=>Qf5 hw (r:=⟨name,kind,bs,size,big,mn,mx,stop,count,elem,names,parts⟩) (sb:=sb) (sn:=sn) (sp:=sp) ⟨(hdec h3).1,(hdec h3).2.1⟩ (hdec h3).2.2
 simp only[ruC] at hdc ⊢;go_enter Tryz.func61,Tryz.ntmps61;haveI:Pan (bodyPost Tryz.prog Tryz.f61 (NmE ⟨Af,As,Ad,nn,nd,cf,cs,cd⟩ g W RES)) (VK RES g W):=Pan.body fun ch w' ⟨x,h1,h2,h3⟩=>J6
 refine Qs (M:=[g]) (W:=W) (N:=57) (E:=[ZR,Qh4]) (O:=QdG) ?_ mc3 hwd;clear hwd;by_cases h3:kind=3
 ·subst h3;have HRE:=Q2 (show RES=VP stop mx (D.drop p) false 0 p by rw[<- HR0.out];unfold Q0a;rw[if_pos rfl]);refine yq<|yr ?_;refine yB fun b3=>?_;refine yo zA<|yl<|yn<|yq<|yq<|yr<|yo zF<|yo (zB 0)<|yo zet<|yl<|yn<|y1<|yq<|yr<|yo zM<|yo (zD 0) ?_;refine ZP (Xp _ _ _ rfl rfl rfl (fun w hw=>(hdc w (H.out.next hw.k hp Q0Q) rfl).mono (fun e w' h=>Q9U 1 rfl hw (fun x hx=>HRE.out.trans hx) h))) rfl Q1 (fun y hy=>?_);refine yo zA<|yl<|yn<|yt<|yc ?_;exact Q7 mc4 rfl (.tmp rfl) (fun w hw=>⟨hw.k,.inr ⟨y.1,y.2,HRE.out.trans hy,rfl,hw.own 1 _ rfl⟩⟩)
 ·have h2:kind=2:=hkind.resolve_right h3;subst h2;obtain⟨hs1,hs4,hm0,hmm,hmx⟩:=hnum rfl;obtain⟨sz,rfl⟩:∃sz:Nat,size=(sz:Int):=⟨size.toNat,by omega⟩;have HRE:=Q2 (show RES=rb (VE D p (sz:Int)) fun y=>if X1 big y.1<mn\/mx<X1 big y.1 then erR p else okR (X1 big y.1,y.2) by rw[<- HR0.out];unfold Q0a;rw[if_neg (show ¬(2:Int)=3 by decide)]);clear hdc hdec hnum hkind;refine yq<|yr ?_;refine yB fun b3=>?_;refine yo zA<|yl<|yn<|yq<|yq<|yr<|yo zF<|yo (zB 0)<|yo zef<|yl<|yn<|y0<|ys<|yn<|yq<|yr<|yo zM ?_;refine Q4 mc5 ?_;refine yo zF<|yo (zB 1)<|yo zA<|yl<|yn<|yq<|yr<|yo zA<|yl<|yn<|yq<|yq<|yr<|yo zM<|yo zF<|yo (zB 0) ?_;refine ZP (Xp _ _ _ rfl rfl rfl (fun w hw=>(Q2f (H.out.next hw.k hp Q0Q) (n:=(sz:Int)) Q3 Q3).mono (fun e w' h=>QeC 1 rfl hw (fun x hx=>by rw[HRE.out,hx];rfl) H.out.hB H.out.lt h))) rfl Q1 (fun y hy=>?_);refine yo zL<|yo zM<|yl<|yn<|yb ?_;obtain⟨⟨l,q⟩,A,c⟩:=y;obtain⟨hy1,hyr,hyc⟩:=hy;obtain⟨hlq,_⟩:=Vo hy1
  have hll:l.length<=4:=by
   have:l=(D.drop p).take ((sz:Int)).toNat:=congrArg Prod.fst hlq;rw[this,List.length_take];omega
  have HRF:=Q2 (show RES=if X1 big l<mn\/mx<X1 big l then erR p else okR (X1 big l,q) by rw[HRE.out,hy1];rfl);have HYR:=Q2 hyr;clear hy1 hyr hlq;refine X8 (ι:=Nat) (fun i=>i<=l.length) (fun i=>l.length - i) (fun i=>[(0,.pointer (some ⟨g,0,none⟩)),(3,.pointer (some ⟨b3,0,none⟩)),(5,.int .i64 (p:Int)),(6,.int .i64 (X1 big (l.take i))),(22,.slice A l.length c),(23,.int .i64 (l.length:Int)),(24,.int .i64 (i:Int))]) (fun i=>[.blk b3 (.cells ([.string ⟨name.toArray⟩,.int .i64 2,sb,.int .i64 (sz:Int),.bool big,.int .i64 mn,.int .i64 mx,.int .i64 stop,.int .i64 count,.int .i64 elem,sn,sp]:List Value).toArray 65 (0,0)),.blk g (.cells ([.slice Af nn cf,.slice As nn cs,.slice Ad nd cd,.int .i64 (q:Int)]:List Value).toArray 60 (0,0))]) 0 (Nat.zero_le _) (.cons rfl rfl (.cons rfl rfl (.cons rfl rfl (.cons rfl (by rw[List.take_zero];cases big<;>rfl) (.cons rfl rfl (.cons rfl rfl (.cons rfl rfl .nil))))))) (fun w hw=>hw) ?_;intro i hi;show sE _ _ _ _ _ [(0,.pointer (some ⟨g,0,none⟩)),(3,.pointer (some ⟨b3,0,none⟩)),(5,.int .i64 (p:Int)),(6,.int .i64 (X1 big (l.take i))),(22,.slice A l.length c),(23,.int .i64 (l.length:Int)),(24,.int .i64 (i:Int))] [.blk b3 (.cells ([.string ⟨name.toArray⟩,.int .i64 2,sb,.int .i64 (sz:Int),.bool big,.int .i64 mn,.int .i64 mx,.int .i64 stop,.int .i64 count,.int .i64 elem,sn,sp]:List Value).toArray 65 (0,0)),.blk g (.cells ([.slice Af nn cf,.slice As nn cs,.slice Ad nd cd,.int .i64 (q:Int)]:List Value).toArray 60 (0,0))] _;by_cases hin:i<l.length
  ·obtain⟨b,hb⟩:∃b,l[i]? =some b:=⟨_,List.getElem?_eq_getElem hin⟩;obtain⟨qb,ob,rfl,hqB,hcell⟩:=QgX HYR.out hb
   have hqg:¬qb=g:=by have:=H.out.hB;omega
   have hcv:=Kb b;have htl:(l.take i).length=i:=by rw[List.length_take];omega
   have htk:l.take i++[b]=l.take (i+1):=by rw[List.take_add_one,hb];rfl
   cases big with
   |true=>
    obtain⟨s1,s2,s3,s4⟩:=QlH (l:=l.take i) (c:=b) Q3;rw[htk] at s2;refine Qt3 ?_;refine yo zA<|yo zA<|yl<|yn<|yq<|yr<|yo zF<|yo (zB 0)<|yl<|yn<|y1<|yr<|yo zM ?_;refine Q4 (Qth rfl rfl Q1 rfl rfl rfl Q1 s1 Q3) ?_;refine yo zM ?_;refine Q4 Q7E ?_;refine Q4 (QvM rfl rfl Q1 rfl rfl rfl s2) ?_;refine QaG ?_;refine Qr (i+1) hin QsM Q3B Zk
   |false=>
    obtain⟨s1,s2,s3,s4⟩:=QcM (l:=l.take i) (c:=b) Q3;rw[htk] at s2;rw[htl] at s1 s2 s3 s4;refine Qt3 ?_;refine yo zA<|yo zA<|yl<|yn<|yq<|yr<|yo zF<|yo (zB 0)<|yl<|yn<|y0<|yr<|yo zM<|yo zM ?_;refine Q4 Q7E ?_;refine yo zM ?_;refine Q4 Q6H ?_;refine Q4 (Qth rfl rfl Q1 rfl rfl rfl Q3 s1 Q3) ?_;refine Q4 (QvM rfl rfl Q1 rfl rfl rfl s2) ?_;refine QaG ?_;refine Qr (i+1) hin QsM Q3B Zk
  ·have hil:i=l.length:=by omega
   subst hil;rw[List.take_length];by_cases hlo:X1 big l<mn
   ·have HE:=Q2 (show RES=some (.error p) by rw[HRF.out,if_pos (.inl hlo)];rfl);refine yq<|yr<|yo zlf<|yl<|yn<|yq<|y0<|ye<|yn<|yq<|yq<|yr<|yo zM<|yo zF<|yo (zB 0)<|yo zlt<|yo zM<|yo zS<|yo zS<|yo zS<|yo zS<|yo zY<|yl<|yn<|y1<|yr<|yo zM ?_;exact Qts
   ·by_cases hhi:mx<X1 big l
    ·have HE:=Q2 (show RES=some (.error p) by rw[HRF.out,if_pos (.inr hhi)];rfl);refine yq<|yr<|yo zlf<|yl<|yn<|yq<|y0<|ye<|yn<|yq<|yq<|yr<|yo zM<|yo zF<|yo (zB 0)<|yo zlf<|yo zM<|yo zM<|yo zF<|yo (zB 0)<|yo zgt<|yo zN<|yl<|yn<|y1<|yr<|yo zM ?_;exact Qts
    ·have HE:=Q2 (show RES=some (.ok (X1 big l,q)) by rw[HRF.out,if_neg Q3];rfl);refine yq<|yr<|yo zlf<|yl<|yn<|yq<|y0<|ye<|yn<|yq<|yq<|yr<|yo zM<|yo zF<|yo (zB 0)<|yo zlf<|yo zM<|yo zM<|yo zF<|yo (zB 0)<|yo zgf<|yo zN<|yl<|yn<|y0<|ys<|yn<|yq<|yr<|yo zM<|yo zA<|yl<|yn<|yt ?_;exact Q7 mc4 rfl (.tmp rfl) (fun w hw=>⟨hw.k,.inr ⟨X1 big l,q,HE.out,rfl,hw.own 1 _ rfl⟩⟩)
end
section
variable {A:Option Addr}{c n:Nat}{w:World}
theorem QhL{t e:TypeId}(h:Tryz.prog.underlying t=some (.slice e))(w:World)(a:Option Addr)(n c:Nat):(binOp .eql t (.slice a n c) (.slice none 0 0)).run Tryz.prog w=.ok (.bool a.isNone) w:=by
 simp only[binOp];simp [Op.equal,Op.maxDepth,Lib.run_equalIn_slice_nil w 9999 t e a n c 0 0 h]
theorem Q8t(w:World)(e:TypeId):(w.alloc (.cells #[] e)).ownsRow w.heap.size e 1 (.slice (some ⟨w.heap.size,0,none⟩) 0 0) 0 []:=
 ⟨rfl,.inr ⟨w.heap.size,0,#[],rfl,Nat.le_refl _,heap_alloc_new w _,Nat.le_refl _,Nat.zero_le _,rfl,rfl⟩⟩
def Qiy(w:World)(n:Nat)(xs:List UInt8)(e:Ending)(w':World):Prop:=∃A c,e=.returned (.slice A n c)/\w'.ownsRow w.heap.size 5 1 (.slice A n c) n (bv xs)/\Below w.heap.size w w'
theorem Qal{xs:List UInt8}(h:Rd w w.heap.size 1 A n (bv xs))(hn:n<=1048576):Calls Tryz.prog 99 #[.slice A n c] w (Qiy w n xs):=by
 have heq:=QhL Tryz.underlying25;rcases A with _|ad
 ·have h0:n=0:=by
   rcases Nat.eq_zero_or_pos n with h0|h0
   ·exact h0
   ·obtain⟨b,o,e,_⟩:=h.2 h0;cases e
  subst h0;have hx:=h.empty;have HX:=Q2 hx;clear h hx;go_enter Tryz.func99,Tryz.ntmps99;go_wp2_with fail
  go_ret;exact Qom
 ·have HR:=Q2 h;clear h
  go_enter Tryz.func99,Tryz.ntmps99;go_wp2_with (at_builtin;refine XT _ slB rfl (.tmp 5) (.tmp 6) rfl w.heap.size _ 0 0 [] rfl (Q8t w _) w.heap.size (some ad) n c (bv xs) rfl (HR.out.below (Jr _ _)) (Jg _) Q3 (by simp only[Qx];omega) (Jr _ _) (Nat.le_refl _) ?_;intro A2 c2 w2 hown2 _ hb2;simp only[Nat.zero_add,List.nil_append] at hown2)
  go_ret;exact⟨A2,c2,by simp,hown2,hb2⟩
def Q8Y(w:World)(n:Nat)(xs:List (List UInt8))(e:Ending)(w':World):Prop:=∃A c,e=.returned (.slice A n c)/\w'.ownsRow w.heap.size 9 1 (.slice A n c) n (sv xs)/\Below w.heap.size w w'
theorem QaB{xs:List (List UInt8)}(h:Rd w w.heap.size 1 A n (sv xs))(hn:n<=1048576):Calls Tryz.prog 111 #[.slice A n c] w (Q8Y w n xs):=by
 have heq:=QhL Tryz.underlying27;rcases A with _|ad
 ·have h0:n=0:=by
   rcases Nat.eq_zero_or_pos n with h0|h0
   ·exact h0
   ·obtain⟨b,o,e,_⟩:=h.2 h0;cases e
  subst h0;have hx:=h.empty;have HX:=Q2 hx;clear h hx;go_enter Tryz.func111,Tryz.ntmps111;go_wp2_with fail
  go_ret;exact Qom
 ·have HR:=Q2 h;clear h
  go_enter Tryz.func111,Tryz.ntmps111;go_wp2_with (at_builtin;refine XT _ slS rfl (.tmp 5) (.tmp 6) rfl w.heap.size _ 0 0 [] rfl (Q8t w _) w.heap.size (some ad) n c (sv xs) rfl (HR.out.below (Jr _ _)) (Qu5 _) Q3 (by simp only[Qx];omega) (Jr _ _) (Nat.le_refl _) ?_;intro A2 c2 w2 hown2 _ hb2;simp only[Nat.zero_add,List.nil_append] at hown2)
  go_ret;exact⟨A2,c2,by simp,hown2,hb2⟩
end
section
variable {A:Option Addr}{c n:Nat}
theorem Qb5(A:Option Addr)(n c:Nat)(w:World):Calls Tryz.prog 59 #[.slice A n c] w fun e w'=>e=.returned (.agg #[.int .i64 3,.int .i64 0,.slice none 0 0,.slice none 0 0,.slice A n c])/\Below w.heap.size w w':=by
 go_enter Tryz.func59,Tryz.ntmps59;go_wp2
 exact bodyPost_ret (v:=.agg #[.int .i64 3,.int .i64 0,.slice none 0 0,.slice none 0 0,.slice A n c]) (by simp [results,Tryz.results59,go_sem]) rfl Qdr
theorem QdP(n:Int)(w:World):Calls Tryz.prog 60 #[.int .i64 n] w fun e w'=>e=.returned (.agg #[.int .i64 1,.int .i64 n,.slice none 0 0,.slice none 0 0,.slice none 0 0])/\Below w.heap.size w w':=by
 go_enter Tryz.func60,Tryz.ntmps60;go_wp2
 exact bodyPost_ret (v:=.agg #[.int .i64 1,.int .i64 n,.slice none 0 0,.slice none 0 0,.slice none 0 0]) (by simp [results,Tryz.results60,go_sem]) rfl Qdr
def MbE(W:World)(xs:List UInt8)(e:Ending)(w':World):Prop:=∃A c,e=.returned (.agg #[.int .i64 2,.int .i64 0,.slice A xs.length c,.slice none 0 0,.slice none 0 0])/\xs.length<=c/\New [.rd A xs.length 1 (bv xs)] W.heap.size w'/\Below W.heap.size W w'
theorem QaN{W w:World}{xs:List Value}{e:TypeId}{m:Nat}(h:w.ownsRow m e 1 (.slice A n c) n xs):n<=c/\New [.rd A n 1 xs] m w:=by
 refine⟨?_,⟨by simp [Qb.w],fun x hx=>?_,fun x hx b hb=>?_⟩⟩
 ·rcases h.2 with ⟨hv,_⟩|⟨g,cap,cur,hv,_,_,h1,_⟩
  ·exact Qez
  ·exact Qez
 ·rw[List.mem_singleton] at hx;subst hx;exact Rd.of_own h
 ·rw[List.mem_singleton] at hx;subst hx
  simp only[Qb.foot] at hb;split at hb
  ·cases hb
  ·rename_i hn
   rcases h.2 with ⟨hv,_⟩|⟨g,cap,cur,hv,hg,_⟩
   ·simp only[Value.slice.injEq] at hv;exact absurd hv.2.1 hn
   ·simp only[Value.slice.injEq] at hv
    rw[hv.1] at hb;cases hb;exact hg
theorem Q1r{W:World}{xs:List UInt8}(h:Rd W W.heap.size 1 A n (bv xs))(hn:n<=1048576):Calls Tryz.prog 62 #[.slice A n c] W (MbE W xs):=by
 have hl:xs.length=n:=by have:=h.len;rw[X5] at this;exact this
 subst hl;have HR:=Q2 h;clear h;go_enter Tryz.func62,Tryz.ntmps62;refine Qs (M:=[]) (W:=W) (N:=6) (E:=[(0,.slice A xs.length c)]) (O:=[]) ?_ (Ag.cons (Ag.nil rfl rfl) rfl) (Wd.start [] W);refine yq<|yr ?_;refine yA fun b2=>?_;refine yl<|yn<|yq<|yr<|yo zM ?_;refine Qc (XB (fun y:Option Addr×Nat=>.slice y.1 xs.length y.2) (fun y=>xs.length<=y.2/\∀b,(Qb.rd y.1 xs.length 1 (bv xs)).foot=some b->W.heap.size<=b) (fun y=>[.blk b2 (.cells ([.int .i64 0,.int .i64 0,.slice none 0 0,.slice none 0 0,.slice none 0 0]:List Value).toArray 30 (0,0)),.rd y.1 xs.length 1 (bv xs)]) rfl rfl rfl (fun w hw=>(Qal ((HR.out.below hw.k.below).more hw.k.size) hn).mono (fun e w' ⟨A2,c2,he,hown,hb⟩=>⟨(A2,c2),he,⟨(QaN (W:=w) hown).1,fun b hf=>Nat.le_trans hw.k.size ((QaN (W:=w) hown).2.far _ List.mem_cons_self b hf)⟩,hw.made hb (QaN (W:=w) hown).2⟩))) rfl Q1 (fun y hy=>?_);refine Q4 (ZW (xs:=[(0,.const (.int .i64 2)),(2,.tmp 4)]) (vs:=[(0,.int .i64 2),(2,.slice y.1 xs.length y.2)]) (v:=.agg #[.int .i64 2,.int .i64 0,.slice y.1 xs.length y.2,.slice none 0 0,.slice none 0 0]) rfl rfl Q1 rfl rfl (fun w=>run_build w _ _ _ Q5)) ?_;refine yW 0 ?_;refine yl<|yn<|yt ?_;exact Q7 (by exact .inr rfl) rfl (RsV.blk 0 rfl rfl rfl) (fun w hw=>⟨y.1,y.2,rfl,hy.1,⟨by simp [Qb.w],fun x hx=>by rw[List.mem_singleton] at hx;subst hx;exact hw.own 1 _ rfl,fun x hx b hb=>by rw[List.mem_singleton] at hx;subst hx;exact hy.2 b hb⟩,hw.k.below⟩)
end
section
variable {res:Rdg Nat}
section
variable {P:Program}{ops:Array Oper}{Q:Exit->Act->World->Prop}{N:Nat}{E E':Env}{o:Oper}{rest:List Oper}{M:List Nat}{W:World}{O O0:List Qb}{d:Nat}{B:List PanicEntry->World->Prop}{T:List Nat}{f:Nat}{listed:Array Bool}
theorem Q2W(k:Nat)(hB:Region.ready .any ops listed=[k])(ho:ops[k]? =some o)(hT:QJ M W O0 O)(h1:oE P ops (Wd M W O) N E E' o)(h2:dP P ops Q N M W O0 T B f (listed.setIfInBounds k true) E' O):dP P ops Q N M W O0 T B (f+1) listed E O:=fun hcl a ha=>by
 refine⟨fun h0=>absurd Q63 Ql,fun i hi=>?_⟩;rw[hB] at hi;rw[List.mem_singleton] at hi;subst hi;have hr':i∈Region.ready .any ops listed:=by rw[hB];exact Q6W
 have h:=h1 a ha;have key:∀{v:Value},Zm P ops (Wd M W O) o a v->Ag N E' (a.put o.dst v)->stepPn P ops (Wd M W O0) T B i a (Wd M W O) (Qai P ops (Wd M W O0) T B Q f (listed.setIfInBounds i true)):=fun hq hE=>by
  have h0:=Zm.stepPn (P:=P) (ops:=ops) (T:=T) (B:=B) (C0:=Wd M W O) (D:=Wd M W O) (K:=Qai P ops (Wd M W O0) T B Q f (listed.setIfInBounds i true)) ho hq Wd.stb Zk (h2 Q1Q _ hE);unfold stepPn at h0 ⊢;simp only[ho] at h0 ⊢;rcases h0 with h0|⟨hw,ι,V,G,h1,h2,h3⟩
  ·exact .inl h0
  ·refine .inr ⟨hw,ι,V,G,h1,fun x=>⟨(h2 x).1,?_⟩,h3⟩
   rcases (h2 x).2 with hx|hx
   ·exact .inl hx
   ·exact .inr fun w hw=>hT w (hx w hw)
 split at h
 ·rename_i hw
  obtain⟨v,hv,hE⟩:=h;exact key (.inl ⟨hw,hv⟩) hE
 ·rename_i hw
  exact key QhN h
theorem Qm2(k:Nat){ι:Type}{V:ι->Value}{G:ι->List Qb}{p:ι->Prop}(hB:Region.ready .any ops listed=[k])(ho:ops[k]? =some o)(hw:Qi ops E o=some true)(h1:pE P ops N M W E O o ι V G p B)(hT:∀i,k∈T\/QJ M W O0 (G i))(hd:o.dst=none)(h:∀i,p i->dP P ops Q N M W O0 T B f (listed.setIfInBounds k true) E (G i)):dP P ops Q N M W O0 T B (f+1) listed E O:=fun hcl a ha=>by
 refine⟨fun h0=>absurd Q63 Ql,fun i hi=>?_⟩;rw[hB] at hi;rw[List.mem_singleton] at hi;subst hi;have hr':i∈Region.ready .any ops listed:=by rw[hB];exact Q6W
 by_cases hne:∃w,Wd M W O w
 ·exact Qd2 ho ha hne h1 hT fun x hp=>h x hp Q1Q _ (by rw[hd];exact ha)
 ·exact Qcg hne ho J5
end
theorem Xz.belowB{W w:World}{g B:Nat}(h:Xz [g] W w)(hB:B<=g)(hg:g<W.heap.size):Below B W w:=⟨h.os,h.tape,h.output,h.size,fun k hk=>h.block k Q3 Q4W⟩
theorem XA.nilList:XA [] (.agg #[.int .i64 3,.int .i64 0,.slice none 0 0,.slice none 0 0,.slice none 0 0]) ndL .nil:=
 ⟨_,_,_,rfl,fun w _=>⟨none,0,0,none,0,0,none,0,rfl,rfl,rfl,Nat.le_refl _,Nat.le_refl _,Nat.le_refl _,Nat.zero_le _,ZI _ _ _,ZI _ _ _,fun h=>absurd h (Nat.lt_irrefl 0)⟩⟩
section
variable {W w w':World}{z:Rv}{B g p i:Nat}{F:List Rl}{D:List UInt8}{O:List Qb}{o:Obj}{e:Ending}{α:Type}{RES:Rdg α}
theorem Qul(i:Nat)(hO:O[i]? =some (.blk g o))(hw:Wd [g] W O w)(hx:∀x:Nat,res=some (.error x)->RES=some (.error x))(h:LtE z g w res e w'):Zu (fun _:Nat=>.tuple #[]) (fun y=>res=some (.ok y)) [g] W (fun y=>O.set i (.blk g (z.obj y))) (VK RES g W) e w':=by
 obtain⟨hk,⟨x,h1,h2⟩|⟨q,h1,h2,h3⟩⟩:=h
 ·exact QcR
 ·exact .inl ⟨q,h2,h1,hw.wroteAt i hO hk h3⟩
theorem Qv1(i:Nat)(hO:O[i]? =some (.blk g o))(hw:Wd [g] W O w)(hx:∀x:Nat,res=some (.error x)->RES=some (.error x))(hB:B<=g)(hg:g<W.heap.size)(h:UtE z B g D p w res e w'):Zu (fun y:Nat×Option Addr×Nat=>.slice y.2.1 ((D.drop p).take (y.1 - p)).length y.2.2) (fun y=>res=some (.ok y.1)/\Rd W B 1 y.2.1 ((D.drop p).take (y.1 - p)).length (bv ((D.drop p).take (y.1 - p)))) [g] W (fun y=>O.set i (.blk g (z.obj (y.1+1)))) (VK RES g W) e w':=by
 obtain⟨hk,⟨x,h1,h2⟩|⟨q,A,c,h1,h2,h3,h4,h5⟩⟩:=h
 ·exact QcR
 ·exact .inl ⟨(q,A,c),h2,⟨h1,h4.back (hw.k.thenK hk) hB hg⟩,hw.wroteAt i hO hk h3⟩
theorem QlF{M:List Nat}{xs:List UInt8}(hw:Wd M W O w)(h:MbE w xs e w'):Xo (fun y:Option Addr×Nat=>.agg #[.int .i64 2,.int .i64 0,.slice y.1 xs.length y.2,.slice none 0 0,.slice none 0 0]) (fun y=>xs.length<=y.2/\∀b,(Qb.rd y.1 xs.length 1 (bv xs)).foot=some b->W.heap.size<=b) M W (fun y=>O++[.rd y.1 xs.length 1 (bv xs)]) e w':=by
 obtain⟨A,c,he,hc,hn,hb⟩:=h;exact⟨(A,c),he,⟨hc,fun b hf=>Nat.le_trans hw.k.size (hn.far _ List.mem_cons_self b hf)⟩,hw.made hb hn⟩
theorem Yr{A:Option Addr}{n s:Nat}{xs:List Value}{m:Nat}(h:(Qb.rd A n s xs).on w)(hf:∀b,(Qb.rd A n s xs).foot=some b->m<=b):New [.rd A n s xs] m w:=
 ⟨by simp [Qb.w],fun x hx=>by rw[List.mem_singleton] at hx;subst hx;exact h,fun x hx b hb=>by rw[List.mem_singleton] at hx;subst hx;exact hf b hb⟩
theorem J2.af(h:J2 W z B g F D p)(hn:0<z.n):∃b o,z.Af=some ⟨b,o,none⟩:=by
 obtain⟨b,o,e,_⟩:=h.env.fm.2 hn;exact⟨b,o,e⟩
theorem Qfy(hv:Fm F)(f:Nat){k:Int}(hk:0<=k/\k<F.length)(h:J2 W z B g F D p)(hkind:(Qg F k).kind=1\/(Qg F k).kind=2\/(Qg F k).kind=3\/(Qg F k).kind=4\/(Qg F k).kind=5):
  Calls Tryz.prog 32 #[.pointer (some ⟨g,0,none⟩),.int .i64 k] W (VlE z g W (QE F D (f+1) k p)):=by
 have H:=Q2 h;have hwd:=h.wd;have hp:=h.hp;have hD:=h.hD;have hFn:=h.len.2;have hr:=hv.toUsd.rok hk;obtain⟨RES,hres⟩:∃x,QE F D (f+1) k p=x:=⟨_,rfl⟩;have e1:=fun h=>(Qpq (F:=F) (D:=D) (f:=f) (p:=p) (k:=k) h).symm.trans hres;have e23:=fun h=>(QnL (F:=F) (D:=D) (f:=f) (p:=p) (k:=k) h).symm.trans hres;have e4:=fun h=>(Qqq (F:=F) (D:=D) (f:=f) (p:=p) (k:=k) h).symm.trans hres;have e5:=fun h=>(QqF (F:=F) (D:=D) (f:=f) (p:=p) (k:=k) h).symm.trans hres;rw[hres];obtain⟨Af,As,Ad,nn,nd,cf,cs,cd⟩:=z;simp only at hFn;obtain⟨bf,of,haf⟩:=h.af Vf;simp only at haf;subst haf;obtain⟨hbB,Ab,cb,An,cn,Ap,cp,hrg,hru⟩:=h.env.fm.ruleB (k:=k) Jx;have hbg:¬bf=g:=by have:=h.hB;omega
 have hkn:0<=k/\k<(nn:Int):=by omega
 clear h hres;obtain⟨r,er⟩:∃r,Qg F k=r:=⟨_,rfl⟩;rw[er] at hkind hr hrg hru e1 e23 e4 e5;clear er;have HRK:=Q2 hr;have HRU:=Q2 hru;have hbs16:=hr.bs16;have hs4:=hr.size4;clear hru;obtain⟨name,kind,bs,size,big,mn,mx,stop,count,elem,names,parts⟩:=r;simp only[ruC] at hkind hr hrg e1 e23 e4 e5 hbs16 hs4;have HRB:=Q2D;go_enter Tryz.func32,Tryz.ntmps32;haveI:Pan (bodyPost Tryz.prog Tryz.f32 (VlE ⟨some ⟨bf,of,none⟩,As,Ad,nn,nd,cf,cs,cd⟩ g W RES)) (VK RES g W):=Pan.body fun ch w' ⟨x,h1,h2,h3⟩=>J6
 refine Qs (M:=[g]) (W:=W) (N:=181) (E:=Q6e) (O:=Qdz) ?_ mc3 hwd;clear hwd;refine yq<|yr ?_;refine yB fun b2=>?_;refine yA fun b4=>?_;refine QlP ?_;refine yA fun b5=>?_;refine QcG ?_;rcases hkind with rfl|rfl|rfl|rfl|rfl
 ·have HE:=Q2 (e1 rfl);clear e1 e23 e4 e5;refine yn<|yb<|yq<|yr<|yo zet<|yo zA<|yl<|yn<|y1<|yq<|yr<|yo (zB 2)<|yo zF<|yo (zB 0) ?_;refine ZP (Xp _ _ _ rfl rfl rfl (fun w hw=>(Q7M Q4M (HRB.out.below (hw.k.belowB H.out.hB H.out.lt)) Q3).mono (fun e w' h=>Qul 3 rfl hw Q8w h))) rfl Q1 (fun q hq=>?_);refine yl<|yn<|yq<|yr ?_;refine Q4 QhS ?_;refine QbT ?_;exact Q7 mc4 rfl JY (fun w hw=>⟨hw.k,.inr ⟨ndL,.nil,q,_,[],by rw[<- HE.out,hq];rfl,rfl,hw.own 3 _ rfl,XA.nilList,New.nil _ _⟩⟩)
 ·have HE:=Q2 (e23 (.inl rfl));clear e1 e23 e4 e5;refine yn<|yb<|yq<|yr<|yo zef<|yo zA<|yl<|yn<|y0<|yq<|yq<|yr<|yo zet<|yo zA<|yl<|yn<|y1<|ys<|yn<|y1<|yq<|yr<|yo (zB 2)<|yo (zD 0) ?_;refine ZP (Xp _ _ _ rfl rfl rfl (fun w hw=>(Q2u Q4M (Yh.of HRK.out (.inl rfl))).mono (fun e w' h=>Q9U 3 rfl hw Q8w h))) rfl Q1 (fun y hy=>?_);refine Q4 Qlp ?_;refine QbT ?_;exact Qsk
 ·have HE:=Q2 (e23 (.inr rfl));clear e1 e23 e4 e5;refine yn<|yb<|yq<|yr<|yo zef<|yo zA<|yl<|yn<|y0<|yq<|yq<|yr<|yo zef<|yo zA<|yl<|yn<|y0<|yr<|yo zet<|yo zA<|yl<|yn<|y1<|yq<|yr<|yo (zB 2)<|yo (zD 0) ?_;refine ZP (Xp _ _ _ rfl rfl rfl (fun w hw=>(Q2u Q4M (Yh.of HRK.out (.inr rfl))).mono (fun e w' h=>Q9U 3 rfl hw Q8w h))) rfl Q1 (fun y hy=>?_);refine Q4 Qlp ?_;refine QbT ?_;exact Qsk
 ·have HE:=Q2 (e4 rfl);have hsz:=hs4 rfl;clear e1 e23 e4 e5;refine yn<|yb<|yq<|yr<|yo zef<|yo zA<|yl<|yn<|y0<|yq<|yq<|yr<|yo zef<|yo zA<|yl<|yn<|y0<|yr<|yo zef<|yo zA<|yl<|yn<|y0<|yq<|yr<|yo zet<|yo zA<|yl<|yn<|y1<|yq<|yr<|yo (zB 2)<|yo zF<|yo (zB 0) ?_;refine ZP (Xp _ _ _ rfl rfl rfl (fun w hw=>(Q2f Q4M (n:=size) Q3 Q3).mono (fun e w' h=>QeC 3 rfl hw Q8w H.out.hB H.out.lt h))) rfl Q1 (fun y hy=>?_);refine Qc Qsx rfl Q1 (fun u hu=>?_);refine QbT ?_;exact Q7 mc4 rfl JY (fun w hw=>⟨hw.k,.inr ⟨ndB y.1.1,.nil,y.1.2,_,_,by rw[<- HE.out,hy.1];rfl,rfl,hw.own 3 _ rfl,XA.bytes hu.1,Yr Q6M hu.2⟩⟩)
 ·have HE:=Q2 (e5 rfl);clear e1 e23 e4 e5;refine yn<|yb<|yq<|yr<|yo zef<|yo zA<|yl<|yn<|y0<|yq<|yq<|yr<|yo zef<|yo zA<|yl<|yn<|y0<|yr<|yo zef<|yo zA<|yl<|yn<|y0<|yq<|yr<|yo zef<|yo zA<|yl<|yn<|y0<|yq<|yr<|yo zef<|yo zA<|yl<|yn<|y0<|yq<|yr<|yo zet<|yo zA<|yl<|yn<|y1<|yq<|yr<|yo (zB 2)<|yo (zD 0) ?_;refine ZP (Xp _ _ _ rfl rfl rfl (fun w hw=>(Qci Q4M (r:=⟨name,5,bs,size,big,mn,mx,stop,count,elem,names,parts⟩)).mono (fun e w' h=>Qv1 3 rfl hw Q8w H.out.hB H.out.lt h))) rfl Q1 (fun y hy=>?_);refine Qc (XB _ _ _ rfl rfl rfl (fun w hw=>(Q1r ((hy.2.below (hw.k.belowB H.out.hB H.out.lt)).more (by have:=H.out.hB;have:=H.out.lt;have:=hw.k.size;omega)) QhM).mono (fun e w' h=>QlF hw h))) rfl Q1 (fun u hu=>?_);refine QbT ?_;exact Q7 mc4 rfl JY (fun w hw=>⟨hw.k,.inr ⟨ndB ((D.drop p).take (y.1 - p)),.nil,y.1+1,_,_,by rw[<- HE.out,hy.1];rfl,rfl,hw.own 3 _ rfl,XA.bytes hu.1,Yr Q6M hu.2⟩⟩)
end
end
section
variable {W w w':World}{z:Rv}{B g p i:Nat}{F:List Rl}{D:List UInt8}{O:List Qb}{o:Obj}{e:Ending}{α:Type}{RES:Rdg α}
theorem QlA(hv:Fm F)(f:Nat){k:Int}(hk:0<=k/\k<F.length)(h:J2 W z B g F D p)(hkind:(Qg F k).kind=10):
  Calls Tryz.prog 32 #[.pointer (some ⟨g,0,none⟩),.int .i64 k] W (VlE z g W (QE F D (f+1) k p)):=by
 have H:=Q2 h;have hwd:=h.wd;have hp:=h.hp;have hD:=h.hD;have hFn:=h.len.2;have hr:=hv.toUsd.rok hk;obtain⟨RES,hres⟩:∃x,QE F D (f+1) k p=x:=⟨_,rfl⟩;have e10:=(QmL (F:=F) (D:=D) (f:=f) (p:=p) (k:=k) hkind).symm.trans hres;have hno:=hv.numOk hk Q07;have hcnt:=hr.count Q07;rw[hres];obtain⟨Af,As,Ad,nn,nd,cf,cs,cd⟩:=z;simp only at hFn;obtain⟨bf,of,haf⟩:=h.af Vf;simp only at haf;subst haf;obtain⟨hbB,Ab,cb,An,cn,Ap,cp,hrg,hru⟩:=h.env.fm.ruleB (k:=k) Jx;have hbg:¬bf=g:=by have:=h.hB;omega
 have hkn:0<=k/\k<(nn:Int):=by omega
 clear h hres;obtain⟨r,er⟩:∃r,Qg F k=r:=⟨_,rfl⟩;rw[er] at hkind hr hrg hru e10 hcnt hno;clear er;have HRK:=Q2 hr;have HRU:=Q2 hru;obtain⟨hbB2,Ab2,cb2,An2,cn2,Ap2,cp2,hrg2,hru2⟩:=H.out.env.fm.ruleB (k:=r.count) Jx;have HRU2:=Q2 hru2;have HNO:=Q2 hno;clear hru hru2 hno;obtain⟨name,kind,bs,size,big,mn,mx,stop,count,elem,names,parts⟩:=r;simp only[ruC] at hkind hr hrg e10 hcnt hrg2;have HRB:=Q2D;go_enter Tryz.func32,Tryz.ntmps32;haveI:Pan (bodyPost Tryz.prog Tryz.f32 (VlE ⟨some ⟨bf,of,none⟩,As,Ad,nn,nd,cf,cs,cd⟩ g W RES)) (VK RES g W):=Pan.body fun ch w' ⟨x,h1,h2,h3⟩=>J6
 refine Qs (M:=[g]) (W:=W) (N:=181) (E:=Q6e) (O:=Qdz) ?_ mc3 hwd;clear hwd;refine yq<|yr ?_;refine yB fun b2=>?_;refine yA fun b4=>?_;refine QlP ?_;refine yA fun b5=>?_;refine QcG ?_;subst hkind;have HE:=Q2 e10;clear e10;refine yn<|yb<|yq<|yr<|yo zef<|yo zA<|yl<|yn<|y0<|yq<|yq<|yr<|yo zef<|yo zA<|yl<|yn<|y0<|yr<|yo zef<|yo zA<|yl<|yn<|y0<|yq<|yr<|yo zef<|yo zA<|yl<|yn<|y0<|yq<|yr<|yo zet<|yo zA<|yl<|yn<|y1<|yq ?_;refine Vb (B:=VK RES g W) [.blk b2 (.cells #[.pointer Q54] 56 (0,0)),.blk b5 (.cells (Qov:List Value).toArray 65 (0,0))] [] Q5 ?_ ?_
 ·infer_instance
 refine XC 0 rfl Q5 ZV (zB 0) ?_;refine XC 1 rfl Q5 ZV (zB 0) ?_;refine XC 2 rfl Q5 ZV (zB 0) ?_;refine XC 3 rfl Q5 ZV mc5 ?_;refine XC 4 rfl Q5 ZV zF ?_;refine XC 5 rfl Q5 ZV zF ?_;refine XC 7 rfl Q5 ZV zF ?_;refine XC 8 rfl Q5 ZV (zB 1) ?_;refine Q2W 6 Q5 rfl ZV (zB 3) ?_;refine Q2W 9 Q5 rfl ZV Qsi ?_;refine Q2W 10 Q5 rfl ZV QsH ?_;refine Q0I 11 Q5 rfl rfl Qt2 Q74 rfl Q1 (fun x hx=>?_);have hx1:=Va HNO.out.numK hp hx;have hx2:=Q9Z HNO.out hp hx;refine Q0I 12 Q5 rfl rfl (Xp _ _ _ rfl rfl rfl (fun w hw=>(Q2f (H.out.next hw.k hx1.2 (hw.own 3 _ rfl)) (n:=x.1) Q3 Q3).mono (fun e w' h=>QeC 3 rfl hw (fun v hv=>by rw[<- HE.out,Q4U hx];exact QvZ hv) H.out.hB H.out.lt h))) Q74 rfl Q1 (fun y hy=>?_);refine Q0I 13 Q5 rfl rfl (pE.of Qsx) Q74 rfl Q1 (fun u hu=>?_);refine Qm2 14 Q5 rfl rfl (pE.of KH) Q74 rfl (fun _ _=>?_);rw[QF (by rfl)];refine Q91 ?_ Q5;refine yn<|yt<|yk<|yc ?_;exact Q7 mc4 rfl JY (fun w hw=>⟨hw.k,.inr ⟨ndB y.1.1,.nil,y.1.2,_,_,by rw[<- HE.out,Q4U hx];exact Q4U hy.1,rfl,hw.own 3 _ rfl,XA.bytes hu.1,Yr Q6M hu.2⟩⟩)
end
section
variable {A:Option Addr}{W w:World}{b c n s:Nat}{e:TypeId}{xs:List Value}
def Qlr(W:World)(l:List Int)(p:Int×Int)(e:Ending)(w':World):Prop:=∃A c,e=.returned (.tuple #[.slice A l.length c,.agg #[.int .i64 p.1,.int .i64 p.2]])/\(Qb.rd A l.length 1 (iv l)).on w'/\(∀b,(Qb.rd A l.length 1 (iv l)).foot=some b->W.heap.size<=b)/\l.length<=c/\Below W.heap.size W w'
theorem Q5x(h:(Qb.row A n c e s xs).on w)(hb:(Qb.rd A n s xs).foot=some b):(Qb.row A n c e s xs).foot=some b:=by
 have h':w.ownsRow 0 e s (.slice A n c) n xs:=h;simp only[Qb.foot] at hb ⊢;split at hb
 ·cases hb
 ·rename_i hn
  rcases h'.2 with ⟨hv,_⟩|⟨g,cap,cur,hv,_⟩
  ·simp only[Value.slice.injEq] at hv
   exact absurd hv.2.1 hn
  ·rw[hv]
   simp only[Value.slice.injEq] at hv;rw[hv.1] at hb;exact hb
theorem Wd.newRow{O:List Qb}{i:Nat}(h:Wd [] W O w)(hO:O[i]? =some (.row A n c e s xs))(hb:(Qb.rd A n s xs).foot=some b):W.heap.size<=b:=by
 rcases Nat.lt_or_ge b W.heap.size with hl|hl
 ·have:=h.new i _ b hO (Q5x (h.own i _ hO) hb) hl
  exact Q2e
 ·exact hl
theorem Qar{F:List Rl}{k:Int}(hf:QX W W.heap.size A n F)(hs:FSm F)(hc:n<=c)(hg:GV W):
  Calls Tryz.prog 23 #[.agg #[.slice A n c],.int .i64 k] W (Qlr W (Q2s F k) (Q57 F k)):=by
 have hlen:F.length=n:=hf.1;have HFM:=Q2 hf;have HS:=Q2 hs;have HG:=Q2 hg;have HLEN:=Q2 hlen;clear hf hs hg hlen;obtain⟨⟨a,b⟩,hab⟩:∃p,Q57 F k=p:=⟨_,rfl⟩;have HC:=Q2 hab;rw[hab];clear hab;go_enter Tryz.func23,Tryz.ntmps23;refine Qs (M:=[]) (W:=W) (N:=34) (E:=[Vh,Q5Q]) (O:=[]) ?_ mc3 QV;by_cases hz:a=0/\b=0
 case neg=>
  have hne:(!(a==0&&b==0))=true:=by
   refine Q99 ?_;omega
  repeat(first|refine Q4 zM ?_|refine Q4 zA ?_|refine Q4 (zD 0) ?_|refine Q4 (zD 1) ?_|refine Qc YK rfl Q1 (fun bf _=>?_)|refine Qc Q4y rfl Q1 (fun b2 _=>?_)|(refine Q4 QrB ?_)|(refine QA Q4a rfl (fun _ _=>?_);rw[QF (by rfl)])|refine Q4 mc6 ?_|refine Q4 Qgg ?_|refine Qe ?_|refine Qa ?_|refine Q6 ?_|refine Q9 rfl ?_)
  refine Qty ?_;refine QI 2 Q5 rfl rfl KH J0 rfl (fun _ _=>?_);rw[QF (by rfl)];refine Xu ?_ Q5;refine QB (Qm ?_);have hff:Q2s F k=[]:=by
   unfold Q2s;rw[HC.out,if_neg (fun h=>hz (by simpa using h))]
  rw[hff];exact Jd mc4 rfl (.tmp rfl) JY (fun w hw=>⟨none,0,rfl,⟨rfl,fun h=>absurd h Q1⟩,fun b hb=>(by simp [Qb.foot] at hb),Nat.le_refl _,hw.k.below⟩)
 case pos=>
  obtain⟨rfl,rfl⟩:=hz;have hff:Q2s F k=V0 F k:=by
   unfold Q2s;rw[HC.out,if_pos rfl]
  rw[hff];clear hff;obtain⟨hfa,hk0,hkn⟩:=QtW HC.out;have hch:=QiU hfa;have hlo:=Qf7 hch;have hn0:=hlo.1;have hn40:=hlo.2;rw[HLEN.out] at hn0 hn40 hkn;have HF:=Q2 (Q5N hch).fok;clear hlo hch hfa;obtain⟨st,hst⟩:∃st,(Vz F).getD k.toNat XH=st:=⟨_,rfl⟩;unfold V0;rw[hst];have HST:=Q2 hst;clear hst;have hk2:0<=k/\k<(n:Int):=⟨hk0,hkn⟩;repeat(first|refine Q4 zM ?_|refine Q4 zA ?_|refine Q4 (zD 0) ?_|refine Q4 (zD 1) ?_|refine Q4 (zD 2) ?_|refine Qc YK rfl Q1 (fun bf _=>?_)|refine Qc Q4y rfl Q1 (fun b2 _=>?_)|(refine Q4 QrB ?_)|(refine QA Q4a rfl (fun _ _=>?_);rw[QF (by rfl)])|refine Q4 mc6 ?_|refine Q4 Qhr ?_|refine Qc QtI rfl Q1 (fun y _=>?_)|refine Q4 (QG rfl rfl Q1 rfl rfl rfl hk2) ?_|(refine Q4 (Xs (cs:=QM st) rfl rfl Q1 rfl rfl (fun w hw=>by rw[<- HST.out];exact QuE KT ((Q7r F).trans HLEN.out) Q3) (X3 _)) ?_)|refine Qe ?_|refine Qa ?_|refine Q6 ?_|refine Qq ?_|refine Q8 rfl ?_|refine Qh ?_)
  rename_i b3 _ _ _ _ _;refine Qc6 3 1 ?_;refine QN (ι:=Nat×Option Addr×Nat) (fun y=>y.1<=256) (fun y=>256 - y.1) (fun y=>[(5,.pointer (some ⟨b3,0,none⟩)),(7,.slice y.2.1 (Vw st y.1).length y.2.2),(21,.agg (QM st).toArray),(22,.int .i64 (y.1:Int))]) (fun y=>[.row y.2.1 (Vw st y.1).length y.2.2 3 1 (iv (Vw st y.1)),.blk b3 Qr4]) (0,none,0) [0,3] Q1 Ze mc1 rfl ?_;rintro⟨i,A',c'⟩ hi;have hi':i<=256:=hi;clear hi;have hsl:=QlW st i;show sE _ _ _ _ _ [(5,.pointer (some ⟨b3,0,none⟩)),(7,.slice A' (Vw st i).length c'),(21,.agg (QM st).toArray),(22,.int .i64 (i:Int))] [.row A' (Vw st i).length c' 3 1 (iv (Vw st i)),.blk b3 Qr4] _;by_cases hin:i<256
  ·obtain⟨s,hs⟩:∃s,st i=s:=⟨_,rfl⟩
   have hcell:(QM st)[i]? =some (.bool s):=by rw[ZD st hin,hs]
   have HSI:=Q2 hs;clear hs;cases s with
   |true=>
    repeat(first|refine Q4 zM ?_|refine Q4 zA ?_|refine Q4 (Q2J (v:=.bool true) rfl rfl Q1 rfl rfl rfl hin hcell) ?_|refine Qc (Jb (size:=1) (cs:=[.int .i64 (i:Int)]) rfl rfl rfl rfl rfl Q1) rfl Q1 (fun bn _=>?_)|refine Qc (Z8 (news:=[.int .i64 (i:Int)]) 1 rfl rfl rfl rfl rfl Qdl QaL Q3) rfl Q1 (fun yz _=>?_)|refine Qe ?_|refine Qa ?_|refine Q6 ?_|refine Qq ?_|refine Q9 rfl ?_|refine Qh ?_|refine Q4 zlt ?_|refine Q4 zP ?_)
    refine Qt (i+1,yz.1,yz.2) [1,2] Q1 hin Qtm (.cons rfl rfl (.cons rfl ?_ (.cons rfl rfl Q52))) ?_
    ·rw[<- Qdg HSI.out,List.length_append]
     rfl
    ·show [Qb.row yz.1 ((Vw st i).length+1) yz.2 _ _ (iv (Vw st i)++iv [(i:Int)]),_]=[Qb.row yz.1 (Vw st (i+1)).length yz.2 _ _ (iv (Vw st (i+1))),_]
     rw[<- Qdg HSI.out,List.length_append,Qnj];rfl
   |false=>
    have hno:=QpY HSI.out;repeat(first|refine Q4 zM ?_|refine Q4 zA ?_|refine Q4 (Q2J (v:=.bool false) rfl rfl Q1 rfl rfl rfl hin hcell) ?_|refine Qe ?_|refine Qa ?_|refine Q6 ?_|refine Qq ?_|refine Q9 rfl ?_|refine Q8 rfl ?_|refine Qh ?_|refine Q4 zlt ?_|refine Q4 zP ?_)
    refine Qt (i+1,A',c') [0,1] Q1 hin Qtm (.cons rfl rfl (.cons rfl ?_ (.cons rfl rfl Q52))) ?_
    ·rw[<- hno]
    ·show [Qb.row A' (Vw st i).length c' _ _ (iv (Vw st i)),_]=[Qb.row A' (Vw st (i+1)).length c' _ _ (iv (Vw st (i+1))),_]
     rw[<- hno];rfl
  ·obtain rfl:i=256:=by omega
   repeat(first|refine Q4 zM ?_|refine Q4 zA ?_|refine Q4 mc6 ?_|(refine QA KH rfl (fun _ _=>?_);rw[QF (by rfl)])|refine Qe ?_|refine Qa ?_|refine Q6 ?_|refine Q8 rfl ?_|refine XS ?_|refine QB ?_|refine Q4 zlf ?_)
   exact Jd mc4 rfl (.tmp rfl) JY (fun w hw=>⟨A',c',rfl,(row_rd KT Q1).1,fun b hb=>Wd.newRow (i:=0) hw rfl hb,(row_rd KT Q1).2,hw.k.below⟩)
end
section
variable {A:Option Addr}{c m n s:Nat}{t:TypeId}{xs:List Value}
def Q2z(L:List Qb)(m:Nat):Prop:=∀x∈L,x.w=false/\∀b,x.foot=some b->m<=b
theorem Q2z.nil(m:Nat):Q2z [] m:=fun x hx=>by cases hx
theorem Q2z.app{L L':List Qb}(h:Q2z L m)(h':Q2z L' m):Q2z (L++L') m:=fun x hx=>(List.mem_append.1 hx).elim (h x) (h' x)
theorem Q2z.new{L:List Qb}{w:World}(h:Q2z L m)(hw:∀x∈L,x.on w):New L m w:=⟨fun x hx=>(h x hx).1,hw,fun x hx=>(h x hx).2⟩
section
variable {M:List Nat}{W w w':World}{z:Rv}{B g p i:Nat}{F:List Rl}{D:List UInt8}{O L:List Qb}{o o':Obj}{e:Ending}{α:Type}{RES:Rdg α}
theorem Wd.wroteAtL(i:Nat)(h:Wd M W O w)(hO:O[i]? =some (.blk g o))(hk:Xz [g] w w')(ho:w'.heap[g]? =some o')(hL:New L w.heap.size w'):Wd M W (O.set i (.blk g o')++L) w':=by
 refine(h.wroteAt i hO hk ho).addL (m:=w.heap.size) h.k.size (fun x hx b hb=>?_) hL;rcases List.mem_or_eq_of_mem_set hx with hx|rfl
 ·exact(h.onAll x hx).lt hb
 ·cases hb
  exact(Array.getElem?_eq_some_iff.1 (h.own i _ hO)).1
structure Vy where
 r:Nd×VF×Nat
 Ab:Option Addr
 nb:Nat
 cb:Nat
 An:Option Addr
 nn:Nat
 cn:Nat
 Ap:Option Addr
 np:Nat
 cp:Nat
 L:List Qb
abbrev Vy.cells(y:Vy):List Value:=[.int .i64 y.r.1.k,.int .i64 y.r.1.n,.slice y.Ab y.nb y.cb,.slice y.An y.nn y.cn,.slice y.Ap y.np y.cp]
theorem QaS{res:Rdg (Nd×VF×Nat)}(i:Nat)(hO:O[i]? =some (.blk g o))(hw:Wd [g] W O w)(hx:∀x:Nat,res=some (.error x)->RES=some (.error x))(h:VlE z g w res e w'):Zu (fun y:Vy=>.agg (y.cells).toArray) (fun y=>res=some (.ok y.r)/\XA y.L (.agg (y.cells).toArray) y.r.1 y.r.2.1/\Q2z y.L W.heap.size) [g] W (fun y=>O.set i (.blk g (z.obj y.r.2.2))++y.L) (VK RES g W) e w':=by
 obtain⟨hk,⟨x,h1,h2⟩|⟨d,l,q,v,L,h1,h2,h3,h4,h5⟩⟩:=h
 ·exact QcR
 ·obtain⟨sb,sn,sp,rfl,hd⟩:=h4.vin h5.on;obtain⟨Ab,nb,cb,An,nn,cn,Ap,cp,rfl,rfl,rfl,_⟩:=hd;exact .inl ⟨⟨(d,l,q),Ab,nb,cb,An,nn,cn,Ap,l.len,cp,L⟩,h2,Qs0,hw.wroteAtL i hO hk h3 h5⟩
theorem Q2R(i j:Nat)(hw:Wd [g] W O w)(hO:O[i]? =some (.row A n c t s xs))(hg:O[j]? =some (.blk g o))(hij:i≠j):New [.rd A n s xs] W.heap.size w:=by
 refine Yr (Rd.of_own Q9y) fun b hb=>?_;rcases Nat.lt_or_ge b W.heap.size with hl|hl
 ·have hf:=Q5x Q9y hb;have h1:b∈[g]:=hw.new i _ b hO hf hl;rw[List.mem_singleton] at h1;subst h1;exact absurd (hw.nd i j _ _ b hO hg hf rfl rfl) hij
 ·exact hl
theorem JB(i:Nat)(hw:Wd M W O w)(hO:O[i]? =some (.row A n c t s xs)):n<=c/\c<=maxLen:=by
 have h:w.ownsRow 0 t s (.slice A n c) n xs:=hw.own i _ hO;rcases h.2 with ⟨hv,h0⟩|⟨g,cap,cur,hv,_,hg,h1,h2,_,ht⟩
 ·simp only[Value.slice.injEq] at hv
  omega
 ·simp only[Value.slice.injEq] at hv
  omega
theorem Qfz{one:Nat->Rdg (Nd×VF×Nat)}{A:VF}{p:Nat}{γ:Type}{gg:VF×Nat->Rdg γ}(h:∃r,rb (JX one A (n+1) p) gg=some r):∃y,one p=some y:=by
 obtain⟨r,h⟩:=h;cases h1:one p with
 |none=>unfold JX at h;rw[JK,h1] at h;cases h
 |some y=>exact⟨y,rfl⟩
theorem QhZ(y:Vy)(w:World):(Instr.buildSlice 28 1 #[(0,.agg (y.cells).toArray)]).run Tryz.prog w=.ok (.slice (some ⟨w.heap.size,0,none⟩) 1 1) (w.alloc (.cells (y.cells).toArray 30)):=by
 have hT:SlT Tryz.prog 28 30 5 88:=QmA;obtain⟨i,z,hi,hz,hsz,hby,hzs⟩:=hT.info;refine run_buildSlice w _ _ 1 _ (y.cells).toArray i z hT.und hi hz Yv Yv ?_;rw[hsz];have hZ:∀Z:Array Value,Z.size=5->Instr.fill (fun i=>some (i*5,5)) Z [(0,.agg (y.cells).toArray)]=some (y.cells).toArray:=by
  rintro⟨l⟩ h;match l,h with
  |[z0,z1,z2,z3,z4],_=>rfl
 exact hZ _ Ql
end
end
section
variable {W w w':World}{z:Rv}{B g p i:Nat}{F:List Rl}{D:List UInt8}{O:List Qb}{o:Obj}{e:Ending}{α:Type}{RES:Rdg α}{k:Int}
def IHv(z:Rv)(B g:Nat)(F:List Rl)(D:List UInt8)(f:Nat):Prop:=∀(W:World) (k:Int) (p:Nat),0<=k/\k<F.length->J2 W z B g F D p->(∃y,QE F D f k p=some y)->Calls Tryz.prog 32 #[.pointer (some ⟨g,0,none⟩),.int .i64 k] W (VlE z g W (QE F D f k p))
structure El where
 A:VF
 cs:List Value
 Ar:Option Addr
 c:Nat
 L:List Qb
 q:Nat
 n:Nat
theorem Qqt(hv:Fm F)(f:Nat)(IH:IHv z B g F D f)(hsome:∃y,QE F D (f+1) k p=some y)(hk:0<=k/\k<F.length)(h:J2 W z B g F D p)(hkind:(Qg F k).kind=6):
  Calls Tryz.prog 32 #[.pointer (some ⟨g,0,none⟩),.int .i64 k] W (VlE z g W (QE F D (f+1) k p)):=by
 have H:=Q2 h;have hwd:=h.wd;have hp:=h.hp;have hD:=h.hD;have hFn:=h.len.2;have hr:=hv.toUsd.rok hk;obtain⟨RES,hres⟩:∃x,QE F D (f+1) k p=x:=⟨_,rfl⟩;have e6:=(Qqg (F:=F) (D:=D) (f:=f) (p:=p) (k:=k) hkind).symm.trans hres;have hno:=hv.numOk hk KY;have hcnt:=hr.count KY;have hel:=hr.elem KY;rw[hres] at hsome ⊢;have HS:=Q2 hsome;have HIH:=Q2 IH;obtain⟨Af,As,Ad,nn,nd,cf,cs,cd⟩:=z;simp only at hFn;obtain⟨bf,of,haf⟩:=h.af Vf;simp only at haf;subst haf;obtain⟨hbB,Ab,cb,An,cn,Ap,cp,hrg,hru⟩:=h.env.fm.ruleB (k:=k) Jx;have hbg:¬bf=g:=by have:=h.hB;omega
 have hkn:0<=k/\k<(nn:Int):=by omega
 clear h hres hsome IH;have hfar:Far (QE F D f (Qg F k).elem) D.length:=XJ hv.toUsd f hel;obtain⟨r,er⟩:∃r,Qg F k=r:=⟨_,rfl⟩;rw[er] at hkind hr hrg hru e6 hcnt hel hno hfar;clear er;have HRK:=Q2 hr;have HRU:=Q2 hru;obtain⟨hbB2,Ab2,cb2,An2,cn2,Ap2,cp2,hrg2,hru2⟩:=H.out.env.fm.ruleB (k:=r.count) Jx;have HRU2:=Q2 hru2;have HNO:=Q2 hno;clear hru hru2 hno;obtain⟨name,kind,bs,size,big,mn,mx,stop,count,elem,names,parts⟩:=r;simp only[ruC] at hkind hr hrg e6 hcnt hel hrg2 hfar;have HRB:=Q2D;go_enter Tryz.func32,Tryz.ntmps32;haveI:Pan (bodyPost Tryz.prog Tryz.f32 (VlE ⟨some ⟨bf,of,none⟩,As,Ad,nn,nd,cf,cs,cd⟩ g W RES)) (VK RES g W):=Pan.body fun ch w' ⟨x,h1,h2,h3⟩=>J6
 refine Qs (M:=[g]) (W:=W) (N:=181) (E:=Q6e) (O:=Qdz) ?_ mc3 hwd;clear hwd;refine yq<|yr ?_;refine yB fun b2=>?_;refine yA fun b4=>?_;refine QlP ?_;refine yA fun b5=>?_;refine QcG ?_;subst hkind;have HE:=Q2 e6;clear e6;refine yn<|yb<|yq<|yr<|yo zef<|yo zA<|yl<|yn<|y0<|yq<|yq<|yr<|yo zef<|yo zA<|yl<|yn<|y0<|yr<|yo zef<|yo zA<|yl<|yn<|y0<|yq<|yr<|yo zef<|yo zA<|yl<|yn<|y0<|yq<|yr<|yo zef<|yo zA<|yl<|yn<|y0<|yq<|yr<|yo zef<|yo zA<|yl<|yn<|y0<|yq<|yr<|yo zet<|yo zA<|yl<|yn<|y1<|yq<|yr<|yo zA<|yl<|yn<|yq<|yq ?_;refine Vb (B:=VK RES g W) [.blk b2 (.cells #[.pointer Q54] 56 (0,0)),.blk b5 QgR] [] Q5 ?_ ?_
 ·infer_instance
 refine XC 0 rfl Q5 ZV (zB 0) ?_;refine XC 1 rfl Q5 ZV (zB 0) ?_;refine XC 2 rfl Q5 ZV mc5 ?_;refine XC 3 rfl Q5 ZV zF ?_;refine XC 4 rfl Q5 ZV zF ?_;refine XC 6 rfl Q5 ZV zF ?_;refine XC 7 rfl Q5 ZV (zB 1) ?_;refine Q2W 5 Q5 rfl ZV (zB 3) ?_;refine Q2W 8 Q5 rfl ZV Qsi ?_;refine Q2W 9 Q5 rfl ZV QsH ?_;refine Q0I 10 Q5 rfl rfl Qt2 Q74 rfl Q1 (fun x hx=>?_);refine Q2W 11 Q5 rfl ZV zA ?_;refine Q91 ?_ Q5;have hx1:=Va HNO.out.numK hp hx;have hx2:=Q9Z HNO.out hp hx;have HX:=Q2 (show RES=rb (JX QfB .nil x.1.toNat x.2) fun z=>okR Qcq by rw[<- HE.out,Q4U hx,QaU]);refine yn<|yb ?_;refine X8 (ι:=El) (fun y=>Vj y.L y.cs y.A/\Q2z y.L W.heap.size/\y.q<=D.length/\y.A.len+y.n<=4294967296/\RES=rb (JX QfB y.A y.n y.q) fun z=>okR Qcq) (fun y=>y.n) (fun y=>[Q2k,Q8y,QpS,(6,.slice y.Ar y.A.len y.c),(7,.int .i64 (y.n:Int))]) (fun y=>.row y.Ar y.A.len y.c 30 5 y.cs::.blk b5 QgR::.blk b4 QgI::.blk b2 Q8A::.blk g QrE::y.L) ⟨.nil,[],none,0,[],x.2,x.1.toNat⟩ ⟨.nil,.nil _,hx1.2,by show 0+x.1.toNat<=_;omega,HX.out⟩ Yc QoC ?_;rintro⟨A,cs',Ar,c,L,q,n⟩ ⟨hF,hL,hq,hn,hres⟩;replace hn:A.len+n<=4294967296:=hn;replace hq:q<=D.length:=hq;have HF:=Q2 hF;have HL:=Q2 hL;have HR:=Q2 hres;clear hF hL hres;show sE _ _ _ _ _ [Q2k,Q8y,QpS,(6,.slice Ar A.len c),(7,.int .i64 (n:Int))] (.row Ar A.len c 30 5 cs'::.blk b5 QgR::.blk b4 QgI::.blk b2 Q8A::.blk g QsI::L) _;cases n with
 |zero=>
  have HZ:=Q2 (show RES=some (.ok (ndL,A,q)) by rw[HR.out,Qe4];rfl);refine yq<|yq<|yr<|yo zM<|yo zgf<|yl<|yn<|y0<|ye<|yn<|yq<|yr<|yo zM ?_;refine Q4 QhS ?_;refine yW 2 ?_;refine yl<|yn<|yt<|yk<|yc ?_;refine Q7 mc4 rfl Q3i (fun w hw=>⟨hw.k,.inr ⟨ndL,A,q,_,.rd Ar A.len 5 cs'::L,HZ.out,rfl,hw.own 4 _ rfl,XA.list HF.out (JB 0 hw rfl).1 (JB 0 hw rfl).2,?_⟩⟩);exact(Q2R 0 4 hw rfl rfl Q1).app QtA
 |succ n=>
  obtain⟨q1,hy1⟩:=Qfz (one:=QE F D f elem) (A:=A) (n:=n) (p:=q) (gg:=fun z:VF×Nat=>okR Qcq) QrP;have HY:=Q2 hy1;clear hy1;refine yq<|yq<|yr<|yo zM<|yo zgt<|yl<|yn<|y1<|ys<|yn<|yq<|yb<|yr<|yo zM<|yo (zB 3)<|yo zF<|yo (zB 1) ?_;refine ZP (Xp _ _ _ rfl rfl rfl (fun w hw=>(HIH.out w elem q hel (H.out.next hw.k hq Q6M) ⟨q1,HY.out⟩).mono (fun e w' h=>QaS 4 rfl hw (fun x hx=>by rw[HR.out,Qia hx];rfl) h))) rfl Q1 (fun y hy=>?_);refine Qc (JH (xs:=[(0,.tmp 89)]) (vs:=[(0,.agg (y.cells).toArray)]) (cells:=y.cells) rfl rfl rfl (QhZ y)) rfl Q1 (fun bn _=>?_);refine Qc QqX rfl Q1 (fun z _=>?_);refine yo zA<|yl<|yn<|yr<|yo zM<|yo zQ<|yo zA<|yl ?_;refine Qr QsR ⟨HF.out.snoc hy.2.1,HL.out.app hy.2.2,(hfar q y.r hq hy.1).2,by show (A.snoc _ _).len+n<=_;rw[VF.len_snoc];omega,by rw[HR.out,Qjb hy.1]⟩ (Nat.lt_succ_self n) (.cons rfl rfl (.cons rfl rfl (.cons rfl rfl (.cons rfl (by rw[VF.len_snoc]) (.cons rfl (congrArg (Value.int .i64) (show ((n+1:Nat):Int) - 1=(n:Int) by omega)) .nil))))) (fun w hw=>?_);have h:=hw.tl;simp only[VF.len_snoc];exact h
end
section
variable {W w w':World}{z:Rv}{B g p i:Nat}{F:List Rl}{D:List UInt8}{O:List Qb}{o:Obj}{e:Ending}{α:Type}{RES:Rdg α}{k:Int}
theorem Qir{one:Nat->Rdg (Nd×VF×Nat)}{A:VF}{n p:Nat}{stop:Int}{c:UInt8}{γ:Type}{gg:VF×Nat->Rdg γ}(hc:D[p]? =some c)(hs:¬(c.toNat:Int)=stop)(h:∃r,rb (Y2 one D stop A (n+1) p) gg=some r):∃y,one p=some y:=by
 obtain⟨r,h⟩:=h;cases h1:one p with
 |none=>
  unfold Y2 at h;rw[Ve,hc] at h;simp only at h;rw[if_neg hs,h1] at h;cases h
 |some y=>exact⟨y,rfl⟩
theorem Qqo(hv:Fm F)(f:Nat)(IH:IHv z B g F D f)(hsome:∃y,QE F D (f+1) k p=some y)(hk:0<=k/\k<F.length)(h:J2 W z B g F D p)(hkind:(Qg F k).kind=9):
  Calls Tryz.prog 32 #[.pointer (some ⟨g,0,none⟩),.int .i64 k] W (VlE z g W (QE F D (f+1) k p)):=by
 have H:=Q2 h;have hwd:=h.wd;have hp:=h.hp;have hD:=h.hD;have hFn:=h.len.2;have hr:=hv.toUsd.rok hk;obtain⟨RES,hres⟩:∃x,QE F D (f+1) k p=x:=⟨_,rfl⟩;have e9:=(QpN (F:=F) (D:=D) (f:=f) (p:=p) (k:=k) hkind).symm.trans hres;have hel:=hr.elem Q07;rw[hres] at hsome ⊢;have HS:=Q2 hsome;have HIH:=Q2 IH;obtain⟨Af,As,Ad,nn,nd,cf,cs,cd⟩:=z;simp only at hFn;obtain⟨bf,of,haf⟩:=h.af Vf;simp only at haf;subst haf;obtain⟨hbB,Ab,cb,An,cn,Ap,cp,hrg,hru⟩:=h.env.fm.ruleB (k:=k) Jx;have hbg:¬bf=g:=by have:=h.hB;omega
 have hkn:0<=k/\k<(nn:Int):=by omega
 clear h hres hsome IH;have hfar:Far (QE F D f (Qg F k).elem) D.length:=XJ hv.toUsd f hel;obtain⟨r,er⟩:∃r,Qg F k=r:=⟨_,rfl⟩;rw[er] at hkind hr hrg hru e9 hel hfar;clear er;have HRK:=Q2 hr;have HRU:=Q2 hru;clear hru;obtain⟨name,kind,bs,size,big,mn,mx,stop,count,elem,names,parts⟩:=r;simp only[ruC] at hkind hr hrg e9 hel hfar;have HRB:=Q2D;go_enter Tryz.func32,Tryz.ntmps32;haveI:Pan (bodyPost Tryz.prog Tryz.f32 (VlE ⟨some ⟨bf,of,none⟩,As,Ad,nn,nd,cf,cs,cd⟩ g W RES)) (VK RES g W):=Pan.body fun ch w' ⟨x,h1,h2,h3⟩=>J6
 refine Qs (M:=[g]) (W:=W) (N:=181) (E:=Q6e) (O:=Qdz) ?_ mc3 hwd;clear hwd;refine yq<|yr ?_;refine yB fun b2=>?_;refine yA fun b4=>?_;refine QlP ?_;refine yA fun b5=>?_;refine QcG ?_;subst hkind;have HE:=Q2 e9;clear e9;have HX:=Q2 (show RES=rb (Y2 QfB D stop .nil (D.length+1) p) fun z=>okR Qcq by rw[<- HE.out,Qdx]);refine yn<|yb<|yq<|yr<|yo zef<|yo zA<|yl<|yn<|y0<|yq<|yq<|yr<|yo zef<|yo zA<|yl<|yn<|y0<|yr<|yo zef<|yo zA<|yl<|yn<|y0<|yq<|yr<|yo zef<|yo zA<|yl<|yn<|y0<|yq<|yr<|yo zef<|yo zA<|yl<|yn<|y0<|yq<|yr<|yo zef<|yo zA<|yl<|yn<|y0<|yq<|yr<|yo zef<|yo zA<|yl<|yn<|y0<|yq<|yr<|yo zet<|yo zA<|yl<|yn<|y1<|yq<|yr<|yo zA<|yl<|yn<|yq<|yb ?_;refine X8 (ι:=El) (fun y=>Vj y.L y.cs y.A/\Q2z y.L W.heap.size/\y.q<=D.length/\y.A.len+y.n<=D.length+1/\RES=rb (Y2 (QE F D f elem) D stop y.A y.n y.q) fun z=>okR (ndL,z.1,z.2)) (fun y=>y.n) (fun y=>[Q2k,Q8y,QpS,(8,.slice y.Ar y.A.len y.c)]) (fun y=>.row y.Ar y.A.len y.c 30 5 y.cs::.blk b5 QhQ::.blk b4 QgI::.blk b2 Q8A::.blk g QrE::y.L) ⟨.nil,[],none,0,[],p,D.length+1⟩ ⟨.nil,.nil _,hp,by show 0+(D.length+1)<=_;omega,HX.out⟩ mc1 QoC ?_;rintro⟨A,cs',Ar,c,L,q,n⟩ ⟨hF,hL,hq,hn,hres⟩;replace hn:A.len+n<=D.length+1:=hn;replace hq:q<=D.length:=hq;have HF:=Q2 hF;have HL:=Q2 hL;have HR:=Q2 hres;clear hF hL hres;show sE _ _ _ _ _ [Q2k,Q8y,QpS,(8,.slice Ar A.len c)] (.row Ar A.len c 30 5 cs'::.blk b5 QhQ::.blk b4 QgI::.blk b2 Q8A::.blk g QsI::L) _;cases n with
 |zero=>
  obtain⟨r,hr⟩:=HS.out;rw[HR.out] at hr;cases hr
 |succ n=>
 cases hc:D[q]? with
 |none=>
  have HE:=Q2 (show RES=some (.error q) by rw[HR.out,QjD hc];rfl);have HC:=Q2 hc;clear hc;refine yq<|yq ?_;refine Vb (B:=VK RES g W) [.blk b2 Q8A,.blk b5 QhQ] [] Q5 ?_ ?_
  ·infer_instance
  refine XC 0 rfl Q5 Kz (zB 0) ?_;refine XC 3 rfl Q5 Kz zF ?_;refine XC 4 rfl Q5 Kz (zB 1) ?_;exact Q0I 1 Q5 rfl rfl (Xp _ _ _ rfl rfl rfl (fun w hw=>Q5v (H.out.next hw.k hq Q6M) HC.out hw (fun w' hw'=>⟨q,HE.out,rfl,hw'.k⟩))) Q0e rfl Q1 Q0e
 |some c=>
  have hlt:q<D.length:=(List.getElem?_eq_some_iff.1 hc).1;have HC:=Q2 hc;have hcv:=Kb c;clear hc;by_cases hs:(c.toNat:Int)=stop
  ·have HE:=Q2 (show RES=some (.ok (ndL,A,q+1)) by rw[HR.out,Qif HC.out hs];rfl);have hne:((c.toNat:Int) != stop)=false:=bne_eq_false_iff_eq.2 hs;refine QsK ?_;refine yn<|y0<|ye<|yn<|yq<|yr<|yo (zB 3) ?_;refine Q4 mc5 ?_;refine yo zF<|yo (zB 4)<|yo zP ?_;refine Q4 mc5 ?_;refine yo zF ?_;refine yS 4 ?_;refine yl<|yn<|yq<|yr<|yo zM ?_;refine Q4 QhS ?_;refine yW 2 ?_;refine yl<|yn<|yt<|yk<|yc ?_;refine Q7 mc4 rfl Q3i (fun w hw=>⟨hw.k,.inr ⟨ndL,A,q+1,_,.rd Ar A.len 5 cs'::L,HE.out,rfl,hw.own 4 _ rfl,XA.list HF.out (JB 0 hw rfl).1 (JB 0 hw rfl).2,?_⟩⟩);exact(Q2R 0 4 hw rfl rfl Q1).app QtA
  ·have hne:((c.toNat:Int) != stop)=true:=bne_iff_ne.2 hs;obtain⟨q1,hy1⟩:=Qir (one:=QE F D f elem) (A:=A) (n:=n) (p:=q) (gg:=fun z:VF×Nat=>okR Qcq) HC.out hs QrP;have HY:=Q2 hy1;clear hy1;refine QsK ?_;refine yn<|y1<|ys<|yn<|yb<|yr<|yo zM<|yo (zB 3)<|yo zF<|yo (zB 1) ?_;refine ZP (Xp _ _ _ rfl rfl rfl (fun w hw=>(HIH.out w elem q hel (H.out.next hw.k hq Q6M) ⟨q1,HY.out⟩).mono (fun e w' h=>QaS 4 rfl hw (fun x hx=>by rw[HR.out,QmP HC.out hs hx];rfl) h))) rfl Q1 (fun y hy=>?_);refine Qc (JH (xs:=[(0,.tmp 106)]) (vs:=[(0,.agg (y.cells).toArray)]) (cells:=y.cells) rfl rfl rfl (QhZ y)) rfl Q1 (fun bn _=>?_);refine Qc QqX rfl Q1 (fun z _=>?_);refine yo zA<|yl<|yd ?_;refine Qr QsR ⟨HF.out.snoc hy.2.1,HL.out.app hy.2.2,(hfar q y.r hq hy.1).2,by show (A.snoc _ _).len+n<=_;rw[VF.len_snoc];omega,by rw[HR.out,Qkf HC.out hs hy.1]⟩ (Nat.lt_succ_self n) (.cons rfl rfl (.cons rfl rfl (.cons rfl rfl (.cons rfl (by rw[VF.len_snoc]) .nil)))) (fun w hw=>?_);have h:=hw.tl
   simp only[VF.len_snoc];exact h
end
def QvH(f:FuncId)(c1 c2:Value)(w:World)(xs:List Int)(p:Int->Bool):Prop:=
 ∀(x:Int) (y:Up w),x∈xs->Calls Tryz.prog f #[.int .i64 x,c1,c2] y.w fun e w'=>e=.returned (.bool (p x))/\Below y.w.heap.size y.w w'
theorem Qb0{w:World}{A:Option Addr}{n c:Nat}{f:FuncId}{c1 c2:Value}{xs:List Int}{p:Int->Bool}(h:Rd w w.heap.size 1 A n (iv xs))(hn:n<=1048576)(ht:QvH f c1 c2 w xs p)(hf:Q10 f):
  Calls Tryz.prog 66 #[.slice A n c,.func (.func f) #[] #[c1,c2]] w (QrY xs p w):=by
 have HL:=Qmh;have HR:=Q2 h;have HT:=Q2 ht;have hfe:∀(args:Array Value) (W:World),(callFunc f args).run Tryz.prog W=.ok (.enter f args) W:=hf;clear h ht hf;go_enter Tryz.func66,Tryz.ntmps66;go_wp2_with fail
 go_loopw [8] (Qsr xs p w) (fun k _=>n - (intOf k).toNat)
 case atStart=>exact⟨0,Nat.zero_le _,rfl,fun j r hj=>absurd hj Q3,Below.refl _ _⟩
 case round=>
  obtain⟨i,hi,rfl,hff,hbw⟩:=hrel;rw[HL.out] at hi;have HF:=Q2 hff;have HB:=Q2 hbw;clear hff hbw;by_cases hlt:i<n
  ·obtain⟨b,o,x,rfl,hb,hx,hc⟩:=Q4F HR.out hlt;have HX:=Q2 hx;have hc':=(HB.out.cell Jt).trans hc
   have hli:(i:Int)<(n:Int):=by omega
   have h0:(0:Int)<=(i:Int):=by omega
   clear hx hc;go_wp2_with fail
   refine(HT.out x ⟨wr,HB.out⟩ (List.mem_of_getElem? HX.out)).mono ?_;rintro e w2 ⟨rfl,hb2⟩;have HB2:=QnO;clear hb2 hc';cases hp:p x with
   |true=>
    have HP:=Q2 hp;clear hp;go_wp2_with fail
    go_ret;exact Qnv
   |false=>
    have HP:=Q2 hp;clear hp;go_wp2_with fail
    go_roundw
    case rel=>exact⟨i+1,by rw[HL.out];omega,by go_num,fun j y hj hy=>by
     by_cases hji:j=i
     ·subst hji;have:=HX.out;rw[hy] at this
      cases this
      exact HP.out
     ·exact HF.out j y Q3 hy,HB2.out⟩
    case measure=>simp [intOf];omega
  ·go_wp2_with fail
   go_ret;exact Qsg
section
variable {w:World}{z:Rv}{B g p:Nat}{F:List Rl}{D:List UInt8}
theorem Qmx(F:List Rl)(k:Int):(V0 F k).length<=256:=by
 have h:(V0 F k).length=((List.range 256).filter ((Vz F).getD k.toNat XH)).length:=by unfold V0 Vw;simp
 rw[h];exact Nat.le_trans (List.length_filter_le _ _) Ql
theorem Q7J(h:J2 w z B g F D p){b2 b9:Nat}{c:UInt8}{k:Int}(h2:w.cell? ⟨b2,0,none⟩=some (.pointer (some ⟨g,0,none⟩)))(h9:w.cell? ⟨b9,0,none⟩=some (.int .i64 (c.toNat:Int)))(hk:0<=k/\k<F.length):
  Calls Tryz.prog 67 #[.int .i64 k,.pointer (some ⟨b2,0,none⟩),.pointer (some ⟨b9,0,none⟩)] w fun e w'=>e=.returned (.bool (XI (V0 F k) (c.toNat:Int)))/\Below w.heap.size w w':=by
 obtain⟨_,hc1,_,_⟩:=h.cell;have hl:=h.len.2;have hBw:B<=w.heap.size:=by have:=h.hB;have:=h.lt;omega
 have hfr:=h.env.fr;clear h;obtain⟨Af,As,Ad,n,nd,cf,cs,cd⟩:=z;simp only at hc1 hl hfr;subst hl;obtain⟨bs,os,rfl,_,hall⟩:=hfr;obtain⟨j,rfl⟩:∃j:Nat,k=(j:Int):=⟨k.toNat,by omega⟩;obtain⟨Ak,ck,hck,hrd,hlk⟩:=hall j Q3;have hjl:j<F.length:=by omega
 have HRD:=Q2 hrd;have hn:=Qmx F (j:Int);clear hrd hall;go_enter Tryz.func67,Tryz.ntmps67;refine Qs (M:=[]) (W:=w) (N:=14) (E:=[(0,.int .i64 (j:Int)),(1,.pointer (some ⟨b2,0,none⟩)),(2,.pointer (some ⟨b9,0,none⟩))]) (O:=[]) ?_ Z0 (Wd.start [] w);refine Qe5 ?_;refine Qd (zG h2) ?_;refine Qd mc5 ?_;refine Qd zF ?_;refine Qd (zG hc1) ?_;refine Qd zM ?_;refine Qd (zi1 (hj:=hjl)) ?_;refine Qd (zG hck) ?_;refine Qd (zG h9) ?_;refine Qd (Qj rfl rfl Q1 rfl rfl (fun w hw=>Calls.stay (Jf (HRD.out.below (hw.k.below.mono hBw)) Q3))) ?_;refine Q6I ?_;exact Q1P
end
section
variable {f:Nat->Option (Nat×Nat)}
theorem Qid(o:Nat):∀(l:List Value) (k:Nat) (a:List Value),(l.zipIdx k).foldl (fun cs (x:Value×Nat)=>cs.setIfInBounds (o+x.2) x.1) a.toArray=(Zq a (o+k) l).toArray:=by
 intro l;induction l with
 |nil=>intro k a;rfl
 |cons x l ih=>
  intro k a;rw[List.zipIdx_cons,List.foldl_cons,Zq];have e:a.toArray.setIfInBounds (o+k) x=(a.set (o+k) x).toArray:=by simp
  show (l.zipIdx (k+1)).foldl _ (a.toArray.setIfInBounds (o+k) x)=_;rw[e];exact ih (k+1) (a.set (o+k) x)
theorem Y1{Z cs:List Value}{i o n:Nat}{v:Value}{rest:List (Nat×Value)}(hf:f i=some (o,n))(hv:v.cells=cs.toArray)(hl:cs.length=n)(hz:o+n<=Z.length):Instr.fill f Z.toArray ((i,v)::rest)=Instr.fill f (Zq Z o cs).toArray rest:=by
 have e:v.cells.zipIdx.foldl (fun cs (x:Value×Nat)=>cs.setIfInBounds (o+x.2) x.1) Z.toArray=(Zq Z o cs).toArray:=by
  rw[hv,<- Array.foldl_toList];have h1:=Qid o cs 0 Z;simpa using h1
 have hs1:v.cells.size=n:=by rw[hv,List.size_toArray,hl]
 have hc:¬(v.cells.size≠n\/o+v.cells.size>Z.toArray.size):=by rw[hs1,List.size_toArray];omega
 rw[Instr.fill,hf];dsimp only;rw[if_neg (by simpa using hc)];exact congrArg (fun z=>Instr.fill f z rest) e
theorem Q6m{Z:Array Value}:Instr.fill f Z []=some Z:=by rw[Instr.fill]
end
theorem Q4u(F:List Rl)(ks:List Int)(c:UInt8):Q35 ks (fun x=>XI (V0 F x) (c.toNat:Int))=match VU F ks c with|some i=>(i:Int)|none=>-1:=by
 unfold Q35 VU;simp only[Qpc];rfl
abbrev Qd6(i:Nat):List Value:=[.int .i64 1,.int .i64 (i:Int),.slice none 0 0,.slice none 0 0,.slice none 0 0]
theorem Qmm{Z A B:List Value}(ha:A.length=5)(hb:B.length=5)(hz:Z.length=10):Zq (Zq Z 0 A) 5 B=A++B:=by
 refine List.ext_getElem? fun i=>?_;rw[VZ,VZ,JI];by_cases h5:i<5
 ·rw[if_neg Q3,if_pos Q3,List.getElem?_append_left Q3,Nat.sub_zero]
 ·rw[List.getElem?_append_right Q3,ha]
  by_cases h10:i<10
  ·rw[if_pos Q3]
  ·rw[if_neg Q3,if_neg Q3,List.getElem?_eq_none Q3,List.getElem?_eq_none Q3]
theorem Qpt(y:Vy)(i:Nat)(w:World):(Instr.buildSlice 28 2 #[(0,.agg (Qd6 i).toArray),(1,.agg (y.cells).toArray)]).run Tryz.prog w=.ok (.slice (some ⟨w.heap.size,0,none⟩) 2 2) (w.alloc (.cells (Qd6 i++y.cells).toArray 30)):=by
 have hT:SlT Tryz.prog 28 30 5 88:=QmA;obtain⟨j,z,hi,hz,hsz,hby,hzs⟩:=hT.info;refine run_buildSlice w _ _ 2 _ (Qd6 i++y.cells).toArray j z hT.und hi hz Yv Yv ?_;rw[hsz];obtain⟨Z,hZ,hZl⟩:∃Z:List Value,(Array.range (2*5)).map (z.cells[·% z.cells.size]!)=Z.toArray/\Z.length=10:=QkL;rw[hZ];show Instr.fill (fun i=>some (i*5,5)) Z.toArray [(0,.agg (Qd6 i).toArray),(1,.agg (y.cells).toArray)]=_;rw[Y1 (o:=0) (n:=5) (cs:=Qd6 i) rfl rfl rfl Q3,Y1 (o:=5) (n:=5) (cs:=y.cells) rfl rfl rfl (by rw[JI];omega),Q6m,Qmm rfl rfl hZl]
theorem Q87{w:World}{z:Rv}{B g p b2 b9 n cp:Nat}{F:List Rl}{D:List UInt8}{c:UInt8}{Ap:Option Addr}{ks:List Int}(h:J2 w z B g F D p)(h2:w.cell? ⟨b2,0,none⟩=some (.pointer (some ⟨g,0,none⟩)))(h9:w.cell? ⟨b9,0,none⟩=some (.int .i64 (c.toNat:Int)))(hks:Rd w w.heap.size 1 Ap n (iv ks))(hn:n<=1048576)(hpt:∀x∈ks,0<=x/\x<F.length):
  Calls Tryz.prog 66 #[.slice Ap n cp,.func (.func 67) #[] #[.pointer (some ⟨b2,0,none⟩),.pointer (some ⟨b9,0,none⟩)]] w fun e w'=>e=.returned (.int .i64 (match VU F ks c with|some i=>(i:Int)|none=>-1))/\Below w.heap.size w w':=
 (Qb0 (p:=fun x=>XI (V0 F x) (c.toNat:Int)) hks hn (fun x y hx=>Q7J (h.next (w:=y.w) ⟨y.b.os,y.b.tape,y.b.output,y.b.size,fun k hk _=>y.b.block k hk⟩ h.hp ((y.b.block g h.lt).trans h.cur)) ((y.b.cell (by exact Q0u h2)).trans h2) ((y.b.cell (by exact Q0u h9)).trans h9) (hpt x hx)) (fun _ _=>by kernel_rfl)).mono fun e w' ⟨he,hb⟩=>⟨by rw[he,Q4u],hb⟩
section
variable {W w w':World}{z:Rv}{B g p i:Nat}{F:List Rl}{D:List UInt8}{O L:List Qb}{o o':Obj}{e:Ending}{α:Type}{RES:Rdg α}{k:Int}
theorem QpQ(hv:Fm F)(f:Nat)(IH:IHv z B g F D f)(hsome:∃y,QE F D (f+1) k p=some y)(hk:0<=k/\k<F.length)(h:J2 W z B g F D p)(hkind:(Qg F k).kind=8):
  Calls Tryz.prog 32 #[.pointer (some ⟨g,0,none⟩),.int .i64 k] W (VlE z g W (QE F D (f+1) k p)):=by
 have H:=Q2 h;have hwd:=h.wd;have hp:=h.hp;have hD:=h.hD;have hFn:=h.len.2;have hr:=hv.toUsd.rok hk;obtain⟨RES,hres⟩:∃x,QE F D (f+1) k p=x:=⟨_,rfl⟩;have e8n:=fun h=>(Qk0 (F:=F) (D:=D) (f:=f) (p:=p) (k:=k) hkind h).symm.trans hres;have e8m:=fun(c:UInt8) h1 h2=>(QnI (F:=F) (D:=D) (f:=f) (p:=p) (k:=k) (c:=c) hkind h1 h2).symm.trans hres;have e8:=fun(c:UInt8) (i:Nat) h1 h2=>(Qqe (F:=F) (D:=D) (f:=f) (p:=p) (k:=k) (c:=c) (i:=i) hkind h1 h2).symm.trans hres;have hpt:=hr.parts Q07;have hp12:=hr.p12;rw[hres] at hsome ⊢;have HS:=Q2 hsome;have HIH:=Q2 IH;obtain⟨Af,As,Ad,nn,nd,cf,cs,cd⟩:=z;simp only at hFn;obtain⟨bf,of,haf⟩:=h.af Vf;simp only at haf;subst haf;obtain⟨hbB,Ab,cb,An,cn,Ap,cp,hrg,hru⟩:=h.env.fm.ruleB (k:=k) Jx;have hbg:¬bf=g:=by have:=h.hB;omega
 have hkn:0<=k/\k<(nn:Int):=by omega
 clear h hres hsome IH;obtain⟨r,er⟩:∃r,Qg F k=r:=⟨_,rfl⟩;rw[er] at hkind hr hrg hru e8m e8 hpt hp12;clear er;have HRK:=Q2 hr;have HRU:=Q2 hru;clear hru;obtain⟨name,kind,bs,size,big,mn,mx,stop,count,elem,names,parts⟩:=r;simp only[ruC] at hkind hr hrg e8n e8m e8 hpt hp12;have HRB:=Q2D;go_enter Tryz.func32,Tryz.ntmps32;haveI:Pan (bodyPost Tryz.prog Tryz.f32 (VlE ⟨some ⟨bf,of,none⟩,As,Ad,nn,nd,cf,cs,cd⟩ g W RES)) (VK RES g W):=Pan.body fun ch w' ⟨x,h1,h2,h3⟩=>J6
 refine Qs (M:=[g]) (W:=W) (N:=181) (E:=Q6e) (O:=Qdz) ?_ mc3 hwd;clear hwd;refine yq<|yr ?_;refine yB fun b2=>?_;refine yA fun b4=>?_;refine QlP ?_;refine yA fun b5=>?_;refine QcG ?_;subst hkind;have HE:=Q2 e8;have HEM:=Q2 e8m;have HEN:=Q2 e8n;have HPT:=Q2 hpt;clear e8 e8m e8n hpt;cases hc:D[p]? with
 |none=>
  have HN:=Q2 (HEN.out hc);have HC:=Q2 hc;clear hc;refine Qr2 ?_;exact ZP (Xp _ _ _ rfl rfl rfl (fun w hw=>Q5v Q4M HC.out hw (fun w' hw'=>⟨p,HN.out.symm,rfl,hw'.k⟩))) rfl Q1 Q0e
 |some c=>
  have hcv:=Kb c;have HC:=Q2 hc;clear hc;have hfi:=Q4u F parts c;have hrp:Rd W B 1 Ap parts.length (iv parts):=HRU.out.p;have HRP:=Q2 hrp;cases hi:VU F parts c with
  |none=>
   have HN:=Q2 (HEM.out c HC.out hi);have HI:=Q2 hi;clear hi;refine Qn7 ?_;refine yA fun b9=>?_;refine Qt1 ?_;refine yo zA<|yl<|yn<|yq<|yq<|yr<|yo zM<|yo zlr<|yl<|yn<|y1<|yr<|yo (zB 3) ?_;refine Q4 mc5 ?_;refine yo zF<|yo (zB 4) ?_;exact ZP (Xp _ _ _ rfl rfl rfl (fun w hw=>Q0c hw (fun w' hw'=>⟨p,HN.out.symm,rfl,hw'.k⟩))) rfl Q1 Q0e
  |some i=>
   have HI:=Q2 hi;clear hi;have hil:i<parts.length:=(List.findIdx?_eq_some_iff_getElem.1 HI.out).1;obtain⟨bp,op,x,rfl,hbp,hx,hcx⟩:=Q4F HRP.out hil;have hge:parts.getD i 0=x:=by rw[List.getD_eq_getElem?_getD,hx];rfl
   have HX:=Q2 (show (rb (QE F D f x p) fun y=>okR (ndL,VF.cons (ndN (i:Int)) VF.nil (VF.cons y.1 y.2.1 VF.nil),y.2.2))=RES by rw[<- HE.out c i HC.out HI.out,hge]);have hxk:=HPT.out x K4;obtain⟨q1,hy1⟩:∃y,QE F D f x p=some y:=by
    obtain⟨r,hr⟩:=HS.out;rw[<- HX.out] at hr;cases h1:QE F D f x p with
    |none=>rw[h1] at hr;cases hr
    |some y=>exact⟨y,rfl⟩
   have HY:=Q2 hy1;clear hy1 hge;have hBg:=H.out.hB;refine Qn7 ?_;refine yA fun b9=>?_;refine Qt1 ?_;refine yo zA<|yl<|yn<|yq<|yq<|yr<|yo zM<|yo zlr<|yl<|yn<|y0<|ys<|yn<|yq ?_;refine Vb (B:=VK RES g W) [.blk b2 Q8A,.blk b5 Qvs] [] Q5 ?_ ?_
   ·infer_instance
   refine XC 0 rfl Q5 Kz zM ?_;refine XC 2 rfl Q5 Kz (zB 0) ?_;refine XC 3 rfl Q5 Kz zF ?_;refine XC 4 rfl Q5 Kz (zB 1) ?_;refine XC 5 rfl Q5 Kz zM ?_;refine XC 6 rfl Q5 Kz (zi1 (hj:=hil)) ?_;refine XC 7 rfl Q5 Kz (Xq rfl rfl Q1 rfl rfl (fun w hw=>hw.cell_old hcx Q4W)) ?_;refine Q2W 1 Q5 rfl Kz Qlp ?_;refine Q0I 8 Q5 rfl rfl (Xp _ _ _ rfl rfl rfl (fun w hw=>(HIH.out w x p hxk (H.out.next hw.k hp Q6M) ⟨q1,HY.out⟩).mono (fun e w' h=>QaS 4 rfl hw (fun v hv=>by rw[<- HX.out,hv];rfl) h))) (fun i=>.inr Kz) rfl Q1 (fun y hy=>?_);refine Q0I 9 Q5 rfl rfl (pE.of (JH (xs:=[(0,.tmp 135),(1,.tmp 142)]) (vs:=[(0,.agg (Qd6 i).toArray),(1,.agg (y.cells).toArray)]) (cells:=Qd6 i++y.cells) rfl rfl rfl (Qpt y i))) (fun i=>.inr QeS) rfl Q1 (fun bn _=>?_);refine Q2W 10 Q5 rfl QeS QhS ?_;refine Qm2 11 Q5 rfl rfl (pE.of (YZ 3 rfl rfl rfl rfl rfl rfl rfl Ql)) (fun i=>.inr QeS) rfl (fun _ _=>?_);rw[QF (by rfl)];refine Q91 ?_ Q5;refine yn<|yt<|yk<|yc ?_;refine Q7 mc4 rfl Qh8 (fun w hw=>⟨hw.k,.inr ⟨ndL,.cons (ndN (i:Int)) .nil (.cons y.r.1 y.r.2.1 .nil),y.r.2.2,_,.rd (some ⟨bn,0,none⟩) 2 5 (Qd6 i++y.cells)::([]++[]++y.L),by rw[<- HX.out,hy.1];rfl,rfl,hw.own 5 _ rfl,XA.list ((Vj.nil.snoc (XA.num (i:Int))).snoc hy.2.1) (Nat.le_refl 2) Q1,?_⟩⟩);have h1:=hw.blk_row (i:=0) (n:=2) (s:=5) rfl rfl Q1;exact(Q2R 0 5 h1 rfl rfl Q1).app (hy.2.2.new fun x hx=>hw.onAll x Q4E)
end
end Go.Proofs.YtphkhfdmlcnoeaaGreatDoor
