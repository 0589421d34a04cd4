import Derived.Test.YtphkhfdmlcnoeaaGreatDoorP27
namespace Go.Proofs.YtphkhfdmlcnoeaaGreatDoor
set_option linter.unusedVariables false
set_option linter.unusedSimpArgs false
set_option maxRecDepth 1000000
set_option maxHeartbeats 32000000
open Go.RowKit
abbrev zrL:List Value:=[.int .i64 0,.int .i64 0,.slice none 0 0,.slice none 0 0,.slice none 0 0]
theorem Q8R(x:Int)(W:World):Calls Tryz.prog 80 #[.int .i64 x] W fun e w'=>e=.returned (.tuple #[.agg zrL.toArray,.int .i64 0,.int .i64 x])/\Below W.heap.size W w':=by
 go_enter Tryz.func80,Tryz.ntmps80;refine Qv (M:=[]) (W:=W) (N:=7) (E:=[(0,.int .i64 x)]) (O:=[]) ?_ Z6 QT;refine yq<|yr ?_;refine yA fun b2=>?_;refine yo zA<|yo zA<|yl<|yn<|yq<|yr ?_;refine Q4 Qdn ?_;refine yo zM ?_;refine yW 0 ?_;refine yo zA<|yo zA<|yl<|yn<|yt ?_;exact QO mc4 rfl Yy (.tmp rfl) (.tmp rfl) QgE
structure Q5c(W:World)(F:List Rl)(D:List UInt8)(Af:Option Addr)(nn:Nat)(Ad:Option Addr)(nd cd:Nat):Prop where
 fm:QW W W.heap.size Af nn F
 dt:Rd W W.heap.size 1 Ad nd (bv D)
 hD:D.length<=1000
 hc:nd<=cd
def FaE(W:World)(res:Rdg (Nd×VF×Nat))(e:Ending)(w':World):Prop:=Below W.heap.size W w'/\((∃x:Nat,res=some (.error x)/\e=.returned (.tuple #[.agg zrL.toArray,.int .i64 0,.int .i64 (x:Int)]))\/∃(d:Nd) (l:VF) (q:Nat) (v:Value) (L:List Qb),res=some (.ok (d,l,q))/\e=.returned (.tuple #[v,.int .i64 (q:Int),.int .i64 (-1)])/\QU L v d l/\New L W.heap.size w')
section
variable {W w w':World}{p nn nd cd cf:Nat}{F:List Rl}{D:List UInt8}{Af Ad:Option Addr}{O:List Qb}{M:List Nat}{e:Ending}{k:Int}
theorem Q5c.next(h:Q5c W F D Af nn Ad nd cd)(hk:Below W.heap.size W w):Q5c w F D Af nn Ad nd cd:=⟨(h.fm.below hk).more hk.size,(h.dt.below hk).more hk.size,h.hD,h.hc⟩
theorem Q5c.len(h:Q5c W F D Af nn Ad nd cd):D.length=nd/\F.length=nn:=⟨by have:=h.dt.len;rw[Xr] at this;exact this,h.fm.1⟩
theorem Qgm{B n c m:Nat}{A:Option Addr}(h:Rd w B 1 A n (bv D))(hk:p+m<=n)(hc:n<=c):Rd w B 1 (JQ A c p 1) (p+m - p) (bv ((D.drop p).take m)):=by
 have:=Q1Y (p:=p) (m:=m) (c:=c) h hk hc;rw[show p+m - p=((D.drop p).take m).length by rw[this.1];omega];exact this.2
theorem QoL{xs:List UInt8}(hw:Wd M W O w)(h:JP w xs e w'):Xf (fun y:Option Addr×Nat=>.slice y.1 xs.length y.2) (fun y=>xs.length<=y.2/\∀b,(Qb.rd y.1 xs.length 1 (bv xs)).foot=some b->W.heap.size<=b) M W (fun y=>O++[.rd y.1 xs.length 1 (bv xs)]) e w':=by
 obtain⟨A,c,he,hown,hb⟩:=h;exact⟨(A,c),he,⟨(Q0T (W:=w) hown).1,fun b hf=>Nat.le_trans hw.k.size ((Q0T (W:=w) hown).2.far _ List.mem_cons_self b hf)⟩,hw.made hb (Q0T (W:=w) hown).2⟩
theorem Q18(hv:Fm F)(f:Nat)(hk:0<=k/\k<F.length)(hp:p<=D.length)(h:Q5c W F D Af nn Ad nd cd)(hkind:(Ql F k).kind=1\/(Ql F k).kind=2\/(Ql F k).kind=3\/(Ql F k).kind=4\/(Ql F k).kind=5\/(Ql F k).kind=10):
  Calls Tryz.prog 43 #[.agg #[.slice Af nn cf],.int .i64 k,.slice Ad nd cd,.int .i64 (p:Int)] W (FaE W (Qq F D (f+1) k p)):=by
 have H:=Q2 h;have hD:=h.hD;have hcd:=h.hc;obtain⟨hl,hFn⟩:=h.len;subst hl;have hr:=hv.toUsd.rok hk;obtain⟨RES,hres⟩:∃x,Qq F D (f+1) k p=x:=⟨_,rfl⟩;have e1:=Qo1;have e23:=QmI;have e4:=Qkj;have e5:=Qo8;have e10:=fun h=>(QdX (F:=F) (D:=D) (f:=f) (p:=p) (k:=k) h).symm.trans hres;have HNO:=Q2 (show (Ql F k).kind=10->JX Qf5 from fun h=>hv.numOk hk (.inr h));rw[hres];obtain⟨bf,of,haf,_⟩:=h.fm.2 YF;subst haf;obtain⟨hbB,Ab,cb,An,cn,Ap,cp,hrg,hru⟩:=h.fm.ruleB (k:=k) Q3;have hkn:0<=k/\k<(nn:Int):=by omega
 clear h hres
 have HRG2:=Q2 (show (Ql F k).kind=10->(0<=(Ql F k).count/\(Ql F k).count<(nn:Int))/\∃Ab2 cb2 An2 cn2 Ap2 cp2,W.rangeAt bf (of+(Ql F k).count.toNat*12) (ruC Qf5 (.slice Ab2 (Ql F (Ql F k).count).bs.length cb2) (.slice An2 (Ql F (Ql F k).count).names.length cn2) (.slice Ap2 (Ql F (Ql F k).count).parts.length cp2)) from fun h10=>by
  have hc:=hr.count (.inr h10);obtain⟨_,Ab2,cb2,An2,cn2,Ap2,cp2,hrg2,_⟩:=H.out.fm.ruleB (k:=(Ql F k).count) Q3
  exact⟨by omega,Ab2,cb2,An2,cn2,Ap2,cp2,hrg2⟩)
 obtain⟨r,er⟩:∃r,Ql F k=r:=⟨_,rfl⟩;rw[er] at hkind hr hrg hru e1 e23 e4 e5 e10 HNO HRG2;clear er;have HRK:=Q2 hr;have hbs16:=hr.bs16;have hs4:=hr.size4;have HRB:=Q2 (show Rd W W.heap.size 1 Ab r.bs.length (bv r.bs) from hru.b);clear hru;obtain⟨name,kind,bs,size,big,mn,mx,stop,count,elem,names,parts⟩:=r;simp only[ruC] at hkind hr hrg e1 e23 e4 e5 e10 hbs16 hs4 HNO HRG2 HRB;go_enter Tryz.func43,Tryz.ntmps43;refine Qv (M:=[]) (W:=W) (N:=447) (E:=Qlu) (O:=[]) ?_ Q9O QT;refine yq<|yr ?_;refine yB fun b4=>?_;refine yA fun b8=>?_;refine QqE ?_;refine yA fun b11=>?_;refine Q8r ?_;rcases hkind with rfl|rfl|rfl|rfl|rfl|rfl
 ·have HE:=Q2 (e1 rfl);clear e1 e23 e4 e5 e10 hs4;refine yn<|yb<|yq<|yr<|yo zet<|yo zA<|yl<|yn<|y1<|yq<|yq<|yr<|yo zA<|yl<|yn<|yb ?_;refine QH (ι:=Nat) (fun i=>i<=bs.length/\p+i<=D.length/\RES=rb (Ks (bs.drop i) (D.drop (p+i)) (p+i)) fun q=>okR (ndL,.nil,q)) (fun i=>bs.length - i) (fun i=>Qk7) (fun _=>[.blk b11 QoD,.blk b8 Q6p]) 0 [0,1] Q1 ⟨Nat.zero_le _,hp,HE.out.symm⟩ Yj rfl ?_
  rintro i ⟨hi,hpi,hri⟩;have HRI:=Q2 hri;clear hri;show sE _ _ _ _ _ Qk7 [.blk b11 QoD,.blk b8 Q6p] _;by_cases hin:i<bs.length
  ·obtain⟨b,hb⟩:∃b,bs[i]? =some b:=⟨_,List.getElem?_eq_getElem hin⟩;have hbd:=Qgo hb
   cases hc:D[p+i]? with
   |none=>
    have hle:D.length<=p+i:=List.getElem?_eq_none_iff.1 hc;have HX:=Q2 (show RES=some Q0E by rw[HRI.out,Q8z (by rw[List.getElem?_drop,Nat.add_zero];exact hc) (by rw[hbd];exact List.cons_ne_nil _ _)];rfl);have hpd:p+i=D.length:=by omega
    have hq:((p:Int)+(i:Int)==(D.length:Int))=true:=beq_iff_eq.2 Q3;clear hc hb hbd;refine Qnc ?_;refine Y7 ?_;refine Qe zP ?_;refine Qe zM ?_;refine Qe zL ?_;refine Qe zea ?_;refine Qe zM ?_;refine mc9 ?_;refine mc9 ?_;refine Qe zS ?_;refine Qe zS ?_;refine Qe zY ?_;refine Z3 ?_;refine yn<|y1<|yq<|yr<|yo zM<|yo zM<|yo zP ?_;refine Qn4 ?_;exact QsW
   |some c=>
    have hlt:p+i<D.length:=(List.getElem?_eq_some_iff.1 hc).1;have hcd':=Zh hc;have hq:((p:Int)+(i:Int)==(D.length:Int))=false:=Qdw;obtain⟨qd,od,rfl,_,hcell⟩:=Js H.out.dt hc;obtain⟨qb,ob,rfl,_,hcellb⟩:=Js HRB.out hb;have hct:=c.toNat_lt;have hbt:=b.toNat_lt;have hj:(p:Int)+(i:Int)=((p+i:Nat):Int):=by omega
    have hw3:IntKind.i64.wrap ((p:Int)+(i:Int))=((p+i:Nat):Int):=by rw[<- hj];exact YP
    have hq':(((p+i:Nat):Int)==(D.length:Int))=false:=Qdw;by_cases hbc:c=b
    ·subst hbc;have hne:((c.toNat:Int) != (c.toNat:Int))=false:=bne_eq_false_iff_eq.2 rfl;have HN:=Q2 (show RES=rb (Ks (bs.drop (i+1)) (D.drop (p+(i+1))) (p+(i+1))) fun q=>okR (ndL,.nil,q) by rw[HRI.out,hbd,hcd',Qgf];rfl);clear hc hb hbd hcd';refine Qr2 ?_;refine Qt9 ?_;refine Qe zN ?_;refine Q9d ?_;refine Qr (i+1) [0,1] Q1 ⟨hin,hlt,HN.out⟩ (by show bs.length - (i+1)<bs.length - i;omega) J9 rfl
    ·have hne:((c.toNat:Int) != (b.toNat:Int))=true:=bne_iff_ne.2 (fun h=>hbc (UInt8.toNat_inj.1 Q3));have HX:=Q2 (show RES=some Q0E by rw[HRI.out,hbd,hcd',QhP hbc];rfl);clear hc hb hbd hcd';refine Qr2 ?_;refine Qt9 ?_;refine Qe zN ?_;refine Z3 ?_;refine yn<|y1<|yq<|yr<|yo zM<|yo zM<|yo zP ?_;refine Qn4 ?_;exact QsW
  ·have hil:i=bs.length:=by omega
   subst hil;have HX:=Q2 (show RES=some (.ok (ndL,.nil,p+bs.length)) by rw[HRI.out,List.drop_length];cases (D.drop (p+bs.length))<;>rfl);refine yq<|yq<|yr<|yo zM<|yo zF<|yo (zB 0)<|yo zL<|yo zlf<|yl<|yn<|y0<|ye<|yn<|yq ?_;refine ZR [.blk b11 QoD] [] Q5 ?_;refine Qn 0 rfl Q5 JO QkM ?_;refine Qn 1 rfl Q5 JO zM ?_;refine Qn 2 rfl Q5 JO zF ?_;refine Qn 3 rfl Q5 JO (zB 0) ?_;refine Qn 4 rfl Q5 JO zL ?_;refine Qn 5 rfl Q5 JO zP ?_;refine QK 6 Q5 rfl rfl KI Q3y rfl (fun _ _=>?_);rw[QE (by rfl)];refine Qn 7 rfl Q5 JO zA ?_;refine Qn 8 rfl Q5 JO zA ?_;refine Xn ?_ Q5;refine yn<|yt<|yk<|yc ?_;exact QO mc4 rfl Zi (.tmp rfl) (.tmp rfl) (fun w hw=>⟨hw.k.below,.inr ⟨ndL,.nil,p+bs.length,_,[],HX.out,rfl,QU.nilList,New.nil _ _⟩⟩)
 ·have HE:=Q2 (e23 (.inl rfl));clear e1 e23 e4 e5 e10 hs4;obtain⟨y,hy⟩:=V6 ⟨name,2,bs,size,big,mn,mx,stop,count,elem,names,parts⟩ D p;have HY:=Q2 hy;clear hy
  cases y with
  |error x=>
   have HX:=QjF;refine Qra ?_;refine Q4 (Qg (v:=.tuple QkA) rfl rfl Q1 rfl rfl QtN) ?_;refine QoF ?_;exact Qnu
  |ok y=>
   obtain⟨n,q⟩:=y;have HX:=Qoa;refine Qra ?_;refine Q4 (Qg (v:=.tuple #[.int .i64 n,.int .i64 (q:Int),.int .i64 (-1)]) rfl rfl Q1 rfl rfl QtN) ?_;refine QtY ?_;exact QtM
 ·have HE:=Q2 (e23 (.inr rfl));clear e1 e23 e4 e5 e10 hs4;obtain⟨y,hy⟩:=V6 ⟨name,3,bs,size,big,mn,mx,stop,count,elem,names,parts⟩ D p;have HY:=Q2 hy;clear hy
  cases y with
  |error x=>
   have HX:=QjF;refine Qrz ?_;refine Q4 (Qg (v:=.tuple QkA) rfl rfl Q1 rfl rfl QsN) ?_;refine QoF ?_;exact Qnu
  |ok y=>
   obtain⟨n,q⟩:=y;have HX:=Qoa;refine Qrz ?_;refine Q4 (Qg (v:=.tuple #[.int .i64 n,.int .i64 (q:Int),.int .i64 (-1)]) rfl rfl Q1 rfl rfl QsN) ?_;refine QtY ?_;exact QtM
 ·have HE:=Q2 (e4 rfl);have hsz:=hs4 rfl;clear e1 e23 e4 e5 e10 hs4;obtain⟨sz,rfl⟩:∃sz:Nat,size=(sz:Int):=Qfd
  by_cases hsh:(D.length:Int) - p<(sz:Int)
  ·have HX:=Q2 (show RES=some (.error D.length) by rw[<- HE.out];unfold ZG;rw[if_pos hsh];rfl);refine yn<|yb<|yq<|yr<|yo zef<|yo zA<|yl<|yn<|y0<|yq<|yq<|yr<|yo zef<|yo zA<|yl<|yn<|y0<|yr<|yo zef<|yo zA<|yl<|yn<|y0<|yq<|yr<|yo zet<|yo zA<|yl<|yn<|y1<|yq<|yq<|yr<|yo zM<|yo zL<|yo zM<|yo zQ<|yo zF<|yo (zB 0)<|yo zlt<|yl<|yn<|y1<|yq<|yr<|yo zM<|yo zL ?_;refine QjB ?_;exact QnN
  ·have HX:=Q2 (show RES=some (.ok (ndB ((D.drop p).take sz),.nil,p+sz)) by rw[<- HE.out];unfold ZG;rw[if_neg hsh];rfl)
   have hm:p+sz<=D.length:=by omega
   refine yn<|yb<|yq<|yr<|yo zef<|yo zA<|yl<|yn<|y0<|yq<|yq<|yr<|yo zef<|yo zA<|yl<|yn<|y0<|yr<|yo zef<|yo zA<|yl<|yn<|y0<|yq<|yr<|yo zet<|yo zA<|yl<|yn<|y1<|yq<|yq<|yr<|yo zM<|yo zL<|yo zM<|yo zQ<|yo zF<|yo (zB 0)<|yo zlf<|yl<|yn<|y0<|ys<|yn<|yq ?_;refine ZR [.blk b11 (.cells ([.string Qc7,.int .i64 4,.slice Ab bs.length cb,.int .i64 (sz:Int),.bool big,.int .i64 mn,.int .i64 mx,.int .i64 stop,.int .i64 count,.int .i64 elem,.slice An names.length cn,.slice Ap parts.length cp]:List Value).toArray 65 (0,0))] [] Q5 ?_;refine Qn 0 rfl Q5 JO zM ?_;refine Qn 1 rfl Q5 JO zM ?_;refine Qn 2 rfl Q5 JO zM ?_;refine Qn 3 rfl Q5 JO zF ?_;refine Qn 4 rfl Q5 JO (zB 0) ?_;refine Qn 5 rfl Q5 JO zP ?_;refine Qn 6 rfl Q5 JO (Q31 (l:=p) (h:=p+sz) rfl rfl Q1 rfl rfl rfl rfl Q3 Q3) ?_;refine Qn 9 rfl Q5 JO zM ?_;refine Qn 10 rfl Q5 JO zF ?_;refine Qn 11 rfl Q5 JO (zB 0) ?_;refine Qn 12 rfl Q5 JO zP ?_;refine QX 7 Q5 rfl rfl Qrc Q3y rfl Q1 (fun y hy=>?_);refine Qn 8 rfl Q5 JO (Xt (xs:=[Qet,(2,.tmp 133)]) (vs:=[(0,.int .i64 2),(2,.slice y.1 ((D.drop p).take sz).length y.2)]) (v:=.agg #[.int .i64 2,.int .i64 0,.slice y.1 ((D.drop p).take sz).length y.2,.slice none 0 0,.slice none 0 0]) rfl rfl Q1 rfl rfl KW) ?_;refine QK 13 Q5 rfl rfl KI Q3y rfl (fun _ _=>?_);rw[QE (by rfl)];refine Qn 14 rfl Q5 JO zA ?_;refine Qn 15 rfl Q5 JO zA ?_;refine Xn ?_ Q5;refine yn<|yt<|yk<|yc ?_;exact QO mc4 rfl Zi (.tmp rfl) (.tmp rfl) (fun w hw=>⟨hw.k.below,.inr ⟨ndB ((D.drop p).take sz),.nil,p+sz,_,_,HX.out,rfl,QU.bytes hy.1,Jb (hw.own 3 _ rfl) hy.2⟩⟩)
 ·have HE:=Q2 (e5 rfl);have hs5:=HRK.out.size5 rfl
  simp only at hs5;clear e1 e23 e4 e5 e10 hs4;refine yn<|yb<|yq<|yr<|yo zef<|yo zA<|yl<|yn<|y0<|yq<|yq<|yr<|yo zef<|yo zA<|yl<|yn<|y0<|yr<|yo zef<|yo zA<|yl<|yn<|y0<|yq<|yr<|yo zef<|yo zA<|yl<|yn<|y0<|yq<|yr<|yo zef<|yo zA<|yl<|yn<|y0<|yq<|yr<|yo zet<|yo zA<|yl<|yn<|y1<|yq<|yq<|yr<|yo zM<|yo zA<|yl<|yn<|yb ?_;refine QH (ι:=Nat) (fun j=>p+j<=D.length/\RES=rb (Ys stop size (D.drop (p+j)) j (p+j)) fun q=>okR (ndB ((D.drop p).take (q - p)),.nil,q+1)) (fun j=>D.length - (p+j)) (fun j=>Qli) (fun _=>[.blk b11 QqK,.blk b8 Q6p]) 0 [0,1] Q1 ⟨hp,HE.out.symm⟩ Yj rfl ?_;rintro j ⟨hj,hrj⟩;have HRJ:=Q2 hrj;clear hrj;show sE _ _ _ _ _ Qli [.blk b11 QqK,.blk b8 Q6p] _;cases hc:D[p+j]? with
  |none=>
   have hle:D.length<=p+j:=List.getElem?_eq_none_iff.1 hc;have hpd:p+j=D.length:=by omega
   have HX:=Q2 (show RES=some (.error D.length) by rw[HRJ.out,Qdu hc,hpd];rfl);clear hc;refine yq<|yq<|yr<|yo zM<|yo zM<|yo zL<|yo zlf<|yl<|yn<|y0<|ye<|yn<|yq<|yr<|yo zM<|yo zL ?_;refine QiW ?_;refine QfG ?_;exact QnN
  |some c=>
   have hlt:p+j<D.length:=(List.getElem?_eq_some_iff.1 hc).1;have HC:=Q2 hc;have hcv:=Za c;have hct:=c.toNat_lt;have HDT:=Q2 (fun(w:World) (hk:Below W.heap.size W w)=>(H.out.next hk).dt);obtain⟨qd,od,rfl,_,hcell⟩:=Js H.out.dt hc;clear hc;by_cases hs:(c.toNat:Int)=stop
   ·have HX:=Q2 (show RES=some (.ok (ndB ((D.drop p).take j),.nil,p+j+1)) by rw[HRJ.out,Q88 HC.out hs];show okR _=_;rw[show p+j - p=j by omega];rfl);have hq:((c.toNat:Int)==stop)=true:=beq_iff_eq.2 hs;refine Qtd ?_;refine yn<|y1<|yq<|yr<|yo zM<|yo zM<|yo zM ?_;refine Q4 (Q31 (l:=p) (h:=p+j) rfl rfl Q1 rfl rfl rfl rfl Q3 Q3) ?_;refine Qc (Xg _ _ _ rfl rfl rfl (fun w hw=>(Q2j (Qgm (HDT.out w hw.k.below) (Nat.le_of_lt hlt) hcd) Q3).mono (fun e w' h=>QoL hw h))) rfl Q1 (fun y hy=>?_);refine Q4 (Xt (xs:=[Qet,(2,.tmp 205)]) (vs:=[(0,.int .i64 2),(2,.slice y.1 ((D.drop p).take j).length y.2)]) (v:=.agg #[.int .i64 2,.int .i64 0,.slice y.1 ((D.drop p).take j).length y.2,.slice none 0 0,.slice none 0 0]) rfl rfl Q1 rfl rfl KW) ?_;refine yo zM<|yo zP ?_;refine yW 1 ?_;refine QmR ?_;exact QO mc4 rfl Zi (.tmp rfl) (.tmp rfl) (fun w hw=>⟨hw.k.below,.inr ⟨ndB ((D.drop p).take j),.nil,p+j+1,_,_,HX.out,rfl,QU.bytes hy.1,Jb (hw.own 2 _ rfl) hy.2⟩⟩)
   ·have hq:((c.toNat:Int)==stop)=false:=beq_eq_false_iff_ne.2 hs
    by_cases hz:(j:Int)=size
    ·have HX:=Q2 (show RES=some (.error (p+j)) by rw[HRJ.out,Q9j HC.out hs hz];rfl)
     have hw4:IntKind.i64.wrap (((p+j:Nat):Int) - (p:Int))=(j:Int):=by rw[show ((p+j:Nat):Int) - (p:Int)=(j:Int) by omega];exact YP
     have hz':((j:Int)==size)=true:=beq_iff_eq.2 hz;refine QrO ?_;refine yo zF<|yo (zB 0)<|yo zea<|yl<|yn<|y1<|yq<|yr<|yo zM ?_;refine Qn4 ?_;exact QO mc4 rfl Zi (.tmp rfl) (.tmp rfl) (fun w hw=>⟨hw.k.below,.inl ⟨p+j,HX.out,rfl⟩⟩)
    ·have HN:=Q2 (show RES=rb (Ys stop size (D.drop (p+(j+1))) (j+1) (p+(j+1))) fun q=>okR (ndB ((D.drop p).take (q - p)),.nil,q+1) by rw[HRJ.out,Q93 HC.out hs hz];rfl)
     have hw4:IntKind.i64.wrap (((p+j:Nat):Int) - (p:Int))=(j:Int):=by rw[show ((p+j:Nat):Int) - (p:Int)=(j:Int) by omega];exact YP
     have hz':((j:Int)==size)=false:=beq_eq_false_iff_ne.2 hz;refine QrO ?_;refine yo zF<|yo (zB 0)<|yo zea<|yl<|yn<|y0<|ys<|yn<|yr<|yo zM<|yo zP<|yo zA<|yl ?_;refine Qr (j+1) [0,1] Q1 ⟨hlt,HN.out⟩ (by show D.length - (p+(j+1))<D.length - (p+j);omega) J9 rfl
 ·have HE:=Q2 (e10 rfl);have hno:=HNO.out rfl;obtain⟨hcn2,Ab2,cb2,An2,cn2,Ap2,cp2,hrg2⟩:=HRG2.out rfl;clear e1 e23 e4 e5 e10 hs4;obtain⟨y,hy⟩:=V6 (Ql F count) D p;have HY:=Q2 hy;have HNO2:=Q2 hno;have HRG:=Q2 hrg2;clear hy hno hrg2;obtain⟨r2,er2⟩:∃r,Ql F count=r:=⟨_,rfl⟩;rw[er2] at HY HNO2 HRG HE;clear er2;obtain⟨name2,kind2,bs2,size2,big2,mn2,mx2,stop2,count2,elem2,names2,parts2⟩:=r2
  cases y with
  |error x=>
   have HX:=QjF;refine QjO ?_;refine Q4 (Qg (v:=.tuple QkA) rfl rfl Q1 rfl rfl (fun w hw=>ZP HNO2.out (H.out.next hw.k.below).dt hD hp HY.out)) ?_;refine QoF ?_;exact Qnu
  |ok y=>
   obtain⟨n,q⟩:=y;have hq:=J5 HNO2.out.numK hp HY.out;have hn:=Q3B HNO2.out hp HY.out;obtain⟨m,rfl⟩:∃m:Nat,n=(m:Int):=Qac;have HR:=Q2 (show RES=rb (ZG D q (m:Int)) fun y=>okR (ndB y.1,.nil,y.2) by rw[<- HE.out,HY.out];rfl);by_cases hsh:(D.length:Int) - q<(m:Int)
   ·have HX:=Q2 (show RES=some (.error D.length) by rw[HR.out];unfold ZG;rw[if_pos hsh];rfl);refine QjO ?_;refine Q4 QrU ?_;refine yo zM<|yo zX<|yo zX<|yo zX<|yo zA<|yo zA<|yo zA<|yl<|yn<|yq<|yq<|yr<|yo zM<|yo zhf<|yl<|yn<|y0<|ys<|yn<|yq<|yq<|yr<|yo zM<|yo zL<|yo zM<|yo zQ<|yo zM<|yo zlt<|yl<|yn<|y1<|yq<|yr<|yo zM<|yo zL ?_;refine QjB ?_;exact QnN
   ·have HX:=Q2 (show RES=some (.ok (ndB ((D.drop q).take m),.nil,q+m)) by rw[HR.out];unfold ZG;rw[if_neg hsh];rfl)
    have hm:q+m<=D.length:=by omega
    refine QjO ?_;refine Q4 QrU ?_;refine yo zM<|yo zX<|yo zX<|yo zX<|yo zA<|yo zA<|yo zA<|yl<|yn<|yq<|yq<|yr<|yo zM<|yo zhf<|yl<|yn<|y0<|ys<|yn<|yq<|yq<|yr<|yo zM<|yo zL<|yo zM<|yo zQ<|yo zM<|yo zlf<|yl<|yn<|y0<|ys<|yn<|yq<|yr<|yo zM<|yo zM<|yo zM<|yo zM<|yo zP ?_;refine Q4 (Q31 (l:=q) (h:=q+m) rfl rfl Q1 rfl rfl rfl rfl Q3 Q3) ?_;refine Qc Qrc rfl Q1 (fun y hy=>?_);refine Q4 (Xt (xs:=[Qet,(2,.tmp 179)]) (vs:=[(0,.int .i64 2),(2,.slice y.1 ((D.drop q).take m).length y.2)]) (v:=.agg #[.int .i64 2,.int .i64 0,.slice y.1 ((D.drop q).take m).length y.2,.slice none 0 0,.slice none 0 0]) rfl rfl Q1 rfl rfl KW) ?_;refine yo zM<|yo zM<|yo zP ?_;refine QfG ?_;exact QO mc4 rfl Zi (.tmp rfl) (.tmp rfl) (fun w hw=>⟨hw.k.below,.inr ⟨ndB ((D.drop q).take m),.nil,q+m,_,_,HX.out,rfl,QU.bytes hy.1,Jb (hw.own 3 _ rfl) hy.2⟩⟩)
end
end Go.Proofs.YtphkhfdmlcnoeaaGreatDoor
