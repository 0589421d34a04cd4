import Derived.Test.YtphkhfdmlcnoeaaGreatDoorP17
namespace Go.Proofs.YtphkhfdmlcnoeaaGreatDoor
set_option linter.unusedVariables false
set_option linter.unusedSimpArgs false
set_option maxRecDepth 1000000
set_option maxHeartbeats 32000000
open Go.RowKit
section
variable {A:Option Addr}{B c g i:Nat}{F:List Rl}{W:World}{n:Int}{r:Rl}{xs:List UInt8}{z:Wz}
theorem Qcn(n:Int):IntKind.u8.wrap n=((UInt8.ofNat (n % 256).toNat).toNat:Int):=by
 have h:IntKind.u8.wrap n=n % 256:=rfl;have h0:=Int.emod_nonneg n (show (256:Int)≠0 by decide);have h1:=Int.emod_lt_of_pos n (show (0:Int)<256 by decide);rw[h,UInt8.toNat_ofNat_of_lt' (by show (n % 256).toNat<256;omega)];omega
theorem Qa2:∀(m:Nat) (n:Int) (k:Nat),0<=n->k<m->(leW m n)[k]? =some (UInt8.ofNat (n / 2 ^ (8*k) % 256).toNat)
 |0,_,_,_,h=>absurd h (Nat.not_lt_zero _)
 |m+1,n,0,h0,_=>by simp [leW]
 |m+1,n,k+1,h0,h=>by
  rw[leW,List.getElem?_cons_succ,Qa2 m (n / 256) k (Int.ediv_nonneg h0 Q1) Q3,Int.ediv_ediv_of_nonneg (by decide:(0:Int)<=256)];rw[show (256:Int)*2 ^ (8*k)=2 ^ (8*(k+1)) by rw[show 8*(k+1)=8+8*k by omega,Int.pow_add];rfl]
theorem Qgb{big:Bool}{m:Nat}(h0:0<=n)(hi:i<m):(Q0f big m n)[i]? =some (UInt8.ofNat (n / 2 ^ (8*(if big then m - 1 - i else i)) % 256).toNat):=by
 unfold Q0f;cases big with
 |false=>exact Qa2 m n i h0 hi
 |true=>
  show (leW m n).reverse[i]? =_;rw[List.getElem?_reverse (by rw[Q3a];exact hi),Q3a];exact Qa2 m n (m - 1 - i) h0 Q3
theorem Q8W{α:Type}{l:List α}{x:α}(h:l[i]? =some x):l.take (i+1)=l.take i++[x]:=by rw[List.take_add_one,h];rfl
theorem Q01(h:Yh r)(hc:Vc r n=true):(YO r n).length<=30:=by
 obtain⟨h1,h2⟩:=QcD.1 hc;unfold YO;split
 ·next h3=>
  have a:=h.dec h3;have b:=h.mn3 h3;have:=Lib.itoa_length_le n Q3 Q3;rw[List.length_append];simp;omega
 ·next h3=>
  have a:=h.num (h.kind.resolve_right h3);rw[Q6K];omega
theorem Qrt{n:Nat}{w:World}{A':Option Addr}{b:List UInt8}{O:List Qb}{c':Nat}(i j:Nat)(h:XV W z B g F A c xs n)(hw:Wd (wM g A xs.length c) W O w)(hO:O[i]? =some (.blk g (z.obj A' (xs++b).length c' n)))(hP:O[j]? =some (Kt A' c' (xs++b)))(hb:b.length<=30):WrE z g W A c xs (.ok (b,n)) n 30 (.returned (.tuple #[])) w:=
 Yd h i j hw hO hP rfl hb Q3
theorem Q6A{n:Nat}(h:XV W z B g F A c xs n){sb sn sp:Value}(hr:Yh r){x:Int}(hx:Vc r x=true)(hl:xs.length<=1099511627776):
  Calls Tryz.prog 84 #[.pointer (some ⟨g,0,none⟩),.agg (ruC r sb sn sp).toArray,.int .i64 x] W (WrE z g W A c xs (.ok (YO r x,n)) n 30):=by
 have H:=Q2 h;have hwd:=h.wd;have hkind:=hr.kind;have hdec:=hr.dec;have hmn3:=hr.mn3;have hnum:=hr.num;have hlen:=Q01 hr hx;obtain⟨hx1,hx2⟩:=QcD.1 hx;obtain⟨uy,hys⟩:∃uy,YO r x=uy:=⟨_,rfl⟩;rw[hys] at hlen ⊢;have HYS:=Q2 hys;clear h hr hx hys;obtain⟨name,kind,bs,size,big,mn,mx,stop,count,elem,names,parts⟩:=r;obtain⟨Af,nn,cf⟩:=z;simp only at hkind hdec hmn3 hnum hx1 hx2;simp only[ruC];go_enter Tryz.func84,Tryz.ntmps84;refine Qs (M:=wM g A xs.length c) (W:=W) (N:=55) (E:=[ZR,Qh4,(2,.int .i64 x)]) (O:=[.blk g Qli,.row A xs.length c 5 1 (bv xs)]) ?_ Z0 hwd;clear hwd;by_cases h3:kind=3
 ·subst h3;have hd:=hdec rfl;have hm0:=hmn3 rfl;obtain⟨sB,hsB⟩:∃b:UInt8,UInt8.ofNat (stop % 256).toNat=b:=⟨_,rfl⟩
  have hcv:IntKind.u8.wrap stop=(sB.toNat:Int):=by rw[Qcn,hsB]
  obtain⟨it,hit⟩:∃it,Lib.itoa x=it:=⟨_,rfl⟩;have HY:=Q2 (show uy=it++[sB] by rw[<- HYS.out];unfold YO Yq;rw[if_pos rfl,hit,hsB]);have hil:it.length<=25:=by rw[<- hit];have:=Lib.itoa_length_le x Q3 Q3;omega
  have HG:=Q2 H.out.row;have hsz:(⟨it.toArray⟩:ByteArray).size=it.length:=by simp [ByteArray.size]
  have hl1:xs.length+(⟨it.toArray⟩:ByteArray).size=(xs++it).length:=by rw[hsz,List.length_append]
  have hb1:bv xs++Lib.strCells ⟨it.toArray⟩=bv (xs++it):=by unfold bv;rw[List.map_append];rfl
  have hl2:(xs++it).length+1=(xs++uy).length:=by rw[HY.out,List.length_append,List.length_append,List.length_append];rfl
  have hb2:bv (xs++it)++[.int .u8 (sB.toNat:Int)]=bv (xs++uy):=by rw[HY.out];unfold bv;simp
  have hbnd:(xs++it).length<=1099511627876:=by rw[List.length_append];omega
  have HIT:=Q2 hit;clear hit hsz;refine yq<|yr ?_;refine yB fun b4=>?_;refine yl<|yn<|yq<|yq<|yr<|yo zF<|yo (zB 0)<|yo zet<|yl<|yn<|y1<|yq ?_;refine Z7 [.blk b4 (.cells ([.string ⟨name.toArray⟩,.int .i64 3,sb,.int .i64 size,.bool big,.int .i64 mn,.int .i64 mx,.int .i64 stop,.int .i64 count,.int .i64 elem,sn,sp]:List Value).toArray 65 (0,0)),.blk g Qli] [15] Q5 ?_;refine Qn 0 rfl Q5 VA zM ?_;refine Qn 1 rfl Q5 VA zM ?_;refine Qn 2 rfl Q5 VA mc5 ?_;refine Qn 3 rfl Q5 VA zF ?_;refine Qn 4 rfl Q5 VA (zB 1) ?_;refine Qn 5 rfl Q5 VA zM ?_;refine Qn 6 rfl Q5 VA (Qj (f:=114) rfl rfl Q1 rfl rfl (fun w hw=>Q2i (H.out.gv w Q4w) Q3 Q3)) ?_;rw[HIT.out];refine Qn 8 rfl Q5 VA zF ?_;refine Qn 9 rfl Q5 VA (zB 0) ?_;refine Qn 10 rfl Q5 VA Qcr ?_;refine Q6f 7 11 Q5 (Js rfl rfl (Q8D 2 Tryz.underlying9 Q5 rfl rfl rfl rfl rfl Q3) (fun _=>.inr VA) rfl Q1 (fun z1 _=>?_)) (Js rfl rfl VG Q1W rfl Q1 (fun bn _=>?_))
  ·rw[hl1,hb1];refine QS 11 Q5 rfl rfl VG Q1W rfl Q1 (fun bn _=>?_);refine QS 12 Q5 rfl rfl Q0m Q1W rfl Q1 (fun z2 _=>?_);rw[hl2,hb2];refine Qn 13 rfl Q5 Q0P mc5 ?_;refine Qn 14 rfl Q5 Q0P zF ?_;refine QI 15 Q5 rfl rfl Q36 J0 rfl (fun _ _=>?_);refine Xu ?_ Q5;refine yn<|yt<|yc ?_;exact Qmd
  ·refine QS 7 Q5 rfl rfl (Q8D 3 Tryz.underlying9 Q5 rfl rfl rfl rfl rfl Q3) Q1W rfl Q1 (fun z1 _=>?_);rw[hl1,hb1];refine QS 12 Q5 rfl rfl Q0m Q1W rfl Q1 (fun z2 _=>?_);rw[hl2,hb2];refine Qn 13 rfl Q5 Q0P mc5 ?_;refine Qn 14 rfl Q5 Q0P zF ?_;refine QI 15 Q5 rfl rfl Q36 J0 rfl (fun _ _=>?_);refine Xu ?_ Q5;refine yn<|yt<|yc ?_;exact Qmd
 ·have h2:kind=2:=hkind.resolve_right h3;subst h2;obtain⟨hs1,hs4,hm0,hmm,hmx⟩:=hnum rfl;obtain⟨sz,rfl⟩:∃sz:Nat,size=(sz:Int):=⟨size.toNat,by omega⟩
  have hx0:0<=x:=by omega
  have HY:=Q2 (show uy=Q0f big sz x by rw[<- HYS.out];unfold YO;rw[if_neg (show ¬(2:Int)=3 by decide)];rfl);have hyl:uy.length=sz:=by rw[HY.out,Q6K]
  have hne3:((2:Int)==3)=false:=rfl;clear hdec hnum hkind hmn3;refine yq<|yr ?_;refine yB fun b4=>?_;refine yl<|yn<|yq<|yq<|yr<|yo zF<|yo (zB 0)<|yo zea<|yl<|yn<|y0<|ys<|yn<|yq<|yr<|yo zF<|yo (zB 0)<|yo zM<|yl<|yn<|yb ?_;refine X8 (ι:=Nat×Option Addr×Nat) (fun y=>y.1<=sz) (fun y=>sz - y.1) (fun y=>[ZR,(2,.int .i64 x),Q8y,(27,.int .i64 (sz:Int)),(28,.int .i64 (y.1:Int))]) (fun y=>[.blk b4 Qtc,.blk g (.cells ([.slice Af nn cf,.slice y.2.1 (xs++uy.take y.1).length y.2.2,.int .i64 (n:Int)]:List Value).toArray 77 (0,0)),.row y.2.1 (xs++uy.take y.1).length y.2.2 5 1 (bv (xs++uy.take y.1))]) (0,A,c) Ze Q0J (fun w hw=>?_) ?_
  ·simp only[List.take_zero,List.append_nil]
   exact hw
  rintro⟨i,Ai,ci⟩ hi;replace hi:i<=sz:=hi;show sE _ _ _ _ _ [ZR,(2,.int .i64 x),Q8y,(27,.int .i64 (sz:Int)),(28,.int .i64 (i:Int))] [.blk b4 Qtc,.blk g (.cells ([.slice Af nn cf,.slice Ai (xs++uy.take i).length ci,.int .i64 (n:Int)]:List Value).toArray 77 (0,0)),.row Ai (xs++uy.take i).length ci 5 1 (bv (xs++uy.take i))] _;by_cases hlt:i<sz
  ·obtain⟨k,hk⟩:∃k,(if big then sz - 1 - i else i)=k:=⟨_,rfl⟩
   have hk4:k<4:=by rw[<- hk];split<;>omega
   obtain⟨cB,hcB⟩:∃b:UInt8,UInt8.ofNat (x / 2 ^ (8*k) % 256).toNat=b:=⟨_,rfl⟩;have hcv:IntKind.u8.wrap (x / 2 ^ (8*(k:Int)).toNat)=(cB.toNat:Int):=by rw[Qcn,<- hcB];rw[show (8*(k:Int)).toNat=8*k by omega]
   have hy:uy[i]? =some cB:=by rw[HY.out,Qgb hx0 hlt,hk,hcB]
   have hl1:(xs++uy.take i).length+1=(xs++uy.take (i+1)).length:=by rw[Q8W hy,List.length_append,List.length_append,List.length_append];rfl
   have hb1:bv (xs++uy.take i)++[.int .u8 (cB.toNat:Int)]=bv (xs++uy.take (i+1)):=by rw[Q8W hy];unfold bv;simp
   have hbnd:(xs++uy.take i).length<=1099511627876:=by rw[List.length_append,List.length_take];omega
   clear hcB hy;cases big with
   |true=>
    have hk':sz - 1 - i=k:=hk;have e1:(sz:Int) - 1 - (i:Int)=(k:Int):=by omega
    refine Qra ?_;refine yo zA<|yl<|yn<|yq<|yq<|yr<|yo zF<|yo (zB 0)<|yl<|yn<|y1<|yr<|yo zF<|yo (zB 0)<|yo zQ<|yo zM<|yo zQ ?_;refine Q4 Q6H ?_;refine yo zA<|yl<|yn ?_;rw[e1];refine Qse ?_;refine QS 9 Q5 rfl rfl VG Qba rfl Q1 (fun bn _=>?_);refine QS 10 Q5 rfl rfl Q0m Qba rfl Q1 (fun z2 _=>?_);refine QjU ?_;refine QI 13 Q5 rfl rfl Q36 J0 rfl (fun _ _=>?_);refine Xu ?_ Q5;refine Q8i ?_;exact QsQ
   |false=>
    have hk':i=k:=hk;subst hk';refine Qra ?_;refine yo zA<|yl<|yn<|yq<|yq<|yr<|yo zF<|yo (zB 0)<|yl<|yn<|y0<|ys<|yn ?_;refine Qse ?_;refine QS 9 Q5 rfl rfl VG Qba rfl Q1 (fun bn _=>?_);refine QS 10 Q5 rfl rfl Q0m Qba rfl Q1 (fun z2 _=>?_);refine QjU ?_;refine QI 13 Q5 rfl rfl Q36 J0 rfl (fun _ _=>?_);refine Xu ?_ Q5;refine Q8i ?_;exact QsQ
  ·have hie:uy.take i=uy:=List.take_of_length_le Q3;refine Qe0 ?_;refine Zc Yu rfl (fun w hw=>?_);rw[hie] at hw;exact Qrt 1 2 H.out hw rfl rfl hlen
end
end Go.Proofs.YtphkhfdmlcnoeaaGreatDoor
