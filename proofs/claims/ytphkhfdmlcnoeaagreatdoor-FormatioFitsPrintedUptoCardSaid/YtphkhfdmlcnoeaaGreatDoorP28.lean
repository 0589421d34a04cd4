import Derived.Test.YtphkhfdmlcnoeaaGreatDoorP27
namespace Go.Proofs.YtphkhfdmlcnoeaaGreatDoor
set_option linter.unusedVariables false
set_option linter.unusedSimpArgs false
set_option maxRecDepth 1000000
set_option maxHeartbeats 32000000
open Go.RowKit
section
variable {m n q:Int}{r:List UInt8}{t t':TypeId}{x y:Operand}
section
variable {P:Program}{ops:Array Oper}{C:World->Prop}{N:Nat}{E:Env}{o:Oper}{d:Nat}
theorem X2{a b:List UInt8}(hr:a++b=r)(ho:o.op=.binOp .add t x y t')(hd:o.dst=some d)(hN:d<N)(hw:Qi ops E o=some true)(hx:ev E x=some (.string ⟨a.toArray⟩))(hy:ev E y=some (.string ⟨b.toArray⟩))(h:a.length+b.length<=9223372036854775807):oE P ops C N E ((d,.string ⟨r.toArray⟩)::E) o:=by
 subst hr;have:=Qe9 (P:=P) (ops:=ops) (C:=C) (N:=N) ho hd hN hw hx hy (by rw[VQ,VQ];exact h);rw[Q2v] at this;exact this
theorem QnJ(hq:m / n=q)(hm:0<=m/\m<=9223372036854775807)(hn:1<=n)(ho:o.op=.binOp .quo t x y t')(hd:o.dst=some d)(hN:d<N)(hw:Qi ops E o=some true)(hx:ev E x=some (.int .i64 m))(hy:ev E y=some (.int .i64 n)):oE P ops C N E ((d,.int .i64 q)::E) o:=hq▸Kr hm hn ho hd hN hw hx hy
theorem Qud(hq:m % n=q)(hm:0<=m/\m<=9223372036854775807)(hn:1<=n)(ho:o.op=.binOp .rem t x y t')(hd:o.dst=some d)(hN:d<N)(hw:Qi ops E o=some true)(hx:ev E x=some (.int .i64 m))(hy:ev E y=some (.int .i64 n)):oE P ops C N E ((d,.int .i64 q)::E) o:=hq▸Qe2 hm hn ho hd hN hw hx hy
theorem QhD{lo hi:Operand}{s:ByteArray}{k k':IntKind}{l h:Int}{l' h':Nat}(hr:s.extract l' h'=⟨r.toArray⟩)(ht:P.underlying t=some .string)(ho:o.op=.slice t x (some lo) (some hi) none)(hd:o.dst=some d)(hN:d<N)(hw:Qi ops E o=some true)(hx:ev E x=some (.string s))(hl:ev E lo=some (.int k l))(hh:ev E hi=some (.int k' h))(el:l=(l':Int))(eh:h=(h':Int))(h1:l'<=h')(h2:h'<=s.size):oE P ops C N E ((d,.string ⟨r.toArray⟩)::E) o:=by
 subst el eh;exact hr▸QmG ht ho hd hN hw hx hl hh h1 h2
end
theorem Qws{k:Nat}(hk:k<10)(w:World):Calls Tryz.prog 77 #[.int .i64 (((k+1:Nat)):Int)] w fun e w'=>e=.returned (.string ⟨(JS ((k+1:Nat):Int)).toArray⟩)/\Below w.heap.size w w':=by
 rcases (show k=0\/k=1\/k=2\/k=3\/k=4\/k=5\/k=6\/k=7\/k=8\/k=9 by omega) with rfl|rfl|rfl|rfl|rfl|rfl|rfl|rfl|rfl|rfl<;>
 ·go_enter Tryz.func77,Tryz.ntmps77
  go_wp2_with fail
  exact Q25
theorem Qe3{k:Int}(hk:1<=k/\k<=10)(w:World):Calls Tryz.prog 77 #[.int .i64 k] w fun e w'=>e=.returned (.string ⟨(JS k).toArray⟩)/\Below w.heap.size w w':=by
 obtain⟨j,rfl⟩:∃j:Nat,k=((j+1:Nat):Int):=⟨(k - 1).toNat,by omega⟩;exact Qws Q3 w
theorem QoR(q:Nat)(h:q<16):(⟨#[48,49,50,51,52,53,54,55,56,57,97,98,99,100,101,102]⟩:ByteArray).extract q (q+1)=⟨([hx q]:List UInt8).toArray⟩:=by
 rcases (show q=0\/q=1\/q=2\/q=3\/q=4\/q=5\/q=6\/q=7\/q=8\/q=9\/q=10\/q=11\/q=12\/q=13\/q=14\/q=15 by omega) with rfl|rfl|rfl|rfl|rfl|rfl|rfl|rfl|rfl|rfl|rfl|rfl|rfl|rfl|rfl|rfl<;>decide
theorem Qj5(c:UInt8)(W:World):Calls Tryz.prog 78 #[.int .i64 (c.toNat:Int)] W fun e w'=>e=.returned (.string ⟨(QbC c).toArray⟩)/\Below W.heap.size W w':=by
 have hc:=c.toNat_lt;have hq:((c.toNat:Int) / 16)=((c.toNat / 16:Nat):Int):=by omega
 have hr:((c.toNat:Int) % 16)=((c.toNat % 16:Nat):Int):=by omega
 have h1:=QoR (c.toNat / 16) Q3;have h2:=QoR (c.toNat % 16) Q3;have hd1:c.toNat / 16<16:=by omega
 have hd2:c.toNat % 16<16:=by omega
 unfold QbC;obtain⟨m,hm⟩:∃m,c.toNat=m:=⟨_,rfl⟩;rw[hm] at hq hr h1 h2 hc hd1 hd2 ⊢;obtain⟨q,hq'⟩:∃q,m / 16=q:=⟨_,rfl⟩;obtain⟨r,hr'⟩:∃q,m % 16=q:=⟨_,rfl⟩;rw[hq'] at hq h1 hd1 ⊢;rw[hr'] at hr h2 hd2 ⊢;have H1:=Q2 h1;have H2:=Q2 h2;clear hm hq' hr' h1 h2;go_enter Tryz.func78,Tryz.ntmps78;refine Qs (M:=[]) (W:=W) (N:=16) (E:=[(0,.int .i64 (m:Int))]) (O:=[]) ?_ Zj QV;refine Qe5 ?_;refine Qd zM ?_;refine Qd Qnn ?_;refine Qd zM ?_;refine Qd Qnn ?_;refine Qd zP ?_;refine Qd (QhD H1.out Tryz.underlying9 rfl rfl Q1 rfl rfl rfl rfl rfl Q3 Q3 (by show _<=16;omega)) ?_;refine Qd zM ?_;refine Qd Qlf ?_;refine Qd zM ?_;refine Qd Qlf ?_;refine Qd zP ?_;refine Qd (QhD H2.out Tryz.underlying9 rfl rfl Q1 rfl rfl rfl rfl rfl Q3 Q3 (by show _<=16;omega)) ?_;refine Qd (X2 (r:=[hx q,hx r]) rfl rfl rfl Q1 rfl rfl rfl (by simp only[List.length_cons,List.length_nil];omega)) ?_;refine Q6I ?_;exact Q1P
def Qux(n:Nat)(y:Nat×List UInt8):Prop:=y.2.length+y.1<=n+1/\((y.2=[]/\y.1=n)\/(y.2≠[]/\(if y.1=0 then y.2 else Lib.decDigits y.1++y.2)=Lib.decDigits n))
def dgc(m:Nat):UInt8:=UInt8.ofNat (48+m % 10)
theorem Q9g{n m:Nat}{s:List UInt8}(h:Qux n (m,s))(hg:s=[]\/0<m):Qux n (m / 10,dgc m::s):=by
 obtain⟨h1,h2⟩:=h;simp only at h1 h2;have hl:(dgc m::s).length+m / 10<=n+1:=by
  rw[List.length_cons];rcases hg with rfl|hg
  ·rw[List.length_nil] at h1 ⊢
   omega
  ·omega
 refine⟨hl,.inr ⟨List.cons_ne_nil _ _,?_⟩⟩;show (if m / 10=0 then dgc m::s else Lib.decDigits (m / 10)++dgc m::s)=_;have hd:(if m / 10=0 then dgc m::s else Lib.decDigits (m / 10)++dgc m::s)=Lib.decDigits m++s:=by
  rw[Lib.decDigits.eq_def m];split
  ·next h=>rw[dif_pos Q3];unfold dgc;rw[Nat.mod_eq_of_lt Q3];rfl
  ·next h=>rw[dif_neg Q3];unfold dgc;simp
 rw[hd];rcases h2 with ⟨rfl,rfl⟩|⟨h3,h4⟩
 ·rw[List.append_nil]
 ·rcases hg with rfl|hg
  ·exact absurd rfl h3
  ·rw[if_neg Q3] at h4;exact h4
theorem Qok(m:Nat)(k:IntKind)(hk:k=.u8):k.wrap (48+(m:Int) % 10)=((dgc m).toNat:Int):=by
 subst hk;have h:(dgc m).toNat=48+m % 10:=by
  unfold dgc;rw[UInt8.toNat_ofNat'];omega
 rw[h];have h2:IntKind.u8.wrap (48+(m:Int) % 10)=48+(m:Int) % 10:=by
  exact IntWalk.u8_in _ Q3
 rw[h2];omega
theorem Q7W{n:Nat}(hn:n<=1000000000000000000)(W:World):Calls Tryz.prog 79 #[.int .i64 (n:Int)] W fun e w'=>e=.returned (.string ⟨(Lib.itoa (n:Int)).toArray⟩)/\Below W.heap.size W w':=by
 rw[Lib.itoa_nonneg n];go_enter Tryz.func79,Tryz.ntmps79;refine Qs (M:=[]) (W:=W) (N:=29) (E:=[(0,.int .i64 (n:Int))]) (O:=[]) ?_ Zj QV;refine yq<|yr<|yo zA<|yl<|yn<|yq<|yq<|yr<|yo zM<|yo zlf<|yl<|yn<|y0<|ys<|yn<|yq<|yr<|yo zA<|yl<|yn<|yq<|yb ?_;refine QN (ι:=Nat×List UInt8) (Qux n) (fun y=>y.1+(if y.2=[] then 1 else 0)) (fun y=>[(0,.int .i64 (y.1:Int)),(3,.string ⟨y.2.toArray⟩)]) (fun _=>[]) (n,[]) [] Q1 ⟨by show 0+n<=n+1;omega,.inl ⟨rfl,rfl⟩⟩ Q6Y rfl ?_;rintro⟨m,s⟩ hP;have hlen:s.length+m<=n+1:=hP.1;show sE _ _ _ _ _ [(0,.int .i64 (m:Int)),(3,.string ⟨s.toArray⟩)] [] _;have HP:=Q2 hP;clear hP;have hq:(m:Int) / 10=((m / 10:Nat):Int):=by omega
 by_cases hs:s=[]
 ·have htest:((⟨s.toArray⟩:ByteArray).data.toList==(⟨#[]⟩:ByteArray).data.toList)=true:=by rw[hs];rfl
  have HS:=Q2 hs;clear hs;refine yq<|yq<|yr<|yo zM<|yo zsa<|yo zM<|yo zS<|yo zS<|yo zY<|yl<|yn<|y1<|ys<|yn<|yb<|yq<|yr<|yo zM ?_;refine Qtj ?_;refine Qc Qso rfl Q1 (fun b22 _=>?_);refine QrV ?_;refine Qt (m / 10,dgc m::s) [] Q1 (Q9g HP.out (.inl HS.out)) ?_ Q6Y rfl;show m / 10+0<m+_;rw[if_pos HS.out];omega
 ·have htest:((⟨s.toArray⟩:ByteArray).data.toList==(⟨#[]⟩:ByteArray).data.toList)=false:=by
   cases s with
   |nil=>exact absurd rfl hs
   |cons=>rfl
  have HS:=Q2 hs;clear hs;by_cases hm:0<m
  ·refine yq<|yq<|yr<|yo zM<|yo zsa<|yo zM<|yo zM<|yo zgt<|yo zN<|yl<|yn<|y1<|ys<|yn<|yb<|yq<|yr<|yo zM ?_;refine Qtj ?_;refine Qc Qso rfl Q1 (fun b22 _=>?_);refine QrV ?_;refine Qt (m / 10,dgc m::s) [] Q1 (Q9g HP.out (.inr hm)) ?_ Q6Y rfl
   show m / 10+0<m+_;omega
  ·refine yq<|yq<|yr<|yo zM<|yo zsa<|yo zM<|yo zM<|yo zgf<|yo zN<|yl<|yn<|y0<|ye<|yn<|yq<|yr<|yo zM<|yo zA<|yl<|yn<|yt ?_;refine Q7 mc4 rfl (.tmp rfl) (fun w hw=>⟨?_,hw.k.below⟩);obtain⟨h1,h2|⟨h2,h3⟩⟩:=HP.out
   ·exact absurd h2.1 HS.out
   ·rw[if_pos (show m=0 by omega)] at h3;have h4:s=Lib.decDigits n:=h3;rw[<- h4]
theorem JF(hn:0<=n/\n<=1000000000000000000)(W:World):Calls Tryz.prog 79 #[.int .i64 n] W fun e w'=>e=.returned (.string ⟨(Lib.itoa n).toArray⟩)/\Below W.heap.size W w':=by
 obtain⟨m,rfl⟩:∃m:Nat,n=(m:Int):=Qfl;exact Q7W Q3 W
end
section
variable {A:Option Addr}{n c k:Nat}{W w:World}{O:List Qb}{F:List Rl}
theorem Q7i(hf:QX W W.heap.size A n F)(hF:FOk F)(hn:n<=40)(hk:k<n)(hw:Wd [] W O w):
  Calls Tryz.prog 37 #[.agg #[.slice A n c],.int .i64 (k:Int)] w (Xo (fun b:Nat=>.slice (some ⟨b,0,none⟩) n n) (fun _=>True) [] W (fun b=>.row (some ⟨b,0,none⟩) n n 4 1 (XM (Zi F k))::O)):=by
 have hlen:F.length=n:=hf.1;obtain⟨b,o,rfl⟩:=hf.addr Q3;have HFM:=Q2 hf;have HF:=Q2 hF;have HLEN:=Q2 hlen;clear hf hF hlen;go_enter Tryz.func37,Tryz.ntmps37;refine Qs (M:=[]) (W:=W) (N:=57) (E:=[Q5R,Q2U]) (O:=O) ?_ mc3 hw;refine yq<|yr ?_;refine yB fun b2=>?_;refine yo zA<|yl<|yn<|yq<|yr<|yo zF<|yo (zB 0)<|yo zL ?_;refine Qc QmK rfl Q1 (fun bs _=>?_);refine Q8T ?_;refine X8 (ι:=Nat) (fun t=>t<=n+1) (fun t=>n+1 - t) (fun t=>[Q2U,Q2k,Q8m,QaC]) (fun t=>.row VL n n 4 1 (XM (Y8 F k t))::.blk b2 Q7w::O) 0 Ze mc1 (fun w hw=>by rw[QgG] at hw;rw[show Y8 F k 0=List.replicate n false from by unfold Y8;rw[HLEN.out];rfl];exact hw) ?_;intro t ht;show sE _ _ _ _ _ [Q2U,Q2k,Q8m,QaC] (.row VL n n 4 1 (XM (Y8 F k t))::.blk b2 Q7w::O) _;by_cases htn:t<=n
 ·refine yq<|yq<|yr<|yo zM<|yo zF<|yo (zB 1)<|yo zL<|yo zqt<|yl<|yn<|y1<|ys<|yn<|yq<|yb<|yq<|yr<|yo zA<|yl<|yn<|yb ?_;refine X8 (ι:=Nat) (fun i=>i<=n) (fun i=>n - i) (fun i=>[Q2U,Q2k,Q8m,QaC,(7,.int .i64 (i:Int))]) (fun i=>.row VL n n 4 1 (XM (YA F k t i))::.blk b2 Q7w::O) 0 Ze Q0J Zk ?_;intro i hi
  show sE _ _ _ _ _ [Q2U,Q2k,Q8m,QaC,(7,.int .i64 (i:Int))] (.row VL n n 4 1 (XM (YA F k t i))::.blk b2 Q7w::O) _;by_cases hin:i<n
  ·obtain⟨rk,Ab,cb,An,cn,Ap,cp,hrk,hrg,hlk⟩:=HFM.out.rl hin;have HOK:=Q2 (HF.out i rk hrk);have HBG:=Q2 (Q3k hrk);have HLK:=Q2 hlk
   have hil:(YA F k t i).length=n:=by rw[Qeh];exact HLEN.out
   have hstep:=QdF F k t i;unfold Zy at hstep;rw[HBG.out] at hstep;have hbl:=Q68 HOK.out;have HIN:=Q2 (Q5O HOK.out);generalize YA F k t i=out at hil hstep ⊢;have hcell:(XM out)[0+i]? =some (.bool (out.getD i false)):=by rw[Nat.zero_add];exact Y0 Q3
   clear hrk hlk;by_cases hgo:i=k\/out.getD i false=true
   ·rw[if_pos hgo] at hstep;have HST:=Q2 hstep;clear hstep
    have hgo':i=k\/(i≠k/\out.getD i false=true):=by
     by_cases h:i=k
     ·exact .inl h
     ·exact .inr ⟨h,hgo.resolve_left h⟩
    clear hgo;rcases hgo' with he|⟨he,hb⟩<;>
    ·(try rw[hb] at hcell)
     refine Q65 ?_
     refine yo zM<|yo zF<|yo (zB 1)<|yo zL<|yo zlt<|yl ?_;refine QgY ?_
     refine yo zM<|yo zM ?_;refine Q4 (Q0A rfl rfl Q1 rfl rfl rfl (by first|exact bne_iff_ne.2 Q3|exact bne_eq_false_iff_eq.2 Q3)) ?_;refine yo zM ?_;first|refine Q4 zM ?_|refine Q4 zS ?_
     first|refine Q4 zM ?_|refine Q4 zS ?_
     first|refine Q4 Qae ?_|refine Q4 zS ?_
     first|refine Q4 (zK 0 hcell) ?_|refine Q4 zS ?_
     first|refine Q4 zO ?_|refine Q4 zS ?_
     first|refine Q4 zY ?_|refine Q4 zN ?_
     refine yl ?_;refine QuY ?_
     refine yo zF<|yo (zB 1)<|yo zM<|yo (zi (hj:=hin)) ?_;refine Q4 (Xs rfl rfl Q1 rfl rfl (fun w hw=>hw.range_old hrg Ql) (by rfl)) ?_;refine Qc (XB _ _ _ (f:=74) rfl rfl rfl (fun w hw=>Q82 (n:=F.length) HLK.out HOK.out hw)) rfl Q1 (fun y hy=>?_);refine yo zA<|yl ?_;refine Qpp ?_
     refine yo zA<|yl ?_;repeat(first|((with_reducible show sE _ _ _ _ _ _ _ _);refine Qh ?_)|((with_reducible show xE _ _ _ _ _ _ _);refine Qk ?_))
     refine X8 (ι:=Nat) (fun j=>j<=(bl rk).length) (fun j=>(bl rk).length - j) (fun j=>[(1,.int .i64 (k:Int)),(2,.pointer (some ⟨b2,0,none⟩)),(5,.slice (some ⟨bs,0,none⟩) n n),(6,.int .i64 (t:Int)),(7,.int .i64 (i:Int)),(8,.slice y.1 (bl rk).length y.2),(9,.int .i64 (j:Int))]) (fun j=>.rd y.1 (bl rk).length 1 (iv (bl rk))::.row (some ⟨bs,0,none⟩) n n 4 1 (XM (Q5i out (((bl rk).map Int.toNat).take j)))::.blk b2 (.cells ([.slice (some ⟨b,o,none⟩) n c]:List Value).toArray 24 (0,0))::O) 0 (Nat.zero_le _) (.cons rfl rfl (.cons rfl rfl (.cons rfl rfl (.cons rfl rfl (.cons rfl rfl (.cons rfl rfl (.cons rfl rfl .nil))))))) (fun w hw=>hw) ?_;intro j hj;show sE _ _ _ _ _ [(1,.int .i64 (k:Int)),(2,.pointer (some ⟨b2,0,none⟩)),(5,.slice (some ⟨bs,0,none⟩) n n),(6,.int .i64 (t:Int)),(7,.int .i64 (i:Int)),(8,.slice y.1 (bl rk).length y.2),(9,.int .i64 (j:Int))] (.rd y.1 (bl rk).length 1 (iv (bl rk))::.row (some ⟨bs,0,none⟩) n n 4 1 (XM (Q5i out (((bl rk).map Int.toNat).take j)))::.blk b2 (.cells ([.slice (some ⟨b,o,none⟩) n c]:List Value).toArray 24 (0,0))::O) _;by_cases hjl:j<(bl rk).length
     ·obtain⟨x,hx⟩:∃x,(bl rk)[j]? =some x:=⟨_,List.getElem?_eq_getElem hjl⟩
      have hx0:0<=x/\x<(n:Int):=by
       have:=HIN.out x K4;rw[HLEN.out] at this;exact this
      have hxc:(iv (bl rk))[j]? =some (.int .i64 x):=by unfold iv;rw[List.getElem?_map,hx];rfl
      have HMS:=Q2 (Qiv (a:=out) (l:=(bl rk).map Int.toNat) (j:=j) (x:=x.toNat) (by rw[List.getElem?_map,hx];rfl));have hml:(Q5i out (((bl rk).map Int.toNat).take j)).length=n:=by rw[QlC];exact hil
      generalize Q5i out (((bl rk).map Int.toNat).take j)=mk at HMS hml ⊢;have hst:(0:Nat)+x.toNat<n*1:=by omega
      refine Q8r 0 rfl Q3 (fun b2 o2 e=>?_);obtain⟨yA,yc⟩:=y;simp only at e hy ⊢;subst e;refine Q65 ?_
      refine yo zM<|yo zM<|yo zL<|yo zlt<|yl ?_;refine QgY ?_
      refine yo zM<|yo zM<|yo zM<|yo (zi1 (hj:=hjl)) ?_;refine Q4 (Xq rfl rfl Q1 rfl rfl (fun w hw=>hw.cell_rd 0 rfl hxc)) ?_;refine Q4 (J7 rfl rfl Q1 rfl rfl rfl hx0) ?_;refine QA (ZT 1 rfl rfl rfl rfl rfl rfl hst) rfl (fun _ _=>?_);refine yl ?_;repeat(first|((with_reducible show sE _ _ _ _ _ _ _ _);refine Q6 ?_)|((with_reducible show xE _ _ _ _ _ _ _);refine Qk ?_))
      refine yo zM<|yo zP<|yo zA<|yl ?_;refine Qr (j+1) hjl Q3 Q3B (fun w hw=>?_);rw[HMS.out,<- Q0V];rw[show (0:Nat)+x.toNat=x.toNat from Nat.zero_add _] at hw;exact hw
     ·skip
      refine Q65 ?_
      refine yo zM<|yo zM<|yo zL<|yo zlf<|yl ?_;repeat(first|((with_reducible show sE _ _ _ _ _ _ _ _);first|refine Q6 ?_|refine Q8 rfl ?_|refine XS ?_)|((with_reducible show xE _ _ _ _ _ _ _);refine Qk ?_))
      refine yo zM<|yo zP<|yo zA<|yl ?_;refine Qr (i+1) hin Q3 Yc (fun w hw=>?_);rw[HST.out,<- List.take_of_length_le (show ((bl rk).map Int.toNat).length<=j by rw[List.length_map];omega)];exact hw.tl
   ·rw[if_neg hgo] at hstep;have HST:=Q2 hstep
    have he:i≠k:=fun h=>hgo (.inl h);have hb:out.getD i false=false:=by
     cases h:out.getD i false with
     |false=>rfl
     |true=>exact absurd (.inr h) hgo
    rw[hb] at hcell;clear hstep hgo;refine yq<|yq<|yr<|yo zM<|yo zF<|yo (zB 1)<|yo zL<|yo zlt<|yl<|yn<|y1<|ys<|yn<|yq<|yb<|yq<|yq<|yr<|yo zM<|yo zM<|yo znt<|yo zM<|yo zM<|yo zM<|yo Qae<|yo (zK 0 hcell)<|yo zO<|yo zY<|yl<|yn<|y1<|ye<|yn<|yr<|yo zM<|yo zP<|yo zA<|yl ?_;refine Qr (i+1) hin Q3 Yc (fun w hw=>?_);rw[HST.out];exact hw
  ·obtain rfl:i=n:=by omega
   refine yq<|yq<|yr<|yo zM<|yo zF<|yo (zB 1)<|yo zL<|yo zlf<|yl<|yn<|y0<|ye<|yn<|yr<|yo zM<|yo zP<|yo zA<|yl ?_;refine Qr (t+1) Q3 Q3 mc2 (fun w hw=>?_);rw[show Y8 F k (t+1)=YA F k t i by show ZK F k (Y8 F k t)=_;unfold ZK YA;rw[HLEN.out]];exact hw
 ·obtain rfl:t=n+1:=by omega
  refine yq<|yq<|yr<|yo zM<|yo zF<|yo (zB 1)<|yo zL<|yo zqf<|yl<|yn<|y0<|ye<|yn<|yq<|yr<|yo zM<|yo zA<|yl<|yn<|yt ?_;refine Q7 mc4 rfl (.tmp rfl) (fun w hw=>⟨bs,rfl,trivial,?_⟩);rw[show Zi F k=Y8 F k (n+1) by unfold Zi Y8;rw[HLEN.out]];exact hw.no2
end
section
variable {b:Nat}
def K2(F:List Rl)(k:Nat):List Bool:=(Zi F k).set k true
def Q3s(F:List Rl)(L:List Bool)(b i:Nat):Bool:=(List.range i).any fun j=>L.getD j false&&(match F[j]? with|some r=>YQ r (b:Int)|none=>false)
theorem QfP{F:List Rl}{L:List Bool}{i:Nat}{r:Rl}(h:F[i]? =some r):Q3s F L b (i+1)=(Q3s F L b i||(L.getD i false&&YQ r (b:Int))):=by
 unfold Q3s;rw[List.range_succ,List.any_append];simp [h]
theorem QiE{F:List Rl}(hF:FOk F){k:Nat}(hk:k<F.length)(hb:b<256):Q3s F (K2 F k) b F.length=(Vz F).getD k XH b:=Qjc hF hk hb
def KW(F:List Rl)(k b i:Nat):Nat->Bool:=fun c=>if c<b then (Vz F).getD k XH c else if c=b then Q3s F (K2 F k) b i else false
theorem Qpk(F:List Rl)(k b i:Nat):KW F k b i b=Q3s F (K2 F k) b i:=by unfold KW;rw[if_neg (Nat.lt_irrefl b),if_pos rfl]
theorem QnC(F:List Rl)(k b i:Nat):(QM (KW F k b i)).set b (.bool (Q3s F (K2 F k) b (i+1)))=QM (KW F k b (i+1)):=by
 rw[Q0k];congr 1;funext c;unfold KW;by_cases h:c=b
 ·subst h;simp
 ·simp [h]
theorem Qip{F:List Rl}(hF:FOk F){k:Nat}(hk:k<F.length):QM (KW F k b F.length)=QM (KW F k (b+1) 0):=ZO fun c hc=>by
 unfold KW;by_cases h1:c<b
 ·rw[if_pos h1,if_pos Q3]
 ·rw[if_neg h1]
  by_cases h2:c=b
  ·subst h2;rw[if_pos rfl,if_pos Q3,QiE hF hk hc]
  ·rw[if_neg h2,if_neg Q3]
   by_cases h3:c=b+1
   ·rw[if_pos h3];rfl
   ·rw[if_neg h3]
theorem QiT(F:List Rl)(k:Nat):QM (KW F k 0 0)=XM (List.replicate 256 false):=by
 have h:QM (KW F k 0 0)=QM fun _=>false:=ZO fun c hc=>by
  unfold KW;rw[if_neg (Nat.not_lt_zero c)];split<;>rfl
 rw[h];unfold QM XM;rw[List.map_replicate];apply List.ext_getElem?;intro i;rw[List.getElem?_map];by_cases hi:i<256
 ·rw[List.getElem?_range hi,List.getElem?_replicate,if_pos hi];rfl
 ·rw[List.getElem?_eq_none (by rw[List.length_range];omega),List.getElem?_replicate,if_neg hi];rfl
theorem Qjv(F:List Rl)(k i:Nat):QM (KW F k 256 i)=QM ((Vz F).getD k XH):=ZO fun c hc=>by
 unfold KW;rw[if_pos hc]
section
variable {A:Option Addr}{n c k:Nat}{W w:World}{O:List Qb}{F:List Rl}
theorem Qf3(hf:QX W W.heap.size A n F)(hF:FOk F)(hn:n<=40)(hk:k<n)(hw:Wd [] W O w):
  Calls Tryz.prog 39 #[.agg #[.slice A n c],.int .i64 (k:Int)] w (Xo (fun b:Nat=>.slice (some ⟨b,0,none⟩) 256 256) (fun _=>True) [] W (fun b=>.row (some ⟨b,0,none⟩) 256 256 4 1 (QM ((Vz F).getD k XH))::O)):=by
 have hlen:F.length=n:=hf.1;obtain⟨b,o,rfl⟩:=hf.addr Q3;have HFM:=Q2 hf;have HF:=Q2 hF;have HLEN:=Q2 hlen;have hrl:(Zi F k).length=n:=by rw[Kw];exact hlen
 clear hf hF hlen;go_enter Tryz.func39,Tryz.ntmps39;refine Qs (M:=[]) (W:=W) (N:=49) (E:=[Q5R,Q2U]) (O:=O) ?_ mc3 hw;have hk0:(0:Nat)+k<n*1:=by omega
 refine yq<|yr ?_;refine yB fun b2=>?_;refine yo zA<|yl<|yn<|yq<|yr<|yo (zD 0)<|yo zM ?_;refine Qc (XB _ _ _ (f:=37) rfl rfl rfl (fun w hw=>Q7i HFM.out HF.out hn hk hw)) rfl Q1 (fun br _=>?_);refine yo zA<|yl<|yn<|yq<|yr<|yo zM<|yo zM<|yo (zi1 (hj:=hk)) ?_;refine QA (ZT 0 rfl rfl rfl rfl rfl rfl hk0) rfl (fun _ _=>?_);refine yl<|yn<|yq<|yr ?_;refine Qc (Qnm (n:=256) rfl rfl rfl rfl Q1) rfl Q1 (fun bs _=>?_);refine Q8T ?_
 refine X8 (ι:=Nat) (fun q=>q<=256) (fun q=>256 - q) (fun q=>QkU) (fun q=>.row VL 256 256 4 1 (QM (KW F k q 0))::.row Q5F n n 4 1 Q9K::.blk b2 Q7w::O) 0 Ze mc1 (fun w hw=>by
  rw[QiT,<- QgG]
  unfold K2
  rw[<- Q0V];rw[Nat.zero_add] at hw
  exact hw) ?_
 intro q hq;show sE _ _ _ _ _ QkU (.row VL 256 256 4 1 (QM (KW F k q 0))::.row Q5F n n 4 1 Q9K::.blk b2 Q7w::O) _;by_cases hq2:q<256
 ·refine yq<|yq<|yr<|yo zM<|yo zlt<|yl<|yn<|y1<|ys<|yn<|yq<|yb<|yq<|yr<|yo zA<|yl<|yn<|yb ?_;refine X8 (ι:=Nat) (fun i=>i<=n) (fun i=>n - i) (fun i=>Qry) (fun i=>.row VL 256 256 4 1 (QM (KW F k q i))::.row Q5F n n 4 1 Q9K::.blk b2 Q7w::O) 0 Ze Q0J Zk ?_;intro i hi
  show sE _ _ _ _ _ Qry (.row VL 256 256 4 1 (QM (KW F k q i))::.row Q5F n n 4 1 Q9K::.blk b2 Q7w::O) _;by_cases hin:i<n
  ·obtain⟨rk,Ab,cb,An,cn,Ap,cp,hrk,hrg,hlk⟩:=HFM.out.rl hin;have HOK:=Q2 (by have:=HF.out i rk hrk;rw[HLEN.out] at this;exact this:ROk n rk);have HLK:=Q2 hlk;have hstep:=QfP (L:=K2 F k) (b:=q) hrk;have HSET:=Q2 (QnC F k q i)
   have hc1:(QM (KW F k q i))[0+q]? =some (.bool (Q3s F (K2 F k) q i)):=by rw[Nat.zero_add,ZD _ hq2,Qpk]
   have hc2:(XM (K2 F k))[0+i]? =some (.bool ((K2 F k).getD i false)):=by rw[Nat.zero_add];exact Y0 (by unfold K2;rw[List.length_set];omega)
   have hst:(0:Nat)+q<256*1:=by omega
   generalize Q3s F (K2 F k) q i=v at hc1 hstep;generalize (K2 F k).getD i false=u at hc2 hstep;clear hrk hlk;cases v with
   |true=>
    rw[Bool.true_or] at hstep;have HST:=Q2 hstep;clear hstep;refine yq<|yq<|yr<|yo zM<|yo zM<|yo zL<|yo zlt<|yl<|yn<|y1<|ys<|yn<|yq<|yb<|yr<|yo zM<|yo zM<|yo zM<|yo zM<|yo Q4c<|yo (zK 0 hc1)<|yo zM<|yo zS<|yo zS<|yo zS<|yo zS<|yo zS<|yo zS<|yo zS<|yo zS<|yo zS<|yo zS<|yo zS<|yo zS<|yo zS<|yo zY<|yo Q4c ?_;refine QA Qp2 rfl (fun _ _=>?_);refine yl<|yn<|yr<|yo zM<|yo zP<|yo zA<|yl ?_;refine Qr (i+1) hin Q3 Yc (fun w hw=>?_);exact QoZ
   |false=>
    rw[Bool.false_or] at hstep;have HST:=Q2 hstep;clear hstep;cases u with
    |true=>
     refine yq<|yq<|yr<|yo zM<|yo zM<|yo zL<|yo zlt<|yl<|yn<|y1<|ys<|yn<|yq<|yb<|yr<|yo zM<|yo zM<|yo zM<|yo zM<|yo Q4c<|yo (zK 0 hc1)<|yo zM<|yo zM<|yo zM<|yo Qae<|yo (zK 1 hc2)<|yo zM<|yo zF<|yo (zB 2)<|yo zM<|yo (zi (hj:=hin)) ?_;refine Q4 (Xs rfl rfl Q1 rfl rfl (fun w hw=>hw.range_old hrg Ql) (by rfl)) ?_;refine yo zM ?_;refine Q4 (Qj (f:=76) rfl rfl Q1 rfl rfl (fun w hw=>Q88 Q9z HOK.out hq2)) ?_;refine yo zY<|yo zN<|yo Q4c ?_;refine QA Qp2 rfl (fun _ _=>?_);refine yl<|yn<|yr<|yo zM<|yo zP<|yo zA<|yl ?_;refine Qr (i+1) hin Q3 Yc (fun w hw=>?_);exact QoZ
    |false=>
     refine yq<|yq<|yr<|yo zM<|yo zM<|yo zL<|yo zlt<|yl<|yn<|y1<|ys<|yn<|yq<|yb<|yr<|yo zM<|yo zM<|yo zM<|yo zM<|yo Q4c<|yo (zK 0 hc1)<|yo zM<|yo zM<|yo zM<|yo Qae<|yo (zK 1 hc2)<|yo zM<|yo zS<|yo zS<|yo zS<|yo zS<|yo zS<|yo zS<|yo zS<|yo zN<|yo zN<|yo Q4c ?_;refine QA Qp2 rfl (fun _ _=>?_);refine yl<|yn<|yr<|yo zM<|yo zP<|yo zA<|yl ?_;refine Qr (i+1) hin Q3 Yc (fun w hw=>?_);exact QoZ
  ·obtain rfl:i=n:=by omega
   refine yq<|yq<|yr<|yo zM<|yo zM<|yo zL<|yo zlf<|yl<|yn<|y0<|ye<|yn<|yr<|yo zM<|yo zP<|yo zA<|yl ?_;refine Qr (q+1) Q3 Q3 mc2 (fun w hw=>?_);rw[<- Qip HF.out (by rw[HLEN.out];exact hk),HLEN.out];exact hw
 ·obtain rfl:q=256:=by omega
  refine yq<|yq<|yr<|yo zM<|yo zlf<|yl<|yn<|y0<|ye<|yn<|yq<|yr<|yo zM<|yo zA<|yl<|yn<|yt ?_;refine Q7 mc4 rfl (.tmp rfl) (fun w hw=>⟨bs,rfl,trivial,?_⟩);rw[Qjv] at hw;exact hw.no2.no2
end
end
section
variable {r:Rl}
structure Qqk(w:World)(A:Option Addr)(n:Nat)(vs:List Value)(S:List (Nat->Bool)):Prop where
 len:S.length=n
 r:Rd w w.heap.size 1 A n vs
 at_:∀j,j<n->∃b,vs[j]? =some (.slice (some ⟨b,0,none⟩) 256 256)/\∀q,q<256->w.cell? ⟨b,0+q,none⟩=some (.bool ((S.getD j XH) q))
section
variable {A Ab An Ap:Option Addr}{n c cb cn cp:Nat}{W:World}{vs:List Value}{S:List (Nat->Bool)}
theorem Qpr(hr:ROk n r)(hS:Qqk W A n vs S)(hk:r.kind=9):
  Calls Tryz.prog 40 #[.agg (ruC r (.slice Ab r.bs.length cb) (.slice An r.names.length cn) (.slice Ap r.parts.length cp)).toArray,.slice A n c] W (QO W (Zf S r)):=by
 have hci:=Q9d (S:=S) hr;have he:=hr.elem (.inr hk);have hs:=hr.stop (.inr (.inr hk));obtain⟨name,kind,bs,size,big,mn,mx,stop,count,elem,names,parts⟩:=r;simp only[ruC] at hk he hs hci ⊢;subst hk;obtain⟨ba,oa,rfl,_,hcell⟩:=hS.r.2 Q3;obtain⟨be,hve,hbe⟩:=hS.at_ elem.toNat Q3;have hc1:=hcell elem.toNat _ hve;have HBE:=Q2 hbe;have HCI:=Q2 hci;clear hcell hbe hve hci hr hS;go_enter Tryz.func40,Tryz.ntmps40;refine Qs (M:=[]) (W:=W) (N:=56) (E:=[(0,.agg ([.string ⟨name.toArray⟩,.int .i64 9,.slice Ab bs.length cb,.int .i64 size,.bool big,.int .i64 mn,.int .i64 mx,.int .i64 stop,.int .i64 count,.int .i64 elem,.slice An names.length cn,.slice Ap parts.length cp]:List Value).toArray),(1,.slice (some ⟨ba,oa,none⟩) n c)]) (O:=[]) ?_ mc3 (Wd.start [] W);refine yq<|yr ?_;refine yB fun b2=>?_;refine Q8T ?_;refine QN (ι:=Nat) (fun b=>b<=256/\∀q,q<b->Q9T S ⟨name,9,bs,size,big,mn,mx,stop,count,elem,names,parts⟩ q=false) (fun b=>256 - b) (fun b=>[(1,.slice (some ⟨ba,oa,none⟩) n c),(2,.pointer (some ⟨b2,0,none⟩)),(5,.int .i64 (b:Int))]) (fun b=>[.blk b2 (.cells ([.string ⟨name.toArray⟩,.int .i64 9,.slice Ab bs.length cb,.int .i64 size,.bool big,.int .i64 mn,.int .i64 mx,.int .i64 stop,.int .i64 count,.int .i64 elem,.slice An names.length cn,.slice Ap parts.length cp]:List Value).toArray 65 (0,0))]) 0 [0] Q1 Qo8 J9 rfl ?_;rintro b ⟨hb,hall⟩;have HALL:=Q2 hall;clear hall;by_cases hlt:b<256
 ·by_cases hbs:(b:Int)=stop
  ·have hc2:=HBE.out b hlt;obtain⟨v,hv⟩:∃v,(S.getD elem.toNat XH) b=v:=⟨_,rfl⟩;rw[hv] at hc2;have HV:=Q2 hv;clear hv
   cases v with
   |true=>
    refine Qrn ?_;refine yo (zG hc1)<|yo zM<|yo (zi1 (hj:=hlt))<|yo (zG hc2)<|yo zY<|yl<|yn<|y1<|yq<|yr<|yo zA<|yl<|yn<|yt<|yc<|yk<|yc<|yc<|yk<|yc ?_;refine Q7 mc4 rfl (.tmp rfl) (fun w hw=>QK (HCI.out.2 ⟨b,hlt,?_⟩).symm hw);show (_&&((b:Int)==stop&&(S.getD elem.toNat XH) b)||_)=true;rw[HV.out,beq_iff_eq.2 hbs];rfl
   |false=>
    refine Qrn ?_;refine yo (zG hc1)<|yo zM<|yo (zi1 (hj:=hlt))<|yo (zG hc2)<|yo zY<|yl<|yn<|y0<|ys<|yn<|yq<|yq<|yr<|yo zF<|yo (zB 0)<|yo znt<|yl<|yn<|y1<|ye<|yn<|yr<|yo zM<|yo zP<|yo zA<|yl ?_;refine Qt (b+1) [0] Q1 ⟨hlt,fun q hq=>?_⟩ Q3 Q59 rfl;rcases (show q<b\/q=b by omega) with h|rfl
    ·exact HALL.out q h
    ·show (_&&((q:Int)==stop&&(S.getD elem.toNat XH) q)||_)=false
     rw[HV.out,Bool.and_false,Bool.and_false];rfl
  ·refine yq<|yq<|yr<|yo zM<|yo zlt<|yl<|yn<|y1<|ys<|yn<|yq<|yb<|yq<|yq<|yr<|yo zF<|yo (zB 0)<|yo zet<|yo zM<|yo zM<|yo zF<|yo (zB 0)<|yo zef<|yo zY<|yo zM<|yo zS<|yo zS<|yo zS<|yo zS<|yo zS<|yo zS<|yo zS<|yo zS<|yo zN<|yl<|yn<|y0<|ys<|yn<|yq<|yq<|yr<|yo zF<|yo (zB 0)<|yo znt<|yl<|yn<|y1<|ye<|yn<|yr<|yo zM<|yo zP<|yo zA<|yl ?_;refine Qt (b+1) [0] Q1 ⟨hlt,fun q hq=>?_⟩ Q3 Q59 rfl
   rcases (show q<b\/q=b by omega) with h|rfl
   ·exact HALL.out q h
   ·show (_&&((q:Int)==stop&&(S.getD elem.toNat XH) q)||_)=false
    rw[beq_eq_false_iff_ne.2 hbs,Bool.false_and,Bool.and_false];rfl
 ·refine Qle ?_;refine Q7 mc4 rfl (.tmp rfl) (fun w hw=>QK ?_ hw)
  cases hcf:Zf S ⟨name,9,bs,size,big,mn,mx,stop,count,elem,names,parts⟩ with
  |false=>rfl
  |true=>
   exfalso;obtain⟨q,hq,h⟩:=HCI.out.1 hcf;rw[HALL.out q Q3] at h;cases h
theorem Qpl(h9:r.kind≠9)(h8:r.kind≠8):
  Calls Tryz.prog 40 #[.agg (ruC r (.slice Ab r.bs.length cb) (.slice An r.names.length cn) (.slice Ap r.parts.length cp)).toArray,.slice A n c] W (QO W (Zf S r)):=by
 have hcf:Zf S r=false:=by unfold Zf;rw[if_neg h9,if_neg h8]
 rw[hcf];clear hcf;obtain⟨name,kind,bs,size,big,mn,mx,stop,count,elem,names,parts⟩:=r;simp only[ruC] at h9 h8 ⊢;go_enter Tryz.func40,Tryz.ntmps40;refine Qs (M:=[]) (W:=W) (N:=56) (E:=[(0,.agg (QsZ:List Value).toArray),(1,.slice A n c)]) (O:=[]) ?_ mc3 QV;refine yq<|yr ?_;refine yB fun b2=>?_;refine Q8T ?_;refine QN (ι:=Nat) (fun b=>b<=256) (fun b=>256 - b) (fun b=>[(1,.slice A n c),Q2k,(5,.int .i64 (b:Int))]) (fun b=>[.blk b2 (.cells (QsZ:List Value).toArray 65 (0,0))]) 0 [0] Q1 Ze J9 rfl ?_;intro b hb;by_cases hlt:b<256
 ·refine yq<|yq<|yr<|yo zM<|yo zlt<|yl<|yn<|y1<|ys<|yn<|yq<|yb<|yq<|yq<|yr<|yo zF<|yo (zB 0)<|yo zef<|yo zM<|yo zS<|yo zS<|yo zS<|yo zS<|yo zN<|yo zM<|yo zS<|yo zS<|yo zS<|yo zS<|yo zS<|yo zS<|yo zS<|yo zS<|yo zN<|yl<|yn<|y0<|ys<|yn<|yq<|yq<|yr<|yo zF<|yo (zB 0)<|yo znt<|yl<|yn<|y1<|ye<|yn<|yr<|yo zM<|yo zP<|yo zA<|yl ?_;exact Qt (b+1) [0] Q1 hlt Q3 Q59 rfl
 ·refine Qle ?_;exact Q4l
theorem Qjg{l:List Int}{j:Nat}{x:Int}(b:Nat)(h:l[j]? =some x):VO S (l.take (j+1)) b=VO S (l.take j) b+(if (S.getD x.toNat XH) b then 1 else 0):=by
 rw[List.take_add_one,h];show VO S (l.take j++[x]) b=_;rw[QbN];rfl
theorem QpI(hl:RuL W r Ab cb An cn Ap cp)(hr:ROk n r)(hS:Qqk W A n vs S)(hk:r.kind=8):
  Calls Tryz.prog 40 #[.agg (ruC r (.slice Ab r.bs.length cb) (.slice An r.names.length cn) (.slice Ap r.parts.length cp)).toArray,.slice A n c] W (QO W (Zf S r)):=by
 have hci:=Q9d (S:=S) hr;have h8:=hr.eight hk;have h12:=hr.p12;have hin:=hr.parts (.inr hk);have hp:=hl.p;obtain⟨name,kind,bs,size,big,mn,mx,stop,count,elem,names,parts⟩:=r;simp only[ruC] at hk h8 h12 hin hp hci ⊢;subst hk;obtain⟨bp,op,rfl,_,hpc⟩:=hp.2 Q3
 obtain⟨ba,oa,rfl,_,hcell⟩:=hS.r.2 (by
  have:=hin (parts.getD 0 0) (by rw[List.getD_eq_getElem?_getD,List.getElem?_eq_getElem Q3];exact List.getElem_mem _)
  omega)
 have HP:=Q2 hpc;have HC:=Q2 hcell;have HS:=Q2 hS;have HIN:=Q2 hin;have HCI:=Q2 hci;clear hcell hpc hci hr hS hin hp hl;go_enter Tryz.func40,Tryz.ntmps40;refine Qs (M:=[]) (W:=W) (N:=56) (E:=[(0,.agg ([.string ⟨name.toArray⟩,.int .i64 8,.slice Ab bs.length cb,.int .i64 size,.bool big,.int .i64 mn,.int .i64 mx,.int .i64 stop,.int .i64 count,.int .i64 elem,.slice An names.length cn,.slice (some ⟨bp,op,none⟩) parts.length cp]:List Value).toArray),(1,.slice (some ⟨ba,oa,none⟩) n c)]) (O:=[]) ?_ mc3 (Wd.start [] W);refine yq<|yr ?_;refine yB fun b2=>?_;refine Q8T ?_;refine QN (ι:=Nat) (fun b=>b<=256/\∀q,q<b->Q9T S ⟨name,8,bs,size,big,mn,mx,stop,count,elem,names,parts⟩ q=false) (fun b=>256 - b) (fun b=>[(1,.slice (some ⟨ba,oa,none⟩) n c),(2,.pointer (some ⟨b2,0,none⟩)),(5,.int .i64 (b:Int))]) (fun b=>[.blk b2 (.cells ([.string ⟨name.toArray⟩,.int .i64 8,.slice Ab bs.length cb,.int .i64 size,.bool big,.int .i64 mn,.int .i64 mx,.int .i64 stop,.int .i64 count,.int .i64 elem,.slice An names.length cn,.slice (some ⟨bp,op,none⟩) parts.length cp]:List Value).toArray 65 (0,0))]) 0 [0] Q1 Qo8 J9 rfl ?_;rintro b ⟨hb,hall⟩;have HALL:=Q2 hall;clear hall;by_cases hlt:b<256
 ·refine yq<|yq<|yr<|yo zM<|yo zlt<|yl<|yn<|y1<|ys<|yn<|yq<|yb<|yq<|yq<|yr<|yo zF<|yo (zB 0)<|yo zef<|yo zM<|yo zS<|yo zS<|yo zS<|yo zS<|yo zN<|yo zM<|yo zS<|yo zS<|yo zS<|yo zS<|yo zS<|yo zS<|yo zS<|yo zS<|yo zN<|yl<|yn<|y0<|ys<|yn<|yq<|yq<|yr<|yo zF<|yo (zB 0)<|yo znf<|yl<|yn<|y0<|ys<|yn<|yq<|yr<|yo zA<|yl<|yn<|yq<|yq<|yr<|yo zA<|yl<|yn<|yb ?_;refine QN (ι:=Nat) (fun j=>j<=parts.length) (fun j=>parts.length - j) (fun j=>[(1,.slice (some ⟨ba,oa,none⟩) n c),(2,.pointer (some ⟨b2,0,none⟩)),(5,.int .i64 (b:Int)),(6,.int .i64 (VO S (parts.take j) b:Int)),(7,.int .i64 (j:Int))]) (fun j=>[.blk b2 (.cells ([.string ⟨name.toArray⟩,.int .i64 8,.slice Ab bs.length cb,.int .i64 size,.bool big,.int .i64 mn,.int .i64 mx,.int .i64 stop,.int .i64 count,.int .i64 elem,.slice An names.length cn,.slice (some ⟨bp,op,none⟩) parts.length cp]:List Value).toArray 65 (0,0))]) 0 [0] Q1 Ze Q0J rfl ?_;intro j hj
  by_cases hjl:j<parts.length
  ·obtain⟨x,hx⟩:∃x,parts[j]? =some x:=⟨_,List.getElem?_eq_getElem hjl⟩;have hxn:=HIN.out x K4;have hcx:W.cell? ⟨bp,op+j,none⟩=some (.int .i64 x):=HP.out j _ (by unfold iv;rw[List.getElem?_map,hx];rfl);obtain⟨be,hve,hbe⟩:=HS.out.at_ x.toNat Q3;have hc1:=HC.out x.toNat _ hve;have hc2:=hbe b hlt;have hst:=Qjg (S:=S) b hx;have hcl:=Qhs S (parts.take j) b;rw[List.length_take] at hcl
   generalize VO S (parts.take j) b=cn0 at hst hcl ⊢;obtain⟨v,hv⟩:∃v,(S.getD x.toNat XH) b=v:=⟨_,rfl⟩;rw[hv] at hc2 hst;clear hv hbe hve hx;cases v with
   |true=>
    refine Qtz ?_;refine yo (zG hc1)<|yo zM<|yo (zi1 (hj:=hlt))<|yo (zG hc2)<|yl<|yn<|y1<|yr<|yo zM<|yo zP<|yo zA<|yl<|yn<|yr<|yo zM<|yo zP<|yo zA<|yl ?_;exact Qt (j+1) [0] Q1 hjl Q3 (.cons rfl rfl (.cons rfl rfl (.cons rfl rfl (.cons rfl (by rw[hst];simp) Q52)))) rfl
   |false=>
    refine Qtz ?_;refine yo (zG hc1)<|yo zM<|yo (zi1 (hj:=hlt))<|yo (zG hc2)<|yl<|yn<|y0<|ys<|yn<|yr<|yo zM<|yo zP<|yo zA<|yl ?_;exact Qt (j+1) [0] Q1 hjl Q3 (.cons rfl rfl (.cons rfl rfl (.cons rfl rfl (.cons rfl (by rw[hst];simp) Q52)))) rfl
  ·have hjt:parts.take j=parts:=List.take_of_length_le Q3;rw[hjt]
   by_cases h1:1<VO S parts b
   ·refine yq<|yq<|yr<|yo zM<|yo zF<|yo (zB 0)<|yo zL<|yo zlf<|yl<|yn<|y0<|ye<|yn<|yq<|yr<|yo zM<|yo zgt<|yl<|yn<|y1<|yq<|yr<|yo zA<|yl<|yn<|yt<|yk<|yc<|yc<|yk<|yc ?_;refine Q7 mc4 rfl (.tmp rfl) (fun w hw=>QK (HCI.out.2 ⟨b,hlt,?_⟩).symm hw)
    show (_||(_&&decide (1<VO S parts b)))=true;rw[decide_eq_true h1];rfl
   ·refine yq<|yq<|yr<|yo zM<|yo zF<|yo (zB 0)<|yo zL<|yo zlf<|yl<|yn<|y0<|ye<|yn<|yq<|yr<|yo zM<|yo zgf<|yl<|yn<|y0<|ys<|yn<|yr<|yo zM<|yo zP<|yo zA<|yl ?_;refine Qt (b+1) [0] Q1 ⟨hlt,fun q hq=>?_⟩ Q3 Q59 rfl
    rcases (show q<b\/q=b by omega) with h|rfl
    ·exact HALL.out q h
    ·show ((_&&_)||(_&&decide (1<VO S parts q)))=false
     rw[decide_eq_false h1,Bool.and_false,Bool.or_false];rfl
 ·refine Qle ?_;refine Q7 mc4 rfl (.tmp rfl) (fun w hw=>QK ?_ hw)
  cases hcf:Zf S ⟨name,8,bs,size,big,mn,mx,stop,count,elem,names,parts⟩ with
  |false=>rfl
  |true=>
   exfalso;obtain⟨q,hq,h⟩:=HCI.out.1 hcf;rw[HALL.out q Q3] at h;cases h
theorem Qcj(hl:RuL W r Ab cb An cn Ap cp)(hr:ROk n r)(hS:Qqk W A n vs S):
  Calls Tryz.prog 40 #[.agg (ruC r (.slice Ab r.bs.length cb) (.slice An r.names.length cn) (.slice Ap r.parts.length cp)).toArray,.slice A n c] W (QO W (Zf S r)):=by
 by_cases h9:r.kind=9
 ·exact Qpr hr hS h9
 ·by_cases h8:r.kind=8
  ·exact QpI hl hr hS h8
  ·exact Qpl h9 h8
end
end
end Go.Proofs.YtphkhfdmlcnoeaaGreatDoor
