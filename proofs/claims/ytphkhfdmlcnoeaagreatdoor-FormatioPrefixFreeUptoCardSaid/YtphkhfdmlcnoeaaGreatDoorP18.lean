import Derived.Test.YtphkhfdmlcnoeaaGreatDoorP17
namespace Go.Proofs.YtphkhfdmlcnoeaaGreatDoor
set_option linter.unusedVariables false
set_option linter.unusedSimpArgs false
open Go.RowKit
theorem Rd.of_on{w:World}{A:Option Addr}{n s:Nat}{xs:List Value}(h:(Qc.rd A n s xs).on w)(hn:0<n):∃b o,A=some ⟨b,o,none⟩∧b<w.heap.size:=by
 have h':Rd w w.heap.size s A n xs:=h;obtain⟨b,o,e,hb,_⟩:=h'.2 hn;exact⟨b,o,e,hb⟩
section
variable {P:Program}{Q:Exit→Act→World→Prop}{N:Nat}{M:List Nat}{W:World}{E:Env}{O:List Qc}
theorem Q8e(i:Nat){A:Option Addr}{n c s:Nat}{e:TypeId}{xs:List Value}{cd:Code}(hO:O[i]? =some (.row A n c e s xs))(hn:0<n)(h:∀b,A=some ⟨b,0,none⟩→sE P Q N M W E O cd):sE P Q N M W E O cd:=fun a w ha hw=>by
 rcases (hw.own i _ hO).2 with ⟨hv,_⟩|⟨g,cap,cur,hv,_⟩
 ·have:n=0:=by
   simp only[Value.slice.injEq] at hv
   omega
  omega
 ·simp only[Value.slice.injEq] at hv
  exact h g hv.1 a w ha hw
theorem Q8g{x y:Code}{ι:Type}(p:ι→Prop)(F:ι→Env)(G:ι→List Qc)(h1:sE P (Exit.then (Qdy p N M W F G) Q) N M W E O x)(h2:∀i,p i→sE P Q N M W (F i) (G i) y):sE P (Exit.then (fun a w=>y.wp P Q a w) Q) N M W E O x:=
 QdV p F G h1 fun i hp a w ha hw=>h2 i hp a w ha hw
theorem Wd.rd_blk(i:Nat){w:World}{b n s:Nat}{cs:List Value}{t:TypeId}{fr:Nat×Nat}(hO:O[i]? =some (.blk b (.cells cs.toArray t fr)))(hl:cs.length=n*s)(hw:Wd M W O w):Rd w w.heap.size s (some ⟨b,0,none⟩) n cs:=
 ⟨hl,fun _=>⟨b,0,rfl,(hw.own i _ hO).lt rfl,fun j u hu=>by rw[Nat.zero_add];exact hw.cell_blkL i hO hu⟩⟩
end
section
variable {P:Program}{Q:Exit→Act→World→Prop}{N:Nat}{M:List Nat}{W:World}{E:Env}{O:List Qc}
theorem Qad(i:Nat){A:Option Addr}{n s:Nat}{xs:List Value}{cd:Code}(hO:O[i]? =some (.rd A n s xs))(hn:0<n)(h:∀b o,A=some ⟨b,o,none⟩→sE P Q N M W E O cd):sE P Q N M W E O cd:=fun a w ha hw=>by
 obtain⟨b,o,e,_⟩:=Go.Proofs.YtphkhfdmlcnoeaaGreatDoor.Rd.of_on (hw.own i _ hO) hn;exact h b o e a w ha hw
end
theorem Wd.range_sets{M:List Nat}{W w:World}{O:List Qc}(i:Nat){b n c k:Nat}{e:TypeId}{S:List (Nat→Bool)}(hO:O[i]? =some (.row (some ⟨b,0,none⟩) n c e 256 (X4 S)))(hk:k<S.length)(hw:Wd M W O w):w.rangeAt b (0+k*256) (Xd (S.getD k Zx)):=fun j u hu=>by
 rw[Nat.zero_add];exact hw.cell_row i hO (Q0D S k hk j u hu)
def YI(S:List (Nat→Bool))(k:Nat)(st:Nat→Bool)(c:Nat):List (Nat→Bool):=S.set k (fun j=>if j<c then (S.getD k Zx) j||st j else (S.getD k Zx) j)
theorem Q1d(S:List (Nat→Bool))(k:Nat)(st:Nat→Bool)(c:Nat):(YI S k st c).length=S.length:=by unfold YI;rw[List.length_set]
theorem Q6d(S:List (Nat→Bool))(k:Nat)(st:Nat→Bool)(c:Nat)(hk:k<S.length):(YI S k st c).getD k Zx=fun j=>if j<c then (S.getD k Zx) j||st j else (S.getD k Zx) j:=by
 unfold YI
 rw[List.getD_eq_getElem?_getD,List.getElem?_set,if_pos rfl,if_pos hk]
 rfl
theorem Q9W(S:List (Nat→Bool))(k:Nat)(st:Nat→Bool)(hk:k<S.length):YI S k st 0=S:=by
 unfold YI
 have e:(fun j=>if j<0 then (S.getD k Zx) j||st j else (S.getD k Zx) j)=S[k]:=by
  funext j
  rw[if_neg (by omega),List.getD_eq_getElem?_getD,List.getElem?_eq_getElem hk]
  rfl
 rw[e,List.set_getElem_self]
theorem Qa4{S T:List (Nat→Bool)}(hl:S.length=T.length)(h:∀k c,k<S.length→c<256→(S.getD k Zx) c=(T.getD k Zx) c):X4 S=X4 T:=by
 induction S generalizing T with
 |nil=>cases T with
  |nil=>rfl
  |cons=>simp at hl
 |cons s S ih=>cases T with
  |nil=>simp at hl
  |cons t T=>
   have e1:Xd s=Xd t:=JS (fun j hj=>h 0 j (by simp) hj);have e2:X4 S=X4 T:=ih (by simpa using hl) (fun k c hk hc=>h (k+1) c (by simpa using hk) hc);rw[X4,X4,e1,e2]
theorem Q44(S:List (Nat→Bool))(k:Nat)(st:Nat→Bool)(c:Nat)(hk:k<S.length)(hc:c<256):(X4 (YI S k st c)).set (k*256+c) (.bool ((S.getD k Zx) c||st c))=X4 (YI S k st (c+1)):=by
 rw[Q4C _ _ _ _ (by rw[Q1d];exact hk) hc,Q6d S k st c hk]
 unfold YI
 rw[List.set_set]
 congr 2
 funext j
 by_cases h1:j=c
 ·subst h1;simp
 ·by_cases h2:j<c
  ·have:j<c+1:=by omega
   simp [h1,h2,this]
  ·have:¬j<c+1:=by omega
   simp [h1,h2,this]
theorem QcB(S:List (Nat→Bool))(k x:Nat)(hk:k<S.length):X4 (YI S k (S.getD x Zx) 256)=X4 (JY S k x):=by
 refine Qa4 (by unfold JY;rw[Q1d,List.length_set]) fun k' c hk' hc=>?_
 rw[Q1d] at hk'
 unfold YI JY
 by_cases h:k=k'
 ·subst h
  simp [List.getD_eq_getElem?_getD,hk,hc,orS]
 ·simp [List.getD_eq_getElem?_getD,List.getElem?_set_ne h]
theorem Q82(S:List (Nat→Bool))(k x:Nat):(JY S k x).length=S.length:=by unfold JY;rw[List.length_set]
theorem Kl(k:Nat):∀(l:List Nat) (S:List (Nat→Bool)),(l.foldl (fun S x=>JY S k x) S).length=S.length
 |[],_=>rfl
 |x::l,S=>by rw[List.foldl_cons,Kl k l,Q82]
theorem Q6b(F:List Rl)(S:List (Nat→Bool))(k:Nat):(Y2 F S k).length=S.length:=Kl k _ S
theorem YL(F:List Rl):∀(l:List Nat) (S:List (Nat→Bool)),(l.foldl (Y2 F) S).length=S.length
 |[],_=>rfl
 |x::l,S=>by rw[List.foldl_cons,YL F l,Q6b]
theorem VR(F:List Rl)(S:List (Nat→Bool)):∀t,(iter (J4 F) t S).length=S.length
 |0=>rfl
 |t+1=>(YL F _ _).trans (VR F S t)
theorem Qa6(st:Nat→Bool):∀u∈Xd st,u.oneCell'=true:=by
 intro u hu
 simp only[Xd,List.mem_map] at hu
 obtain⟨j,_,rfl⟩:=hu
 rfl
set_option maxRecDepth 100000 in
set_option maxHeartbeats 8000000 in
theorem Q5j{F:List Rl}{A:Option Addr}{n c:Nat}{W:World}(hf:Xm W W.heap.size A n F)(hF:FOk F)(hn:n≤40)(hn0:0<n):
  Calls Tryz.prog 55 #[.agg #[.slice A n c]] W (fun e w'=>∃b c',e=.returned (.slice (some ⟨b,0,none⟩) n c')∧W.heap.size≤b∧Rd w' w'.heap.size 256 (some ⟨b,0,none⟩) n (X4 (K8 F))∧Below W.heap.size W w'):=by
 have hlen:F.length=n:=hf.1;obtain⟨b,o,rfl⟩:=hf.addr hn0;have HFM:=Lib.hid hf;have HF:=Lib.hid hF;have HLEN:=Lib.hid hlen;clear hf hF hlen
 go_enter Tryz.func55,Tryz.ntmps55
 refine QE (M:=[]) (W:=W) (N:=72) (E:=[(0,.agg #[.slice (some ⟨b,o,none⟩) n c])]) (O:=[]) ?_ (Ag.cons (Ag.nil rfl rfl) rfl) (Wd.start [] W)
 repeat(first|refine Q1 zM ?_|refine Q1 zA ?_|refine Q1 zF ?_|refine Q1 (zB 0) ?_|refine yB fun bf=>?_|refine Q8 ?_|refine Q9 ?_|refine Q3 ?_|refine Qi ?_|refine Q1 zL ?_)
 refine QdS 92 256 ?_;refine Z2 (ι:=Nat×Option Addr×Nat) (fun y=>y.1≤n) (fun y=>n - y.1) (fun y=>[(1,.pointer (some ⟨bf,0,none⟩)),(3,.slice y.2.1 y.1 y.2.2),(13,.slice (some ⟨b,o,none⟩) n c),(14,.int .i64 (n:Int)),(15,.int .i64 (y.1:Int))]) (fun y=>[.row y.2.1 y.1 y.2.2 92 256 (X4 ((F.take y.1).map YH)),.blk bf (.cells [.slice (some ⟨b,o,none⟩) n c].toArray 24 (0,0))]) (0,none,0) [0,1] (by decide) (Nat.zero_le _) (.cons rfl rfl (.cons rfl rfl (.cons rfl rfl (.cons rfl rfl (.cons rfl rfl .nil))))) rfl ?_
 rintro⟨i,A',c'⟩ hi
 have hi':i≤n:=hi;clear hi
 show sE _ _ _ _ _ [(1,.pointer (some ⟨bf,0,none⟩)),(3,.slice A' i c'),(13,.slice (some ⟨b,o,none⟩) n c),(14,.int .i64 (n:Int)),(15,.int .i64 (i:Int))] [.row A' i c' 92 256 (X4 ((F.take i).map YH)),.blk bf (.cells [.slice (some ⟨b,o,none⟩) n c].toArray 24 (0,0))] _
 by_cases hin:i<n
 ·obtain⟨rk,Ab,cb,An,cn,Ap,cp,hrk,hrg,hlk⟩:=HFM.out.rl hin;have HRK:=Lib.hid hrk;have HLK:=Lib.hid hlk;have HOK:=Lib.hid (HF.out i rk hrk);clear hrk hlk
  repeat(first|refine Q1 zM ?_|refine Q1 zA ?_|refine Q1 (zD 0) ?_|refine Q1 (zD 1) ?_|refine Q1 zE ?_|refine Q1 (zi (hj:=hin)) ?_|refine yA (t:=65) fun b7=>?_|refine yW 0 ?_|refine Q1 (Qb (f:=96) rfl rfl (by decide) rfl rfl (fun w hw=>(Qal (HLK.out.on hw.k.below) HOK.out).mono (fun _ _ h=>h))) ?_|refine Qo (XF (cs:=Xd _) rfl rfl rfl rfl (Qk _) (by decide)) rfl (by decide) (fun bn _=>?_)|refine Qo (X9 (news:=Xd _) 2 rfl rfl rfl rfl rfl (fun w hw=>hw.rd_blk 0 rfl (by rw[Qk])) (Qa6 _) (by omega)) rfl (by decide) (fun y _=>?_)|refine Q8 ?_|refine Q9 ?_|refine Q3 ?_|refine Qt ?_|refine Qa rfl ?_|refine Qi ?_|refine Q1 (XS rfl rfl (by decide) rfl rfl rfl (by first|exact decide_eq_true (by omega)|rfl)) ?_|refine Q1 zP ?_)
  obtain⟨A2,c2⟩:=y;refine Xc (i+1,A2,c2) [2,3] (by decide) hin (by show n - (i+1)<n - i;omega) (.cons rfl rfl (.cons rfl rfl (.cons rfl rfl (.cons rfl rfl (.cons rfl (by go_num) .nil))))) ?_
  show [Qc.row _ _ _ _ _ (X4 ((F.take i).map YH)++Xd (YH rk)),_]=[Qc.row _ _ _ _ _ (X4 ((F.take (i+1)).map YH)),_]
  rw[List.take_add_one,HRK.out,Option.toList_some,List.map_append,Q4B]
  simp [X4]
 ·obtain rfl:i=n:=by omega
  repeat(first|refine Q1 zM ?_|refine Q1 zF ?_|refine Q1 (zB 1) ?_|refine Q8 ?_|refine Q9 ?_|refine Q3 ?_|refine Q6 rfl ?_|refine XL ?_|refine Qi ?_|refine Q1 zL ?_|refine Q1 zlf ?_)
  refine Q8e 0 rfl hn0 (fun br hA=>?_);subst hA
  have e0:X4 ((F.take i).map YH)=X4 (iter (J4 F) 0 (F.map YH)):=by
   rw[List.take_of_length_le (by rw[HLEN.out];exact Nat.le_refl _)]
   rfl
  refine Z2 (ι:=Nat) (fun t=>t≤i) (fun t=>i - t) (fun t=>[(1,.pointer (some ⟨bf,0,none⟩)),(3,.slice (some ⟨br,0,none⟩) i c'),(27,.int .i64 (i:Int)),(28,.int .i64 (t:Int))]) (fun t=>[.row (some ⟨br,0,none⟩) i c' 92 256 (X4 (iter (J4 F) t (F.map YH))),.blk bf (.cells [.slice (some ⟨b,o,none⟩) i c].toArray 24 (0,0))]) 0 [0,1] (by decide) (Nat.zero_le _) (.cons rfl rfl (.cons rfl rfl (.cons rfl rfl (.cons rfl rfl .nil)))) (by rw[← e0];rfl) ?_
  rintro t ht
  by_cases htn:t<i
  ·skip
   repeat(first|refine Q1 zM ?_|refine Q1 zF ?_|refine Q1 (zB 1) ?_|refine Q8 ?_|refine Q9 ?_|refine Q3 ?_|refine Qt ?_|refine Qa rfl ?_|refine Qi ?_|refine Q1 zL ?_|refine Q1 zlt ?_)
   refine Z2 (ι:=Nat) (fun k=>k≤i) (fun k=>i - k) (fun k=>[(1,.pointer (some ⟨bf,0,none⟩)),(3,.slice (some ⟨br,0,none⟩) i c'),(27,.int .i64 (i:Int)),(28,.int .i64 (t:Int)),(31,.slice (some ⟨b,o,none⟩) i c),(32,.int .i64 (i:Int)),(33,.int .i64 (k:Int))]) (fun k=>[.row (some ⟨br,0,none⟩) i c' 92 256 (X4 ((List.range k).foldl (Y2 F) (iter (J4 F) t (F.map YH)))),.blk bf (.cells [.slice (some ⟨b,o,none⟩) i c].toArray 24 (0,0))]) 0 [0,1] (by decide) (Nat.zero_le _) (.cons rfl rfl (.cons rfl rfl (.cons rfl rfl (.cons rfl rfl (.cons rfl rfl (.cons rfl rfl (.cons rfl rfl .nil))))))) rfl ?_
   rintro k hk
   by_cases hkn:k<i
   ·obtain⟨rk,Ab,cb,An,cn,Ap,cp,hrk,hrg,hlk⟩:=HFM.out.rl hkn;have HRK:=Lib.hid hrk;have HLK:=Lib.hid hlk;have HOK:=Lib.hid (HF.out k rk hrk);clear hrk hlk
    repeat(first|refine Q1 zM ?_|refine Q1 zA ?_|refine Q1 (zD 0) ?_|refine Q1 (zD 1) ?_|refine Q1 zE ?_|refine Q1 (zi (hj:=hkn)) ?_|refine yA (t:=65) fun b7=>?_|refine yW 0 ?_|refine Qo (QM _ _ _ (f:=97) rfl rfl rfl (fun w hw=>Q1J (n:=F.length) HLK.out HOK.out hw)) rfl (by decide) (fun z hz=>?_)|refine Q8 ?_|refine Q9 ?_|refine Q3 ?_|refine Qt ?_|refine Qa rfl ?_|refine Qi ?_|refine Q1 zL ?_|refine Q1 zlt ?_)
    obtain⟨A2,c2⟩:=z;have hbl:=Q52 HOK.out;refine Z2 (ι:=Nat) (fun j=>j≤(bl rk).length) (fun j=>(bl rk).length - j) (fun j=>[(1,.pointer (some ⟨bf,0,none⟩)),(3,.slice (some ⟨br,0,none⟩) i c'),(6,.int .i64 (k:Int)),(27,.int .i64 (i:Int)),(28,.int .i64 (t:Int)),(31,.slice (some ⟨b,o,none⟩) i c),(32,.int .i64 (i:Int)),(33,.int .i64 (k:Int)),(39,.slice A2 (bl rk).length c2),(40,.int .i64 ((bl rk).length:Int)),(41,.int .i64 (j:Int))]) (fun j=>[.rd A2 (bl rk).length 1 (iv (bl rk)),.row (some ⟨br,0,none⟩) i c' 92 256 (X4 (((bg F k).take j).foldl (fun S x=>JY S k x) ((List.range k).foldl (Y2 F) (iter (J4 F) t (F.map YH))))),.blk bf (.cells [.slice (some ⟨b,o,none⟩) i c].toArray 24 (0,0))]) 0 [0,2,3] (by decide) (Nat.zero_le _) (.cons rfl rfl (.cons rfl rfl (.cons rfl rfl (.cons rfl rfl (.cons rfl rfl (.cons rfl rfl (.cons rfl rfl (.cons rfl rfl (.cons rfl rfl (.cons rfl rfl (.cons rfl rfl .nil))))))))))) rfl ?_
    rintro j hj
    by_cases hjn:j<(bl rk).length
    ·refine Qad 0 rfl (by omega) (fun b2 o2 hA=>?_);subst hA;obtain⟨x,hx⟩:∃x,(bl rk)[j]? =some x:=⟨_,List.getElem?_eq_getElem hjn⟩;have hxb:=Q2y HOK.out x (List.mem_of_getElem? hx)
     have hxn:0≤x∧x<(i:Int):=by have:=HLEN.out;omega
     clear hxb
     have hxj:(iv (bl rk))[j]? =some (.int .i64 x):=by unfold iv;rw[List.getElem?_map,hx];rfl
     have hbgj:(bg F k)[j]? =some x.toNat:=by rw[Q1T HRK.out,List.getElem?_map,hx];rfl
     have HBG:=Lib.hid hbgj;clear hbgj;obtain⟨S,hS⟩:∃S,S=((bg F k).take j).foldl (fun S x=>JY S k x) ((List.range k).foldl (Y2 F) (iter (J4 F) t (F.map YH))):=⟨_,rfl⟩
     have hSl:S.length=i:=by rw[hS,Kl,YL,VR,List.length_map];exact HLEN.out
     rw[← hS];have HS:=Lib.hid hS;clear hS
     have hxS:x.toNat<S.length:=by omega
     have hkS:k<S.length:=by omega
     repeat(first|refine Q1 zM ?_|refine Q1 zA ?_|refine Q1 (zi1 (hj:=hjn)) ?_|refine Q1 (Qm rfl rfl (by decide) rfl rfl rfl hxn) ?_|refine Q1 (QW rfl rfl (by decide) rfl rfl (fun w hw=>hw.cell_rd 0 rfl hxj)) ?_|refine Q1 (QB (cs:=Xd (S.getD x.toNat Zx)) rfl rfl (by decide) rfl rfl (fun w hw=>hw.range_sets 1 rfl hxS) (Qk _)) ?_|refine Q8 ?_|refine Q9 ?_|refine Q3 ?_|refine Qt ?_|refine Qa rfl ?_|refine Qi ?_|refine Q1 zlt ?_)
     obtain⟨st,hst⟩:∃st,st=S.getD x.toNat Zx:=⟨_,rfl⟩;rw[← hst];have HST:=Lib.hid hst;clear hst;refine Z2 (ι:=Nat) (fun cc=>cc≤256) (fun cc=>256 - cc) (fun cc=>[(1,.pointer (some ⟨bf,0,none⟩)),(3,.slice (some ⟨br,0,none⟩) i c'),(6,.int .i64 (k:Int)),(27,.int .i64 (i:Int)),(28,.int .i64 (t:Int)),(31,.slice (some ⟨b,o,none⟩) i c),(32,.int .i64 (i:Int)),(33,.int .i64 (k:Int)),(39,.slice (some ⟨b2,o2,none⟩) (bl rk).length c2),(40,.int .i64 ((bl rk).length:Int)),(41,.int .i64 (j:Int)),(48,.agg (Xd st).toArray),(49,.int .i64 (cc:Int))]) (fun cc=>[.rd (some ⟨b2,o2,none⟩) (bl rk).length 1 (iv (bl rk)),.row (some ⟨br,0,none⟩) i c' 92 256 (X4 (YI S k st cc)),.blk bf (.cells [.slice (some ⟨b,o,none⟩) i c].toArray 24 (0,0))]) 0 [0,1,2] (by decide) (Nat.zero_le _) (.cons rfl rfl (.cons rfl rfl (.cons rfl rfl (.cons rfl rfl (.cons rfl rfl (.cons rfl rfl (.cons rfl rfl (.cons rfl rfl (.cons rfl rfl (.cons rfl rfl (.cons rfl rfl (.cons rfl rfl (.cons rfl rfl .nil))))))))))))) (by rw[Q9W S k st hkS];rfl) ?_
     rintro cc hcc
     by_cases hcn:cc<256
     ·have hlt:k*256+cc<i*256:=by omega
      have hcell0:=Q0Y (YI S k st cc) k cc (by rw[Q1d];exact hkS) hcn;rw[Q6d S k st cc hkS] at hcell0
      have hcell:(X4 (YI S k st cc))[0+k*256+cc*1]? =some (.bool ((S.getD k Zx) cc)):=by
       rw[Nat.zero_add,Nat.mul_one,hcell0]
       show some (Value.bool (if cc<cc then _ else _))=_
       rw[if_neg (Nat.lt_irrefl _)]
      clear hcell0;obtain⟨bb,hbb⟩:∃bb,(S.getD k Zx) cc=bb:=⟨_,rfl⟩;rw[hbb] at hcell;have HB:=Lib.hid hbb;clear hbb
      cases bb with
      |true=>
       skip
       repeat(first|refine Q1 zM ?_|refine Q1 zA ?_|refine Q1 (VX (v:=.bool (st cc)) rfl rfl (by decide) rfl rfl rfl hcn (ZL st hcn)) ?_|refine Q8 ?_|refine Q9 ?_|refine Q3 ?_|refine Qt ?_|refine Qa rfl ?_|refine Qi ?_|refine Q1 zlt ?_)
       refine ZA [14] (by kernel_rfl) ?_;refine Qe 0 rfl (by kernel_rfl) (Q2.rfl_) zM ?_;refine Qe 1 rfl (by kernel_rfl) (Q2.rfl_) zM ?_;refine Qe 2 rfl (by kernel_rfl) (Q2.rfl_) zM ?_;refine Qe 3 rfl (by kernel_rfl) (Q2.rfl_) zM ?_;refine Qe 4 rfl (by kernel_rfl) (Q2.rfl_) zM ?_;refine Qe 5 rfl (by kernel_rfl) (Q2.rfl_) zM ?_;refine Qe 6 rfl (by kernel_rfl) (Q2.rfl_) (zi (hj:=hkn)) ?_;refine Qe 7 rfl (by kernel_rfl) (Q2.rfl_) (XK rfl rfl (by decide) rfl rfl rfl hcn) ?_;refine Qe 8 rfl (by kernel_rfl) (Q2.rfl_) (zK 1 hcell) ?_;refine Qe 9 rfl (by kernel_rfl) (Q2.rfl_) zM ?_;refine Qe 10 rfl (by kernel_rfl) (Q2.rfl_) zS ?_;refine Qe 11 rfl (by kernel_rfl) (Q2.rfl_) zY ?_;refine Qe 12 rfl (by kernel_rfl) (Q2.rfl_) (zi (hj:=hkn)) ?_;refine Qe 13 rfl (by kernel_rfl) (Q2.rfl_) (XK rfl rfl (by decide) rfl rfl rfl hcn) ?_;refine Qu 14 (by kernel_rfl) rfl rfl (Ji 1 rfl rfl rfl rfl rfl rfl (by omega)) (fun _=>.inl (by decide)) rfl (fun _ _=>?_);refine Xh ?_ (by kernel_rfl)
       repeat(first|refine Q1 zM ?_|refine Q8 ?_|refine Q3 ?_|refine Q1 zP ?_)
       refine Xc (cc+1) [0,1,2] (by decide) (by omega) (by show 256 - (cc+1)<256 - cc;omega) (.cons rfl rfl (.cons rfl rfl (.cons rfl rfl (.cons rfl rfl (.cons rfl rfl (.cons rfl rfl (.cons rfl rfl (.cons rfl rfl (.cons rfl rfl (.cons rfl rfl (.cons rfl rfl (.cons rfl rfl (.cons rfl (by go_num) .nil))))))))))))) ?_
       show [_,Qc.row _ _ _ _ _ ((X4 (YI S k st cc)).set (0+k*256+cc*1) (.bool true)),_]=[_,Qc.row _ _ _ _ _ (X4 (YI S k st (cc+1))),_]
       rw[← Q44 S k st cc hkS hcn,Nat.zero_add,Nat.mul_one,HB.out]
       rfl
      |false=>
       skip
       repeat(first|refine Q1 zM ?_|refine Q1 zA ?_|refine Q1 (VX (v:=.bool (st cc)) rfl rfl (by decide) rfl rfl rfl hcn (ZL st hcn)) ?_|refine Q8 ?_|refine Q9 ?_|refine Q3 ?_|refine Qt ?_|refine Qa rfl ?_|refine Qi ?_|refine Q1 zlt ?_)
       refine ZA [14] (by kernel_rfl) ?_;refine Qe 0 rfl (by kernel_rfl) (Q2.rfl_) zM ?_;refine Qe 1 rfl (by kernel_rfl) (Q2.rfl_) zM ?_;refine Qe 2 rfl (by kernel_rfl) (Q2.rfl_) zM ?_;refine Qe 3 rfl (by kernel_rfl) (Q2.rfl_) zM ?_;refine Qe 4 rfl (by kernel_rfl) (Q2.rfl_) zM ?_;refine Qe 5 rfl (by kernel_rfl) (Q2.rfl_) zM ?_;refine Qe 6 rfl (by kernel_rfl) (Q2.rfl_) (zi (hj:=hkn)) ?_;refine Qe 7 rfl (by kernel_rfl) (Q2.rfl_) (XK rfl rfl (by decide) rfl rfl rfl hcn) ?_;refine Qe 8 rfl (by kernel_rfl) (Q2.rfl_) (zK 1 hcell) ?_;refine Qe 9 rfl (by kernel_rfl) (Q2.rfl_) zM ?_;refine Qe 10 rfl (by kernel_rfl) (Q2.rfl_) zM ?_;refine Qe 11 rfl (by kernel_rfl) (Q2.rfl_) zN ?_;refine Qe 12 rfl (by kernel_rfl) (Q2.rfl_) (zi (hj:=hkn)) ?_;refine Qe 13 rfl (by kernel_rfl) (Q2.rfl_) (XK rfl rfl (by decide) rfl rfl rfl hcn) ?_;refine Qu 14 (by kernel_rfl) rfl rfl (Ji 1 rfl rfl rfl rfl rfl rfl (by omega)) (fun _=>.inl (by decide)) rfl (fun _ _=>?_);refine Xh ?_ (by kernel_rfl)
       repeat(first|refine Q1 zM ?_|refine Q8 ?_|refine Q3 ?_|refine Q1 zP ?_)
       refine Xc (cc+1) [0,1,2] (by decide) (by omega) (by show 256 - (cc+1)<256 - cc;omega) (.cons rfl rfl (.cons rfl rfl (.cons rfl rfl (.cons rfl rfl (.cons rfl rfl (.cons rfl rfl (.cons rfl rfl (.cons rfl rfl (.cons rfl rfl (.cons rfl rfl (.cons rfl rfl (.cons rfl rfl (.cons rfl (by go_num) .nil))))))))))))) ?_
       show [_,Qc.row _ _ _ _ _ ((X4 (YI S k st cc)).set (0+k*256+cc*1) (.bool (st cc))),_]=[_,Qc.row _ _ _ _ _ (X4 (YI S k st (cc+1))),_]
       rw[← Q44 S k st cc hkS hcn,Nat.zero_add,Nat.mul_one,HB.out]
       rfl
     ·skip
      repeat(first|refine Q1 zM ?_|refine Q8 ?_|refine Q9 ?_|refine Q3 ?_|refine Q6 rfl ?_|refine XL ?_|refine Q1 (XS rfl rfl (by decide) rfl rfl rfl (by first|exact decide_eq_false (by omega)|rfl)) ?_|refine Q1 zP ?_)
      refine Xc (j+1) [0,1,2] (by decide) (by omega) (by show (bl rk).length - (j+1)<(bl rk).length - j;omega) (.cons rfl rfl (.cons rfl rfl (.cons rfl rfl (.cons rfl rfl (.cons rfl rfl (.cons rfl rfl (.cons rfl rfl (.cons rfl rfl (.cons rfl rfl (.cons rfl rfl (.cons rfl (by go_num) .nil))))))))))) ?_
      obtain rfl:cc=256:=by omega
      show [_,Qc.row _ _ _ _ _ (X4 (YI S k st 256)),_]=[_,Qc.row _ _ _ _ _ (X4 (((bg F k).take (j+1)).foldl (fun S x=>JY S k x) _)),_]
      rw[HST.out,QcB S k x.toNat hkS,List.take_add_one,HBG.out,Option.toList_some,List.foldl_append,← HS.out]
      rfl
    ·skip
     repeat(first|refine Q1 zM ?_|refine Q8 ?_|refine Q9 ?_|refine Q3 ?_|refine Q6 rfl ?_|refine XL ?_|refine Q1 (XS rfl rfl (by decide) rfl rfl rfl (by first|exact decide_eq_false (by omega)|rfl)) ?_|refine Q1 zP ?_)
     refine Xc (k+1) [1,2] (by decide) hkn (by omega) (.cons rfl rfl (.cons rfl rfl (.cons rfl rfl (.cons rfl rfl (.cons rfl rfl (.cons rfl rfl (.cons rfl (by go_num) .nil))))))) ?_
     show [Qc.row _ _ _ _ _ _,_]=[Qc.row _ _ _ _ _ (X4 ((List.range (k+1)).foldl (Y2 F) _)),_]
     rw[List.range_succ,List.foldl_append,List.take_of_length_le (by rw[Q1T HRK.out,List.length_map];omega)]
     rfl
   ·skip
    repeat(first|refine Q1 zM ?_|refine Q8 ?_|refine Q9 ?_|refine Q3 ?_|refine Q6 rfl ?_|refine XL ?_|refine Q1 (XS rfl rfl (by decide) rfl rfl rfl (by first|exact decide_eq_false (by omega)|rfl)) ?_|refine Q1 zP ?_)
    refine Xc (t+1) [0,1] (by decide) htn (by omega) (.cons rfl rfl (.cons rfl rfl (.cons rfl rfl (.cons rfl (by go_num) .nil)))) ?_
    have hkk:k=F.length:=by rw[HLEN.out];omega
    subst hkk
    rfl
  ·skip
   repeat(first|refine Q1 zM ?_|refine Q1 zA ?_|refine Q8 ?_|refine Q9 ?_|refine Q3 ?_|refine Q6 rfl ?_|refine XL ?_|refine Qr ?_|refine Q1 zlf ?_)
   have htt:t=F.length:=by rw[HLEN.out];omega
   refine Q7 (by exact .inr rfl) rfl (.tmp rfl) (fun w hw=>⟨br,c',rfl,?_,⟨?_,fun _=>⟨br,0,rfl,(hw.own 0 _ rfl).lt rfl,fun j u hu=>?_⟩⟩,hw.k.below⟩)
   ·rcases Nat.lt_or_ge br W.heap.size with h|h
    ·have:=hw.new 0 _ br rfl rfl h
     simp [Qc.w] at this
    ·exact h
   ·unfold K8;rw[Q4D,VR,List.length_map,HLEN.out]
   ·rw[Nat.zero_add];refine hw.cell_row 0 rfl ?_;rw[htt];exact hu
end Go.Proofs.YtphkhfdmlcnoeaaGreatDoor
