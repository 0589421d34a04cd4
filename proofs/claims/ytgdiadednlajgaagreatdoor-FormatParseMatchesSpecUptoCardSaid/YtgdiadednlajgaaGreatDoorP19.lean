import Derived.Test.YtgdiadednlajgaaGreatDoorP18
namespace Go.Proofs.YtgdiadednlajgaaGreatDoor
set_option linter.unusedVariables false
set_option linter.unusedSimpArgs false
open Go.RowKit
theorem Rd.of_on{w:World}{A:Option Addr}{n s:Nat}{xs:List Value}(h:(Qg.rd A n s xs).on w)(hn:0<n):∃b o,A=some ⟨b,o,none⟩∧b<w.heap.size:=by
 have h':Rd w w.heap.size s A n xs:=h;obtain⟨b,o,e,hb,_⟩:=h'.2 hn;exact⟨b,o,e,hb⟩
section
variable {P:Program}{Q:Exit→Act→World→Prop}{N:Nat}{M:List Nat}{W:World}{E:Env}{O:List Qg}
theorem V9(i:Nat){A:Option Addr}{n c s:Nat}{e:TypeId}{xs:List Value}{cd:Code}(hO:O[i]? =some (.row A n c e s xs))(hn:0<n)(h:∀b,A=some ⟨b,0,none⟩→sE P Q N M W E O cd):sE P Q N M W E O cd:=fun a w ha hw=>by
 rcases (hw.own i _ hO).2 with ⟨hv,_⟩|⟨g,cap,cur,hv,_⟩
 ·have:n=0:=by
   simp only[Value.slice.injEq] at hv
   omega
  omega
 ·simp only[Value.slice.injEq] at hv
  exact h g hv.1 a w ha hw
theorem Q7D{x y:Code}{ι:Type}(p:ι→Prop)(F:ι→Env)(G:ι→List Qg)(h1:sE P (Exit.then (QcL p N M W F G) Q) N M W E O x)(h2:∀i,p i→sE P Q N M W (F i) (G i) y):sE P (Exit.then (fun a w=>y.wp P Q a w) Q) N M W E O x:=
 Qdz p F G h1 fun i hp a w ha hw=>h2 i hp a w ha hw
theorem Wd.rd_blk(i:Nat){w:World}{b n s:Nat}{cs:List Value}{t:TypeId}{fr:Nat×Nat}(hO:O[i]? =some (.blk b (.cells cs.toArray t fr)))(hl:cs.length=n*s)(hw:Wd M W O w):Rd w w.heap.size s (some ⟨b,0,none⟩) n cs:=
 ⟨hl,fun _=>⟨b,0,rfl,(hw.own i _ hO).lt rfl,fun j u hu=>by rw[Nat.zero_add];exact hw.cell_blkL i hO hu⟩⟩
end
section
variable {P:Program}{Q:Exit→Act→World→Prop}{N:Nat}{M:List Nat}{W:World}{E:Env}{O:List Qg}
theorem Q4E(i:Nat){A:Option Addr}{n s:Nat}{xs:List Value}{cd:Code}(hO:O[i]? =some (.rd A n s xs))(hn:0<n)(h:∀b o,A=some ⟨b,o,none⟩→sE P Q N M W E O cd):sE P Q N M W E O cd:=fun a w ha hw=>by
 obtain⟨b,o,e,_⟩:=Go.Proofs.YtgdiadednlajgaaGreatDoor.Rd.of_on (hw.own i _ hO) hn;exact h b o e a w ha hw
end
theorem Wd.range_sets{M:List Nat}{W w:World}{O:List Qg}(i:Nat){b n c k:Nat}{e:TypeId}{S:List (Nat→Bool)}(hO:O[i]? =some (.row (some ⟨b,0,none⟩) n c e 256 (Xk S)))(hk:k<S.length)(hw:Wd M W O w):w.rangeAt b (0+k*256) (X2 (S.getD k Z2)):=fun j u hu=>by
 rw[Nat.zero_add];exact hw.cell_row i hO (Q0E S k hk j u hu)
def YZ(S:List (Nat→Bool))(k:Nat)(st:Nat→Bool)(c:Nat):List (Nat→Bool):=S.set k (fun j=>if j<c then (S.getD k Z2) j||st j else (S.getD k Z2) j)
theorem Q14(S:List (Nat→Bool))(k:Nat)(st:Nat→Bool)(c:Nat):(YZ S k st c).length=S.length:=by unfold YZ;rw[List.length_set]
theorem Q6X(S:List (Nat→Bool))(k:Nat)(st:Nat→Bool)(c:Nat)(hk:k<S.length):(YZ S k st c).getD k Z2=fun j=>if j<c then (S.getD k Z2) j||st j else (S.getD k Z2) j:=by
 unfold YZ
 rw[List.getD_eq_getElem?_getD,List.getElem?_set,if_pos rfl,if_pos hk]
 rfl
theorem Qai(S:List (Nat→Bool))(k:Nat)(st:Nat→Bool)(hk:k<S.length):YZ S k st 0=S:=by
 unfold YZ
 have e:(fun j=>if j<0 then (S.getD k Z2) j||st j else (S.getD k Z2) j)=S[k]:=by
  funext j
  rw[if_neg (by omega),List.getD_eq_getElem?_getD,List.getElem?_eq_getElem hk]
  rfl
 rw[e,List.set_getElem_self]
theorem Q9Q{S T:List (Nat→Bool)}(hl:S.length=T.length)(h:∀k c,k<S.length→c<256→(S.getD k Z2) c=(T.getD k Z2) c):Xk S=Xk T:=by
 induction S generalizing T with
 |nil=>cases T with
  |nil=>rfl
  |cons=>simp at hl
 |cons s S ih=>cases T with
  |nil=>simp at hl
  |cons t T=>
   have e1:X2 s=X2 t:=Jm (fun j hj=>h 0 j (by simp) hj);have e2:Xk S=Xk T:=ih (by simpa using hl) (fun k c hk hc=>h (k+1) c (by simpa using hk) hc);rw[Xk,Xk,e1,e2]
theorem Q4I(S:List (Nat→Bool))(k:Nat)(st:Nat→Bool)(c:Nat)(hk:k<S.length)(hc:c<256):(Xk (YZ S k st c)).set (k*256+c) (.bool ((S.getD k Z2) c||st c))=Xk (YZ S k st (c+1)):=by
 rw[Q4u _ _ _ _ (by rw[Q14];exact hk) hc,Q6X S k st c hk]
 unfold YZ
 rw[List.set_set]
 congr 2
 funext j
 by_cases h1:j=c
 ·subst h1;simp
 ·by_cases h2:j<c
  ·have:j<c+1:=by omega
   simp [h1,h2,this]
  ·have:¬j<c+1:=by omega
   simp [h1,h2,this]
theorem Qb3(S:List (Nat→Bool))(k x:Nat)(hk:k<S.length):Xk (YZ S k (S.getD x Z2) 256)=Xk (Vz S k x):=by
 refine Q9Q (by unfold Vz;rw[Q14,List.length_set]) fun k' c hk' hc=>?_
 rw[Q14] at hk'
 unfold YZ Vz
 by_cases h:k=k'
 ·subst h
  simp [List.getD_eq_getElem?_getD,hk,hc,orS]
 ·simp [List.getD_eq_getElem?_getD,List.getElem?_set_ne h]
theorem Q8R(S:List (Nat→Bool))(k x:Nat):(Vz S k x).length=S.length:=by unfold Vz;rw[List.length_set]
theorem KL(k:Nat):∀(l:List Nat) (S:List (Nat→Bool)),(l.foldl (fun S x=>Vz S k x) S).length=S.length
 |[],_=>rfl
 |x::l,S=>by rw[List.foldl_cons,KL k l,Q8R]
theorem Q6w(F:List Rl)(S:List (Nat→Bool))(k:Nat):(JU F S k).length=S.length:=KL k _ S
theorem K9(F:List Rl):∀(l:List Nat) (S:List (Nat→Bool)),(l.foldl (JU F) S).length=S.length
 |[],_=>rfl
 |x::l,S=>by rw[List.foldl_cons,K9 F l,Q6w]
theorem Yk(F:List Rl)(S:List (Nat→Bool)):∀t,(iter (ZQ F) t S).length=S.length
 |0=>rfl
 |t+1=>(K9 F _ _).trans (Yk F S t)
theorem Q9A(st:Nat→Bool):∀u∈X2 st,u.oneCell'=true:=by
 intro u hu
 simp only[X2,List.mem_map] at hu
 obtain⟨j,_,rfl⟩:=hu
 rfl
set_option maxRecDepth 100000 in
set_option maxHeartbeats 8000000 in
theorem Q5D{F:List Rl}{A:Option Addr}{n c:Nat}{W:World}(hf:Xq W W.heap.size A n F)(hF:FOk F)(hn:n≤40)(hn0:0<n):
  Calls Tryz.prog 32 #[.agg #[.slice A n c]] W (fun e w'=>∃b c',e=.returned (.slice (some ⟨b,0,none⟩) n c')∧W.heap.size≤b∧Rd w' w'.heap.size 256 (some ⟨b,0,none⟩) n (Xk (JS F))∧Below W.heap.size W w'):=by
 have hlen:F.length=n:=hf.1;obtain⟨b,o,rfl⟩:=hf.addr hn0;have HFM:=Lib.hid hf;have HF:=Lib.hid hF;have HLEN:=Lib.hid hlen;clear hf hF hlen
 go_enter Tryz.func32,Tryz.ntmps32
 refine QE (M:=[]) (W:=W) (N:=72) (E:=[(0,.agg #[.slice (some ⟨b,o,none⟩) n c])]) (O:=[]) ?_ (Ag.cons (Ag.nil rfl rfl) rfl) (Wd.start [] W)
 repeat(first|refine Q1 zM ?_|refine Q1 zA ?_|refine Q1 zF ?_|refine Q1 (zB 0) ?_|refine yB fun bf=>?_|refine Q8 ?_|refine Q6 ?_|refine Q2 ?_|refine Qe ?_|refine Q1 zL ?_)
 refine JI 63 256 ?_;refine X0 (ι:=Nat×Option Addr×Nat) (fun y=>y.1≤n) (fun y=>n - y.1) (fun y=>[(1,.pointer (some ⟨bf,0,none⟩)),(3,.slice y.2.1 y.1 y.2.2),(13,.slice (some ⟨b,o,none⟩) n c),(14,.int .i64 (n:Int)),(15,.int .i64 (y.1:Int))]) (fun y=>[.row y.2.1 y.1 y.2.2 63 256 (Xk ((F.take y.1).map Yq)),.blk bf (.cells [.slice (some ⟨b,o,none⟩) n c].toArray 24 (0,0))]) (0,none,0) [0,1] (by decide) (Nat.zero_le _) (.cons rfl rfl (.cons rfl rfl (.cons rfl rfl (.cons rfl rfl (.cons rfl rfl .nil))))) rfl ?_
 rintro⟨i,A',c'⟩ hi
 have hi':i≤n:=hi;clear hi
 show sE _ _ _ _ _ [(1,.pointer (some ⟨bf,0,none⟩)),(3,.slice A' i c'),(13,.slice (some ⟨b,o,none⟩) n c),(14,.int .i64 (n:Int)),(15,.int .i64 (i:Int))] [.row A' i c' 63 256 (Xk ((F.take i).map Yq)),.blk bf (.cells [.slice (some ⟨b,o,none⟩) n c].toArray 24 (0,0))] _
 by_cases hin:i<n
 ·obtain⟨rk,Ab,cb,An,cn,Ap,cp,hrk,hrg,hlk⟩:=HFM.out.rl hin;have HRK:=Lib.hid hrk;have HLK:=Lib.hid hlk;have HOK:=Lib.hid (HF.out i rk hrk);clear hrk hlk
  repeat(first|refine Q1 zM ?_|refine Q1 zA ?_|refine Q1 (zD 0) ?_|refine Q1 (zD 1) ?_|refine Q1 zE ?_|refine Q1 (zi (hj:=hin)) ?_|refine yA (t:=52) fun b7=>?_|refine yW 0 ?_|refine Q1 (Q4 (f:=53) rfl rfl (by decide) rfl rfl (fun w hw=>(Q9Y (HLK.out.on hw.k.below) HOK.out).mono (fun _ _ h=>h))) ?_|refine Qa (Qz (cs:=X2 _) rfl rfl rfl rfl (Qn _) (by decide)) rfl (by decide) (fun bn _=>?_)|refine Qa (QC (news:=X2 _) 2 rfl rfl rfl rfl rfl (fun w hw=>hw.rd_blk 0 rfl (by rw[Qn])) (Q9A _) (by omega)) rfl (by decide) (fun y _=>?_)|refine Q8 ?_|refine Q6 ?_|refine Q2 ?_|refine Qh ?_|refine Q5 rfl ?_|refine Qe ?_|refine Q1 (Xu rfl rfl (by decide) rfl rfl rfl (by first|exact decide_eq_true (by omega)|rfl)) ?_|refine Q1 zP ?_)
  obtain⟨A2,c2⟩:=y;refine QA (i+1,A2,c2) [2,3] (by decide) hin (by show n - (i+1)<n - i;omega) (.cons rfl rfl (.cons rfl rfl (.cons rfl rfl (.cons rfl rfl (.cons rfl (by go_num) .nil))))) ?_
  show [Qg.row _ _ _ _ _ (Xk ((F.take i).map Yq)++X2 (Yq rk)),_]=[Qg.row _ _ _ _ _ (Xk ((F.take (i+1)).map Yq)),_]
  rw[List.take_add_one,HRK.out,Option.toList_some,List.map_append,Q4S]
  simp [Xk]
 ·obtain rfl:i=n:=by omega
  repeat(first|refine Q1 zM ?_|refine Q1 zF ?_|refine Q1 (zB 1) ?_|refine Q8 ?_|refine Q6 ?_|refine Q2 ?_|refine Q3 rfl ?_|refine QX ?_|refine Qe ?_|refine Q1 zL ?_|refine Q1 zlf ?_)
  refine V9 0 rfl hn0 (fun br hA=>?_);subst hA
  have e0:Xk ((F.take i).map Yq)=Xk (iter (ZQ F) 0 (F.map Yq)):=by
   rw[List.take_of_length_le (by rw[HLEN.out];exact Nat.le_refl _)]
   rfl
  refine X0 (ι:=Nat) (fun t=>t≤i) (fun t=>i - t) (fun t=>[(1,.pointer (some ⟨bf,0,none⟩)),(3,.slice (some ⟨br,0,none⟩) i c'),(27,.int .i64 (i:Int)),(28,.int .i64 (t:Int))]) (fun t=>[.row (some ⟨br,0,none⟩) i c' 63 256 (Xk (iter (ZQ F) t (F.map Yq))),.blk bf (.cells [.slice (some ⟨b,o,none⟩) i c].toArray 24 (0,0))]) 0 [0,1] (by decide) (Nat.zero_le _) (.cons rfl rfl (.cons rfl rfl (.cons rfl rfl (.cons rfl rfl .nil)))) (by rw[← e0];rfl) ?_
  rintro t ht
  by_cases htn:t<i
  ·skip
   repeat(first|refine Q1 zM ?_|refine Q1 zF ?_|refine Q1 (zB 1) ?_|refine Q8 ?_|refine Q6 ?_|refine Q2 ?_|refine Qh ?_|refine Q5 rfl ?_|refine Qe ?_|refine Q1 zL ?_|refine Q1 zlt ?_)
   refine X0 (ι:=Nat) (fun k=>k≤i) (fun k=>i - k) (fun k=>[(1,.pointer (some ⟨bf,0,none⟩)),(3,.slice (some ⟨br,0,none⟩) i c'),(27,.int .i64 (i:Int)),(28,.int .i64 (t:Int)),(31,.slice (some ⟨b,o,none⟩) i c),(32,.int .i64 (i:Int)),(33,.int .i64 (k:Int))]) (fun k=>[.row (some ⟨br,0,none⟩) i c' 63 256 (Xk ((List.range k).foldl (JU F) (iter (ZQ F) t (F.map Yq)))),.blk bf (.cells [.slice (some ⟨b,o,none⟩) i c].toArray 24 (0,0))]) 0 [0,1] (by decide) (Nat.zero_le _) (.cons rfl rfl (.cons rfl rfl (.cons rfl rfl (.cons rfl rfl (.cons rfl rfl (.cons rfl rfl (.cons rfl rfl .nil))))))) rfl ?_
   rintro k hk
   by_cases hkn:k<i
   ·obtain⟨rk,Ab,cb,An,cn,Ap,cp,hrk,hrg,hlk⟩:=HFM.out.rl hkn;have HRK:=Lib.hid hrk;have HLK:=Lib.hid hlk;have HOK:=Lib.hid (HF.out k rk hrk);clear hrk hlk
    repeat(first|refine Q1 zM ?_|refine Q1 zA ?_|refine Q1 (zD 0) ?_|refine Q1 (zD 1) ?_|refine Q1 zE ?_|refine Q1 (zi (hj:=hkn)) ?_|refine yA (t:=52) fun b7=>?_|refine yW 0 ?_|refine Qa (Qx _ _ _ (f:=54) rfl rfl rfl (fun w hw=>Q1Z (n:=F.length) HLK.out HOK.out hw)) rfl (by decide) (fun z hz=>?_)|refine Q8 ?_|refine Q6 ?_|refine Q2 ?_|refine Qh ?_|refine Q5 rfl ?_|refine Qe ?_|refine Q1 zL ?_|refine Q1 zlt ?_)
    obtain⟨A2,c2⟩:=z;have hbl:=Q3G HOK.out;refine X0 (ι:=Nat) (fun j=>j≤(bl rk).length) (fun j=>(bl rk).length - j) (fun j=>[(1,.pointer (some ⟨bf,0,none⟩)),(3,.slice (some ⟨br,0,none⟩) i c'),(6,.int .i64 (k:Int)),(27,.int .i64 (i:Int)),(28,.int .i64 (t:Int)),(31,.slice (some ⟨b,o,none⟩) i c),(32,.int .i64 (i:Int)),(33,.int .i64 (k:Int)),(39,.slice A2 (bl rk).length c2),(40,.int .i64 ((bl rk).length:Int)),(41,.int .i64 (j:Int))]) (fun j=>[.rd A2 (bl rk).length 1 (iv (bl rk)),.row (some ⟨br,0,none⟩) i c' 63 256 (Xk (((bg F k).take j).foldl (fun S x=>Vz S k x) ((List.range k).foldl (JU F) (iter (ZQ F) t (F.map Yq))))),.blk bf (.cells [.slice (some ⟨b,o,none⟩) i c].toArray 24 (0,0))]) 0 [0,2,3] (by decide) (Nat.zero_le _) (.cons rfl rfl (.cons rfl rfl (.cons rfl rfl (.cons rfl rfl (.cons rfl rfl (.cons rfl rfl (.cons rfl rfl (.cons rfl rfl (.cons rfl rfl (.cons rfl rfl (.cons rfl rfl .nil))))))))))) rfl ?_
    rintro j hj
    by_cases hjn:j<(bl rk).length
    ·refine Q4E 0 rfl (by omega) (fun b2 o2 hA=>?_);subst hA;obtain⟨x,hx⟩:∃x,(bl rk)[j]? =some x:=⟨_,List.getElem?_eq_getElem hjn⟩;have hxb:=Q4P HOK.out x (List.mem_of_getElem? hx)
     have hxn:0≤x∧x<(i:Int):=by have:=HLEN.out;omega
     clear hxb
     have hxj:(iv (bl rk))[j]? =some (.int .i64 x):=by unfold iv;rw[List.getElem?_map,hx];rfl
     have hbgj:(bg F k)[j]? =some x.toNat:=by rw[Q2q HRK.out,List.getElem?_map,hx];rfl
     have HBG:=Lib.hid hbgj;clear hbgj;obtain⟨S,hS⟩:∃S,S=((bg F k).take j).foldl (fun S x=>Vz S k x) ((List.range k).foldl (JU F) (iter (ZQ F) t (F.map Yq))):=⟨_,rfl⟩
     have hSl:S.length=i:=by rw[hS,KL,K9,Yk,List.length_map];exact HLEN.out
     rw[← hS];have HS:=Lib.hid hS;clear hS
     have hxS:x.toNat<S.length:=by omega
     have hkS:k<S.length:=by omega
     repeat(first|refine Q1 zM ?_|refine Q1 zA ?_|refine Q1 (zi1 (hj:=hjn)) ?_|refine Q1 (Qv rfl rfl (by decide) rfl rfl rfl hxn) ?_|refine Q1 (QL rfl rfl (by decide) rfl rfl (fun w hw=>hw.cell_rd 0 rfl hxj)) ?_|refine Q1 (X8 (cs:=X2 (S.getD x.toNat Z2)) rfl rfl (by decide) rfl rfl (fun w hw=>hw.range_sets 1 rfl hxS) (Qn _)) ?_|refine Q8 ?_|refine Q6 ?_|refine Q2 ?_|refine Qh ?_|refine Q5 rfl ?_|refine Qe ?_|refine Q1 zlt ?_)
     obtain⟨st,hst⟩:∃st,st=S.getD x.toNat Z2:=⟨_,rfl⟩;rw[← hst];have HST:=Lib.hid hst;clear hst;refine X0 (ι:=Nat) (fun cc=>cc≤256) (fun cc=>256 - cc) (fun cc=>[(1,.pointer (some ⟨bf,0,none⟩)),(3,.slice (some ⟨br,0,none⟩) i c'),(6,.int .i64 (k:Int)),(27,.int .i64 (i:Int)),(28,.int .i64 (t:Int)),(31,.slice (some ⟨b,o,none⟩) i c),(32,.int .i64 (i:Int)),(33,.int .i64 (k:Int)),(39,.slice (some ⟨b2,o2,none⟩) (bl rk).length c2),(40,.int .i64 ((bl rk).length:Int)),(41,.int .i64 (j:Int)),(48,.agg (X2 st).toArray),(49,.int .i64 (cc:Int))]) (fun cc=>[.rd (some ⟨b2,o2,none⟩) (bl rk).length 1 (iv (bl rk)),.row (some ⟨br,0,none⟩) i c' 63 256 (Xk (YZ S k st cc)),.blk bf (.cells [.slice (some ⟨b,o,none⟩) i c].toArray 24 (0,0))]) 0 [0,1,2] (by decide) (Nat.zero_le _) (.cons rfl rfl (.cons rfl rfl (.cons rfl rfl (.cons rfl rfl (.cons rfl rfl (.cons rfl rfl (.cons rfl rfl (.cons rfl rfl (.cons rfl rfl (.cons rfl rfl (.cons rfl rfl (.cons rfl rfl (.cons rfl rfl .nil))))))))))))) (by rw[Qai S k st hkS];rfl) ?_
     rintro cc hcc
     by_cases hcn:cc<256
     ·have hlt:k*256+cc<i*256:=by omega
      have hcell0:=Q16 (YZ S k st cc) k cc (by rw[Q14];exact hkS) hcn;rw[Q6X S k st cc hkS] at hcell0
      have hcell:(Xk (YZ S k st cc))[0+k*256+cc*1]? =some (.bool ((S.getD k Z2) cc)):=by
       rw[Nat.zero_add,Nat.mul_one,hcell0]
       show some (Value.bool (if cc<cc then _ else _))=_
       rw[if_neg (Nat.lt_irrefl _)]
      clear hcell0;obtain⟨bb,hbb⟩:∃bb,(S.getD k Z2) cc=bb:=⟨_,rfl⟩;rw[hbb] at hcell;have HB:=Lib.hid hbb;clear hbb
      cases bb with
      |true=>
       skip
       repeat(first|refine Q1 zM ?_|refine Q1 zA ?_|refine Q1 (Yl (v:=.bool (st cc)) rfl rfl (by decide) rfl rfl rfl hcn (ZN st hcn)) ?_|refine Q8 ?_|refine Q6 ?_|refine Q2 ?_|refine Qh ?_|refine Q5 rfl ?_|refine Qe ?_|refine Q1 zlt ?_)
       refine ZW [14] (by kernel_rfl) ?_;refine Qk 0 rfl (by kernel_rfl) (Q7.rfl_) zM ?_;refine Qk 1 rfl (by kernel_rfl) (Q7.rfl_) zM ?_;refine Qk 2 rfl (by kernel_rfl) (Q7.rfl_) zM ?_;refine Qk 3 rfl (by kernel_rfl) (Q7.rfl_) zM ?_;refine Qk 4 rfl (by kernel_rfl) (Q7.rfl_) zM ?_;refine Qk 5 rfl (by kernel_rfl) (Q7.rfl_) zM ?_;refine Qk 6 rfl (by kernel_rfl) (Q7.rfl_) (zi (hj:=hkn)) ?_;refine Qk 7 rfl (by kernel_rfl) (Q7.rfl_) (XY rfl rfl (by decide) rfl rfl rfl hcn) ?_;refine Qk 8 rfl (by kernel_rfl) (Q7.rfl_) (zK 1 hcell) ?_;refine Qk 9 rfl (by kernel_rfl) (Q7.rfl_) zM ?_;refine Qk 10 rfl (by kernel_rfl) (Q7.rfl_) zS ?_;refine Qk 11 rfl (by kernel_rfl) (Q7.rfl_) zY ?_;refine Qk 12 rfl (by kernel_rfl) (Q7.rfl_) (zi (hj:=hkn)) ?_;refine Qk 13 rfl (by kernel_rfl) (Q7.rfl_) (XY rfl rfl (by decide) rfl rfl rfl hcn) ?_;refine Xw 14 (by kernel_rfl) rfl rfl (QI 1 rfl rfl rfl rfl rfl rfl (by omega)) (fun _=>.inl (by decide)) rfl (fun _ _=>?_);refine Zc ?_ (by kernel_rfl)
       repeat(first|refine Q1 zM ?_|refine Q8 ?_|refine Q2 ?_|refine Q1 zP ?_)
       refine QA (cc+1) [0,1,2] (by decide) (by omega) (by show 256 - (cc+1)<256 - cc;omega) (.cons rfl rfl (.cons rfl rfl (.cons rfl rfl (.cons rfl rfl (.cons rfl rfl (.cons rfl rfl (.cons rfl rfl (.cons rfl rfl (.cons rfl rfl (.cons rfl rfl (.cons rfl rfl (.cons rfl rfl (.cons rfl (by go_num) .nil))))))))))))) ?_
       show [_,Qg.row _ _ _ _ _ ((Xk (YZ S k st cc)).set (0+k*256+cc*1) (.bool true)),_]=[_,Qg.row _ _ _ _ _ (Xk (YZ S k st (cc+1))),_]
       rw[← Q4I S k st cc hkS hcn,Nat.zero_add,Nat.mul_one,HB.out]
       rfl
      |false=>
       skip
       repeat(first|refine Q1 zM ?_|refine Q1 zA ?_|refine Q1 (Yl (v:=.bool (st cc)) rfl rfl (by decide) rfl rfl rfl hcn (ZN st hcn)) ?_|refine Q8 ?_|refine Q6 ?_|refine Q2 ?_|refine Qh ?_|refine Q5 rfl ?_|refine Qe ?_|refine Q1 zlt ?_)
       refine ZW [14] (by kernel_rfl) ?_;refine Qk 0 rfl (by kernel_rfl) (Q7.rfl_) zM ?_;refine Qk 1 rfl (by kernel_rfl) (Q7.rfl_) zM ?_;refine Qk 2 rfl (by kernel_rfl) (Q7.rfl_) zM ?_;refine Qk 3 rfl (by kernel_rfl) (Q7.rfl_) zM ?_;refine Qk 4 rfl (by kernel_rfl) (Q7.rfl_) zM ?_;refine Qk 5 rfl (by kernel_rfl) (Q7.rfl_) zM ?_;refine Qk 6 rfl (by kernel_rfl) (Q7.rfl_) (zi (hj:=hkn)) ?_;refine Qk 7 rfl (by kernel_rfl) (Q7.rfl_) (XY rfl rfl (by decide) rfl rfl rfl hcn) ?_;refine Qk 8 rfl (by kernel_rfl) (Q7.rfl_) (zK 1 hcell) ?_;refine Qk 9 rfl (by kernel_rfl) (Q7.rfl_) zM ?_;refine Qk 10 rfl (by kernel_rfl) (Q7.rfl_) zM ?_;refine Qk 11 rfl (by kernel_rfl) (Q7.rfl_) zN ?_;refine Qk 12 rfl (by kernel_rfl) (Q7.rfl_) (zi (hj:=hkn)) ?_;refine Qk 13 rfl (by kernel_rfl) (Q7.rfl_) (XY rfl rfl (by decide) rfl rfl rfl hcn) ?_;refine Xw 14 (by kernel_rfl) rfl rfl (QI 1 rfl rfl rfl rfl rfl rfl (by omega)) (fun _=>.inl (by decide)) rfl (fun _ _=>?_);refine Zc ?_ (by kernel_rfl)
       repeat(first|refine Q1 zM ?_|refine Q8 ?_|refine Q2 ?_|refine Q1 zP ?_)
       refine QA (cc+1) [0,1,2] (by decide) (by omega) (by show 256 - (cc+1)<256 - cc;omega) (.cons rfl rfl (.cons rfl rfl (.cons rfl rfl (.cons rfl rfl (.cons rfl rfl (.cons rfl rfl (.cons rfl rfl (.cons rfl rfl (.cons rfl rfl (.cons rfl rfl (.cons rfl rfl (.cons rfl rfl (.cons rfl (by go_num) .nil))))))))))))) ?_
       show [_,Qg.row _ _ _ _ _ ((Xk (YZ S k st cc)).set (0+k*256+cc*1) (.bool (st cc))),_]=[_,Qg.row _ _ _ _ _ (Xk (YZ S k st (cc+1))),_]
       rw[← Q4I S k st cc hkS hcn,Nat.zero_add,Nat.mul_one,HB.out]
       rfl
     ·skip
      repeat(first|refine Q1 zM ?_|refine Q8 ?_|refine Q6 ?_|refine Q2 ?_|refine Q3 rfl ?_|refine QX ?_|refine Q1 (Xu rfl rfl (by decide) rfl rfl rfl (by first|exact decide_eq_false (by omega)|rfl)) ?_|refine Q1 zP ?_)
      refine QA (j+1) [0,1,2] (by decide) (by omega) (by show (bl rk).length - (j+1)<(bl rk).length - j;omega) (.cons rfl rfl (.cons rfl rfl (.cons rfl rfl (.cons rfl rfl (.cons rfl rfl (.cons rfl rfl (.cons rfl rfl (.cons rfl rfl (.cons rfl rfl (.cons rfl rfl (.cons rfl (by go_num) .nil))))))))))) ?_
      obtain rfl:cc=256:=by omega
      show [_,Qg.row _ _ _ _ _ (Xk (YZ S k st 256)),_]=[_,Qg.row _ _ _ _ _ (Xk (((bg F k).take (j+1)).foldl (fun S x=>Vz S k x) _)),_]
      rw[HST.out,Qb3 S k x.toNat hkS,List.take_add_one,HBG.out,Option.toList_some,List.foldl_append,← HS.out]
      rfl
    ·skip
     repeat(first|refine Q1 zM ?_|refine Q8 ?_|refine Q6 ?_|refine Q2 ?_|refine Q3 rfl ?_|refine QX ?_|refine Q1 (Xu rfl rfl (by decide) rfl rfl rfl (by first|exact decide_eq_false (by omega)|rfl)) ?_|refine Q1 zP ?_)
     refine QA (k+1) [1,2] (by decide) hkn (by omega) (.cons rfl rfl (.cons rfl rfl (.cons rfl rfl (.cons rfl rfl (.cons rfl rfl (.cons rfl rfl (.cons rfl (by go_num) .nil))))))) ?_
     show [Qg.row _ _ _ _ _ _,_]=[Qg.row _ _ _ _ _ (Xk ((List.range (k+1)).foldl (JU F) _)),_]
     rw[List.range_succ,List.foldl_append,List.take_of_length_le (by rw[Q2q HRK.out,List.length_map];omega)]
     rfl
   ·skip
    repeat(first|refine Q1 zM ?_|refine Q8 ?_|refine Q6 ?_|refine Q2 ?_|refine Q3 rfl ?_|refine QX ?_|refine Q1 (Xu rfl rfl (by decide) rfl rfl rfl (by first|exact decide_eq_false (by omega)|rfl)) ?_|refine Q1 zP ?_)
    refine QA (t+1) [0,1] (by decide) htn (by omega) (.cons rfl rfl (.cons rfl rfl (.cons rfl rfl (.cons rfl (by go_num) .nil)))) ?_
    have hkk:k=F.length:=by rw[HLEN.out];omega
    subst hkk
    rfl
  ·skip
   repeat(first|refine Q1 zM ?_|refine Q1 zA ?_|refine Q8 ?_|refine Q6 ?_|refine Q2 ?_|refine Q3 rfl ?_|refine QX ?_|refine Ql ?_|refine Q1 zlf ?_)
   have htt:t=F.length:=by rw[HLEN.out];omega
   refine Q9 (by exact .inr rfl) rfl (.tmp rfl) (fun w hw=>⟨br,c',rfl,?_,⟨?_,fun _=>⟨br,0,rfl,(hw.own 0 _ rfl).lt rfl,fun j u hu=>?_⟩⟩,hw.k.below⟩)
   ·rcases Nat.lt_or_ge br W.heap.size with h|h
    ·have:=hw.new 0 _ br rfl rfl h
     simp [Qg.w] at this
    ·exact h
   ·unfold JS;rw[Q4A,Yk,List.length_map,HLEN.out]
   ·rw[Nat.zero_add];refine hw.cell_row 0 rfl ?_;rw[htt];exact hu
end Go.Proofs.YtgdiadednlajgaaGreatDoor
