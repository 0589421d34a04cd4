import Derived.Test.YtgdiadednlajgaaGreatDoorP2
namespace Go.Proofs.YtgdiadednlajgaaGreatDoor
set_option linter.unusedVariables false
set_option linter.unusedSimpArgs false
open Go.RowKit
theorem QbB{α β γ:Type}{T:α→β→γ→Prop}{G:Prop}(a:α)(b:β)(c:γ)(main:T a b c→G)(tail:T a b c):G:=main tail
section
variable {P:Program}{Q:Exit→Act→World→Prop}{ops:Array Oper}{N:Nat}{M:List Nat}{W:World}{E:Env}{O:List Qg}
theorem Q2O{l:List Oper}{E':Env}{O':List Qg}(h:lE P ops Q N M W E' O' l)(hE:Q0u E E')(f:∀w,Wd M W O w→Wd M W O' w):lE P ops Q N M W E O l:=fun a w ha hw=>h a w (hE.ag ha) (f w hw)
theorem Q9s{l:List Oper}{φ:Prop}(f:∀w,Wd M W O w→φ)(h:φ→lE P ops Q N M W E O l):lE P ops Q N M W E O l:=fun a w ha hw=>h (f w hw) a w ha hw
end
theorem QbM{w:World}{B n b q:Nat}{xs:List Value}(h:Rd w B 1 (some ⟨b,q,none⟩) n xs)(hn:0<n){j:Nat}{u:Value}(hu:xs[j]? =some u):w.cell? ⟨b,q+j,none⟩=some u:=by
 obtain⟨b',o',e,_,hc⟩:=h.2 hn
 cases e
 exact hc j u hu
structure RnY where
 ls:List RlY
 A:Option Addr
 c:Nat
 at_:List Qg
structure RnI(W:World)(F:List Rl)(y:RnY):Prop where
 n:y.ls.length≤F.length
 m:y.ls.length≤41
 x:y.ls.map RlY.x=Q1O F y.ls.length
 f:∀w,Below W.heap.size W w→(∀a∈y.at_,a.on w)→∀z∈y.ls,RlF z w
theorem RnI.start{W:World}{F:List Rl}{A:Option Addr}{c:Nat}{at_:List Qg}:RnI W F ⟨[],A,c,at_⟩:=
 ⟨Nat.zero_le _,Nat.zero_le _,rfl,fun w _ _ z hz=>by cases hz⟩
abbrev Qct(i:Nat)(r:Rl)(Ab:Option Addr)(cb:Nat)(A:Option Addr)(c:Nat)(Ap:Option Addr)(cp:Nat):RlY:=⟨Q2v i r,Ab,cb,A,c,Ap,cp,[],none,0,true,[]⟩
theorem RnI.next{W:World}{F:List Rl}{ls:List RlY}{A A' A4 Ab An Ap:Option Addr}{c c' c4 cb cn cp:Nat}{at_:List Qg}{r:Rl}{nm:List (List UInt8)}(h:RnI W F ⟨ls,A,c,at_⟩)(hr:F[ls.length]? =some r)(h41:ls.length<41)(hrl:RuL W r Ab cb An cn Ap cp)(hnm:nm=(r.names.take 13).mapIdx Jq)(hc':nm.length≤c'):RnI W F ⟨ls++[Qct ls.length r Ab cb A' c' Ap cp],A4,c4,.rd A' nm.length 1 (sv nm)::at_⟩:=by
 have hx:ls.map RlY.x=Q1O F ls.length:=h.x;refine⟨?_,?_,?_,?_⟩
 ·show (ls++[_]).length≤_
  rw[List.length_append,List.length_singleton];exact(List.getElem?_eq_some_iff.1 hr).1
 ·show (ls++[_]).length≤_
  rw[List.length_append,List.length_singleton];exact h41
 ·show (ls++[_]).map RlY.x=Q1O F (ls++[_]).length
  rw[List.length_append,List.length_singleton,Qal hr,List.map_append,hx]
  rfl
 ·intro w hb ha z hz
  rcases List.mem_append.1 hz with hz|hz
  ·exact h.f w hb (fun a h=>ha a (List.mem_cons_of_mem _ h)) z hz
  ·rw[List.mem_singleton.1 hz];have hon:Rd w w.heap.size 1 A' nm.length (sv nm):=ha _ List.mem_cons_self;subst hnm;exact⟨⟨hrl.cb,hc',hrl.cp,(hrl.b.below hb).more hb.size,hon,(hrl.p.below hb).more hb.size⟩,Qj _ _,Nat.le_refl _⟩
theorem RnI.len{W:World}{F:List Rl}{ls:List RlY}{A:Option Addr}{c:Nat}{at_:List Qg}(h:RnI W F ⟨ls,A,c,at_⟩){x:RlY}:(ls++[x]).length=ls.length+1:=by rw[List.length_append,List.length_singleton]
section
variable {A:Option Addr}{n c:Nat}{W:World}{F:List Rl}{k:Int}
set_option maxRecDepth 100000 in
set_option maxHeartbeats 16000000 in
theorem Q1V(hf:Xq W W.heap.size A n F)(hs:FSm F)(hc:n≤c)(hg:GV W)(hk:-9223372036854775808≤k∧k≤9223372036854775807):
  Calls Tryz.prog 8 #[.agg #[.slice A n c],.int .i64 k] W (QT W true):=by
 have HG:=Lib.hid hg;have HF0:=Lib.hid hf;have HS:=Lib.hid hs;have hlen:F.length=n:=hf.1;have hnb:n≤1048576:=hlen▸hs.1;have HLEN:=Lib.hid hlen;clear hf hs hg hlen
 go_enter Tryz.func8,Tryz.ntmps8
 refine QE (M:=[]) (W:=W) (N:=153) (E:=[(0,.agg #[.slice A n c]),(1,.int .i64 k)]) (O:=[]) ?_ (Ag.cons (Ag.cons (Ag.nil rfl rfl) rfl) rfl) (Wd.start [] W);refine yq<|yr ?_;refine yB fun b2=>?_;refine yo zA<|yl<|yn<|yq<|yq<|yr ?_;refine Q1 (Q4 (xs:=[]) (vs:=[]) (f:=9) rfl rfl (by decide) rfl rfl (fun w hw=>ZK (HG.out.on hw.k.below))) ?_;refine yo zO<|yl<|yn<|y0<|ys<|yn<|yq<|yr ?_;refine Q3E (fun w1 hw1=>?_);have r2:w1.rangeAt b2 0 [.slice A n c]:=hw1.range_blk 0 rfl;have HF:=Lib.hid (HF0.out.on hw1.k.below);have HB1:=Lib.hid hw1.k.below;have HG1:=Lib.hid (HG.out.on hw1.k.below);clear hw1;refine Q1 (QZ (xs:=[]) (vs:=[]) (v:=.agg #[.slice none 0 0]) rfl rfl (by decide) rfl rfl (fun w=>run_build w _ _ _ (by kernel_rfl))) ?_;refine yA fun b5=>?_;refine yW 0 ?_;refine yl<|yn<|yq<|yq<|yr<|yo zA<|yl<|yn<|yb ?_;refine JI 52 12 ?_
 apply QbB (T:=fun kQ kO kC=>∀(ls:List RlY) (A3:Option Addr) (c3:Nat) (at_:List Qg),RnI w1 F ⟨ls,A3,c3,at_⟩→(ls.length=n∨ls.length=41)→lE Tryz.prog kO kQ 153 [] w1 [(1,.int .i64 k),(2,.pointer (some ⟨b2,0,none⟩)),(5,.pointer (some ⟨b5,0,none⟩))] (.row A3 ls.length c3 52 12 (QR ls)::.blk b5 (.cells ([.slice A3 ls.length c3]:List Value).toArray 24 (0,0))::at_) kC)
 case main=>
  intro key;refine JW (ι:=RnY) (RnI w1 F) (fun y=>41 - y.ls.length) (fun y=>[(1,.int .i64 k),(2,.pointer (some ⟨b2,0,none⟩)),(5,.pointer (some ⟨b5,0,none⟩)),(6,.int .i64 (y.ls.length:Int))]) (fun y=>.row y.A y.ls.length y.c 52 12 (QR y.ls)::.blk b5 (.cells ([.slice y.A y.ls.length y.c]:List Value).toArray 24 (0,0))::y.at_) ⟨[],none,0,[]⟩ RnI.start (.cons rfl rfl (.cons rfl rfl (.cons rfl rfl (.cons rfl rfl .nil)))) (fun w hw=>hw) ?_
  rintro⟨ls,A3,c3,at_⟩ hinv
  have hlsn:ls.length≤n:=HLEN.out▸hinv.n;have hls41:ls.length≤41:=hinv.m;have HI:=Lib.hid hinv;clear hinv
  show sE _ _ _ _ _ [(1,.int .i64 k),(2,.pointer (some ⟨b2,0,none⟩)),(5,.pointer (some ⟨b5,0,none⟩)),(6,.int .i64 (ls.length:Int))] (.row A3 ls.length c3 52 12 (QR ls)::.blk b5 (.cells ([.slice A3 ls.length c3]:List Value).toArray 24 (0,0))::at_) _
  by_cases h1:ls.length<n
  ·by_cases h41:ls.length<41
   ·obtain⟨b,o,r,Ab,cb,An,cn,Ap,cp,hA,hr,hrg,hrl⟩:=HF.out.rule h1;have HRG:=Lib.hid hrg;have HRL:=Lib.hid hrl;have HR:=Lib.hid hr;have r2A:w1.rangeAt b2 0 [.slice (some ⟨b,o,none⟩) n c]:=hA▸r2;have hrn:r.names.length≤1048576:=(HS.out.2 r (List.mem_of_getElem? hr)).names;clear hrg hrl hr;have hit:=K2 (i:=ls.length) (by omega);refine yq<|yq<|yr<|yo zM<|yo zF<|yo zR<|yo zL<|yo zlt<|yo zM<|yo zM<|yo zlt<|yo zY<|yl<|yn<|y1<|ys<|yn<|yq<|yb<|yq<|yr<|yo zF<|yo zR<|yo zM<|yo (zi (hj:=h1))<|yo zE ?_;refine yA fun b7=>?_;refine yW 0 ?_;refine yl<|yn<|yq<|yr<|yo zM ?_;refine Q1 (Q4 (f:=24) rfl rfl (by decide) rfl rfl (fun w hw=>Yx (n:=ls.length) (by omega) w)) ?_;refine Q1 (X9 (a:=[114]) (b:=Lib.itoa (ls.length:Int)) (r:=114::Lib.itoa (ls.length:Int)) rfl rfl rfl (by decide) rfl rfl rfl (by simp only[List.length_cons,List.length_nil];omega)) ?_;refine yo zF ?_;refine yS 0 ?_;refine yl<|yn<|yq<|yr<|yo zF ?_;refine yS 0 ?_;refine yl<|yn<|yq<|yq<|yr<|yo zA<|yl<|yn<|yb ?_;refine JI 9 1 ?_
    apply QbB (T:=fun kQ kO kC=>∀(nm:List (List UInt8)) (A':Option Addr) (c':Nat),nm=(r.names.take 13).mapIdx Jq→lE Tryz.prog kO kQ 153 [] w1 [(1,.int .i64 k),(2,.pointer (some ⟨b2,0,none⟩)),(5,.pointer (some ⟨b5,0,none⟩)),(6,.int .i64 (ls.length:Int)),(7,.pointer (some ⟨b7,0,none⟩))] (.row A' nm.length c' 9 1 (sv nm)::.blk b7 (.cells (ruC (Q2v ls.length r) (.slice Ab r.bs.length cb) (.slice A' nm.length c') (.slice Ap r.parts.length cp)).toArray 52 (0,0))::.row A3 ls.length c3 52 12 (QR ls)::.blk b5 (.cells ([.slice A3 ls.length c3]:List Value).toArray 24 (0,0))::at_) kC)
    case main=>
     intro key2;refine JW (ι:=List (List UInt8)×Option Addr×Nat) (fun z=>z.1=(r.names.take z.1.length).mapIdx Jq∧z.1.length≤r.names.length∧z.1.length≤13) (fun z=>13 - z.1.length) (fun z=>[(1,.int .i64 k),(2,.pointer (some ⟨b2,0,none⟩)),(5,.pointer (some ⟨b5,0,none⟩)),(6,.int .i64 (ls.length:Int)),(7,.pointer (some ⟨b7,0,none⟩)),(8,.int .i64 (z.1.length:Int))]) (fun z=>.row z.2.1 z.1.length z.2.2 9 1 (sv z.1)::.blk b7 (.cells (ruC (Q2v ls.length r) (.slice Ab r.bs.length cb) (.slice z.2.1 z.1.length z.2.2) (.slice Ap r.parts.length cp)).toArray 52 (0,0))::.row A3 ls.length c3 52 12 (QR ls)::.blk b5 (.cells ([.slice A3 ls.length c3]:List Value).toArray 24 (0,0))::at_) ([],none,0) ⟨rfl,Nat.zero_le _,Nat.zero_le _⟩ (.cons rfl rfl (.cons rfl rfl (.cons rfl rfl (.cons rfl rfl (.cons rfl rfl (.cons rfl rfl .nil)))))) (fun w hw=>hw) ?_
     rintro⟨nm,A',c'⟩ ⟨hnm,hkn,hk13⟩
     simp only at hnm hkn hk13
     have HNM:=Lib.hid hnm;clear hnm
     show sE _ _ _ _ _ [(1,.int .i64 k),(2,.pointer (some ⟨b2,0,none⟩)),(5,.pointer (some ⟨b5,0,none⟩)),(6,.int .i64 (ls.length:Int)),(7,.pointer (some ⟨b7,0,none⟩)),(8,.int .i64 (nm.length:Int))] (.row A' nm.length c' 9 1 (sv nm)::.blk b7 (.cells (ruC (Q2v ls.length r) (.slice Ab r.bs.length cb) (.slice A' nm.length c') (.slice Ap r.parts.length cp)).toArray 52 (0,0))::.row A3 ls.length c3 52 12 (QR ls)::.blk b5 (.cells ([.slice A3 ls.length c3]:List Value).toArray 24 (0,0))::at_) _
     by_cases hk1:nm.length<r.names.length
     ·by_cases hk2:nm.length<13
      ·obtain⟨s,hs⟩:∃s,r.names[nm.length]? =some s:=⟨_,List.getElem?_eq_getElem hk1⟩;obtain⟨bn,on_,hAn,hAn2⟩:=HRL.out.n.2 (by omega)
       have HCN:=Lib.hid (show w1.cell? ⟨bn,on_+nm.length,none⟩=some (.string ⟨s.toArray⟩) from by
        have h:Rd w1 w1.heap.size 1 (some ⟨bn,on_,none⟩) r.names.length (sv r.names):=hAn▸HRL.out.n
        exact QbM h (by omega) (by unfold sv;rw[List.getElem?_map,hs];rfl))
       have HRG2:=Lib.hid (hAn▸HRG.out);have hnx:=Qab hs;rw[← HNM.out] at hnx;obtain⟨x,hx⟩:∃x,Jq nm.length s=x:=⟨_,rfl⟩;rw[hx] at hnx
       have hl:(nm++[x]).length=nm.length+1:=by rw[List.length_append,List.length_singleton]
       have hinv2:(nm++[x])=(r.names.take (nm++[x]).length).mapIdx Jq∧(nm++[x]).length≤r.names.length∧(nm++[x]).length≤13:=by
        rw[hl];exact⟨hnx.symm,hk1,hk2⟩
       have HINV2:=Lib.hid hinv2;have hit2:=K2 (i:=nm.length) (by omega)
       have hsv:sv (nm++[x])=sv nm++[.string ⟨x.toArray⟩]:=by unfold sv;rw[List.map_append];rfl
       have HSV:=Lib.hid hsv;have HX:=Lib.hid hx;clear hAn hAn2 hnx hinv2 hsv hx
       by_cases hs0:s=[]
       ·have htest:((⟨s.toArray⟩:ByteArray).data.toList==(⟨#[]⟩:ByteArray).data.toList)=true:=by rw[hs0];rfl
        obtain rfl:x=[]:=by rw[← HX.out,hs0];rfl
        clear hs hs0;refine yq<|yq<|yr<|yo zM<|yo zF<|yo zR<|yo zM<|yo (zi (hj:=h1))<|yo zF ?_;refine Q1 (QL rfl rfl (by decide) rfl rfl (fun w hw=>hw.cell_range (j:=10) HRG2.out rfl (by simp))) ?_;refine yo zL<|yo zlt<|yo zM<|yo zM<|yo zlt<|yo zY<|yl<|yn<|y1<|ys<|yn<|yq<|yb<|yq<|yr<|yo zF<|yo zR<|yo zM<|yo (zi (hj:=h1))<|yo zF ?_;refine Q1 (QL rfl rfl (by decide) rfl rfl (fun w hw=>hw.cell_range (j:=10) HRG2.out rfl (by simp))) ?_;refine yo zM<|yo (zi1 (hj:=hk1))<|yo (zG HCN.out)<|yo zsa<|yl<|yn<|y1<|yr<|yo zF<|yo (zB 1) ?_;refine Qa (Qz (size:=1) rfl rfl rfl rfl rfl (by decide)) rfl (by decide) (fun bs1 _=>?_);refine Qa (QC 1 rfl rfl rfl rfl rfl (fun w hw=>hw.rd_blk 0 rfl rfl) (by simp [Value.oneCell']) (by omega)) rfl (by decide) (fun z1 _=>?_);refine yo zF ?_;refine yS 2 ?_;refine yl<|yn<|yr<|yo zM<|yo zP<|yo zA<|yl ?_;refine Xj (nm++[[]],z1.1,z1.2) HINV2.out (by show 13 - (nm++[[]]).length<13 - nm.length;omega) (.cons rfl rfl (.cons rfl rfl (.cons rfl rfl (.cons rfl rfl (.cons rfl rfl (.cons rfl (by rw[hl];go_num) .nil)))))) (fun w hw=>?_)
        show Wd [] w1 (.row z1.1 (nm++[[]]).length z1.2 9 1 (sv (nm++[[]]))::.blk b7 (.cells (ruC (Q2v ls.length r) (.slice Ab r.bs.length cb) (.slice z1.1 (nm++[[]]).length z1.2) (.slice Ap r.parts.length cp)).toArray 52 (0,0))::_) w
        rw[hl,HSV.out];exact hw.tl
       ·have htest:((⟨s.toArray⟩:ByteArray).data.toList==(⟨#[]⟩:ByteArray).data.toList)=false:=beq_eq_false_iff_ne.2 hs0
        obtain rfl:x=112::Lib.itoa (nm.length:Int):=by rw[← HX.out];unfold Jq;rw[if_neg hs0]
        clear hs hs0;refine yq<|yq<|yr<|yo zM<|yo zF<|yo zR<|yo zM<|yo (zi (hj:=h1))<|yo zF ?_;refine Q1 (QL rfl rfl (by decide) rfl rfl (fun w hw=>hw.cell_range (j:=10) HRG2.out rfl (by simp))) ?_;refine yo zL<|yo zlt<|yo zM<|yo zM<|yo zlt<|yo zY<|yl<|yn<|y1<|ys<|yn<|yq<|yb<|yq<|yr<|yo zF<|yo zR<|yo zM<|yo (zi (hj:=h1))<|yo zF ?_;refine Q1 (QL rfl rfl (by decide) rfl rfl (fun w hw=>hw.cell_range (j:=10) HRG2.out rfl (by simp))) ?_;refine yo zM<|yo (zi1 (hj:=hk1))<|yo (zG HCN.out)<|yo zsa<|yl<|yn<|y0 ?_;refine Zs [.blk b7 (.cells (ruC (Q2v ls.length r) (.slice Ab r.bs.length cb) (.slice A' nm.length c') (.slice Ap r.parts.length cp)).toArray 52 (0,0))] [8] (by kernel_rfl) ?_;refine Qk 0 rfl (by kernel_rfl) (Q7.sel [1] (by decide) rfl) zF ?_;refine Qk 1 rfl (by kernel_rfl) (Q7.sel [1] (by decide) rfl) (zB 0) ?_;refine Qk 2 rfl (by kernel_rfl) (Q7.sel [1] (by decide) rfl) zM ?_;refine Qk 3 rfl (by kernel_rfl) (Q7.sel [1] (by decide) rfl) (Q4 (f:=24) rfl rfl (by decide) rfl rfl (fun w hw=>Yx (n:=nm.length) (by omega) w)) ?_;(refine Qk 4 rfl (by kernel_rfl) (Q7.sel [1] (by decide) rfl) (X9 (a:=[112]) (b:=Lib.itoa (nm.length:Int)) (r:=112::Lib.itoa (nm.length:Int)) rfl rfl rfl (by decide) rfl rfl rfl (by simp only[List.length_cons,List.length_nil];omega)) ?_);refine ZR 5 (by kernel_rfl) rfl rfl (Qz (size:=1) rfl rfl rfl rfl rfl (by decide)) (fun _=>.inr (Q7.sel [2] (by decide) rfl)) rfl (by decide) (fun bs1 _=>?_);refine ZR 6 (by kernel_rfl) rfl rfl (QC 1 rfl rfl rfl rfl rfl (fun w hw=>hw.rd_blk 0 rfl rfl) (by simp [Value.oneCell']) (by omega)) (fun _=>.inr (Q7.sel [2] (by decide) rfl)) rfl (by decide) (fun z1 _=>?_);refine Qk 7 rfl (by kernel_rfl) (Q7.sel [2] (by decide) rfl) zF ?_;refine Xw 8 (by kernel_rfl) rfl rfl (Zp 2 rfl rfl rfl rfl rfl rfl rfl) (fun _=>.inl (by decide)) rfl (fun _ _=>?_);refine Zc ?_ (by kernel_rfl);refine yn<|yr<|yo zM<|yo zP<|yo zA<|yl ?_;refine Xj (nm++[112::Lib.itoa (nm.length:Int)],z1.1,z1.2) HINV2.out (by show 13 - (nm++[112::Lib.itoa (nm.length:Int)]).length<13 - nm.length;omega) (.cons rfl rfl (.cons rfl rfl (.cons rfl rfl (.cons rfl rfl (.cons rfl rfl (.cons rfl (by rw[hl];go_num) .nil)))))) (fun w hw=>?_)
        show Wd [] w1 (.row z1.1 (nm++[112::Lib.itoa (nm.length:Int)]).length z1.2 9 1 (sv (nm++[112::Lib.itoa (nm.length:Int)]))::.blk b7 (.cells (ruC (Q2v ls.length r) (.slice Ab r.bs.length cb) (.slice z1.1 (nm++[112::Lib.itoa (nm.length:Int)]).length z1.2) (.slice Ap r.parts.length cp)).toArray 52 (0,0))::_) w
        rw[hl,HSV.out];exact hw.tl
      ·have hk:=key2 nm A' c' (by
        have h:=HNM.out;rw[show nm.length=13 by omega] at h
        exact h)
       refine yq<|yq<|yr<|yo zM<|yo zF<|yo zR<|yo zM<|yo (zi (hj:=h1))<|yo zF ?_;refine Q1 (QL rfl rfl (by decide) rfl rfl (fun w hw=>hw.cell_range (j:=10) HRG.out rfl (by simp))) ?_;refine yo zL<|yo zlt<|yo zM<|yo zM<|yo zlf<|yo zY<|yl<|yn<|y0<|ye<|yn<|yr ?_;exact Q2O hk (.cons rfl rfl (.cons rfl rfl (.cons rfl rfl (.cons rfl rfl (.cons rfl rfl .nil))))) (fun w hw=>hw)
     ·have hk:=key2 nm A' c' (by
       have h:=HNM.out;rw[List.take_of_length_le (by omega)] at h;rw[List.take_of_length_le (by omega)]
       exact h)
      refine yq<|yq<|yr<|yo zM<|yo zF<|yo zR<|yo zM<|yo (zi (hj:=h1))<|yo zF ?_;refine Q1 (QL rfl rfl (by decide) rfl rfl (fun w hw=>hw.cell_range (j:=10) HRG.out rfl (by simp))) ?_;refine yo zL<|yo zlf<|yo zM<|yo zS<|yo zS<|yo zN<|yl<|yn<|y0<|ye<|yn<|yr ?_;exact Q2O hk (.cons rfl rfl (.cons rfl rfl (.cons rfl rfl (.cons rfl rfl (.cons rfl rfl .nil))))) (fun w hw=>hw)
    case tail=>
     intro nm A' c' hnm;refine Q9s (fun w hw=>(XN (hw.own 0 _ rfl) (by decide)).2) (fun hcn=>?_);have HNX:=Lib.hid (fun(A4:Option Addr) (c4:Nat)=>HI.out.next (A':=A') (A4:=A4) (c':=c') (c4:=c4) HR.out h41 HRL.out hnm hcn)
     have hlx:∀x:RlY,(ls++[x]).length=ls.length+1:=fun x=>by rw[List.length_append,List.length_singleton]
     refine yo zF<|yo (zB 3)<|yo (zD 1) ?_;refine Qa (Qz (size:=12) rfl rfl rfl rfl rfl (by decide)) rfl (by decide) (fun bs2 _=>?_);refine Qa (QC 3 rfl rfl rfl rfl rfl (fun w hw=>hw.rd_blk 0 rfl rfl) (by simp [Value.oneCell']) (by omega)) rfl (by decide) (fun z2 _=>?_);refine yo zF ?_;refine yS 4 ?_;refine yl<|yn<|yr<|yo zM<|yo zP<|yo zA<|yl ?_;refine Xj ⟨ls++[Qct ls.length r Ab cb A' c' Ap cp],z2.1,z2.2,.rd A' nm.length 1 (sv nm)::at_⟩ (HNX.out _ _) (by show 41 - (ls++[_]).length<41 - ls.length;rw[hlx];omega) (.cons rfl rfl (.cons rfl rfl (.cons rfl rfl (.cons rfl (by show Value.int .i64 ((ls.length:Int)+1)=.int .i64 (((ls++[_]).length:Nat):Int);rw[hlx];rfl) .nil)))) (fun w hw=>?_)
     show Wd [] w1 (.row z2.1 (ls++[Qct ls.length r Ab cb A' c' Ap cp]).length z2.2 52 12 (QR (ls++[Qct ls.length r Ab cb A' c' Ap cp]))::.blk b5 (.cells ([.slice z2.1 (ls++[Qct ls.length r Ab cb A' c' Ap cp]).length z2.2]:List Value).toArray 24 (0,0))::.rd A' nm.length 1 (sv nm)::at_) w
     rw[hlx,Q1P];subst hnm;exact Wd.rot2 (Wd.no2 (hw.tl.toRd (i:=0) rfl (by decide)))
   ·have hk:=key ls A3 c3 at_ HI.out (.inr (by omega));refine yq<|yq<|yr<|yo zM<|yo zF<|yo zR<|yo zL<|yo zlt<|yo zM<|yo zM<|yo zlf<|yo zY<|yl<|yn<|y0<|ye<|yn<|yq<|yr ?_;exact Q2O hk (.cons rfl rfl (.cons rfl rfl (.cons rfl rfl .nil))) (fun w hw=>hw)
  ·have hk:=key ls A3 c3 at_ HI.out (.inl (by omega));refine yq<|yq<|yr<|yo zM<|yo zF<|yo zR<|yo zL<|yo zlf<|yo zM<|yo zS<|yo zS<|yo zN<|yl<|yn<|y0<|ye<|yn<|yq<|yr ?_;exact Q2O hk (.cons rfl rfl (.cons rfl rfl (.cons rfl rfl .nil))) (fun w hw=>hw)
 case tail=>
  intro ls A3 c3 at_ hinv hend;refine Q9s (fun w hw=>(XN (hw.own 0 _ rfl) (by decide)).2) (fun hlc=>?_);refine Q3E (fun w2 hw2=>?_);have hfx:Xq w2 w2.heap.size A3 ls.length (ls.map RlY.x):=Qce (hw2.own 0 _ rfl) rfl (hinv.f w2 hw2.k.below (fun a ha=>hw2.mem_on (List.mem_cons_of_mem _ (List.mem_cons_of_mem _ ha))));rw[hinv.x] at hfx;have hsx:FSm (Q1O F ls.length):=Qdb hinv.m HS.out;have r22:w2.rangeAt b2 0 [.slice A n c]:=hw2.range_old r2 (by simp);have r5:w2.rangeAt b5 0 [.slice A3 ls.length c3]:=hw2.range_blk 1 rfl;have HF2:=Lib.hid (HF.out.on hw2.k.below);have HB2:=Lib.hid (X4 HB1.out hw2.k.below);have HG2:=Lib.hid (HG1.out.on hw2.k.below);have HX:=Lib.hid hfx;have HSX:=Lib.hid hsx;have hls41:ls.length≤41:=hinv.m;have hlsn:ls.length≤n:=HLEN.out▸hinv.n;clear hw2 r2 hfx hsx hinv;obtain⟨⟨ca,cb⟩,hch⟩:∃p,Jw F k=p:=⟨_,rfl⟩;have HCH:=Lib.hid hch;obtain⟨v,hv⟩:∃v,Ju F k=v:=⟨_,rfl⟩;have HV:=Lib.hid hv
  by_cases hz:(ca,cb)=((0,0):Int×Int)
  ·obtain⟨rfl,rfl⟩:ca=0∧cb=0:=by cases hz;exact⟨rfl,rfl⟩
   obtain⟨hn40,hcr⟩:=Qdk hch;rw[HLEN.out] at hn40 hcr
   obtain hln:ls.length=n:=by omega
   obtain⟨l,hl⟩:∃l,ZT F k=l:=⟨_,rfl⟩;have HL0:=Lib.hid hl
   have hll:l.length≤256:=by
    rw[← hl]
    unfold ZT
    rw[if_pos hch];exact Q1r _ _
   have hx0:=HX.out;have hs0:=HSX.out;rw[hln,hcr] at hx0 hs0;have HX1:=Lib.hid hx0;have HS1:=Lib.hid hs0;have hor:=Qdf hch;have HFI:=Lib.hid (fun h=>(Q7G hch h).trans hl);have HLE:=Lib.hid (fun h=>(Q7K hch h).trans hv);rw[hln] at r5 hlc;have hseq:(l==l)=true:=beq_iff_eq.2 rfl;have HSEQ:=Lib.hid hseq;have hvv:(v==v)=true:=beq_iff_eq.2 rfl;clear hx0 hs0 hch hl hv hz hcr hseq;refine yo zE<|yo zM ?_;(refine Qa (Qx _ _ _ (f:=12) rfl rfl rfl (fun w hw=>Q2e hw ((J0 (HF2.out.on hw.k.below) HS.out hc (HG2.out.on hw.k.below)).mono (fun _ _ h=>by rw[HCH.out,HL0.out] at h;exact h)))) rfl (by decide) (fun z hz=>?_);obtain⟨A1,c1⟩:=z;replace hz:l.length≤c1:=hz);refine yo zM<|yo zX<|yo zX ?_;refine yA fun b10=>?_;refine yo zA ?_;refine yW 0 ?_;refine yl<|yn<|yq<|yr<|yo zE<|yo zM ?_;refine Q1 (Q4 (f:=13) rfl rfl (by decide) rfl rfl (fun w hw=>(ZG (HF2.out.on hw.k.below) HS.out hc (HG2.out.on hw.k.below)).mono (fun _ _ h=>by rw[HCH.out,HV.out] at h;exact h))) ?_;refine yo zM<|yo zX<|yo zX ?_;refine yA fun b12=>?_;refine yo zA ?_;refine yW 0 ?_;refine yl<|yn<|yq<|yq<|yr<|yo zF<|yo (zB 1)<|yo znf<|yo zM<|yo zF<|yo (zB 0)<|yo znf<|yo zN<|yl<|yn<|y0<|ys<|yn<|yq<|yr ?_;refine Q3E (fun w3 hw3=>?_);have r55:w3.rangeAt b5 0 [.slice A3 n c3]:=hw3.range_old r5 (by simp);have HX3:=Lib.hid (HX1.out.on hw3.k.below);have HB3:=Lib.hid (X4 HB2.out hw3.k.below);have HG3:=Lib.hid (HG2.out.on hw3.k.below);have HRD:=Lib.hid (show Rd w3 w3.heap.size 1 A1 l.length (iv l) from hw3.own 2 _ rfl);clear hw3 r5
   rcases hor with hx|hx
   ·have HCX:=Lib.hid hx;have HFX:=Lib.hid (HFI.out hx);have HLX:=Lib.hid (HLE.out hx);clear hx;refine yo zE<|yo zM ?_;(refine Qa (Qx _ _ _ (f:=12) rfl rfl rfl (fun w hw=>Q2e hw ((J0 (HX3.out.on hw.k.below) HS1.out hlc (HG3.out.on hw.k.below)).mono (fun _ _ h=>by rw[HCX.out,HFX.out] at h;exact h)))) rfl (by decide) (fun z hz=>?_);obtain⟨A2,c2⟩:=z;replace hz:l.length≤c2:=hz);refine yo zM<|yo zX<|yo zX ?_;refine yA fun b14=>?_;refine yo zA ?_;refine yW 0 ?_;refine yl<|yn<|yq<|yr<|yo zE<|yo zM ?_;refine Q1 (Q4 (f:=13) rfl rfl (by decide) rfl rfl (fun w hw=>(ZG (HX3.out.on hw.k.below) HS1.out hlc (HG3.out.on hw.k.below)).mono (fun _ _ h=>by rw[HCX.out,HLX.out] at h;exact h))) ?_;refine yo zM<|yo zX<|yo zX ?_;refine yA fun b16=>?_;refine yo zA ?_;refine yW 0 ?_;refine yl<|yn<|yq<|yq<|Xm (by kernel_rfl) (by kernel_rfl) ?_;refine Qd (zD 1) ?_;refine Qd (Q4 (f:=15) rfl rfl (by decide) rfl rfl (fun w hw=>Js _ _ w)) ?_;refine Qd (Y6 (v:=false) (by decide) rfl rfl (by decide) rfl rfl rfl) ?_;refine XS ?_;refine yn<|y0<|ys<|yn<|yq<|yr<|yo zF<|yo (zB 1)<|yo zet<|yo zM<|yo zF<|yo (zB 0)<|yo zet<|yo zY<|yo zM<|yo zM<|yo zM ?_;(refine Q1 (Q4 (f:=17) rfl rfl (by decide) rfl rfl (fun w hw=>(Ki (xs:=l) (ys:=l) (HRD.out.below hw.k.below) (hw.own 2 _ rfl) (by omega)).mono (fun _ _ h=>by rw[HSEQ.out] at h;exact Q1j.below h))) ?_);refine yo zY<|yo zM<|yo zM<|yo zM<|yo zea<|yo zY<|yo zA<|yl<|yn<|yt ?_;exact Q9 (by exact .inr rfl) rfl (.tmp rfl) (fun w hw=>⟨rfl,X4 HB3.out hw.k.below⟩)
   ·have HCX:=Lib.hid hx;obtain⟨lx,hlx⟩:∃lx,ZT (Za F) k=lx:=⟨_,rfl⟩;obtain⟨vx,hvx⟩:∃vx,Ju (Za F) k=vx:=⟨_,rfl⟩;have HFX:=Lib.hid hlx;have HLX:=Lib.hid hvx;clear hx hlx hvx;refine yo zE<|yo zM ?_;(refine Qa (Qx _ _ _ (f:=12) rfl rfl rfl (fun w hw=>Q2e hw ((J0 (HX3.out.on hw.k.below) HS1.out hlc (HG3.out.on hw.k.below)).mono (fun _ _ h=>by rw[HCX.out,HFX.out] at h;exact h)))) rfl (by decide) (fun z hz=>?_);obtain⟨A2,c2⟩:=z);refine yo zM<|yo zX<|yo zX ?_;refine yA fun b14=>?_;refine yo zA ?_;refine yW 0 ?_;refine yl<|yn<|yq<|yr<|yo zE<|yo zM ?_;refine Q1 (Q4 (f:=13) rfl rfl (by decide) rfl rfl (fun w hw=>(ZG (HX3.out.on hw.k.below) HS1.out hlc (HG3.out.on hw.k.below)).mono (fun _ _ h=>by rw[HCX.out,HLX.out] at h;exact h))) ?_;refine yo zM<|yo zX<|yo zX ?_;refine yA fun b16=>?_;refine yo zA ?_;refine yW 0 ?_;refine yl<|yn<|yq<|yq<|Xm (by kernel_rfl) (by kernel_rfl) ?_;refine Qd (zD 1) ?_;refine Qd (Q4 (f:=15) rfl rfl (by decide) rfl rfl (fun w hw=>Js _ _ w)) ?_;refine Qd (Y6 (v:=true) (by decide) rfl rfl (by decide) rfl rfl rfl) ?_;refine XS ?_;refine yn<|y1<|yq<|yr<|yo (zD 0)<|yo (zD 1) ?_;refine Q1 (Y6 (JO _ _) rfl rfl (by decide) rfl rfl rfl) ?_;refine yo zA<|yl<|yn<|yt<|yc ?_;exact Q9 (by exact .inr rfl) rfl (.tmp rfl) (fun w hw=>⟨rfl,X4 HB3.out hw.k.below⟩)
  ·have hfi:ZT F k=[]:=by unfold ZT;rw[if_neg (by rw[hch];exact hz)]
   have hle:v=0:=by rw[← hv];unfold Ju;rw[if_neg (by rw[hch];exact hz)]
   have hca:=Qe0 hch hz;subst hle;have HFI:=Lib.hid hfi;clear hfi hch hv hz;refine yo zE<|yo zM ?_;(refine Qa (Qx _ _ _ (f:=12) rfl rfl rfl (fun w hw=>Q2e hw ((J0 (HF2.out.on hw.k.below) HS.out hc (HG2.out.on hw.k.below)).mono (fun _ _ h=>by rw[HCH.out,HFI.out] at h;exact h)))) rfl (by decide) (fun z hz=>?_);obtain⟨A1,c1⟩:=z);refine yo zM<|yo zX<|yo zX ?_;refine yA fun b10=>?_;refine yo zA ?_;refine yW 0 ?_;refine yl<|yn<|yq<|yr<|yo zE<|yo zM ?_;refine Q1 (Q4 (f:=13) rfl rfl (by decide) rfl rfl (fun w hw=>(ZG (HF2.out.on hw.k.below) HS.out hc (HG2.out.on hw.k.below)).mono (fun _ _ h=>by rw[HCH.out,HV.out] at h;exact h))) ?_;refine yo zM<|yo zX<|yo zX ?_;refine yA fun b12=>?_;refine yo zA ?_;refine yW 0 ?_;refine yl<|yn<|yq<|yq<|yr<|yo zF<|yo (zB 1)<|yo znt<|yo zM<|yo zS<|yo zS<|yo zS<|yo zY<|yl<|yn<|y1<|yq<|yr<|yo (zD 1)<|yo (zD 0) ?_;refine Q1 (Y6 (JO _ _) rfl rfl (by decide) rfl rfl rfl) ?_;refine yo zM<|yo zM<|yo zL<|yo zer<|yo zY<|yo zM<|yo zM<|yo zet<|yo zY<|yo zA<|yl<|yn<|yt<|yc ?_;exact Q9 (by exact .inr rfl) rfl (.tmp rfl) (fun w hw=>⟨rfl,X4 HB2.out hw.k.below⟩)
end
end Go.Proofs.YtgdiadednlajgaaGreatDoor
