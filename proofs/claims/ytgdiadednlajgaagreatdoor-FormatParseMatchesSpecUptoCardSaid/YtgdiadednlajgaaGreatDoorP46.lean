import Derived.Test.YtgdiadednlajgaaGreatDoorP45
namespace Go.Proofs.YtgdiadednlajgaaGreatDoor
set_option linter.unusedVariables false
set_option linter.unusedSimpArgs false
open Go.RowKit
def Q7Y(x:List UInt8):Option (List UInt8):=if x=[] then none else X3 x
structure HqY where
 l:List UInt8
 A:Option Addr
 c:Nat
 ok:Bool
def HqI(x:List UInt8)(y:HqY):Prop:=Q7Y x=if y.ok=true then some y.l else none
def hxF(g:Bool)(q n:Nat):Bool:=g&&decide (q<n)
def hxO(o:List UInt8)(z:UInt8)(f:Bool):List UInt8:=if f=true then o++[z] else o
theorem Qe8{g:Bool}{q n:Nat}(h:¬(g=true∧n=q)):hxF g q (n+1)=hxF g q n:=by
 unfold hxF
 cases g with
 |false=>rfl
 |true=>
  have hn:n≠q:=fun e=>h ⟨rfl,e⟩
  rw[Bool.true_and,Bool.true_and]
  by_cases h1:q<n
  ·rw[decide_eq_true h1,decide_eq_true (by omega)]
  ·rw[decide_eq_false h1,decide_eq_false (by omega)]
theorem Qeb(q:Nat):hxF true q q=false:=by unfold hxF;rw[decide_eq_false (Nat.lt_irrefl q)];rfl
theorem Q3T(q:Nat):hxF true q (q+1)=true:=by unfold hxF;rw[decide_eq_true (Nat.lt_succ_self q)];rfl
theorem Q3m(g:Bool)(q:Nat):hxF g q 0=false:=by unfold hxF;rw[decide_eq_false (Nat.not_lt_zero q)];simp
theorem Qdp(g:Bool){q:Nat}(h:q<256):hxF g q 256=g:=by unfold hxF;rw[decide_eq_true h];simp
theorem Q1S{n:Nat}(h:n<256):(UInt8.ofNat n).toNat=n:=by rw[UInt8.toNat_ofNat'];omega
theorem Q3v{n:Nat}(hn:n<256)(W:World):Calls Tryz.prog 41 #[.int .i64 (n:Int)] W fun e w'=>e=.returned (.string ⟨(Kx (UInt8.ofNat n)).toArray⟩)∧Below W.heap.size W w':=by
 have h:=Q4C (UInt8.ofNat n) W;rw[Q1S hn] at h;exact h
theorem Qao{x:List UInt8}{i:Nat}{a b:UInt8}(ha:x[i]? =some a)(hb:x[i+1]? =some b):x.take (i+2)=x.take i++[a,b]:=by
 rw[show i+2=(i+1)+1 from rfl,List.take_add_one,List.take_add_one,ha,hb,List.append_assoc]
 rfl
theorem Qa9{x:List UInt8}{i:Nat}{a b:UInt8}(ha:x[i]? =some a)(hb:x[i+1]? =some b):x=x.take i++a::b::x.drop (i+2):=by
 have h1:=(List.getElem?_eq_some_iff.1 ha);have h2:=(List.getElem?_eq_some_iff.1 hb);obtain⟨l1,e1⟩:=h1;obtain⟨l2,e2⟩:=h2
 conv=>lhs;rw[← List.take_append_drop i x]
 rw[List.drop_eq_getElem_cons l1,e1,List.drop_eq_getElem_cons l2,e2]
theorem QcB{x:List UInt8}{i:Nat}{a b:UInt8}(ha:x[i]? =some a)(hb:x[i+1]? =some b):(⟨x.toArray⟩:ByteArray).extract i (i+2)=⟨([a,b]:List UInt8).toArray⟩:=by
 rw[Q0s,show i+2 - i=2 by omega];have h1:=(List.getElem?_eq_some_iff.1 ha);have h2:=(List.getElem?_eq_some_iff.1 hb);obtain⟨l1,e1⟩:=h1;obtain⟨l2,e2⟩:=h2;rw[List.drop_eq_getElem_cons l1,e1,List.drop_eq_getElem_cons l2,e2]
 rfl
structure HqS where
 t:Nat
 o:List UInt8
 A:Option Addr
 c:Nat
structure HqP(x:List UInt8)(y:HqS):Prop where
 t:2*y.t≤x.length
 u:X3 (x.take (2*y.t))=some y.o
 l:y.o.length=y.t
section
variable {W:World}{O:List Qg}
set_option maxRecDepth 100000 in
set_option maxHeartbeats 16000000 in
theorem Qdg{x:List UInt8}{w:World}(hx:x.length≤1048576)(hw:Wd [] W O w):
  Calls Tryz.prog 85 #[.string ⟨x.toArray⟩] w (QW (fun y:HqY=>.tuple #[.slice y.A y.l.length y.c,.bool y.ok]) (HqI x) [] W (fun y=>.row y.A y.l.length y.c 5 1 (bv y.l)::O)):=by
 have hbz:(⟨x.toArray⟩:ByteArray).size=x.length:=Xh x
 by_cases h0:x.length=0
 ·have HN:=Lib.hid (show HqI x ⟨[],none,0,false⟩ by
   unfold HqI Q7Y
   rw[if_pos (List.eq_nil_of_length_eq_zero h0)]
   rfl)
  go_enter Tryz.func85,Tryz.ntmps85
  refine QE (M:=[]) (W:=W) (N:=43) (E:=[(0,.string ⟨x.toArray⟩)]) (O:=O) ?_ (Ag.cons (Ag.nil rfl rfl) rfl) hw;refine yq<|yr<|yo zA<|yo zA<|yl<|yn<|yq<|yq<|yr<|yo zM<|yo zT<|yo zet<|yo zM<|yo zS<|yo zS<|yo zS<|yo zS<|yo zY<|yl<|yn<|y1<|yq<|yr<|yo zA<|yo zA<|yl<|yn<|yt<|yc ?_;exact Xv (by exact .inr rfl) rfl (.tmp rfl) (.tmp rfl) (fun w hw=>⟨⟨[],none,0,false⟩,rfl,HN.out,hw.row 5 1⟩)
 by_cases hodd:x.length % 2=1
 ·have HN:=Lib.hid (show HqI x ⟨[],none,0,false⟩ by
   unfold HqI Q7Y
   rw[if_neg (fun e=>h0 (by rw[e];rfl)),Q01 (by omega)]
   rfl)
  go_enter Tryz.func85,Tryz.ntmps85
  refine QE (M:=[]) (W:=W) (N:=43) (E:=[(0,.string ⟨x.toArray⟩)]) (O:=O) ?_ (Ag.cons (Ag.nil rfl rfl) rfl) hw;refine yq<|yr<|yo zA<|yo zA<|yl<|yn<|yq<|yq<|yr<|yo zM<|yo zT<|yo zef<|yo zM<|yo zM<|yo zT ?_;refine Q1 (Q0v (by omega) (by decide) rfl rfl (by decide) rfl rfl rfl) ?_;refine yo znt<|yo zN<|yl<|yn<|y1<|yq<|yr<|yo zA<|yo zA<|yl<|yn<|yt<|yc ?_;exact Xv (by exact .inr rfl) rfl (.tmp rfl) (.tmp rfl) (fun w hw=>⟨⟨[],none,0,false⟩,rfl,HN.out,hw.row 5 1⟩)
 have heven:x.length % 2=0:=by omega
 have hne:x≠[]:=fun e=>h0 (by rw[e];rfl)
 have HNE:=Lib.hid hne;clear hne
 go_enter Tryz.func85,Tryz.ntmps85
 refine QE (M:=[]) (W:=W) (N:=43) (E:=[(0,.string ⟨x.toArray⟩)]) (O:=O) ?_ (Ag.cons (Ag.nil rfl rfl) rfl) hw;refine yq<|yr<|yo zA<|yo zA<|yl<|yn<|yq<|yq<|yr<|yo zM<|yo zT<|yo zef<|yo zM<|yo zM<|yo zT ?_;refine Q1 (Q0v (by omega) (by decide) rfl rfl (by decide) rfl rfl rfl) ?_;refine yo znf<|yo zN<|yl<|yn<|y0<|ys<|yn<|yq<|yr<|yo zA<|yl<|yn<|yq<|yq<|yr<|yo zA<|yl<|yn<|yb ?_;refine JI 5 1 ?_;refine ZF (ι:=HqS) (HqP x) (fun y=>x.length - 2*y.t) (fun y=>[(0,.string ⟨x.toArray⟩),(4,.slice y.A y.o.length y.c),(5,.int .i64 ((2*y.t:Nat):Int))]) (fun y=>.row y.A y.o.length y.c 5 1 (bv y.o)::O) ⟨0,[],none,0⟩ ⟨Nat.zero_le _,rfl,rfl⟩ (.cons rfl rfl (.cons rfl rfl (.cons rfl rfl .nil))) (fun w hw=>hw) ?_
 rintro⟨t,o,A,c⟩ ⟨ht,hu,hol⟩
 simp only at ht hu hol
 show sE _ _ _ _ _ [(0,.string ⟨x.toArray⟩),(4,.slice A o.length c),(5,.int .i64 ((2*t:Nat):Int))] (.row A o.length c 5 1 (bv o)::O) _
 have HU:=Lib.hid hu;clear hu
 by_cases htl:2*t<x.length
 ·obtain⟨a,ha⟩:∃b,x[2*t]? =some b:=⟨_,List.getElem?_eq_getElem htl⟩;obtain⟨b,hb⟩:∃b,x[2*t+1]? =some b:=⟨_,List.getElem?_eq_getElem (by omega)⟩;have HX:=Lib.hid (QcB ha hb);have HTP:=Lib.hid (Qao ha hb);have HDP:=Lib.hid (Qa9 ha hb);obtain⟨g,hg⟩:∃g,(!(decide (Xc a<0∨Xc b<0)))=g:=⟨_,rfl⟩;obtain⟨z,hz⟩:∃z,JH a b=z:=⟨_,rfl⟩;have HZ:=Lib.hid hz
  have hiff:∀n,n<256→(Kx (UInt8.ofNat n)=[a,b]↔(g=true∧n=z.toNat)):=fun n hn=>by
   rw[Qbu,hz,← hg,Bool.not_eq_true',decide_eq_false_iff_not]
   constructor
   ·rintro⟨h1,h2⟩
    exact⟨h1,by rw[← h2,Q1S hn]⟩
   ·rintro⟨h1,h2⟩
    exact⟨h1,UInt8.toNat_inj.1 (by rw[Q1S hn];exact h2)⟩
  have HIFF:=Lib.hid hiff;have HG:=Lib.hid hg;have hzl:=z.toNat_lt;clear ha hb hz hiff hg;refine yq<|yq<|yr<|yo zM<|yo zM<|yo zT<|yo zlt<|yl<|yn<|y1<|ys<|yn<|yq<|yb<|yq<|yr<|yo zA<|yl<|yn<|yq<|yq<|yr<|yo zA<|yl<|yn<|yb ?_;refine ZF (ι:=Nat×Option Addr×Nat) (fun y=>y.1≤256) (fun y=>256 - y.1) (fun y=>[(0,.string ⟨x.toArray⟩),(4,.slice y.2.1 (hxO o z (hxF g z.toNat y.1)).length y.2.2),(5,.int .i64 ((2*t:Nat):Int)),(6,.bool (hxF g z.toNat y.1)),(7,.int .i64 (y.1:Int))]) (fun y=>.row y.2.1 (hxO o z (hxF g z.toNat y.1)).length y.2.2 5 1 (bv (hxO o z (hxF g z.toNat y.1)))::O) (0,A,c) (Nat.zero_le _) (.cons rfl rfl (.cons rfl (by rw[Q3m];rfl) (.cons rfl rfl (.cons rfl (by rw[Q3m]) (.cons rfl rfl .nil))))) (fun w hw=>by rw[Q3m];exact hw) ?_
  rintro⟨n,A2,c2⟩ hn
  replace hn:n≤256:=hn
  show sE _ _ _ _ _ [(0,.string ⟨x.toArray⟩),(4,.slice A2 (hxO o z (hxF g z.toNat n)).length c2),(5,.int .i64 ((2*t:Nat):Int)),(6,.bool (hxF g z.toNat n)),(7,.int .i64 (n:Int))] (.row A2 (hxO o z (hxF g z.toNat n)).length c2 5 1 (bv (hxO o z (hxF g z.toNat n)))::O) _
  by_cases hn2:n<256
  ·by_cases hgq:g=true∧n=z.toNat
   ·obtain⟨rfl,rfl⟩:=hgq;rw[Qeb];have htest:((⟨(Kx (UInt8.ofNat z.toNat)).toArray⟩:ByteArray).data.toList==(⟨([a,b]:List UInt8).toArray⟩:ByteArray).data.toList)=true:=beq_iff_eq.2 ((HIFF.out _ hn2).2 ⟨rfl,rfl⟩)
    show sE _ _ _ _ _ [(0,.string ⟨x.toArray⟩),(4,.slice A2 o.length c2),(5,.int .i64 ((2*t:Nat):Int)),(6,.bool false),(7,.int .i64 (z.toNat:Int))] (.row A2 o.length c2 5 1 (bv o)::O) _
    refine yq<|yq<|yr<|yo zM<|yo zlt<|yl<|yn<|y1<|ys<|yn<|yq<|yb<|yq<|Xm (by kernel_rfl) (by kernel_rfl) ?_;refine Qd zM ?_;refine Qd (Q4 (f:=41) rfl rfl (by decide) rfl rfl (fun w hw=>Q3v hn2 w)) ?_;refine Qd zM ?_;refine Qd zM ?_;refine Qd zM ?_;refine Qd zP ?_;refine Qd (Q09 HX.out Tryz.underlying9 rfl rfl (by decide) rfl rfl rfl rfl rfl (by omega) (by omega) (by omega)) ?_;refine Qd zsa ?_;refine XS ?_;refine yn<|y1<|yq<|yr<|yo zM<|yo zM ?_;refine Q1 (Y4 rfl rfl (by decide) rfl rfl (by rw[Tryz.underlying3];rfl) Tryz.underlying5 (IntWalk.u8_in _ (by omega))) ?_;refine Qa (Qz (size:=1) rfl rfl rfl rfl rfl (by decide)) rfl (by decide) (fun bn _=>?_);refine Qa (QC 1 rfl rfl rfl rfl rfl (fun w hw=>hw.rd_blk 0 rfl rfl) (by simp [Value.oneCell']) (by omega)) rfl (by decide) (fun y _=>?_);refine yo zA<|yl<|yn<|yr<|yo zA<|yl<|yn<|yr<|yo zM<|yo zP<|yo zA<|yl ?_;refine QH (z.toNat+1,y.1,y.2) hn2 (by show 256 - (z.toNat+1)<256 - z.toNat;omega) (.cons rfl rfl (.cons rfl (by rw[Q3T];show Value.slice y.1 (o.length+1) y.2=Value.slice y.1 (o++[z]).length y.2;rw[List.length_append];rfl) (.cons rfl rfl (.cons rfl (by rw[Q3T]) (.cons rfl (by go_num) .nil))))) (fun w hw=>?_)
    show Wd [] W (.row y.1 (hxO o z (hxF true z.toNat (z.toNat+1))).length y.2 5 1 (bv (hxO o z (hxF true z.toNat (z.toNat+1))))::O) w
    rw[Q3T]
    show Wd [] W (.row y.1 (o++[z]).length y.2 5 1 (bv (o++[z]))::O) w
    rw[List.length_append,bv,List.map_append];exact hw.tl
   ·have htest:((⟨(Kx (UInt8.ofNat n)).toArray⟩:ByteArray).data.toList==(⟨([a,b]:List UInt8).toArray⟩:ByteArray).data.toList)=false:=beq_eq_false_iff_ne.2 (fun e=>hgq ((HIFF.out _ hn2).1 e));have HFN:=Lib.hid (Qe8 hgq);clear hgq;refine yq<|yq<|yr<|yo zM<|yo zlt<|yl<|yn<|y1<|ys<|yn<|yq<|yb<|yq<|Xm (by kernel_rfl) (by kernel_rfl) ?_;refine Qd zM ?_;refine Qd (Q4 (f:=41) rfl rfl (by decide) rfl rfl (fun w hw=>Q3v hn2 w)) ?_;refine Qd zM ?_;refine Qd zM ?_;refine Qd zM ?_;refine Qd zP ?_;refine Qd (Q09 HX.out Tryz.underlying9 rfl rfl (by decide) rfl rfl rfl rfl rfl (by omega) (by omega) (by omega)) ?_;refine Qd zsa ?_;refine XS ?_;refine yn<|y0<|ys<|yn<|yr<|yo zM<|yo zP<|yo zA<|yl ?_;refine QH (n+1,A2,c2) hn2 (by show 256 - (n+1)<256 - n;omega) (.cons rfl rfl (.cons rfl (by rw[HFN.out]) (.cons rfl rfl (.cons rfl (by rw[HFN.out]) (.cons rfl (by go_num) .nil))))) (fun w hw=>?_)
    show Wd [] W (.row A2 (hxO o z (hxF g z.toNat (n+1))).length c2 5 1 (bv (hxO o z (hxF g z.toNat (n+1))))::O) w
    rw[HFN.out];exact hw
  ·obtain rfl:n=256:=by omega
   rw[Qdp g hzl]
   cases g with
   |true=>
    have hgood:¬(Xc a<0∨Xc b<0):=by have h:=HG.out;rw[Bool.not_eq_true',decide_eq_false_iff_not] at h;exact h
    have HUN:=Lib.hid (show X3 (x.take (2*(t+1)))=some (o++[z]) by
     rw[show 2*(t+1)=2*t+2 by omega,HTP.out,Q3D HU.out a b,if_neg hgood,HZ.out])
    clear hgood
    show sE _ _ _ _ _ [(0,.string ⟨x.toArray⟩),(4,.slice A2 (o++[z]).length c2),(5,.int .i64 ((2*t:Nat):Int)),(6,.bool true),(7,.int .i64 ((256:Nat):Int))] (.row A2 (o++[z]).length c2 5 1 (bv (o++[z]))::O) _
    refine yq<|yq<|yr<|yo zM<|yo zlf<|yl<|yn<|y0<|ye<|yn<|yq<|yr<|yo zM<|yo zO<|yl<|yn<|y0<|ys<|yn<|yr<|yo zM<|yo zP<|yo zA<|yl ?_;refine QH ⟨t+1,o++[z],A2,c2⟩ ⟨by show 2*(t+1)≤x.length;omega,HUN.out,by rw[List.length_append,hol];rfl⟩ (by show x.length - 2*(t+1)<x.length - 2*t;omega) (.cons rfl rfl (.cons rfl rfl (.cons rfl (by go_num) .nil))) (fun w hw=>hw)
   |false=>
    have hbad:Xc a<0∨Xc b<0:=by have h:=HG.out;rw[Bool.not_eq_false',decide_eq_true_eq] at h;exact h
    have HN:=Lib.hid (show HqI x ⟨[],none,0,false⟩ by
     unfold HqI Q7Y
     rw[if_neg HNE.out];have h:=Q55 ⟨o,HU.out⟩ a b (x.drop (2*t+2)) hbad;rw[← HDP.out] at h;rw[h]
     rfl)
    clear hbad
    show sE _ _ _ _ _ [(0,.string ⟨x.toArray⟩),(4,.slice A2 o.length c2),(5,.int .i64 ((2*t:Nat):Int)),(6,.bool false),(7,.int .i64 ((256:Nat):Int))] (.row A2 o.length c2 5 1 (bv o)::O) _
    refine yq<|yq<|yr<|yo zM<|yo zlf<|yl<|yn<|y0<|ye<|yn<|yq<|yr<|yo zM<|yo zO<|yl<|yn<|y1<|yq<|yr<|yo zA<|yo zA<|yl<|yn<|yt<|yk<|yc<|yc<|yk<|yc ?_;exact Xv (by exact .inr rfl) rfl (.tmp rfl) (.tmp rfl) (fun w hw=>⟨⟨[],none,0,false⟩,rfl,HN.out,hw.tl.row 5 1⟩)
 ·have HN:=Lib.hid (show HqI x ⟨o,A,c,true⟩ by
   unfold HqI Q7Y
   rw[if_neg HNE.out];have h:=HU.out;rw[List.take_of_length_le (by omega)] at h
   exact h)
  refine yq<|yq<|yr<|yo zM<|yo zM<|yo zT<|yo zlf<|yl<|yn<|y0<|ye<|yn<|yq<|yr<|yo zM<|yo zA<|yo zA<|yl<|yn<|yt ?_;exact Xv (by exact .inr rfl) rfl (.tmp rfl) (.tmp rfl) (fun w hw=>⟨⟨o,A,c,true⟩,rfl,HN.out,hw⟩)
end
end Go.Proofs.YtgdiadednlajgaaGreatDoor
