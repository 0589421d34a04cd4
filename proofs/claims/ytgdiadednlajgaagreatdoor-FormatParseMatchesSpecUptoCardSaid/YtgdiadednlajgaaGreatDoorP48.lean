import Derived.Test.YtgdiadednlajgaaGreatDoorP42
import Derived.Test.YtgdiadednlajgaaGreatDoorP47
namespace Go.Proofs.YtgdiadednlajgaaGreatDoor
set_option linter.unusedVariables false
set_option linter.unusedSimpArgs false
open Go.RowKit
def frF(F:List Rl)(s:List UInt8)(i:Nat):Int:=match (F.drop i).findIdx? (fun r=>r.name==s) with|some q=>((i+q:Nat):Int)|none=>-1
theorem Qd4{F:List Rl}{s:List UInt8}{i:Nat}(h:F.length≤i):frF F s i=-1:=by
 unfold frF
 rw[List.drop_of_length_le h]
 rfl
theorem Qcp(F:List Rl)(s:List UInt8):frF F s 0=Xa F s:=by
 unfold frF Xa
 rw[List.drop_zero]
 cases F.findIdx? (fun r=>r.name==s) with
 |none=>rfl
 |some q=>simp
theorem QaM{F:List Rl}{s:List UInt8}{i:Nat}{r:Rl}(h:F[i]? =some r):frF F s i=if r.name=s then (i:Int) else frF F s (i+1):=by
 obtain⟨hi,hr⟩:=List.getElem?_eq_some_iff.1 h
 unfold frF
 rw[List.drop_eq_getElem_cons hi,hr,List.findIdx?_cons]
 by_cases hn:r.name=s
 ·rw[if_pos hn,if_pos (beq_iff_eq.2 hn)]
  simp
 ·rw[if_neg hn,if_neg (by simpa using hn)]
  cases (F.drop (i+1)).findIdx? (fun r=>r.name==s) with
  |none=>rfl
  |some q=>
   simp only[Option.map_some]
   congr 1
   omega
theorem Q8l{name:List UInt8}{k:Int}{ws:List (List UInt8)}{x:Rl}{refs:List (List UInt8)}(h:QD name k ws=some (x,refs)):x.kind=k∧((k≠6∧k≠7∧k≠8∧k≠9∧k≠10)→refs=[]):=by
 rcases Q44 (by rw[h];exact fun e=>nomatch e) with rfl|rfl|rfl|rfl|rfl|rfl|rfl|rfl|rfl|rfl
 ·rw[Q2I] at h
  split at h
  ·split at h
   ·cases h
   ·next y _=>
    cases hu:X3 y with
    |none=>rw[hu] at h;cases h
    |some b=>rw[hu] at h;cases h;exact⟨rfl,fun _=>rfl⟩
  ·cases h
 ·rw[Q2K] at h
  (repeat' split at h)<;>first|(cases h;done)|(cases h;exact⟨rfl,fun _=>rfl⟩)
 ·rw[Q1B] at h
  (repeat' split at h)<;>first|(cases h;done)|(cases h;exact⟨rfl,fun _=>rfl⟩)
 ·rw[Q2R] at h
  split at h
  ·next a=>
   cases hu:Z9 a with
   |none=>rw[hu] at h;cases h
   |some b=>rw[hu] at h;cases h;exact⟨rfl,fun _=>rfl⟩
  ·cases h
 ·rw[Q0R] at h
  (repeat' split at h)<;>first|(cases h;done)|(cases h;exact⟨rfl,fun _=>rfl⟩)
 ·rw[Q1u] at h
  (repeat' split at h)<;>first|(cases h;done)|(cases h;exact⟨rfl,fun h6=>absurd rfl h6.1⟩)
 ·rw[Q0X] at h
  (repeat' split at h)<;>first|(cases h;done)|(cases h;exact⟨rfl,fun h6=>absurd rfl h6.2.2.2.1⟩)
 ·rw[Q1s] at h
  (repeat' split at h)<;>first|(cases h;done)|(cases h;exact⟨rfl,fun h6=>absurd rfl h6.2.2.2.2⟩)
 ·rw[Q2T] at h
  cases hu:Jl ws with
  |none=>rw[hu] at h;cases h
  |some b=>rw[hu] at h;cases h;exact⟨rfl,fun h6=>absurd rfl h6.2.1⟩
 ·rw[Q5m] at h
  (repeat' split at h)<;>first|(cases h;done)|(cases h;exact⟨rfl,fun h6=>absurd rfl h6.2.2.1⟩)
theorem Q7W{l:List UInt8}{x:Rl}{refs:List (List UInt8)}(h:Zo l=some (x,refs))(hk:x.kind≠6∧x.kind≠7∧x.kind≠8∧x.kind≠9∧x.kind≠10):refs=[]:=by
 unfold Zo at h
 generalize spl 32 l=ws at h
 match ws,h with
 |[],h=>cases h
 |[_],h=>cases h
 |name::kw::ws,h=>
  rw[V5] at h
  split at h
  ·have h1:=Q8l h;rw[h1.1] at hk;exact h1.2 hk
  ·cases h
structure LnY where
 ls:List RlY
 A:Option Addr
 c:Nat
 B:Option Addr
 d:Nat
 at_:List Qg
structure LnI(L:List (List UInt8))(y:LnY):Prop where
 res:QS 0 L=Kk (y.ls.map prL) (QS (y.ls.length:Int) (L.drop y.ls.length))
 i:y.ls.length<L.length
 k:∀z∈y.ls,z.x.name.length≤2000∧KSz 2000 z.x.name 2001 z.x z.refs
 w:∀a∈y.at_,a.w=false
 f:∀w,(∀a∈y.at_,a.on w)→∀z∈y.ls,RlF z w
 z:∀z∈y.ls,(z.x.kind≠6∧z.x.kind≠7∧z.x.kind≠8∧z.x.kind≠9∧z.x.kind≠10)→z.refs=[]
theorem Q7e{L:List (List UInt8)}{i:Nat}{l:List UInt8}(h:L[i]? =some l)(hi:i+1<L.length):∃m t,L.drop i=l::m::t∧L.drop (i+1)=m::t:=by
 obtain⟨h1,h2⟩:=List.getElem?_eq_some_iff.1 h;refine⟨L[i+1],L.drop (i+2),?_,?_⟩
 ·rw[List.drop_eq_getElem_cons h1,h2,List.drop_eq_getElem_cons hi]
 ·rw[List.drop_eq_getElem_cons hi]
theorem Q4G{L:List (List UInt8)}{i:Nat}{l:List UInt8}(h:L[i]? =some l)(hi:i+1=L.length):L.drop i=[l]:=by
 obtain⟨h1,h2⟩:=List.getElem?_eq_some_iff.1 h;rw[List.drop_eq_getElem_cons h1,h2,List.drop_of_length_le (by omega)]
theorem LnI.bad{L:List (List UInt8)}{y:LnY}(h:LnI L y){l:List UInt8}(hl:L[y.ls.length]? =some l)(hb:Zo l=none∨y.ls.length+1=L.length)(hne:y.ls.length+1=L.length→l≠[]):QS 0 L=.error (y.ls.length:Int):=by
 rw[h.res];have hi:=h.i
 by_cases he:y.ls.length+1=L.length
 ·rw[Q4G hl he,QS,if_neg (hne he)]
  rfl
 ·obtain⟨m,t,h1,_⟩:=Q7e hl (by omega);rw[h1,QS,hb.resolve_right he]
  rfl
theorem LnI.fin{L:List (List UInt8)}{y:LnY}(h:LnI L y)(hl:L[y.ls.length]? =some [])(he:y.ls.length+1=L.length):QS 0 L=.ok (y.ls.map prL):=by
 rw[h.res,Q4G hl he,QS,if_pos rfl]
 show Except.ok (y.ls.map prL++[])=_
 rw[List.append_nil]
theorem LnI.next{L:List (List UInt8)}{ls:List RlY}{A B A' B':Option Addr}{c d c' d':Nat}{at_:List Qg}{y:RlY}{l:List UInt8}(h:LnI L ⟨ls,A,c,B,d,at_⟩)(hl:L[ls.length]? =some l)(hi:ls.length+1<L.length)(hy:RlI l y)(hok:y.ok=true)(hrl:Zo l=some (y.x,y.refs))(hll:l.length≤2000):LnI L ⟨ls++[y],A',c',B',d',y.ats++at_⟩:=by
 obtain⟨m,t,h1,h2⟩:=Q7e hl hi;refine⟨?_,?_,?_,?_,?_,?_⟩
 ·have hr:=h.res;rw[hr]
  show Kk (ls.map prL) (QS (ls.length:Int) (L.drop ls.length))=Kk ((ls++[y]).map prL) (QS ((ls++[y]).length:Int) (L.drop (ls++[y]).length))
  rw[h1,List.length_append,List.map_append,show ((ls.length+[y].length:Nat):Int)=(ls.length:Int)+1 from rfl,show ls.length+[y].length=ls.length+1 from rfl,h2,← Q3V,QS,hrl]
  cases QS ((ls.length:Int)+1) (m::t)<;>rfl
 ·show (ls++[y]).length<L.length
  rw[List.length_append,List.length_singleton];exact hi
 ·intro z hz
  rcases List.mem_append.1 hz with hz|hz
  ·exact h.k z hz
  ·rw[List.mem_singleton.1 hz];exact Q33 hll hrl
 ·intro a ha
  rcases List.mem_append.1 ha with ha|ha
  ·exact hy.w a ha
  ·exact h.w a ha
 ·intro w hw z hz
  rcases List.mem_append.1 hz with hz|hz
  ·exact h.f w (fun a ha=>hw a (List.mem_append_right _ ha)) z hz
  ·rw[List.mem_singleton.1 hz];exact hy.f hok w (fun a ha=>hw a (List.mem_append_left _ ha))
 ·intro z hz
  rcases List.mem_append.1 hz with hz|hz
  ·exact h.z z hz
  ·rw[List.mem_singleton.1 hz];exact Q7W hrl
theorem P2I.put{ls cur:List RlY}{k:Nat}{at_ ats:List Qg}{y:RlY}{x:Rl}{Ap:Option Addr}{cp:Nat}(h:P2I ls ⟨k,cur,at_⟩)(hy:cur[k]? =some y)(hy2:ls[k]? =some y)(hks:KSz 2000 y.x.name 2001 y.x y.refs)(hpl:Xf (cur.map RlY.x) (y.x,y.refs)=some x)(hat:∀a∈ats,a.w=false)(hcp:x.parts.length≤cp)(hf:∀w,(∀a∈ats,a.on w)→Rd w w.heap.size 1 Ap x.parts.length (iv x.parts)):P2I ls ⟨k+1,cur.set k { y with x:=x,Ap:=Ap,cp:=cp },ats++at_⟩:=
 P2I.next (z:=⟨true,x,Ap,cp,cur.set k { y with x:=x,Ap:=Ap,cp:=cp },ats⟩) h hy hy2 ⟨fun h=>(by cases h),fun _=>hpl,fun _=>rfl,hat,fun _=>hcp,fun _=>hf⟩ rfl hks
theorem Wd.no4{M:List Nat}{W w:World}{a b c x:Qg}{O:List Qg}(h:Wd M W (a::b::c::x::O) w):Wd M W (a::b::c::O) w:=
 (Wd.swapL (L:=[a,b,c]) (P:=[x]) (O:=O) h).tl
section
variable {W w:World}{O:List Qg}
set_option maxRecDepth 100000 in
set_option maxHeartbeats 64000000 in
theorem Q8m{s0:List UInt8}(hs0:s0.length≤1048576)(hw:Wd [] W O w):
  Calls Tryz.prog 22 #[.string ⟨s0.toArray⟩] w (QW PrY.v (PrI s0) [] W (fun y=>y.ats++O)):=by
 have hsz:=Xh s0
 go_enter Tryz.func22,Tryz.ntmps22
 refine QE (M:=[]) (W:=W) (N:=181) (E:=[(0,.string ⟨s0.toArray⟩)]) (O:=O) ?_ (Ag.cons (Ag.nil rfl rfl) rfl) hw
 by_cases hlong:2000<s0.length
 ·refine Q6 (Q2 ?_);refine yA fun b2=>?_;refine yA fun b3=>?_;refine Q8 ?_;refine Qb (Q6 (Q6 (Q2 ?_)));refine Q1 zM ?_;refine Q1 zT ?_;refine Q1 zgt ?_;refine Q8 ?_;refine Qb (Q5 rfl (Q6 (Q2 ?_)));refine Q1 (QZ (xs:=[]) (vs:=[]) (v:=.agg #[.slice none 0 0]) rfl rfl (by decide) rfl rfl (fun w=>run_build w _ _ _ (by kernel_rfl))) ?_;refine Q1 (Q4 (f:=15) rfl rfl (by decide) rfl rfl (fun w hw=>Js _ _ w)) ?_;refine yW 1 ?_;refine yW 0 ?_;refine Q8 ?_;refine Qb (Ql (Qc ?_));exact Xv (by exact .inr rfl) rfl (RsV.blk 1 rfl rfl rfl) (RsV.blk 0 rfl rfl rfl) (fun w hw=>Y8 (Q2W hlong) hw.tl.tl)
 obtain⟨L,hL⟩:∃L,spl 10 s0=L:=⟨_,rfl⟩;obtain⟨hLl,hLs⟩:=YK 10 s0;have hne:=Kz 10 s0;rw[hL] at hLl hLs hne
 have hL0:0<L.length:=by
  cases L with
  |nil=>exact absurd rfl hne
  |cons=>simp
 have hcut:∀(O:List Qg) (w:World),Wd [] W O w→Calls Tryz.prog 45 #[.string ⟨s0.toArray⟩,.int .u8 10] w (QW (fun y:Option Addr×Nat=>.slice y.1 L.length y.2) (fun _=>True) [] W (fun y=>.row y.1 L.length y.2 9 1 (sv L)::O)):=fun O w hw=>by
  have h:=Q5F (s:=s0) (c:=10) (by omega) hw;rw[hL] at h;exact h
 have HCUT:=Lib.hid hcut;have HLS:=Lib.hid hLs;have HL:=Lib.hid hL;clear hcut hLs hne hL;refine Q6 (Q2 ?_);refine yA fun b2=>?_;refine yA fun b3=>?_;refine Q8 ?_;refine Qb (Q6 (Q6 (Q2 ?_)));refine Q1 zM ?_;refine Q1 zT ?_;refine Q1 zgf ?_;refine Q8 ?_;refine Qb (Q3 rfl (Qh (Qb (Q6 (Q2 ?_)))));refine Q1 zM ?_;(refine Qa (Qx _ _ _ (f:=45) rfl rfl rfl (fun w hw=>HCUT.out _ w hw)) rfl (by decide) (fun yw _=>?_);obtain⟨Al,cl⟩:=yw);refine Q1 zA ?_;refine Q8 ?_;refine Qb (Q6 (Q2 ?_));refine Q1 zM ?_;refine Q1 zL ?_;refine Q1 zQ ?_;refine Q1 zA ?_;refine Q8 ?_;refine Qb (Q6 (Q2 ?_));refine yA fun b6=>?_;refine Q8 ?_;refine Qb (Q6 (Q2 ?_));refine Q1 zA ?_;refine Q8 ?_;refine Qb (Q6 (Q6 (Q2 ?_)));refine Q1 zA ?_;refine Q8 ?_;refine Qb (Qe ?_);refine V9 1 rfl hL0 (fun bl el=>?_);obtain rfl:Al=some ⟨bl,0,none⟩:=el;refine JI 50 1 ?_;refine JI 52 12 ?_;refine JW (ι:=LnY) (LnI L) (fun y=>L.length - y.ls.length) (fun y=>[(2,.pointer (some ⟨b2,0,none⟩)),(3,.pointer (some ⟨b3,0,none⟩)),(6,.pointer (some ⟨b6,0,none⟩)),(4,.slice (some ⟨bl,0,none⟩) L.length cl),(5,.int .i64 ((L.length:Int) - 1)),(7,.slice y.B y.ls.length y.d),(8,.int .i64 (y.ls.length:Int))]) (fun y=>.row y.A y.ls.length y.c 52 12 (QR y.ls)::.row y.B y.ls.length y.d 50 1 (Jx y.ls)::.blk b6 (.cells ([.slice y.A y.ls.length y.c]:List Value).toArray 24 (0,0))::.row (some ⟨bl,0,none⟩) L.length cl 9 1 (sv L)::.blk b3 (.cells ([.int .i64 0,.int .i64 0]:List Value).toArray 27 (0,0))::.blk b2 (.cells ([.slice none 0 0]:List Value).toArray 24 (0,0))::(y.at_++O)) ⟨[],none,0,none,0,[]⟩ ⟨(Q3h _).symm,hL0,fun z hz=>(by cases hz),fun a ha=>(by cases ha),fun w _ z hz=>(by cases hz),fun z hz=>(by cases hz)⟩ (.cons rfl rfl (.cons rfl rfl (.cons rfl rfl (.cons rfl rfl (.cons rfl rfl (.cons rfl rfl (.cons rfl rfl .nil))))))) (fun w hw=>hw) ?_
 rintro⟨ls,A,c,B,d,at_⟩ hinv
 have hi:ls.length<L.length:=hinv.i;have HI:=Lib.hid hinv;clear hinv
 show sE _ _ _ _ _ [(2,.pointer (some ⟨b2,0,none⟩)),(3,.pointer (some ⟨b3,0,none⟩)),(6,.pointer (some ⟨b6,0,none⟩)),(4,.slice (some ⟨bl,0,none⟩) L.length cl),(5,.int .i64 ((L.length:Int) - 1)),(7,.slice B ls.length d),(8,.int .i64 (ls.length:Int))] (.row A ls.length c 52 12 (QR ls)::.row B ls.length d 50 1 (Jx ls)::.blk b6 (.cells ([.slice A ls.length c]:List Value).toArray 24 (0,0))::.row (some ⟨bl,0,none⟩) L.length cl 9 1 (sv L)::.blk b3 (.cells ([.int .i64 0,.int .i64 0]:List Value).toArray 27 (0,0))::.blk b2 (.cells ([.slice none 0 0]:List Value).toArray 24 (0,0))::(at_++O)) _
 obtain⟨l,hl⟩:∃l,L[ls.length]? =some l:=⟨_,List.getElem?_eq_getElem hi⟩
 have hll:l.length≤2000:=by have:=HLS.out l (List.mem_of_getElem? hl);omega
 have HCL:=Lib.hid (show (sv L)[0+ls.length]? =some (.string ⟨l.toArray⟩) from J5 (by rw[Nat.zero_add];exact hl));have HLI:=Lib.hid hl;clear hl
 by_cases hlast:ls.length+1=L.length
 ·by_cases hle:l=[]
  ·have htest:((⟨l.toArray⟩:ByteArray).data.toList==(⟨#[]⟩:ByteArray).data.toList)=true:=by rw[hle];rfl
   have hlines:QS 0 (spl 10 s0)=.ok (ls.map prL):=by rw[HL.out];exact HI.out.fin (hle▸HLI.out) hlast
   have HLN:=Lib.hid hlines;clear hlines hle;refine Q6 (Q6 (Q2 ?_));refine Q1 zM ?_;refine Q1 zM ?_;refine Q1 zqt ?_;refine Q8 ?_;refine Qb (Q5 rfl (Qh (Qb (Q6 (Qe (Q6 (Q6 (Q2 ?_))))))));refine Q1 zM ?_;refine Q1 zM ?_;refine Q1 zet ?_;refine Q1 zM ?_;refine Q1 zM ?_;refine Q1 zM ?_;refine Q1 (zi1 (hj:=hi)) ?_;refine Q1 (zK 3 HCL.out) ?_;refine Q1 zsa ?_;refine Q1 zY ?_;refine Q8 ?_;refine Qb (Q5 rfl (QX (Qb (Q6 (Q6 (Q2 ?_))))));refine Q1 zA ?_;refine Q8 ?_;refine Qb (Qe ?_);refine Z8 (φ:=0<ls.length→∃b,A=some ⟨b,0,none⟩) (fun w hw=>Q0Y (hw.own 0 _ rfl)) (fun hA=>?_);refine Z8 (φ:=0<ls.length→∃b,B=some ⟨b,0,none⟩) (fun w hw=>Q0Y (hw.own 1 _ rfl)) (fun hB=>?_);refine Z8 (φ:=ls.length≤c) (fun w hw=>(XN (hw.own 0 _ rfl) (by decide)).2) (fun hlc=>?_);refine JW (ι:=P2Y) (P2I ls) (fun y=>ls.length - y.k) (fun y=>[(2,.pointer (some ⟨b2,0,none⟩)),(3,.pointer (some ⟨b3,0,none⟩)),(6,.pointer (some ⟨b6,0,none⟩)),(7,.slice B ls.length d),(12,.int .i64 (y.k:Int))]) (fun y=>.row A ls.length c 52 12 (QR y.cur)::.row B ls.length d 50 1 (Jx ls)::.blk b6 (.cells ([.slice A ls.length c]:List Value).toArray 24 (0,0))::.blk b3 (.cells ([.int .i64 0,.int .i64 0]:List Value).toArray 27 (0,0))::.blk b2 (.cells ([.slice none 0 0]:List Value).toArray 24 (0,0))::(y.at_++O)) ⟨0,ls,at_⟩ (P2I.start HI.out.k HI.out.w HI.out.f) (.cons rfl rfl (.cons rfl rfl (.cons rfl rfl (.cons rfl rfl (.cons rfl rfl .nil))))) (fun w hw=>hw.no4) ?_
   rintro⟨k,cur,at2⟩ hinv
   have hkn:k≤ls.length:=hinv.k
   have hon:∀w,Wd [] W (.row A ls.length c 52 12 (QR cur)::.row B ls.length d 50 1 (Jx ls)::.blk b6 (.cells ([.slice A ls.length c]:List Value).toArray 24 (0,0))::.blk b3 (.cells ([.int .i64 0,.int .i64 0]:List Value).toArray 27 (0,0))::.blk b2 (.cells ([.slice none 0 0]:List Value).toArray 24 (0,0))::(at2++O)) w→Xq w w.heap.size A ls.length (cur.map RlY.x)∧∀z∈ls,RlF z w:=fun w hw=>by
    have h5:=hinv.f w (hw.tail.tail.tail.tail.tail.at_);exact⟨Qce (hw.own 0 _ rfl) hinv.len h5.1,h5.2⟩
   have H2:=Lib.hid hinv;have HON:=Lib.hid hon;clear hinv hon
   show sE _ _ _ _ _ [(2,.pointer (some ⟨b2,0,none⟩)),(3,.pointer (some ⟨b3,0,none⟩)),(6,.pointer (some ⟨b6,0,none⟩)),(7,.slice B ls.length d),(12,.int .i64 (k:Int))] (.row A ls.length c 52 12 (QR cur)::.row B ls.length d 50 1 (Jx ls)::.blk b6 (.cells ([.slice A ls.length c]:List Value).toArray 24 (0,0))::.blk b3 (.cells ([.int .i64 0,.int .i64 0]:List Value).toArray 27 (0,0))::.blk b2 (.cells ([.slice none 0 0]:List Value).toArray 24 (0,0))::(at2++O)) _
   by_cases hk:k<ls.length
   ·obtain⟨y,hy,hy2⟩:=H2.out.at_k hk;obtain⟨b,rfl⟩:=hA (by omega);obtain⟨bb,rfl⟩:=hB (by omega);have hym:y∈ls:=List.mem_of_getElem? hy2;have hks:=(HI.out.k y hym).2;have HRC:=Lib.hid (show (Jx ls)[0+k]? =some (.slice y.Ar y.refs.length y.cr) by rw[Nat.zero_add];unfold Jx;rw[List.getElem?_map,hy2];rfl);have hrf:=hks.rf;have hlen:cur.length=ls.length:=H2.out.len;have HY:=Lib.hid hy;have HY2:=Lib.hid hy2;have HKS:=Lib.hid hks;clear hy hy2 hks hA hB;refine Q6 (Q6 (Q2 ?_));refine Q1 zM ?_;refine Q1 zM ?_;refine Q1 zL ?_;refine Q1 zlt ?_;refine Q8 ?_;refine Qb (Q5 rfl (Qh (Qb (Q6 (Qe (Q6 (Q2 ?_)))))));refine Q1 zA ?_;refine Q8 ?_;refine Qb (Q6 (Q6 (Q2 ?_)));refine Q1 zA ?_;refine Q8 ?_;refine Qb (Qe ?_);refine JI 3 1 ?_;refine JW (ι:=RvY) (RvI (cur.map RlY.x) y.refs) (fun z=>y.refs.length - z.j) (fun z=>[(2,.pointer (some ⟨b2,0,none⟩)),(3,.pointer (some ⟨b3,0,none⟩)),(6,.pointer (some ⟨b6,0,none⟩)),(7,.slice (some ⟨bb,0,none⟩) ls.length d),(12,.int .i64 (k:Int)),(13,.slice z.A z.ns.length z.c),(14,.int .i64 (z.j:Int))]) (fun z=>.row z.A z.ns.length z.c 3 1 (iv z.ns)::.row (some ⟨b,0,none⟩) ls.length c 52 12 (QR cur)::.row (some ⟨bb,0,none⟩) ls.length d 50 1 (Jx ls)::.blk b6 (.cells ([.slice (some ⟨b,0,none⟩) ls.length c]:List Value).toArray 24 (0,0))::.blk b3 (.cells ([.int .i64 0,.int .i64 0]:List Value).toArray 27 (0,0))::.blk b2 (.cells ([.slice none 0 0]:List Value).toArray 24 (0,0))::(at2++O)) ⟨0,[],none,0⟩ ⟨Nat.zero_le _,rfl,fun s hs=>(by cases hs)⟩ (.cons rfl rfl (.cons rfl rfl (.cons rfl rfl (.cons rfl rfl (.cons rfl rfl (.cons rfl rfl (.cons rfl rfl .nil))))))) (fun w hw=>hw) ?_
    rintro⟨j,ns,At,ct⟩ ⟨hj,hns,hnp⟩
    simp only at hj hns hnp
    show sE _ _ _ _ _ [(2,.pointer (some ⟨b2,0,none⟩)),(3,.pointer (some ⟨b3,0,none⟩)),(6,.pointer (some ⟨b6,0,none⟩)),(7,.slice (some ⟨bb,0,none⟩) ls.length d),(12,.int .i64 (k:Int)),(13,.slice At ns.length ct),(14,.int .i64 (j:Int))] (.row At ns.length ct 3 1 (iv ns)::.row (some ⟨b,0,none⟩) ls.length c 52 12 (QR cur)::.row (some ⟨bb,0,none⟩) ls.length d 50 1 (Jx ls)::.blk b6 (.cells ([.slice (some ⟨b,0,none⟩) ls.length c]:List Value).toArray 24 (0,0))::.blk b3 (.cells ([.int .i64 0,.int .i64 0]:List Value).toArray 27 (0,0))::.blk b2 (.cells ([.slice none 0 0]:List Value).toArray 24 (0,0))::(at2++O)) _
    have hnl:ns.length=j:=by rw[hns,List.length_map,List.length_take];omega
    have HNS:=Lib.hid hns;have HNP:=Lib.hid hnp;clear hns hnp
    by_cases hjl:j<y.refs.length
    ·obtain⟨s,hs⟩:∃s,y.refs[j]? =some s:=⟨_,List.getElem?_eq_getElem hjl⟩;refine Z8 (φ:=∃b q,y.Ar=some ⟨b,q,none⟩) (fun w hw=>by obtain⟨b,q,e,_⟩:=((HON.out w hw.tl).2 y hym).s.2 (by omega);exact⟨b,q,e⟩) (fun hsf=>?_);obtain⟨bq,oq,hAr⟩:=hsf
     have hcr:∀w,Wd [] W (.row At ns.length ct 3 1 (iv ns)::.row (some ⟨b,0,none⟩) ls.length c 52 12 (QR cur)::.row (some ⟨bb,0,none⟩) ls.length d 50 1 (Jx ls)::.blk b6 (.cells ([.slice (some ⟨b,0,none⟩) ls.length c]:List Value).toArray 24 (0,0))::.blk b3 (.cells ([.int .i64 0,.int .i64 0]:List Value).toArray 27 (0,0))::.blk b2 (.cells ([.slice none 0 0]:List Value).toArray 24 (0,0))::(at2++O)) w→w.cell? ⟨bq,oq+j,none⟩=some (.string ⟨s.toArray⟩):=fun w hw=>by
      have h:=((HON.out w hw.tl).2 y hym).s;rw[hAr] at h;exact h.cellO (by omega) (J5 hs)
     have HCR:=Lib.hid hcr;have HRC2:=Lib.hid (show (Jx ls)[0+k]? =some (.slice (some ⟨bq,oq,none⟩) y.refs.length y.cr) by rw[← hAr];exact HRC.out);have HSJ:=Lib.hid hs;have HE:=Lib.hid (Qd4 (F:=cur.map RlY.x) (s:=s) (i:=ls.length) (by rw[List.length_map];omega));clear hcr hs hAr;refine Q6 (Q6 (Q2 ?_));refine Q1 zM ?_;refine Q1 zM ?_;refine Q1 zM ?_;refine Q1 (zi1 (hj:=hk)) ?_;refine Q1 (zK 2 HRC2.out) ?_;refine Q1 zL ?_;refine Q1 zlt ?_;refine Q8 ?_;refine Qb (Q5 rfl (Qh (Qb (Q6 (Qe (Q6 (Q2 ?_)))))));refine Q1 zA ?_;refine Q8 ?_;refine Qb (Q6 (Q6 (Q2 ?_)));refine Q1 zF ?_;refine Q1 (zB 3) ?_;refine Q1 zL ?_;refine Q1 zQ ?_;refine Q1 zA ?_;refine Q8 ?_;refine Qb (Qe ?_);refine JW (ι:=Nat) (fun i=>i≤ls.length) (fun i=>i) (fun i=>[(2,.pointer (some ⟨b2,0,none⟩)),(3,.pointer (some ⟨b3,0,none⟩)),(6,.pointer (some ⟨b6,0,none⟩)),(7,.slice (some ⟨bb,0,none⟩) ls.length d),(12,.int .i64 (k:Int)),(13,.slice At ns.length ct),(14,.int .i64 (j:Int)),(15,.int .i64 (frF (cur.map RlY.x) s i)),(16,.int .i64 ((i:Int) - 1))]) (fun _=>.row At ns.length ct 3 1 (iv ns)::.row (some ⟨b,0,none⟩) ls.length c 52 12 (QR cur)::.row (some ⟨bb,0,none⟩) ls.length d 50 1 (Jx ls)::.blk b6 (.cells ([.slice (some ⟨b,0,none⟩) ls.length c]:List Value).toArray 24 (0,0))::.blk b3 (.cells ([.int .i64 0,.int .i64 0]:List Value).toArray 27 (0,0))::.blk b2 (.cells ([.slice none 0 0]:List Value).toArray 24 (0,0))::(at2++O)) ls.length (Nat.le_refl _) (.cons rfl rfl (.cons rfl rfl (.cons rfl rfl (.cons rfl rfl (.cons rfl rfl (.cons rfl rfl (.cons rfl rfl (.cons rfl (by rw[HE.out]) (.cons rfl rfl .nil))))))))) (fun w hw=>hw) ?_;intro i hi2
     show sE _ _ _ _ _ [(2,.pointer (some ⟨b2,0,none⟩)),(3,.pointer (some ⟨b3,0,none⟩)),(6,.pointer (some ⟨b6,0,none⟩)),(7,.slice (some ⟨bb,0,none⟩) ls.length d),(12,.int .i64 (k:Int)),(13,.slice At ns.length ct),(14,.int .i64 (j:Int)),(15,.int .i64 (frF (cur.map RlY.x) s i)),(16,.int .i64 ((i:Int) - 1))] (.row At ns.length ct 3 1 (iv ns)::.row (some ⟨b,0,none⟩) ls.length c 52 12 (QR cur)::.row (some ⟨bb,0,none⟩) ls.length d 50 1 (Jx ls)::.blk b6 (.cells ([.slice (some ⟨b,0,none⟩) ls.length c]:List Value).toArray 24 (0,0))::.blk b3 (.cells ([.int .i64 0,.int .i64 0]:List Value).toArray 27 (0,0))::.blk b2 (.cells ([.slice none 0 0]:List Value).toArray 24 (0,0))::(at2++O)) _
     by_cases hi0:0<i
     ·obtain⟨q,rfl⟩:∃q,i=q+1:=⟨i - 1,by omega⟩;obtain⟨rq,hrq⟩:∃r,cur[q]? =some r:=⟨_,List.getElem?_eq_getElem (by omega)⟩;have hst:=QaM (F:=cur.map RlY.x) (s:=s) (i:=q) (r:=rq.x) (by rw[List.getElem?_map,hrq];rfl);have HCN:=Lib.hid (show (QR cur)[0+q*12+0]? =some (.string ⟨rq.x.name.toArray⟩) by rw[Nat.zero_add];exact ZZ cur q rq 0 hrq (by decide))
      have hql:q<ls.length:=by omega
      have hqi:(0:Int)≤((q+1:Nat):Int) - 1∧((q+1:Nat):Int) - 1<(ls.length:Int):=by omega
      have hqt:(((q+1:Nat):Int) - 1).toNat=q:=by omega
      clear hrq
      by_cases hnm:rq.x.name=s
      ·have htest2:((⟨rq.x.name.toArray⟩:ByteArray).data.toList==(⟨s.toArray⟩:ByteArray).data.toList)=true:=beq_iff_eq.2 hnm;rw[if_pos hnm] at hst;have HST:=Lib.hid hst;clear hst hnm;refine Q6 (Q6 (Q2 ?_));refine Q1 zM ?_;refine Q1 zht ?_;refine Q8 ?_;refine Qb (Q5 rfl (Qh (Qb (Q6 (Qe (Q6 (Xm (by kernel_rfl) (by kernel_rfl) ?_)))))));refine Qd zF ?_;refine Qd (zB 3) ?_;refine Qd zM ?_;(refine Qd (Qv rfl rfl (by decide) rfl rfl rfl hqi) ?_;rw[hqt]);refine Qd zF ?_;refine Qd (zK 1 HCN.out) ?_;refine Qd zM ?_;refine Qd zM ?_;refine Qd (zi1 (hj:=hk)) ?_;refine Qd (zK 2 HRC2.out) ?_;refine Qd zM ?_;refine Qd (zi1 (hj:=hjl)) ?_;refine Qd (QL rfl rfl (by decide) rfl rfl HCR.out) ?_;refine Qd zsa ?_;refine XS ?_;refine Qb (Q5 rfl (Q2 ?_));refine Q1 zM ?_;refine Q1 zA ?_;refine Q8 ?_;refine Qb (Q2 ?_);refine Q1 zM ?_;refine Q1 zQ ?_;refine Q1 zA ?_;refine Q8 ?_;refine Xj q (by omega) (by show q<q+1;omega) (.cons rfl rfl (.cons rfl rfl (.cons rfl rfl (.cons rfl rfl (.cons rfl rfl (.cons rfl rfl (.cons rfl rfl (.cons rfl (by rw[HST.out];go_num) (.cons rfl (by go_num) .nil))))))))) (fun w hw=>hw)
      ·have htest2:((⟨rq.x.name.toArray⟩:ByteArray).data.toList==(⟨s.toArray⟩:ByteArray).data.toList)=false:=beq_eq_false_iff_ne.2 hnm;rw[if_neg hnm] at hst;have HST:=Lib.hid hst;clear hst hnm;refine Q6 (Q6 (Q2 ?_));refine Q1 zM ?_;refine Q1 zht ?_;refine Q8 ?_;refine Qb (Q5 rfl (Qh (Qb (Q6 (Qe (Q6 (Xm (by kernel_rfl) (by kernel_rfl) ?_)))))));refine Qd zF ?_;refine Qd (zB 3) ?_;refine Qd zM ?_;(refine Qd (Qv rfl rfl (by decide) rfl rfl rfl hqi) ?_;rw[hqt]);refine Qd zF ?_;refine Qd (zK 1 HCN.out) ?_;refine Qd zM ?_;refine Qd zM ?_;refine Qd (zi1 (hj:=hk)) ?_;refine Qd (zK 2 HRC2.out) ?_;refine Qd zM ?_;refine Qd (zi1 (hj:=hjl)) ?_;refine Qd (QL rfl rfl (by decide) rfl rfl HCR.out) ?_;refine Qd zsa ?_;refine XS ?_;refine Qb (Q3 rfl (Qh (Qb (Q2 ?_))));refine Q1 zM ?_;refine Q1 zQ ?_;refine Q1 zA ?_;refine Q8 ?_;refine Xj q (by omega) (by show q<q+1;omega) (.cons rfl rfl (.cons rfl rfl (.cons rfl rfl (.cons rfl rfl (.cons rfl rfl (.cons rfl rfl (.cons rfl rfl (.cons rfl (by rw[HST.out]) (.cons rfl (by go_num) .nil))))))))) (fun w hw=>hw)
     ·obtain rfl:i=0:=by omega
      rw[Qcp];obtain⟨a,ha⟩:∃a,Xa (cur.map RlY.x) s=a:=⟨_,rfl⟩;rw[ha];have HA:=Lib.hid ha;clear ha
      by_cases han:a<0
      ·have HNO:=Lib.hid (show Xf (cur.map RlY.x) (y.x,y.refs)=none by unfold Xf;rw[Q27 HSJ.out (by rw[HA.out];exact han)];rfl);refine Q6 (Q6 (Q2 ?_));refine Q1 zM ?_;refine Q1 zhf ?_;refine Q8 ?_;refine Qb (Q3 rfl (QX (Qb (Q6 (Q6 (Q2 ?_))))));refine Q1 zM ?_;refine Q1 zlt ?_;refine Q8 ?_;refine Qb (Q5 rfl (Q6 (Q2 ?_)));refine Q1 (QZ (xs:=[]) (vs:=[]) (v:=.agg #[.slice none 0 0]) rfl rfl (by decide) rfl rfl (fun w=>run_build w _ _ _ (by kernel_rfl))) ?_;refine Q1 zM ?_;refine Q1 (Q4 (f:=15) rfl rfl (by decide) rfl rfl (fun w hw=>Js _ _ w)) ?_;refine yW 5 ?_;refine yW 4 ?_;refine Q8 ?_;refine Qb (Ql (Qc (Qf (Qc (Qc (Qf (Qc (Qf (Qc (Qc (Qf (Qc ?_))))))))))));exact Xv (by exact .inr rfl) rfl (RsV.blk 5 rfl rfl rfl) (RsV.blk 4 rfl rfl rfl) (fun w hw=>Y8 (Q1M hlong HLN.out (by rw[Q2H];exact H2.out.no HY2.out HNO.out)) hw.tl.tl.tl.tl.tl.tl.drop)
      ·have HNX:=Lib.hid (fun(A':Option Addr) (c':Nat)=>(show RvI (cur.map RlY.x) y.refs ⟨j+1,ns++[a],A',c'⟩ from ⟨hjl,by show ns++[a]=_;rw[List.take_add_one,HSJ.out,List.map_append,← HNS.out];show _=ns++[Xa _ s];rw[HA.out],fun t ht=>by
        show 0≤Xa _ t
        rw[List.take_add_one,HSJ.out] at ht
        rcases List.mem_append.1 ht with h|h
        ·exact HNP.out t h
        ·rw[show t=s by simpa using h,HA.out]
         omega⟩))
       refine Q6 (Q6 (Q2 ?_));refine Q1 zM ?_;refine Q1 zhf ?_;refine Q8 ?_;refine Qb (Q3 rfl (QX (Qb (Q6 (Q6 (Q2 ?_))))));refine Q1 zM ?_;refine Q1 zlf ?_;refine Q8 ?_;refine Qb (Q3 rfl (Qh (Qb (Q2 ?_))));refine Q1 zM ?_;refine Q1 zM ?_;refine Qa (Qz (size:=1) rfl rfl rfl rfl rfl (by decide)) rfl (by decide) (fun bn _=>?_);refine Qa (QC 1 rfl rfl rfl rfl rfl (fun w hw=>hw.rd_blk 0 rfl rfl) (by simp [Value.oneCell']) (by omega)) rfl (by decide) (fun z _=>?_);refine Q1 zA ?_;refine Q8 ?_;refine Qb (Q2 ?_);refine Q1 zM ?_;refine Q1 zP ?_;refine Q1 zA ?_;refine Q8 ?_;refine Xj ⟨j+1,ns++[a],z.1,z.2⟩ (HNX.out _ _) (by show y.refs.length - (j+1)<y.refs.length - j;omega) (.cons rfl rfl (.cons rfl rfl (.cons rfl rfl (.cons rfl rfl (.cons rfl rfl (.cons rfl (by rw[List.length_append];rfl) (.cons rfl (by go_num) .nil))))))) (fun w hw=>?_)
       show Wd [] W (.row z.1 (ns++[a]).length z.2 3 1 (iv (ns++[a]))::.row (some ⟨b,0,none⟩) ls.length c 52 12 (QR cur)::.row (some ⟨bb,0,none⟩) ls.length d 50 1 (Jx ls)::.blk b6 (.cells ([.slice (some ⟨b,0,none⟩) ls.length c]:List Value).toArray 24 (0,0))::.blk b3 (.cells ([.int .i64 0,.int .i64 0]:List Value).toArray 27 (0,0))::.blk b2 (.cells ([.slice none 0 0]:List Value).toArray 24 (0,0))::(at2++O)) w
       rw[List.length_append,← ZE];exact hw.tl
    ·obtain rfl:j=y.refs.length:=by omega
     have hns2:ns=y.refs.map (Xa (cur.map RlY.x)):=by have h:=HNS.out;rw[List.take_length] at h;exact h
     have hpl:Xf (cur.map RlY.x) (y.x,y.refs)=some (XD y.x ns):=by
      have h:=HNP.out;rw[List.take_length] at h
      unfold Xf
      rw[Q0t h,← hns2]
      rfl
     have HPL:=Lib.hid hpl;have HCK:=Lib.hid (show (QR cur)[0+k*12+1]? =some (.int .i64 y.x.kind) by rw[Nat.zero_add];exact ZZ cur k y 1 HY.out (by decide))
     have hkc:k<cur.length:=by omega
     have HWN:=Lib.hid (Win.start HY.out);refine Z8 (φ:=ns.length≤ct) (fun w hw=>(XN (hw.own 0 _ rfl) (by decide)).2) (fun hct=>?_);have huse:=HKS.out.use;have hpt:=HKS.out.parts;clear hpl hns2;obtain⟨K,hK⟩:∃K,y.x.kind=K:=⟨_,rfl⟩;rw[hK] at HCK
     by_cases h6:K=6
     ·subst h6;have hkd:y.x.kind=6:=hK
      have hl2:ns.length=2:=by rw[hnl,huse (by rw[hkd];exact .inl rfl),hkd];rfl
      obtain⟨a,a2,rfl⟩:∃a a2,ns=[a,a2]:=by
       match ns,hl2 with
       |[a,a2],_=>exact⟨a,a2,rfl⟩
      refine V9 0 rfl (by simp) (fun bt et=>?_);obtain rfl:At=some ⟨bt,0,none⟩:=et;refine Q6 (Q6 (Q2 ?_));refine Q1 zM ?_;refine Q1 zM ?_;refine Q1 zM ?_;refine Q1 (zi1 (hj:=hk)) ?_;refine Q1 (zK 2 HRC.out) ?_;refine Q1 zL ?_;refine Q1 zlf ?_;refine Q8 ?_;refine Qb (Q3 rfl (QX (Qb (Q6 (Q2 ?_)))));refine Q1 zF ?_;refine Q1 (zB 3) ?_;refine Q1 zM ?_;refine Q1 (zi (hj:=hk)) ?_;refine Q1 zF ?_;refine Q1 (zK 1 HCK.out) ?_;refine Q8 ?_;refine Qb (Qe (Q6 (Q2 ?_)));refine Q1 zet ?_;refine Q1 zA ?_;refine Q8 ?_;refine Qb (Q5 rfl (Q6 ?_));refine Zs [.row (some ⟨bt,0,none⟩) 2 ct 3 1 (iv [a,a2]),.blk b6 (.cells ([.slice (some ⟨b,0,none⟩) ls.length c]:List Value).toArray 24 (0,0))] [] (by kernel_rfl) ?_;refine Qk 0 rfl (by kernel_rfl) (Q7.sel [0,3] (by decide) rfl) zF ?_;refine Qk 1 rfl (by kernel_rfl) (Q7.sel [0,3] (by decide) rfl) (zB 1) ?_;refine Qk 2 rfl (by kernel_rfl) (Q7.sel [0,3] (by decide) rfl) zM ?_;refine Qk 3 rfl (by kernel_rfl) (Q7.sel [0,3] (by decide) rfl) zM ?_;refine Qk 4 rfl (by kernel_rfl) (Q7.sel [0,3] (by decide) rfl) (zi1 (j:=0) (hj:=(by simp))) ?_;refine Qk 5 rfl (by kernel_rfl) (Q7.sel [0,3] (by decide) rfl) (QL rfl rfl (by decide) rfl rfl (fun w hw=>hw.cell_row 0 (j:=0+0) (v:=.int .i64 a) rfl rfl)) ?_;refine Qk 6 rfl (by kernel_rfl) (Q7.sel [0,3] (by decide) rfl) (zi (hj:=hk)) ?_;refine Qk 7 rfl (by kernel_rfl) (Q7.sel [0,3] (by decide) rfl) zF ?_;refine Xw 8 (by kernel_rfl) rfl rfl (QI 1 rfl rfl rfl rfl rfl rfl (by omega)) (fun _=>.inr (Q7.sel [0,3] (by decide) rfl)) rfl (fun _ _=>?_);refine Zc ?_ (by kernel_rfl);refine Qb ?_;refine Zs [.row (some ⟨bt,0,none⟩) 2 ct 3 1 (iv [a,a2]),.blk b6 (.cells ([.slice (some ⟨b,0,none⟩) ls.length c]:List Value).toArray 24 (0,0))] [] (by kernel_rfl) ?_;refine Qk 0 rfl (by kernel_rfl) (Q7.sel [0,3] (by decide) rfl) zF ?_;refine Qk 1 rfl (by kernel_rfl) (Q7.sel [0,3] (by decide) rfl) (zB 1) ?_;refine Qk 2 rfl (by kernel_rfl) (Q7.sel [0,3] (by decide) rfl) zM ?_;refine Qk 3 rfl (by kernel_rfl) (Q7.sel [0,3] (by decide) rfl) zM ?_;refine Qk 4 rfl (by kernel_rfl) (Q7.sel [0,3] (by decide) rfl) (zi1 (j:=1) (hj:=(by simp))) ?_;refine Qk 5 rfl (by kernel_rfl) (Q7.sel [0,3] (by decide) rfl) (QL rfl rfl (by decide) rfl rfl (fun w hw=>hw.cell_row 0 (j:=0+1) (v:=.int .i64 a2) rfl rfl)) ?_;refine Qk 6 rfl (by kernel_rfl) (Q7.sel [0,3] (by decide) rfl) (zi (hj:=hk)) ?_;refine Qk 7 rfl (by kernel_rfl) (Q7.sel [0,3] (by decide) rfl) zF ?_;refine Xw 8 (by kernel_rfl) rfl rfl (QI 1 rfl rfl rfl rfl rfl rfl (by omega)) (fun _=>.inr (Q7.sel [0,3] (by decide) rfl)) rfl (fun _ _=>?_);refine Zc ?_ (by kernel_rfl)
      have huc:Qp y.x.kind=true:=by rw[hkd];rfl
      have huo:XJ y.x.kind=true:=by rw[hkd];rfl
      have hx:XD y.x [a,a2]={ y.x with count:=a,elem:=a2,parts:=[] }:=by unfold XD;rw[huc,huo];rfl
      have hput:=H2.out.put (ats:=[]) (x:={ y.x with count:=a,elem:=a2,parts:=[] }) (Ap:=y.Ap) (cp:=y.cp) HY.out HY2.out HKS.out (hx▸HPL.out) (fun a ha=>by cases ha) (Nat.zero_le _) (fun w _=>Yd w _ _);have hwin:=(HWN.out.put (k:=8) (v:=.int .i64 a) hkc (by decide)).put (k:=9) (v:=.int .i64 a2) hkc (by decide)
      have hce:RlY.cells { y with x:={ y.x with count:=a,elem:=a2,parts:=[] },Ap:=y.Ap,cp:=y.cp }=(y.cells.set 8 (.int .i64 a)).set 9 (.int .i64 a2):=by
       unfold RlY.cells
       rw[hpt]
       rfl
      have hcs:=Win.fin (y:={ y with x:={ y.x with count:=a,elem:=a2,parts:=[] },Ap:=y.Ap,cp:=y.cp }) (by rw[hce];exact hwin) hkc;refine Qb (Q2 ?_);refine Q1 zM ?_;refine Q1 zP ?_;refine Q1 zA ?_;refine Q8 ?_;refine Xj ⟨k+1,cur.set k { y with x:={ y.x with count:=a,elem:=a2,parts:=[] },Ap:=y.Ap,cp:=y.cp },[]++at2⟩ hput (by show ls.length - (k+1)<ls.length - k;omega) (.cons rfl rfl (.cons rfl rfl (.cons rfl rfl (.cons rfl rfl (.cons rfl (by go_num) .nil))))) (fun w hw=>?_)
      show Wd [] W (.row (some ⟨b,0,none⟩) ls.length c 52 12 (QR (cur.set k { y with x:={ y.x with count:=a,elem:=a2,parts:=[] },Ap:=y.Ap,cp:=y.cp }))::.row (some ⟨bb,0,none⟩) ls.length d 50 1 (Jx ls)::.blk b6 (.cells ([.slice (some ⟨b,0,none⟩) ls.length c]:List Value).toArray 24 (0,0))::.blk b3 (.cells ([.int .i64 0,.int .i64 0]:List Value).toArray 27 (0,0))::.blk b2 (.cells ([.slice none 0 0]:List Value).toArray 24 (0,0))::(([]++at2)++O)) w
      rw[← hcs];have hw2:=hw.tl
      simp only[Nat.zero_add] at hw2
      exact hw2
     by_cases h9:K=9
     ·subst h9;have hkd:y.x.kind=9:=hK
      have hl1:ns.length=1:=by rw[hnl,huse (by rw[hkd];exact .inr rfl),hkd];rfl
      obtain⟨a,rfl⟩:=List.length_eq_one_iff.1 hl1;refine V9 0 rfl (by simp) (fun bt et=>?_);obtain rfl:At=some ⟨bt,0,none⟩:=et;refine Q6 (Q6 (Q2 ?_));refine Q1 zM ?_;refine Q1 zM ?_;refine Q1 zM ?_;refine Q1 (zi1 (hj:=hk)) ?_;refine Q1 (zK 2 HRC.out) ?_;refine Q1 zL ?_;refine Q1 zlf ?_;refine Q8 ?_;refine Qb (Q3 rfl (QX (Qb (Q6 (Q2 ?_)))));refine Q1 zF ?_;refine Q1 (zB 3) ?_;refine Q1 zM ?_;refine Q1 (zi (hj:=hk)) ?_;refine Q1 zF ?_;refine Q1 (zK 1 HCK.out) ?_;refine Q8 ?_;refine Qb (Qe (Q6 (Q2 ?_)));refine Q1 zef ?_;refine Q1 zA ?_;refine Q8 ?_;refine Qb (Q3 rfl (Q6 (Q2 ?_)));refine Q1 zet ?_;refine Q1 zA ?_;refine Q8 ?_;refine Qb (Q5 rfl ?_);refine Zs [.row (some ⟨bt,0,none⟩) 1 ct 3 1 (iv [a]),.blk b6 (.cells ([.slice (some ⟨b,0,none⟩) ls.length c]:List Value).toArray 24 (0,0))] [] (by kernel_rfl) ?_;refine Qk 0 rfl (by kernel_rfl) (Q7.sel [0,3] (by decide) rfl) zF ?_;refine Qk 1 rfl (by kernel_rfl) (Q7.sel [0,3] (by decide) rfl) (zB 1) ?_;refine Qk 2 rfl (by kernel_rfl) (Q7.sel [0,3] (by decide) rfl) zM ?_;refine Qk 3 rfl (by kernel_rfl) (Q7.sel [0,3] (by decide) rfl) zM ?_;refine Qk 4 rfl (by kernel_rfl) (Q7.sel [0,3] (by decide) rfl) (zi1 (j:=0) (hj:=(by simp))) ?_;refine Qk 5 rfl (by kernel_rfl) (Q7.sel [0,3] (by decide) rfl) (QL rfl rfl (by decide) rfl rfl (fun w hw=>hw.cell_row 0 (j:=0+0) (v:=.int .i64 a) rfl rfl)) ?_;refine Qk 6 rfl (by kernel_rfl) (Q7.sel [0,3] (by decide) rfl) (zi (hj:=hk)) ?_;refine Qk 7 rfl (by kernel_rfl) (Q7.sel [0,3] (by decide) rfl) zF ?_;refine Xw 8 (by kernel_rfl) rfl rfl (QI 1 rfl rfl rfl rfl rfl rfl (by omega)) (fun _=>.inr (Q7.sel [0,3] (by decide) rfl)) rfl (fun _ _=>?_);refine Zc ?_ (by kernel_rfl)
      have huc:Qp y.x.kind=false:=by rw[hkd];rfl
      have huo:XJ y.x.kind=true:=by rw[hkd];rfl
      have hx:XD y.x [a]={ y.x with elem:=a,parts:=[] }:=by unfold XD;rw[huc,huo];rfl
      have hput:=H2.out.put (ats:=[]) (x:={ y.x with elem:=a,parts:=[] }) (Ap:=y.Ap) (cp:=y.cp) HY.out HY2.out HKS.out (hx▸HPL.out) (fun a ha=>by cases ha) (Nat.zero_le _) (fun w _=>Yd w _ _);have hwin:=HWN.out.put (k:=9) (v:=.int .i64 a) hkc (by decide)
      have hce:RlY.cells { y with x:={ y.x with elem:=a,parts:=[] },Ap:=y.Ap,cp:=y.cp }=y.cells.set 9 (.int .i64 a):=by
       unfold RlY.cells
       rw[hpt]
       rfl
      have hcs:=Win.fin (y:={ y with x:={ y.x with elem:=a,parts:=[] },Ap:=y.Ap,cp:=y.cp }) (by rw[hce];exact hwin) hkc;refine Qb (Q2 ?_);refine Q1 zM ?_;refine Q1 zP ?_;refine Q1 zA ?_;refine Q8 ?_;refine Xj ⟨k+1,cur.set k { y with x:={ y.x with elem:=a,parts:=[] },Ap:=y.Ap,cp:=y.cp },[]++at2⟩ hput (by show ls.length - (k+1)<ls.length - k;omega) (.cons rfl rfl (.cons rfl rfl (.cons rfl rfl (.cons rfl rfl (.cons rfl (by go_num) .nil))))) (fun w hw=>?_)
      show Wd [] W (.row (some ⟨b,0,none⟩) ls.length c 52 12 (QR (cur.set k { y with x:={ y.x with elem:=a,parts:=[] },Ap:=y.Ap,cp:=y.cp }))::.row (some ⟨bb,0,none⟩) ls.length d 50 1 (Jx ls)::.blk b6 (.cells ([.slice (some ⟨b,0,none⟩) ls.length c]:List Value).toArray 24 (0,0))::.blk b3 (.cells ([.int .i64 0,.int .i64 0]:List Value).toArray 27 (0,0))::.blk b2 (.cells ([.slice none 0 0]:List Value).toArray 24 (0,0))::(([]++at2)++O)) w
      rw[← hcs];have hw2:=hw.tl
      simp only[Nat.zero_add] at hw2
      exact hw2
     by_cases h10:K=10
     ·subst h10;have hkd:y.x.kind=10:=hK
      have hl1:ns.length=1:=by rw[hnl,huse (by rw[hkd];exact .inl rfl),hkd];rfl
      obtain⟨a,rfl⟩:=List.length_eq_one_iff.1 hl1;refine V9 0 rfl (by simp) (fun bt et=>?_);obtain rfl:At=some ⟨bt,0,none⟩:=et;refine Q6 (Q6 (Q2 ?_));refine Q1 zM ?_;refine Q1 zM ?_;refine Q1 zM ?_;refine Q1 (zi1 (hj:=hk)) ?_;refine Q1 (zK 2 HRC.out) ?_;refine Q1 zL ?_;refine Q1 zlf ?_;refine Q8 ?_;refine Qb (Q3 rfl (QX (Qb (Q6 (Q2 ?_)))));refine Q1 zF ?_;refine Q1 (zB 3) ?_;refine Q1 zM ?_;refine Q1 (zi (hj:=hk)) ?_;refine Q1 zF ?_;refine Q1 (zK 1 HCK.out) ?_;refine Q8 ?_;refine Qb (Qe (Q6 (Q2 ?_)));refine Q1 zef ?_;refine Q1 zA ?_;refine Q8 ?_;refine Qb (Q3 rfl (Q6 (Q2 ?_)));refine Q1 zef ?_;refine Q1 zA ?_;refine Q8 ?_;refine Qb (Q3 rfl (Q6 (Q2 ?_)));refine Q1 zet ?_;refine Q1 zA ?_;refine Q8 ?_;refine Qb (Q5 rfl ?_);refine Zs [.row (some ⟨bt,0,none⟩) 1 ct 3 1 (iv [a]),.blk b6 (.cells ([.slice (some ⟨b,0,none⟩) ls.length c]:List Value).toArray 24 (0,0))] [] (by kernel_rfl) ?_;refine Qk 0 rfl (by kernel_rfl) (Q7.sel [0,3] (by decide) rfl) zF ?_;refine Qk 1 rfl (by kernel_rfl) (Q7.sel [0,3] (by decide) rfl) (zB 1) ?_;refine Qk 2 rfl (by kernel_rfl) (Q7.sel [0,3] (by decide) rfl) zM ?_;refine Qk 3 rfl (by kernel_rfl) (Q7.sel [0,3] (by decide) rfl) zM ?_;refine Qk 4 rfl (by kernel_rfl) (Q7.sel [0,3] (by decide) rfl) (zi1 (j:=0) (hj:=(by simp))) ?_;refine Qk 5 rfl (by kernel_rfl) (Q7.sel [0,3] (by decide) rfl) (QL rfl rfl (by decide) rfl rfl (fun w hw=>hw.cell_row 0 (j:=0+0) (v:=.int .i64 a) rfl rfl)) ?_;refine Qk 6 rfl (by kernel_rfl) (Q7.sel [0,3] (by decide) rfl) (zi (hj:=hk)) ?_;refine Qk 7 rfl (by kernel_rfl) (Q7.sel [0,3] (by decide) rfl) zF ?_;refine Xw 8 (by kernel_rfl) rfl rfl (QI 1 rfl rfl rfl rfl rfl rfl (by omega)) (fun _=>.inr (Q7.sel [0,3] (by decide) rfl)) rfl (fun _ _=>?_);refine Zc ?_ (by kernel_rfl)
      have huc:Qp y.x.kind=true:=by rw[hkd];rfl
      have huo:XJ y.x.kind=false:=by rw[hkd];rfl
      have hx:XD y.x [a]={ y.x with count:=a,parts:=[] }:=by unfold XD;rw[huc,huo];rfl
      have hput:=H2.out.put (ats:=[]) (x:={ y.x with count:=a,parts:=[] }) (Ap:=y.Ap) (cp:=y.cp) HY.out HY2.out HKS.out (hx▸HPL.out) (fun a ha=>by cases ha) (Nat.zero_le _) (fun w _=>Yd w _ _);have hwin:=HWN.out.put (k:=8) (v:=.int .i64 a) hkc (by decide)
      have hce:RlY.cells { y with x:={ y.x with count:=a,parts:=[] },Ap:=y.Ap,cp:=y.cp }=y.cells.set 8 (.int .i64 a):=by
       unfold RlY.cells
       rw[hpt]
       rfl
      have hcs:=Win.fin (y:={ y with x:={ y.x with count:=a,parts:=[] },Ap:=y.Ap,cp:=y.cp }) (by rw[hce];exact hwin) hkc;refine Qb (Q2 ?_);refine Q1 zM ?_;refine Q1 zP ?_;refine Q1 zA ?_;refine Q8 ?_;refine Xj ⟨k+1,cur.set k { y with x:={ y.x with count:=a,parts:=[] },Ap:=y.Ap,cp:=y.cp },[]++at2⟩ hput (by show ls.length - (k+1)<ls.length - k;omega) (.cons rfl rfl (.cons rfl rfl (.cons rfl rfl (.cons rfl rfl (.cons rfl (by go_num) .nil))))) (fun w hw=>?_)
      show Wd [] W (.row (some ⟨b,0,none⟩) ls.length c 52 12 (QR (cur.set k { y with x:={ y.x with count:=a,parts:=[] },Ap:=y.Ap,cp:=y.cp }))::.row (some ⟨bb,0,none⟩) ls.length d 50 1 (Jx ls)::.blk b6 (.cells ([.slice (some ⟨b,0,none⟩) ls.length c]:List Value).toArray 24 (0,0))::.blk b3 (.cells ([.int .i64 0,.int .i64 0]:List Value).toArray 27 (0,0))::.blk b2 (.cells ([.slice none 0 0]:List Value).toArray 24 (0,0))::(([]++at2)++O)) w
      rw[← hcs];have hw2:=hw.tl
      simp only[Nat.zero_add] at hw2
      exact hw2
     by_cases h7:K=7
     ·subst h7;have hkd:y.x.kind=7:=hK;refine Q6 (Q6 (Q2 ?_));refine Q1 zM ?_;refine Q1 zM ?_;refine Q1 zM ?_;refine Q1 (zi1 (hj:=hk)) ?_;refine Q1 (zK 2 HRC.out) ?_;refine Q1 zL ?_;refine Q1 zlf ?_;refine Q8 ?_;refine Qb (Q3 rfl (QX (Qb (Q6 (Q2 ?_)))));refine Q1 zF ?_;refine Q1 (zB 3) ?_;refine Q1 zM ?_;refine Q1 (zi (hj:=hk)) ?_;refine Q1 zF ?_;refine Q1 (zK 1 HCK.out) ?_;refine Q8 ?_;refine Qb (Qe (Q6 (Q2 ?_)));refine Q1 zef ?_;refine Q1 zA ?_;refine Q8 ?_;refine Qb (Q3 rfl (Q6 (Q2 ?_)));refine Q1 zef ?_;refine Q1 zA ?_;refine Q8 ?_;refine Qb (Q3 rfl (Q6 (Q2 ?_)));refine Q1 zef ?_;refine Q1 zA ?_;refine Q8 ?_;refine Qb (Q3 rfl (Q6 (Q6 (Q2 ?_))));refine Q1 zet ?_;refine Q1 zA ?_;refine Q8 ?_;refine Qb (Q5 rfl (Qh (Qb (Q5 rfl (Q2 ?_)))));refine Q1 zF ?_;refine Q1 (zB 3) ?_;refine Q1 zM ?_;refine Q1 zM ?_;refine Q1 (zi (hj:=hk)) ?_;refine Q1 zF ?_;refine Qq (QI 1 rfl rfl rfl rfl rfl rfl (by omega)) rfl (fun _ _=>?_);refine Q8 ?_;refine Qb (Q2 ?_)
      have huc:Qp y.x.kind=false:=by rw[hkd];rfl
      have huo:XJ y.x.kind=false:=by rw[hkd];rfl
      have hx:XD y.x ns={ y.x with parts:=ns }:=by unfold XD;rw[huc,huo];rfl
      have hput:=H2.out.put (ats:=[.rd At ns.length 1 (iv ns)]) (x:={ y.x with parts:=ns }) (Ap:=At) (cp:=ct) HY.out HY2.out HKS.out (hx▸HPL.out) (Q6H rfl) hct (fun w ha=>ha _ (List.mem_singleton.2 rfl));have hcs:=Win.fin (y:={ y with x:={ y.x with parts:=ns },Ap:=At,cp:=ct }) (HWN.out.put (k:=11) (v:=.slice At ns.length ct) hkc (by decide)) hkc;refine Q1 zM ?_;refine Q1 zP ?_;refine Q1 zA ?_;refine Q8 ?_;refine Xj ⟨k+1,cur.set k { y with x:={ y.x with parts:=ns },Ap:=At,cp:=ct },[.rd At ns.length 1 (iv ns)]++at2⟩ hput (by show ls.length - (k+1)<ls.length - k;omega) (.cons rfl rfl (.cons rfl rfl (.cons rfl rfl (.cons rfl rfl (.cons rfl (by go_num) .nil))))) (fun w hw=>?_)
      show Wd [] W (.row (some ⟨b,0,none⟩) ls.length c 52 12 (QR (cur.set k { y with x:={ y.x with parts:=ns },Ap:=At,cp:=ct }))::.row (some ⟨bb,0,none⟩) ls.length d 50 1 (Jx ls)::.blk b6 (.cells ([.slice (some ⟨b,0,none⟩) ls.length c]:List Value).toArray 24 (0,0))::.blk b3 (.cells ([.int .i64 0,.int .i64 0]:List Value).toArray 27 (0,0))::.blk b2 (.cells ([.slice none 0 0]:List Value).toArray 24 (0,0))::(([.rd At ns.length 1 (iv ns)]++at2)++O)) w
      rw[← hcs];have hw2:=hw
      simp only[Nat.zero_add] at hw2
      exact Wd.swapL (L:=[_]) (P:=[_,_,_,_,_]) (O:=at2++O) (Wd.rdAt0 hw2)
     by_cases h8:K=8
     ·subst h8;have hkd:y.x.kind=8:=hK;refine Q6 (Q6 (Q2 ?_));refine Q1 zM ?_;refine Q1 zM ?_;refine Q1 zM ?_;refine Q1 (zi1 (hj:=hk)) ?_;refine Q1 (zK 2 HRC.out) ?_;refine Q1 zL ?_;refine Q1 zlf ?_;refine Q8 ?_;refine Qb (Q3 rfl (QX (Qb (Q6 (Q2 ?_)))));refine Q1 zF ?_;refine Q1 (zB 3) ?_;refine Q1 zM ?_;refine Q1 (zi (hj:=hk)) ?_;refine Q1 zF ?_;refine Q1 (zK 1 HCK.out) ?_;refine Q8 ?_;refine Qb (Qe (Q6 (Q2 ?_)));refine Q1 zef ?_;refine Q1 zA ?_;refine Q8 ?_;refine Qb (Q3 rfl (Q6 (Q2 ?_)));refine Q1 zef ?_;refine Q1 zA ?_;refine Q8 ?_;refine Qb (Q3 rfl (Q6 (Q2 ?_)));refine Q1 zef ?_;refine Q1 zA ?_;refine Q8 ?_;refine Qb (Q3 rfl (Q6 (Q6 (Q2 ?_))));refine Q1 zef ?_;refine Q1 zA ?_;refine Q8 ?_;refine Qb (Q3 rfl (Q2 ?_));refine Q1 zet ?_;refine Q1 zA ?_;refine Q8 ?_;refine Qb (Q5 rfl (Q2 ?_));refine Q1 zF ?_;refine Q1 (zB 3) ?_;refine Q1 zM ?_;refine Q1 zM ?_;refine Q1 (zi (hj:=hk)) ?_;refine Q1 zF ?_;refine Qq (QI 1 rfl rfl rfl rfl rfl rfl (by omega)) rfl (fun _ _=>?_);refine Q8 ?_;refine Qb (Q2 ?_)
      have huc:Qp y.x.kind=false:=by rw[hkd];rfl
      have huo:XJ y.x.kind=false:=by rw[hkd];rfl
      have hx:XD y.x ns={ y.x with parts:=ns }:=by unfold XD;rw[huc,huo];rfl
      have hput:=H2.out.put (ats:=[.rd At ns.length 1 (iv ns)]) (x:={ y.x with parts:=ns }) (Ap:=At) (cp:=ct) HY.out HY2.out HKS.out (hx▸HPL.out) (Q6H rfl) hct (fun w ha=>ha _ (List.mem_singleton.2 rfl));have hcs:=Win.fin (y:={ y with x:={ y.x with parts:=ns },Ap:=At,cp:=ct }) (HWN.out.put (k:=11) (v:=.slice At ns.length ct) hkc (by decide)) hkc;refine Q1 zM ?_;refine Q1 zP ?_;refine Q1 zA ?_;refine Q8 ?_;refine Xj ⟨k+1,cur.set k { y with x:={ y.x with parts:=ns },Ap:=At,cp:=ct },[.rd At ns.length 1 (iv ns)]++at2⟩ hput (by show ls.length - (k+1)<ls.length - k;omega) (.cons rfl rfl (.cons rfl rfl (.cons rfl rfl (.cons rfl rfl (.cons rfl (by go_num) .nil))))) (fun w hw=>?_)
      show Wd [] W (.row (some ⟨b,0,none⟩) ls.length c 52 12 (QR (cur.set k { y with x:={ y.x with parts:=ns },Ap:=At,cp:=ct }))::.row (some ⟨bb,0,none⟩) ls.length d 50 1 (Jx ls)::.blk b6 (.cells ([.slice (some ⟨b,0,none⟩) ls.length c]:List Value).toArray 24 (0,0))::.blk b3 (.cells ([.int .i64 0,.int .i64 0]:List Value).toArray 27 (0,0))::.blk b2 (.cells ([.slice none 0 0]:List Value).toArray 24 (0,0))::(([.rd At ns.length 1 (iv ns)]++at2)++O)) w
      rw[← hcs];have hw2:=hw
      simp only[Nat.zero_add] at hw2
      exact Wd.swapL (L:=[_]) (P:=[_,_,_,_,_]) (O:=at2++O) (Wd.rdAt0 hw2)
     have HPL2:=Lib.hid (show Xf (cur.map RlY.x) (y.x,y.refs)=some y.x by
      rw[HPL.out];have hr:y.refs=[]:=HI.out.z y hym (by rw[hK];exact⟨h6,h7,h8,h9,h10⟩);have hn0:ns=[]:=List.eq_nil_of_length_eq_zero (by rw[hnl,hr];rfl)
      have e:XD y.x []={ y.x with parts:=[] }:=by
       have huc:Qp y.x.kind=false:=by rw[hK];unfold Qp Zu;simp [h6,h10]
       have huo:XJ y.x.kind=false:=by rw[hK];unfold XJ Zu;simp [h6,h9]
       unfold XD
       rw[huc,huo]
       rfl
      rw[hn0,e,← hpt])
     refine Q6 (Q6 (Q2 ?_));refine Q1 zM ?_;refine Q1 zM ?_;refine Q1 zM ?_;refine Q1 (zi1 (hj:=hk)) ?_;refine Q1 (zK 2 HRC.out) ?_;refine Q1 zL ?_;refine Q1 zlf ?_;refine Q8 ?_;refine Qb (Q3 rfl (QX (Qb (Q6 (Q2 ?_)))));refine Q1 zF ?_;refine Q1 (zB 3) ?_;refine Q1 zM ?_;refine Q1 (zi (hj:=hk)) ?_;refine Q1 zF ?_;refine Q1 (zK 1 HCK.out) ?_;refine Q8 ?_;refine Qb (Qe (Q6 (Q2 ?_)));refine Q1 zef ?_;refine Q1 zA ?_;refine Q8 ?_;refine Qb (Q3 rfl (Q6 (Q2 ?_)));refine Q1 zef ?_;refine Q1 zA ?_;refine Q8 ?_;refine Qb (Q3 rfl (Q6 (Q2 ?_)));refine Q1 zef ?_;refine Q1 zA ?_;refine Q8 ?_;refine Qb (Q3 rfl (Q6 (Q6 (Q2 ?_))));refine Q1 zef ?_;refine Q1 zA ?_;refine Q8 ?_;refine Qb (Q3 rfl (Q2 ?_));refine Q1 zef ?_;refine Q1 zA ?_;refine Q8 ?_;refine Qb (Q3 rfl (Qh (Qb (Q2 ?_))));refine Q1 zM ?_;refine Q1 zP ?_;refine Q1 zA ?_;refine Q8 ?_;have hput:=H2.out.put (ats:=[]) (x:=y.x) (Ap:=y.Ap) (cp:=y.cp) HY.out HY2.out HKS.out HPL2.out (fun a ha=>by cases ha) (by rw[hpt];exact Nat.zero_le _) (fun w _=>by rw[hpt];exact Yd w _ _);have hcs:=Win.fin (y:={ y with x:=y.x,Ap:=y.Ap,cp:=y.cp }) HWN.out hkc;refine Xj ⟨k+1,cur.set k { y with x:=y.x,Ap:=y.Ap,cp:=y.cp },[]++at2⟩ hput (by show ls.length - (k+1)<ls.length - k;omega) (.cons rfl rfl (.cons rfl rfl (.cons rfl rfl (.cons rfl rfl (.cons rfl (by go_num) .nil))))) (fun w hw=>?_)
     show Wd [] W (.row (some ⟨b,0,none⟩) ls.length c 52 12 (QR (cur.set k { y with x:=y.x,Ap:=y.Ap,cp:=y.cp }))::.row (some ⟨bb,0,none⟩) ls.length d 50 1 (Jx ls)::.blk b6 (.cells ([.slice (some ⟨b,0,none⟩) ls.length c]:List Value).toArray 24 (0,0))::.blk b3 (.cells ([.int .i64 0,.int .i64 0]:List Value).toArray 27 (0,0))::.blk b2 (.cells ([.slice none 0 0]:List Value).toArray 24 (0,0))::(([]++at2)++O)) w
     rw[← hcs];exact hw.tl
   ·obtain rfl:k=ls.length:=by omega
    have hfin:=H2.out.fin;have hlen:cur.length=ls.length:=H2.out.len
    have hfs:FSm (cur.map RlY.x):=⟨by rw[List.length_map,hlen];omega,fun r hr=>by
     obtain⟨z,hz,rfl⟩:=List.mem_map.1 hr
     exact H2.out.sm z hz⟩
    obtain⟨⟨fa,fb⟩,hff⟩:∃p,QO (cur.map RlY.x)=p:=⟨_,rfl⟩;have HFF:=Lib.hid hff;have HFS:=Lib.hid hfs;have HFIN:=Lib.hid (show QF ((ls.map prL).map (·.1)) 0 (ls.map prL)=.ok (cur.map RlY.x) by rw[Q2H];exact hfin)
    by_cases hz:fa=0
    ·subst hz;obtain rfl:=Yf hff;clear hff hfs hfin;refine Q6 (Q6 (Q2 ?_));refine Q1 zM ?_;refine Q1 zM ?_;refine Q1 zL ?_;refine Q1 zlf ?_;refine Q8 ?_;refine Qb (Q3 rfl (QX (Qb (Q6 (Q6 (Q2 ?_))))));refine Q1 (zD 2) ?_;refine Q1 (Q4 (f:=11) rfl rfl (by decide) rfl rfl (fun w hw=>(ZB (HON.out w hw).1 HFS.out).mono (fun _ _ h=>by rw[HFF.out] at h;exact h))) ?_;refine yA fun b17=>?_;refine yW 0 ?_;refine Q8 ?_;refine Qb (Q6 (Q2 ?_));refine Q1 zF ?_;refine Q1 (zB 0) ?_;refine Q1 znf ?_;refine Q8 ?_;refine Qb (Q3 rfl (Qh (Qb (Q6 (Q2 ?_)))));refine Q1 (zD 3) ?_;refine Q1 (QZ (xs:=[]) (vs:=[]) (v:=.agg #[.int .i64 0,.int .i64 0]) rfl rfl (by decide) rfl rfl (fun w=>run_build w _ _ _ (by kernel_rfl))) ?_;refine yW 5 ?_;refine yW 4 ?_;refine Q8 ?_;refine Qb (Ql ?_);refine Xv (by exact .inr rfl) rfl (RsV.blk 5 rfl rfl rfl) (RsV.blk 4 rfl rfl rfl) (fun w hw=>Q94 hlen (Q4D hlong HLN.out HFIN.out HFF.out) hlc HFS.out H2.out.w (fun w h=>(H2.out.f w h).1) ?_);exact Wd.no2 (Wd.no2 (Wd.no2 (Wd.no2 hw.tl)))
    ·clear hff hfs hfin;refine Q6 (Q6 (Q2 ?_));refine Q1 zM ?_;refine Q1 zM ?_;refine Q1 zL ?_;refine Q1 zlf ?_;refine Q8 ?_;refine Qb (Q3 rfl (QX (Qb (Q6 (Q6 (Q2 ?_))))));refine Q1 (zD 2) ?_;refine Q1 (Q4 (f:=11) rfl rfl (by decide) rfl rfl (fun w hw=>(ZB (HON.out w hw).1 HFS.out).mono (fun _ _ h=>by rw[HFF.out] at h;exact h))) ?_;refine yA fun b17=>?_;refine yW 0 ?_;refine Q8 ?_;refine Qb (Q6 (Q2 ?_));refine Q1 zF ?_;refine Q1 (zB 0) ?_;refine Q1 znt ?_;refine Q8 ?_;refine Qb (Q5 rfl (Q6 ?_));refine Zs [.blk b17 (.cells ([.int .i64 fa,.int .i64 fb]:List Value).toArray 27 (0,0))] [] (by kernel_rfl) ?_;refine Qk 0 rfl (by kernel_rfl) (Q7.sel [0] (by decide) rfl) (QZ (xs:=[]) (vs:=[]) (v:=.agg #[.slice none 0 0]) rfl rfl (by decide) rfl rfl (fun w=>run_build w _ _ _ (by kernel_rfl))) ?_;refine Qk 1 rfl (by kernel_rfl) (Q7.sel [0] (by decide) rfl) (zD 0) ?_;refine Xw 2 (by kernel_rfl) rfl rfl (Qs 5 rfl rfl rfl rfl rfl rfl rfl (by simp)) (fun _=>.inr (Q7.sel [0] (by decide) rfl)) rfl (fun _ _=>?_);rw[Qw (by rfl)];refine Xw 3 (by kernel_rfl) rfl rfl (Qs 4 (us:=[.int .i64 fa,.int .i64 fb]) rfl rfl rfl rfl rfl rfl rfl (by simp)) (fun _=>.inr (Q7.sel [0] (by decide) rfl)) rfl (fun _ _=>?_);rw[Qw (by rfl)];refine Zc ?_ (by kernel_rfl);refine Qb (Ql (Qc ?_));exact Xv (by exact .inr rfl) rfl (RsV.blk 5 rfl rfl rfl) (RsV.blk 4 rfl rfl rfl) (fun w hw=>Y8 (by rw[Q4v hlong HLN.out HFIN.out (by rw[HFF.out];exact Yg hz),HFF.out]) hw.tl.tl.tl.tl.tl.tl.drop)
  ·have htest:((⟨l.toArray⟩:ByteArray).data.toList==(⟨#[]⟩:ByteArray).data.toList)=false:=by
    cases l with
    |nil=>exact absurd rfl hle
    |cons=>rfl
   have HNO:=Lib.hid (show QS 0 (spl 10 s0)=.error (ls.length:Int) by rw[HL.out];exact HI.out.bad HLI.out (.inr hlast) (fun _=>hle));clear hle;refine Q6 (Q6 (Q2 ?_));refine Q1 zM ?_;refine Q1 zM ?_;refine Q1 zqt ?_;refine Q8 ?_;refine Qb (Q5 rfl (Qh (Qb (Q6 (Qe (Q6 (Q6 (Q2 ?_))))))));refine Q1 zM ?_;refine Q1 zM ?_;refine Q1 zet ?_;refine Q1 zM ?_;refine Q1 zM ?_;refine Q1 zM ?_;refine Q1 (zi1 (hj:=hi)) ?_;refine Q1 (zK 3 HCL.out) ?_;refine Q1 zsa ?_;refine Q1 zY ?_;refine Q8 ?_;refine Qb (Q3 rfl (Qh (Qb (Q6 (Q2 ?_)))));refine Q1 zM ?_;refine Q1 zM ?_;refine Q1 (zi1 (hj:=hi)) ?_;refine Q1 (zK 3 HCL.out) ?_;(refine Qa (Qx _ _ _ (f:=46) rfl rfl rfl (fun w hw=>Q7m (l:=l) hll hw)) rfl (by decide) (fun yl hyl=>?_);refine Q3d (fun w hw=>Wd.swapL (L:=yl.ats) (P:=[_,_,_,_,_,_]) (O:=at_++O) hw) ?_;have HYL:=Lib.hid hyl;clear hyl);refine Q1 zM ?_;refine Q1 zX ?_;refine Q1 zX ?_;refine Q1 zX ?_;refine yA fun b9=>?_;(refine Qq (Qs 0 (us:=yl.cells) rfl rfl rfl rfl rfl rfl rfl (by simp)) rfl (fun _ _=>?_);rw[Qw (by rfl)]);refine Q1 zA ?_;refine Q1 zA ?_;refine Q8 ?_;refine Qb (Q6 (Q6 (Q2 ?_)));obtain⟨ok,hok⟩:∃x,yl.ok=x:=⟨_,rfl⟩;rw[hok];have HOK:=Lib.hid hok;clear hok
   cases ok with
   |true=>
    refine Q1 zM ?_;refine Q1 zO ?_;refine Q1 zM ?_;refine Q1 zM ?_;refine Q1 zM ?_;refine Q1 zet ?_;refine Q1 zN ?_;refine Q8 ?_;refine Qb (Q5 rfl (Q6 (Q2 ?_)));refine Q1 (QZ (xs:=[]) (vs:=[]) (v:=.agg #[.slice none 0 0]) rfl rfl (by decide) rfl rfl (fun w=>run_build w _ _ _ (by kernel_rfl))) ?_;refine Q1 zM ?_;refine Q1 (Q4 (f:=15) rfl rfl (by decide) rfl rfl (fun w hw=>Js _ _ w)) ?_;refine yW 6 ?_;refine yW 5 ?_;refine Q8 ?_;refine Qb (Ql (Qc (Qf (Qc (Qc (Qf (Qc ?_)))))));exact Xv (by exact .inr rfl) rfl (RsV.blk 6 rfl rfl rfl) (RsV.blk 5 rfl rfl rfl) (fun w hw=>Y8 (Y9 hlong HNO.out) (Wd.drop (L:=at_) (O:=O) (Wd.drop (L:=yl.ats) (O:=at_++O) hw.tl.tl.tl.tl.tl.tl.tl)))
   |false=>
    refine Q1 zM ?_;refine Q1 zO ?_;refine Q1 zM ?_;refine Q1 zS ?_;refine Q1 zS ?_;refine Q1 zS ?_;refine Q1 zY ?_;refine Q8 ?_;refine Qb (Q5 rfl (Q6 (Q2 ?_)));refine Q1 (QZ (xs:=[]) (vs:=[]) (v:=.agg #[.slice none 0 0]) rfl rfl (by decide) rfl rfl (fun w=>run_build w _ _ _ (by kernel_rfl))) ?_;refine Q1 zM ?_;refine Q1 (Q4 (f:=15) rfl rfl (by decide) rfl rfl (fun w hw=>Js _ _ w)) ?_;refine yW 6 ?_;refine yW 5 ?_;refine Q8 ?_;refine Qb (Ql (Qc (Qf (Qc (Qc (Qf (Qc ?_)))))));exact Xv (by exact .inr rfl) rfl (RsV.blk 6 rfl rfl rfl) (RsV.blk 5 rfl rfl rfl) (fun w hw=>Y8 (Y9 hlong HNO.out) (Wd.drop (L:=at_) (O:=O) (Wd.drop (L:=yl.ats) (O:=at_++O) hw.tl.tl.tl.tl.tl.tl.tl)))
 ·refine Q6 (Q6 (Q2 ?_));refine Q1 zM ?_;refine Q1 zM ?_;refine Q1 zqt ?_;refine Q8 ?_;refine Qb (Q5 rfl (Qh (Qb (Q6 (Qe (Q6 (Q6 (Q2 ?_))))))));refine Q1 zM ?_;refine Q1 zM ?_;refine Q1 zef ?_;refine Q1 zM ?_;refine Q1 zS ?_;refine Q1 zS ?_;refine Q1 zS ?_;refine Q1 zS ?_;refine Q1 zS ?_;refine Q1 zN ?_;refine Q8 ?_;refine Qb (Q3 rfl (Qh (Qb (Q6 (Q2 ?_)))));refine Q1 zM ?_;refine Q1 zM ?_;refine Q1 (zi1 (hj:=hi)) ?_;refine Q1 (zK 3 HCL.out) ?_;(refine Qa (Qx _ _ _ (f:=46) rfl rfl rfl (fun w hw=>Q7m (l:=l) hll hw)) rfl (by decide) (fun yl hyl=>?_);refine Q3d (fun w hw=>Wd.swapL (L:=yl.ats) (P:=[_,_,_,_,_,_]) (O:=at_++O) hw) ?_;have HYL:=Lib.hid hyl;clear hyl);refine Q1 zM ?_;refine Q1 zX ?_;refine Q1 zX ?_;refine Q1 zX ?_;refine yA fun b9=>?_;(refine Qq (Qs 0 (us:=yl.cells) rfl rfl rfl rfl rfl rfl rfl (by simp)) rfl (fun _ _=>?_);rw[Qw (by rfl)]);refine Q1 zA ?_;refine Q1 zA ?_;refine Q8 ?_;refine Qb (Q6 (Q6 (Q2 ?_)));obtain⟨ok,hok⟩:∃x,yl.ok=x:=⟨_,rfl⟩;rw[hok];have HOK:=Lib.hid hok;clear hok
  cases ok with
  |false=>
   have HNO:=Lib.hid (show QS 0 (spl 10 s0)=.error (ls.length:Int) by
    have h:=HYL.out.ok;rw[HOK.out] at h;rw[HL.out]
    exact HI.out.bad HLI.out (.inl h) (fun h2=>absurd h2 hlast))
   refine Q1 zM ?_;refine Q1 zO ?_;refine Q1 zM ?_;refine Q1 zS ?_;refine Q1 zS ?_;refine Q1 zS ?_;refine Q1 zY ?_;refine Q8 ?_;refine Qb (Q5 rfl (Q6 (Q2 ?_)));refine Q1 (QZ (xs:=[]) (vs:=[]) (v:=.agg #[.slice none 0 0]) rfl rfl (by decide) rfl rfl (fun w=>run_build w _ _ _ (by kernel_rfl))) ?_;refine Q1 zM ?_;refine Q1 (Q4 (f:=15) rfl rfl (by decide) rfl rfl (fun w hw=>Js _ _ w)) ?_;refine yW 6 ?_;refine yW 5 ?_;refine Q8 ?_;refine Qb (Ql (Qc (Qf (Qc (Qc (Qf (Qc ?_)))))));exact Xv (by exact .inr rfl) rfl (RsV.blk 6 rfl rfl rfl) (RsV.blk 5 rfl rfl rfl) (fun w hw=>Y8 (Y9 hlong HNO.out) (Wd.drop (L:=at_) (O:=O) (Wd.drop (L:=yl.ats) (O:=at_++O) hw.tl.tl.tl.tl.tl.tl.tl)))
  |true=>
   have HNX:=Lib.hid (fun(A' B':Option Addr) (c' d':Nat)=>HI.out.next (A':=A') (B':=B') (c':=c') (d':=d') HLI.out (by omega) HYL.out HOK.out (by have h:=HYL.out.ok;rw[HOK.out] at h;exact h) hll);refine Q1 zM ?_;refine Q1 zO ?_;refine Q1 zM ?_;refine Q1 zM ?_;refine Q1 zM ?_;refine Q1 zef ?_;refine Q1 zN ?_;refine Q8 ?_;refine Qb (Q3 rfl (Qh (Qb (Q6 (Q2 ?_)))));refine Q1 zF ?_;refine Q1 (zB 3) ?_;refine Q1 (zD 0) ?_;refine Qa (Qz (size:=12) (cs:=yl.cells) rfl rfl rfl rfl rfl (by decide)) rfl (by decide) (fun bn _=>?_);refine Qa (QC (news:=yl.cells) 2 rfl rfl rfl rfl rfl (fun w hw=>hw.rd_blk 0 rfl rfl) (by simp [Value.oneCell']) (by omega)) rfl (by decide) (fun z1 _=>?_);refine Q1 zF ?_;refine yS 4 ?_;refine Q8 ?_;refine Qb (Q2 ?_);refine Q1 zM ?_;refine Q1 zM ?_;refine Qa (Qz (size:=1) (cs:=[.slice yl.Ar yl.refs.length yl.cr]) rfl rfl rfl rfl rfl (by decide)) rfl (by decide) (fun bm _=>?_);refine Qa (QC (news:=[.slice yl.Ar yl.refs.length yl.cr]) 4 rfl rfl rfl rfl rfl (fun w hw=>hw.rd_blk 0 rfl rfl) (by simp [Value.oneCell']) (by omega)) rfl (by decide) (fun z2 _=>?_);refine Q1 zA ?_;refine Q8 ?_;refine Qb (Q2 ?_);refine Q1 zM ?_;refine Q1 zP ?_;refine Q1 zA ?_;refine Q8 ?_;refine Xj ⟨ls++[yl],z1.1,z1.2,z2.1,z2.2,yl.ats++at_⟩ (HNX.out _ _ _ _) (by show L.length - (ls++[yl]).length<L.length - ls.length;rw[List.length_append,List.length_singleton];omega) (.cons rfl rfl (.cons rfl rfl (.cons rfl rfl (.cons rfl rfl (.cons rfl rfl (.cons rfl (by rw[List.length_append];rfl) (.cons rfl (by rw[List.length_append];go_num) .nil))))))) (fun w hw=>?_)
   show Wd [] W (.row z1.1 (ls++[yl]).length z1.2 52 12 (QR (ls++[yl]))::.row z2.1 (ls++[yl]).length z2.2 50 1 (Jx (ls++[yl]))::.blk b6 (.cells ([.slice z1.1 (ls++[yl]).length z1.2]:List Value).toArray 24 (0,0))::.row (some ⟨bl,0,none⟩) L.length cl 9 1 (sv L)::.blk b3 (.cells ([.int .i64 0,.int .i64 0]:List Value).toArray 27 (0,0))::.blk b2 (.cells ([.slice none 0 0]:List Value).toArray 24 (0,0))::((yl.ats++at_)++O)) w
   rw[Q1P,Q6Z,List.length_append,List.append_assoc];exact hw.tl.tl.tl
end
end Go.Proofs.YtgdiadednlajgaaGreatDoor
