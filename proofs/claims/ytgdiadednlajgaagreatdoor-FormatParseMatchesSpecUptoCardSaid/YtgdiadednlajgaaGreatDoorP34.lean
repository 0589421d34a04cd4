import Derived.Test.YtgdiadednlajgaaGreatDoorP33
namespace Go.Proofs.YtgdiadednlajgaaGreatDoor
set_option linter.unusedVariables false
set_option linter.unusedSimpArgs false
open Go.RowKit
theorem Wd.rot2{M:List Nat}{W w:World}{x a b:Qg}{O:List Qg}(h:Wd M W (x::a::b::O) w):Wd M W (a::b::x::O) w:=
 h.ofMap (fun i=>if i<2 then i+1 else if i=2 then 0 else i) (fun i j h=>by (repeat' split at h)<;>omega) (fun i y hy=>by
  match i,hy with
  |0,hy=>exact hy
  |1,hy=>exact hy
  |2,hy=>exact hy
  |n+3,hy=>
   rw[if_neg (by omega),if_neg (by omega)]
   exact hy)
section
variable {P:Program}{Q:Exit→Act→World→Prop}{ops:Array Oper}{N:Nat}{M:List Nat}{W:World}{E E':Env}{O O':List Qg}
theorem Q3d{l:List Oper}(f:∀w,Wd M W O w→Wd M W O' w)(h:lE P ops Q N M W E O' l):lE P ops Q N M W E O l:=fun a w ha hw=>h a w ha (f w hw)
theorem Qdi{α β:Type}{T:α→β→Prop}{G:Prop}(a:α)(b:β)(main:T a b→G)(tail:T a b):G:=main tail
theorem Q0M{c:Code}(f:∀w,Wd M W O w→Wd M W O' w)(h:sE P Q N M W E O' c):sE P Q N M W E O c:=fun a w ha hw=>h a w ha (f w hw)
theorem Z8{c:Code}{φ:Prop}(f:∀w,Wd M W O w→φ)(h:φ→sE P Q N M W E O c):sE P Q N M W E O c:=fun a w ha hw=>h (f w hw) a w ha hw
end
theorem Wd.toRd{W w:World}{O:List Qg}{i n c s:Nat}{A:Option Addr}{e:TypeId}{xs:List Value}(h:Wd [] W O w)(hO:O[i]? =some (.row A n c e s xs))(hs:0<s):Wd [] W (O.set i (.rd A n s xs)) w:=by
 have hi:i<O.length:=(List.getElem?_eq_some_iff.1 hO).1
 have hft:∀b,(Qg.rd A n s xs).foot=some b→(Qg.row A n c e s xs).foot=some b:=by
  intro b hb;have hrow:=h.own i _ hO;have h':w.ownsRow 0 e s (.slice A n c) n xs:=hrow
  simp only[Qg.foot] at hb ⊢
  split at hb
  ·cases hb
  ·rename_i hn
   rcases h'.2 with ⟨hv,_⟩|⟨g,cap,cur,hv,_⟩
   ·simp only[Value.slice.injEq] at hv
    exact absurd hv.2.1 hn
   ·rw[hv]
    simp only[Value.slice.injEq] at hv
    rw[hv.1] at hb;exact hb
 have hset:∀(j:Nat) (z:Qg),(O.set i (.rd A n s xs))[j]? =some z→(j=i∧z=.rd A n s xs)∨(j≠i∧O[j]? =some z):=by
  intro j z hz;rw[List.getElem?_set] at hz
  by_cases hij:i=j
  ·subst hij;rw[if_pos rfl,if_pos hi] at hz
   cases hz
   exact .inl ⟨rfl,rfl⟩
  ·rw[if_neg hij] at hz;exact .inr ⟨fun e=>hij e.symm,hz⟩
 refine⟨h.k,fun j z hz=>?_,fun j z b hz hb hl=>?_,fun j k y z b hy hz hby hbz hw=>?_⟩
 ·rcases hset j z hz with ⟨rfl,rfl⟩|⟨_,hz⟩
  ·exact(XN (h.own _ _ hO) hs).1
  ·exact h.own j z hz
 ·rcases hset j z hz with ⟨rfl,rfl⟩|⟨_,hz⟩
  ·have:=h.new _ _ b hO (hft b hb) hl
   cases this
  ·exact h.new j z b hz hb hl
 ·rcases hset j y hy with ⟨rfl,rfl⟩|⟨hj,hy'⟩
  ·rcases hset k z hz with ⟨rfl,rfl⟩|⟨hk,hz'⟩
   ·rfl
   ·exact h.nd _ _ _ _ b hO hz' (hft b hby) hbz rfl
  ·rcases hset k z hz with ⟨rfl,rfl⟩|⟨hk,hz'⟩
   ·exact h.nd _ _ _ _ b hy' hO hby (hft b hbz) (by rw[Bool.or_comm];rfl)
   ·exact h.nd _ _ _ _ b hy' hz' hby hbz hw
theorem Wd.drop6{M:List Nat}{W w:World}{a b c d e f:Qg}{O:List Qg}(h:Wd M W (a::b::c::d::e::f::O) w):Wd M W O w:=h.tail.tail.tail.tail.tail.tail
theorem Wd.to6{M:List Nat}{W w:World}{a b c d e f:Qg}{O:List Qg}(h:Wd M W (a::b::c::d::e::f::O) w):Wd M W (a::e::f::c::O) w:=
 h.ofMap (fun i=>if i=0 then 0 else if i=1 then 4 else if i=2 then 5 else if i=3 then 2 else i+2) (fun i j h=>by (repeat' split at h)<;>omega) (fun i y hy=>by
  match i,hy with
  |0,hy=>exact hy
  |1,hy=>exact hy
  |2,hy=>exact hy
  |3,hy=>exact hy
  |n+4,hy=>
   rw[if_neg (by omega),if_neg (by omega),if_neg (by omega),if_neg (by omega)]
   exact hy)
theorem Wd.to7{M:List Nat}{W w:World}{a b c k d e f:Qg}{O:List Qg}(h:Wd M W (a::b::c::k::d::e::f::O) w):Wd M W (a::e::f::c::k::O) w:=
 h.ofMap (fun i=>if i=0 then 0 else if i=1 then 5 else if i=2 then 6 else if i=3 then 2 else if i=4 then 3 else i+2) (fun i j h=>by (repeat' split at h)<;>omega) (fun i y hy=>by
  match i,hy with
  |0,hy=>exact hy
  |1,hy=>exact hy
  |2,hy=>exact hy
  |3,hy=>exact hy
  |4,hy=>exact hy
  |n+5,hy=>
   rw[if_neg (by omega),if_neg (by omega),if_neg (by omega),if_neg (by omega),if_neg (by omega)]
   exact hy)
theorem Wd.drop{M:List Nat}{W w:World}{L O:List Qg}(h:Wd M W (L++O) w):Wd M W O w:=
 h.ofMap (fun i=>L.length+i) (fun i j h=>by omega) (fun i x hx=>by rw[List.getElem?_append_right (by omega),Nat.add_sub_cancel_left];exact hx)
theorem Wd.at_{M:List Nat}{W w:World}{L O:List Qg}(h:Wd M W (L++O) w):∀a∈L,a.on w:=fun a ha=>by
 obtain⟨i,hi⟩:=List.mem_iff_getElem?.1 ha;exact h.own i a (by rw[List.getElem?_append_left (List.getElem?_eq_some_iff.1 hi).1];exact hi)
theorem YK(c:UInt8):∀s:List UInt8,(spl c s).length≤s.length+1∧∀x∈spl c s,x.length≤s.length:=by
 intro s;have h:=KM c s
 constructor
 ·have e:∀(x:List UInt8) (r:List (List UInt8)),r.length≤(Lib.join (x::r) [c]).length:=by
   intro x r
   induction r generalizing x with
   |nil=>simp
   |cons y r ih=>
    have h2:Lib.join (x::y::r) [c]=x++([c]++Lib.join (y::r) [c]):=by
     rw[Lib.join_cons,XH,Lib.join_cons]
    rw[h2];have:=ih y
    simp only[List.length_append,List.length_cons,List.length_nil]
    omega
  cases hs:spl c s with
  |nil=>simp
  |cons x r=>
   have h1:=e x r;rw[← hs,h] at h1
   simp only[List.length_cons]
   omega
 ·have e:∀(r:List (List UInt8)) (x:List UInt8),∀y∈x::r,y.length≤(Lib.join (x::r) [c]).length:=by
   intro r
   induction r with
   |nil=>
    intro x y hy;rw[List.mem_singleton.1 hy];rw[Lib.join_one];exact Nat.le_refl _
   |cons z r ih=>
    intro x y hy
    have h2:Lib.join (x::z::r) [c]=x++([c]++Lib.join (z::r) [c]):=by
     rw[Lib.join_cons,XH,Lib.join_cons]
    rw[h2]
    simp only[List.length_append,List.length_cons,List.length_nil]
    rcases List.mem_cons.1 hy with rfl|hy
    ·omega
    ·have:=ih z y hy
     omega
  cases hs:spl c s with
  |nil=>simp
  |cons x r=>
   intro y hy;have h1:=e r x y hy;rw[← hs,h] at h1;exact h1
theorem Qba(x:List UInt8):0≤kwK x∧kwK x≤10:=by
 unfold kwK
 cases h:JA.findIdx? (·==x) with
 |none=>exact⟨Int.le_refl 0,by decide⟩
 |some i=>
  have:=(List.findIdx?_eq_some_iff_getElem.1 h).1;have h10:JA.length=10:=rfl
  simp only
  omega
structure RlY where
 x:Rl
 Ab:Option Addr
 cb:Nat
 An:Option Addr
 cn:Nat
 Ap:Option Addr
 cp:Nat
 refs:List (List UInt8)
 Ar:Option Addr
 cr:Nat
 ok:Bool
 ats:List Qg
abbrev RlY.cells(y:RlY):List Value:=ruC y.x (.slice y.Ab y.x.bs.length y.cb) (.slice y.An y.x.names.length y.cn) (.slice y.Ap y.x.parts.length y.cp)
abbrev RlY.v(y:RlY):Value:=.tuple #[.agg y.cells.toArray,.slice y.Ar y.refs.length y.cr,.bool y.ok]
structure RlF(y:RlY)(w:World):Prop where
 r:RuL w y.x y.Ab y.cb y.An y.cn y.Ap y.cp
 s:Rd w w.heap.size 1 y.Ar y.refs.length (sv y.refs)
 c:y.refs.length≤y.cr
structure RlI(l:List UInt8)(y:RlY):Prop where
 ok:if y.ok then Zo l=some (y.x,y.refs) else Zo l=none
 w:∀a∈y.ats,a.w=false
 f:y.ok=true→∀w,(∀a∈y.ats,a.on w)→RlF y w
theorem Q5G{A:Option Addr}{n s:Nat}{xs:List Value}:∀a∈[Qg.rd A n s xs],a.w=false:=fun a ha=>by
 cases List.mem_singleton.1 ha
 rfl
theorem Qek{A A2:Option Addr}{n s n2 s2:Nat}{xs xs2:List Value}:∀a∈[Qg.rd A n s xs,Qg.rd A2 n2 s2 xs2],a.w=false:=fun a ha=>by
 rcases List.mem_cons.1 ha with h|h
 ·cases h;rfl
 ·exact Q5G a h
theorem Qj(w:World)(B:Nat):Rd w B 1 none 0 []:=⟨rfl,fun h=>absurd h (by omega)⟩
theorem JN{W w:World}{O:List Qg}{l:List UInt8}(y:RlY)(hi:if y.ok then Zo l=some (y.x,y.refs) else Zo l=none)(hw:∀a∈y.ats,a.w=false)(hf:∀w,(∀a∈y.ats,a.on w)→RlF y w)(h:Wd [] W (y.ats++O) w):QW RlY.v (RlI l) [] W (fun y=>y.ats++O) (.returned y.v) w:=
 ⟨y,rfl,⟨hi,hw,fun _=>hf⟩,h⟩
def Vr:RlY:=⟨QN [] 0,none,0,none,0,none,0,[],none,0,false,[]⟩
section
variable {W w:World}{O:List Qg}
set_option maxRecDepth 100000 in
set_option maxHeartbeats 64000000 in
theorem Q6F{l:List UInt8}(hg:GV W)(hl:l.length≤2000)(hw:Wd [] W O w):
  Calls Tryz.prog 43 #[.string ⟨l.toArray⟩] w (QW RlY.v (RlI l) [] W (fun y=>y.ats++O)):=by
 have HG:=Lib.hid hg;obtain⟨hlen,hall⟩:=YK 32 l;obtain⟨ws,hws⟩:∃ws,spl 32 l=ws:=⟨_,rfl⟩;rw[hws] at hlen hall
 have hne:0<ws.length:=by
  rw[← hws];exact List.length_pos_iff.2 (Kz 32 l)
 have hrl:Zo l=V5 ws:=by unfold Zo;rw[hws]
 obtain⟨N,hN⟩:∃N,ws.length=N:=⟨_,rfl⟩;rw[hN] at hlen hne;have HALL:=Lib.hid (show ∀s∈ws,s.length≤1048576 from fun s hs=>by have:=hall s hs;omega);have HN:=Lib.hid hN;have HWS:=Lib.hid hws;have HRL:=Lib.hid hrl
 have hNle:N≤2001:=by omega
 have hlsm:l.length≤1048576:=by omega
 clear hg hall hws hrl hN hlen
 go_enter Tryz.func43,Tryz.ntmps43
 refine QE (M:=[]) (W:=W) (N:=104) (E:=[(0,.string ⟨l.toArray⟩)]) (O:=O) ?_ (Ag.cons (Ag.nil rfl rfl) rfl) hw
 repeat(first|refine Q1 zM ?_|refine Q1 zA ?_|refine yA fun g2=>?_|(refine Qa (Qx _ _ _ (f:=74) rfl rfl rfl (fun w hw=>Qbs (HG.out.on hw.k.below) hlsm hw)) rfl (by decide) (fun bw _=>?_);rw[HWS.out,HN.out])|refine Q1 (QZ (xs:=[(0,.tmp 8)]) (vs:=[(0,.slice (some ⟨bw,0,none⟩) N N)]) (v:=.agg #[.slice (some ⟨bw,0,none⟩) N N,.bool false,.slice none 0 0]) rfl rfl (by decide) rfl rfl (fun w=>run_build w _ _ _ (by kernel_rfl))) ?_|refine Qa (V6 (cs:=[.slice (some ⟨bw,0,none⟩) N N,.bool false,.slice none 0 0]) rfl rfl rfl rfl) rfl (by decide) (fun br _=>?_)|refine Q8 ?_|refine Q6 ?_|refine Q2 ?_)
 refine QeJ 9 1 ?_;refine Q3d (O':=rdO br bw 0 N 0 false ws none 0 []++(.blk g2 (.cells [.string ⟨#[]⟩,.int .i64 0,.slice none 0 0,.int .i64 0,.bool false,.int .i64 0,.int .i64 0,.int .i64 0,.int .i64 0,.int .i64 0,.slice none 0 0,.slice none 0 0].toArray 52 (0,0))::O)) (fun w hw=>hw.rot2) ?_
 repeat(first|(refine Qa (Qx _ _ _ (f:=75) rfl rfl rfl (fun w hw=>ZH HN.out (fun _=>rfl) (Nat.zero_le _) (by omega) hw)) rfl (by decide) (fun y hy=>?_);obtain⟨k1,q1⟩:=y)|refine Q1 (QZ (xs:=[(0,.tmp 12)]) (vs:=[(0,.string ⟨(wAt ws 0).toArray⟩)]) (v:=.agg #[.string ⟨(wAt ws 0).toArray⟩,.int .i64 0,.slice none 0 0,.int .i64 0,.bool false,.int .i64 0,.int .i64 0,.int .i64 0,.int .i64 0,.int .i64 0,.slice none 0 0,.slice none 0 0]) rfl rfl (by decide) rfl rfl (fun w=>run_build w _ _ _ (by kernel_rfl))) ?_|refine yA fun g6=>?_|refine Qq (Qs 0 rfl rfl rfl rfl rfl rfl rfl (by simp)) rfl (fun _ _=>?_)|refine Q8 ?_|refine Q6 ?_|refine Q2 ?_)
 obtain⟨hk1,hq1⟩:=hy
 obtain rfl:k1=1:=by
  have:k1=min (0+1) N:=hk1
  omega
 have hq1':1<N→q1=1:=hq1
 have hd0:(false||decide (N≤0))=false:=by rw[decide_eq_false (by omega)];rfl
 refine Q3d (O':=rdO br bw q1 N 1 false ws none 0 []++(.blk g6 (.cells [.string ⟨(wAt ws 0).toArray⟩,.int .i64 0,.slice none 0 0,.int .i64 0,.bool false,.int .i64 0,.int .i64 0,.int .i64 0,.int .i64 0,.int .i64 0,.slice none 0 0,.slice none 0 0].toArray 52 (0,0))::.blk g2 (.cells [.string ⟨#[]⟩,.int .i64 0,.slice none 0 0,.int .i64 0,.bool false,.int .i64 0,.int .i64 0,.int .i64 0,.int .i64 0,.int .i64 0,.slice none 0 0,.slice none 0 0].toArray 52 (0,0))::O)) (fun w hw=>by rw[hd0] at hw;exact hw.rot3) ?_;clear hd0 hk1 hq1;obtain⟨K,hK⟩:∃K,kwK (wAt ws 1)=K:=⟨_,rfl⟩;have hKb:=Qba (wAt ws 1);rw[hK] at hKb;have HK:=Lib.hid hK;clear hK
 repeat(first|refine Q1 zM ?_|refine Qa (Qx _ _ _ (f:=64) rfl rfl rfl (fun w hw=>Q1X HG.out hw (HG.out.on hw.k.below))) rfl (by decide) (fun bf _=>?_))
 refine Q3d (fun w hw=>hw.rot3) ?_
 repeat(first|refine Q1 zM ?_|refine Q1 zF ?_|(refine Qa (Qx _ _ _ (f:=75) rfl rfl rfl (fun w hw=>ZH HN.out hq1' (by omega) (by omega) hw)) rfl (by decide) (fun y hy=>?_);obtain⟨k2,q2⟩:=y;rw[Bool.false_or])|(refine Q1 (Q4 (f:=76) rfl rfl (by decide) rfl rfl (fun w hw=>Q7H (hw.own 3 _ rfl))) ?_;rw[HK.out])|refine yS 4 ?_|refine Q8 ?_|refine Q6 ?_|refine Q2 ?_|refine Q1 zP ?_)
 have hsz:(⟨(wAt ws 0).toArray⟩:ByteArray).size≤9223372036854775807:=by
  have:=KY HALL.out 0;rw[Xh]
  omega
 obtain⟨hk2,hq2⟩:=hy;have hk2':k2=min 2 N:=hk2;have hq2':k2<N→q2=k2:=hq2;rw[show K - 1+1=K by omega];obtain⟨u,hu⟩:∃u,Qi (wAt ws 0)=u:=⟨_,rfl⟩;have HU:=Lib.hid (show Qi (⟨(wAt ws 0).toArray⟩:ByteArray).data.toList=u from hu);clear hk2 hq2 hu
 by_cases hN2:N≤1
 ·rw[decide_eq_true hN2]
  repeat(first|refine Q1 zM ?_|refine Q1 zA ?_|refine Q1 zF ?_|refine Q1 zS ?_|refine Q1 (zB 0) ?_|refine Q1 (XA rfl rfl (by decide) rfl rfl) ?_|refine Q1 (QZ (xs:=[]) (vs:=[]) (v:=.agg #[.string ⟨#[]⟩,.int .i64 0,.slice none 0 0,.int .i64 0,.bool false,.int .i64 0,.int .i64 0,.int .i64 0,.int .i64 0,.int .i64 0,.slice none 0 0,.slice none 0 0]) rfl rfl (by decide) rfl rfl (fun w=>run_build w _ _ _ (by kernel_rfl))) ?_|refine yW 5 ?_|refine Q8 ?_|refine Q6 ?_|refine Q2 ?_|refine Q5 rfl ?_|refine Ql ?_|refine Qc ?_|refine Q1 zY ?_)
  refine Z6 (by exact .inr rfl) rfl (RsV.blk 5 rfl rfl rfl) (.tmp rfl) (.tmp rfl) (fun w hw=>JN Vr (XT rfl ?_) (by intro a ha;cases ha) (fun w _=>⟨⟨Nat.le_refl _,Nat.le_refl _,Nat.le_refl _,Qj _ _,Qj _ _,Qj _ _⟩,Qj _ _,Nat.le_refl _⟩) hw.drop6);rw[HRL.out]
  have hN1:ws.length=1:=by have:=HN.out;omega
  obtain⟨a,rfl⟩:=List.length_eq_one_iff.1 hN1
  rfl
 obtain rfl:k2=2:=by omega
 rw[decide_eq_false hN2]
 have hsp:∃name w1 rest,ws=name::w1::rest∧wAt ws 0=name∧N=rest.length+2∧Zo l=if Qi (wAt ws 0) then QD (wAt ws 0) K rest else none:=by
  have h1:=HN.out;have h2:=HRL.out;have h3:=HK.out
  match ws,h1,h2,h3 with
  |[],h1,_,_=>exact absurd (show 0=N from h1) (by omega)
  |[_],h1,_,_=>exact absurd (show 1=N from h1) (by omega)
  |name::w1::rest,h1,h2,h3=>
   refine⟨name,w1,rest,rfl,rfl,(show rest.length+2=N from h1).symm,?_⟩;rw[h2,← h3]
   rfl
 have HSP:=Lib.hid hsp;clear hsp
 cases u with
 |false=>
  repeat(first|refine Q1 zM ?_|refine Q1 zA ?_|refine Q1 zF ?_|refine Q1 zS ?_|refine Q1 (zB 0) ?_|refine Q1 (zB 4) ?_|refine Q1 (XA rfl rfl (by decide) rfl rfl) ?_|(refine Q1 (Q4 (f:=77) rfl rfl (by decide) rfl rfl (fun w hw=>ZJ _ w hsz)) ?_;rw[show Qi (⟨(wAt ws 0).toArray⟩:ByteArray).data.toList=_ from HU.out])|refine Q1 (QZ (xs:=[]) (vs:=[]) (v:=.agg #[.string ⟨#[]⟩,.int .i64 0,.slice none 0 0,.int .i64 0,.bool false,.int .i64 0,.int .i64 0,.int .i64 0,.int .i64 0,.int .i64 0,.slice none 0 0,.slice none 0 0]) rfl rfl (by decide) rfl rfl (fun w=>run_build w _ _ _ (by kernel_rfl))) ?_|refine yW 5 ?_|refine Q8 ?_|refine Q6 ?_|refine Q2 ?_|refine Q5 rfl ?_|refine Ql ?_|refine Qc ?_|refine Q1 zY ?_|refine Q1 zN ?_|refine Q1 zO ?_)
  refine Z6 (by exact .inr rfl) rfl (RsV.blk 5 rfl rfl rfl) (.tmp rfl) (.tmp rfl) (fun w hw=>JN Vr (XT rfl ?_) (by intro a ha;cases ha) (fun w _=>⟨⟨Nat.le_refl _,Nat.le_refl _,Nat.le_refl _,Qj _ _,Qj _ _,Qj _ _⟩,Qj _ _,Nat.le_refl _⟩) hw.drop6);obtain⟨name,w1,rest,e1,e2,e3,e4⟩:=HSP.out;rw[e4,show Qi (wAt ws 0)=false from HU.out]
  rfl
 |true=>
  by_cases hK1:K<1
  ·skip
   repeat(first|refine Q1 zM ?_|refine Q1 zA ?_|refine Q1 zF ?_|refine Q1 (zB 0) ?_|refine Q1 (zB 4) ?_|refine Q1 (XA rfl rfl (by decide) rfl rfl) ?_|(refine Q1 (Q4 (f:=77) rfl rfl (by decide) rfl rfl (fun w hw=>ZJ _ w hsz)) ?_;rw[show Qi (⟨(wAt ws 0).toArray⟩:ByteArray).data.toList=_ from HU.out])|refine Q1 (QZ (xs:=[]) (vs:=[]) (v:=.agg #[.string ⟨#[]⟩,.int .i64 0,.slice none 0 0,.int .i64 0,.bool false,.int .i64 0,.int .i64 0,.int .i64 0,.int .i64 0,.int .i64 0,.slice none 0 0,.slice none 0 0]) rfl rfl (by decide) rfl rfl (fun w=>run_build w _ _ _ (by kernel_rfl))) ?_|refine yW 5 ?_|refine Q8 ?_|refine Q6 ?_|refine Q2 ?_|refine Q5 rfl ?_|refine Ql ?_|refine Qc ?_|refine Q1 zlt ?_|refine Q1 zN ?_|refine Q1 zO ?_)
   refine Z6 (by exact .inr rfl) rfl (RsV.blk 5 rfl rfl rfl) (.tmp rfl) (.tmp rfl) (fun w hw=>JN Vr (XT rfl ?_) (by intro a ha;cases ha) (fun w _=>⟨⟨Nat.le_refl _,Nat.le_refl _,Nat.le_refl _,Qj _ _,Qj _ _,Qj _ _⟩,Qj _ _,Nat.le_refl _⟩) hw.drop6);obtain⟨name,w1,rest,e1,e2,e3,e4⟩:=HSP.out
   obtain rfl:K=0:=by omega
   rw[e4,show Qi (wAt ws 0)=true from HU.out]
   rfl
  repeat(first|refine Q1 zM ?_|refine Q1 zF ?_|refine Q1 (zB 0) ?_|refine Q1 (zB 4) ?_|refine Q1 (XA rfl rfl (by decide) rfl rfl) ?_|(refine Q1 (Q4 (f:=77) rfl rfl (by decide) rfl rfl (fun w hw=>ZJ _ w hsz)) ?_;rw[show Qi (⟨(wAt ws 0).toArray⟩:ByteArray).data.toList=_ from HU.out])|refine Q8 ?_|refine Q6 ?_|refine Q2 ?_|refine Qh ?_|refine Q3 rfl ?_|refine Q1 zer ?_|refine Q1 zlf ?_|refine Q1 zN ?_|refine Q1 zO ?_)
  apply Qdi (T:=fun kQ kC=>∀(x:Rl) (A1 A2 A3:Option Addr) (n1 n2 n3 c1 c2 c3:Nat) (B:Bool) (k q c:Nat) (A:Option Addr) (ns:List (List UInt8)) (ats:List Qg),k≤N→(∀z w,z=okB B N k→Wd [] W (ats++O) w→QW RlY.v (RlI l) [] W (fun y=>y.ats++O) (.returned (.tuple #[.agg (ruC x (.slice A1 n1 c1) (.slice A2 n2 c2) (.slice A3 n3 c3)).toArray,.slice A ns.length c,.bool z])) w)→sE Tryz.prog kQ 104 [] W [(2,.pointer (some ⟨g2,0,none⟩)),(5,.pointer (some ⟨br,0,none⟩)),(6,.pointer (some ⟨g6,0,none⟩))] (.blk br (.cells [.slice (some ⟨bw,q,none⟩) (N - k) (N - k),.bool B,.slice A ns.length c].toArray 95 (0,0))::.blk g6 (.cells (ruC x (.slice A1 n1 c1) (.slice A2 n2 c2) (.slice A3 n3 c3)).toArray 52 (0,0))::.blk g2 (.cells [.string ⟨#[]⟩,.int .i64 0,.slice none 0 0,.int .i64 0,.bool false,.int .i64 0,.int .i64 0,.int .i64 0,.int .i64 0,.int .i64 0,.slice none 0 0,.slice none 0 0].toArray 52 (0,0))::(ats++O)) kC)
  case main=>
   intro key
   obtain rfl|rfl|rfl|rfl|rfl|rfl|rfl|rfl|rfl|rfl:K=1∨K=2∨K=3∨K=4∨K=5∨K=6∨K=7∨K=8∨K=9∨K=10:=by omega
   ·skip
    repeat(first|refine Q1 zM ?_|refine Q1 zF ?_|refine Q1 (zB 5) ?_|refine Q1 (zD 0) ?_|refine Q1 (zD 5) ?_|refine Q1 (Q4 (f:=66) rfl rfl (by decide) rfl rfl (fun w hw=>QK w)) ?_|refine Q1 (Q4 (f:=68) rfl rfl (by decide) rfl rfl (fun w hw=>Xg w)) ?_|refine Q1 (Q4 (f:=69) rfl rfl (by decide) rfl rfl (fun w hw=>Xi w)) ?_|refine Q1 (Q4 (f:=70) rfl rfl (by decide) rfl rfl (fun w hw=>Qu w)) ?_|refine Q1 (Q4 (f:=71) rfl rfl (by decide) rfl rfl (fun w hw=>X7 w)) ?_|refine Q1 (Q4 (f:=82) rfl rfl (by decide) rfl rfl (fun w hw=>Xd w)) ?_|(refine Qa (Qx _ _ _ (f:=78) rfl rfl rfl (fun w hw=>Qef HALL.out HN.out (by assumption) (by omega) (by omega) hw)) rfl (by decide) (fun y hy=>?_);obtain⟨⟨hk,hq⟩,hbad,hout⟩:=hy;refine Q3d (fun w hw=>hw.rot3) ?_)|refine yS 5 ?_|refine Q8 ?_|refine Q6 ?_|refine Q2 ?_|refine Qh ?_|refine Q5 rfl ?_|refine Q3 rfl ?_|refine Q1 zef ?_)
    refine YA (E':=[(2,.pointer (some ⟨g2,0,none⟩)),(5,.pointer (some ⟨br,0,none⟩)),(6,.pointer (some ⟨g6,0,none⟩))]) (.cons rfl rfl (.cons rfl rfl (.cons rfl rfl .nil))) ?_;refine Z8 (fun w hw=>(XN (hw.own 2 _ rfl) (by decide)).2) (fun hc=>?_);refine Z8 (fun w hw=>(XN (hw.own 3 _ rfl) (by decide)).2) (fun hc3=>?_);refine Q0M (fun w hw=>((hw.toRd (i:=2) rfl (by decide)).toRd (i:=3) rfl (by decide)).to7) ?_;refine key ({ QN (wAt ws 0) 1 with bs:=y.2.2.2.1 }) _ _ _ _ _ _ _ _ _ _ _ _ _ _ ([]) ([.rd _ _ 1 (sv ([])),.rd _ _ 1 (bv y.2.2.2.1)]) (by omega) (fun zz w hz hw=>?_);obtain⟨name,w1,rest,e1,e2,e3,e4⟩:=HSP.out;rw[show Qi (wAt ws 0)=true from HU.out,if_pos rfl] at e4;subst e1;refine JN ⟨{ QN (wAt (name::w1::rest) 0) 1 with bs:=y.2.2.2.1 },y.2.1,y.2.2.1,none,0,none,0,[],_,_,zz,[.rd _ _ 1 (sv ([])),.rd _ _ 1 (bv y.2.2.2.1)]⟩ ?_ Qek (fun w ha=>?_) hw
    ·rw[hz,e4];exact Qfn e3 hk hbad hout
    ·exact⟨⟨hc3,Nat.le_refl _,Nat.le_refl _,ha _ (List.mem_cons_of_mem _ List.mem_cons_self),Qj _ _,Qj _ _⟩,ha _ List.mem_cons_self,hc⟩
   ·skip
    repeat(first|refine Q1 zM ?_|refine Q1 zF ?_|refine Q1 (zB 4) ?_|refine Q1 (zD 0) ?_|refine Q1 (zD 4) ?_|refine Q1 (Q4 (f:=66) rfl rfl (by decide) rfl rfl (fun w hw=>QK w)) ?_|refine Q1 (Q4 (f:=68) rfl rfl (by decide) rfl rfl (fun w hw=>Xg w)) ?_|refine Q1 (Q4 (f:=69) rfl rfl (by decide) rfl rfl (fun w hw=>Xi w)) ?_|refine Q1 (Q4 (f:=70) rfl rfl (by decide) rfl rfl (fun w hw=>Qu w)) ?_|refine Q1 (Q4 (f:=71) rfl rfl (by decide) rfl rfl (fun w hw=>X7 w)) ?_|refine Q1 (Q4 (f:=82) rfl rfl (by decide) rfl rfl (fun w hw=>Xd w)) ?_|refine yS 4 ?_|(refine Qa (Qx _ _ _ (f:=79) rfl rfl rfl (fun w hw=>YM HG.out HALL.out HN.out (by assumption) (by omega) (by omega) hw)) rfl (by decide) (fun y hy=>?_);obtain⟨hk,hq⟩:=hy)|(refine Qa (Qx _ _ _ (f:=80) rfl rfl rfl (fun w hw=>Qb7 HN.out (by assumption) (by omega) (by omega) hw)) rfl (by decide) (fun y hy=>?_);obtain⟨hk,hq⟩:=hy)|refine Q8 ?_|refine Q6 ?_|refine Q2 ?_|refine Qh ?_|refine Q5 rfl ?_|refine Q3 rfl ?_|refine Q1 zet ?_)
    refine YA (E':=[(2,.pointer (some ⟨g2,0,none⟩)),(5,.pointer (some ⟨br,0,none⟩)),(6,.pointer (some ⟨g6,0,none⟩))]) (.cons rfl rfl (.cons rfl rfl (.cons rfl rfl .nil))) ?_;refine Z8 (fun w hw=>(XN (hw.own 2 _ rfl) (by decide)).2) (fun hc=>?_);refine Q0M (fun w hw=>(hw.toRd (i:=2) rfl (by decide)).to6) ?_;refine key ({ QN (wAt ws 0) 2 with size:=XF (wAt ws 2),big:=wAt ws _==V3,mn:=XF (wAt ws _),mx:=XF (wAt ws _) }) _ _ _ _ _ _ _ _ _ _ _ _ _ _ ([]) ([.rd _ _ 1 (sv ([]))]) (by omega) (fun zz w hz hw=>?_);obtain⟨name,w1,rest,e1,e2,e3,e4⟩:=HSP.out;rw[show Qi (wAt ws 0)=true from HU.out,if_pos rfl] at e4;subst e1;refine JN ⟨{ QN (wAt (name::w1::rest) 0) 2 with size:=XF (wAt (name::w1::rest) 2),big:=wAt (name::w1::rest) _==V3,mn:=XF (wAt (name::w1::rest) _),mx:=XF (wAt (name::w1::rest) _) },none,0,none,0,none,0,[],_,_,zz,[.rd _ _ 1 (sv ([]))]⟩ ?_ Q5G (fun w ha=>?_) hw
    ·rw[hz,e4];exact QfA e3 (by assumption) (by assumption) (by assumption) (by assumption) rfl
    ·exact⟨⟨Nat.le_refl _,Nat.le_refl _,Nat.le_refl _,Qj _ _,Qj _ _,Qj _ _⟩,ha _ List.mem_cons_self,hc⟩
   ·skip
    repeat(first|refine Q1 zM ?_|refine Q1 zF ?_|refine Q1 (zB 4) ?_|refine Q1 (zD 0) ?_|refine Q1 (zD 4) ?_|refine Q1 (Q4 (f:=66) rfl rfl (by decide) rfl rfl (fun w hw=>QK w)) ?_|refine Q1 (Q4 (f:=68) rfl rfl (by decide) rfl rfl (fun w hw=>Xg w)) ?_|refine Q1 (Q4 (f:=69) rfl rfl (by decide) rfl rfl (fun w hw=>Xi w)) ?_|refine Q1 (Q4 (f:=70) rfl rfl (by decide) rfl rfl (fun w hw=>Qu w)) ?_|refine Q1 (Q4 (f:=71) rfl rfl (by decide) rfl rfl (fun w hw=>X7 w)) ?_|refine Q1 (Q4 (f:=82) rfl rfl (by decide) rfl rfl (fun w hw=>Xd w)) ?_|refine yS 4 ?_|(refine Qa (Qx _ _ _ (f:=79) rfl rfl rfl (fun w hw=>YM HG.out HALL.out HN.out (by assumption) (by omega) (by omega) hw)) rfl (by decide) (fun y hy=>?_);obtain⟨hk,hq⟩:=hy)|refine Q8 ?_|refine Q6 ?_|refine Q2 ?_|refine Qh ?_|refine Q5 rfl ?_|refine Q3 rfl ?_|refine Q1 zef ?_)
    refine YA (E':=[(2,.pointer (some ⟨g2,0,none⟩)),(5,.pointer (some ⟨br,0,none⟩)),(6,.pointer (some ⟨g6,0,none⟩))]) (.cons rfl rfl (.cons rfl rfl (.cons rfl rfl .nil))) ?_;refine Z8 (fun w hw=>(XN (hw.own 2 _ rfl) (by decide)).2) (fun hc=>?_);refine Q0M (fun w hw=>(hw.toRd (i:=2) rfl (by decide)).to6) ?_;refine key ({ QN (wAt ws 0) 3 with stop:=XF (wAt ws 2),mx:=XF (wAt ws _) }) _ _ _ _ _ _ _ _ _ _ _ _ _ _ ([]) ([.rd _ _ 1 (sv ([]))]) (by omega) (fun zz w hz hw=>?_);obtain⟨name,w1,rest,e1,e2,e3,e4⟩:=HSP.out;rw[show Qi (wAt ws 0)=true from HU.out,if_pos rfl] at e4;subst e1;refine JN ⟨{ QN (wAt (name::w1::rest) 0) 3 with stop:=XF (wAt (name::w1::rest) 2),mx:=XF (wAt (name::w1::rest) _) },none,0,none,0,none,0,[],_,_,zz,[.rd _ _ 1 (sv ([]))]⟩ ?_ Q5G (fun w ha=>?_) hw
    ·rw[hz,e4];exact QfG e3 (by assumption) (by assumption) rfl
    ·exact⟨⟨Nat.le_refl _,Nat.le_refl _,Nat.le_refl _,Qj _ _,Qj _ _,Qj _ _⟩,ha _ List.mem_cons_self,hc⟩
   ·skip
    repeat(first|refine Q1 zM ?_|refine Q1 zF ?_|refine Q1 (zB 4) ?_|refine Q1 (zD 0) ?_|refine Q1 (zD 4) ?_|refine Q1 (Q4 (f:=66) rfl rfl (by decide) rfl rfl (fun w hw=>QK w)) ?_|refine Q1 (Q4 (f:=68) rfl rfl (by decide) rfl rfl (fun w hw=>Xg w)) ?_|refine Q1 (Q4 (f:=69) rfl rfl (by decide) rfl rfl (fun w hw=>Xi w)) ?_|refine Q1 (Q4 (f:=70) rfl rfl (by decide) rfl rfl (fun w hw=>Qu w)) ?_|refine Q1 (Q4 (f:=71) rfl rfl (by decide) rfl rfl (fun w hw=>X7 w)) ?_|refine Q1 (Q4 (f:=82) rfl rfl (by decide) rfl rfl (fun w hw=>Xd w)) ?_|refine yS 4 ?_|(refine Qa (Qx _ _ _ (f:=79) rfl rfl rfl (fun w hw=>YM HG.out HALL.out HN.out (by assumption) (by omega) (by omega) hw)) rfl (by decide) (fun y hy=>?_);obtain⟨hk,hq⟩:=hy)|refine Q8 ?_|refine Q6 ?_|refine Q2 ?_|refine Qh ?_|refine Q5 rfl ?_|refine Q3 rfl ?_|refine Q1 zef ?_)
    refine YA (E':=[(2,.pointer (some ⟨g2,0,none⟩)),(5,.pointer (some ⟨br,0,none⟩)),(6,.pointer (some ⟨g6,0,none⟩))]) (.cons rfl rfl (.cons rfl rfl (.cons rfl rfl .nil))) ?_;refine Z8 (fun w hw=>(XN (hw.own 2 _ rfl) (by decide)).2) (fun hc=>?_);refine Q0M (fun w hw=>(hw.toRd (i:=2) rfl (by decide)).to6) ?_;refine key ({ QN (wAt ws 0) 4 with size:=XF (wAt ws 2) }) _ _ _ _ _ _ _ _ _ _ _ _ _ _ ([]) ([.rd _ _ 1 (sv ([]))]) (by omega) (fun zz w hz hw=>?_);obtain⟨name,w1,rest,e1,e2,e3,e4⟩:=HSP.out;rw[show Qi (wAt ws 0)=true from HU.out,if_pos rfl] at e4;subst e1;refine JN ⟨{ QN (wAt (name::w1::rest) 0) 4 with size:=XF (wAt (name::w1::rest) 2) },none,0,none,0,none,0,[],_,_,zz,[.rd _ _ 1 (sv ([]))]⟩ ?_ Q5G (fun w ha=>?_) hw
    ·rw[hz,e4];exact QfO e3 (by assumption) rfl
    ·exact⟨⟨Nat.le_refl _,Nat.le_refl _,Nat.le_refl _,Qj _ _,Qj _ _,Qj _ _⟩,ha _ List.mem_cons_self,hc⟩
   ·skip
    repeat(first|refine Q1 zM ?_|refine Q1 zF ?_|refine Q1 (zB 4) ?_|refine Q1 (zD 0) ?_|refine Q1 (zD 4) ?_|refine Q1 (Q4 (f:=66) rfl rfl (by decide) rfl rfl (fun w hw=>QK w)) ?_|refine Q1 (Q4 (f:=68) rfl rfl (by decide) rfl rfl (fun w hw=>Xg w)) ?_|refine Q1 (Q4 (f:=69) rfl rfl (by decide) rfl rfl (fun w hw=>Xi w)) ?_|refine Q1 (Q4 (f:=70) rfl rfl (by decide) rfl rfl (fun w hw=>Qu w)) ?_|refine Q1 (Q4 (f:=71) rfl rfl (by decide) rfl rfl (fun w hw=>X7 w)) ?_|refine Q1 (Q4 (f:=82) rfl rfl (by decide) rfl rfl (fun w hw=>Xd w)) ?_|refine yS 4 ?_|(refine Qa (Qx _ _ _ (f:=79) rfl rfl rfl (fun w hw=>YM HG.out HALL.out HN.out (by assumption) (by omega) (by omega) hw)) rfl (by decide) (fun y hy=>?_);obtain⟨hk,hq⟩:=hy)|refine Q8 ?_|refine Q6 ?_|refine Q2 ?_|refine Qh ?_|refine Q5 rfl ?_|refine Q3 rfl ?_|refine Q1 zef ?_)
    refine YA (E':=[(2,.pointer (some ⟨g2,0,none⟩)),(5,.pointer (some ⟨br,0,none⟩)),(6,.pointer (some ⟨g6,0,none⟩))]) (.cons rfl rfl (.cons rfl rfl (.cons rfl rfl .nil))) ?_;refine Z8 (fun w hw=>(XN (hw.own 2 _ rfl) (by decide)).2) (fun hc=>?_);refine Q0M (fun w hw=>(hw.toRd (i:=2) rfl (by decide)).to6) ?_;refine key ({ QN (wAt ws 0) 5 with stop:=XF (wAt ws 2),size:=XF (wAt ws _) }) _ _ _ _ _ _ _ _ _ _ _ _ _ _ ([]) ([.rd _ _ 1 (sv ([]))]) (by omega) (fun zz w hz hw=>?_);obtain⟨name,w1,rest,e1,e2,e3,e4⟩:=HSP.out;rw[show Qi (wAt ws 0)=true from HU.out,if_pos rfl] at e4;subst e1;refine JN ⟨{ QN (wAt (name::w1::rest) 0) 5 with stop:=XF (wAt (name::w1::rest) 2),size:=XF (wAt (name::w1::rest) _) },none,0,none,0,none,0,[],_,_,zz,[.rd _ _ 1 (sv ([]))]⟩ ?_ Q5G (fun w ha=>?_) hw
    ·rw[hz,e4];exact QfB e3 (by assumption) (by assumption) rfl
    ·exact⟨⟨Nat.le_refl _,Nat.le_refl _,Nat.le_refl _,Qj _ _,Qj _ _,Qj _ _⟩,ha _ List.mem_cons_self,hc⟩
   ·skip
    repeat(first|refine Q1 zM ?_|refine Q1 zF ?_|refine Q1 (zB 4) ?_|refine Q1 (zD 0) ?_|refine Q1 (zD 4) ?_|refine Q1 (Q4 (f:=66) rfl rfl (by decide) rfl rfl (fun w hw=>QK w)) ?_|refine Q1 (Q4 (f:=68) rfl rfl (by decide) rfl rfl (fun w hw=>Xg w)) ?_|refine Q1 (Q4 (f:=69) rfl rfl (by decide) rfl rfl (fun w hw=>Xi w)) ?_|refine Q1 (Q4 (f:=70) rfl rfl (by decide) rfl rfl (fun w hw=>Qu w)) ?_|refine Q1 (Q4 (f:=71) rfl rfl (by decide) rfl rfl (fun w hw=>X7 w)) ?_|refine Q1 (Q4 (f:=82) rfl rfl (by decide) rfl rfl (fun w hw=>Xd w)) ?_|(refine Qa (Qx _ _ _ (f:=75) rfl rfl rfl (fun w hw=>ZH HN.out (by assumption) (by omega) (by omega) hw)) rfl (by decide) (fun y hy=>?_);obtain⟨hk,hq⟩:=hy)|refine Qa (Qx _ _ _ (f:=81) rfl rfl rfl (fun w hw=>Vn (KY HALL.out _) (by simp) hw)) rfl (by decide) (fun z _=>?_)|refine Q8 ?_|refine Q6 ?_|refine Q2 ?_|refine Qh ?_|refine Q5 rfl ?_|refine Q3 rfl ?_|refine Q1 zef ?_)
    refine YA (E':=[(2,.pointer (some ⟨g2,0,none⟩)),(5,.pointer (some ⟨br,0,none⟩)),(6,.pointer (some ⟨g6,0,none⟩))]) (.cons rfl rfl (.cons rfl rfl (.cons rfl rfl .nil))) ?_;refine Z8 (fun w hw=>(XN (hw.own 2 _ rfl) (by decide)).2) (fun hc=>?_);refine Q0M (fun w hw=>(hw.toRd (i:=2) rfl (by decide)).to6) ?_;refine key (QN (wAt ws 0) 6) _ _ _ _ _ _ _ _ _ _ _ _ _ _ (([]++[wAt ws 2])++[wAt ws _]) ([.rd _ _ 1 (sv (([]++[wAt ws 2])++[wAt ws _]))]) (by omega) (fun zz w hz hw=>?_);obtain⟨name,w1,rest,e1,e2,e3,e4⟩:=HSP.out;rw[show Qi (wAt ws 0)=true from HU.out,if_pos rfl] at e4;subst e1;refine JN ⟨QN (wAt (name::w1::rest) 0) 6,none,0,none,0,none,0,([]++[wAt (name::w1::rest) 2])++[wAt (name::w1::rest) _],_,_,zz,[.rd _ _ 1 (sv (([]++[wAt (name::w1::rest) 2])++[wAt (name::w1::rest) _]))]⟩ ?_ Q5G (fun w ha=>?_) hw
    ·rw[hz,e4];exact Qfs e3 (by assumption) (by assumption) rfl
    ·exact⟨⟨Nat.le_refl _,Nat.le_refl _,Nat.le_refl _,Qj _ _,Qj _ _,Qj _ _⟩,ha _ List.mem_cons_self,hc⟩
   ·skip
    repeat(first|refine Q1 zM ?_|refine Q1 zF ?_|refine Q1 (zB 4) ?_|refine Q1 (zD 0) ?_|refine Q1 (zD 4) ?_|refine Q1 (Q4 (f:=66) rfl rfl (by decide) rfl rfl (fun w hw=>QK w)) ?_|refine Q1 (Q4 (f:=68) rfl rfl (by decide) rfl rfl (fun w hw=>Xg w)) ?_|refine Q1 (Q4 (f:=69) rfl rfl (by decide) rfl rfl (fun w hw=>Xi w)) ?_|refine Q1 (Q4 (f:=70) rfl rfl (by decide) rfl rfl (fun w hw=>Qu w)) ?_|refine Q1 (Q4 (f:=71) rfl rfl (by decide) rfl rfl (fun w hw=>X7 w)) ?_|refine Q1 (Q4 (f:=82) rfl rfl (by decide) rfl rfl (fun w hw=>Xd w)) ?_|(refine Qa (Qx _ _ _ (f:=83) rfl rfl rfl (fun w hw=>Q6G true HG.out HALL.out HN.out (by assumption) (by omega) (by omega) (by decide) hw)) rfl (by decide) (fun y hy=>?_);obtain⟨hj,hpi⟩:=hy)|refine yS 5 ?_|refine Q8 ?_|refine Q6 ?_|refine Q2 ?_|refine Qh ?_|refine Q5 rfl ?_|refine Q3 rfl ?_|refine Q1 zet ?_|refine Q1 zef ?_)
    refine YA (E':=[(2,.pointer (some ⟨g2,0,none⟩)),(5,.pointer (some ⟨br,0,none⟩)),(6,.pointer (some ⟨g6,0,none⟩))]) (.cons rfl rfl (.cons rfl rfl (.cons rfl rfl .nil))) ?_;refine Z8 (fun w hw=>(XN (hw.own 2 _ rfl) (by decide)).2) (fun hc=>?_);refine Z8 (fun w hw=>(XN (hw.own 3 _ rfl) (by decide)).2) (fun hc3=>?_);refine Q0M (fun w hw=>((hw.toRd (i:=2) rfl (by decide)).toRd (i:=3) rfl (by decide)).to7) ?_;refine key ({ QN (wAt ws 0) 7 with names:=y.nm }) _ _ _ _ _ _ _ _ _ _ _ _ _ _ (y.ns) ([.rd _ _ 1 (sv (y.ns)),.rd _ _ 1 (sv y.nm)]) (by omega) (fun zz w hz hw=>?_);obtain⟨name,w1,rest,e1,e2,e3,e4⟩:=HSP.out;rw[show Qi (wAt ws 0)=true from HU.out,if_pos rfl] at e4;subst e1;refine JN ⟨{ QN (wAt (name::w1::rest) 0) 7 with names:=y.nm },none,0,y.A',y.c',none,0,y.ns,_,_,zz,[.rd _ _ 1 (sv (y.ns)),.rd _ _ 1 (sv y.nm)]⟩ ?_ Qek (fun w ha=>?_) hw
    ·rw[hz,e4];exact Qfm e3 hj hpi
    ·exact⟨⟨Nat.le_refl _,hc3,Nat.le_refl _,Qj _ _,ha _ (List.mem_cons_of_mem _ List.mem_cons_self),Qj _ _⟩,ha _ List.mem_cons_self,hc⟩
   ·skip
    repeat(first|refine Q1 zM ?_|refine Q1 zF ?_|refine Q1 (zB 4) ?_|refine Q1 (zD 0) ?_|refine Q1 (zD 4) ?_|refine Q1 (Q4 (f:=66) rfl rfl (by decide) rfl rfl (fun w hw=>QK w)) ?_|refine Q1 (Q4 (f:=68) rfl rfl (by decide) rfl rfl (fun w hw=>Xg w)) ?_|refine Q1 (Q4 (f:=69) rfl rfl (by decide) rfl rfl (fun w hw=>Xi w)) ?_|refine Q1 (Q4 (f:=70) rfl rfl (by decide) rfl rfl (fun w hw=>Qu w)) ?_|refine Q1 (Q4 (f:=71) rfl rfl (by decide) rfl rfl (fun w hw=>X7 w)) ?_|refine Q1 (Q4 (f:=82) rfl rfl (by decide) rfl rfl (fun w hw=>Xd w)) ?_|(refine Qa (Qx _ _ _ (f:=83) rfl rfl rfl (fun w hw=>Q6G false HG.out HALL.out HN.out (by assumption) (by omega) (by omega) (by decide) hw)) rfl (by decide) (fun y hy=>?_);obtain⟨hj,hpi⟩:=hy)|refine yS 5 ?_|refine Q8 ?_|refine Q6 ?_|refine Q2 ?_|refine Qh ?_|refine Q5 rfl ?_|refine Q3 rfl ?_|refine Q1 zef ?_)
    refine YA (E':=[(2,.pointer (some ⟨g2,0,none⟩)),(5,.pointer (some ⟨br,0,none⟩)),(6,.pointer (some ⟨g6,0,none⟩))]) (.cons rfl rfl (.cons rfl rfl (.cons rfl rfl .nil))) ?_;refine Z8 (fun w hw=>(XN (hw.own 2 _ rfl) (by decide)).2) (fun hc=>?_);refine Z8 (fun w hw=>(XN (hw.own 3 _ rfl) (by decide)).2) (fun hc3=>?_);refine Q0M (fun w hw=>((hw.toRd (i:=2) rfl (by decide)).toRd (i:=3) rfl (by decide)).to7) ?_;refine key ({ QN (wAt ws 0) 8 with names:=y.nm }) _ _ _ _ _ _ _ _ _ _ _ _ _ _ (y.ns) ([.rd _ _ 1 (sv (y.ns)),.rd _ _ 1 (sv y.nm)]) (by omega) (fun zz w hz hw=>?_);obtain⟨name,w1,rest,e1,e2,e3,e4⟩:=HSP.out;rw[show Qi (wAt ws 0)=true from HU.out,if_pos rfl] at e4;subst e1;refine JN ⟨{ QN (wAt (name::w1::rest) 0) 8 with names:=y.nm },none,0,y.A',y.c',none,0,y.ns,_,_,zz,[.rd _ _ 1 (sv (y.ns)),.rd _ _ 1 (sv y.nm)]⟩ ?_ Qek (fun w ha=>?_) hw
    ·rw[hz,e4];exact(by have h:=Qfk e3 hj hpi;rw[h.2];exact h.1)
    ·exact⟨⟨Nat.le_refl _,hc3,Nat.le_refl _,Qj _ _,ha _ (List.mem_cons_of_mem _ List.mem_cons_self),Qj _ _⟩,ha _ List.mem_cons_self,hc⟩
   ·skip
    repeat(first|refine Q1 zM ?_|refine Q1 zF ?_|refine Q1 (zB 4) ?_|refine Q1 (zD 0) ?_|refine Q1 (zD 4) ?_|refine Q1 (Q4 (f:=66) rfl rfl (by decide) rfl rfl (fun w hw=>QK w)) ?_|refine Q1 (Q4 (f:=68) rfl rfl (by decide) rfl rfl (fun w hw=>Xg w)) ?_|refine Q1 (Q4 (f:=69) rfl rfl (by decide) rfl rfl (fun w hw=>Xi w)) ?_|refine Q1 (Q4 (f:=70) rfl rfl (by decide) rfl rfl (fun w hw=>Qu w)) ?_|refine Q1 (Q4 (f:=71) rfl rfl (by decide) rfl rfl (fun w hw=>X7 w)) ?_|refine Q1 (Q4 (f:=82) rfl rfl (by decide) rfl rfl (fun w hw=>Xd w)) ?_|refine yS 4 ?_|(refine Qa (Qx _ _ _ (f:=79) rfl rfl rfl (fun w hw=>YM HG.out HALL.out HN.out (by assumption) (by omega) (by omega) hw)) rfl (by decide) (fun y hy=>?_);obtain⟨hk,hq⟩:=hy)|(refine Qa (Qx _ _ _ (f:=75) rfl rfl rfl (fun w hw=>ZH HN.out (by assumption) (by omega) (by omega) hw)) rfl (by decide) (fun y hy=>?_);obtain⟨hk,hq⟩:=hy)|refine Qa (Qx _ _ _ (f:=81) rfl rfl rfl (fun w hw=>Vn (KY HALL.out _) (by simp) hw)) rfl (by decide) (fun z _=>?_)|refine Q8 ?_|refine Q6 ?_|refine Q2 ?_|refine Qh ?_|refine Q5 rfl ?_|refine Q3 rfl ?_|refine Q1 zef ?_)
    refine YA (E':=[(2,.pointer (some ⟨g2,0,none⟩)),(5,.pointer (some ⟨br,0,none⟩)),(6,.pointer (some ⟨g6,0,none⟩))]) (.cons rfl rfl (.cons rfl rfl (.cons rfl rfl .nil))) ?_;refine Z8 (fun w hw=>(XN (hw.own 2 _ rfl) (by decide)).2) (fun hc=>?_);refine Q0M (fun w hw=>(hw.toRd (i:=2) rfl (by decide)).to6) ?_;refine key ({ QN (wAt ws 0) 9 with stop:=XF (wAt ws 2) }) _ _ _ _ _ _ _ _ _ _ _ _ _ _ ([]++[wAt ws _]) ([.rd _ _ 1 (sv ([]++[wAt ws _]))]) (by omega) (fun zz w hz hw=>?_);obtain⟨name,w1,rest,e1,e2,e3,e4⟩:=HSP.out;rw[show Qi (wAt ws 0)=true from HU.out,if_pos rfl] at e4;subst e1;refine JN ⟨{ QN (wAt (name::w1::rest) 0) 9 with stop:=XF (wAt (name::w1::rest) 2) },none,0,none,0,none,0,[]++[wAt (name::w1::rest) _],_,_,zz,[.rd _ _ 1 (sv ([]++[wAt (name::w1::rest) _]))]⟩ ?_ Q5G (fun w ha=>?_) hw
    ·rw[hz,e4];exact Qfp e3 (by assumption) (by assumption) rfl
    ·exact⟨⟨Nat.le_refl _,Nat.le_refl _,Nat.le_refl _,Qj _ _,Qj _ _,Qj _ _⟩,ha _ List.mem_cons_self,hc⟩
   ·skip
    repeat(first|refine Q1 zM ?_|refine Q1 zF ?_|refine Q1 (zB 4) ?_|refine Q1 (zD 0) ?_|refine Q1 (zD 4) ?_|refine Q1 (Q4 (f:=66) rfl rfl (by decide) rfl rfl (fun w hw=>QK w)) ?_|refine Q1 (Q4 (f:=68) rfl rfl (by decide) rfl rfl (fun w hw=>Xg w)) ?_|refine Q1 (Q4 (f:=69) rfl rfl (by decide) rfl rfl (fun w hw=>Xi w)) ?_|refine Q1 (Q4 (f:=70) rfl rfl (by decide) rfl rfl (fun w hw=>Qu w)) ?_|refine Q1 (Q4 (f:=71) rfl rfl (by decide) rfl rfl (fun w hw=>X7 w)) ?_|refine Q1 (Q4 (f:=82) rfl rfl (by decide) rfl rfl (fun w hw=>Xd w)) ?_|(refine Qa (Qx _ _ _ (f:=75) rfl rfl rfl (fun w hw=>ZH HN.out (by assumption) (by omega) (by omega) hw)) rfl (by decide) (fun y hy=>?_);obtain⟨hk,hq⟩:=hy)|refine Qa (Qx _ _ _ (f:=81) rfl rfl rfl (fun w hw=>Vn (KY HALL.out _) (by simp) hw)) rfl (by decide) (fun z _=>?_)|refine Q8 ?_|refine Q6 ?_|refine Q2 ?_|refine Qh ?_|refine Q5 rfl ?_|refine Q3 rfl ?_|refine Q1 zef ?_)
    refine YA (E':=[(2,.pointer (some ⟨g2,0,none⟩)),(5,.pointer (some ⟨br,0,none⟩)),(6,.pointer (some ⟨g6,0,none⟩))]) (.cons rfl rfl (.cons rfl rfl (.cons rfl rfl .nil))) ?_;refine Z8 (fun w hw=>(XN (hw.own 2 _ rfl) (by decide)).2) (fun hc=>?_);refine Q0M (fun w hw=>(hw.toRd (i:=2) rfl (by decide)).to6) ?_;refine key (QN (wAt ws 0) 10) _ _ _ _ _ _ _ _ _ _ _ _ _ _ ([]++[wAt ws 2]) ([.rd _ _ 1 (sv ([]++[wAt ws 2]))]) (by omega) (fun zz w hz hw=>?_);obtain⟨name,w1,rest,e1,e2,e3,e4⟩:=HSP.out;rw[show Qi (wAt ws 0)=true from HU.out,if_pos rfl] at e4;subst e1;refine JN ⟨QN (wAt (name::w1::rest) 0) 10,none,0,none,0,none,0,[]++[wAt (name::w1::rest) 2],_,_,zz,[.rd _ _ 1 (sv ([]++[wAt (name::w1::rest) 2]))]⟩ ?_ Q5G (fun w ha=>?_) hw
    ·rw[hz,e4];exact Qf0 e3 (by assumption) rfl
    ·exact⟨⟨Nat.le_refl _,Nat.le_refl _,Nat.le_refl _,Qj _ _,Qj _ _,Qj _ _⟩,ha _ List.mem_cons_self,hc⟩
  case tail=>
   intro x A1 A2 A3 n1 n2 n3 c1 c2 c3 B k q c A ns ats hkN hfin
   cases B with
   |true=>
    refine Zs [.blk br (.cells [.slice (some ⟨bw,q,none⟩) (N - k) (N - k),.bool true,.slice A ns.length c].toArray 95 (0,0)),.blk g6 (.cells (ruC x (.slice A1 n1 c1) (.slice A2 n2 c2) (.slice A3 n3 c3)).toArray 52 (0,0))] [] (by kernel_rfl) ?_;refine Qk 0 rfl (by kernel_rfl) (Q7.sel [0,1] (by decide) rfl) (zD 1) ?_;refine Qk 1 rfl (by kernel_rfl) (Q7.sel [0,1] (by decide) rfl) zM ?_;refine Qk 2 rfl (by kernel_rfl) (Q7.sel [0,1] (by decide) rfl) (XA rfl rfl (by decide) rfl rfl) ?_;refine Qk 3 rfl (by kernel_rfl) (Q7.sel [0,1] (by decide) rfl) zF ?_;refine Qk 4 rfl (by kernel_rfl) (Q7.sel [0,1] (by decide) rfl) (zB 0) ?_;refine Qk 5 rfl (by kernel_rfl) (Q7.sel [0,1] (by decide) rfl) zM ?_;refine Qk 6 rfl (by kernel_rfl) (Q7.sel [0,1] (by decide) rfl) (XA rfl rfl (by decide) rfl rfl) ?_;refine Qk 7 rfl (by kernel_rfl) (Q7.sel [0,1] (by decide) rfl) zF ?_;refine Qk 8 rfl (by kernel_rfl) (Q7.sel [0,1] (by decide) rfl) (zB 0) ?_;refine Qk 9 rfl (by kernel_rfl) (Q7.sel [0,1] (by decide) rfl) zO ?_;refine Qk 10 rfl (by kernel_rfl) (Q7.sel [0,1] (by decide) rfl) zM ?_;refine Qk 11 rfl (by kernel_rfl) (Q7.sel [0,1] (by decide) rfl) zS ?_;refine Qk 12 rfl (by kernel_rfl) (Q7.sel [0,1] (by decide) rfl) zS ?_;refine Qk 13 rfl (by kernel_rfl) (Q7.sel [0,1] (by decide) rfl) zS ?_;refine Qk 14 rfl (by kernel_rfl) (Q7.sel [0,1] (by decide) rfl) zS ?_;refine Qk 15 rfl (by kernel_rfl) (Q7.sel [0,1] (by decide) rfl) zS ?_;refine Qk 16 rfl (by kernel_rfl) (Q7.sel [0,1] (by decide) rfl) zS ?_;refine Qk 17 rfl (by kernel_rfl) (Q7.sel [0,1] (by decide) rfl) zN ?_;refine Xw 18 (by kernel_rfl) rfl rfl (Qs 2 rfl rfl rfl rfl rfl rfl rfl (by simp)) (fun _=>.inr (Q7.sel [0,1] (by decide) rfl)) rfl (fun _ _=>?_);rw[Qw (by rfl)];refine Qk 19 rfl (by kernel_rfl) (Q7.sel [0,1] (by decide) rfl) zA ?_;refine Qk 20 rfl (by kernel_rfl) (Q7.sel [0,1] (by decide) rfl) zA ?_;refine Zc ?_ (by kernel_rfl);refine yt ?_;refine Z6 (by exact .inr rfl) rfl (RsV.blk 2 rfl rfl rfl) (.tmp rfl) (.tmp rfl) (fun w hw=>hfin _ w rfl hw.tail.tail.tail)
   |false=>
    obtain⟨zz,hzz⟩:∃zz,(((N - k:Nat):Int)==0)=zz:=⟨_,rfl⟩;refine Zs [.blk br (.cells [.slice (some ⟨bw,q,none⟩) (N - k) (N - k),.bool false,.slice A ns.length c].toArray 95 (0,0)),.blk g6 (.cells (ruC x (.slice A1 n1 c1) (.slice A2 n2 c2) (.slice A3 n3 c3)).toArray 52 (0,0))] [] (by kernel_rfl) ?_;refine Qk 0 rfl (by kernel_rfl) (Q7.sel [0,1] (by decide) rfl) (zD 1) ?_;refine Qk 1 rfl (by kernel_rfl) (Q7.sel [0,1] (by decide) rfl) zM ?_;refine Qk 2 rfl (by kernel_rfl) (Q7.sel [0,1] (by decide) rfl) (XA rfl rfl (by decide) rfl rfl) ?_;refine Qk 3 rfl (by kernel_rfl) (Q7.sel [0,1] (by decide) rfl) zF ?_;refine Qk 4 rfl (by kernel_rfl) (Q7.sel [0,1] (by decide) rfl) (zB 0) ?_;refine Qk 5 rfl (by kernel_rfl) (Q7.sel [0,1] (by decide) rfl) zM ?_;refine Qk 6 rfl (by kernel_rfl) (Q7.sel [0,1] (by decide) rfl) (XA rfl rfl (by decide) rfl rfl) ?_;refine Qk 7 rfl (by kernel_rfl) (Q7.sel [0,1] (by decide) rfl) zF ?_;refine Qk 8 rfl (by kernel_rfl) (Q7.sel [0,1] (by decide) rfl) (zB 0) ?_;refine Qk 9 rfl (by kernel_rfl) (Q7.sel [0,1] (by decide) rfl) zO ?_;refine Qk 10 rfl (by kernel_rfl) (Q7.sel [0,1] (by decide) rfl) zM ?_;refine Qk 11 rfl (by kernel_rfl) (Q7.sel [0,1] (by decide) rfl) zM ?_;refine Qk 12 rfl (by kernel_rfl) (Q7.sel [0,1] (by decide) rfl) (XA rfl rfl (by decide) rfl rfl) ?_;refine Qk 13 rfl (by kernel_rfl) (Q7.sel [0,1] (by decide) rfl) zF ?_;refine Qk 14 rfl (by kernel_rfl) (Q7.sel [0,1] (by decide) rfl) (zB 0) ?_;refine Qk 15 rfl (by kernel_rfl) (Q7.sel [0,1] (by decide) rfl) zL ?_;refine Qk 16 rfl (by kernel_rfl) (Q7.sel [0,1] (by decide) rfl) zea ?_;refine Qk 17 rfl (by kernel_rfl) (Q7.sel [0,1] (by decide) rfl) zY ?_;refine Xw 18 (by kernel_rfl) rfl rfl (Qs 2 rfl rfl rfl rfl rfl rfl rfl (by simp)) (fun _=>.inr (Q7.sel [0,1] (by decide) rfl)) rfl (fun _ _=>?_);rw[Qw (by rfl)];refine Qk 19 rfl (by kernel_rfl) (Q7.sel [0,1] (by decide) rfl) zA ?_;refine Qk 20 rfl (by kernel_rfl) (Q7.sel [0,1] (by decide) rfl) zA ?_;refine Zc ?_ (by kernel_rfl);refine yt ?_;refine Z6 (by exact .inr rfl) rfl (RsV.blk 2 rfl rfl rfl) (.tmp rfl) (.tmp rfl) (fun w hw=>hfin _ w (by rw[← hzz];rfl) hw.tail.tail.tail)
end
end Go.Proofs.YtgdiadednlajgaaGreatDoor
