import Derived.Test.YtphkhfdmlcnoeaaGreatDoorQ27
namespace Go.Proofs.YtphkhfdmlcnoeaaGreatDoor
set_option linter.unusedVariables false
set_option linter.unusedSimpArgs false
set_option maxRecDepth 1000000
set_option maxHeartbeats 32000000
open Go.RowKit
section
variable {A:Option Addr}{L:List Qf}{a b d f:Qf}{c:Code}{l:List UInt8}{n s:Nat}{xs:List Value}
theorem Wd.rot2{M:List Nat}{W w:World}{x:Qf}{O:List Qf}(h:Wd M W (x::a::b::O) w):Wd M W (a::b::x::O) w:=
 h.ofMap (fun i=>if i<2 then i+1 else if i=2 then 0 else i) Q5F (fun i y hy=>by
  match i,hy with
  |0,hy=>exact hy
  |1,hy=>exact hy
  |2,hy=>exact hy
  |n+3,hy=>
   rw[if_neg Q2,if_neg Q2]
   exact hy)
section
variable {P:Program}{Q:Exit->Act->World->Prop}{ops:Array Oper}{N:Nat}{M:List Nat}{W:World}{E E':Env}{O O':List Qf}
theorem QdJ{l:List Oper}(f:∀w,Wd M W O w->Wd M W O' w)(h:lE P ops Q N M W E O' l):lE P ops Q N M W E O l:=fun a w ha hw=>h a w ha (f w hw)
theorem QpT{α β:Type}{T:α->β->Prop}{G:Prop}(a:α)(b:β)(main:T a b->G)(tail:T a b):G:=main tail
theorem Q3l(f:∀w,Wd M W O w->Wd M W O' w)(h:sE P Q N M W E O' c):sE P Q N M W E O c:=fun a w ha hw=>h a w ha (f w hw)
theorem Zz{φ:Prop}(f:∀w,Wd M W O w->φ)(h:φ->sE P Q N M W E O c):sE P Q N M W E O c:=fun a w ha hw=>h (f w hw) a w ha hw
end
theorem Wd.toRd{W w:World}{O:List Qf}{i c:Nat}{e:TypeId}(h:Wd [] W O w)(hO:O[i]? =some (.row A n c e s xs))(hs:0<s):Wd [] W (O.set i (.rd A n s xs)) w:=by
 have hi:i<O.length:=(List.getElem?_eq_some_iff.1 hO).1;have hft:∀b,(Qf.rd A n s xs).foot=some b->(Qf.row A n c e s xs).foot=some b:=by
  intro b hb;have hrow:=h.own i _ hO;have h':w.ownsRow 0 e s (.slice A n c) n xs:=hrow;simp only[Qf.foot] at hb ⊢;split at hb
  ·cases hb
  ·rename_i hn
   rcases h'.2 with ⟨hv,_⟩|⟨g,cap,cur,hv,_⟩
   ·simp only[Value.slice.injEq] at hv
    exact absurd hv.2.1 hn
   ·rw[hv]
    simp only[Value.slice.injEq] at hv;rw[hv.1] at hb;exact hb
 have hset:∀(j:Nat) (z:Qf),(O.set i (.rd A n s xs))[j]? =some z->(j=i/\z=.rd A n s xs)\/(j≠i/\O[j]? =some z):=by
  intro j z hz;rw[List.getElem?_set] at hz;by_cases hij:i=j
  ·subst hij;rw[if_pos rfl,if_pos hi] at hz
   cases hz
   exact .inl ⟨rfl,rfl⟩
  ·rw[if_neg hij] at hz;exact .inr ⟨fun e=>hij e.symm,hz⟩
 refine⟨h.k,fun j z hz=>?_,fun j z b hz hb hl=>?_,fun j k y z b hy hz hby hbz hw=>?_⟩
 ·rcases hset j z hz with ⟨rfl,rfl⟩|⟨_,hz⟩
  ·exact(Go.Proofs.YtphkhfdmlcnoeaaGreatDoor.row_rd (h.own _ _ hO) hs).1
  ·exact h.own j z hz
 ·rcases hset j z hz with ⟨rfl,rfl⟩|⟨_,hz⟩
  ·have:=h.new _ _ b hO (hft b hb) hl
   cases this
  ·exact h.new j z b hz hb hl
 ·rcases hset j y hy with ⟨rfl,rfl⟩|⟨hj,hy'⟩
  ·rcases hset k z hz with ⟨rfl,rfl⟩|⟨hk,hz'⟩
   ·rfl
   ·exact h.nd _ _ _ _ b hO hz' (hft b hby) hbz rfl
  ·rcases hset k z hz with ⟨rfl,rfl⟩|⟨hk,hz'⟩
   ·exact h.nd _ _ _ _ b hy' hO hby (hft b hbz) (by rw[Bool.or_comm];rfl)
   ·exact h.nd _ _ _ _ b hy' hz' hby hbz hw
theorem Wd.drop6{M:List Nat}{W w:World}{c e:Qf}{O:List Qf}(h:Wd M W (a::b::c::d::e::f::O) w):Wd M W O w:=h.tail.tail.tail.tail.tail.tail
theorem Wd.to6{M:List Nat}{W w:World}{c e:Qf}{O:List Qf}(h:Wd M W (a::b::c::d::e::f::O) w):Wd M W (a::e::f::c::O) w:=
 h.ofMap (fun i=>if i=0 then 0 else if i=1 then 4 else if i=2 then 5 else if i=3 then 2 else i+2) Q5F (fun i y hy=>by
  match i,hy with
  |0,hy=>exact hy
  |1,hy=>exact hy
  |2,hy=>exact hy
  |3,hy=>exact hy
  |n+4,hy=>
   rw[if_neg Q2,if_neg Q2,if_neg Q2,if_neg Q2]
   exact hy)
theorem Wd.to7{M:List Nat}{W w:World}{c k e:Qf}{O:List Qf}(h:Wd M W (a::b::c::k::d::e::f::O) w):Wd M W (a::e::f::c::k::O) w:=
 h.ofMap (fun i=>if i=0 then 0 else if i=1 then 5 else if i=2 then 6 else if i=3 then 2 else if i=4 then 3 else i+2) Q5F (fun i y hy=>by
  match i,hy with
  |0,hy=>exact hy
  |1,hy=>exact hy
  |2,hy=>exact hy
  |3,hy=>exact hy
  |4,hy=>exact hy
  |n+5,hy=>
   rw[if_neg Q2,if_neg Q2,if_neg Q2,if_neg Q2,if_neg Q2]
   exact hy)
theorem Wd.drop{M:List Nat}{W w:World}{O:List Qf}(h:Wd M W (L++O) w):Wd M W O w:=
 h.ofMap (fun i=>L.length+i) (fun i j h=>by omega) (fun i x hx=>by rw[List.getElem?_append_right Q2,Nat.add_sub_cancel_left];exact hx)
theorem Wd.at_{M:List Nat}{W w:World}{O:List Qf}(h:Wd M W (L++O) w):∀a∈L,a.on w:=fun a ha=>by
 obtain⟨i,hi⟩:=List.mem_iff_getElem?.1 ha;exact h.own i a (by rw[List.getElem?_append_left (List.getElem?_eq_some_iff.1 hi).1];exact hi)
theorem Qdu(c:UInt8):∀s:List UInt8,(spl c s).length<=s.length+1/\∀x∈spl c s,x.length<=s.length:=by
 intro s;have h:=Q73 c s;constructor
 ·have e:∀(x:List UInt8) (r:List (List UInt8)),r.length<=(Lib.join (x::r) [c]).length:=by
   intro x r;induction r generalizing x with
   |nil=>simp
   |cons y r ih=>
    have h2:Lib.join (x::y::r) [c]=x++([c]++Lib.join (y::r) [c]):=by
     rw[Lib.join_cons,ZT,Lib.join_cons]
    rw[h2];have:=ih y;refine QqX ?_;omega
  cases hs:spl c s with
  |nil=>simp
  |cons x r=>
   have h1:=e x r;rw[<- hs,h] at h1;refine Q9d ?_;omega
 ·have e:∀(r:List (List UInt8)) (x:List UInt8),∀y∈x::r,y.length<=(Lib.join (x::r) [c]).length:=by
   intro r;induction r with
   |nil=>
    intro x y hy;rw[List.mem_singleton.1 hy];rw[Lib.join_one];exact Q0n
   |cons z r ih=>
    intro x y hy;have h2:Lib.join (x::z::r) [c]=x++([c]++Lib.join (z::r) [c]):=by
     rw[Lib.join_cons,ZT,Lib.join_cons]
    rw[h2];refine QqX ?_;rcases List.mem_cons.1 hy with rfl|hy
    ·omega
    ·have:=ih z y hy
     omega
  cases hs:spl c s with
  |nil=>simp
  |cons x r=>
   intro y hy;have h1:=e r x y hy;rw[<- hs,h] at h1;exact h1
theorem QtI(x:List UInt8):0<=kwK x/\kwK x<=10:=by
 unfold kwK;cases h:JV.findIdx? (·==x) with
 |none=>exact⟨Int.le_refl 0,by decide⟩
 |some i=>
  have:=(List.findIdx?_eq_some_iff_getElem.1 h).1;have h10:JV.length=10:=rfl;simp only;omega
structure RlY where
 x:Rl
 Ab:Option Addr
 cb:Nat
 An:Option Addr
 cn:Nat
 Ap:Option Addr
 cp:Nat
 refs:List (List UInt8)
 Ar:Option Addr
 cr:Nat
 ok:Bool
 ats:List Qf
abbrev RlY.cells(y:RlY):List Value:=ruC y.x (.slice y.Ab y.x.bs.length y.cb) (.slice y.An y.x.names.length y.cn) (.slice y.Ap y.x.parts.length y.cp)
abbrev RlY.v(y:RlY):Value:=.tuple #[.agg y.cells.toArray,.slice y.Ar y.refs.length y.cr,.bool y.ok]
structure RlF(y:RlY)(w:World):Prop where
 r:RuL w y.x y.Ab y.cb y.An y.cn y.Ap y.cp
 s:Rd w w.heap.size 1 y.Ar y.refs.length (sv y.refs)
 c:y.refs.length<=y.cr
structure RlI(l:List UInt8)(y:RlY):Prop where
 ok:if y.ok then Vx l=some (y.x,y.refs) else Vx l=none
 w:∀a∈y.ats,a.w=false
 f:y.ok=true->∀w,(∀a∈y.ats,a.on w)->RlF y w
theorem Qav:∀a∈[Qf.rd A n s xs],a.w=false:=fun a ha=>by
 cases List.mem_singleton.1 ha
 rfl
theorem QtC{A2:Option Addr}{n2 s2:Nat}{xs2:List Value}:∀a∈[Qf.rd A n s xs,Qf.rd A2 n2 s2 xs2],a.w=false:=fun a ha=>by
 rcases List.mem_cons.1 ha with h|h
 ·cases h;rfl
 ·exact Qav a h
theorem QJ(w:World)(B:Nat):Rd w B 1 none 0 []:=⟨rfl,fun h=>absurd h Q2⟩
theorem Vk{W w:World}{O:List Qf}(y:RlY)(hi:if y.ok then Vx l=some (y.x,y.refs) else Vx l=none)(hw:∀a∈y.ats,a.w=false)(hf:∀w,(∀a∈y.ats,a.on w)->RlF y w)(h:Wd [] W (y.ats++O) w):QN RlY.v (RlI l) [] W (fun y=>y.ats++O) (.returned y.v) w:=
 ⟨y,rfl,⟨hi,hw,fun _=>hf⟩,h⟩
def Qld:RlY:=⟨Xo [] 0,none,0,none,0,none,0,[],none,0,false,[]⟩
section
variable {W w:World}{O:List Qf}
theorem QdH(hg:GVE W)(hl:l.length<=2000)(hw:Wd [] W O w):
  Calls Tryz.prog 93 #[.string ⟨l.toArray⟩] w (QN RlY.v (RlI l) [] W (fun y=>y.ats++O)):=by
 have HG:=Q3 hg;obtain⟨hlen,hall⟩:=Qdu 32 l;obtain⟨ws,hws⟩:∃ws,spl 32 l=ws:=⟨_,rfl⟩;rw[hws] at hlen hall;have hne:0<ws.length:=by
  rw[<- hws];exact List.length_pos_iff.2 (Q5W 32 l)
 have hrl:Vx l=Yj ws:=by unfold Vx;rw[hws]
 obtain⟨N,hN⟩:∃N,ws.length=N:=⟨_,rfl⟩;rw[hN] at hlen hne;have HALL:=Q3 (show ∀s∈ws,s.length<=1048576 from fun s hs=>by have:=hall s hs;omega);have HN:=Q3 hN;have HWS:=Q3 hws;have HRL:=Q3 hrl;have hNle:N<=2001:=by omega
 have hlsm:l.length<=1048576:=by omega
 clear hg hall hws hrl hN hlen;go_enter Tryz.func93,Tryz.ntmps93;refine Qy (M:=[]) (W:=W) (N:=104) (E:=[(0,.string ⟨l.toArray⟩)]) (O:=O) ?_ (Ag.cons (Ag.nil rfl rfl) rfl) hw;repeat(first|refine Q4 zM ?_|refine Q4 zA ?_|refine yA fun g2=>?_|(refine Qd (QC _ _ _ (f:=130) rfl rfl rfl (fun w hw=>Qkq (HG.out.on hw.k.below) hlsm hw)) rfl Q1 (fun bw _=>?_);rw[HWS.out,HN.out])|refine Q4 (X9 (xs:=[(0,.tmp 8)]) (vs:=[(0,.slice (some ⟨bw,0,none⟩) N N)]) (v:=.agg #[.slice (some ⟨bw,0,none⟩) N N,.bool false,.slice none 0 0]) rfl rfl Q1 rfl rfl (fun w=>run_build w _ _ _ Q5)) ?_|refine Qd (Q7P (cs:=[.slice (some ⟨bw,0,none⟩) N N,.bool false,.slice none 0 0]) rfl rfl rfl rfl) rfl Q1 (fun br _=>?_)|refine Qc ?_|refine Qa ?_|refine Q6 ?_)
 refine Qwa 9 1 ?_;refine QdJ (O':=rdO br bw 0 N 0 false ws none 0 []++(.blk g2 (.cells [.string ⟨#[]⟩,.int .i64 0,.slice none 0 0,.int .i64 0,.bool false,.int .i64 0,.int .i64 0,.int .i64 0,.int .i64 0,.int .i64 0,.slice none 0 0,.slice none 0 0].toArray 65 (0,0))::O)) (fun w hw=>hw.rot2) ?_;repeat(first|(refine Qd (QC _ _ _ (f:=131) rfl rfl rfl (fun w hw=>Vp HN.out (fun _=>rfl) (Nat.zero_le _) Q2 hw)) rfl Q1 (fun y hy=>?_);obtain⟨k1,q1⟩:=y)|refine Q4 (X9 (xs:=[(0,.tmp 12)]) (vs:=[(0,.string ⟨(wAt ws 0).toArray⟩)]) (v:=.agg #[.string ⟨(wAt ws 0).toArray⟩,.int .i64 0,.slice none 0 0,.int .i64 0,.bool false,.int .i64 0,.int .i64 0,.int .i64 0,.int .i64 0,.int .i64 0,.slice none 0 0,.slice none 0 0]) rfl rfl Q1 rfl rfl (fun w=>run_build w _ _ _ Q5)) ?_|refine yA fun g6=>?_|refine Qr (QS 0 rfl rfl rfl rfl rfl rfl rfl Qn) rfl (fun _ _=>?_)|refine Qc ?_|refine Qa ?_|refine Q6 ?_)
 obtain⟨hk1,hq1⟩:=hy;obtain rfl:k1=1:=by
  have:k1=min (0+1) N:=hk1;omega
 have hq1':1<N->q1=1:=hq1;have hd0:(false||decide (N<=0))=false:=by rw[decide_eq_false Q2];rfl
 refine QdJ (O':=rdO br bw q1 N 1 false ws none 0 []++(.blk g6 (.cells [.string ⟨(wAt ws 0).toArray⟩,.int .i64 0,.slice none 0 0,.int .i64 0,.bool false,.int .i64 0,.int .i64 0,.int .i64 0,.int .i64 0,.int .i64 0,.slice none 0 0,.slice none 0 0].toArray 65 (0,0))::.blk g2 (.cells [.string ⟨#[]⟩,.int .i64 0,.slice none 0 0,.int .i64 0,.bool false,.int .i64 0,.int .i64 0,.int .i64 0,.int .i64 0,.int .i64 0,.slice none 0 0,.slice none 0 0].toArray 65 (0,0))::O)) (fun w hw=>by rw[hd0] at hw;exact hw.rot3) ?_;clear hd0 hk1 hq1;obtain⟨K,hK⟩:∃K,kwK (wAt ws 1)=K:=⟨_,rfl⟩;have hKb:=QtI (wAt ws 1);rw[hK] at hKb;have HK:=Q3 hK;clear hK;repeat(first|refine Q4 zM ?_|refine Qd (QC _ _ _ (f:=121) rfl rfl rfl (fun w hw=>Q8V HG.out hw (HG.out.on hw.k.below))) rfl Q1 (fun bf _=>?_))
 refine QdJ (fun w hw=>hw.rot3) ?_;repeat(first|refine Q4 zM ?_|refine Q4 zF ?_|(refine Qd (QC _ _ _ (f:=131) rfl rfl rfl (fun w hw=>Vp HN.out hq1' Q2 Q2 hw)) rfl Q1 (fun y hy=>?_);obtain⟨k2,q2⟩:=y;rw[Bool.false_or])|(refine Q4 (Qg (f:=132) rfl rfl Q1 rfl rfl (fun w hw=>Qfn (hw.own 3 _ rfl))) ?_;rw[HK.out])|refine yS 4 ?_|refine Qc ?_|refine Qa ?_|refine Q6 ?_|refine Q4 zP ?_)
 have hsz:(⟨(wAt ws 0).toArray⟩:ByteArray).size<=9223372036854775807:=by
  have:=Q0T HALL.out 0;rw[ZH];omega
 obtain⟨hk2,hq2⟩:=hy;have hk2':k2=min 2 N:=hk2;have hq2':k2<N->q2=k2:=hq2;rw[show K - 1+1=K by omega];obtain⟨u,hu⟩:∃u,Qk (wAt ws 0)=u:=⟨_,rfl⟩;have HU:=Q3 (show Qk (⟨(wAt ws 0).toArray⟩:ByteArray).data.toList=u from hu);clear hk2 hq2 hu;by_cases hN2:N<=1
 ·rw[decide_eq_true hN2]
  repeat(first|refine Q4 zM ?_|refine Q4 zA ?_|refine Q4 zF ?_|refine Q4 zS ?_|refine Q4 (zB 0) ?_|refine Q4 (ZO rfl rfl Q1 rfl rfl) ?_|refine Q4 (X9 (xs:=[]) (vs:=[]) (v:=.agg #[.string ⟨#[]⟩,.int .i64 0,.slice none 0 0,.int .i64 0,.bool false,.int .i64 0,.int .i64 0,.int .i64 0,.int .i64 0,.int .i64 0,.slice none 0 0,.slice none 0 0]) rfl rfl Q1 rfl rfl (fun w=>run_build w _ _ _ Q5)) ?_|refine yW 5 ?_|refine Qc ?_|refine Qa ?_|refine Q6 ?_|refine Q8 rfl ?_|refine Qu ?_|refine Qo ?_|refine Q4 zY ?_)
  refine Q3c (by exact .inr rfl) rfl (RsV.blk 5 rfl rfl rfl) (.tmp rfl) (.tmp rfl) (fun w hw=>Vk Qld (XT rfl ?_) (by intro a ha;cases ha) (fun w _=>⟨⟨Nat.le_refl _,Nat.le_refl _,Nat.le_refl _,QJ _ _,QJ _ _,QJ _ _⟩,QJ _ _,Nat.le_refl _⟩) hw.drop6);rw[HRL.out];have hN1:ws.length=1:=by have:=HN.out;omega
  obtain⟨a,rfl⟩:=List.length_eq_one_iff.1 hN1;rfl
 obtain rfl:k2=2:=by omega
 rw[decide_eq_false hN2];have hsp:∃name w1 rest,ws=name::w1::rest/\wAt ws 0=name/\N=rest.length+2/\Vx l=if Qk (wAt ws 0) then XQ (wAt ws 0) K rest else none:=by
  have h1:=HN.out;have h2:=HRL.out;have h3:=HK.out;match ws,h1,h2,h3 with
  |[],h1,_,_=>exact absurd (show 0=N from h1) Q2
  |[_],h1,_,_=>exact absurd (show 1=N from h1) Q2
  |name::w1::rest,h1,h2,h3=>
   refine⟨name,w1,rest,rfl,rfl,(show rest.length+2=N from h1).symm,?_⟩;rw[h2,<- h3];rfl
 have HSP:=Q3 hsp;clear hsp;cases u with
 |false=>
  repeat(first|refine Q4 zM ?_|refine Q4 zA ?_|refine Q4 zF ?_|refine Q4 zS ?_|refine Q4 (zB 0) ?_|refine Q4 (zB 4) ?_|refine Q4 (ZO rfl rfl Q1 rfl rfl) ?_|(refine Q4 (Qg (f:=133) rfl rfl Q1 rfl rfl (fun w hw=>JB _ w hsz)) ?_;rw[show Qk (⟨(wAt ws 0).toArray⟩:ByteArray).data.toList=_ from HU.out])|refine Q4 (X9 (xs:=[]) (vs:=[]) (v:=.agg #[.string ⟨#[]⟩,.int .i64 0,.slice none 0 0,.int .i64 0,.bool false,.int .i64 0,.int .i64 0,.int .i64 0,.int .i64 0,.int .i64 0,.slice none 0 0,.slice none 0 0]) rfl rfl Q1 rfl rfl (fun w=>run_build w _ _ _ Q5)) ?_|refine yW 5 ?_|refine Qc ?_|refine Qa ?_|refine Q6 ?_|refine Q8 rfl ?_|refine Qu ?_|refine Qo ?_|refine Q4 zY ?_|refine Q4 zN ?_|refine Q4 zO ?_)
  refine Q3c (by exact .inr rfl) rfl (RsV.blk 5 rfl rfl rfl) (.tmp rfl) (.tmp rfl) (fun w hw=>Vk Qld (XT rfl ?_) (by intro a ha;cases ha) (fun w _=>⟨⟨Nat.le_refl _,Nat.le_refl _,Nat.le_refl _,QJ _ _,QJ _ _,QJ _ _⟩,QJ _ _,Nat.le_refl _⟩) hw.drop6);obtain⟨name,w1,rest,e1,e2,e3,e4⟩:=HSP.out;rw[e4,show Qk (wAt ws 0)=false from HU.out];rfl
 |true=>
  by_cases hK1:K<1
  ·skip
   repeat(first|refine Q4 zM ?_|refine Q4 zA ?_|refine Q4 zF ?_|refine Q4 (zB 0) ?_|refine Q4 (zB 4) ?_|refine Q4 (ZO rfl rfl Q1 rfl rfl) ?_|(refine Q4 (Qg (f:=133) rfl rfl Q1 rfl rfl (fun w hw=>JB _ w hsz)) ?_;rw[show Qk (⟨(wAt ws 0).toArray⟩:ByteArray).data.toList=_ from HU.out])|refine Q4 (X9 (xs:=[]) (vs:=[]) (v:=.agg #[.string ⟨#[]⟩,.int .i64 0,.slice none 0 0,.int .i64 0,.bool false,.int .i64 0,.int .i64 0,.int .i64 0,.int .i64 0,.int .i64 0,.slice none 0 0,.slice none 0 0]) rfl rfl Q1 rfl rfl (fun w=>run_build w _ _ _ Q5)) ?_|refine yW 5 ?_|refine Qc ?_|refine Qa ?_|refine Q6 ?_|refine Q8 rfl ?_|refine Qu ?_|refine Qo ?_|refine Q4 zlt ?_|refine Q4 zN ?_|refine Q4 zO ?_)
   refine Q3c (by exact .inr rfl) rfl (RsV.blk 5 rfl rfl rfl) (.tmp rfl) (.tmp rfl) (fun w hw=>Vk Qld (XT rfl ?_) (by intro a ha;cases ha) (fun w _=>⟨⟨Nat.le_refl _,Nat.le_refl _,Nat.le_refl _,QJ _ _,QJ _ _,QJ _ _⟩,QJ _ _,Nat.le_refl _⟩) hw.drop6);obtain⟨name,w1,rest,e1,e2,e3,e4⟩:=HSP.out;obtain rfl:K=0:=by omega
   rw[e4,show Qk (wAt ws 0)=true from HU.out];rfl
  repeat(first|refine Q4 zM ?_|refine Q4 zF ?_|refine Q4 (zB 0) ?_|refine Q4 (zB 4) ?_|refine Q4 (ZO rfl rfl Q1 rfl rfl) ?_|(refine Q4 (Qg (f:=133) rfl rfl Q1 rfl rfl (fun w hw=>JB _ w hsz)) ?_;rw[show Qk (⟨(wAt ws 0).toArray⟩:ByteArray).data.toList=_ from HU.out])|refine Qc ?_|refine Qa ?_|refine Q6 ?_|refine Qp ?_|refine Q7 rfl ?_|refine Q4 zer ?_|refine Q4 zlf ?_|refine Q4 zN ?_|refine Q4 zO ?_)
  apply QpT (T:=fun kQ kC=>∀(x:Rl) (A1 A2 A3:Option Addr) (n1 n2 n3 c1 c2 c3:Nat) (B:Bool) (k q c:Nat) (A:Option Addr) (ns:List (List UInt8)) (ats:List Qf),k<=N->(∀z w,z=okB B N k->Wd [] W (ats++O) w->QN RlY.v (RlI l) [] W (fun y=>y.ats++O) (.returned (.tuple #[.agg (ruC x (.slice A1 n1 c1) (.slice A2 n2 c2) (.slice A3 n3 c3)).toArray,.slice A ns.length c,.bool z])) w)->sE Tryz.prog kQ 104 [] W [(2,.pointer (some ⟨g2,0,none⟩)),(5,.pointer (some ⟨br,0,none⟩)),(6,.pointer (some ⟨g6,0,none⟩))] (.blk br (.cells [.slice (some ⟨bw,q,none⟩) (N - k) (N - k),.bool B,.slice A ns.length c].toArray 155 (0,0))::.blk g6 (.cells (ruC x (.slice A1 n1 c1) (.slice A2 n2 c2) (.slice A3 n3 c3)).toArray 65 (0,0))::.blk g2 (.cells [.string ⟨#[]⟩,.int .i64 0,.slice none 0 0,.int .i64 0,.bool false,.int .i64 0,.int .i64 0,.int .i64 0,.int .i64 0,.int .i64 0,.slice none 0 0,.slice none 0 0].toArray 65 (0,0))::(ats++O)) kC)
  case main=>
   intro key;obtain rfl|rfl|rfl|rfl|rfl|rfl|rfl|rfl|rfl|rfl:K=1\/K=2\/K=3\/K=4\/K=5\/K=6\/K=7\/K=8\/K=9\/K=10:=by omega
   ·skip
    repeat(first|refine Q4 zM ?_|refine Q4 zF ?_|refine Q4 (zB 5) ?_|refine Q4 (zD 0) ?_|refine Q4 (zD 5) ?_|refine Q4 (Qg (f:=123) rfl rfl Q1 rfl rfl (fun w hw=>X2 w)) ?_|refine Q4 (Qg (f:=124) rfl rfl Q1 rfl rfl (fun w hw=>X8 w)) ?_|refine Q4 (Qg (f:=125) rfl rfl Q1 rfl rfl (fun w hw=>Xj w)) ?_|refine Q4 (Qg (f:=126) rfl rfl Q1 rfl rfl (fun w hw=>QY w)) ?_|refine Q4 (Qg (f:=127) rfl rfl Q1 rfl rfl (fun w hw=>Xv w)) ?_|refine Q4 (Qg (f:=138) rfl rfl Q1 rfl rfl (fun w hw=>X6 w)) ?_|(refine Qd (QC _ _ _ (f:=134) rfl rfl rfl (fun w hw=>QtH HALL.out HN.out Qx Q2 Q2 hw)) rfl Q1 (fun y hy=>?_);obtain⟨⟨hk,hq⟩,hbad,hout⟩:=hy;refine QdJ (fun w hw=>hw.rot3) ?_)|refine yS 5 ?_|refine Qc ?_|refine Qa ?_|refine Q6 ?_|refine Qp ?_|refine Q8 rfl ?_|refine Q7 rfl ?_|refine Q4 zef ?_)
    refine YU (E':=[(2,.pointer (some ⟨g2,0,none⟩)),(5,.pointer (some ⟨br,0,none⟩)),(6,.pointer (some ⟨g6,0,none⟩))]) (.cons rfl rfl (.cons rfl rfl (.cons rfl rfl .nil))) ?_;refine Zz (fun w hw=>(row_rd (hw.own 2 _ rfl) Q1).2) (fun hc=>?_);refine Zz (fun w hw=>(row_rd (hw.own 3 _ rfl) Q1).2) (fun hc3=>?_);refine Q3l (fun w hw=>((hw.toRd (i:=2) rfl Q1).toRd (i:=3) rfl Q1).to7) ?_;refine key ({ Xo (wAt ws 0) 1 with bs:=y.2.2.2.1 }) _ _ _ _ _ _ _ _ _ _ _ _ _ _ ([]) ([.rd _ _ 1 (sv ([])),.rd _ _ 1 (bv y.2.2.2.1)]) Q2 (fun zz w hz hw=>?_);obtain⟨name,w1,rest,e1,e2,e3,e4⟩:=HSP.out;rw[show Qk (wAt ws 0)=true from HU.out,if_pos rfl] at e4;subst e1;refine Vk ⟨{ Xo (wAt (name::w1::rest) 0) 1 with bs:=y.2.2.2.1 },y.2.1,y.2.2.1,none,0,none,0,[],_,_,zz,[.rd _ _ 1 (sv ([])),.rd _ _ 1 (bv y.2.2.2.1)]⟩ ?_ QtC (fun w ha=>?_) hw
    ·rw[hz,e4];exact Qwn e3 hk hbad hout
    ·exact⟨⟨hc3,Nat.le_refl _,Nat.le_refl _,ha _ (List.mem_cons_of_mem _ List.mem_cons_self),QJ _ _,QJ _ _⟩,ha _ List.mem_cons_self,hc⟩
   ·skip
    repeat(first|refine Q4 zM ?_|refine Q4 zF ?_|refine Q4 (zB 4) ?_|refine Q4 (zD 0) ?_|refine Q4 (zD 4) ?_|refine Q4 (Qg (f:=123) rfl rfl Q1 rfl rfl (fun w hw=>X2 w)) ?_|refine Q4 (Qg (f:=124) rfl rfl Q1 rfl rfl (fun w hw=>X8 w)) ?_|refine Q4 (Qg (f:=125) rfl rfl Q1 rfl rfl (fun w hw=>Xj w)) ?_|refine Q4 (Qg (f:=126) rfl rfl Q1 rfl rfl (fun w hw=>QY w)) ?_|refine Q4 (Qg (f:=127) rfl rfl Q1 rfl rfl (fun w hw=>Xv w)) ?_|refine Q4 (Qg (f:=138) rfl rfl Q1 rfl rfl (fun w hw=>X6 w)) ?_|refine yS 4 ?_|(refine Qd (QC _ _ _ (f:=135) rfl rfl rfl (fun w hw=>Ke HG.out HALL.out HN.out Qx Q2 Q2 hw)) rfl Q1 (fun y hy=>?_);obtain⟨hk,hq⟩:=hy)|(refine Qd (QC _ _ _ (f:=136) rfl rfl rfl (fun w hw=>QjR HN.out Qx Q2 Q2 hw)) rfl Q1 (fun y hy=>?_);obtain⟨hk,hq⟩:=hy)|refine Qc ?_|refine Qa ?_|refine Q6 ?_|refine Qp ?_|refine Q8 rfl ?_|refine Q7 rfl ?_|refine Q4 zet ?_)
    refine YU (E':=[(2,.pointer (some ⟨g2,0,none⟩)),(5,.pointer (some ⟨br,0,none⟩)),(6,.pointer (some ⟨g6,0,none⟩))]) (.cons rfl rfl (.cons rfl rfl (.cons rfl rfl .nil))) ?_;refine Zz (fun w hw=>(row_rd (hw.own 2 _ rfl) Q1).2) (fun hc=>?_);refine Q3l (fun w hw=>(hw.toRd (i:=2) rfl Q1).to6) ?_;refine key ({ Xo (wAt ws 0) 2 with size:=Xx (wAt ws 2),big:=wAt ws _==Q08,mn:=Xx (wAt ws _),mx:=Xx (wAt ws _) }) _ _ _ _ _ _ _ _ _ _ _ _ _ _ ([]) ([.rd _ _ 1 (sv ([]))]) Q2 (fun zz w hz hw=>?_);obtain⟨name,w1,rest,e1,e2,e3,e4⟩:=HSP.out;rw[show Qk (wAt ws 0)=true from HU.out,if_pos rfl] at e4;subst e1;refine Vk ⟨{ Xo (wAt (name::w1::rest) 0) 2 with size:=Xx (wAt (name::w1::rest) 2),big:=wAt (name::w1::rest) _==Q08,mn:=Xx (wAt (name::w1::rest) _),mx:=Xx (wAt (name::w1::rest) _) },none,0,none,0,none,0,[],_,_,zz,[.rd _ _ 1 (sv ([]))]⟩ ?_ Qav (fun w ha=>?_) hw
    ·rw[hz,e4];exact QwG e3 Qx Qx Qx Qx rfl
    ·exact⟨⟨Nat.le_refl _,Nat.le_refl _,Nat.le_refl _,QJ _ _,QJ _ _,QJ _ _⟩,ha _ List.mem_cons_self,hc⟩
   ·skip
    repeat(first|refine Q4 zM ?_|refine Q4 zF ?_|refine Q4 (zB 4) ?_|refine Q4 (zD 0) ?_|refine Q4 (zD 4) ?_|refine Q4 (Qg (f:=123) rfl rfl Q1 rfl rfl (fun w hw=>X2 w)) ?_|refine Q4 (Qg (f:=124) rfl rfl Q1 rfl rfl (fun w hw=>X8 w)) ?_|refine Q4 (Qg (f:=125) rfl rfl Q1 rfl rfl (fun w hw=>Xj w)) ?_|refine Q4 (Qg (f:=126) rfl rfl Q1 rfl rfl (fun w hw=>QY w)) ?_|refine Q4 (Qg (f:=127) rfl rfl Q1 rfl rfl (fun w hw=>Xv w)) ?_|refine Q4 (Qg (f:=138) rfl rfl Q1 rfl rfl (fun w hw=>X6 w)) ?_|refine yS 4 ?_|(refine Qd (QC _ _ _ (f:=135) rfl rfl rfl (fun w hw=>Ke HG.out HALL.out HN.out Qx Q2 Q2 hw)) rfl Q1 (fun y hy=>?_);obtain⟨hk,hq⟩:=hy)|refine Qc ?_|refine Qa ?_|refine Q6 ?_|refine Qp ?_|refine Q8 rfl ?_|refine Q7 rfl ?_|refine Q4 zef ?_)
    refine YU (E':=[(2,.pointer (some ⟨g2,0,none⟩)),(5,.pointer (some ⟨br,0,none⟩)),(6,.pointer (some ⟨g6,0,none⟩))]) (.cons rfl rfl (.cons rfl rfl (.cons rfl rfl .nil))) ?_;refine Zz (fun w hw=>(row_rd (hw.own 2 _ rfl) Q1).2) (fun hc=>?_);refine Q3l (fun w hw=>(hw.toRd (i:=2) rfl Q1).to6) ?_;refine key ({ Xo (wAt ws 0) 3 with stop:=Xx (wAt ws 2),mx:=Xx (wAt ws _) }) _ _ _ _ _ _ _ _ _ _ _ _ _ _ ([]) ([.rd _ _ 1 (sv ([]))]) Q2 (fun zz w hz hw=>?_);obtain⟨name,w1,rest,e1,e2,e3,e4⟩:=HSP.out;rw[show Qk (wAt ws 0)=true from HU.out,if_pos rfl] at e4;subst e1;refine Vk ⟨{ Xo (wAt (name::w1::rest) 0) 3 with stop:=Xx (wAt (name::w1::rest) 2),mx:=Xx (wAt (name::w1::rest) _) },none,0,none,0,none,0,[],_,_,zz,[.rd _ _ 1 (sv ([]))]⟩ ?_ Qav (fun w ha=>?_) hw
    ·rw[hz,e4];exact QwH e3 Qx Qx rfl
    ·exact⟨⟨Nat.le_refl _,Nat.le_refl _,Nat.le_refl _,QJ _ _,QJ _ _,QJ _ _⟩,ha _ List.mem_cons_self,hc⟩
   ·skip
    repeat(first|refine Q4 zM ?_|refine Q4 zF ?_|refine Q4 (zB 4) ?_|refine Q4 (zD 0) ?_|refine Q4 (zD 4) ?_|refine Q4 (Qg (f:=123) rfl rfl Q1 rfl rfl (fun w hw=>X2 w)) ?_|refine Q4 (Qg (f:=124) rfl rfl Q1 rfl rfl (fun w hw=>X8 w)) ?_|refine Q4 (Qg (f:=125) rfl rfl Q1 rfl rfl (fun w hw=>Xj w)) ?_|refine Q4 (Qg (f:=126) rfl rfl Q1 rfl rfl (fun w hw=>QY w)) ?_|refine Q4 (Qg (f:=127) rfl rfl Q1 rfl rfl (fun w hw=>Xv w)) ?_|refine Q4 (Qg (f:=138) rfl rfl Q1 rfl rfl (fun w hw=>X6 w)) ?_|refine yS 4 ?_|(refine Qd (QC _ _ _ (f:=135) rfl rfl rfl (fun w hw=>Ke HG.out HALL.out HN.out Qx Q2 Q2 hw)) rfl Q1 (fun y hy=>?_);obtain⟨hk,hq⟩:=hy)|refine Qc ?_|refine Qa ?_|refine Q6 ?_|refine Qp ?_|refine Q8 rfl ?_|refine Q7 rfl ?_|refine Q4 zef ?_)
    refine YU (E':=[(2,.pointer (some ⟨g2,0,none⟩)),(5,.pointer (some ⟨br,0,none⟩)),(6,.pointer (some ⟨g6,0,none⟩))]) (.cons rfl rfl (.cons rfl rfl (.cons rfl rfl .nil))) ?_;refine Zz (fun w hw=>(row_rd (hw.own 2 _ rfl) Q1).2) (fun hc=>?_);refine Q3l (fun w hw=>(hw.toRd (i:=2) rfl Q1).to6) ?_;refine key ({ Xo (wAt ws 0) 4 with size:=Xx (wAt ws 2) }) _ _ _ _ _ _ _ _ _ _ _ _ _ _ ([]) ([.rd _ _ 1 (sv ([]))]) Q2 (fun zz w hz hw=>?_);obtain⟨name,w1,rest,e1,e2,e3,e4⟩:=HSP.out;rw[show Qk (wAt ws 0)=true from HU.out,if_pos rfl] at e4;subst e1;refine Vk ⟨{ Xo (wAt (name::w1::rest) 0) 4 with size:=Xx (wAt (name::w1::rest) 2) },none,0,none,0,none,0,[],_,_,zz,[.rd _ _ 1 (sv ([]))]⟩ ?_ Qav (fun w ha=>?_) hw
    ·rw[hz,e4];exact QwB e3 Qx rfl
    ·exact⟨⟨Nat.le_refl _,Nat.le_refl _,Nat.le_refl _,QJ _ _,QJ _ _,QJ _ _⟩,ha _ List.mem_cons_self,hc⟩
   ·skip
    repeat(first|refine Q4 zM ?_|refine Q4 zF ?_|refine Q4 (zB 4) ?_|refine Q4 (zD 0) ?_|refine Q4 (zD 4) ?_|refine Q4 (Qg (f:=123) rfl rfl Q1 rfl rfl (fun w hw=>X2 w)) ?_|refine Q4 (Qg (f:=124) rfl rfl Q1 rfl rfl (fun w hw=>X8 w)) ?_|refine Q4 (Qg (f:=125) rfl rfl Q1 rfl rfl (fun w hw=>Xj w)) ?_|refine Q4 (Qg (f:=126) rfl rfl Q1 rfl rfl (fun w hw=>QY w)) ?_|refine Q4 (Qg (f:=127) rfl rfl Q1 rfl rfl (fun w hw=>Xv w)) ?_|refine Q4 (Qg (f:=138) rfl rfl Q1 rfl rfl (fun w hw=>X6 w)) ?_|refine yS 4 ?_|(refine Qd (QC _ _ _ (f:=135) rfl rfl rfl (fun w hw=>Ke HG.out HALL.out HN.out Qx Q2 Q2 hw)) rfl Q1 (fun y hy=>?_);obtain⟨hk,hq⟩:=hy)|refine Qc ?_|refine Qa ?_|refine Q6 ?_|refine Qp ?_|refine Q8 rfl ?_|refine Q7 rfl ?_|refine Q4 zef ?_)
    refine YU (E':=[(2,.pointer (some ⟨g2,0,none⟩)),(5,.pointer (some ⟨br,0,none⟩)),(6,.pointer (some ⟨g6,0,none⟩))]) (.cons rfl rfl (.cons rfl rfl (.cons rfl rfl .nil))) ?_;refine Zz (fun w hw=>(row_rd (hw.own 2 _ rfl) Q1).2) (fun hc=>?_);refine Q3l (fun w hw=>(hw.toRd (i:=2) rfl Q1).to6) ?_;refine key ({ Xo (wAt ws 0) 5 with stop:=Xx (wAt ws 2),size:=Xx (wAt ws _) }) _ _ _ _ _ _ _ _ _ _ _ _ _ _ ([]) ([.rd _ _ 1 (sv ([]))]) Q2 (fun zz w hz hw=>?_);obtain⟨name,w1,rest,e1,e2,e3,e4⟩:=HSP.out;rw[show Qk (wAt ws 0)=true from HU.out,if_pos rfl] at e4;subst e1;refine Vk ⟨{ Xo (wAt (name::w1::rest) 0) 5 with stop:=Xx (wAt (name::w1::rest) 2),size:=Xx (wAt (name::w1::rest) _) },none,0,none,0,none,0,[],_,_,zz,[.rd _ _ 1 (sv ([]))]⟩ ?_ Qav (fun w ha=>?_) hw
    ·rw[hz,e4];exact Qws e3 Qx Qx rfl
    ·exact⟨⟨Nat.le_refl _,Nat.le_refl _,Nat.le_refl _,QJ _ _,QJ _ _,QJ _ _⟩,ha _ List.mem_cons_self,hc⟩
   ·skip
    repeat(first|refine Q4 zM ?_|refine Q4 zF ?_|refine Q4 (zB 4) ?_|refine Q4 (zD 0) ?_|refine Q4 (zD 4) ?_|refine Q4 (Qg (f:=123) rfl rfl Q1 rfl rfl (fun w hw=>X2 w)) ?_|refine Q4 (Qg (f:=124) rfl rfl Q1 rfl rfl (fun w hw=>X8 w)) ?_|refine Q4 (Qg (f:=125) rfl rfl Q1 rfl rfl (fun w hw=>Xj w)) ?_|refine Q4 (Qg (f:=126) rfl rfl Q1 rfl rfl (fun w hw=>QY w)) ?_|refine Q4 (Qg (f:=127) rfl rfl Q1 rfl rfl (fun w hw=>Xv w)) ?_|refine Q4 (Qg (f:=138) rfl rfl Q1 rfl rfl (fun w hw=>X6 w)) ?_|(refine Qd (QC _ _ _ (f:=131) rfl rfl rfl (fun w hw=>Vp HN.out Qx Q2 Q2 hw)) rfl Q1 (fun y hy=>?_);obtain⟨hk,hq⟩:=hy)|refine Qd (QC _ _ _ (f:=137) rfl rfl rfl (fun w hw=>Q2Z (Q0T HALL.out _) Qn hw)) rfl Q1 (fun z _=>?_)|refine Qc ?_|refine Qa ?_|refine Q6 ?_|refine Qp ?_|refine Q8 rfl ?_|refine Q7 rfl ?_|refine Q4 zef ?_)
    refine YU (E':=[(2,.pointer (some ⟨g2,0,none⟩)),(5,.pointer (some ⟨br,0,none⟩)),(6,.pointer (some ⟨g6,0,none⟩))]) (.cons rfl rfl (.cons rfl rfl (.cons rfl rfl .nil))) ?_;refine Zz (fun w hw=>(row_rd (hw.own 2 _ rfl) Q1).2) (fun hc=>?_);refine Q3l (fun w hw=>(hw.toRd (i:=2) rfl Q1).to6) ?_;refine key (Xo (wAt ws 0) 6) _ _ _ _ _ _ _ _ _ _ _ _ _ _ (([]++[wAt ws 2])++[wAt ws _]) ([.rd _ _ 1 (sv (([]++[wAt ws 2])++[wAt ws _]))]) Q2 (fun zz w hz hw=>?_);obtain⟨name,w1,rest,e1,e2,e3,e4⟩:=HSP.out;rw[show Qk (wAt ws 0)=true from HU.out,if_pos rfl] at e4;subst e1;refine Vk ⟨Xo (wAt (name::w1::rest) 0) 6,none,0,none,0,none,0,([]++[wAt (name::w1::rest) 2])++[wAt (name::w1::rest) _],_,_,zz,[.rd _ _ 1 (sv (([]++[wAt (name::w1::rest) 2])++[wAt (name::w1::rest) _]))]⟩ ?_ Qav (fun w ha=>?_) hw
    ·rw[hz,e4];exact QwC e3 Qx Qx rfl
    ·exact⟨⟨Nat.le_refl _,Nat.le_refl _,Nat.le_refl _,QJ _ _,QJ _ _,QJ _ _⟩,ha _ List.mem_cons_self,hc⟩
   ·skip
    repeat(first|refine Q4 zM ?_|refine Q4 zF ?_|refine Q4 (zB 4) ?_|refine Q4 (zD 0) ?_|refine Q4 (zD 4) ?_|refine Q4 (Qg (f:=123) rfl rfl Q1 rfl rfl (fun w hw=>X2 w)) ?_|refine Q4 (Qg (f:=124) rfl rfl Q1 rfl rfl (fun w hw=>X8 w)) ?_|refine Q4 (Qg (f:=125) rfl rfl Q1 rfl rfl (fun w hw=>Xj w)) ?_|refine Q4 (Qg (f:=126) rfl rfl Q1 rfl rfl (fun w hw=>QY w)) ?_|refine Q4 (Qg (f:=127) rfl rfl Q1 rfl rfl (fun w hw=>Xv w)) ?_|refine Q4 (Qg (f:=138) rfl rfl Q1 rfl rfl (fun w hw=>X6 w)) ?_|(refine Qd (QC _ _ _ (f:=139) rfl rfl rfl (fun w hw=>Qdh true HG.out HALL.out HN.out Qx Q2 Q2 Q1 hw)) rfl Q1 (fun y hy=>?_);obtain⟨hj,hpi⟩:=hy)|refine yS 5 ?_|refine Qc ?_|refine Qa ?_|refine Q6 ?_|refine Qp ?_|refine Q8 rfl ?_|refine Q7 rfl ?_|refine Q4 zet ?_|refine Q4 zef ?_)
    refine YU (E':=[(2,.pointer (some ⟨g2,0,none⟩)),(5,.pointer (some ⟨br,0,none⟩)),(6,.pointer (some ⟨g6,0,none⟩))]) (.cons rfl rfl (.cons rfl rfl (.cons rfl rfl .nil))) ?_;refine Zz (fun w hw=>(row_rd (hw.own 2 _ rfl) Q1).2) (fun hc=>?_);refine Zz (fun w hw=>(row_rd (hw.own 3 _ rfl) Q1).2) (fun hc3=>?_);refine Q3l (fun w hw=>((hw.toRd (i:=2) rfl Q1).toRd (i:=3) rfl Q1).to7) ?_;refine key ({ Xo (wAt ws 0) 7 with names:=y.nm }) _ _ _ _ _ _ _ _ _ _ _ _ _ _ (y.ns) ([.rd _ _ 1 (sv (y.ns)),.rd _ _ 1 (sv y.nm)]) Q2 (fun zz w hz hw=>?_);obtain⟨name,w1,rest,e1,e2,e3,e4⟩:=HSP.out;rw[show Qk (wAt ws 0)=true from HU.out,if_pos rfl] at e4;subst e1;refine Vk ⟨{ Xo (wAt (name::w1::rest) 0) 7 with names:=y.nm },none,0,y.A',y.c',none,0,y.ns,_,_,zz,[.rd _ _ 1 (sv (y.ns)),.rd _ _ 1 (sv y.nm)]⟩ ?_ QtC (fun w ha=>?_) hw
    ·rw[hz,e4];exact Qwj e3 hj hpi
    ·exact⟨⟨Nat.le_refl _,hc3,Nat.le_refl _,QJ _ _,ha _ (List.mem_cons_of_mem _ List.mem_cons_self),QJ _ _⟩,ha _ List.mem_cons_self,hc⟩
   ·skip
    repeat(first|refine Q4 zM ?_|refine Q4 zF ?_|refine Q4 (zB 4) ?_|refine Q4 (zD 0) ?_|refine Q4 (zD 4) ?_|refine Q4 (Qg (f:=123) rfl rfl Q1 rfl rfl (fun w hw=>X2 w)) ?_|refine Q4 (Qg (f:=124) rfl rfl Q1 rfl rfl (fun w hw=>X8 w)) ?_|refine Q4 (Qg (f:=125) rfl rfl Q1 rfl rfl (fun w hw=>Xj w)) ?_|refine Q4 (Qg (f:=126) rfl rfl Q1 rfl rfl (fun w hw=>QY w)) ?_|refine Q4 (Qg (f:=127) rfl rfl Q1 rfl rfl (fun w hw=>Xv w)) ?_|refine Q4 (Qg (f:=138) rfl rfl Q1 rfl rfl (fun w hw=>X6 w)) ?_|(refine Qd (QC _ _ _ (f:=139) rfl rfl rfl (fun w hw=>Qdh false HG.out HALL.out HN.out Qx Q2 Q2 Q1 hw)) rfl Q1 (fun y hy=>?_);obtain⟨hj,hpi⟩:=hy)|refine yS 5 ?_|refine Qc ?_|refine Qa ?_|refine Q6 ?_|refine Qp ?_|refine Q8 rfl ?_|refine Q7 rfl ?_|refine Q4 zef ?_)
    refine YU (E':=[(2,.pointer (some ⟨g2,0,none⟩)),(5,.pointer (some ⟨br,0,none⟩)),(6,.pointer (some ⟨g6,0,none⟩))]) (.cons rfl rfl (.cons rfl rfl (.cons rfl rfl .nil))) ?_;refine Zz (fun w hw=>(row_rd (hw.own 2 _ rfl) Q1).2) (fun hc=>?_);refine Zz (fun w hw=>(row_rd (hw.own 3 _ rfl) Q1).2) (fun hc3=>?_);refine Q3l (fun w hw=>((hw.toRd (i:=2) rfl Q1).toRd (i:=3) rfl Q1).to7) ?_;refine key ({ Xo (wAt ws 0) 8 with names:=y.nm }) _ _ _ _ _ _ _ _ _ _ _ _ _ _ (y.ns) ([.rd _ _ 1 (sv (y.ns)),.rd _ _ 1 (sv y.nm)]) Q2 (fun zz w hz hw=>?_);obtain⟨name,w1,rest,e1,e2,e3,e4⟩:=HSP.out;rw[show Qk (wAt ws 0)=true from HU.out,if_pos rfl] at e4;subst e1;refine Vk ⟨{ Xo (wAt (name::w1::rest) 0) 8 with names:=y.nm },none,0,y.A',y.c',none,0,y.ns,_,_,zz,[.rd _ _ 1 (sv (y.ns)),.rd _ _ 1 (sv y.nm)]⟩ ?_ QtC (fun w ha=>?_) hw
    ·rw[hz,e4];exact(by have h:=QwI e3 hj hpi;rw[h.2];exact h.1)
    ·exact⟨⟨Nat.le_refl _,hc3,Nat.le_refl _,QJ _ _,ha _ (List.mem_cons_of_mem _ List.mem_cons_self),QJ _ _⟩,ha _ List.mem_cons_self,hc⟩
   ·skip
    repeat(first|refine Q4 zM ?_|refine Q4 zF ?_|refine Q4 (zB 4) ?_|refine Q4 (zD 0) ?_|refine Q4 (zD 4) ?_|refine Q4 (Qg (f:=123) rfl rfl Q1 rfl rfl (fun w hw=>X2 w)) ?_|refine Q4 (Qg (f:=124) rfl rfl Q1 rfl rfl (fun w hw=>X8 w)) ?_|refine Q4 (Qg (f:=125) rfl rfl Q1 rfl rfl (fun w hw=>Xj w)) ?_|refine Q4 (Qg (f:=126) rfl rfl Q1 rfl rfl (fun w hw=>QY w)) ?_|refine Q4 (Qg (f:=127) rfl rfl Q1 rfl rfl (fun w hw=>Xv w)) ?_|refine Q4 (Qg (f:=138) rfl rfl Q1 rfl rfl (fun w hw=>X6 w)) ?_|refine yS 4 ?_|(refine Qd (QC _ _ _ (f:=135) rfl rfl rfl (fun w hw=>Ke HG.out HALL.out HN.out Qx Q2 Q2 hw)) rfl Q1 (fun y hy=>?_);obtain⟨hk,hq⟩:=hy)|(refine Qd (QC _ _ _ (f:=131) rfl rfl rfl (fun w hw=>Vp HN.out Qx Q2 Q2 hw)) rfl Q1 (fun y hy=>?_);obtain⟨hk,hq⟩:=hy)|refine Qd (QC _ _ _ (f:=137) rfl rfl rfl (fun w hw=>Q2Z (Q0T HALL.out _) Qn hw)) rfl Q1 (fun z _=>?_)|refine Qc ?_|refine Qa ?_|refine Q6 ?_|refine Qp ?_|refine Q8 rfl ?_|refine Q7 rfl ?_|refine Q4 zef ?_)
    refine YU (E':=[(2,.pointer (some ⟨g2,0,none⟩)),(5,.pointer (some ⟨br,0,none⟩)),(6,.pointer (some ⟨g6,0,none⟩))]) (.cons rfl rfl (.cons rfl rfl (.cons rfl rfl .nil))) ?_;refine Zz (fun w hw=>(row_rd (hw.own 2 _ rfl) Q1).2) (fun hc=>?_);refine Q3l (fun w hw=>(hw.toRd (i:=2) rfl Q1).to6) ?_;refine key ({ Xo (wAt ws 0) 9 with stop:=Xx (wAt ws 2) }) _ _ _ _ _ _ _ _ _ _ _ _ _ _ ([]++[wAt ws _]) ([.rd _ _ 1 (sv ([]++[wAt ws _]))]) Q2 (fun zz w hz hw=>?_);obtain⟨name,w1,rest,e1,e2,e3,e4⟩:=HSP.out;rw[show Qk (wAt ws 0)=true from HU.out,if_pos rfl] at e4;subst e1;refine Vk ⟨{ Xo (wAt (name::w1::rest) 0) 9 with stop:=Xx (wAt (name::w1::rest) 2) },none,0,none,0,none,0,[]++[wAt (name::w1::rest) _],_,_,zz,[.rd _ _ 1 (sv ([]++[wAt (name::w1::rest) _]))]⟩ ?_ Qav (fun w ha=>?_) hw
    ·rw[hz,e4];exact QwD e3 Qx Qx rfl
    ·exact⟨⟨Nat.le_refl _,Nat.le_refl _,Nat.le_refl _,QJ _ _,QJ _ _,QJ _ _⟩,ha _ List.mem_cons_self,hc⟩
   ·skip
    repeat(first|refine Q4 zM ?_|refine Q4 zF ?_|refine Q4 (zB 4) ?_|refine Q4 (zD 0) ?_|refine Q4 (zD 4) ?_|refine Q4 (Qg (f:=123) rfl rfl Q1 rfl rfl (fun w hw=>X2 w)) ?_|refine Q4 (Qg (f:=124) rfl rfl Q1 rfl rfl (fun w hw=>X8 w)) ?_|refine Q4 (Qg (f:=125) rfl rfl Q1 rfl rfl (fun w hw=>Xj w)) ?_|refine Q4 (Qg (f:=126) rfl rfl Q1 rfl rfl (fun w hw=>QY w)) ?_|refine Q4 (Qg (f:=127) rfl rfl Q1 rfl rfl (fun w hw=>Xv w)) ?_|refine Q4 (Qg (f:=138) rfl rfl Q1 rfl rfl (fun w hw=>X6 w)) ?_|(refine Qd (QC _ _ _ (f:=131) rfl rfl rfl (fun w hw=>Vp HN.out Qx Q2 Q2 hw)) rfl Q1 (fun y hy=>?_);obtain⟨hk,hq⟩:=hy)|refine Qd (QC _ _ _ (f:=137) rfl rfl rfl (fun w hw=>Q2Z (Q0T HALL.out _) Qn hw)) rfl Q1 (fun z _=>?_)|refine Qc ?_|refine Qa ?_|refine Q6 ?_|refine Qp ?_|refine Q8 rfl ?_|refine Q7 rfl ?_|refine Q4 zef ?_)
    refine YU (E':=[(2,.pointer (some ⟨g2,0,none⟩)),(5,.pointer (some ⟨br,0,none⟩)),(6,.pointer (some ⟨g6,0,none⟩))]) (.cons rfl rfl (.cons rfl rfl (.cons rfl rfl .nil))) ?_;refine Zz (fun w hw=>(row_rd (hw.own 2 _ rfl) Q1).2) (fun hc=>?_);refine Q3l (fun w hw=>(hw.toRd (i:=2) rfl Q1).to6) ?_;refine key (Xo (wAt ws 0) 10) _ _ _ _ _ _ _ _ _ _ _ _ _ _ ([]++[wAt ws 2]) ([.rd _ _ 1 (sv ([]++[wAt ws 2]))]) Q2 (fun zz w hz hw=>?_);obtain⟨name,w1,rest,e1,e2,e3,e4⟩:=HSP.out;rw[show Qk (wAt ws 0)=true from HU.out,if_pos rfl] at e4;subst e1;refine Vk ⟨Xo (wAt (name::w1::rest) 0) 10,none,0,none,0,none,0,[]++[wAt (name::w1::rest) 2],_,_,zz,[.rd _ _ 1 (sv ([]++[wAt (name::w1::rest) 2]))]⟩ ?_ Qav (fun w ha=>?_) hw
    ·rw[hz,e4];exact QuG e3 Qx rfl
    ·exact⟨⟨Nat.le_refl _,Nat.le_refl _,Nat.le_refl _,QJ _ _,QJ _ _,QJ _ _⟩,ha _ List.mem_cons_self,hc⟩
  case tail=>
   intro x A1 A2 A3 n1 n2 n3 c1 c2 c3 B k q c A ns ats hkN hfin;cases B with
   |true=>
    refine Xw [.blk br (.cells [.slice (some ⟨bw,q,none⟩) (N - k) (N - k),.bool true,.slice A ns.length c].toArray 155 (0,0)),.blk g6 (.cells (ruC x (.slice A1 n1 c1) (.slice A2 n2 c2) (.slice A3 n3 c3)).toArray 65 (0,0))] [] Q5 ?_;refine Qi 0 rfl Q5 (Qe.sel [0,1] Q1 rfl) (zD 1) ?_;refine Qi 1 rfl Q5 (Qe.sel [0,1] Q1 rfl) zM ?_;refine Qi 2 rfl Q5 (Qe.sel [0,1] Q1 rfl) (ZO rfl rfl Q1 rfl rfl) ?_;refine Qi 3 rfl Q5 (Qe.sel [0,1] Q1 rfl) zF ?_;refine Qi 4 rfl Q5 (Qe.sel [0,1] Q1 rfl) (zB 0) ?_;refine Qi 5 rfl Q5 (Qe.sel [0,1] Q1 rfl) zM ?_;refine Qi 6 rfl Q5 (Qe.sel [0,1] Q1 rfl) (ZO rfl rfl Q1 rfl rfl) ?_;refine Qi 7 rfl Q5 (Qe.sel [0,1] Q1 rfl) zF ?_;refine Qi 8 rfl Q5 (Qe.sel [0,1] Q1 rfl) (zB 0) ?_;refine Qi 9 rfl Q5 (Qe.sel [0,1] Q1 rfl) zO ?_;refine Qi 10 rfl Q5 (Qe.sel [0,1] Q1 rfl) zM ?_;refine Qi 11 rfl Q5 (Qe.sel [0,1] Q1 rfl) zS ?_;refine Qi 12 rfl Q5 (Qe.sel [0,1] Q1 rfl) zS ?_;refine Qi 13 rfl Q5 (Qe.sel [0,1] Q1 rfl) zS ?_;refine Qi 14 rfl Q5 (Qe.sel [0,1] Q1 rfl) zS ?_;refine Qi 15 rfl Q5 (Qe.sel [0,1] Q1 rfl) zS ?_;refine Qi 16 rfl Q5 (Qe.sel [0,1] Q1 rfl) zS ?_;refine Qi 17 rfl Q5 (Qe.sel [0,1] Q1 rfl) zN ?_;refine QB 18 Q5 rfl rfl (QS 2 rfl rfl rfl rfl rfl rfl rfl Qn) (fun _=>.inr (Qe.sel [0,1] Q1 rfl)) rfl (fun _ _=>?_);rw[Qq (by rfl)];refine Qi 19 rfl Q5 (Qe.sel [0,1] Q1 rfl) zA ?_;refine Qi 20 rfl Q5 (Qe.sel [0,1] Q1 rfl) zA ?_;refine Xi ?_ Q5;refine yt ?_;refine Q3c (by exact .inr rfl) rfl (RsV.blk 2 rfl rfl rfl) (.tmp rfl) (.tmp rfl) (fun w hw=>hfin _ w rfl hw.tail.tail.tail)
   |false=>
    obtain⟨zz,hzz⟩:∃zz,(((N - k:Nat):Int)==0)=zz:=⟨_,rfl⟩;refine Xw [.blk br (.cells [.slice (some ⟨bw,q,none⟩) (N - k) (N - k),.bool false,.slice A ns.length c].toArray 155 (0,0)),.blk g6 (.cells (ruC x (.slice A1 n1 c1) (.slice A2 n2 c2) (.slice A3 n3 c3)).toArray 65 (0,0))] [] Q5 ?_;refine Qi 0 rfl Q5 (Qe.sel [0,1] Q1 rfl) (zD 1) ?_;refine Qi 1 rfl Q5 (Qe.sel [0,1] Q1 rfl) zM ?_;refine Qi 2 rfl Q5 (Qe.sel [0,1] Q1 rfl) (ZO rfl rfl Q1 rfl rfl) ?_;refine Qi 3 rfl Q5 (Qe.sel [0,1] Q1 rfl) zF ?_;refine Qi 4 rfl Q5 (Qe.sel [0,1] Q1 rfl) (zB 0) ?_;refine Qi 5 rfl Q5 (Qe.sel [0,1] Q1 rfl) zM ?_;refine Qi 6 rfl Q5 (Qe.sel [0,1] Q1 rfl) (ZO rfl rfl Q1 rfl rfl) ?_;refine Qi 7 rfl Q5 (Qe.sel [0,1] Q1 rfl) zF ?_;refine Qi 8 rfl Q5 (Qe.sel [0,1] Q1 rfl) (zB 0) ?_;refine Qi 9 rfl Q5 (Qe.sel [0,1] Q1 rfl) zO ?_;refine Qi 10 rfl Q5 (Qe.sel [0,1] Q1 rfl) zM ?_;refine Qi 11 rfl Q5 (Qe.sel [0,1] Q1 rfl) zM ?_;refine Qi 12 rfl Q5 (Qe.sel [0,1] Q1 rfl) (ZO rfl rfl Q1 rfl rfl) ?_;refine Qi 13 rfl Q5 (Qe.sel [0,1] Q1 rfl) zF ?_;refine Qi 14 rfl Q5 (Qe.sel [0,1] Q1 rfl) (zB 0) ?_;refine Qi 15 rfl Q5 (Qe.sel [0,1] Q1 rfl) zL ?_;refine Qi 16 rfl Q5 (Qe.sel [0,1] Q1 rfl) zea ?_;refine Qi 17 rfl Q5 (Qe.sel [0,1] Q1 rfl) zY ?_;refine QB 18 Q5 rfl rfl (QS 2 rfl rfl rfl rfl rfl rfl rfl Qn) (fun _=>.inr (Qe.sel [0,1] Q1 rfl)) rfl (fun _ _=>?_);rw[Qq (by rfl)];refine Qi 19 rfl Q5 (Qe.sel [0,1] Q1 rfl) zA ?_;refine Qi 20 rfl Q5 (Qe.sel [0,1] Q1 rfl) zA ?_;refine Xi ?_ Q5;refine yt ?_;refine Q3c (by exact .inr rfl) rfl (RsV.blk 2 rfl rfl rfl) (.tmp rfl) (.tmp rfl) (fun w hw=>hfin _ w (by rw[<- hzz];rfl) hw.tail.tail.tail)
end
end
end Go.Proofs.YtphkhfdmlcnoeaaGreatDoor
