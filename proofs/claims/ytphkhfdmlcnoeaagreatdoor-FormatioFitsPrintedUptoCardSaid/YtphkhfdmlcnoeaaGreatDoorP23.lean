import Derived.Test.YtphkhfdmlcnoeaaGreatDoorP21
import Derived.Test.YtphkhfdmlcnoeaaGreatDoorP22
import Derived.Test.YtphkhfdmlcnoeaaGreatDoorP26
namespace Go.Proofs.YtphkhfdmlcnoeaaGreatDoor
set_option linter.unusedVariables false
set_option linter.unusedSimpArgs false
set_option maxRecDepth 1000000
set_option maxHeartbeats 32000000
open Go.RowKit
section
variable {g:Nat}
theorem QaV{z:Wz}{B:Nat}{F:List Rl}(hv:Fm F):∀(d:Nd) (p:VF),WvC z B g F d p:=
 VF.all_each fun d p hall hn0 hg hnd hf hl W A c xs n k v hk h hval hsz hno=>by
  have hr:=(hv.toUsd.rok hk).kind;cases hfit:Xm F (Qg F k) d p with
  |false=>exact Qub hv hk h hval hnd.2.1 hnd.2.2.1 hn0 hl hsz hno hfit
  |true=>
   by_cases h1:(Qg F k).kind=1
   ·exact QwD hv hk h hval hnd.2.1 hnd.2.2.1 hn0 hl hsz hno hfit h1
   by_cases h2:(Qg F k).kind=2
   ·exact Qwy hv hk h hval hnd.2.1 hnd.2.2.1 hn0 hl hsz hno hfit h2
   by_cases h3:(Qg F k).kind=3
   ·exact Qwp hv hk h hval hnd.2.1 hnd.2.2.1 hn0 hl hsz hno hfit h3
   by_cases h4:(Qg F k).kind=4
   ·exact QwC hv hk h hval hnd.2.1 hnd.2.2.1 hn0 hl hsz hno hfit h4
   by_cases h5:(Qg F k).kind=5
   ·exact Qwn hv hk h hval hnd.2.1 hnd.2.2.1 hn0 hl hsz hno hfit h5
   by_cases h6:(Qg F k).kind=6
   ·exact Qwt hall hg hf hv hk h hval hnd.2.1 hnd.2.2.1 hn0 hl hsz hno hfit h6
   by_cases h7:(Qg F k).kind=7
   ·exact Qwf hall hg hf hv hk h hval hnd.2.1 hnd.2.2.1 hn0 hl hsz hno hfit h7
   by_cases h8:(Qg F k).kind=8
   ·exact Qwo hall hg hf hv hk h hval hnd.2.1 hnd.2.2.1 hn0 hl hsz hno hfit h8
   by_cases h9:(Qg F k).kind=9
   ·exact Qww hall hg hf hv hk h hval hnd.2.1 hnd.2.2.1 hn0 hl hsz hno hfit h9
   exact Qvv hv hk h hval hnd.2.1 hnd.2.2.1 hn0 hl hsz hno hfit Q3
theorem Q69:∀(l:VF),XU l->QU l<=l.cnt*1048876
 |.nil,_=>by simp [QU]
 |.cons d p r,h=>by
  have a:=Q69 p h.2.2.1;have b:=Q69 r h.2.2.2;have c:=h.1.2.1
  simp only[QU,VF.cnt];omega
theorem QeK{d:Nd}{l:VF}(h:Sz d l)(hv:XN d l=(0,0)):QH d l<=1000000000:=by
 unfold XN at hv;cases hc:Xe (.cons d l .nil) 0 1 with
 |inl f=>
  obtain⟨c,i⟩:=f;rw[hc] at hv;simp only at hv;have:=VV _ _ _ _ _ hc;rw[Prod.mk.injEq] at hv;exact absurd hv.1 this
 |inr m=>
  have a:=Q11 _ _ _ _ hc;have b:=QcC _ _ _ _ hc;simp only[VF.cnt] at b;have g:l.cnt<=600:=by have:=a.2 Q3;omega
  have e:=Q69 l h.2.1;have f:=h.1.2.1;unfold QH;omega
theorem QaK(g h:Nat)(w:World):
  CallsD Tryz.prog 44 #[.pointer (some ⟨g,0,none⟩),.pointer (some ⟨h,0,none⟩)] .returning w fun e u' w'=>e=.returned (.tuple #[])/\u'=.returning/\w'=w:=by
 refine callsD_of_wpS Tryz.func44 rfl fun c₀ cs hu=>?_;apply wpS_seq;apply wpS_region;simp [wpOpsS,go_sem,recoverD,hu,Tryz.ntmps44,Exit.thenS];refine QgW ?_;go_wp2_with fail
 cases c₀
 simp_all [bodyPostS,results,Tryz.results44]
theorem Q7Y{k:Nat}{c x:Int}{M:List Nat}{W w:World}{O:List Qb}{a0 r0 r1:Value}(hw:Wd M W (.blk g (.cells ([a0]:List Value).toArray 25 (0,0))::.blk k (.cells ([r0,r1]:List Value).toArray 32 (0,0))::O) w):
  CallsD Tryz.prog 44 #[.pointer (some ⟨g,0,none⟩),.pointer (some ⟨k,0,none⟩)] (.panicking (JM c x)) w fun e u' w'=>
   e=.returned (.tuple #[])/\u'=.panicking [{ v:=.iface 32 (.agg #[.int .i64 c,.int .i64 x]),recovered:=true }]/\Wd M W (.blk g (.cells ([.slice none 0 0]:List Value).toArray 25 (0,0))::.blk k (.cells ([.int .i64 c,.int .i64 x]:List Value).toArray 32 (0,0))::O) w':=by
 refine callsD_of_wpS Tryz.func44 rfl fun c₀ cs hu=>?_;apply wpS_seq;apply wpS_region;unfold JM at hu;simp [wpOpsS,go_sem,recoverD,hu,Tryz.ntmps44,Exit.thenS];refine QgW ?_;have hta:∀W:World,(Instr.typeAssert (.iface 32 (.agg #[.int .i64 c,.int .i64 x])) 20 32 true).run Tryz.prog W=.ok (.tuple #[.agg #[.int .i64 c,.int .i64 x],.bool true]) W:=QaZ
 have heq:∀W:World,(binOp .eql 20 (.iface 32 (.agg #[.int .i64 c,.int .i64 x])) .nilIface).run Tryz.prog W=.ok (.bool false) W:=QaZ
 have hui:Tryz.prog.underlying 20=some (.interface (Tryz.prog.methodsAt 20)):=by kernel_rfl
 refine Qs (M:=M) (W:=W) (N:=12) (E:=Qtk) (O:=.blk g (.cells ([a0]:List Value).toArray 25 (0,0))::.blk k (.cells ([r0,r1]:List Value).toArray 32 (0,0))::O) ?_ Z0 hw;refine QsO ?_;refine yA fun b3=>?_;refine QrT ?_;refine Qn 0 rfl Q5 Q7t (zD 0) ?_;refine QI 1 Q5 rfl rfl QgK KP rfl (fun _ _=>?_);refine QI 2 Q5 rfl rfl QbY KP rfl (fun _ _=>?_);rw[QF (by rfl)];refine Xu ?_ Q5;refine yd ?_;intro a w' ha hw';exact⟨ha.df,_,rfl,.tuple #[],by simp [results,Tryz.results44],rfl,rfl,hw'.tl⟩
end
section
variable {A:Option Addr}{b:List UInt8}{n:Nat}{v:Value}
def QbX(F:List Rl)(d:Nd)(l:VF)(W:World)(e:Ending)(w':World):Prop:=∃A c,e=.returned (.tuple #[.slice A (JN F d l).1.length c,.agg #[.int .i64 (JN F d l).2.1,.int .i64 (JN F d l).2.2]])/\New [.rd A (JN F d l).1.length 1 (bv (JN F d l).1)] W.heap.size w'/\(JN F d l).1.length<=c/\c<=maxLen/\Below W.heap.size W w'
section
variable {F:List Rl}{d:Nd}{l:VF}{W w:World}{c x:Int}
theorem Q5y(h:JN F d l=([],(c,x)))(hb:Below W.heap.size W w):QbX F d l W (.returned (.tuple #[.slice none 0 0,.agg #[.int .i64 c,.int .i64 x]])) w:=by
 refine⟨none,0,by rw[h];rfl,?_,by rw[h];exact Nat.le_refl _,Nat.zero_le _,hb⟩;rw[h];exact Yr (ZI _ _ _) (fun b hb=>by cases hb)
theorem Qpg(h:Qy F≠(0,0)):JN F d l=([],Qy F):=by unfold JN;rw[if_pos h]
theorem QqA(h:Qy F=(0,0))(h1:XN d l≠(0,0)):JN F d l=([],XN d l):=by unfold JN;rw[if_neg (by simp [h]),if_pos h1]
theorem QqL(h:Qy F=(0,0))(h1:XN d l=(0,0))(h2:QD F 0 d l 0=.error n):JN F d l=([],(13,(n:Int))):=by
 unfold JN;rw[if_neg (by simp [h]),if_neg (by simp [h1]),Ki,h2]
theorem QoG(h:Qy F=(0,0))(h1:XN d l=(0,0))(h2:QD F 0 d l 0=.ok (b,n))(h3:1000<b.length):JN F d l=([],(14,-2)):=by
 unfold JN;rw[if_neg (by simp [h]),if_neg (by simp [h1]),Ki,h2];simp only;rw[if_pos h3]
theorem Q8H(h:Qy F=(0,0))(h1:XN d l=(0,0))(h2:QD F 0 d l 0=.ok (b,n))(h3:¬1000<b.length):JN F d l=(b,(0,0)):=by
 unfold JN;rw[if_neg (by simp [h]),if_neg (by simp [h1]),Ki,h2];simp only;rw[if_neg h3]
theorem Q5z{a b:Int}(h:(a,b)≠(0,0)):(!(a==0&&b==0))=true:=by
 refine Q99 ?_;by_cases h0:a=0
 ·exact .inr fun h1=>h (by rw[h0,h1])
 ·exact .inl h0
end
theorem Qmw{W w:World}{O:List Qb}{c s:Nat}{t:TypeId}{xs:List Value}(i:Nat)(hw:Wd [] W O w)(hO:O[i]? =some (.row A n c t s xs)):New [.rd A n s xs] W.heap.size w:=
 Yr (Rd.of_own Q9y) fun b hb=>by
  rcases Nat.lt_or_ge b W.heap.size with hl|hl
  ·have h1:b∈[]:=hw.new i _ b hO (Q5x Q9y hb) hl
   cases h1
  ·exact hl
theorem QcL{F:List Rl}{d:Nd}{l:VF}{c:Nat}{W:World}(hf:QX W W.heap.size A n F)(hs:FSm F)(hc:n<=c)(hg:GV W)(hv:VIn W W.heap.size v d l)(hz:Qy F≠(0,0)):
  Calls Tryz.prog 15 #[.agg #[.slice A n c],v] W (QbX F d l W):=by
 have HF:=Q2 hf;have HS:=Q2 hs;have HG:=Q2 hg;have HZ:=Q2 hz;obtain⟨⟨a,b⟩,hab⟩:∃p,Qy F=p:=⟨_,rfl⟩;have HAB:=Q2 hab;have hne:=Q5z (hab▸hz);obtain⟨sb,sn,sp,rfl,Abv,nb,cbv,Anv,nnv,cnv,Apv,cpv,rfl,rfl,rfl,_⟩:=hv;clear hf hs hg hz hab;go_enter_defers Tryz.func15,Tryz.ntmps15;refine Qs (M:=[]) (W:=W) (N:=40) (E:=[Vh,Qby]) (O:=[]) ?_ mc3 QV;refine yq<|yr ?_;refine yB fun b2=>?_;refine yB fun b3=>?_;refine yA fun b4=>?_;refine yA fun b5=>?_;refine yl<|yn<|yq<|yq<|yr<|yo (zD 3) ?_;refine Q4 Qou ?_;refine yA fun b6=>?_;refine QeO ?_;refine Q4 mc6 ?_;refine Q4 (Q71 rfl rfl Q1 rfl rfl rfl hne) ?_;refine yl<|yn<|y1<|yq ?_;refine Z7 [.blk b6 (.cells ([.int .i64 a,.int .i64 b]:List Value).toArray 32 (0,0))] [] Q5 ?_;refine Qn 0 rfl Q5 Q7t (zD 0) ?_;refine QI 1 Q5 rfl rfl Q36 KP rfl (fun _ _=>?_);refine QI 2 Q5 rfl rfl KH KP rfl (fun _ _=>?_);rw[QF (by rfl)];refine Xu ?_ Q5;refine yn<|yt<|yc ?_;exact Qhi (.inr rfl) (Jd (.inr rfl) rfl (RsV.cell1 rfl (fun w hw=>hw.cell_blkL 2 rfl rfl)) JY (fun w hw=>Q5y ((Qpg HZ.out).trans (by rw[HAB.out])) hw.k.below))
theorem Qaz{F:List Rl}{d:Nd}{l:VF}{c:Nat}{W:World}(hf:QX W W.heap.size A n F)(hs:FSm F)(hc:n<=c)(hg:GV W)(hv:VIn W W.heap.size v d l)(hsz:Sz d l)(hz:Qy F=(0,0))(hz2:XN d l≠(0,0)):
  Calls Tryz.prog 15 #[.agg #[.slice A n c],v] W (QbX F d l W):=by
 have HF:=Q2 hf;have HS:=Q2 hs;have HG:=Q2 hg;have HZ:=Q2 hz;have HZ2:=Q2 hz2;have HSZ:=Q2 hsz;have HV:=Q2 hv;obtain⟨⟨a,b⟩,hab⟩:∃p,XN d l=p:=⟨_,rfl⟩;have HAB:=Q2 hab;have hne2:=Q5z (hab▸hz2);obtain⟨sb,sn,sp,rfl,Abv,nb,cbv,Anv,nnv,cnv,Apv,cpv,rfl,rfl,rfl,_⟩:=hv;clear hf hs hg hz hab hz2 hsz;go_enter_defers Tryz.func15,Tryz.ntmps15;refine Qs (M:=[]) (W:=W) (N:=40) (E:=[Vh,Qby]) (O:=[]) ?_ mc3 QV;refine yq<|yr ?_;refine yB fun b2=>?_;refine yB fun b3=>?_;refine yA fun b4=>?_;refine yA fun b5=>?_;refine yl<|yn<|yq<|yq<|yr<|yo (zD 3) ?_;refine Q4 QhP ?_;refine yA fun b6=>?_;refine KG ?_;have hne:(!((0:Int)==0&&(0:Int)==0))=false:=rfl;refine Q5H ?_;refine yl<|yn<|y0<|ys<|yn<|yq<|yq<|yr<|yo (zD 3) ?_;refine Q4 (Qj rfl rfl Q1 rfl rfl (fun w hw=>(Yy HSZ.out Q9b).mono (fun e w' h=>by rw[HAB.out] at h;exact h))) ?_;refine yA fun b7=>?_;refine QeO ?_;refine Qsn ?_;refine QI 1 Q5 rfl rfl Qho KP rfl (fun _ _=>?_);refine QI 2 Q5 rfl rfl QbY KP rfl (fun _ _=>?_);rw[QF (by rfl)];refine Xu ?_ Q5;refine yn<|yt<|yc ?_;exact Qhi (.inr rfl) (Jd (.inr rfl) rfl (RsV.cell1 rfl (fun w hw=>hw.cell_blkL 3 rfl rfl)) Q3i (fun w hw=>Q5y ((QqA HZ.out HZ2.out).trans (by rw[HAB.out])) hw.k.below))
section
variable {W w w':World}{O:List Qb}{g b4 b5 N:Nat}{E:Env}{R:Ending->World->Prop}{e:Exit}
abbrev prD(b4 b5:Nat):List Deferred:=[{ target:=.fn (.func 44) #[.pointer (some ⟨b4,0,none⟩),.pointer (some ⟨b5,0,none⟩)],args:=#[] }]
theorem QjX[dq:DQ]{u:Value}(hdq:dq.D=prD b4 b5)(he:e=.normal\/e=.ret)(h4:RsV Tryz.prog (Wd [] W O) E (.cell 4 25) v)(h5:RsV Tryz.prog (Wd [] W O) E (.cell 5 32) u)(hR:∀w,Wd [] W O w->R (.returned (.tuple #[v,u])) w):xE (bodyPostD Tryz.prog Tryz.f15 R) N [] W E O e:=fun a w ha hw=>by
 have h:Leaves Tryz.prog Tryz.f15 a.tmps R a.defers .returning w:=by
  rw[ha.df,hdq];refine leaves_cons (f:=44) (args:=Qgl) Ql (by simp [go_sem]) ?_;refine(QaK _ _ _).mono ?_;exact QtC
 rcases he with rfl|rfl<;>exact h
theorem Qv2[dq:DQ]{a:Act}{c x:Int}{ch:List PanicEntry}{a0 r0 r1:Value}(hdq:dq.D=prD b4 b5)(hch:ch=JM c x)(h4:E.lookup 4=some (.pointer (some ⟨b4,0,none⟩)))(h5:E.lookup 5=some (.pointer (some ⟨b5,0,none⟩)))(ha:Ag N E a)(hw:Wd [] W (.blk b4 (.cells ([a0]:List Value).toArray 25 (0,0))::.blk b5 (.cells ([r0,r1]:List Value).toArray 32 (0,0))::O) w)
  (hR:∀w,Below W.heap.size W w->R (.returned (.tuple #[.slice none 0 0,.agg #[.int .i64 c,.int .i64 x]])) w):bodyPostD Tryz.prog Tryz.f15 R (.panic ch) a w:=by
 subst hch;show Leaves Tryz.prog Tryz.f15 a.tmps R a.defers (.panicking (JM c x)) w;rw[ha.df,hdq];refine leaves_cons (f:=44) (args:=Qgl) Ql (by simp [go_sem]) ?_;refine(Q7Y hw).mono ?_;rintro e' u' w8 ⟨rfl,rfl,hw8⟩;exact⟨_,Qqy rfl (VW ha hw8 (RsV.cell1 h4 (fun w hw=>hw.cell_blkL 0 rfl rfl))) (VW ha hw8 (RsV.blk 1 h5 rfl rfl)),hR _ hw8.k.below⟩
theorem QuG{z:Wz}{res:Wtg}{cost:Nat}{e:Ending}(hw:Wd [] W (.blk g (z.obj none 0 0 0)::O) w)(h:WrE z g w none 0 [] res 0 cost e w'):Zu (fun y:Wy=>.tuple #[]) (fun y=>res=.ok (y.b,y.m)) [] W (fun y=>Kt y.A y.c y.b::.blk g (z.obj y.A y.b.length y.c y.m)::O) (fun ch w'=>∃x:Nat,res=.error x/\ch=JM 13 x/\Wd [] W O w') e w':=by
 obtain⟨hk,⟨x,h1,h2⟩|⟨b,m',A',c',h1,h2,h3,h4,h5,h6,h7⟩⟩:=h
 ·exact .inr ⟨_,h2,x,h1,rfl,hw.lost hk⟩
 ·refine .inl ⟨⟨b,m',A',c'⟩,h2,h1,?_⟩;have hw2:=hw.row 5 1
  have:=hw2.upd2 (i:=1) (j:=0) (x:=.blk g (z.obj none 0 0 0)) (y:=.row none 0 0 5 1 []) (x':=.blk g (z.obj A' (([]:List UInt8)++b).length c' m')) (y':=Kt A' c' (([]:List UInt8)++b)) Q1 rfl rfl rfl rfl rfl rfl hk (fun q hq=>by
   have:q=g:=by simpa [wM,Value.ownBlock] using hq
   subst this
   exact .inl rfl) h5 h6 (fun _ h=>h) (fun q hq=>by
   rcases h7 q hq with h8|h8
   ·cases h8
   ·exact .inr h8)
  exact this
end
theorem QeD{F:List Rl}{d:Nd}{l:VF}{c:Nat}{W:World}(hf:QX W W.heap.size A n F)(hs:FSm F)(hc:n<=c)(hg:GV W)(hv:VIn W W.heap.size v d l)(hsz:Sz d l)(hz:Qy F=(0,0))(hz2:XN d l=(0,0)):
  Calls Tryz.prog 15 #[.agg #[.slice A n c],v] W (QbX F d l W):=by
 have HF:=Q2 hf;have HS:=Q2 hs;have HG:=Q2 hg;have HZ:=Q2 hz;have HZ2:=Q2 hz2;have HSZ:=Q2 hsz;have HV:=Q2 hv;have HFM:=Q2 (Qdc hz);have HK:=Q2 (show 0<=(0:Int)/\(0:Int)<F.length by have:=HFM.out.len;omega);have HGD:=Q2 (Qjp hz2);have hcost:=QeK hsz hz2;obtain⟨sb,sn,sp,rfl,Abv,nb,cbv,Anv,nnv,cnv,Apv,cpv,rfl,rfl,rfl,_⟩:=hv;clear hf hs hg hz hz2 hsz;go_enter_defers Tryz.func15,Tryz.ntmps15;refine Qs (M:=[]) (W:=W) (N:=40) (E:=[Vh,Qby]) (O:=[]) ?_ mc3 QV;refine yq<|yr ?_;refine yB fun b2=>?_;refine yB fun b3=>?_;refine yA fun b4=>?_;refine yA fun b5=>?_;refine yl<|yn<|yq<|yq<|yr<|yo (zD 3) ?_;refine Q4 QhP ?_;refine yA fun b6=>?_;refine KG ?_;have hne:(!((0:Int)==0&&(0:Int)==0))=false:=rfl;refine Q5H ?_;refine yl<|yn<|y0<|ys<|yn<|yq<|yq<|yr<|yo (zD 3) ?_;refine Q4 (Qj rfl rfl Q1 rfl rfl (fun w hw=>(Yy HSZ.out Q9b).mono (fun e w' h=>by rw[HZ2.out] at h;exact h))) ?_;refine yA fun b7=>?_;refine QeO ?_;refine Q4 mc6 ?_;refine Q4 Qgg ?_;refine yl<|yn<|y0<|ys<|yn<|yq<|yr<|yo zu ?_;refine Qgm rfl rfl rfl rfl (fun dq' hdq=>?_);refine yl ?_;replace hdq:dq'.D=prD b4 b5:=hdq;refine yn<|yq<|yr<|yo (zD 5) ?_;refine Q4 (ZW (xs:=[(0,.tmp 22)]) (vs:=[Vh]) (v:=.agg #[.slice A n c,.slice none 0 0,.int .i64 0]) rfl rfl Q1 rfl rfl Q7I) ?_;refine Qc (Qki (cs:=[.slice A n c,.slice none 0 0,.int .i64 0]) rfl rfl rfl rfl) rfl Q1 (fun g hg=>?_);have hg1:=hg.1;clear hg;refine yo zA<|yl<|yn<|yq<|yr<|yo zM<|yo (zD 5) ?_;refine QfJ (Xp _ _ _ rfl rfl rfl (fun w hw=>(QaV (z:=⟨A,n,c⟩) (B:=g) (g:=g) HFM.out d l HGD.out.1 HGD.out.2 HSZ.out.1 HSZ.out.2.1 HSZ.out.2.2 w none 0 [] 0 0 _ HK.out ⟨(HF.out.below hw.k.below).more hg1,Nat.le_refl _,hw.own 0 _ rfl,World.ownsRow_nil _ _ _ _,(fun b hb=>by cases hb),hc,fun w' hb=>HG.out.on (hw.k.below.trans (hb.mono hg1))⟩ ((HV.out.below hw.k.below Xk).keep (fun _ _=>rfl) hg1) (by show 0+QH d l<=_;omega) Q3).mono (fun e w' h=>QuG hw h))) rfl Q1 (fun a ch w ha ⟨x,h1,h2,h3⟩=>Qv2 hdq h2 rfl rfl ha (h3.sel [3,2] Q1) (fun w2 hb=>Q5y (QqL HZ.out HZ2.out h1) hb)) (fun y hy=>?_);refine yl ?_;have HY:=Q2 hy;clear hy;by_cases hlong:1000<y.b.length
 ·have hl2:1000<(y.b.length:Int):=by omega
  refine QfV ?_;refine yo zF<|yo (zB 1)<|yo zL<|yo zgt<|yl<|yn<|y1<|yq<|yr ?_;refine Q4 Qhd ?_;refine yS 5 ?_;refine yW 4 ?_;refine yl<|yn<|yt<|yc ?_;exact QjX hdq mc4 Qnr (RsV.blk 4 rfl rfl rfl) (fun w hw=>Q5y (QoG HZ.out HZ2.out HY.out hlong) hw.k.below)
 ·have hl2:¬1000<(y.b.length:Int):=by omega
  refine QfV ?_;refine yo zF<|yo (zB 1)<|yo zL<|yo zgf<|yl<|yn<|y0<|ys<|yn<|yq<|yr<|yo zM ?_;refine Q4 Qkr ?_;refine yo zF<|yo (zB 1) ?_;refine Q4 mc6 ?_;refine yS 5 ?_;refine yW 4 ?_;refine yl<|yn<|yt ?_;have hfine:=Q8H HZ.out HZ2.out HY.out hlong;exact QjX hdq mc4 Qnr (RsV.blk 4 rfl rfl rfl) (fun w hw=>⟨y.A,y.c,by rw[hfine],by rw[hfine];exact Qmw 0 hw rfl,by rw[hfine];exact(JB 0 hw rfl).1,(JB 0 hw rfl).2,hw.k.below⟩)
theorem Qaf{F:List Rl}{d:Nd}{l:VF}{c:Nat}{W:World}(hf:QX W W.heap.size A n F)(hs:FSm F)(hc:n<=c)(hg:GV W)(hv:VIn W W.heap.size v d l)(hsz:Sz d l):
  Calls Tryz.prog 15 #[.agg #[.slice A n c],v] W (QbX F d l W):=by
 by_cases hz:Qy F=(0,0)
 ·by_cases hz2:XN d l=(0,0)
  ·exact QeD hf hs hc hg hv hsz hz hz2
  ·exact Qaz hf hs hc hg hv hsz hz hz2
 ·exact QcL hf hs hc hg hv hz
end
section
variable {A B Z:List Value}
def ex0:Rl:={ Ql2 [108,105,115,116] 6 with count:=1,elem:=2 }
def ex1:Rl:={ Ql2 [110] 2 with size:=1,big:=true,mx:=255 }
def ex2:Rl:={ Ql2 [120] 2 with size:=2,mx:=65535 }
def exF:List Rl:=[ex0,ex1,ex2]
theorem Qkt:Xf exF=(0,0):=by kernel_rfl
theorem Qqi:decide ((YT exF).length<=2000)=true:=by kernel_rfl
theorem Qbc:Qy exF=(0,0):=by
 unfold Qy;rw[Qkt,if_neg (fun hh=>hh rfl),if_neg (by have:=of_decide_eq_true Qqi;omega)]
theorem Qgo:FSm exF:=by
 refine⟨by decide,fun r hr=>?_⟩;have:r=ex0\/r=ex1\/r=ex2:=by simpa [exF] using hr
 rcases this with rfl|rfl|rfl<;>exact⟨by decide,by decide,by decide,by decide,fun s hs=>by cases hs⟩
def exC(r:Rl):List Value:=ruC r (.slice none 0 0) (.slice none 0 0) (.slice none 0 0)
theorem Ke{A R:List Value}:∀(us:List Value) (A R:List Value),us.length<=R.length->Zq (A++R) A.length us=A++us++R.drop us.length
 |[],A,R,_=>by simp [Zq]
 |u::us,A,[],h=>by simp at h
 |u::us,A,x::R,h=>by
  rw[Zq,List.set_append_right _ _ (Nat.le_refl _),Nat.sub_self,List.set_cons_zero]
  have e:A++u::R=(A++[u])++R:=by simp
  have e2:A.length+1=(A++[u]).length:=by simp
  rw[e,e2,Ke (A:=[]) (R:=[]) us (A++[u]) R (by simpa using h)];simp
theorem Qkv(n:Nat)(hA:A.length=n)(hB:B.length=n)(hZ:Z.length=n+n):Zq (Zq Z 0 A) n B=A++B:=by
 have h1:=Ke (A:=[]) (R:=[]) A [] Z Q3;simp only[List.nil_append,List.length_nil] at h1;rw[h1];have h2:=Qtt;rw[hA] at h2 ⊢;rw[h2,List.drop_drop,List.drop_of_length_le Q3,List.append_nil]
theorem Qfn{C:List Value}(n:Nat)(hA:A.length=n)(hB:B.length=n)(hC:C.length=n)(hZ:Z.length=n+n+n):Zq (Zq (Zq Z 0 A) n B) (n+n) C=A++B++C:=by
 have h1:=Ke (A:=[]) (R:=[]) A [] Z Q3;simp only[List.nil_append,List.length_nil] at h1;rw[h1];have h2:=Qtt;rw[hA] at h2 ⊢;rw[h2,List.drop_drop];have h3:=Ke (A:=[]) (R:=[]) C (A++B) (Z.drop (n+B.length)) (by rw[List.length_drop];omega);rw[List.length_append,hA,hB] at h3;rw[hB,h3,List.drop_drop,List.drop_of_length_le Q3,List.append_nil]
theorem Quf(w:World):(Instr.buildSlice 22 3 #[(0,.agg (exC ex0).toArray),(1,.agg (exC ex1).toArray),(2,.agg (exC ex2).toArray)]).run Tryz.prog w=.ok (.slice (some ⟨w.heap.size,0,none⟩) 3 3) (w.alloc (.cells (exC ex0++exC ex1++exC ex2).toArray 65)):=by
 have hT:SlT Tryz.prog 22 65 12 152:=(inferInstance:Sl Tryz.prog 22 65 12 152).h;obtain⟨i,z,hi,hz,hsz,hby,hzs⟩:=hT.info;refine run_buildSlice w _ _ 3 _ (exC ex0++exC ex1++exC ex2).toArray i z hT.und hi hz Yv Yv ?_;rw[hsz];obtain⟨Z,hZ,hZl⟩:∃Z:List Value,(Array.range (3*12)).map (z.cells[·% z.cells.size]!)=Z.toArray/\Z.length=36:=QkL;rw[hZ];show Instr.fill (fun i=>some (i*12,12)) Z.toArray [(0,.agg (exC ex0).toArray),(1,.agg (exC ex1).toArray),(2,.agg (exC ex2).toArray)]=_;have hfin:Zq (Zq (Zq Z 0 (exC ex0)) 12 (exC ex1)) 24 (exC ex2)=exC ex0++exC ex1++exC ex2:=Qfn 12 rfl rfl rfl hZl;rw[Y1 (o:=0) (n:=12) (cs:=exC ex0) rfl rfl rfl Q3,Y1 (o:=12) (n:=12) (cs:=exC ex1) rfl rfl rfl (by rw[JI];omega),Y1 (o:=24) (n:=12) (cs:=exC ex2) rfl rfl rfl (by rw[JI,JI];omega),hfin,Q6m]
theorem Qgq{w:World}{A:Option Addr}(h:Rd w w.heap.size 12 A 3 (exC ex0++exC ex1++exC ex2)):QX w w.heap.size A 3 exF:=by
 refine⟨rfl,fun h0=>?_⟩;obtain⟨b,o,e,hb,hc⟩:=h.2 h0;have hsl:∀r:Rl,r.bs=[]->r.names=[]->r.parts=[]->Kj w w.heap.size r (.slice none 0 0) (.slice none 0 0) (.slice none 0 0):=fun r h1 h2 h3=>⟨none,0,0,none,0,0,none,0,0,rfl,rfl,rfl,Nat.le_refl _,Nat.le_refl _,Nat.le_refl _,by rw[h1];exact ZI _ _ _,by rw[h2];exact ZI _ _ _,by rw[h3];exact ZI _ _ _⟩;refine⟨b,o,e,hb,fun i r hr=>?_⟩;match i,hr with
 |0,hr=>cases hr;exact⟨_,_,_,⟨hc 0 _ rfl,hc 1 _ rfl,hc 2 _ rfl,hc 3 _ rfl,hc 4 _ rfl,hc 5 _ rfl,hc 6 _ rfl,hc 7 _ rfl,hc 8 _ rfl,hc 9 _ rfl,hc 10 _ rfl,hc 11 _ rfl⟩,hsl ex0 rfl rfl rfl⟩
 |1,hr=>cases hr;exact⟨_,_,_,⟨hc 12 _ rfl,hc 13 _ rfl,hc 14 _ rfl,hc 15 _ rfl,hc 16 _ rfl,hc 17 _ rfl,hc 18 _ rfl,hc 19 _ rfl,hc 20 _ rfl,hc 21 _ rfl,hc 22 _ rfl,hc 23 _ rfl⟩,hsl ex1 rfl rfl rfl⟩
 |2,hr=>cases hr;exact⟨_,_,_,⟨hc 24 _ rfl,hc 25 _ rfl,hc 26 _ rfl,hc 27 _ rfl,hc 28 _ rfl,hc 29 _ rfl,hc 30 _ rfl,hc 31 _ rfl,hc 32 _ rfl,hc 33 _ rfl,hc 34 _ rfl,hc 35 _ rfl⟩,hsl ex2 rfl rfl rfl⟩
 |n+3,hr=>cases hr
section
variable {W w:World}{O:List Qb}
theorem Wd.blkRd{b n s:Nat}{t:TypeId}{cs:List Value}(h:Wd [] W (.blk b (.cells cs.toArray t (0,0))::O) w)(hl:cs.length=n*s):Wd [] W (.rd (some ⟨b,0,none⟩) n s cs::O) w:=by
 have hft:∀q,(Qb.rd (some ⟨b,0,none⟩) n s cs).foot=some q->q=b:=fun q hq=>by
  simp only[Qb.foot] at hq;split at hq
  ·cases hq
  ·cases hq;rfl
 have hpp:=List.pairwise_cons.1 h.pairs;refine .of_pairs h.k ?_ ?_ (List.pairwise_cons.2 ⟨fun x hx q hq hq'=>?_,hpp.2⟩)
 ·intro x hx
  rcases List.mem_cons.1 hx with rfl|hx
  ·exact h.rd_blk 0 rfl hl
  ·exact h.onAll x Q1K
 ·intro x hx q hq hlt
  rcases List.mem_cons.1 hx with rfl|hx
  ·simp [Qb.w]
  ·exact h.newAll x Q1K q hq hlt
 ·have:=hft q hq;subst this;have:=hpp.1 x hx q rfl hq'
  exact Q2e
theorem QvN(hw:Wd [] W O w):Calls Tryz.prog 25 #[] w (Xo (fun b:Nat=>.agg #[.slice (some ⟨b,0,none⟩) 3 3]) (fun _=>True) [] W (fun b=>.rd (some ⟨b,0,none⟩) 3 12 (exC ex0++exC ex1++exC ex2)::O)):=by
 go_enter Tryz.func25,Tryz.ntmps25;refine Qs (M:=[]) (W:=W) (N:=6) (E:=[]) (O:=O) ?_ (Ag.nil rfl rfl) hw;refine yq<|yr ?_;refine yA fun b0=>?_;refine yl<|yn<|yq<|yr ?_;refine Q4 (ZW (xs:=[(0,.const (.string ⟨#[108,105,115,116]⟩)),(1,.const (.int .i64 6)),(8,.const (.int .i64 1)),(9,.const (.int .i64 2))]) (vs:=[(0,.string ⟨#[108,105,115,116]⟩),(1,.int .i64 6),(8,.int .i64 1),(9,.int .i64 2)]) (v:=.agg (exC ex0).toArray) rfl rfl Q1 rfl rfl Q7I) ?_;refine Q4 (ZW (xs:=[(0,.const (.string ⟨#[110]⟩)),(1,.const (.int .i64 2)),(3,.const (.int .i64 1)),(4,.const (.bool true)),(6,.const (.int .i64 255))]) (vs:=[(0,.string ⟨#[110]⟩),(1,.int .i64 2),(3,.int .i64 1),(4,.bool true),(6,.int .i64 255)]) (v:=.agg (exC ex1).toArray) rfl rfl Q1 rfl rfl Q7I) ?_;refine Q4 (ZW (xs:=[(0,.const (.string ⟨#[120]⟩)),(1,.const (.int .i64 2)),(3,.const (.int .i64 2)),(6,.const (.int .i64 65535))]) (vs:=[(0,.string ⟨#[120]⟩),(1,.int .i64 2),(3,.int .i64 2),(6,.int .i64 65535)]) (v:=.agg (exC ex2).toArray) rfl rfl Q1 rfl rfl Q7I) ?_;refine Qc (JH (xs:=[(0,.tmp 1),(1,.tmp 2),(2,.tmp 3)]) (vs:=[(0,.agg (exC ex0).toArray),(1,.agg (exC ex1).toArray),(2,.agg (exC ex2).toArray)]) (cells:=exC ex0++exC ex1++exC ex2) rfl rfl rfl Quf) rfl Q1 (fun b _=>?_);refine Q4 (ZW (xs:=[(0,.tmp 4)]) (vs:=[(0,.slice Q09 3 3)]) (v:=.agg #[.slice Q09 3 3]) rfl rfl Q1 rfl rfl Q7I) ?_;refine yW 1 ?_;refine yl<|yn<|yt ?_;exact Q7 mc4 rfl JY (fun w hw=>⟨b,rfl,trivial,(Wd.blkRd (n:=3) (s:=12) hw rfl).sub (.cons_cons _ (.cons _ (.refl _)))⟩)
abbrev Q5e(i:Int):List Value:=[.int .i64 1,.int .i64 i,.slice none 0 0,.slice none 0 0,.slice none 0 0]
theorem Q5V(n:Int)(w:World):Calls Tryz.prog 27 #[.int .i64 n] w fun e w'=>e=.returned (.agg (Q5e n).toArray)/\Below w.heap.size w w':=by
 go_enter Tryz.func27,Tryz.ntmps27;refine Qs (M:=[]) (W:=w) (N:=5) (E:=[(0,.int .i64 n)]) (O:=[]) ?_ Zj (Wd.start [] w);refine yq<|yr ?_;refine yA fun b2=>?_;refine yl<|yn<|yq<|yr<|yo zM ?_;refine Q4 (ZW (xs:=[(0,.const (.int .i64 1)),(1,.tmp 3)]) (vs:=[(0,.int .i64 1),(1,.int .i64 n)]) (v:=.agg (Q5e n).toArray) rfl rfl Q1 rfl rfl Q7I) ?_;refine yW 0 ?_;refine yl<|yn<|yt ?_;exact Q7 mc4 rfl Q0F Qof
theorem QjO(hA:A.length=5)(hB:B.length=5)(w:World):(Instr.buildSlice 28 2 #[(0,.agg A.toArray),(1,.agg B.toArray)]).run Tryz.prog w=.ok (.slice (some ⟨w.heap.size,0,none⟩) 2 2) (w.alloc (.cells (A++B).toArray 30)):=by
 have hT:SlT Tryz.prog 28 30 5 88:=QmA;obtain⟨j,z,hi,hz,hsz,hby,hzs⟩:=hT.info;refine run_buildSlice w _ _ 2 _ (A++B).toArray j z hT.und hi hz Yv Yv ?_;rw[hsz];obtain⟨Z,hZ,hZl⟩:∃Z:List Value,(Array.range (2*5)).map (z.cells[·% z.cells.size]!)=Z.toArray/\Z.length=10:=QkL;rw[hZ];show Instr.fill (fun i=>some (i*5,5)) Z.toArray [(0,.agg A.toArray),(1,.agg B.toArray)]=_;rw[Y1 (o:=0) (n:=5) (cs:=A) rfl rfl hA Q3,Y1 (o:=5) (n:=5) (cs:=B) rfl rfl hB (by rw[JI];omega),Q6m,Qkv 5 hA hB hZl]
abbrev QuR(b:Nat):Value:=.agg #[.int .i64 3,.int .i64 0,.slice none 0 0,.slice none 0 0,.slice (some ⟨b,0,none⟩) 2 2]
abbrev Q3P(i j:Int):VF:=.cons (ndN i) .nil (.cons (ndN j) .nil .nil)
theorem Qu2(i j:Int)(hw:Wd [] W O w):Calls Tryz.prog 26 #[.agg (Q5e i).toArray,.agg (Q5e j).toArray] w (Xo (fun b:Nat=>QuR b) (fun _=>True) [] W (fun b=>.rd (some ⟨b,0,none⟩) 2 5 (Q5e i++Q5e j)::O)):=by
 go_enter Tryz.func26,Tryz.ntmps26;refine Qs (M:=[]) (W:=W) (N:=9) (E:=Qnw) (O:=O) ?_ mc3 hw;refine yq<|yr ?_;refine yB fun b2=>?_;refine yB fun b3=>?_;refine yA fun b4=>?_;refine yl<|yn<|yq<|yr<|yo (zD 2)<|yo (zD 1) ?_;refine Qc (JH (xs:=[(0,.tmp 5),(1,.tmp 6)]) (vs:=Qnw) (cells:=Q5e i++Q5e j) rfl rfl rfl (QjO rfl rfl)) rfl Q1 (fun b _=>?_);refine Q4 (ZW (xs:=[(0,.const (.int .i64 3)),(4,.tmp 7)]) (vs:=[(0,.int .i64 3),(4,.slice Q09 2 2)]) (v:=QuR b) rfl rfl Q1 rfl rfl Q7I) ?_;refine yW 1 ?_;refine yl<|yn<|yt ?_;exact Q7 mc4 rfl JY (fun w hw=>⟨b,rfl,trivial,(Wd.blkRd (n:=2) (s:=5) hw rfl).sub (.cons_cons _ (.cons _ (.cons _ (.cons _ (.refl _)))))⟩)
theorem QcU(i j:Int)(b:Nat):XA [.rd (some ⟨b,0,none⟩) 2 5 (Q5e i++Q5e j)] (QuR b) ndL (Q3P i j):=
 XA.list (l:=Q3P i j) ((Vj.nil.snoc (XA.num i)).snoc (XA.num j)) (Nat.le_refl 2) Q1
def exD:List UInt8:=[2,5,0,6,0]
theorem Qpw:QE exF exD (Q0R exF exD) 0 0=some (.ok (ndL,Q3P 5 6,5)):=by kernel_rfl
theorem QlQ:XN ndL (Q3P 5 6)=(0,0):=by kernel_rfl
theorem Qo2:YF exF exD=((ndL,Q3P 5 6),(0,0)):=Q98 (y:=(ndL,Q3P 5 6,5)) Qbc Q1 Qpw Q1 QlQ
theorem Qn6:YF exF [2,5,0]=((ndZ,.nil),(1,3)):=Qgn (x:=3) Qbc Q1 Q5
theorem Qqf:YF exF [0,9]=((ndZ,.nil),(1,1)):=Q8E (y:=(ndL,.nil,1)) Qbc Q1 Q5 Q1
theorem Qkd:QD exF 0 ndL (Q3P 5 6) 0=.ok (exD,3):=by kernel_rfl
theorem Qmi:JN exF ndL (Q3P 5 6)=(exD,(0,0)):=Q8H Qbc QlQ Qkd Q1
end
end
section
variable {A:Option Addr}{F:List Rl}{c n:Nat}{cd x:Int}
instance iXIlC_1:En Tryz.prog 25:=⟨fun _ _=>by kernel_rfl⟩
instance iXIlC_2:En Tryz.prog 26:=⟨fun _ _=>by kernel_rfl⟩
instance iXIlC_3:En Tryz.prog 27:=⟨fun _ _=>by kernel_rfl⟩
instance iXIlC_4:En Tryz.prog 10:=⟨fun _ _=>by kernel_rfl⟩
section
variable {P:Program}{ops:Array Oper}{Q:Exit->Act->World->Prop}{N:Nat}{M:List Nat}{W:World}{E:Env}{O:List Qb}{o:Oper}{C:World->Prop}{d:Nat}
theorem QlG(T:List Nat:=[]){id:Nat}{l:List Oper}(hm:P.follows .mixedOrders=true)(h:dE P l.toArray Q N M W O T l.length (Array.replicate l.length false) E O):sE P Q N M W E O (.region id l.toArray true):=Z7 O T hm h
theorem QhO{x y:Operand}{t':TypeId}{a b a' b':Int}{v:Bool}(ho:o.op=.binOp .eql 32 x y t')(hd:o.dst=some d)(hN:d<N)(hw:Qi ops E o=some true)(hx:ev E x=some (.agg #[.int .i64 a,.int .i64 b]))(hy:ev E y=some (.agg #[.int .i64 a',.int .i64 b']))(hb:(a==a'&&b==b')=v):oE Tryz.prog ops C N E ((d,.bool v)::E) o:=
 Xd hd hN hw fun ρ w ha _=>by
  subst hb;by_cases h1:a=a'<;>by_cases h2:b=b'<;>simp [execOp,ho,ha.eval hx,ha.eval hy,h1,h2,go_sem]
end
section
variable {W w:World}{O:List Qb}
theorem Q7n{D:List UInt8}{A2:Option Addr}{m c2:Nat}{d:Nd}{l:VF}(hw:Wd [] W O w)(hf:QX w w.heap.size A n F)(hs:FSm F)(hc:n<=c)(hg:GV w)(hd:Rd w w.heap.size 1 A2 m (bv D))(hmc:m<=c2)(hc2:c2<=maxLen)(h:YF F D=((d,l),(cd,x))):
  Calls Tryz.prog 11 #[.agg #[.slice A n c],.slice A2 m c2] w (Xo (fun y:Py=>.tuple #[.agg (y.cells d).toArray,.agg #[.int .i64 cd,.int .i64 x]]) (fun y=>XA y.L (.agg (y.cells d).toArray) d l) [] W (fun y=>O++y.L)):=
 (Qbq hf hs hc hg hd hmc hc2).mono fun e w' ⟨y,h1,h2,h3,h4⟩=>by
  rw[h] at h1 h2;exact⟨y,h1,h2,hw.made h4 h3⟩
theorem QbB{d:Nd}{l:VF}{v:Value}{b:List UInt8}(hw:Wd [] W O w)(hf:QX w w.heap.size A n F)(hs:FSm F)(hc:n<=c)(hg:GV w)(hv:VIn w w.heap.size v d l)(hsz:Sz d l)(h:JN F d l=(b,(cd,x))):
  Calls Tryz.prog 15 #[.agg #[.slice A n c],v] w (Xo (fun y:Option Addr×Nat=>.tuple #[.slice y.1 b.length y.2,.agg #[.int .i64 cd,.int .i64 x]]) (fun y=>b.length<=y.2/\y.2<=maxLen) [] W (fun y=>O++[.rd y.1 b.length 1 (bv b)])):=
 (Qaf hf hs hc hg hv hsz).mono fun e w' ⟨A',c',h1,h2,h3,h4,h5⟩=>by
  rw[h] at h1 h2 h3;exact⟨(A',c'),h1,⟨h3,h4⟩,hw.made h5 h2⟩
theorem Qau{vs:List (Nat×Value)}{cells:List Value}(hn:n<=1000/\0<n)(h:∀Z:Array Value,Z.size=n*1->Instr.fill (fun i=>some (i*1,1)) Z vs=some cells.toArray)(w:World):(Instr.buildSlice 25 n vs.toArray).run Tryz.prog w=.ok (.slice (some ⟨w.heap.size,0,none⟩) n n) (w.alloc (.cells cells.toArray 5)):=by
 have hT:SlT Tryz.prog 25 5 1 1:=(inferInstance:Sl Tryz.prog 25 5 1 1).h;obtain⟨j,z,hi,hz,hsz,hby,hzs⟩:=hT.info;refine run_buildSlice w _ _ n vs.toArray cells.toArray j z hT.und hi hz Yv Yv ?_;rw[hsz];exact h _ Ql
end
theorem QgU:Sz ndL (Q3P 5 6):=by
 refine⟨QkT,⟨QkT,by decide,trivial,QkT,by decide,trivial,trivial⟩,by decide⟩
theorem Q84{W:World}(hg:GV W):Calls Tryz.prog 10 #[] W fun e w'=>e=.returned (.bool true)/\Below W.heap.size W w':=by
 have HG:=Q2 hg;clear hg;go_enter Tryz.func10,Tryz.ntmps10;refine Qs (M:=[]) (W:=W) (N:=65) (E:=[]) (O:=[]) ?_ (Ag.nil rfl rfl) QV;refine yq<|yr<|yo zA<|yl<|yn<|yq<|yr ?_;refine Qc Qhg rfl Q1 (fun p1 _=>?_);refine Qc QqR rfl Q1 (fun d1 _=>?_);refine Qc (XB _ _ _ rfl rfl rfl (fun w hw=>Q7n hw (Qgq Q0Q) Qgo Xk KU (hw.rd_blk (n:=5) 0 rfl rfl) Xk Q1 Qo2)) rfl Q1 (fun q1 hy1=>?_);refine Q4P ?_;refine yA fun b1=>?_;refine yA fun b2=>?_;refine yW 1 ?_;refine KG ?_;have HY1:=Q2 hy1;clear hy1;refine yn<|yq<|yr ?_;refine Qc Qhg rfl Q1 (fun p2 _=>?_);refine Qc (JH (xs:=[(0,.const (.int .u8 2)),(1,.const (.int .u8 5)),(2,.const (.int .u8 0))]) (vs:=[(0,.int .u8 2),(1,.int .u8 5),(2,.int .u8 0)]) (cells:=bv [2,5,0]) rfl rfl rfl (Qau Q1 (by rintro⟨l⟩ h;match l,h with|[z0,z1,z2],_=>rfl))) rfl Q1 (fun d2 _=>?_);refine Qc (XB _ _ _ rfl rfl rfl (fun w hw=>Q7n hw (Qgq Q0Q) Qgo Xk KU (hw.rd_blk (n:=3) 0 rfl rfl) Xk Q1 Qn6)) rfl Q1 (fun q2 hy2=>?_);refine Q4P ?_;refine yA fun b3=>?_;refine yA fun b4=>?_;refine yW 1 ?_;refine KG ?_;clear hy2;refine yn<|yq<|yr ?_;refine Qc Qhg rfl Q1 (fun p3 _=>?_);refine Qc (JH (xs:=[(0,.const (.int .u8 0)),(1,.const (.int .u8 9))]) (vs:=[(0,.int .u8 0),(1,.int .u8 9)]) (cells:=bv [0,9]) rfl rfl rfl (Qau Q1 (by rintro⟨l⟩ h;match l,h with|[z0,z1],_=>rfl))) rfl Q1 (fun d3 _=>?_);refine Qc (XB _ _ _ rfl rfl rfl (fun w hw=>Q7n hw (Qgq Q0Q) Qgo Xk KU (hw.rd_blk (n:=2) 0 rfl rfl) Xk Q1 Qqf)) rfl Q1 (fun q3 hy3=>?_);refine Q4P ?_;refine yA fun b5=>?_;refine yA fun b6=>?_;refine yW 1 ?_;refine KG ?_;clear hy3;refine yn<|yq<|yr ?_;refine Qc Qhg rfl Q1 (fun p4 _=>?_);refine Q4 QmE ?_;refine Q4 QoW ?_;refine Qc Qmy rfl Q1 (fun s4 _=>?_);refine Qc (XB _ _ _ rfl rfl rfl (fun w hw=>QbB hw (Qgq Q0Q) Qgo Xk KU ((QcU 5 6 s4).vin QkV) QgU Qmi)) rfl Q1 (fun wo hyo=>?_);refine Q4P ?_;refine yA fun b8=>?_;refine Qdy ?_;refine yl<|yn<|yq ?_;refine QlG [] Q5 ?_;refine Qn 0 rfl Q5 KM zF ?_;refine Qn 1 rfl Q5 KM (zB 11) ?_;refine Qn 2 rfl Q5 KM zet ?_;refine Qn 3 rfl Q5 KM zM ?_;refine Qn 4 rfl Q5 KM zF ?_;refine Qn 5 rfl Q5 KM (zB 0) ?_;refine Qn 6 rfl Q5 KM zet ?_;refine Qn 7 rfl Q5 KM zY ?_;refine Qn 8 rfl Q5 KM zM ?_;refine Qn 9 rfl Q5 KM (Xs (cs:=q1.cells ndL) rfl rfl Q1 rfl rfl (fun w hw=>Wd.range_blk 12 (cs:=q1.cells ndL) rfl hw) rfl) ?_;refine Qn 10 rfl Q5 KM QmE ?_;refine Qn 11 rfl Q5 KM QoW ?_;refine QS 12 Q5 rfl rfl Qmy (fun _=>.inr Y5) rfl Q1 (fun s5 _=>?_);refine Qcb 13 Q5 rfl (.inr Y5) (Qj rfl rfl Q1 rfl rfl (fun w hw=>QbS ndL (Q3P 5 6) ndL (Q3P 5 6) w _ _ QgU.1.2.2.1 QgU.2.2 QgU.2.1 (HY1.out.vin fun x hx=>hw.onAll x Q4E) ((QcU 5 6 s5).vin QkV))) ?_;rw[(QqD ndL (Q3P 5 6) ndL (Q3P 5 6)).2 ⟨rfl,rfl⟩];refine Qn 14 rfl Q5 Y5 zY ?_;refine Qn 15 rfl Q5 Y5 zM ?_;refine Qn 16 rfl Q5 Y5 (Xs (cs:=[.int .i64 1,.int .i64 3]) rfl rfl Q1 rfl rfl (fun w hw=>Wd.range_blk 7 (cs:=[.int .i64 1,.int .i64 3]) rfl hw) rfl) ?_;refine Qn 17 rfl Q5 Y5 Qsz ?_;refine Qn 18 rfl Q5 Y5 Qfk ?_;refine Qn 19 rfl Q5 Y5 zY ?_;refine Qn 20 rfl Q5 Y5 zM ?_;refine Qn 21 rfl Q5 Y5 (Xs (cs:=[.int .i64 1,.int .i64 1]) rfl rfl Q1 rfl rfl (fun w hw=>Wd.range_blk 3 (cs:=[.int .i64 1,.int .i64 1]) rfl hw) rfl) ?_;refine Qn 22 rfl Q5 Y5 Qsz ?_;refine Qn 23 rfl Q5 Y5 Qfk ?_;refine Qn 24 rfl Q5 Y5 zY ?_;refine Qn 25 rfl Q5 Y5 zM ?_;refine Qn 26 rfl Q5 Y5 zM ?_;refine QS 27 Q5 rfl rfl QqR (fun _=>.inr Qax) rfl Q1 (fun d5 _=>?_);refine Qcb 28 Q5 rfl (.inr Qax) (Qj rfl rfl Q1 rfl rfl (fun w hw=>Calls.stay (Q4Z (a:=exD) (b:=exD) (B:=w.heap.size) (B':=w.heap.size) (hw.onAll (.rd wo.1 exD.length 1 (bv exD)) Ql) (hw.rd_blk (n:=5) 0 rfl rfl)))) ?_;refine Qn 29 rfl Q5 Qax zY ?_;refine Qn 30 rfl Q5 Qax zA ?_;refine Xu ?_ Q5;refine yn<|yt ?_;exact Q7 mc4 rfl (.tmp rfl) (fun w hw=>⟨by rfl,hw.k.below⟩)
end
def QuV(W:World)(e:Ending)(w':World):Prop:=e=.returned (.bool true)/\Below W.heap.size W w'
section
variable {A A2:Option Addr}{n c m c2:Nat}{W:World}{F:List Rl}{D:List UInt8}{d:Nd}{l:VF}{v:Value}
theorem neI{a:Int}(h:a≠0):(a != 0)=true:=bne_iff_ne.2 h
end
def Q03(F:List Rl)(d:Nd)(l:VF):Bool×(Int×Int):=
 if Qy F≠(0,0) then (false,Qy F) else if XN d l≠(0,0) then (false,XN d l) else ((JN F d l).2.1==0&&(JN F d l).2.2==0,(0,0))
def Qkx(F:List Rl)(d:Nd)(l:VF)(W:World)(e:Ending)(w':World):Prop:=e=.returned (.tuple #[.bool (Q03 F d l).1,.agg #[.int .i64 (Q03 F d l).2.1,.int .i64 (Q03 F d l).2.2]])/\Below W.heap.size W w'
section
variable {F:List Rl}{d:Nd}{l:VF}{W w:World}{q:Bool}{c x:Int}
theorem QuJ(h:Q03 F d l=(q,(c,x)))(hb:Below W.heap.size W w):Qkx F d l W (.returned (.tuple #[.bool q,.agg #[.int .i64 c,.int .i64 x]])) w:=⟨by rw[h],hb⟩
end
theorem QdK{F:List Rl}{d:Nd}{l:VF}{A:Option Addr}{n c:Nat}{v:Value}{W:World}(hf:QX W W.heap.size A n F)(hs:FSm F)(hc:n<=c)(hg:GV W)(hv:VIn W W.heap.size v d l)(hsz:Sz d l):
  Calls Tryz.prog 21 #[.agg #[.slice A n c],v] W (Qkx F d l W):=by
 have HF:=Q2 hf;have HS:=Q2 hs;have HG:=Q2 hg;have HSZ:=Q2 hsz;have HV:=Q2 hv;obtain⟨⟨a,b⟩,hab⟩:∃p,Qy F=p:=⟨_,rfl⟩;have HAB:=Q2 hab;obtain⟨sb,sn,sp,rfl,Abv,nb,cbv,Anv,nnv,cnv,Apv,cpv,rfl,rfl,rfl,_⟩:=hv;clear hf hs hg hsz;go_enter Tryz.func21,Tryz.ntmps21;refine Qs (M:=[]) (W:=W) (N:=32) (E:=[Vh,Qby]) (O:=[]) ?_ mc3 QV;refine yq<|yr ?_;refine yB fun b2=>?_;refine yB fun b3=>?_;refine yo zA ?_;refine yA fun b5=>?_;refine Qi2 ?_;refine Q4 Qou ?_;refine yA fun b6=>?_;refine KG ?_;by_cases hz:(a,b)=((0:Int),(0:Int))
 case neg=>
  have hne:=Q5z hz;have HZ:=Q2 (show Q03 F d l=(false,(a,b)) by unfold Q03;rw[HAB.out,if_pos hz]);refine Qr3 ?_;refine Qn 0 rfl Q5 Q7t (zD 0) ?_;refine Qn 1 rfl Q5 Q7t zA ?_;refine QI 2 Q5 rfl rfl KH KP rfl (fun _ _=>?_);rw[QF (by rfl)];refine Xu ?_ Q5;refine yn<|yt<|yc ?_;exact Jd mc4 rfl (.tmp rfl) JY QeU
 have e1:a=0:=congrArg Prod.fst hz;have e2:b=0:=congrArg Prod.snd hz;subst e1 e2;have hne:(!((0:Int)==0&&(0:Int)==0))=false:=rfl;obtain⟨⟨a,b⟩,hvf⟩:∃p,XN d l=p:=⟨_,rfl⟩;have HVF:=Q2 hvf;refine Q5H ?_;refine yl<|yn<|y0<|ys<|yn<|yq<|yq<|yr<|yo (zD 2) ?_;refine Q4 (Qj rfl rfl Q1 rfl rfl (fun w hw=>(Yy HSZ.out Q9b).mono (fun e w' h=>by rw[HVF.out] at h;exact h))) ?_;refine yA fun b7=>?_;refine KG ?_;by_cases hz2:(a,b)=((0:Int),(0:Int))
 case neg=>
  have hne2:=Q5z hz2;have HZ:=Q2 (show Q03 F d l=(false,(a,b)) by unfold Q03;rw[HAB.out,if_neg Ql,HVF.out,if_pos hz2]);refine yn<|yq<|yr<|yo (zD 0) ?_;refine Qsn ?_;refine Qn 1 rfl Q5 Q7t zA ?_;refine QI 2 Q5 rfl rfl QbY KP rfl (fun _ _=>?_);rw[QF (by rfl)];refine Xu ?_ Q5;refine yn<|yt<|yc ?_;exact Jd mc4 rfl (.tmp rfl) Q3i QeU
 have e1:a=0:=congrArg Prod.fst hz2;have e2:b=0:=congrArg Prod.snd hz2;subst e1 e2;obtain⟨⟨bs,cd,x⟩,hp⟩:∃p,JN F d l=p:=⟨_,rfl⟩;have HP:=Q2 hp;have HZ:=Q2 (show Q03 F d l=(cd==0&&x==0,(0,0)) by unfold Q03;rw[HAB.out,if_neg Ql,HVF.out,if_neg Ql,HP.out]);clear hp;refine Q5H ?_;refine yl<|yn<|y0<|ys<|yn<|yq<|yr<|yo (zD 4)<|yo (zD 3) ?_;refine Qc QrO rfl Q1 (fun wo hwo=>?_);refine Q4P ?_;refine yA fun b9=>?_;refine Qdy ?_;refine yl<|yn<|yq<|yr<|yo (zD 0) ?_;refine Q4 mc6 ?_;refine Q4 Qfk ?_;refine Q4 mc6 ?_;refine yo zA ?_;refine yW 3 ?_;refine yl<|yn<|yt ?_;exact Jd mc4 rfl (.tmp rfl) Qh8 QeU
theorem Qf8{F:List Rl}{d:Nd}{l:VF}(h0:Qy F=(0,0))(h1:XN d l=(0,0)):Q03 F d l=((JN F d l).2.1==0,(0,0)):=by
 unfold Q03;rw[h0,if_neg Ql,h1,if_neg Ql];congr 1;cases h:((JN F d l).2.1==0) with
 |false=>rfl
 |true=>
  obtain⟨_,_,b,m,he,_⟩:=QpW (beq_iff_eq.1 h);rw[he];rfl
section
variable {r:Rl}
theorem X9(n l h:Int)(w:World):Calls Tryz.prog 71 #[.int .i64 n,.int .i64 l,.int .i64 h] w fun e w'=>e=.returned (.bool (inB n l h))/\Below w.heap.size w w':=
 (Qd9 n l h w).mono fun _ _ ⟨he,hw⟩=>⟨by rw[he];congr 2;rw[Bool.eq_iff_iff,QY];simp,hw▸Below.refl _ _⟩
theorem Jz{n:Int}(hn:0<=n/\n<=4)(w:World):Calls Tryz.prog 104 #[.int .i64 n] w fun e w'=>e=.returned (.int .i64 ((256:Int) ^ n.toNat))/\Below w.heap.size w w':=by
 obtain⟨m,rfl⟩:∃m:Nat,n=(m:Int):=Qfl;exact(Qcd m Q3 w).mono fun _ _ ⟨he,hw⟩=>⟨by rw[he,Int.toNat_natCast],hw▸Below.refl _ _⟩
section
variable {A Ab An Ap:Option Addr}{n c cb cn cp:Nat}{W:World}
theorem QiS(hk:r.kind=2\/r.kind=3\/r.kind=4\/r.kind=5\/r.kind=6\/r.kind=9\/r.kind=10)(hn:n<=1048576):
  Calls Tryz.prog 73 #[.agg #[.slice A n c],.agg (ruC r (.slice Ab r.bs.length cb) (.slice An r.names.length cn) (.slice Ap r.parts.length cp)).toArray] W (QO W (QC r.kind r.size r.mn r.mx r.stop r.count r.elem r.parts n)):=by
 obtain⟨name,kind,bs,size,big,mn,mx,stop,count,elem,names,parts⟩:=r;simp only[ruC] at hk ⊢;rcases hk with rfl|rfl|rfl|rfl|rfl|rfl|rfl<;>
 ·go_enter Tryz.func73,Tryz.ntmps73
  refine Qs (M:=[]) (W:=W) (N:=114) (E:=[(0,.agg #[.slice A n c]),(1,.agg ([.string ⟨name.toArray⟩,.int .i64 _,.slice Ab bs.length cb,.int .i64 size,.bool big,.int .i64 mn,.int .i64 mx,.int .i64 stop,.int .i64 count,.int .i64 elem,.slice An names.length cn,.slice Ap parts.length cp]:List Value).toArray)]) (O:=[]) ?_ mc3 (Wd.start [] W);repeat' (first|((with_reducible show lE _ _ _ _ _ _ _ _ _);first|refine Q4 zM ?_|refine Q4 zA ?_|refine Q4 zF ?_|refine Q4 zS ?_|refine Q4 (zB 0) ?_|refine Q4 (zB 1) ?_|refine V8 QY Qk2 (fun _=>?_) (fun _=>?_)|refine yB fun br=>?_|refine Qe ?_|refine Q4 zL ?_|refine Q4 zet ?_|refine Q4 zef ?_|refine Q4 zY ?_|refine Q4 zN ?_|refine Q4 zO ?_|refine Q4 zQ ?_)|((with_reducible show qE _ _ _ _ _ _ _);first|refine Qd zM ?_|refine Qd zA ?_|refine Qd zF ?_|refine Qd zS ?_|refine Qd (zB 0) ?_|refine Q5r QY Qk2 (fun _=>?_) (fun _=>?_)|refine Qd (Qj (f:=104) rfl rfl Q1 rfl rfl (fun w hw=>Jz Q3 w)) ?_|refine ZJ ?_|refine Qd zY ?_|refine Qd zN ?_|refine Q5r Q12 (KK rfl rfl Q1 rfl rfl rfl rfl) (fun _=>?_) (fun _=>?_)|refine Q5r Q12 (Q6P rfl rfl Q1 rfl rfl rfl rfl) (fun _=>?_) (fun _=>?_)|refine Q5r Q12 (Qdm rfl rfl Q1 rfl rfl rfl rfl) (fun _=>?_) (fun _=>?_))|((with_reducible show sE _ _ _ _ _ _ _ _);first|refine Qa ?_|refine Q6 ?_|refine Xt Q5 Q5 ?_|refine Qq ?_|refine Q9 rfl ?_|refine Q8 rfl ?_|refine QB ?_)|((with_reducible show xE _ _ _ _ _ _ _);first|refine Qk ?_|refine Qm ?_))
  all_goals exact Q7 mc4 rfl (.tmp rfl) (fun w hw=>QK (by simp [QC,inB];omega) hw)
theorem QiQ(hk:r.kind=1\/r.kind=7\/r.kind=8)(hn:n<=1048576)(hpl:r.parts.length<=1048576)(hp:Rd W W.heap.size 1 Ap r.parts.length (iv r.parts)):
  Calls Tryz.prog 73 #[.agg #[.slice A n c],.agg (ruC r (.slice Ab r.bs.length cb) (.slice An r.names.length cn) (.slice Ap r.parts.length cp)).toArray] W (QO W (QC r.kind r.size r.mn r.mx r.stop r.count r.elem r.parts n)):=by
 have hR:QC r.kind r.size r.mn r.mx r.stop r.count r.elem r.parts n=!(r.parts.any fun x=>!(inB x 0 ((n:Int) - 1))):=by
  unfold QC;rcases hk with h|h|h<;>rw[h]<;>rfl
 rw[hR];clear hR;have HP:=Q2 hp;clear hp;obtain⟨name,kind,bs,size,big,mn,mx,stop,count,elem,names,parts⟩:=r;simp only[ruC] at hk hpl HP ⊢;rcases hk with rfl|rfl|rfl<;>
 ·go_enter Tryz.func73,Tryz.ntmps73
  refine Qs (M:=[]) (W:=W) (N:=114) (E:=[(0,.agg #[.slice A n c]),(1,.agg ([.string ⟨name.toArray⟩,.int .i64 _,.slice Ab bs.length cb,.int .i64 size,.bool big,.int .i64 mn,.int .i64 mx,.int .i64 stop,.int .i64 count,.int .i64 elem,.slice An names.length cn,.slice Ap parts.length cp]:List Value).toArray)]) (O:=[]) ?_ mc3 (Wd.start [] W);refine Q65 ?_
  refine yB fun b2=>?_;refine yB fun b3=>?_;refine yo zA<|yl ?_;refine Qpp ?_
  refine yo zF<|yo (zB 1)<|yo zL<|yo zQ<|yo zA<|yl ?_;refine Qpp ?_
  refine yo zF<|yo (zB 0)<|yo zA<|yl ?_;refine Qpp ?_
  refine Q8Q ?_
  refine Q8Q ?_
  refine Q8Q ?_
  refine Q8Q ?_
  refine Q8Q ?_
  refine Q8Q ?_
  refine yo zM<|yo zef<|yl ?_;refine QuY ?_
  refine yo zA<|yl ?_;repeat(first|((with_reducible show sE _ _ _ _ _ _ _ _);refine Qh ?_)|((with_reducible show xE _ _ _ _ _ _ _);refine Qk ?_))
  refine QN (ι:=Nat) (fun i=>i<=parts.length/\∀x∈parts.take i,inB x 0 ((n:Int) - 1)=true) (fun i=>parts.length - i) (fun i=>[(2,.pointer (some ⟨b2,0,none⟩)),(3,.pointer (some ⟨b3,0,none⟩)),(5,.int .i64 ((n:Int) - 1)),(7,.int .i64 (i:Int))]) (fun i=>[.blk b3 (.cells ([.string ⟨name.toArray⟩,.int .i64 _,.slice Ab bs.length cb,.int .i64 size,.bool big,.int .i64 mn,.int .i64 mx,.int .i64 stop,.int .i64 count,.int .i64 elem,.slice An names.length cn,.slice Ap parts.length cp]:List Value).toArray 65 (0,0)),.blk b2 (.cells ([.slice A n c]:List Value).toArray 24 (0,0))]) 0 [0,1] Q1 ⟨Nat.zero_le _,fun x hx=>by cases hx⟩ (.cons rfl rfl (.cons rfl rfl (.cons rfl rfl (.cons rfl rfl .nil)))) rfl ?_;rintro i ⟨hi,hall⟩;have HALL:=Q2 hall;clear hall;by_cases hlt:i<parts.length
  ·obtain⟨bp,op,rfl,_,hcell⟩:=HP.out.2 Q3;obtain⟨x,hx⟩:∃x,parts[i]? =some x:=⟨_,List.getElem?_eq_getElem hlt⟩;have hc0:W.cell? ⟨bp,op+i,none⟩=some (.int .i64 x):=hcell i _ (by unfold iv;rw[List.getElem?_map,hx];rfl);have HX:=Q2 hx;clear hcell hx;obtain⟨q,hq⟩:∃q,inB x 0 ((n:Int) - 1)=q:=⟨_,rfl⟩
   cases q with
   |true=>
    have HQ:=Q2 hq;refine Q65 ?_
    refine yo zM<|yo zF<|yo (zB 0)<|yo zL<|yo zlt<|yl ?_;refine QgY ?_
    refine Qsp ?_;repeat(first|((with_reducible show sE _ _ _ _ _ _ _ _);first|refine Q6 ?_|refine Qq ?_|refine Q8 rfl ?_)|((with_reducible show xE _ _ _ _ _ _ _);refine Qk ?_))
    refine yo zM<|yo zP<|yo zA<|yl ?_;refine Qt (i+1) [0,1] Q1 ⟨hlt,fun z hz=>?_⟩ Q3 mc2 rfl;rw[List.take_add_one,HX.out] at hz;rcases List.mem_append.1 hz with hz|hz
    ·exact HALL.out z hz
    ·rw[List.mem_singleton.1 hz];exact HQ.out
   |false=>
    refine Q65 ?_
    refine yo zM<|yo zF<|yo (zB 0)<|yo zL<|yo zlt<|yl ?_;refine QgY ?_
    refine Qsp ?_;repeat(first|((with_reducible show sE _ _ _ _ _ _ _ _);first|refine Qa ?_|refine Q6 ?_|refine Q9 rfl ?_)|((with_reducible show xE _ _ _ _ _ _ _);refine Qk ?_))
    refine yo zA<|yl ?_;repeat(first|((with_reducible show sE _ _ _ _ _ _ _ _);refine QB ?_)|((with_reducible show xE _ _ _ _ _ _ _);first|refine Qk ?_|refine Qm ?_|refine Qu ?_))
    refine Q7 (by exact .inr rfl) rfl (.tmp rfl) (fun w hw=>QK ?_ hw);have h:parts.any (fun x=>!(inB x 0 ((n:Int) - 1)))=true:=List.any_eq_true.2 ⟨x,List.mem_of_getElem? HX.out,by rw[hq];rfl⟩;rw[h];rfl
  ·skip
   repeat(first|((with_reducible show sE _ _ _ _ _ _ _ _);first|refine Qa ?_|refine Q6 ?_))
   refine yo zM<|yo zF<|yo (zB 0)<|yo zL<|yo zlf<|yl ?_;repeat(first|((with_reducible show sE _ _ _ _ _ _ _ _);first|refine Qa ?_|refine Q6 ?_|refine Q8 rfl ?_|refine XS ?_)|((with_reducible show xE _ _ _ _ _ _ _);refine Qk ?_))
   refine yo zA<|yl ?_;repeat(first|((with_reducible show sE _ _ _ _ _ _ _ _);refine QB ?_)|((with_reducible show xE _ _ _ _ _ _ _);refine Qk ?_))
   refine Q7 (by exact .inr rfl) rfl (.tmp rfl) (fun w hw=>QK ?_ hw);have h:parts.any (fun x=>!(inB x 0 ((n:Int) - 1)))=false:=List.any_eq_false.2 fun x hx=>by
    rw[HALL.out x (by rw[List.take_of_length_le Q3];exact hx)];exact Bool.false_ne_true
   rw[h];rfl
theorem Q8a(hk:1<=r.kind/\r.kind<=10)(hn:n<=1048576)(hpl:r.parts.length<=1048576)(hp:Rd W W.heap.size 1 Ap r.parts.length (iv r.parts)):
  Calls Tryz.prog 73 #[.agg #[.slice A n c],.agg (ruC r (.slice Ab r.bs.length cb) (.slice An r.names.length cn) (.slice Ap r.parts.length cp)).toArray] W (QO W (QC r.kind r.size r.mn r.mx r.stop r.count r.elem r.parts n)):=by
 rcases (show (r.kind=2\/r.kind=3\/r.kind=4\/r.kind=5\/r.kind=6\/r.kind=9\/r.kind=10)\/(r.kind=1\/r.kind=7\/r.kind=8) by omega) with h|h
 ·exact QiS h hn
 ·exact QiQ h hn hpl hp
end
end
theorem Jn{k size mn mx stop count elem:Int}{big:Bool}{nb nn np:Nat}:Xb k size big mn mx stop count elem nb nn np=true↔(nb=0\/k=1)/\(stop=0\/k=3\/k=5\/k=9)/\(size=0\/k=2\/k=4\/k=5)/\((big=false/\mn=0)\/k=2)/\(mx=0\/k=2\/k=3)/\(count=0\/k=6\/k=10)/\(elem=0\/k=6\/k=9)/\(nn=0\/k=7)/\(np=0\/k=7\/k=8):=by
 simp [Xb,XZ,XY,Z9,Qz,JP,Jw,XI,and_assoc,or_assoc]
section
variable {k size mn mx stop count elem:Int}{big:Bool}{nb nn np:Nat}
theorem Q4d(hb:big=false)(h:(nb=0\/k=1)/\(stop=0\/k=3\/k=5\/k=9)/\(size=0\/k=2\/k=4\/k=5)/\(mn=0\/k=2)/\(mx=0\/k=2\/k=3)/\(count=0\/k=6\/k=10)/\(elem=0\/k=6\/k=9)/\(nn=0\/k=7)/\(np=0\/k=7\/k=8)):false=!(Xb k size big mn mx stop count elem nb nn np):=by
 rw[Jn.2 ⟨h.1,h.2.1,h.2.2.1,h.2.2.2.1.imp (fun x=>⟨hb,x⟩) id,h.2.2.2.2⟩];rfl
theorem Qiw(hk:k=2)(h:nb=0/\stop=0/\count=0/\elem=0/\nn=0/\np=0):false=!(Xb k size big mn mx stop count elem nb nn np):=by
 rw[Jn.2 ⟨.inl h.1,.inl h.2.1,.inr (.inl hk),.inr hk,.inr (.inl hk),.inl h.2.2.1,.inl h.2.2.2.1,.inl h.2.2.2.2.1,.inl h.2.2.2.2.2⟩];rfl
theorem Q3J(hb:big=true)(hk:k≠2):true=!(Xb k size big mn mx stop count elem nb nn np):=by
 have h:Xb k size big mn mx stop count elem nb nn np=false:=by
  cases hf:Xb k size big mn mx stop count elem nb nn np with
  |false=>rfl
  |true=>
   rcases (Jn.1 hf).2.2.2.1 with h|h
   ·rw[hb] at h;cases h.1
   ·exact absurd h hk
 rw[h];rfl
theorem Q3K(h:¬((nb=0\/k=1)/\(stop=0\/k=3\/k=5\/k=9)/\(size=0\/k=2\/k=4\/k=5)/\(mn=0\/k=2)/\(mx=0\/k=2\/k=3)/\(count=0\/k=6\/k=10)/\(elem=0\/k=6\/k=9)/\(nn=0\/k=7)/\(np=0\/k=7\/k=8))):true=!(Xb k size big mn mx stop count elem nb nn np):=by
 have h1:Xb k size big mn mx stop count elem nb nn np=false:=by
  cases hf:Xb k size big mn mx stop count elem nb nn np with
  |false=>rfl
  |true=>
   have h2:=Jn.1 hf;exact absurd ⟨h2.1,h2.2.1,h2.2.2.1,h2.2.2.2.1.imp (fun x=>x.2) id,h2.2.2.2.2⟩ h
 rw[h1];rfl
end
section
variable {A Ab An Ap:Option Addr}{n c cb cn cp:Nat}{W:World}
theorem QoL{r:Rl}(hk:r.kind=1\/r.kind=2\/r.kind=3):
  Calls Tryz.prog 72 #[.agg (ruC r (.slice Ab r.bs.length cb) (.slice An r.names.length cn) (.slice Ap r.parts.length cp)).toArray] W (QO W (!(Xb r.kind r.size r.big r.mn r.mx r.stop r.count r.elem r.bs.length r.names.length r.parts.length))):=by
 obtain⟨name,kind,bs,size,big,mn,mx,stop,count,elem,names,parts⟩:=r;simp only[ruC] at hk ⊢;rcases hk with rfl|rfl|rfl<;>
 ·go_enter Tryz.func72,Tryz.ntmps72
  refine Qs (M:=[]) (W:=W) (N:=118) (E:=[(0,.agg ([.string ⟨name.toArray⟩,.int .i64 _,.slice Ab bs.length cb,.int .i64 size,.bool big,.int .i64 mn,.int .i64 mx,.int .i64 stop,.int .i64 count,.int .i64 elem,.slice An names.length cn,.slice Ap parts.length cp]:List Value).toArray)]) (O:=[]) ?_ (Ag.cons (Ag.nil rfl rfl) rfl) (Wd.start [] W);repeat' (first|((with_reducible show lE _ _ _ _ _ _ _ _ _);first|refine V8 Qb9 (zB 0) (fun _=>?_) (fun _=>?_)|refine Q4 zM ?_|refine Q4 zA ?_|refine Q4 zF ?_|refine Q4 zS ?_|refine Q4 (zB 0) ?_|refine yB fun br=>?_|refine Qe ?_|refine Q4 zL ?_|refine Q4 znt ?_|refine Q4 znf ?_|refine Q4 zY ?_|refine Q4 zN ?_|refine V8 bne_iff_ne (Q0A rfl rfl Q1 rfl rfl rfl rfl) (fun _=>?_) (fun _=>?_)|refine V8 Q12 (YY rfl rfl Q1 rfl rfl rfl rfl) (fun _=>?_) (fun _=>?_))|((with_reducible show sE _ _ _ _ _ _ _ _);first|refine Qa ?_|refine Q6 ?_|refine Qq ?_|refine Q9 rfl ?_|refine Q8 rfl ?_|refine QB ?_)|((with_reducible show xE _ _ _ _ _ _ _);first|refine Qk ?_|refine Qm ?_))
  all_goals exact Q7 (by exact .inr rfl) rfl (.tmp rfl) (fun w hw=>QK (by first|exact Q3K Q3|exact Q3J QR Q1|exact Q4d (Bool.eq_false_iff.2 QR) Q3|exact Qiw rfl Q3) hw)
end
section
variable {A Ab An Ap:Option Addr}{n c cb cn cp:Nat}{W:World}
theorem Qlo{r:Rl}(hk:r.kind=4\/r.kind=5\/r.kind=6):
  Calls Tryz.prog 72 #[.agg (ruC r (.slice Ab r.bs.length cb) (.slice An r.names.length cn) (.slice Ap r.parts.length cp)).toArray] W (QO W (!(Xb r.kind r.size r.big r.mn r.mx r.stop r.count r.elem r.bs.length r.names.length r.parts.length))):=by
 obtain⟨name,kind,bs,size,big,mn,mx,stop,count,elem,names,parts⟩:=r;simp only[ruC] at hk ⊢;rcases hk with rfl|rfl|rfl<;>
 ·go_enter Tryz.func72,Tryz.ntmps72
  refine Qs (M:=[]) (W:=W) (N:=118) (E:=[(0,.agg ([.string ⟨name.toArray⟩,.int .i64 _,.slice Ab bs.length cb,.int .i64 size,.bool big,.int .i64 mn,.int .i64 mx,.int .i64 stop,.int .i64 count,.int .i64 elem,.slice An names.length cn,.slice Ap parts.length cp]:List Value).toArray)]) (O:=[]) ?_ (Ag.cons (Ag.nil rfl rfl) rfl) (Wd.start [] W);repeat' (first|((with_reducible show lE _ _ _ _ _ _ _ _ _);first|refine V8 Qb9 (zB 0) (fun _=>?_) (fun _=>?_)|refine Q4 zM ?_|refine Q4 zA ?_|refine Q4 zF ?_|refine Q4 zS ?_|refine Q4 (zB 0) ?_|refine yB fun br=>?_|refine Qe ?_|refine Q4 zL ?_|refine Q4 znt ?_|refine Q4 znf ?_|refine Q4 zY ?_|refine Q4 zN ?_|refine V8 bne_iff_ne (Q0A rfl rfl Q1 rfl rfl rfl rfl) (fun _=>?_) (fun _=>?_)|refine V8 Q12 (YY rfl rfl Q1 rfl rfl rfl rfl) (fun _=>?_) (fun _=>?_))|((with_reducible show sE _ _ _ _ _ _ _ _);first|refine Qa ?_|refine Q6 ?_|refine Qq ?_|refine Q9 rfl ?_|refine Q8 rfl ?_|refine QB ?_)|((with_reducible show xE _ _ _ _ _ _ _);first|refine Qk ?_|refine Qm ?_))
  all_goals exact Q7 (by exact .inr rfl) rfl (.tmp rfl) (fun w hw=>QK (by first|exact Q3K Q3|exact Q3J QR Q1|exact Q4d (Bool.eq_false_iff.2 QR) Q3) hw)
end
section
variable {A Ab An Ap:Option Addr}{n c cb cn cp:Nat}{W:World}
theorem Qmt{r:Rl}(hk:r.kind=7\/r.kind=8\/r.kind=9\/r.kind=10):
  Calls Tryz.prog 72 #[.agg (ruC r (.slice Ab r.bs.length cb) (.slice An r.names.length cn) (.slice Ap r.parts.length cp)).toArray] W (QO W (!(Xb r.kind r.size r.big r.mn r.mx r.stop r.count r.elem r.bs.length r.names.length r.parts.length))):=by
 obtain⟨name,kind,bs,size,big,mn,mx,stop,count,elem,names,parts⟩:=r;simp only[ruC] at hk ⊢;rcases hk with rfl|rfl|rfl|rfl<;>
 ·go_enter Tryz.func72,Tryz.ntmps72
  refine Qs (M:=[]) (W:=W) (N:=118) (E:=[(0,.agg ([.string ⟨name.toArray⟩,.int .i64 _,.slice Ab bs.length cb,.int .i64 size,.bool big,.int .i64 mn,.int .i64 mx,.int .i64 stop,.int .i64 count,.int .i64 elem,.slice An names.length cn,.slice Ap parts.length cp]:List Value).toArray)]) (O:=[]) ?_ (Ag.cons (Ag.nil rfl rfl) rfl) (Wd.start [] W);repeat' (first|((with_reducible show lE _ _ _ _ _ _ _ _ _);first|refine V8 Qb9 (zB 0) (fun _=>?_) (fun _=>?_)|refine Q4 zM ?_|refine Q4 zA ?_|refine Q4 zF ?_|refine Q4 zS ?_|refine Q4 (zB 0) ?_|refine yB fun br=>?_|refine Qe ?_|refine Q4 zL ?_|refine Q4 znt ?_|refine Q4 znf ?_|refine Q4 zY ?_|refine Q4 zN ?_|refine V8 bne_iff_ne (Q0A rfl rfl Q1 rfl rfl rfl rfl) (fun _=>?_) (fun _=>?_)|refine V8 Q12 (YY rfl rfl Q1 rfl rfl rfl rfl) (fun _=>?_) (fun _=>?_))|((with_reducible show sE _ _ _ _ _ _ _ _);first|refine Qa ?_|refine Q6 ?_|refine Qq ?_|refine Q9 rfl ?_|refine Q8 rfl ?_|refine QB ?_)|((with_reducible show xE _ _ _ _ _ _ _);first|refine Qk ?_|refine Qm ?_))
  all_goals exact Q7 (by exact .inr rfl) rfl (.tmp rfl) (fun w hw=>QK (by first|exact Q3K Q3|exact Q3J QR Q1|exact Q4d (Bool.eq_false_iff.2 QR) Q3) hw)
end
section
variable {i:Nat}{s:ByteArray}
theorem Q6Z(c:UInt8):wrap64 (c.toNat:Int)=(c.toNat:Int):=by
 have:=c.toNat_lt;unfold wrap64;omega
theorem Ka{n l h:Int}{b:Bool}(e:(decide (l<=n)&&decide (n<=h))=b)(w:World):
  Calls Tryz.prog 71 #[.int .i64 n,.int .i64 l,.int .i64 h] w fun e w'=>e=.returned (.bool b)/\w=w':=by
 rw[<- e];exact Qd9 n l h w
def QvR(s:ByteArray)(k:Value):Prop:=∃i:Nat,k=.int .i64 (i:Int)/\i<=s.size/\(s.data.toList.take i).all okC=true
theorem QaQ(h:(s.data.toList.take i).all okC=true)(hi:i<s.size)(hc:okC s[i]=true):(s.data.toList.take (i+1)).all okC=true:=by
 have hx:=Q1a hi;obtain⟨h1,h2⟩:=List.getElem?_eq_some_iff.1 hx;rw[List.take_succ_eq_append_getElem h1,List.all_append,h,h2];simp [hc]
theorem QuT(hi:i<s.size)(hc:okC s[i]=false):s.data.toList.all okC=false:=by
 have hx:=Q1a hi;obtain⟨h1,h2⟩:=List.getElem?_eq_some_iff.1 hx;rw[List.all_eq_false];exact⟨s[i],by rw[<- h2];exact List.getElem_mem h1,by simp [hc]⟩
theorem Q1N(s:ByteArray)(w:World)(hs:s.size<=9223372036854775807):Calls Tryz.prog 70 #[.string s] w fun e w'=>e=.returned (.bool (Qv s.data.toList))/\w=w':=by
 by_cases h0:1<=s.size/\s.size<=32
 ·obtain⟨hp,h32⟩:=h0
  have b1:(decide ((1:Int)<=(s.size:Int))&&decide ((s.size:Int)<=32))=true:=by simp;omega
  have hpos:0<s.size:=by omega
  have HX:=Q1a (s:=s) (k:=0) hpos;by_cases hc:97<=s[0].toNat/\s[0].toNat<=122
  ·have HK:=Q2 (Q6B (l:=s.data.toList) (by simpa using h32) HX hc)
   have b2:(decide ((97:Int)<=(s[0].toNat:Int))&&decide ((s[0].toNat:Int)<=122))=true:=by simp;omega
   clear HX hc;go_enter Tryz.func70,Tryz.ntmps70;go_wp2_with fail
   refine(Ka b1 _).mono ?_;rintro e w' ⟨rfl,rfl⟩;go_wp2_with fail
   try rw[Q6Z]
   refine(Ka b2 _).mono ?_;rintro e w' ⟨rfl,rfl⟩;go_wp2_with fail
   go_loop [3] (QvR s) (fun k=>s.size - (intOf k).toNat)
   case atStart=>exact⟨0,rfl,Nat.zero_le _,rfl⟩
   case round=>
    obtain⟨i,rfl,hi,hall⟩:=hrel;have HA:=Q2 hall;clear hall b1 b2;by_cases hlt:i<s.size
    ·have hli:(i:Int)<(s.size:Int):=by omega
     have h00:(0:Int)<=(i:Int):=by omega
     have HLT:=Q2 hlt;obtain⟨c,hc⟩:∃c,s[i].toNat=c:=⟨_,rfl⟩;have HC:=Q2 hc;by_cases k1:97<=c/\c<=122
     ·have HOK:=Q2 (QaQ HA.out hlt (Q7u Q3 Q3))
      have b1:(decide ((97:Int)<=(s[i].toNat:Int))&&decide ((s[i].toNat:Int)<=122))=true:=by simp;omega
      clear k1 hc;go_wp2_with fail
      try rw[Q6Z]
      refine(Ka b1 _).mono ?_;rintro e w' ⟨rfl,rfl⟩;go_wp2_with fail
      go_round
      case rel=>exact⟨i+1,by go_num,hlt,HOK.out⟩
      case measure=>simp [intOf];omega
     ·have b1:(decide ((97:Int)<=(s[i].toNat:Int))&&decide ((s[i].toNat:Int)<=122))=false:=by
       exact Q5G
      by_cases k2:48<=c/\c<=57
      ·have HOK:=Q2 (QaQ HA.out hlt (Q9x Q3 Q3))
       have b2:(decide ((48:Int)<=(s[i].toNat:Int))&&decide ((s[i].toNat:Int)<=57))=true:=by simp;omega
       clear k1 k2 hc;go_wp2_with fail
       try rw[Q6Z]
       refine(Ka b1 _).mono ?_;rintro e w' ⟨rfl,rfl⟩;go_wp2_with fail
       try rw[Q6Z]
       refine(Ka b2 _).mono ?_;rintro e w' ⟨rfl,rfl⟩;go_wp2_with fail
       go_round
       case rel=>exact⟨i+1,by go_num,hlt,HOK.out⟩
       case measure=>simp [intOf];omega
      ·have b2:(decide ((48:Int)<=(s[i].toNat:Int))&&decide ((s[i].toNat:Int)<=57))=false:=by
        exact Q5G
       have hok:okC s[i]=Q31 s[i]:=Q3X Q3 Q3;clear k1 k2;go_wp2_with fail
       try rw[Q6Z]
       refine(Ka b1 _).mono ?_;rintro e w' ⟨rfl,rfl⟩;go_wp2_with fail
       try rw[Q6Z]
       refine(Ka b2 _).mono ?_;rintro e w' ⟨rfl,rfl⟩;by_cases k3:s[i]=45\/s[i]=95\/s[i]=46
       ·have HOK:=Q2 (QaQ HA.out hlt (hok.trans (by rcases k3 with e|e|e<;>rw[e]<;>decide)))
        have hcc:(s[i].toNat:Int)=45\/(s[i].toNat:Int)=95\/(s[i].toNat:Int)=46:=by rcases k3 with e|e|e<;>rw[e]<;>decide
        clear k3 hok HC hc c;rcases hcc with e|e|e
        ·go_wp2_with fail
         go_round
         case rel=>exact⟨i+1,by go_num,hlt,HOK.out⟩
         case measure=>simp [intOf];omega
        ·go_wp2_with fail
         go_round
         case rel=>exact⟨i+1,by go_num,hlt,HOK.out⟩
         case measure=>simp [intOf];omega
        ·have m1:((s[i].toNat:Int) != 45)=true:=by rw[e];decide
         have m2:((s[i].toNat:Int) != 95)=true:=by rw[e];decide
         have m3:((s[i].toNat:Int) != 46)=false:=by rw[e];decide
         go_wp2_with fail
         ·rename_i h
          exact absurd (m3.symm.trans h.2) Q1
         ·go_round
          case rel=>exact⟨i+1,by go_num,hlt,HOK.out⟩
          case measure=>simp [intOf];omega
       ·have HOK:=Q2 (QuT hlt (hok.trans (by simpa [Q31,and_assoc] using k3)))
        have n1:¬(s[i].toNat:Int)=45:=fun e=>k3 (.inl (UInt8.toNat_inj.1 (by show s[i].toNat=45;omega)));have n2:¬(s[i].toNat:Int)=95:=fun e=>k3 (.inr (.inl (UInt8.toNat_inj.1 (by show s[i].toNat=95;omega))));have n3:¬(s[i].toNat:Int)=46:=fun e=>k3 (.inr (.inr (UInt8.toNat_inj.1 (by show s[i].toNat=46;omega))));clear k3 hok HC hc c;have m1:((s[i].toNat:Int) != 45)=true:=by simpa using n1
        have m2:((s[i].toNat:Int) != 95)=true:=by simpa using n2
        have m3:((s[i].toNat:Int) != 46)=true:=by simpa using n3
        go_wp2_with fail
        ·go_ret
         exact⟨by rw[HK.out,HOK.out];rfl,rfl⟩
        ·rename_i h
         rcases h with (h|h)|h
         ·exact absurd (m1.symm.trans h) Q1
         ·exact absurd (m2.symm.trans h) Q1
         ·exact absurd (m3.symm.trans h) Q1
    ·have HK2:=Q2 (show s.data.toList.all okC=true by have:=HA.out;rw[List.take_of_length_le Q4W] at this;exact this)
     go_wp2_with fail
     go_ret;exact⟨by rw[HK.out,HK2.out];rfl,rfl⟩
  ·have HK:=Q2 (Q4G (l:=s.data.toList) HX hc)
   have b2:(decide ((97:Int)<=(s[0].toNat:Int))&&decide ((s[0].toNat:Int)<=122))=false:=by
    exact Q5G
   clear HX hc;go_enter Tryz.func70,Tryz.ntmps70;go_wp2_with fail
   refine(Ka b1 _).mono ?_;rintro e w' ⟨rfl,rfl⟩;go_wp2_with fail
   try rw[Q6Z]
   refine(Ka b2 _).mono ?_;rintro e w' ⟨rfl,rfl⟩;go_wp2_with fail
   exact Q7v
 ·have HK:=Q2 (show Qv s.data.toList=false by
   rcases Nat.eq_zero_or_pos s.size with h|h
   ·rw[List.eq_nil_of_length_eq_zero (l:=s.data.toList) (by simpa using h)];rfl
   ·exact Q0s Q4W)
  have b1:(decide ((1:Int)<=(s.size:Int))&&decide ((s.size:Int)<=32))=false:=by
   exact Q5G
  clear h0;go_enter Tryz.func70,Tryz.ntmps70;go_wp2_with fail
  refine(Ka b1 _).mono ?_;rintro e w' ⟨rfl,rfl⟩;go_wp2_with fail
  exact Q7v
end
section
variable {r:Rl}
section
variable {A Ab An Ap:Option Addr}{n c cb cn cp:Nat}{W:World}
theorem Q4b(hl:RuL W r Ab cb An cn Ap cp)(hk:1<=r.kind/\r.kind<=10)(h7:r.kind=7->1<=r.parts.length)(h8:r.kind=8->1<=r.parts.length):
  Calls Tryz.prog 74 #[.agg (ruC r (.slice Ab r.bs.length cb) (.slice An r.names.length cn) (.slice Ap r.parts.length cp)).toArray] W (BgX W Ap r.parts.length (bl r)):=by
 obtain⟨name,kind,bs,size,big,mn,mx,stop,count,elem,names,parts⟩:=r;have hp:=hl.p;have hcp:=hl.cp;simp only[ruC] at hk h7 h8 hp hcp ⊢;clear hl;have HP:=Q2 hp;clear hp;by_cases k7:kind=7
 ·subst k7;have hp7:=h7 rfl;obtain⟨bp,op,rfl,_,hcell⟩:=HP.out.2 Q3;obtain⟨x,hx⟩:∃x,parts[0]? =some x:=⟨_,List.getElem?_eq_getElem Q3⟩;have hc0:W.cell? ⟨bp,op+0,none⟩=some (.int .i64 x):=hcell 0 _ (by show (iv parts)[0]? =_;unfold iv;rw[List.getElem?_map,hx];rfl)
  have hbl:bl ⟨name,7,bs,size,big,mn,mx,stop,count,elem,names,parts⟩=[x]:=by
   show parts.take 1=[x];cases parts with
   |nil=>cases hx
   |cons y t=>cases hx;rfl
  rw[hbl];have h0p:0<parts.length:=by omega
  clear hcell hbl hx;go_enter Tryz.func74,Tryz.ntmps74;refine Qs (M:=[]) (W:=W) (N:=33) (E:=[(0,.agg ([.string ⟨name.toArray⟩,.int .i64 7,.slice Ab bs.length cb,.int .i64 size,.bool big,.int .i64 mn,.int .i64 mx,.int .i64 stop,.int .i64 count,.int .i64 elem,.slice An names.length cn,.slice (some ⟨bp,op,none⟩) parts.length cp]:List Value).toArray)]) (O:=[]) ?_ Zj QV;repeat' (first|((with_reducible show lE _ _ _ _ _ _ _ _ _);first|refine Q4 zM ?_|refine Q4 zA ?_|refine Q4 zF ?_|refine Q4 (zB 0) ?_|refine Q4 zC ?_|refine yB fun br=>?_|refine Q4 (zi1 (j:=0) (hj:=h0p)) ?_|refine Qc (Jb (size:=1) (cs:=[.int .i64 x]) rfl rfl rfl rfl rfl Q1) rfl Q1 (fun bn _=>?_)|refine Qe ?_|refine Q4 zet ?_|refine Q4 zef ?_|refine Q4 zN ?_)|((with_reducible show sE _ _ _ _ _ _ _ _);first|refine Qa ?_|refine Q6 ?_|refine Qq ?_|refine Q9 rfl ?_|refine Q8 rfl ?_|refine QB ?_)|((with_reducible show xE _ _ _ _ _ _ _);first|refine Qk ?_|refine Qm ?_))
  exact Q7 mc4 rfl (.tmp rfl) (fun w hw=>Q3v hw)
 by_cases k8:kind=8
 ·subst k8
  go_enter Tryz.func74,Tryz.ntmps74;refine Qs (M:=[]) (W:=W) (N:=33) (E:=[(0,.agg (QtJ:List Value).toArray)]) (O:=[]) ?_ Zj QV;repeat' (first|((with_reducible show lE _ _ _ _ _ _ _ _ _);first|refine Q4 zM ?_|refine Q4 zA ?_|refine Q4 zF ?_|refine Q4 (zB 0) ?_|refine yB fun br=>?_|refine Qe ?_|refine Q4 zet ?_|refine Q4 zef ?_|refine Q4 zN ?_)|((with_reducible show sE _ _ _ _ _ _ _ _);first|refine Qa ?_|refine Q6 ?_|refine Qq ?_|refine Q9 rfl ?_|refine Q8 rfl ?_|refine QB ?_)|((with_reducible show xE _ _ _ _ _ _ _);first|refine Qk ?_|refine Qm ?_))
  exact Q7 mc4 rfl (.tmp rfl) (fun w hw=>QgC HP.out (h8 rfl) hcp hw)
 rcases (show (kind=6\/kind=10)\/kind=9\/(kind=1\/kind=2\/kind=3\/kind=4\/kind=5) by omega) with (rfl|rfl)|rfl|(rfl|rfl|rfl|rfl|rfl)<;>
 ·clear k7 k8 h7 h8 hk
  go_enter Tryz.func74,Tryz.ntmps74;refine Qs (M:=[]) (W:=W) (N:=33) (E:=[(0,.agg ([.string ⟨name.toArray⟩,.int .i64 _,.slice Ab bs.length cb,.int .i64 size,.bool big,.int .i64 mn,.int .i64 mx,.int .i64 stop,.int .i64 count,.int .i64 elem,.slice An names.length cn,.slice Ap parts.length cp]:List Value).toArray)]) (O:=[]) ?_ (Ag.cons (Ag.nil rfl rfl) rfl) (Wd.start [] W);repeat' (first|((with_reducible show lE _ _ _ _ _ _ _ _ _);first|refine Q4 zM ?_|refine Q4 zA ?_|refine Q4 zF ?_|refine Q4 zS ?_|refine Q4 (zB 0) ?_|refine yB fun br=>?_|refine Qc (Jb (size:=1) (cs:=[.int .i64 count]) rfl rfl rfl rfl rfl Q1) rfl Q1 (fun bn _=>?_)|refine Qc (Jb (size:=1) (cs:=[.int .i64 elem]) rfl rfl rfl rfl rfl Q1) rfl Q1 (fun bn _=>?_)|refine Qe ?_|refine Q4 zet ?_|refine Q4 zef ?_|refine Q4 zY ?_|refine Q4 zN ?_)|((with_reducible show sE _ _ _ _ _ _ _ _);first|refine Qa ?_|refine Q6 ?_|refine Qq ?_|refine Q9 rfl ?_|refine Q8 rfl ?_|refine QB ?_)|((with_reducible show xE _ _ _ _ _ _ _);first|refine Qk ?_|refine Qm ?_))
  first|exact Q7 (by exact .inr rfl) rfl (.tmp rfl) (fun w hw=>Q3v hw)|exact Q7 (by exact .inr rfl) rfl (.tmp rfl) (fun w hw=>Q0W hw)
theorem Q82{w:World}{O:List Qb}(hl:RuL W r Ab cb An cn Ap cp)(hr:ROk n r)(hw:Wd [] W O w):
  Calls Tryz.prog 74 #[.agg (ruC r (.slice Ab r.bs.length cb) (.slice An r.names.length cn) (.slice Ap r.parts.length cp)).toArray] w (Xo (fun y:Option Addr×Nat=>.slice y.1 (bl r).length y.2) (fun y=>(bl r).length<=y.2) [] W (fun y=>.rd y.1 (bl r).length 1 (iv (bl r))::O)):=by
 refine(Q4b (hl.on hw.k.below) hr.kind (fun h=>(hr.seven h).2) (fun h=>by have:=hr.eight h;omega)).mono ?_;rintro e w' ⟨A,m,c,rfl,h1,h2,h3,h4,h5⟩;have hm:(bl r).length=m:=by have:=h1.len;rw[Q0B] at this;exact this
 subst hm;refine⟨(A,c),rfl,h2,(hw.on h3).rd_far hw h1 (fun b o e hn=>?_)⟩;rcases h4 b o e hn with h|⟨⟨o',h⟩,h0⟩
 ·exact .inl h
 ·right
  exact Qke
def Y8(F:List Rl)(k t:Nat):List Bool:=iter (ZK F k) t (List.replicate F.length false)
def YA(F:List Rl)(k t i:Nat):List Bool:=(List.range i).foldl (Zy F k) (Y8 F k t)
theorem QlC(a:List Bool)(l:List Nat):(Q5i a l).length=a.length:=(QgS a l).1.symm
theorem QeZ(F:List Rl)(k t:Nat):(Y8 F k t).length=F.length:=by
 have:=(Q1b (V6 F k) Q8n t).1;exact Qfo
theorem Qeh(F:List Rl)(k t i:Nat):(YA F k t i).length=F.length:=by
 have:=(Vk (Kk F k) (List.range i) (Y8 F k t)).1;rw[QeZ] at this;exact this.symm
theorem QdF(F:List Rl)(k t i:Nat):YA F k t (i+1)=Zy F k (YA F k t i) i:=by
 unfold YA;rw[List.range_succ,List.foldl_append];rfl
theorem Qiv{a:List Bool}{l:List Nat}{j x:Nat}(h:l[j]? =some x):Q5i a (l.take (j+1))=(Q5i a (l.take j)).set x true:=by
 rw[List.take_add_one,h];unfold Q5i;rw[List.foldl_append];rfl
end
end
section
variable {old:List Int}
theorem Qhn{old:List Int}(h:∀j:Nat,-1<=old.getD j 0/\old.getD j 0<=1001):∀(l:List Int) (n:Int),-1<=n->n<=1001->-1<=Q2F old n l/\Q2F old n l<=1001
 |[],n,h1,h2=>⟨h1,h2⟩
 |x::l,n,h1,h2=>by
  rw[Q9l];have hx:=h x.toNat;have e:lk old x=old.getD x.toNat 0:=rfl;rw[<- e] at hx
  generalize lk old x=X at hx ⊢;apply Qhn h l<;>·rw[Vd];split<;>split<;>omega
theorem Qge{old:List Int}(h:∀j:Nat,-1<=old.getD j 0/\old.getD j 0<=1001):∀(l:List Int) (n:Int),-1<=n->n<=1001->-1<=Q58 old n l/\Q58 old n l<=1001
 |[],n,h1,h2=>⟨h1,h2⟩
 |x::l,n,h1,h2=>by
  rw[Q9u];have hx:=h x.toNat;have e:lk old x=old.getD x.toNat 0:=rfl;rw[<- e] at hx
  generalize lk old x=X at hx ⊢;apply Qge h l<;>·split<;>omega
theorem QpV{F:List Rl}(hu:Usd F)(h:∀j:Nat,-1<=old.getD j 0/\old.getD j 0<=1001){i:Nat}{r:Rl}(hr:F[i]? =some r):-1<=YJ F old r/\YJ F old r<=1001:=by
 have ho:=hu.ok i r hr;have h16:=ho.bs16;have h4:=ho.size4;have h2:=ho.num;have hl:=hu.least hr;have hcx:=h r.count.toNat;have hex:=h r.elem.toNat;have e1:lk old r.count=old.getD r.count.toNat 0:=rfl;have e2:lk old r.elem=old.getD r.elem.toNat 0:=rfl;rw[<- e1] at hcx;rw[<- e2] at hex;generalize hX:lk old r.count=X at hcx;generalize hY:lk old r.elem=Y at hex;unfold YJ;rw[hX,hY];generalize hL:Kv F r.count=L at hl;split
 ·omega
 ·split
  ·next hk=>
   rcases hk with hk|hk
   ·have:=h2 hk;omega
   ·have:=h4 hk;omega
  ·split
   ·omega
   ·split
    ·omega
    ·split
     ·next hk=>
      have hL':=hl (.inl hk);split
      ·exact hcx
      ·split
       ·next hk2=>
        have hm:=Int.mul_nonneg (show 0<=L by omega) hk2.2;rw[Vd];omega
       ·omega
     ·split
      ·next hk=>
       have hL':=hl (.inr hk);split
       ·rw[Vd];omega
       ·omega
      ·split
       ·exact Qhn h _ _ Q1 Q1
       ·split
        ·exact Qge h _ _ Q1 Q1
        ·omega
theorem QiO{F:List Rl}(hu:Usd F)(h:∀j:Nat,-1<=old.getD j 0/\old.getD j 0<=1001)(j:Nat):-1<=(Y3 F old).getD j 0/\(Y3 F old).getD j 0<=1001:=by
 rcases hj:F[j]? with _|r
 ·unfold Y3
  rw[List.getD_eq_getElem?_getD,List.getElem?_map,hj];show -1<=(0:Int)/\(0:Int)<=1001;decide
 ·rw[Q5W hj];exact QpV hu h hj
theorem Q9c{F:List Rl}(hu:Usd F):∀(t j:Nat),-1<=(V4 F t).getD j 0/\(V4 F t).getD j 0<=1001
 |0,j=>by
  show -1<=(List.replicate F.length (-1:Int)).getD j 0/\(List.replicate F.length (-1:Int)).getD j 0<=1001
  rw[List.getD_eq_getElem?_getD,List.getElem?_replicate]
  split<;>exact⟨by decide,by decide⟩
 |t+1,j=>QiO hu (Q9c hu t) j
theorem Q5T.wdn{W w w':World}{O:List Qb}{l:List Int}{n:Nat}{e:Ending}(h:Q5T w l e w')(hl:l.length=n)(hw:Wd [] W O w):Xo (fun y:Option Addr×Nat=>.slice y.1 n y.2) (fun _=>True) [] W (fun y=>.row y.1 n y.2 3 1 (iv l)::O) e w':=hl▸h.wd hw
theorem QlU(i:Nat):iv (List.replicate i (-1))++[.int .i64 (-1)]=iv (List.replicate (i+1) (-1)):=by
 rw[Q2S];congr 1;exact List.replicate_succ'.symm
section
variable {A:Option Addr}{n c:Nat}{W:World}{F:List Rl}
theorem Q81(hf:QX W W.heap.size A n F)(hu:Usd F)(hn:n<=40)(hn0:0<n):
  Calls Tryz.prog 38 #[.agg #[.slice A n c]] W (Q5T W (JU F)):=by
 have hlen:F.length=n:=hf.1;obtain⟨b,o,rfl⟩:=hf.addr Q3;have HFM:=Q2 hf;have HU:=Q2 hu;have HLEN:=Q2 hlen;clear hf hu hlen;go_enter Tryz.func38,Tryz.ntmps38;refine Qs (M:=[]) (W:=W) (N:=28) (E:=[Q5R]) (O:=[]) ?_ Zj QV;refine yq<|yr ?_;refine yB fun b1=>?_;refine Qnf ?_;refine Qc6 3 1 ?_;refine X8 (ι:=Nat×Option Addr×Nat) (fun y=>y.1<=n) (fun y=>n - y.1) (fun y=>[Qi9,(3,.slice y.2.1 y.1 y.2.2),(4,.int .i64 (y.1:Int))]) (fun y=>[.row y.2.1 y.1 y.2.2 3 1 (iv (List.replicate y.1 (-1))),.blk b1 Q7w]) (0,none,0) Ze J9 Zk ?_;rintro⟨i,A1,c1⟩ hi;replace hi:i<=n:=hi;show sE _ _ _ _ _ [Qi9,(3,.slice A1 i c1),(4,.int .i64 (i:Int))] [.row A1 i c1 3 1 (iv (List.replicate i (-1))),.blk b1 Q7w] _;by_cases hin:i<n
 ·refine yq<|yq<|yr<|yo zM<|yo zF<|yo (zB 1)<|yo zL<|yo zlt<|yl<|yn<|y1<|ys<|yn<|yq<|yb<|yr<|yo zM ?_;refine Qc (Jb (size:=1) rfl rfl rfl rfl rfl Q1) rfl Q1 (fun bn _=>?_);refine Qc (Z8 1 rfl rfl rfl rfl rfl Qdl QaL Q3) rfl Q1 (fun z _=>?_);refine yo zA<|yl<|yn<|yr<|yo zM<|yo zP<|yo zA<|yl ?_;refine Qr (i+1,z.1,z.2) hin (by show n - (i+1)<n - i;omega) (.cons rfl rfl (.cons rfl rfl (.cons rfl (by go_num) .nil))) (fun w hw=>?_)
  show Wd [] W [.row z.1 (i+1) z.2 3 1 (iv (List.replicate (i+1) (-1))),_] w;rw[<- QlU];exact hw.tl
 ·obtain rfl:i=n:=by omega
  refine QkN ?_;refine X8 (ι:=Nat×Option Addr×Nat) (fun y=>y.1<=2*i+1) (fun y=>2*i+1 - y.1) (fun y=>[Qi9,(3,.slice y.2.1 i y.2.2),(5,.int .i64 (y.1:Int))]) (fun y=>[.row y.2.1 i y.2.2 3 1 (iv (V4 F y.1)),.blk b1 Qrj]) (0,A1,c1) Ze J9 (fun w hw=>by rw[<- HLEN.out] at hw ⊢;exact hw) ?_;rintro⟨k,A2,c2⟩ hk;replace hk:k<=2*i+1:=hk;show sE _ _ _ _ _ [Qi9,(3,.slice A2 i c2),(5,.int .i64 (k:Int))] [.row A2 i c2 3 1 (iv (V4 F k)),.blk b1 Qrj] _;by_cases hkn:k<=2*i
  ·refine yq<|yq<|yr<|yo zM<|yo zF<|yo (zB 1)<|yo zL ?_;refine Q4 (QsV (k:=.i64) rfl rfl Q1 rfl rfl rfl (IntWalk.i64_in _ Q3)) ?_;refine yo zqt<|yl<|yn<|y1<|ys<|yn<|yq<|yb<|yr<|yo (zD 1)<|yo zM ?_;refine Qc (XB (f:=75) (fun y:Option Addr×Nat=>.slice y.1 i y.2) (fun _=>True) (fun y=>[.row y.1 i y.2 3 1 (iv (V4 F (k+1))),.row A2 i c2 3 1 (iv (V4 F k)),.blk b1 (.cells ([.slice (some ⟨b,o,none⟩) i c]:List Value).toArray 24 (0,0))]) rfl rfl rfl (fun w hw=>(Qco (W:=w) (HFM.out.on hw.k.below) HU.out hn (Rd.of_own (hw.own 0 _ rfl)) (Q9c HU.out k) hn0).mono fun _ _ h=>h.wdn (by rw[Q2C];exact HLEN.out) hw)) rfl Q1 (fun z _=>?_);refine yo zA<|yl<|yn<|yr<|yo zM<|yo zP<|yo zA<|yl ?_;refine Qr (k+1,z.1,z.2) (by show k+1<=2*i+1;omega) (by show 2*i+1 - (k+1)<2*i+1 - k;omega) (.cons rfl rfl (.cons rfl rfl (.cons rfl (by go_num) .nil))) (fun w hw=>hw.no2)
  ·obtain rfl:k=2*i+1:=by omega
   refine yq<|yq<|yr<|yo zM<|yo zF<|yo (zB 1)<|yo zL ?_;refine Q4 Q6H ?_;refine yo zqf<|yl<|yn<|y0<|ye<|yn<|yq<|yr<|yo zM<|yo zA<|yl<|yn<|yt ?_;refine Q7 mc4 rfl (.tmp rfl) (fun w hw=>?_);have h:V4 F (2*i+1)=JU F:=by unfold JU;rw[HLEN.out]
   have hw2:Wd [] W [.row A2 i c2 3 1 (iv (V4 F (2*i+1))),.blk b1 (.cells ([.slice (some ⟨b,o,none⟩) i c]:List Value).toArray 24 (0,0))] w:=hw;rw[h] at hw2;exact QjN (by unfold JU;rw[Jh];exact HLEN.out) hw2
end
end
section
variable {E:Env}{N:Nat}{ops:Array Oper}
theorem QuD(c i:Int)(w:World):Calls Tryz.prog 20 #[.int .i64 c,.int .i64 i] w fun e w'=>e=.returned (.agg #[.int .i64 c,.int .i64 i])/\Below w.heap.size w w':=
 (K3 c i w).mono fun _ _ h=>⟨h.1,h.2▸Jr _ _⟩
theorem Qv6{C:World->Prop}{o:Oper}{d:Nat}{x:Operand}{A:Option Addr}{n c:Nat}{bs:List UInt8}(ho:o.op=.convert 25 9 x)(hd:o.dst=some d)(hN:d<N)(hw:Qi ops E o=some true)(hx:ev E x=some (.slice A n c))(hr:∀w,C w->Rd w w.heap.size 1 A n (bv bs)):oE Tryz.prog ops C N E ((d,.string ⟨bs.toArray⟩)::E) o:=
 Xd hd hN hw fun ρ w ha hc=>by
  have h:=Q9G (c:=c) (hr w hc);simp only[execOp,ho,ha.eval hx,Sem.run_bind,h,Result.andThen_ok];rfl
end
end Go.Proofs.YtphkhfdmlcnoeaaGreatDoor
