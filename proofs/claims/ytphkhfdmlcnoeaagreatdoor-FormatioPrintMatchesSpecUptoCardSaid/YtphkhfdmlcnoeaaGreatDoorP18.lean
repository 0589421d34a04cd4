import Derived.Test.YtphkhfdmlcnoeaaGreatDoorP16
import Derived.Test.YtphkhfdmlcnoeaaGreatDoorP17
namespace Go.Proofs.YtphkhfdmlcnoeaaGreatDoor
set_option linter.unusedVariables false
set_option linter.unusedSimpArgs false
set_option maxRecDepth 1000000
set_option maxHeartbeats 32000000
open Go.RowKit
section
variable {g:Nat}
theorem Qah{z:Wz}{B:Nat}{F:List Rl}(hv:Fm F):∀(d:Nd) (p:VF),WvC z B g F d p:=
 VF.all_each fun d p hall hn0 hg hnd hf hl W A c xs n k v hk h hval hsz hno=>by
  have hr:=(hv.toUsd.rok hk).kind;cases hfit:X0 F (Qh F k) d p with
  |false=>exact Qtq hv hk h hval hnd.2.1 hnd.2.2.1 hn0 hl hsz hno hfit
  |true=>
   by_cases h1:(Qh F k).kind=1
   ·exact Qw2 hv hk h hval hnd.2.1 hnd.2.2.1 hn0 hl hsz hno hfit h1
   by_cases h2:(Qh F k).kind=2
   ·exact QvY hv hk h hval hnd.2.1 hnd.2.2.1 hn0 hl hsz hno hfit h2
   by_cases h3:(Qh F k).kind=3
   ·exact QvL hv hk h hval hnd.2.1 hnd.2.2.1 hn0 hl hsz hno hfit h3
   by_cases h4:(Qh F k).kind=4
   ·exact Qw0 hv hk h hval hnd.2.1 hnd.2.2.1 hn0 hl hsz hno hfit h4
   by_cases h5:(Qh F k).kind=5
   ·exact QvO hv hk h hval hnd.2.1 hnd.2.2.1 hn0 hl hsz hno hfit h5
   by_cases h6:(Qh F k).kind=6
   ·exact QvU hall hg hf hv hk h hval hnd.2.1 hnd.2.2.1 hn0 hl hsz hno hfit h6
   by_cases h7:(Qh F k).kind=7
   ·exact QvF hall hg hf hv hk h hval hnd.2.1 hnd.2.2.1 hn0 hl hsz hno hfit h7
   by_cases h8:(Qh F k).kind=8
   ·exact QvV hall hg hf hv hk h hval hnd.2.1 hnd.2.2.1 hn0 hl hsz hno hfit h8
   by_cases h9:(Qh F k).kind=9
   ·exact QvI hall hg hf hv hk h hval hnd.2.1 hnd.2.2.1 hn0 hl hsz hno hfit h9
   exact Qvw hv hk h hval hnd.2.1 hnd.2.2.1 hn0 hl hsz hno hfit Q3
theorem Q5Y:∀(l:VF),XD l->Qv l<=l.cnt*1048876
 |.nil,_=>by simp [Qv]
 |.cons d p r,h=>by
  have a:=Q5Y p h.2.2.1;have b:=Q5Y r h.2.2.2;have c:=h.1.2.1
  simp only[Qv,VF.cnt];omega
theorem Q77{d:Nd}{l:VF}(h:Sz d l)(hv:XJ d l=(0,0)):Qy d l<=1000000000:=by
 unfold XJ at hv;cases hc:Xg (.cons d l .nil) 0 1 with
 |inl f=>
  obtain⟨c,i⟩:=f;rw[hc] at hv;simp only at hv;have:=VP _ _ _ _ _ hc;rw[Prod.mk.injEq] at hv;exact absurd hv.1 this
 |inr m=>
  have a:=Q1k _ _ _ _ hc;have b:=QcS _ _ _ _ hc;simp only[VF.cnt] at b;have g:l.cnt<=600:=by have:=a.2 Q3;omega
  have e:=Q5Y l h.2.1;have f:=h.1.2.1;unfold Qy;omega
theorem Qb6(g h:Nat)(w:World):
  CallsD Tryz.prog 44 #[.pointer (some ⟨g,0,none⟩),.pointer (some ⟨h,0,none⟩)] .returning w fun e u' w'=>e=.returned (.tuple #[])/\u'=.returning/\w'=w:=by
 refine callsD_of_wpS Tryz.func44 rfl fun c₀ cs hu=>?_;apply wpS_seq;apply wpS_region;simp [wpOpsS,go_sem,recoverD,hu,Tryz.ntmps44,Exit.thenS];refine Qgq ?_;go_wp2_with fail
 cases c₀
 simp_all [bodyPostS,results,Tryz.results44]
theorem Q89{k:Nat}{c x:Int}{M:List Nat}{W w:World}{O:List Qf}{a0 r0 r1:Value}(hw:Wd M W (.blk g (.cells ([a0]:List Value).toArray 25 (0,0))::.blk k (.cells ([r0,r1]:List Value).toArray 32 (0,0))::O) w):
  CallsD Tryz.prog 44 #[.pointer (some ⟨g,0,none⟩),.pointer (some ⟨k,0,none⟩)] (.panicking (YO c x)) w fun e u' w'=>
   e=.returned (.tuple #[])/\u'=.panicking [{ v:=.iface 32 (.agg #[.int .i64 c,.int .i64 x]),recovered:=true }]/\Wd M W (.blk g (.cells ([.slice none 0 0]:List Value).toArray 25 (0,0))::.blk k (.cells ([.int .i64 c,.int .i64 x]:List Value).toArray 32 (0,0))::O) w':=by
 refine callsD_of_wpS Tryz.func44 rfl fun c₀ cs hu=>?_;apply wpS_seq;apply wpS_region;unfold YO at hu;simp [wpOpsS,go_sem,recoverD,hu,Tryz.ntmps44,Exit.thenS];refine Qgq ?_;have hta:∀W:World,(Instr.typeAssert (.iface 32 (.agg #[.int .i64 c,.int .i64 x])) 20 32 true).run Tryz.prog W=.ok (.tuple #[.agg #[.int .i64 c,.int .i64 x],.bool true]) W:=Qba
 have heq:∀W:World,(binOp .eql 20 (.iface 32 (.agg #[.int .i64 c,.int .i64 x])) .nilIface).run Tryz.prog W=.ok (.bool false) W:=Qba
 have hui:Tryz.prog.underlying 20=some (.interface (Tryz.prog.methodsAt 20)):=by kernel_rfl
 refine Qz (M:=M) (W:=W) (N:=12) (E:=Qs9) (O:=.blk g (.cells ([a0]:List Value).toArray 25 (0,0))::.blk k (.cells ([r0,r1]:List Value).toArray 32 (0,0))::O) ?_ XW hw;refine QqB ?_;refine yA fun b3=>?_;refine QqL ?_;refine Qc 0 rfl Q5 Q76 (zD 0) ?_;refine X6 1 Q5 rfl rfl Qho Q4R rfl (fun _ _=>?_);refine X6 2 Q5 rfl rfl Qn1 Q4R rfl (fun _ _=>?_);rw[QO (by rfl)];refine X8 ?_ Q5;refine yd ?_;intro a w' ha hw';exact⟨ha.df,_,rfl,.tuple #[],by simp [results,Tryz.results44],rfl,rfl,hw'.tl⟩
end
section
variable {A:Option Addr}{b:List UInt8}{n:Nat}{v:Value}
def QcK(F:List Rl)(d:Nd)(l:VF)(W:World)(e:Ending)(w':World):Prop:=∃A c,e=.returned (.tuple #[.slice A (Js F d l).1.length c,.agg #[.int .i64 (Js F d l).2.1,.int .i64 (Js F d l).2.2]])/\New [.rd A (Js F d l).1.length 1 (bv (Js F d l).1)] W.heap.size w'/\(Js F d l).1.length<=c/\c<=maxLen/\Below W.heap.size W w'
section
variable {F:List Rl}{d:Nd}{l:VF}{W w:World}{c x:Int}
theorem Q5U(h:Js F d l=([],(c,x)))(hb:Below W.heap.size W w):QcK F d l W (.returned (.tuple #[.slice none 0 0,.agg #[.int .i64 c,.int .i64 x]])) w:=by
 refine⟨none,0,by rw[h];rfl,?_,by rw[h];exact Nat.le_refl _,Nat.zero_le _,hb⟩;rw[h];exact Yr (J7 _ _ _) (fun b hb=>by cases hb)
theorem Qgr(h:QI F≠(0,0)):Js F d l=([],QI F):=by unfold Js;rw[if_pos h]
theorem Qha(h:QI F=(0,0))(h1:XJ d l≠(0,0)):Js F d l=([],XJ d l):=by unfold Js;rw[if_neg (by simp [h]),if_pos h1]
theorem Qg4(h:QI F=(0,0))(h1:XJ d l=(0,0))(h2:Qs F 0 d l 0=.error n):Js F d l=([],(13,(n:Int))):=by
 unfold Js;rw[if_neg (by simp [h]),if_neg (by simp [h1]),Kz,h2]
theorem Qc0(h:QI F=(0,0))(h1:XJ d l=(0,0))(h2:Qs F 0 d l 0=.ok (b,n))(h3:1000<b.length):Js F d l=([],(14,-2)):=by
 unfold Js;rw[if_neg (by simp [h]),if_neg (by simp [h1]),Kz,h2];simp only;rw[if_pos h3]
theorem Q4o(h:QI F=(0,0))(h1:XJ d l=(0,0))(h2:Qs F 0 d l 0=.ok (b,n))(h3:¬1000<b.length):Js F d l=(b,(0,0)):=by
 unfold Js;rw[if_neg (by simp [h]),if_neg (by simp [h1]),Kz,h2];simp only;rw[if_neg h3]
theorem QgM{a b:Int}(h:(a,b)≠(0,0)):(!(a==0&&b==0))=true:=by
 refine Qhn ?_;by_cases h0:a=0
 ·exact .inr fun h1=>h (by rw[h0,h1])
 ·exact .inl h0
end
theorem QlD{W w:World}{O:List Qf}{c s:Nat}{t:TypeId}{xs:List Value}(i:Nat)(hw:Wd [] W O w)(hO:O[i]? =some (.row A n c t s xs)):New [.rd A n s xs] W.heap.size w:=
 Yr (Rd.of_own Q5a) fun b hb=>by
  rcases Nat.lt_or_ge b W.heap.size with hl|hl
  ·have h1:b∈[]:=hw.new i _ b hO (Q3p Q5a hb) hl
   cases h1
  ·exact hl
theorem Qdi{F:List Rl}{d:Nd}{l:VF}{c:Nat}{W:World}(hf:QS W W.heap.size A n F)(hs:FSm F)(hc:n<=c)(hg:GV W)(hv:VIn W W.heap.size v d l)(hz:QI F≠(0,0)):
  Calls Tryz.prog 15 #[.agg #[.slice A n c],v] W (QcK F d l W):=by
 have HF:=Q2 hf;have HS:=Q2 hs;have HG:=Q2 hg;have HZ:=Q2 hz;obtain⟨⟨a,b⟩,hab⟩:∃p,QI F=p:=⟨_,rfl⟩;have HAB:=Q2 hab;have hne:=QgM (hab▸hz);obtain⟨sb,sn,sp,rfl,Abv,nb,cbv,Anv,nnv,cnv,Apv,cpv,rfl,rfl,rfl,_⟩:=hv;clear hf hs hg hz hab;go_enter_defers Tryz.func15,Tryz.ntmps15;refine Qz (M:=[]) (W:=W) (N:=40) (E:=[VD,Qbg]) (O:=[]) ?_ mc3 QR;refine yq<|yr ?_;refine yB fun b2=>?_;refine yB fun b3=>?_;refine yA fun b4=>?_;refine yA fun b5=>?_;refine yl<|yn<|yq<|yq<|yr<|yo (zD 3) ?_;refine Q4 (Ql rfl rfl Q1 rfl rfl (fun w hw=>(Vs Q5m HS.out hc Q10).mono (fun e w' h=>by rw[HAB.out] at h;exact h))) ?_;refine yA fun b6=>?_;refine Qfy ?_;refine Q4 mc6 ?_;refine Q4 (Q6D rfl rfl Q1 rfl rfl rfl hne) ?_;refine yl<|yn<|y1<|yq ?_;refine Xk [.blk b6 (.cells ([.int .i64 a,.int .i64 b]:List Value).toArray 32 (0,0))] [] Q5 ?_;refine Qc 0 rfl Q5 Q76 (zD 0) ?_;refine X6 1 Q5 rfl rfl Q3A Q4R rfl (fun _ _=>?_);refine X6 2 Q5 rfl rfl Q3v Q4R rfl (fun _ _=>?_);rw[QO (by rfl)];refine X8 ?_ Q5;refine yn<|yt<|yc ?_;exact Qrr (.inr rfl) (ZS (.inr rfl) rfl (RsV.cell1 rfl (fun w hw=>hw.cell_blkL 2 rfl rfl)) Kl (fun w hw=>Q5U ((Qgr HZ.out).trans (by rw[HAB.out])) hw.k.below))
theorem Qb1{F:List Rl}{d:Nd}{l:VF}{c:Nat}{W:World}(hf:QS W W.heap.size A n F)(hs:FSm F)(hc:n<=c)(hg:GV W)(hv:VIn W W.heap.size v d l)(hsz:Sz d l)(hz:QI F=(0,0))(hz2:XJ d l≠(0,0)):
  Calls Tryz.prog 15 #[.agg #[.slice A n c],v] W (QcK F d l W):=by
 have HF:=Q2 hf;have HS:=Q2 hs;have HG:=Q2 hg;have HZ:=Q2 hz;have HZ2:=Q2 hz2;have HSZ:=Q2 hsz;have HV:=Q2 hv;obtain⟨⟨a,b⟩,hab⟩:∃p,XJ d l=p:=⟨_,rfl⟩;have HAB:=Q2 hab;have hne2:=QgM (hab▸hz2);obtain⟨sb,sn,sp,rfl,Abv,nb,cbv,Anv,nnv,cnv,Apv,cpv,rfl,rfl,rfl,_⟩:=hv;clear hf hs hg hz hab hz2 hsz;go_enter_defers Tryz.func15,Tryz.ntmps15;refine Qz (M:=[]) (W:=W) (N:=40) (E:=[VD,Qbg]) (O:=[]) ?_ mc3 QR;refine yq<|yr ?_;refine yB fun b2=>?_;refine yB fun b3=>?_;refine yA fun b4=>?_;refine yA fun b5=>?_;refine yl<|yn<|yq<|yq<|yr<|yo (zD 3) ?_;refine Q4 Qn3 ?_;refine yA fun b6=>?_;refine Q58 ?_;have hne:(!((0:Int)==0&&(0:Int)==0))=false:=rfl;refine Qlz ?_;refine yl<|yn<|y0<|ys<|yn<|yq<|yq<|yr<|yo (zD 3) ?_;refine Q4 (Ql rfl rfl Q1 rfl rfl (fun w hw=>(Q0q HSZ.out Q78).mono (fun e w' h=>by rw[HAB.out] at h;exact h))) ?_;refine yA fun b7=>?_;refine Qfy ?_;refine Q4 mc6 ?_;refine Q4 (Q6D rfl rfl Q1 rfl rfl rfl hne2) ?_;refine yl<|yn<|y1<|yq ?_;refine Xk [.blk b7 (.cells ([.int .i64 a,.int .i64 b]:List Value).toArray 32 (0,0))] [] Q5 ?_;refine Qc 0 rfl Q5 Q76 (zD 0) ?_;refine X6 1 Q5 rfl rfl Qhi Q4R rfl (fun _ _=>?_);refine X6 2 Q5 rfl rfl Qn1 Q4R rfl (fun _ _=>?_);rw[QO (by rfl)];refine X8 ?_ Q5;refine yn<|yt<|yc ?_;exact Qrr (.inr rfl) (ZS (.inr rfl) rfl (RsV.cell1 rfl (fun w hw=>hw.cell_blkL 3 rfl rfl)) Qg2 (fun w hw=>Q5U ((Qha HZ.out HZ2.out).trans (by rw[HAB.out])) hw.k.below))
section
variable {W w w':World}{O:List Qf}{g b4 b5 N:Nat}{E:Env}{R:Ending->World->Prop}{e:Exit}
abbrev prD(b4 b5:Nat):List Deferred:=[{ target:=.fn (.func 44) #[.pointer (some ⟨b4,0,none⟩),.pointer (some ⟨b5,0,none⟩)],args:=#[] }]
theorem Qm5[dq:DQ]{u:Value}(hdq:dq.D=prD b4 b5)(he:e=.normal\/e=.ret)(h4:RsV Tryz.prog (Wd [] W O) E (.cell 4 25) v)(h5:RsV Tryz.prog (Wd [] W O) E (.cell 5 32) u)(hR:∀w,Wd [] W O w->R (.returned (.tuple #[v,u])) w):xE (bodyPostD Tryz.prog Tryz.f15 R) N [] W E O e:=fun a w ha hw=>by
 have h:Leaves Tryz.prog Tryz.f15 a.tmps R a.defers .returning w:=by
  rw[ha.df,hdq];refine leaves_cons (f:=44) (args:=QgK) Qn (by simp [go_sem]) ?_;refine(Qb6 _ _ _).mono ?_;exact QqQ
 rcases he with rfl|rfl<;>exact h
theorem Qt6[dq:DQ]{a:Act}{c x:Int}{ch:List PanicEntry}{a0 r0 r1:Value}(hdq:dq.D=prD b4 b5)(hch:ch=YO c x)(h4:E.lookup 4=some (.pointer (some ⟨b4,0,none⟩)))(h5:E.lookup 5=some (.pointer (some ⟨b5,0,none⟩)))(ha:Ag N E a)(hw:Wd [] W (.blk b4 (.cells ([a0]:List Value).toArray 25 (0,0))::.blk b5 (.cells ([r0,r1]:List Value).toArray 32 (0,0))::O) w)
  (hR:∀w,Below W.heap.size W w->R (.returned (.tuple #[.slice none 0 0,.agg #[.int .i64 c,.int .i64 x]])) w):bodyPostD Tryz.prog Tryz.f15 R (.panic ch) a w:=by
 subst hch;show Leaves Tryz.prog Tryz.f15 a.tmps R a.defers (.panicking (YO c x)) w;rw[ha.df,hdq];refine leaves_cons (f:=44) (args:=QgK) Qn (by simp [go_sem]) ?_;refine(Q89 hw).mono ?_;rintro e' u' w8 ⟨rfl,rfl,hw8⟩;exact⟨_,QpH rfl (VO ha hw8 (RsV.cell1 h4 (fun w hw=>hw.cell_blkL 0 rfl rfl))) (VO ha hw8 (RsV.blk 1 h5 rfl rfl)),hR _ hw8.k.below⟩
theorem QtM{z:Wz}{res:Wtg}{cost:Nat}{e:Ending}(hw:Wd [] W (.blk g (z.obj none 0 0 0)::O) w)(h:WrE z g w none 0 [] res 0 cost e w'):JB (fun y:Wy=>.tuple #[]) (fun y=>res=.ok (y.b,y.m)) [] W (fun y=>Kw y.A y.c y.b::.blk g (z.obj y.A y.b.length y.c y.m)::O) (fun ch w'=>∃x:Nat,res=.error x/\ch=YO 13 x/\Wd [] W O w') e w':=by
 obtain⟨hk,⟨x,h1,h2⟩|⟨b,m',A',c',h1,h2,h3,h4,h5,h6,h7⟩⟩:=h
 ·exact .inr ⟨_,h2,x,h1,rfl,hw.lost hk⟩
 ·refine .inl ⟨⟨b,m',A',c'⟩,h2,h1,?_⟩;have hw2:=hw.row 5 1
  have:=hw2.upd2 (i:=1) (j:=0) (x:=.blk g (z.obj none 0 0 0)) (y:=.row none 0 0 5 1 []) (x':=.blk g (z.obj A' (([]:List UInt8)++b).length c' m')) (y':=Kw A' c' (([]:List UInt8)++b)) Q1 rfl rfl rfl rfl rfl rfl hk (fun q hq=>by
   have:q=g:=by simpa [wM,Value.ownBlock] using hq
   subst this
   exact .inl rfl) h5 h6 (fun _ h=>h) (fun q hq=>by
   rcases h7 q hq with h8|h8
   ·cases h8
   ·exact .inr h8)
  exact this
end
theorem QeB{F:List Rl}{d:Nd}{l:VF}{c:Nat}{W:World}(hf:QS W W.heap.size A n F)(hs:FSm F)(hc:n<=c)(hg:GV W)(hv:VIn W W.heap.size v d l)(hsz:Sz d l)(hz:QI F=(0,0))(hz2:XJ d l=(0,0)):
  Calls Tryz.prog 15 #[.agg #[.slice A n c],v] W (QcK F d l W):=by
 have HF:=Q2 hf;have HS:=Q2 hs;have HG:=Q2 hg;have HZ:=Q2 hz;have HZ2:=Q2 hz2;have HSZ:=Q2 hsz;have HV:=Q2 hv;have HFM:=Q2 (Q75 hz);have HK:=Q2 (show 0<=(0:Int)/\(0:Int)<F.length by have:=HFM.out.len;omega);have HGD:=Q2 (Q8W hz2);have hcost:=Q77 hsz hz2;obtain⟨sb,sn,sp,rfl,Abv,nb,cbv,Anv,nnv,cnv,Apv,cpv,rfl,rfl,rfl,_⟩:=hv;clear hf hs hg hz hz2 hsz;go_enter_defers Tryz.func15,Tryz.ntmps15;refine Qz (M:=[]) (W:=W) (N:=40) (E:=[VD,Qbg]) (O:=[]) ?_ mc3 QR;refine yq<|yr ?_;refine yB fun b2=>?_;refine yB fun b3=>?_;refine yA fun b4=>?_;refine yA fun b5=>?_;refine yl<|yn<|yq<|yq<|yr<|yo (zD 3) ?_;refine Q4 Qn3 ?_;refine yA fun b6=>?_;refine Q58 ?_;have hne:(!((0:Int)==0&&(0:Int)==0))=false:=rfl;refine Qlz ?_;refine yl<|yn<|y0<|ys<|yn<|yq<|yq<|yr<|yo (zD 3) ?_;refine Q4 (Ql rfl rfl Q1 rfl rfl (fun w hw=>(Q0q HSZ.out Q78).mono (fun e w' h=>by rw[HZ2.out] at h;exact h))) ?_;refine yA fun b7=>?_;refine Qfy ?_;refine Q4 mc6 ?_;refine Q4 QhE ?_;refine yl<|yn<|y0<|ys<|yn<|yq<|yr<|yo zu ?_;refine QhL rfl rfl rfl rfl (fun dq' hdq=>?_);refine yl ?_;replace hdq:dq'.D=prD b4 b5:=hdq;refine yn<|yq<|yr<|yo (zD 5) ?_;refine Q4 (Jv (xs:=[(0,.tmp 22)]) (vs:=[VD]) (v:=.agg #[.slice A n c,.slice none 0 0,.int .i64 0]) rfl rfl Q1 rfl rfl Q8b) ?_;refine Qd (QkT (cs:=[.slice A n c,.slice none 0 0,.int .i64 0]) rfl rfl rfl rfl) rfl Q1 (fun g hg=>?_);have hg1:=hg.1;clear hg;refine yo zA<|yl<|yn<|yq<|yr<|yo zM<|yo (zD 5) ?_;refine Qes (J9 _ _ _ rfl rfl rfl (fun w hw=>(Qah (z:=⟨A,n,c⟩) (B:=g) (g:=g) HFM.out d l HGD.out.1 HGD.out.2 HSZ.out.1 HSZ.out.2.1 HSZ.out.2.2 w none 0 [] 0 0 _ HK.out ⟨(HF.out.below hw.k.below).more hg1,Nat.le_refl _,hw.own 0 _ rfl,World.ownsRow_nil _ _ _ _,(fun b hb=>by cases hb),hc,fun w' hb=>HG.out.on (hw.k.below.trans (hb.mono hg1))⟩ ((HV.out.below hw.k.below Xr).keep (fun _ _=>rfl) hg1) (by show 0+Qy d l<=_;omega) Q3).mono (fun e w' h=>QtM hw h))) rfl Q1 (fun a ch w ha ⟨x,h1,h2,h3⟩=>Qt6 hdq h2 rfl rfl ha (h3.sel [3,2] Q1) (fun w2 hb=>Q5U (Qg4 HZ.out HZ2.out h1) hb)) (fun y hy=>?_);refine yl ?_;have HY:=Q2 hy;clear hy;by_cases hlong:1000<y.b.length
 ·have hl2:1000<(y.b.length:Int):=by omega
  refine Qf1 ?_;refine yo zF<|yo (zB 1)<|yo zL<|yo zgt<|yl<|yn<|y1<|yq<|yr ?_;refine Q4 QsK ?_;refine yS 5 ?_;refine yW 4 ?_;refine yl<|yn<|yt<|yc ?_;exact Qm5 hdq mc4 Qm9 (RsV.blk 4 rfl rfl rfl) (fun w hw=>Q5U (Qc0 HZ.out HZ2.out HY.out hlong) hw.k.below)
 ·have hl2:¬1000<(y.b.length:Int):=by omega
  refine Qf1 ?_;refine yo zF<|yo (zB 1)<|yo zL<|yo zgf<|yl<|yn<|y0<|ys<|yn<|yq<|yr<|yo zM ?_;refine Q4 QkW ?_;refine yo zF<|yo (zB 1) ?_;refine Q4 mc6 ?_;refine yS 5 ?_;refine yW 4 ?_;refine yl<|yn<|yt ?_;have hfine:=Q4o HZ.out HZ2.out HY.out hlong;exact Qm5 hdq mc4 Qm9 (RsV.blk 4 rfl rfl rfl) (fun w hw=>⟨y.A,y.c,by rw[hfine],by rw[hfine];exact QlD 0 hw rfl,by rw[hfine];exact(Q1f 0 hw rfl).1,(Q1f 0 hw rfl).2,hw.k.below⟩)
theorem Qac{F:List Rl}{d:Nd}{l:VF}{c:Nat}{W:World}(hf:QS W W.heap.size A n F)(hs:FSm F)(hc:n<=c)(hg:GV W)(hv:VIn W W.heap.size v d l)(hsz:Sz d l):
  Calls Tryz.prog 15 #[.agg #[.slice A n c],v] W (QcK F d l W):=by
 by_cases hz:QI F=(0,0)
 ·by_cases hz2:XJ d l=(0,0)
  ·exact QeB hf hs hc hg hv hsz hz hz2
  ·exact Qb1 hf hs hc hg hv hsz hz hz2
 ·exact Qdi hf hs hc hg hv hz
end
section
variable {A B Z:List Value}
def ex0:Rl:={ Qn0 [108,105,115,116] 6 with count:=1,elem:=2 }
def ex1:Rl:={ Qn0 [110] 2 with size:=1,big:=true,mx:=255 }
def ex2:Rl:={ Qn0 [120] 2 with size:=2,mx:=65535 }
def exF:List Rl:=[ex0,ex1,ex2]
theorem QlK:Xf exF=(0,0):=by kernel_rfl
theorem Qpk:decide ((K4 exF).length<=2000)=true:=by kernel_rfl
theorem Q2A:QI exF=(0,0):=by
 unfold QI;rw[QlK,if_neg (fun hh=>hh rfl),if_neg (by have:=of_decide_eq_true Qpk;omega)]
theorem Qg1:FSm exF:=by
 refine⟨by decide,fun r hr=>?_⟩;have:r=ex0\/r=ex1\/r=ex2:=by simpa [exF] using hr
 rcases this with rfl|rfl|rfl<;>exact⟨by decide,by decide,by decide,by decide,fun s hs=>by cases hs⟩
def exC(r:Rl):List Value:=ruC r (.slice none 0 0) (.slice none 0 0) (.slice none 0 0)
theorem YS{A R:List Value}:∀(us:List Value) (A R:List Value),us.length<=R.length->ZL (A++R) A.length us=A++us++R.drop us.length
 |[],A,R,_=>by simp [ZL]
 |u::us,A,[],h=>by simp at h
 |u::us,A,x::R,h=>by
  rw[ZL,List.set_append_right _ _ (Nat.le_refl _),Nat.sub_self,List.set_cons_zero]
  have e:A++u::R=(A++[u])++R:=by simp
  have e2:A.length+1=(A++[u]).length:=by simp
  rw[e,e2,YS (A:=[]) (R:=[]) us (A++[u]) R (by simpa using h)];simp
theorem Qo5(n:Nat)(hA:A.length=n)(hB:B.length=n)(hZ:Z.length=n+n):ZL (ZL Z 0 A) n B=A++B:=by
 have h1:=YS (A:=[]) (R:=[]) A [] Z Q3;simp only[List.nil_append,List.length_nil] at h1;rw[h1];have h2:=QrW;rw[hA] at h2 ⊢;rw[h2,List.drop_drop,List.drop_of_length_le Q3,List.append_nil]
theorem Qew{C:List Value}(n:Nat)(hA:A.length=n)(hB:B.length=n)(hC:C.length=n)(hZ:Z.length=n+n+n):ZL (ZL (ZL Z 0 A) n B) (n+n) C=A++B++C:=by
 have h1:=YS (A:=[]) (R:=[]) A [] Z Q3;simp only[List.nil_append,List.length_nil] at h1;rw[h1];have h2:=QrW;rw[hA] at h2 ⊢;rw[h2,List.drop_drop];have h3:=YS (A:=[]) (R:=[]) C (A++B) (Z.drop (n+B.length)) (by rw[List.length_drop];omega);rw[List.length_append,hA,hB] at h3;rw[hB,h3,List.drop_drop,List.drop_of_length_le Q3,List.append_nil]
theorem Qu4(w:World):(Instr.buildSlice 22 3 #[(0,.agg (exC ex0).toArray),(1,.agg (exC ex1).toArray),(2,.agg (exC ex2).toArray)]).run Tryz.prog w=.ok (.slice (some ⟨w.heap.size,0,none⟩) 3 3) (w.alloc (.cells (exC ex0++exC ex1++exC ex2).toArray 65)):=by
 have hT:SlT Tryz.prog 22 65 12 152:=(inferInstance:Sl Tryz.prog 22 65 12 152).h;obtain⟨i,z,hi,hz,hsz,hby,hzs⟩:=hT.info;refine run_buildSlice w _ _ 3 _ (exC ex0++exC ex1++exC ex2).toArray i z hT.und hi hz KP KP ?_;rw[hsz];obtain⟨Z,hZ,hZl⟩:∃Z:List Value,(Array.range (3*12)).map (z.cells[·% z.cells.size]!)=Z.toArray/\Z.length=36:=QqV;rw[hZ];show Instr.fill (fun i=>some (i*12,12)) Z.toArray [(0,.agg (exC ex0).toArray),(1,.agg (exC ex1).toArray),(2,.agg (exC ex2).toArray)]=_;have hfin:ZL (ZL (ZL Z 0 (exC ex0)) 12 (exC ex1)) 24 (exC ex2)=exC ex0++exC ex1++exC ex2:=Qew 12 rfl rfl rfl hZl;rw[Q0Y (o:=0) (n:=12) (cs:=exC ex0) rfl rfl rfl Q3,Q0Y (o:=12) (n:=12) (cs:=exC ex1) rfl rfl rfl (by rw[VV];omega),Q0Y (o:=24) (n:=12) (cs:=exC ex2) rfl rfl rfl (by rw[VV,VV];omega),hfin,Qcw]
theorem Qhy{w:World}{A:Option Addr}(h:Rd w w.heap.size 12 A 3 (exC ex0++exC ex1++exC ex2)):QS w w.heap.size A 3 exF:=by
 refine⟨rfl,fun h0=>?_⟩;obtain⟨b,o,e,hb,hc⟩:=h.2 h0;have hsl:∀r:Rl,r.bs=[]->r.names=[]->r.parts=[]->KI w w.heap.size r (.slice none 0 0) (.slice none 0 0) (.slice none 0 0):=fun r h1 h2 h3=>⟨none,0,0,none,0,0,none,0,0,rfl,rfl,rfl,Nat.le_refl _,Nat.le_refl _,Nat.le_refl _,by rw[h1];exact J7 _ _ _,by rw[h2];exact J7 _ _ _,by rw[h3];exact J7 _ _ _⟩;refine⟨b,o,e,hb,fun i r hr=>?_⟩;match i,hr with
 |0,hr=>cases hr;exact⟨_,_,_,⟨hc 0 _ rfl,hc 1 _ rfl,hc 2 _ rfl,hc 3 _ rfl,hc 4 _ rfl,hc 5 _ rfl,hc 6 _ rfl,hc 7 _ rfl,hc 8 _ rfl,hc 9 _ rfl,hc 10 _ rfl,hc 11 _ rfl⟩,hsl ex0 rfl rfl rfl⟩
 |1,hr=>cases hr;exact⟨_,_,_,⟨hc 12 _ rfl,hc 13 _ rfl,hc 14 _ rfl,hc 15 _ rfl,hc 16 _ rfl,hc 17 _ rfl,hc 18 _ rfl,hc 19 _ rfl,hc 20 _ rfl,hc 21 _ rfl,hc 22 _ rfl,hc 23 _ rfl⟩,hsl ex1 rfl rfl rfl⟩
 |2,hr=>cases hr;exact⟨_,_,_,⟨hc 24 _ rfl,hc 25 _ rfl,hc 26 _ rfl,hc 27 _ rfl,hc 28 _ rfl,hc 29 _ rfl,hc 30 _ rfl,hc 31 _ rfl,hc 32 _ rfl,hc 33 _ rfl,hc 34 _ rfl,hc 35 _ rfl⟩,hsl ex2 rfl rfl rfl⟩
 |n+3,hr=>cases hr
section
variable {W w:World}{O:List Qf}
theorem Wd.blkRd{b n s:Nat}{t:TypeId}{cs:List Value}(h:Wd [] W (.blk b (.cells cs.toArray t (0,0))::O) w)(hl:cs.length=n*s):Wd [] W (.rd (some ⟨b,0,none⟩) n s cs::O) w:=by
 have hft:∀q,(Qf.rd (some ⟨b,0,none⟩) n s cs).foot=some q->q=b:=fun q hq=>by
  simp only[Qf.foot] at hq;split at hq
  ·cases hq
  ·cases hq;rfl
 have hpp:=List.pairwise_cons.1 h.pairs;refine .of_pairs h.k ?_ ?_ (List.pairwise_cons.2 ⟨fun x hx q hq hq'=>?_,hpp.2⟩)
 ·intro x hx
  rcases List.mem_cons.1 hx with rfl|hx
  ·exact h.rd_blk 0 rfl hl
  ·exact h.onAll x Q1M
 ·intro x hx q hq hlt
  rcases List.mem_cons.1 hx with rfl|hx
  ·simp [Qf.w]
  ·exact h.newAll x Q1M q hq hlt
 ·have:=hft q hq;subst this;have:=hpp.1 x hx q rfl hq'
  exact Q2D
theorem Qvy(hw:Wd [] W O w):Calls Tryz.prog 25 #[] w (X7 (fun b:Nat=>.agg #[.slice (some ⟨b,0,none⟩) 3 3]) (fun _=>True) [] W (fun b=>.rd (some ⟨b,0,none⟩) 3 12 (exC ex0++exC ex1++exC ex2)::O)):=by
 go_enter Tryz.func25,Tryz.ntmps25;refine Qz (M:=[]) (W:=W) (N:=6) (E:=[]) (O:=O) ?_ (Ag.nil rfl rfl) hw;refine yq<|yr ?_;refine yA fun b0=>?_;refine yl<|yn<|yq<|yr ?_;refine Q4 (Jv (xs:=[(0,.const (.string ⟨#[108,105,115,116]⟩)),(1,.const (.int .i64 6)),(8,.const (.int .i64 1)),(9,.const (.int .i64 2))]) (vs:=[(0,.string ⟨#[108,105,115,116]⟩),(1,.int .i64 6),(8,.int .i64 1),(9,.int .i64 2)]) (v:=.agg (exC ex0).toArray) rfl rfl Q1 rfl rfl Q8b) ?_;refine Q4 (Jv (xs:=[(0,.const (.string ⟨#[110]⟩)),(1,.const (.int .i64 2)),(3,.const (.int .i64 1)),(4,.const (.bool true)),(6,.const (.int .i64 255))]) (vs:=[(0,.string ⟨#[110]⟩),(1,.int .i64 2),(3,.int .i64 1),(4,.bool true),(6,.int .i64 255)]) (v:=.agg (exC ex1).toArray) rfl rfl Q1 rfl rfl Q8b) ?_;refine Q4 (Jv (xs:=[(0,.const (.string ⟨#[120]⟩)),(1,.const (.int .i64 2)),(3,.const (.int .i64 2)),(6,.const (.int .i64 65535))]) (vs:=[(0,.string ⟨#[120]⟩),(1,.int .i64 2),(3,.int .i64 2),(6,.int .i64 65535)]) (v:=.agg (exC ex2).toArray) rfl rfl Q1 rfl rfl Q8b) ?_;refine Qd (VJ (xs:=[(0,.tmp 1),(1,.tmp 2),(2,.tmp 3)]) (vs:=[(0,.agg (exC ex0).toArray),(1,.agg (exC ex1).toArray),(2,.agg (exC ex2).toArray)]) (cells:=exC ex0++exC ex1++exC ex2) rfl rfl rfl Qu4) rfl Q1 (fun b _=>?_);refine Q4 (Jv (xs:=[(0,.tmp 4)]) (vs:=[(0,.slice Q0v 3 3)]) (v:=.agg #[.slice Q0v 3 3]) rfl rfl Q1 rfl rfl Q8b) ?_;refine yW 1 ?_;refine yl<|yn<|yt ?_;exact Q7 mc4 rfl Kl (fun w hw=>⟨b,rfl,trivial,(Wd.blkRd (n:=3) (s:=12) hw rfl).sub (.cons_cons _ (.cons _ (.refl _)))⟩)
abbrev Q5A(i:Int):List Value:=[.int .i64 1,.int .i64 i,.slice none 0 0,.slice none 0 0,.slice none 0 0]
theorem Q6H(n:Int)(w:World):Calls Tryz.prog 27 #[.int .i64 n] w fun e w'=>e=.returned (.agg (Q5A n).toArray)/\Below w.heap.size w w':=by
 go_enter Tryz.func27,Tryz.ntmps27;refine Qz (M:=[]) (W:=w) (N:=5) (E:=[(0,.int .i64 n)]) (O:=[]) ?_ Zl (Wd.start [] w);refine yq<|yr ?_;refine yA fun b2=>?_;refine yl<|yn<|yq<|yr<|yo zM ?_;refine Q4 (Jv (xs:=[(0,.const (.int .i64 1)),(1,.tmp 3)]) (vs:=[(0,.int .i64 1),(1,.int .i64 n)]) (v:=.agg (Q5A n).toArray) rfl rfl Q1 rfl rfl Q8b) ?_;refine yW 0 ?_;refine yl<|yn<|yt ?_;exact Q7 mc4 rfl Kb QbC
theorem Qml(hA:A.length=5)(hB:B.length=5)(w:World):(Instr.buildSlice 28 2 #[(0,.agg A.toArray),(1,.agg B.toArray)]).run Tryz.prog w=.ok (.slice (some ⟨w.heap.size,0,none⟩) 2 2) (w.alloc (.cells (A++B).toArray 30)):=by
 have hT:SlT Tryz.prog 28 30 5 88:=QqO;obtain⟨j,z,hi,hz,hsz,hby,hzs⟩:=hT.info;refine run_buildSlice w _ _ 2 _ (A++B).toArray j z hT.und hi hz KP KP ?_;rw[hsz];obtain⟨Z,hZ,hZl⟩:∃Z:List Value,(Array.range (2*5)).map (z.cells[·% z.cells.size]!)=Z.toArray/\Z.length=10:=QqV;rw[hZ];show Instr.fill (fun i=>some (i*5,5)) Z.toArray [(0,.agg A.toArray),(1,.agg B.toArray)]=_;rw[Q0Y (o:=0) (n:=5) (cs:=A) rfl rfl hA Q3,Q0Y (o:=5) (n:=5) (cs:=B) rfl rfl hB (by rw[VV];omega),Qcw,Qo5 5 hA hB hZl]
abbrev Qug(b:Nat):Value:=.agg #[.int .i64 3,.int .i64 0,.slice none 0 0,.slice none 0 0,.slice (some ⟨b,0,none⟩) 2 2]
abbrev Q4c(i j:Int):VF:=.cons (ndN i) .nil (.cons (ndN j) .nil .nil)
theorem Qu2(i j:Int)(hw:Wd [] W O w):Calls Tryz.prog 26 #[.agg (Q5A i).toArray,.agg (Q5A j).toArray] w (X7 (fun b:Nat=>Qug b) (fun _=>True) [] W (fun b=>.rd (some ⟨b,0,none⟩) 2 5 (Q5A i++Q5A j)::O)):=by
 go_enter Tryz.func26,Tryz.ntmps26;refine Qz (M:=[]) (W:=W) (N:=9) (E:=QjP) (O:=O) ?_ mc3 hw;refine yq<|yr ?_;refine yB fun b2=>?_;refine yB fun b3=>?_;refine yA fun b4=>?_;refine yl<|yn<|yq<|yr<|yo (zD 2)<|yo (zD 1) ?_;refine Qd (VJ (xs:=[(0,.tmp 5),(1,.tmp 6)]) (vs:=QjP) (cells:=Q5A i++Q5A j) rfl rfl rfl (Qml rfl rfl)) rfl Q1 (fun b _=>?_);refine Q4 (Jv (xs:=[(0,.const (.int .i64 3)),(4,.tmp 7)]) (vs:=[(0,.int .i64 3),(4,.slice Q0v 2 2)]) (v:=Qug b) rfl rfl Q1 rfl rfl Q8b) ?_;refine yW 1 ?_;refine yl<|yn<|yt ?_;exact Q7 mc4 rfl Kl (fun w hw=>⟨b,rfl,trivial,(Wd.blkRd (n:=2) (s:=5) hw rfl).sub (.cons_cons _ (.cons _ (.cons _ (.cons _ (.refl _)))))⟩)
theorem Qdg(i j:Int)(b:Nat):Zn [.rd (some ⟨b,0,none⟩) 2 5 (Q5A i++Q5A j)] (Qug b) ndL (Q4c i j):=
 Zn.list (l:=Q4c i j) ((Q1U.nil.snoc (Zn.num i)).snoc (Zn.num j)) (Nat.le_refl 2) Q1
def exD:List UInt8:=[2,5,0,6,0]
theorem Qhj:XK exF exD (KM exF exD) 0 0=some (.ok (ndL,Q4c 5 6,5)):=by kernel_rfl
theorem Qer:XJ ndL (Q4c 5 6)=(0,0):=by kernel_rfl
theorem Ql4:Q0j exF exD=((ndL,Q4c 5 6),(0,0)):=Q9p (y:=(ndL,Q4c 5 6,5)) Q2A Q1 Qhj Q1 Qer
theorem Qmf:Q0j exF [2,5,0]=((ndZ,.nil),(1,3)):=Qhh (x:=3) Q2A Q1 Q5
theorem Qpt:Q0j exF [0,9]=((ndZ,.nil),(1,1)):=Q8V (y:=(ndL,.nil,1)) Q2A Q1 Q5 Q1
theorem Qnv:Qs exF 0 ndL (Q4c 5 6) 0=.ok (exD,3):=by kernel_rfl
theorem QmA:Js exF ndL (Q4c 5 6)=(exD,(0,0)):=Q4o Q2A Qer Qnv Q1
end
end
section
variable {A:Option Addr}{F:List Rl}{c n:Nat}{cd x:Int}
instance iXIlC_1:En Tryz.prog 25:=⟨fun _ _=>by kernel_rfl⟩
instance iXIlC_2:En Tryz.prog 26:=⟨fun _ _=>by kernel_rfl⟩
instance iXIlC_3:En Tryz.prog 27:=⟨fun _ _=>by kernel_rfl⟩
instance iXIlC_4:En Tryz.prog 10:=⟨fun _ _=>by kernel_rfl⟩
section
variable {P:Program}{ops:Array Oper}{Q:Exit->Act->World->Prop}{N:Nat}{M:List Nat}{W:World}{E:Env}{O:List Qf}{o:Oper}{C:World->Prop}{d:Nat}
theorem Qnw(T:List Nat:=[]){id:Nat}{l:List Oper}(hm:P.follows .mixedOrders=true)(h:dE P l.toArray Q N M W O T l.length (Array.replicate l.length false) E O):sE P Q N M W E O (.region id l.toArray true):=Xk O T hm h
theorem Qge{x y:Operand}{t':TypeId}{a b a' b':Int}{v:Bool}(ho:o.op=.binOp .eql 32 x y t')(hd:o.dst=some d)(hN:d<N)(hw:Qo ops E o=some true)(hx:ev E x=some (.agg #[.int .i64 a,.int .i64 b]))(hy:ev E y=some (.agg #[.int .i64 a',.int .i64 b']))(hb:(a==a'&&b==b')=v):oE Tryz.prog ops C N E ((d,.bool v)::E) o:=
 Xi hd hN hw fun ρ w ha _=>by
  subst hb;by_cases h1:a=a'<;>by_cases h2:b=b'<;>simp [execOp,ho,ha.eval hx,ha.eval hy,h1,h2,go_sem]
end
section
variable {W w:World}{O:List Qf}
theorem Q6a{D:List UInt8}{A2:Option Addr}{m c2:Nat}{d:Nd}{l:VF}(hw:Wd [] W O w)(hf:QS w w.heap.size A n F)(hs:FSm F)(hc:n<=c)(hg:GV w)(hd:Rd w w.heap.size 1 A2 m (bv D))(hmc:m<=c2)(hc2:c2<=maxLen)(h:Q0j F D=((d,l),(cd,x)))(hF:∀k:Int,0<=k/\k<F.length->(Qh F k).kind=2\/(Qh F k).kind=6)(hz:QI F=(0,0))(hl:¬1000<D.length)(hR:∃y,XK F D (KM F D) 0 0=some y/\∀v,y=.ok v->Sz v.1 v.2.1/\XJ v.1 v.2.1=(0,0)):
  Calls Tryz.prog 11 #[.agg #[.slice A n c],.slice A2 m c2] w (X7 (fun y:Py=>.tuple #[.agg (y.cells d).toArray,.agg #[.int .i64 cd,.int .i64 x]]) (fun y=>Zn y.L (.agg (y.cells d).toArray) d l) [] W (fun y=>O++y.L)):=
 (QeE hF hR hf hs hc hg hz hd hl hmc hc2).mono fun e w' ⟨y,h1,h2,h3,h4⟩=>by
  rw[h] at h1 h2;exact⟨y,h1,h2,hw.made h4 h3⟩
theorem Qdc{d:Nd}{l:VF}{v:Value}{b:List UInt8}(hw:Wd [] W O w)(hf:QS w w.heap.size A n F)(hs:FSm F)(hc:n<=c)(hg:GV w)(hv:VIn w w.heap.size v d l)(hsz:Sz d l)(h:Js F d l=(b,(cd,x))):
  Calls Tryz.prog 15 #[.agg #[.slice A n c],v] w (X7 (fun y:Option Addr×Nat=>.tuple #[.slice y.1 b.length y.2,.agg #[.int .i64 cd,.int .i64 x]]) (fun y=>b.length<=y.2/\y.2<=maxLen) [] W (fun y=>O++[.rd y.1 b.length 1 (bv b)])):=
 (Qac hf hs hc hg hv hsz).mono fun e w' ⟨A',c',h1,h2,h3,h4,h5⟩=>by
  rw[h] at h1 h2 h3;exact⟨(A',c'),h1,⟨h3,h4⟩,hw.made h5 h2⟩
theorem Q9S{vs:List (Nat×Value)}{cells:List Value}(hn:n<=1000/\0<n)(h:∀Z:Array Value,Z.size=n*1->Instr.fill (fun i=>some (i*1,1)) Z vs=some cells.toArray)(w:World):(Instr.buildSlice 25 n vs.toArray).run Tryz.prog w=.ok (.slice (some ⟨w.heap.size,0,none⟩) n n) (w.alloc (.cells cells.toArray 5)):=by
 have hT:SlT Tryz.prog 25 5 1 1:=(inferInstance:Sl Tryz.prog 25 5 1 1).h;obtain⟨j,z,hi,hz,hsz,hby,hzs⟩:=hT.info;refine run_buildSlice w _ _ n vs.toArray cells.toArray j z hT.und hi hz KP KP ?_;rw[hsz];exact h _ Qn
end
theorem Qjx:∀k:Int,0<=k/\k<exF.length->(Qh exF k).kind=2\/(Qh exF k).kind=6:=fun k hk=>by
 have h3:exF.length=3:=rfl
 rcases (show k=0\/k=1\/k=2 by omega) with rfl|rfl|rfl<;>decide
theorem Qdp:Sz ndL (Q4c 5 6):=by
 refine⟨Qky,⟨Qky,by decide,trivial,Qky,by decide,trivial,trivial⟩,by decide⟩
theorem Qul:∃y,XK exF exD (KM exF exD) 0 0=some y/\∀v,y=.ok v->Sz v.1 v.2.1/\XJ v.1 v.2.1=(0,0):=⟨_,Qhj,fun v hv=>by cases hv;exact⟨Qdp,Qer⟩⟩
theorem QtQ:∃y,XK exF [2,5,0] (KM exF [2,5,0]) 0 0=some y/\∀v,y=.ok v->Sz v.1 v.2.1/\XJ v.1 v.2.1=(0,0):=⟨.error 3,by kernel_rfl,fun v hv=>by cases hv⟩
theorem Qtu:∃y,XK exF [0,9] (KM exF [0,9]) 0 0=some y/\∀v,y=.ok v->Sz v.1 v.2.1/\XJ v.1 v.2.1=(0,0):=⟨.ok (ndL,.nil,1),by kernel_rfl,fun v hv=>by cases hv;exact⟨⟨⟨⟨by decide,by decide,by decide,by decide⟩,by decide,by decide,fun x hx=>by cases hx⟩,trivial,by decide⟩,by kernel_rfl⟩⟩
theorem Q8m{W:World}(hg:GV W):Calls Tryz.prog 10 #[] W fun e w'=>e=.returned (.bool true)/\Below W.heap.size W w':=by
 have HG:=Q2 hg;clear hg;go_enter Tryz.func10,Tryz.ntmps10;refine Qz (M:=[]) (W:=W) (N:=65) (E:=[]) (O:=[]) ?_ (Ag.nil rfl rfl) QR;refine yq<|yr<|yo zA<|yl<|yn<|yq<|yr ?_;refine Qd Qgu rfl Q1 (fun p1 _=>?_);refine Qd Qrd rfl Q1 (fun d1 _=>?_);refine Qd (QY _ _ _ rfl rfl rfl (fun w hw=>Q6a hw (Qhy Q5n) Qg1 Xr Q10 (hw.rd_blk (n:=5) 0 rfl rfl) Xr Q1 Ql4 Qjx Q2A (by decide) Qul)) rfl Q1 (fun q1 hy1=>?_);refine Q8D ?_;refine yA fun b1=>?_;refine yA fun b2=>?_;refine yW 1 ?_;refine Q58 ?_;have HY1:=Q2 hy1;clear hy1;refine yn<|yq<|yr ?_;refine Qd Qgu rfl Q1 (fun p2 _=>?_);refine Qd (VJ (xs:=[(0,.const (.int .u8 2)),(1,.const (.int .u8 5)),(2,.const (.int .u8 0))]) (vs:=[(0,.int .u8 2),(1,.int .u8 5),(2,.int .u8 0)]) (cells:=bv [2,5,0]) rfl rfl rfl (Q9S Q1 (by rintro⟨l⟩ h;match l,h with|[z0,z1,z2],_=>rfl))) rfl Q1 (fun d2 _=>?_);refine Qd (QY _ _ _ rfl rfl rfl (fun w hw=>Q6a hw (Qhy Q5n) Qg1 Xr Q10 (hw.rd_blk (n:=3) 0 rfl rfl) Xr Q1 Qmf Qjx Q2A (by decide) QtQ)) rfl Q1 (fun q2 hy2=>?_);refine Q8D ?_;refine yA fun b3=>?_;refine yA fun b4=>?_;refine yW 1 ?_;refine Q58 ?_;clear hy2;refine yn<|yq<|yr ?_;refine Qd Qgu rfl Q1 (fun p3 _=>?_);refine Qd (VJ (xs:=[(0,.const (.int .u8 0)),(1,.const (.int .u8 9))]) (vs:=[(0,.int .u8 0),(1,.int .u8 9)]) (cells:=bv [0,9]) rfl rfl rfl (Q9S Q1 (by rintro⟨l⟩ h;match l,h with|[z0,z1],_=>rfl))) rfl Q1 (fun d3 _=>?_);refine Qd (QY _ _ _ rfl rfl rfl (fun w hw=>Q6a hw (Qhy Q5n) Qg1 Xr Q10 (hw.rd_blk (n:=2) 0 rfl rfl) Xr Q1 Qpt Qjx Q2A (by decide) Qtu)) rfl Q1 (fun q3 hy3=>?_);refine Q8D ?_;refine yA fun b5=>?_;refine yA fun b6=>?_;refine yW 1 ?_;refine Q58 ?_;clear hy3;refine yn<|yq<|yr ?_;refine Qd Qgu rfl Q1 (fun p4 _=>?_);refine Q4 QlM ?_;refine Q4 Qmp ?_;refine Qd Qm6 rfl Q1 (fun s4 _=>?_);refine Qd (QY _ _ _ rfl rfl rfl (fun w hw=>Qdc hw (Qhy Q5n) Qg1 Xr Q10 ((Qdg 5 6 s4).vin Ql7) Qdp QmA)) rfl Q1 (fun wo hyo=>?_);refine Q8D ?_;refine yA fun b8=>?_;refine Qc2 ?_;refine yl<|yn<|yq ?_;refine Qnw [] Q5 ?_;refine Qc 0 rfl Q5 KR zF ?_;refine Qc 1 rfl Q5 KR (zB 11) ?_;refine Qc 2 rfl Q5 KR zet ?_;refine Qc 3 rfl Q5 KR zM ?_;refine Qc 4 rfl Q5 KR zF ?_;refine Qc 5 rfl Q5 KR (zB 0) ?_;refine Qc 6 rfl Q5 KR zet ?_;refine Qc 7 rfl Q5 KR zY ?_;refine Qc 8 rfl Q5 KR zM ?_;refine Qc 9 rfl Q5 KR (X4 (cs:=q1.cells ndL) rfl rfl Q1 rfl rfl (fun w hw=>Wd.range_blk 12 (cs:=q1.cells ndL) rfl hw) rfl) ?_;refine Qc 10 rfl Q5 KR QlM ?_;refine Qc 11 rfl Q5 KR Qmp ?_;refine QL 12 Q5 rfl rfl Qm6 (fun _=>.inr Y0) rfl Q1 (fun s5 _=>?_);refine Qr5 13 Q5 rfl (.inr Y0) (Ql rfl rfl Q1 rfl rfl (fun w hw=>Qdj ndL (Q4c 5 6) ndL (Q4c 5 6) w _ _ Qdp.1.2.2.1 Qdp.2.2 Qdp.2.1 (HY1.out.vin fun x hx=>hw.onAll x Q7c) ((Qdg 5 6 s5).vin Ql7))) ?_;rw[(Qpv ndL (Q4c 5 6) ndL (Q4c 5 6)).2 ⟨rfl,rfl⟩];refine Qc 14 rfl Q5 Y0 zY ?_;refine Qc 15 rfl Q5 Y0 zM ?_;refine Qc 16 rfl Q5 Y0 (X4 (cs:=[.int .i64 1,.int .i64 3]) rfl rfl Q1 rfl rfl (fun w hw=>Wd.range_blk 7 (cs:=[.int .i64 1,.int .i64 3]) rfl hw) rfl) ?_;refine Qc 17 rfl Q5 Y0 Qs4 ?_;refine Qc 18 rfl Q5 Y0 Qkq ?_;refine Qc 19 rfl Q5 Y0 zY ?_;refine Qc 20 rfl Q5 Y0 zM ?_;refine Qc 21 rfl Q5 Y0 (X4 (cs:=[.int .i64 1,.int .i64 1]) rfl rfl Q1 rfl rfl (fun w hw=>Wd.range_blk 3 (cs:=[.int .i64 1,.int .i64 1]) rfl hw) rfl) ?_;refine Qc 22 rfl Q5 Y0 Qs4 ?_;refine Qc 23 rfl Q5 Y0 Qkq ?_;refine Qc 24 rfl Q5 Y0 zY ?_;refine Qc 25 rfl Q5 Y0 zM ?_;refine Qc 26 rfl Q5 Y0 zM ?_;refine QL 27 Q5 rfl rfl Qrd (fun _=>.inr Qa8) rfl Q1 (fun d5 _=>?_);refine Qr5 28 Q5 rfl (.inr Qa8) (Ql rfl rfl Q1 rfl rfl (fun w hw=>Calls.stay (Q0J (a:=exD) (b:=exD) (B:=w.heap.size) (B':=w.heap.size) (hw.onAll (.rd wo.1 exD.length 1 (bv exD)) Qn) (hw.rd_blk (n:=5) 0 rfl rfl)))) ?_;refine Qc 29 rfl Q5 Qa8 zY ?_;refine Qc 30 rfl Q5 Qa8 zA ?_;refine X8 ?_ Q5;refine yn<|yt ?_;exact Q7 mc4 rfl (.tmp rfl) (fun w hw=>⟨by rfl,hw.k.below⟩)
end
def Qtv(W:World)(e:Ending)(w':World):Prop:=e=.returned (.bool true)/\Below W.heap.size W w'
section
variable {A A2:Option Addr}{n c m c2:Nat}{W:World}{F:List Rl}{D:List UInt8}{d:Nd}{l:VF}{v:Value}
theorem neI{a:Int}(h:a≠0):(a != 0)=true:=bne_iff_ne.2 h
end
section
variable {r:Rl}
theorem QZ(n l h:Int)(w:World):Calls Tryz.prog 71 #[.int .i64 n,.int .i64 l,.int .i64 h] w fun e w'=>e=.returned (.bool (inB n l h))/\Below w.heap.size w w':=
 (Qc4 n l h w).mono fun _ _ ⟨he,hw⟩=>⟨by rw[he];congr 2;rw[Bool.eq_iff_iff,QX];simp,hw▸Below.refl _ _⟩
theorem Jz{n:Int}(hn:0<=n/\n<=4)(w:World):Calls Tryz.prog 104 #[.int .i64 n] w fun e w'=>e=.returned (.int .i64 ((256:Int) ^ n.toNat))/\Below w.heap.size w w':=by
 obtain⟨m,rfl⟩:∃m:Nat,n=(m:Int):=QdH;exact(QcF m Q3 w).mono fun _ _ ⟨he,hw⟩=>⟨by rw[he,Int.toNat_natCast],hw▸Below.refl _ _⟩
section
variable {A Ab An Ap:Option Addr}{n c cb cn cp:Nat}{W:World}
theorem QiH(hk:r.kind=2\/r.kind=3\/r.kind=4\/r.kind=5\/r.kind=6\/r.kind=9\/r.kind=10)(hn:n<=1048576):
  Calls Tryz.prog 73 #[.agg #[.slice A n c],.agg (ruC r (.slice Ab r.bs.length cb) (.slice An r.names.length cn) (.slice Ap r.parts.length cp)).toArray] W (QU W (QH r.kind r.size r.mn r.mx r.stop r.count r.elem r.parts n)):=by
 obtain⟨name,kind,bs,size,big,mn,mx,stop,count,elem,names,parts⟩:=r;simp only[ruC] at hk ⊢;rcases hk with rfl|rfl|rfl|rfl|rfl|rfl|rfl<;>
 ·go_enter Tryz.func73,Tryz.ntmps73
  refine Qz (M:=[]) (W:=W) (N:=114) (E:=[(0,.agg #[.slice A n c]),(1,.agg ([.string ⟨name.toArray⟩,.int .i64 _,.slice Ab bs.length cb,.int .i64 size,.bool big,.int .i64 mn,.int .i64 mx,.int .i64 stop,.int .i64 count,.int .i64 elem,.slice An names.length cn,.slice Ap parts.length cp]:List Value).toArray)]) (O:=[]) ?_ mc3 (Wd.start [] W);repeat' (first|((with_reducible show lE _ _ _ _ _ _ _ _ _);first|refine Q4 zM ?_|refine Q4 zA ?_|refine Q4 zF ?_|refine Q4 zS ?_|refine Q4 (zB 0) ?_|refine Q4 (zB 1) ?_|refine Va QX Qn8 (fun _=>?_) (fun _=>?_)|refine yB fun br=>?_|refine Qg ?_|refine Q4 zL ?_|refine Q4 zet ?_|refine Q4 zef ?_|refine Q4 zY ?_|refine Q4 zN ?_|refine Q4 zO ?_|refine Q4 zQ ?_)|((with_reducible show qE _ _ _ _ _ _ _);first|refine Qe zM ?_|refine Qe zA ?_|refine Qe zF ?_|refine Qe zS ?_|refine Qe (zB 0) ?_|refine Q5R QX Qn8 (fun _=>?_) (fun _=>?_)|refine Qe (Ql (f:=104) rfl rfl Q1 rfl rfl (fun w hw=>Jz Q3 w)) ?_|refine JW ?_|refine Qe zY ?_|refine Qe zN ?_|refine Q5R Q1m (Q06 rfl rfl Q1 rfl rfl rfl rfl) (fun _=>?_) (fun _=>?_)|refine Q5R Q1m (Q5j rfl rfl Q1 rfl rfl rfl rfl) (fun _=>?_) (fun _=>?_)|refine Q5R Q1m (Qdk rfl rfl Q1 rfl rfl rfl rfl) (fun _=>?_) (fun _=>?_))|((with_reducible show sE _ _ _ _ _ _ _ _);first|refine Qa ?_|refine Q6 ?_|refine Xm Q5 Q5 ?_|refine Qp ?_|refine Q9 rfl ?_|refine Q8 rfl ?_|refine QC ?_)|((with_reducible show xE _ _ _ _ _ _ _);first|refine Qb ?_|refine Qk ?_))
  all_goals exact Q7 mc4 rfl (.tmp rfl) (fun w hw=>QN (by simp [QH,inB];omega) hw)
theorem Qi2(hk:r.kind=1\/r.kind=7\/r.kind=8)(hn:n<=1048576)(hpl:r.parts.length<=1048576)(hp:Rd W W.heap.size 1 Ap r.parts.length (iv r.parts)):
  Calls Tryz.prog 73 #[.agg #[.slice A n c],.agg (ruC r (.slice Ab r.bs.length cb) (.slice An r.names.length cn) (.slice Ap r.parts.length cp)).toArray] W (QU W (QH r.kind r.size r.mn r.mx r.stop r.count r.elem r.parts n)):=by
 have hR:QH r.kind r.size r.mn r.mx r.stop r.count r.elem r.parts n=!(r.parts.any fun x=>!(inB x 0 ((n:Int) - 1))):=by
  unfold QH;rcases hk with h|h|h<;>rw[h]<;>rfl
 rw[hR];clear hR;have HP:=Q2 hp;clear hp;obtain⟨name,kind,bs,size,big,mn,mx,stop,count,elem,names,parts⟩:=r;simp only[ruC] at hk hpl HP ⊢;rcases hk with rfl|rfl|rfl<;>
 ·go_enter Tryz.func73,Tryz.ntmps73
  refine Qz (M:=[]) (W:=W) (N:=114) (E:=[(0,.agg #[.slice A n c]),(1,.agg ([.string ⟨name.toArray⟩,.int .i64 _,.slice Ab bs.length cb,.int .i64 size,.bool big,.int .i64 mn,.int .i64 mx,.int .i64 stop,.int .i64 count,.int .i64 elem,.slice An names.length cn,.slice Ap parts.length cp]:List Value).toArray)]) (O:=[]) ?_ mc3 (Wd.start [] W);refine Q2f ?_
  refine yB fun b2=>?_;refine yB fun b3=>?_;refine Q9V ?_
  refine yo zF<|yo (zB 1)<|yo zL<|yo zQ<|yo zA<|yl ?_;refine Qmx ?_
  refine yo zF<|yo (zB 0)<|yo zA<|yl ?_;refine Qmx ?_
  refine Q6W ?_
  refine Q6W ?_
  refine Q6W ?_
  refine Q6W ?_
  refine Q6W ?_
  refine Q6W ?_
  refine Q6W ?_
  refine yo zA<|yl ?_;repeat(first|((with_reducible show sE _ _ _ _ _ _ _ _);refine Qi ?_)|((with_reducible show xE _ _ _ _ _ _ _);refine Qb ?_))
  refine QK (ι:=Nat) (fun i=>i<=parts.length/\∀x∈parts.take i,inB x 0 ((n:Int) - 1)=true) (fun i=>parts.length - i) (fun i=>[(2,.pointer (some ⟨b2,0,none⟩)),(3,.pointer (some ⟨b3,0,none⟩)),(5,.int .i64 ((n:Int) - 1)),(7,.int .i64 (i:Int))]) (fun i=>[.blk b3 (.cells ([.string ⟨name.toArray⟩,.int .i64 _,.slice Ab bs.length cb,.int .i64 size,.bool big,.int .i64 mn,.int .i64 mx,.int .i64 stop,.int .i64 count,.int .i64 elem,.slice An names.length cn,.slice Ap parts.length cp]:List Value).toArray 65 (0,0)),.blk b2 (.cells ([.slice A n c]:List Value).toArray 24 (0,0))]) 0 [0,1] Q1 ⟨Nat.zero_le _,fun x hx=>by cases hx⟩ (.cons rfl rfl (.cons rfl rfl (.cons rfl rfl (.cons rfl rfl .nil)))) rfl ?_;rintro i ⟨hi,hall⟩;have HALL:=Q2 hall;clear hall;by_cases hlt:i<parts.length
  ·obtain⟨bp,op,rfl,_,hcell⟩:=HP.out.2 Q3;obtain⟨x,hx⟩:∃x,parts[i]? =some x:=⟨_,List.getElem?_eq_getElem hlt⟩;have hc0:W.cell? ⟨bp,op+i,none⟩=some (.int .i64 x):=hcell i _ (by unfold iv;rw[List.getElem?_map,hx];rfl);have HX:=Q2 hx;clear hcell hx;obtain⟨q,hq⟩:∃q,inB x 0 ((n:Int) - 1)=q:=⟨_,rfl⟩
   cases q with
   |true=>
    have HQ:=Q2 hq;refine Q2f ?_
    refine yo zM<|yo zF<|yo (zB 0)<|yo zL<|yo zlt<|yl ?_;refine QgF ?_
    refine Qqj ?_;repeat(first|((with_reducible show sE _ _ _ _ _ _ _ _);first|refine Q6 ?_|refine Qp ?_|refine Q8 rfl ?_)|((with_reducible show xE _ _ _ _ _ _ _);refine Qb ?_))
    refine yo zM<|yo zP<|yo zA<|yl ?_;refine Qt (i+1) [0,1] Q1 ⟨hlt,fun z hz=>?_⟩ Q3 mc2 rfl;rw[List.take_add_one,HX.out] at hz;rcases List.mem_append.1 hz with hz|hz
    ·exact HALL.out z hz
    ·rw[List.mem_singleton.1 hz];exact HQ.out
   |false=>
    refine Q2f ?_
    refine yo zM<|yo zF<|yo (zB 0)<|yo zL<|yo zlt<|yl ?_;refine QgF ?_
    refine Qqj ?_;refine Qcm ?_
    refine yo zA<|yl ?_;repeat(first|((with_reducible show sE _ _ _ _ _ _ _ _);refine QC ?_)|((with_reducible show xE _ _ _ _ _ _ _);first|refine Qb ?_|refine Qk ?_|refine Qu ?_))
    refine Q7 mc4 rfl (.tmp rfl) (fun w hw=>QN ?_ hw);have h:parts.any (fun x=>!(inB x 0 ((n:Int) - 1)))=true:=List.any_eq_true.2 ⟨x,List.mem_of_getElem? HX.out,by rw[hq];rfl⟩;rw[h];rfl
  ·skip
   refine Q2f ?_
   refine yo zM<|yo zF<|yo (zB 0)<|yo zL<|yo zlf<|yl ?_;refine QnH ?_
   refine yo zA<|yl ?_;repeat(first|((with_reducible show sE _ _ _ _ _ _ _ _);refine QC ?_)|((with_reducible show xE _ _ _ _ _ _ _);refine Qb ?_))
   refine Q7 (by exact .inr rfl) rfl (.tmp rfl) (fun w hw=>QN ?_ hw);have h:parts.any (fun x=>!(inB x 0 ((n:Int) - 1)))=false:=List.any_eq_false.2 fun x hx=>by
    rw[HALL.out x (by rw[List.take_of_length_le Q3];exact hx)];exact Bool.false_ne_true
   rw[h];rfl
theorem Q7S(hk:1<=r.kind/\r.kind<=10)(hn:n<=1048576)(hpl:r.parts.length<=1048576)(hp:Rd W W.heap.size 1 Ap r.parts.length (iv r.parts)):
  Calls Tryz.prog 73 #[.agg #[.slice A n c],.agg (ruC r (.slice Ab r.bs.length cb) (.slice An r.names.length cn) (.slice Ap r.parts.length cp)).toArray] W (QU W (QH r.kind r.size r.mn r.mx r.stop r.count r.elem r.parts n)):=by
 rcases (show (r.kind=2\/r.kind=3\/r.kind=4\/r.kind=5\/r.kind=6\/r.kind=9\/r.kind=10)\/(r.kind=1\/r.kind=7\/r.kind=8) by omega) with h|h
 ·exact QiH h hn
 ·exact Qi2 h hn hpl hp
end
end
theorem Ji{k size mn mx stop count elem:Int}{big:Bool}{nb nn np:Nat}:Xd k size big mn mx stop count elem nb nn np=true↔(nb=0\/k=1)/\(stop=0\/k=3\/k=5\/k=9)/\(size=0\/k=2\/k=4\/k=5)/\((big=false/\mn=0)\/k=2)/\(mx=0\/k=2\/k=3)/\(count=0\/k=6\/k=10)/\(elem=0\/k=6\/k=9)/\(nn=0\/k=7)/\(np=0\/k=7\/k=8):=by
 simp [Xd,XS,XT,Z8,QE,JS,Jo,XR,and_assoc,or_assoc]
section
variable {k size mn mx stop count elem:Int}{big:Bool}{nb nn np:Nat}
theorem Q4e(hb:big=false)(h:(nb=0\/k=1)/\(stop=0\/k=3\/k=5\/k=9)/\(size=0\/k=2\/k=4\/k=5)/\(mn=0\/k=2)/\(mx=0\/k=2\/k=3)/\(count=0\/k=6\/k=10)/\(elem=0\/k=6\/k=9)/\(nn=0\/k=7)/\(np=0\/k=7\/k=8)):false=!(Xd k size big mn mx stop count elem nb nn np):=by
 rw[Ji.2 ⟨h.1,h.2.1,h.2.2.1,h.2.2.2.1.imp (fun x=>⟨hb,x⟩) id,h.2.2.2.2⟩];rfl
theorem QiW(hk:k=2)(h:nb=0/\stop=0/\count=0/\elem=0/\nn=0/\np=0):false=!(Xd k size big mn mx stop count elem nb nn np):=by
 rw[Ji.2 ⟨.inl h.1,.inl h.2.1,.inr (.inl hk),.inr hk,.inr (.inl hk),.inl h.2.2.1,.inl h.2.2.2.1,.inl h.2.2.2.2.1,.inl h.2.2.2.2.2⟩];rfl
theorem Q4u(hb:big=true)(hk:k≠2):true=!(Xd k size big mn mx stop count elem nb nn np):=by
 have h:Xd k size big mn mx stop count elem nb nn np=false:=by
  cases hf:Xd k size big mn mx stop count elem nb nn np with
  |false=>rfl
  |true=>
   rcases (Ji.1 hf).2.2.2.1 with h|h
   ·rw[hb] at h;cases h.1
   ·exact absurd h hk
 rw[h];rfl
theorem Q3U(h:¬((nb=0\/k=1)/\(stop=0\/k=3\/k=5\/k=9)/\(size=0\/k=2\/k=4\/k=5)/\(mn=0\/k=2)/\(mx=0\/k=2\/k=3)/\(count=0\/k=6\/k=10)/\(elem=0\/k=6\/k=9)/\(nn=0\/k=7)/\(np=0\/k=7\/k=8))):true=!(Xd k size big mn mx stop count elem nb nn np):=by
 have h1:Xd k size big mn mx stop count elem nb nn np=false:=by
  cases hf:Xd k size big mn mx stop count elem nb nn np with
  |false=>rfl
  |true=>
   have h2:=Ji.1 hf;exact absurd ⟨h2.1,h2.2.1,h2.2.2.1,h2.2.2.2.1.imp (fun x=>x.2) id,h2.2.2.2.2⟩ h
 rw[h1];rfl
end
section
variable {A Ab An Ap:Option Addr}{n c cb cn cp:Nat}{W:World}
theorem Qlq{r:Rl}(hk:r.kind=1\/r.kind=2\/r.kind=3):
  Calls Tryz.prog 72 #[.agg (ruC r (.slice Ab r.bs.length cb) (.slice An r.names.length cn) (.slice Ap r.parts.length cp)).toArray] W (QU W (!(Xd r.kind r.size r.big r.mn r.mx r.stop r.count r.elem r.bs.length r.names.length r.parts.length))):=by
 obtain⟨name,kind,bs,size,big,mn,mx,stop,count,elem,names,parts⟩:=r;simp only[ruC] at hk ⊢;rcases hk with rfl|rfl|rfl<;>
 ·go_enter Tryz.func72,Tryz.ntmps72
  refine Qz (M:=[]) (W:=W) (N:=118) (E:=[(0,.agg ([.string ⟨name.toArray⟩,.int .i64 _,.slice Ab bs.length cb,.int .i64 size,.bool big,.int .i64 mn,.int .i64 mx,.int .i64 stop,.int .i64 count,.int .i64 elem,.slice An names.length cn,.slice Ap parts.length cp]:List Value).toArray)]) (O:=[]) ?_ (Ag.cons (Ag.nil rfl rfl) rfl) (Wd.start [] W);repeat' (first|((with_reducible show lE _ _ _ _ _ _ _ _ _);first|refine Va Qax (zB 0) (fun _=>?_) (fun _=>?_)|refine Q4 zM ?_|refine Q4 zA ?_|refine Q4 zF ?_|refine Q4 zS ?_|refine Q4 (zB 0) ?_|refine yB fun br=>?_|refine Qg ?_|refine Q4 zL ?_|refine Q4 znt ?_|refine Q4 znf ?_|refine Q4 zY ?_|refine Q4 zN ?_|refine Va bne_iff_ne (Q0B rfl rfl Q1 rfl rfl rfl rfl) (fun _=>?_) (fun _=>?_)|refine Va Q1m (YV rfl rfl Q1 rfl rfl rfl rfl) (fun _=>?_) (fun _=>?_))|((with_reducible show sE _ _ _ _ _ _ _ _);first|refine Qa ?_|refine Q6 ?_|refine Qp ?_|refine Q9 rfl ?_|refine Q8 rfl ?_|refine QC ?_)|((with_reducible show xE _ _ _ _ _ _ _);first|refine Qb ?_|refine Qk ?_))
  all_goals exact Q7 (by exact .inr rfl) rfl (.tmp rfl) (fun w hw=>QN (by first|exact Q3U Q3|exact Q4u QT Q1|exact Q4e (Bool.eq_false_iff.2 QT) Q3|exact QiW rfl Q3) hw)
end
section
variable {A Ab An Ap:Option Addr}{n c cb cn cp:Nat}{W:World}
theorem Qni{r:Rl}(hk:r.kind=4\/r.kind=5\/r.kind=6):
  Calls Tryz.prog 72 #[.agg (ruC r (.slice Ab r.bs.length cb) (.slice An r.names.length cn) (.slice Ap r.parts.length cp)).toArray] W (QU W (!(Xd r.kind r.size r.big r.mn r.mx r.stop r.count r.elem r.bs.length r.names.length r.parts.length))):=by
 obtain⟨name,kind,bs,size,big,mn,mx,stop,count,elem,names,parts⟩:=r;simp only[ruC] at hk ⊢;rcases hk with rfl|rfl|rfl<;>
 ·go_enter Tryz.func72,Tryz.ntmps72
  refine Qz (M:=[]) (W:=W) (N:=118) (E:=[(0,.agg ([.string ⟨name.toArray⟩,.int .i64 _,.slice Ab bs.length cb,.int .i64 size,.bool big,.int .i64 mn,.int .i64 mx,.int .i64 stop,.int .i64 count,.int .i64 elem,.slice An names.length cn,.slice Ap parts.length cp]:List Value).toArray)]) (O:=[]) ?_ (Ag.cons (Ag.nil rfl rfl) rfl) (Wd.start [] W);repeat' (first|((with_reducible show lE _ _ _ _ _ _ _ _ _);first|refine Va Qax (zB 0) (fun _=>?_) (fun _=>?_)|refine Q4 zM ?_|refine Q4 zA ?_|refine Q4 zF ?_|refine Q4 zS ?_|refine Q4 (zB 0) ?_|refine yB fun br=>?_|refine Qg ?_|refine Q4 zL ?_|refine Q4 znt ?_|refine Q4 znf ?_|refine Q4 zY ?_|refine Q4 zN ?_|refine Va bne_iff_ne (Q0B rfl rfl Q1 rfl rfl rfl rfl) (fun _=>?_) (fun _=>?_)|refine Va Q1m (YV rfl rfl Q1 rfl rfl rfl rfl) (fun _=>?_) (fun _=>?_))|((with_reducible show sE _ _ _ _ _ _ _ _);first|refine Qa ?_|refine Q6 ?_|refine Qp ?_|refine Q9 rfl ?_|refine Q8 rfl ?_|refine QC ?_)|((with_reducible show xE _ _ _ _ _ _ _);first|refine Qb ?_|refine Qk ?_))
  all_goals exact Q7 (by exact .inr rfl) rfl (.tmp rfl) (fun w hw=>QN (by first|exact Q3U Q3|exact Q4u QT Q1|exact Q4e (Bool.eq_false_iff.2 QT) Q3) hw)
end
section
variable {A Ab An Ap:Option Addr}{n c cb cn cp:Nat}{W:World}
theorem Qls{r:Rl}(hk:r.kind=7\/r.kind=8\/r.kind=9\/r.kind=10):
  Calls Tryz.prog 72 #[.agg (ruC r (.slice Ab r.bs.length cb) (.slice An r.names.length cn) (.slice Ap r.parts.length cp)).toArray] W (QU W (!(Xd r.kind r.size r.big r.mn r.mx r.stop r.count r.elem r.bs.length r.names.length r.parts.length))):=by
 obtain⟨name,kind,bs,size,big,mn,mx,stop,count,elem,names,parts⟩:=r;simp only[ruC] at hk ⊢;rcases hk with rfl|rfl|rfl|rfl<;>
 ·go_enter Tryz.func72,Tryz.ntmps72
  refine Qz (M:=[]) (W:=W) (N:=118) (E:=[(0,.agg ([.string ⟨name.toArray⟩,.int .i64 _,.slice Ab bs.length cb,.int .i64 size,.bool big,.int .i64 mn,.int .i64 mx,.int .i64 stop,.int .i64 count,.int .i64 elem,.slice An names.length cn,.slice Ap parts.length cp]:List Value).toArray)]) (O:=[]) ?_ (Ag.cons (Ag.nil rfl rfl) rfl) (Wd.start [] W);repeat' (first|((with_reducible show lE _ _ _ _ _ _ _ _ _);first|refine Va Qax (zB 0) (fun _=>?_) (fun _=>?_)|refine Q4 zM ?_|refine Q4 zA ?_|refine Q4 zF ?_|refine Q4 zS ?_|refine Q4 (zB 0) ?_|refine yB fun br=>?_|refine Qg ?_|refine Q4 zL ?_|refine Q4 znt ?_|refine Q4 znf ?_|refine Q4 zY ?_|refine Q4 zN ?_|refine Va bne_iff_ne (Q0B rfl rfl Q1 rfl rfl rfl rfl) (fun _=>?_) (fun _=>?_)|refine Va Q1m (YV rfl rfl Q1 rfl rfl rfl rfl) (fun _=>?_) (fun _=>?_))|((with_reducible show sE _ _ _ _ _ _ _ _);first|refine Qa ?_|refine Q6 ?_|refine Qp ?_|refine Q9 rfl ?_|refine Q8 rfl ?_|refine QC ?_)|((with_reducible show xE _ _ _ _ _ _ _);first|refine Qb ?_|refine Qk ?_))
  all_goals exact Q7 (by exact .inr rfl) rfl (.tmp rfl) (fun w hw=>QN (by first|exact Q3U Q3|exact Q4u QT Q1|exact Q4e (Bool.eq_false_iff.2 QT) Q3) hw)
end
section
variable {i:Nat}{s:ByteArray}
theorem Q6Z(c:UInt8):wrap64 (c.toNat:Int)=(c.toNat:Int):=by
 have:=c.toNat_lt;unfold wrap64;omega
theorem Kg{n l h:Int}{b:Bool}(e:(decide (l<=n)&&decide (n<=h))=b)(w:World):
  Calls Tryz.prog 71 #[.int .i64 n,.int .i64 l,.int .i64 h] w fun e w'=>e=.returned (.bool b)/\w=w':=by
 rw[<- e];exact Qc4 n l h w
def Qux(s:ByteArray)(k:Value):Prop:=∃i:Nat,k=.int .i64 (i:Int)/\i<=s.size/\(s.data.toList.take i).all okC=true
theorem Qbc(h:(s.data.toList.take i).all okC=true)(hi:i<s.size)(hc:okC s[i]=true):(s.data.toList.take (i+1)).all okC=true:=by
 have hx:=Q1c hi;obtain⟨h1,h2⟩:=List.getElem?_eq_some_iff.1 hx;rw[List.take_succ_eq_append_getElem h1,List.all_append,h,h2];simp [hc]
theorem Qtj(hi:i<s.size)(hc:okC s[i]=false):s.data.toList.all okC=false:=by
 have hx:=Q1c hi;obtain⟨h1,h2⟩:=List.getElem?_eq_some_iff.1 hx;rw[List.all_eq_false];exact⟨s[i],by rw[<- h2];exact List.getElem_mem h1,by simp [hc]⟩
theorem Q1H(s:ByteArray)(w:World)(hs:s.size<=9223372036854775807):Calls Tryz.prog 70 #[.string s] w fun e w'=>e=.returned (.bool (QA s.data.toList))/\w=w':=by
 by_cases h0:1<=s.size/\s.size<=32
 ·obtain⟨hp,h32⟩:=h0
  have b1:(decide ((1:Int)<=(s.size:Int))&&decide ((s.size:Int)<=32))=true:=by simp;omega
  have hpos:0<s.size:=by omega
  have HX:=Q1c (s:=s) (k:=0) hpos;by_cases hc:97<=s[0].toNat/\s[0].toNat<=122
  ·have HK:=Q2 (Q6U (l:=s.data.toList) (by simpa using h32) HX hc)
   have b2:(decide ((97:Int)<=(s[0].toNat:Int))&&decide ((s[0].toNat:Int)<=122))=true:=by simp;omega
   clear HX hc;go_enter Tryz.func70,Tryz.ntmps70;go_wp2_with fail
   refine(Kg b1 _).mono ?_;rintro e w' ⟨rfl,rfl⟩;go_wp2_with fail
   try rw[Q6Z]
   refine(Kg b2 _).mono ?_;rintro e w' ⟨rfl,rfl⟩;go_wp2_with fail
   go_loop [3] (Qux s) (fun k=>s.size - (intOf k).toNat)
   case atStart=>exact⟨0,rfl,Nat.zero_le _,rfl⟩
   case round=>
    obtain⟨i,rfl,hi,hall⟩:=hrel;have HA:=Q2 hall;clear hall b1 b2;by_cases hlt:i<s.size
    ·have hli:(i:Int)<(s.size:Int):=by omega
     have h00:(0:Int)<=(i:Int):=by omega
     have HLT:=Q2 hlt;obtain⟨c,hc⟩:∃c,s[i].toNat=c:=⟨_,rfl⟩;have HC:=Q2 hc;by_cases k1:97<=c/\c<=122
     ·have HOK:=Q2 (Qbc HA.out hlt (Q7a Q3 Q3))
      have b1:(decide ((97:Int)<=(s[i].toNat:Int))&&decide ((s[i].toNat:Int)<=122))=true:=by simp;omega
      clear k1 hc;go_wp2_with fail
      try rw[Q6Z]
      refine(Kg b1 _).mono ?_;rintro e w' ⟨rfl,rfl⟩;go_wp2_with fail
      go_round
      case rel=>exact⟨i+1,by go_num,hlt,HOK.out⟩
      case measure=>simp [intOf];omega
     ·have b1:(decide ((97:Int)<=(s[i].toNat:Int))&&decide ((s[i].toNat:Int)<=122))=false:=by
       exact Q7E
      by_cases k2:48<=c/\c<=57
      ·have HOK:=Q2 (Qbc HA.out hlt (Q8M Q3 Q3))
       have b2:(decide ((48:Int)<=(s[i].toNat:Int))&&decide ((s[i].toNat:Int)<=57))=true:=by simp;omega
       clear k1 k2 hc;go_wp2_with fail
       try rw[Q6Z]
       refine(Kg b1 _).mono ?_;rintro e w' ⟨rfl,rfl⟩;go_wp2_with fail
       try rw[Q6Z]
       refine(Kg b2 _).mono ?_;rintro e w' ⟨rfl,rfl⟩;go_wp2_with fail
       go_round
       case rel=>exact⟨i+1,by go_num,hlt,HOK.out⟩
       case measure=>simp [intOf];omega
      ·have b2:(decide ((48:Int)<=(s[i].toNat:Int))&&decide ((s[i].toNat:Int)<=57))=false:=by
        exact Q7E
       have hok:okC s[i]=Q2Q s[i]:=Q4a Q3 Q3;clear k1 k2;go_wp2_with fail
       try rw[Q6Z]
       refine(Kg b1 _).mono ?_;rintro e w' ⟨rfl,rfl⟩;go_wp2_with fail
       try rw[Q6Z]
       refine(Kg b2 _).mono ?_;rintro e w' ⟨rfl,rfl⟩;by_cases k3:s[i]=45\/s[i]=95\/s[i]=46
       ·have HOK:=Q2 (Qbc HA.out hlt (hok.trans (by rcases k3 with e|e|e<;>rw[e]<;>decide)))
        have hcc:(s[i].toNat:Int)=45\/(s[i].toNat:Int)=95\/(s[i].toNat:Int)=46:=by rcases k3 with e|e|e<;>rw[e]<;>decide
        clear k3 hok HC hc c;rcases hcc with e|e|e
        ·go_wp2_with fail
         go_round
         case rel=>exact⟨i+1,by go_num,hlt,HOK.out⟩
         case measure=>simp [intOf];omega
        ·go_wp2_with fail
         go_round
         case rel=>exact⟨i+1,by go_num,hlt,HOK.out⟩
         case measure=>simp [intOf];omega
        ·have m1:((s[i].toNat:Int) != 45)=true:=by rw[e];decide
         have m2:((s[i].toNat:Int) != 95)=true:=by rw[e];decide
         have m3:((s[i].toNat:Int) != 46)=false:=by rw[e];decide
         go_wp2_with fail
         ·rename_i h
          exact absurd (m3.symm.trans h.2) Q1
         ·go_round
          case rel=>exact⟨i+1,by go_num,hlt,HOK.out⟩
          case measure=>simp [intOf];omega
       ·have HOK:=Q2 (Qtj hlt (hok.trans (by simpa [Q2Q,and_assoc] using k3)))
        have n1:¬(s[i].toNat:Int)=45:=fun e=>k3 (.inl (UInt8.toNat_inj.1 (by show s[i].toNat=45;omega)));have n2:¬(s[i].toNat:Int)=95:=fun e=>k3 (.inr (.inl (UInt8.toNat_inj.1 (by show s[i].toNat=95;omega))));have n3:¬(s[i].toNat:Int)=46:=fun e=>k3 (.inr (.inr (UInt8.toNat_inj.1 (by show s[i].toNat=46;omega))));clear k3 hok HC hc c;have m1:((s[i].toNat:Int) != 45)=true:=by simpa using n1
        have m2:((s[i].toNat:Int) != 95)=true:=by simpa using n2
        have m3:((s[i].toNat:Int) != 46)=true:=by simpa using n3
        go_wp2_with fail
        ·go_ret
         exact⟨by rw[HK.out,HOK.out];rfl,rfl⟩
        ·rename_i h
         rcases h with (h|h)|h
         ·exact absurd (m1.symm.trans h) Q1
         ·exact absurd (m2.symm.trans h) Q1
         ·exact absurd (m3.symm.trans h) Q1
    ·have HK2:=Q2 (show s.data.toList.all okC=true by have:=HA.out;rw[List.take_of_length_le Q9d] at this;exact this)
     go_wp2_with fail
     go_ret;exact⟨by rw[HK.out,HK2.out];rfl,rfl⟩
  ·have HK:=Q2 (Q4I (l:=s.data.toList) HX hc)
   have b2:(decide ((97:Int)<=(s[0].toNat:Int))&&decide ((s[0].toNat:Int)<=122))=false:=by
    exact Q7E
   clear HX hc;go_enter Tryz.func70,Tryz.ntmps70;go_wp2_with fail
   refine(Kg b1 _).mono ?_;rintro e w' ⟨rfl,rfl⟩;go_wp2_with fail
   try rw[Q6Z]
   refine(Kg b2 _).mono ?_;rintro e w' ⟨rfl,rfl⟩;go_wp2_with fail
   exact Q6I
 ·have HK:=Q2 (show QA s.data.toList=false by
   rcases Nat.eq_zero_or_pos s.size with h|h
   ·rw[List.eq_nil_of_length_eq_zero (l:=s.data.toList) (by simpa using h)];rfl
   ·exact Q13 Q9d)
  have b1:(decide ((1:Int)<=(s.size:Int))&&decide ((s.size:Int)<=32))=false:=by
   exact Q7E
  clear h0;go_enter Tryz.func70,Tryz.ntmps70;go_wp2_with fail
  refine(Kg b1 _).mono ?_;rintro e w' ⟨rfl,rfl⟩;go_wp2_with fail
  exact Q6I
end
end Go.Proofs.YtphkhfdmlcnoeaaGreatDoor
