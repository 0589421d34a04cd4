import Derived.Test.YtphkhfdmlcnoeaaGreatDoorQ25
import Derived.Test.YtphkhfdmlcnoeaaGreatDoorQ26
import Derived.Test.YtphkhfdmlcnoeaaGreatDoorQ28
import Derived.Test.YtphkhfdmlcnoeaaGreatDoorCards
import Derived.Test.YtphkhfdmlcnoeaaGreatDoorTie
import Derived.Deep.DeepWitnessRowRef
import Derived.Lib.LaidIn
import Derived.Stop.LaidErr
namespace Go.Proofs.YtphkhfdmlcnoeaaGreatDoor
set_option linter.unusedVariables false
set_option linter.unusedSimpArgs false
set_option maxRecDepth 1000000
set_option maxHeartbeats 32000000
open Go.RowKit
section
variable {g:Nat}
theorem Q9m{z:Wz}{B:Nat}{F:List Rl}(hv:Fm F):∀(d:Nd) (p:VF),WvC z B g F d p:=
 VF.all_each fun d p hall hn0 hg hnd hf hl W A c xs n k v hk h hval hsz hno=>by
  have hr:=(hv.toUsd.rok hk).kind;cases hfit:XB F (Qj F k) d p with
  |false=>exact QtU hv hk h hval hnd.2.1 hnd.2.2.1 hn0 hl hsz hno hfit
  |true=>
   by_cases h1:(Qj F k).kind=1
   ·exact QwL hv hk h hval hnd.2.1 hnd.2.2.1 hn0 hl hsz hno hfit h1
   by_cases h2:(Qj F k).kind=2
   ·exact Qwx hv hk h hval hnd.2.1 hnd.2.2.1 hn0 hl hsz hno hfit h2
   by_cases h3:(Qj F k).kind=3
   ·exact Qwu hv hk h hval hnd.2.1 hnd.2.2.1 hn0 hl hsz hno hfit h3
   by_cases h4:(Qj F k).kind=4
   ·exact QwA hv hk h hval hnd.2.1 hnd.2.2.1 hn0 hl hsz hno hfit h4
   by_cases h5:(Qj F k).kind=5
   ·exact QwP hv hk h hval hnd.2.1 hnd.2.2.1 hn0 hl hsz hno hfit h5
   by_cases h6:(Qj F k).kind=6
   ·exact QwM hall hg hf hv hk h hval hnd.2.1 hnd.2.2.1 hn0 hl hsz hno hfit h6
   by_cases h7:(Qj F k).kind=7
   ·exact QwO hall hg hf hv hk h hval hnd.2.1 hnd.2.2.1 hn0 hl hsz hno hfit h7
   by_cases h8:(Qj F k).kind=8
   ·exact Qwl hall hg hf hv hk h hval hnd.2.1 hnd.2.2.1 hn0 hl hsz hno hfit h8
   by_cases h9:(Qj F k).kind=9
   ·exact QwF hall hg hf hv hk h hval hnd.2.1 hnd.2.2.1 hn0 hl hsz hno hfit h9
   exact QvE hv hk h hval hnd.2.1 hnd.2.2.1 hn0 hl hsz hno hfit Q2
theorem Q6R:∀(l:VF),ZV l->X0 l<=l.cnt*1048876
 |.nil,_=>by simp [X0]
 |.cons d p r,h=>by
  have a:=Q6R p h.2.2.1;have b:=Q6R r h.2.2.2;have c:=h.1.2.1
  simp only[X0,VF.cnt];omega
theorem QfU{d:Nd}{l:VF}(h:Sz d l)(hv:ZX d l=(0,0)):QK d l<=1000000000:=by
 unfold ZX at hv;cases hc:XY (.cons d l .nil) 0 1 with
 |inl f=>
  obtain⟨c,i⟩:=f;rw[hc] at hv;simp only at hv;have:=K6 _ _ _ _ _ hc;rw[Prod.mk.injEq] at hv;exact absurd hv.1 this
 |inr m=>
  have a:=Q4j _ _ _ _ hc;have b:=QdI _ _ _ _ hc;simp only[VF.cnt] at b;have g:l.cnt<=600:=by have:=a.2 Q2;omega
  have e:=Q6R l h.2.1;have f:=h.1.2.1;unfold QK;omega
theorem QaS(g h:Nat)(w:World):
  CallsD Tryz.prog 44 #[.pointer (some ⟨g,0,none⟩),.pointer (some ⟨h,0,none⟩)] .returning w fun e u' w'=>e=.returned (.tuple #[])/\u'=.returning/\w'=w:=by
 refine callsD_of_wpS Tryz.func44 rfl fun c₀ cs hu=>?_;apply wpS_seq;apply wpS_region;simp [wpOpsS,go_sem,recoverD,hu,Tryz.ntmps44,Exit.thenS];refine Qg1 ?_;go_wp2_with fail
 cases c₀
 simp_all [bodyPostS,results,Tryz.results44]
theorem Q7v{k:Nat}{c x:Int}{M:List Nat}{W w:World}{O:List Qf}{a0 r0 r1:Value}(hw:Wd M W (.blk g (.cells ([a0]:List Value).toArray 25 (0,0))::.blk k (.cells ([r0,r1]:List Value).toArray 32 (0,0))::O) w):
  CallsD Tryz.prog 44 #[.pointer (some ⟨g,0,none⟩),.pointer (some ⟨k,0,none⟩)] (.panicking (V5 c x)) w fun e u' w'=>
   e=.returned (.tuple #[])/\u'=.panicking [{ v:=.iface 32 (.agg #[.int .i64 c,.int .i64 x]),recovered:=true }]/\Wd M W (.blk g (.cells ([.slice none 0 0]:List Value).toArray 25 (0,0))::.blk k (.cells ([.int .i64 c,.int .i64 x]:List Value).toArray 32 (0,0))::O) w':=by
 refine callsD_of_wpS Tryz.func44 rfl fun c₀ cs hu=>?_;apply wpS_seq;apply wpS_region;unfold V5 at hu;simp [wpOpsS,go_sem,recoverD,hu,Tryz.ntmps44,Exit.thenS];refine Qg1 ?_;have hta:∀W:World,(Instr.typeAssert (.iface 32 (.agg #[.int .i64 c,.int .i64 x])) 20 32 true).run Tryz.prog W=.ok (.tuple #[.agg #[.int .i64 c,.int .i64 x],.bool true]) W:=Q9P
 have heq:∀W:World,(binOp .eql 20 (.iface 32 (.agg #[.int .i64 c,.int .i64 x])) .nilIface).run Tryz.prog W=.ok (.bool false) W:=Q9P
 have hui:Tryz.prog.underlying 20=some (.interface (Tryz.prog.methodsAt 20)):=by kernel_rfl
 refine Qy (M:=M) (W:=W) (N:=12) (E:=Qr7) (O:=.blk g (.cells ([a0]:List Value).toArray 25 (0,0))::.blk k (.cells ([r0,r1]:List Value).toArray 32 (0,0))::O) ?_ Ze hw;refine Qrh ?_;refine yA fun b3=>?_;refine Qss ?_;refine Qi 0 rfl Q5 Zi (zD 0) ?_;refine QB 1 Q5 rfl rfl QoI YH rfl (fun _ _=>?_);refine QB 2 Q5 rfl rfl QdB YH rfl (fun _ _=>?_);rw[Qq (by rfl)];refine Xi ?_ Q5;refine yd ?_;intro a w' ha hw';exact⟨ha.df,_,rfl,.tuple #[],by simp [results,Tryz.results44],rfl,rfl,hw'.tl⟩
end
section
variable {A:Option Addr}{b:List UInt8}{n:Nat}{v:Value}
def Qbs(F:List Rl)(d:Nd)(l:VF)(W:World)(e:Ending)(w':World):Prop:=∃A c,e=.returned (.tuple #[.slice A (Kx F d l).1.length c,.agg #[.int .i64 (Kx F d l).2.1,.int .i64 (Kx F d l).2.2]])/\New [.rd A (Kx F d l).1.length 1 (bv (Kx F d l).1)] W.heap.size w'/\(Kx F d l).1.length<=c/\c<=maxLen/\Below W.heap.size W w'
section
variable {F:List Rl}{d:Nd}{l:VF}{W w:World}{c x:Int}
theorem Q5t(h:Kx F d l=([],(c,x)))(hb:Below W.heap.size W w):Qbs F d l W (.returned (.tuple #[.slice none 0 0,.agg #[.int .i64 c,.int .i64 x]])) w:=by
 refine⟨none,0,by rw[h];rfl,?_,by rw[h];exact Nat.le_refl _,Nat.zero_le _,hb⟩;rw[h];exact YO (ZZ _ _ _) (fun b hb=>by cases hb)
theorem QoT(h:Qz F≠(0,0)):Kx F d l=([],Qz F):=by unfold Kx;rw[if_pos h]
theorem QoZ(h:Qz F=(0,0))(h1:ZX d l≠(0,0)):Kx F d l=([],ZX d l):=by unfold Kx;rw[if_neg (by simp [h]),if_pos h1]
theorem Qpk(h:Qz F=(0,0))(h1:ZX d l=(0,0))(h2:QD F 0 d l 0=.error n):Kx F d l=([],(13,(n:Int))):=by
 unfold Kx;rw[if_neg (by simp [h]),if_neg (by simp [h1]),KQ,h2]
theorem Qn5(h:Qz F=(0,0))(h1:ZX d l=(0,0))(h2:QD F 0 d l 0=.ok (b,n))(h3:1000<b.length):Kx F d l=([],(14,-2)):=by
 unfold Kx;rw[if_neg (by simp [h]),if_neg (by simp [h1]),KQ,h2];simp only;rw[if_pos h3]
theorem Q8f(h:Qz F=(0,0))(h1:ZX d l=(0,0))(h2:QD F 0 d l 0=.ok (b,n))(h3:¬1000<b.length):Kx F d l=(b,(0,0)):=by
 unfold Kx;rw[if_neg (by simp [h]),if_neg (by simp [h1]),KQ,h2];simp only;rw[if_neg h3]
theorem Qg9{a b:Int}(h:(a,b)≠(0,0)):(!(a==0&&b==0))=true:=by
 refine Q4r ?_;by_cases h0:a=0
 ·exact .inr fun h1=>h (by rw[h0,h1])
 ·exact .inl h0
end
theorem Ql2{W w:World}{O:List Qf}{c s:Nat}{t:TypeId}{xs:List Value}(i:Nat)(hw:Wd [] W O w)(hO:O[i]? =some (.row A n c t s xs)):New [.rd A n s xs] W.heap.size w:=
 YO (Rd.of_own Q8I) fun b hb=>by
  rcases Nat.lt_or_ge b W.heap.size with hl|hl
  ·have h1:b∈[]:=hw.new i _ b hO (Q5x Q8I hb) hl
   cases h1
  ·exact hl
theorem Qbf{F:List Rl}{d:Nd}{l:VF}{c:Nat}{W:World}(hf:X3 W W.heap.size A n F)(hs:FSm F)(hc:n<=c)(hg:GV W)(hv:VIn W W.heap.size v d l)(hz:Qz F≠(0,0)):
  Calls Tryz.prog 15 #[.agg #[.slice A n c],v] W (Qbs F d l W):=by
 have HF:=Q3 hf;have HS:=Q3 hs;have HG:=Q3 hg;have HZ:=Q3 hz;obtain⟨⟨a,b⟩,hab⟩:∃p,Qz F=p:=⟨_,rfl⟩;have HAB:=Q3 hab;have hne:=Qg9 (hab▸hz);obtain⟨sb,sn,sp,rfl,Abv,nb,cbv,Anv,nnv,cnv,Apv,cpv,rfl,rfl,rfl,_⟩:=hv;clear hf hs hg hz hab;go_enter_defers Tryz.func15,Tryz.ntmps15;refine Qy (M:=[]) (W:=W) (N:=40) (E:=[V6,QkD]) (O:=[]) ?_ mc3 Xs;refine yq<|yr ?_;refine yB fun b2=>?_;refine yB fun b3=>?_;refine yA fun b4=>?_;refine yA fun b5=>?_;refine yl<|yn<|yq<|yq<|yr<|yo (zD 3) ?_;refine Q4 Qqx ?_;refine yA fun b6=>?_;refine Qec ?_;refine Qwh ?_;refine Qi 0 rfl Q5 Zi (zD 0) ?_;refine QB 1 Q5 rfl rfl Q2L YH rfl (fun _ _=>?_);refine QB 2 Q5 rfl rfl Yf YH rfl (fun _ _=>?_);rw[Qq (by rfl)];refine Xi ?_ Q5;refine yn<|yt<|yc ?_;exact Qhi (.inr rfl) (Z1 (.inr rfl) rfl (RsV.cell1 rfl (fun w hw=>hw.cell_blkL 2 rfl rfl)) YW (fun w hw=>Q5t ((QoT HZ.out).trans (by rw[HAB.out])) hw.k.below))
theorem Qb1{F:List Rl}{d:Nd}{l:VF}{c:Nat}{W:World}(hf:X3 W W.heap.size A n F)(hs:FSm F)(hc:n<=c)(hg:GV W)(hv:VIn W W.heap.size v d l)(hsz:Sz d l)(hz:Qz F=(0,0))(hz2:ZX d l≠(0,0)):
  Calls Tryz.prog 15 #[.agg #[.slice A n c],v] W (Qbs F d l W):=by
 have HF:=Q3 hf;have HS:=Q3 hs;have HG:=Q3 hg;have HZ:=Q3 hz;have HZ2:=Q3 hz2;have HSZ:=Q3 hsz;have HV:=Q3 hv;obtain⟨⟨a,b⟩,hab⟩:∃p,ZX d l=p:=⟨_,rfl⟩;have HAB:=Q3 hab;have hne2:=Qg9 (hab▸hz2);obtain⟨sb,sn,sp,rfl,Abv,nb,cbv,Anv,nnv,cnv,Apv,cpv,rfl,rfl,rfl,_⟩:=hv;clear hf hs hg hz hab hz2 hsz;go_enter_defers Tryz.func15,Tryz.ntmps15;refine Qy (M:=[]) (W:=W) (N:=40) (E:=[V6,QkD]) (O:=[]) ?_ mc3 Xs;refine yq<|yr ?_;refine yB fun b2=>?_;refine yB fun b3=>?_;refine yA fun b4=>?_;refine yA fun b5=>?_;refine yl<|yn<|yq<|yq<|yr<|yo (zD 3) ?_;refine Q4 QhX ?_;refine yA fun b6=>?_;refine Q2Q ?_;have hne:(!((0:Int)==0&&(0:Int)==0))=false:=rfl;refine QdD ?_;refine yl<|yn<|y0<|ys<|yn<|yq<|yq<|yr<|yo (zD 3) ?_;refine Q4 (Qg rfl rfl Q1 rfl rfl (fun w hw=>(Q0A HSZ.out Qs3).mono (fun e w' h=>by rw[HAB.out] at h;exact h))) ?_;refine yA fun b7=>?_;refine Qec ?_;refine QvL ?_;refine QB 1 Q5 rfl rfl QhC YH rfl (fun _ _=>?_);refine QB 2 Q5 rfl rfl QdB YH rfl (fun _ _=>?_);rw[Qq (by rfl)];refine Xi ?_ Q5;refine yn<|yt<|yc ?_;exact Qhi (.inr rfl) (Z1 (.inr rfl) rfl (RsV.cell1 rfl (fun w hw=>hw.cell_blkL 3 rfl rfl)) Q4t (fun w hw=>Q5t ((QoZ HZ.out HZ2.out).trans (by rw[HAB.out])) hw.k.below))
section
variable {W w w':World}{O:List Qf}{g b4 b5 N:Nat}{E:Env}{R:Ending->World->Prop}{e:Exit}
abbrev prD(b4 b5:Nat):List Deferred:=[{ target:=.fn (.func 44) #[.pointer (some ⟨b4,0,none⟩),.pointer (some ⟨b5,0,none⟩)],args:=#[] }]
theorem Qk3[dq:DQ]{u:Value}(hdq:dq.D=prD b4 b5)(he:e=.normal\/e=.ret)(h4:RsV Tryz.prog (Wd [] W O) E (.cell 4 25) v)(h5:RsV Tryz.prog (Wd [] W O) E (.cell 5 32) u)(hR:∀w,Wd [] W O w->R (.returned (.tuple #[v,u])) w):xE (bodyPostD Tryz.prog Tryz.f15 R) N [] W E O e:=fun a w ha hw=>by
 have h:Leaves Tryz.prog Tryz.f15 a.tmps R a.defers .returning w:=by
  rw[ha.df,hdq];refine leaves_cons (f:=44) (args:=Qh5) Qn (by simp [go_sem]) ?_;refine(QaS _ _ _).mono ?_;exact QqF
 rcases he with rfl|rfl<;>exact h
theorem Qtc[dq:DQ]{a:Act}{c x:Int}{ch:List PanicEntry}{a0 r0 r1:Value}(hdq:dq.D=prD b4 b5)(hch:ch=V5 c x)(h4:E.lookup 4=some (.pointer (some ⟨b4,0,none⟩)))(h5:E.lookup 5=some (.pointer (some ⟨b5,0,none⟩)))(ha:Ag N E a)(hw:Wd [] W (.blk b4 (.cells ([a0]:List Value).toArray 25 (0,0))::.blk b5 (.cells ([r0,r1]:List Value).toArray 32 (0,0))::O) w)
  (hR:∀w,Below W.heap.size W w->R (.returned (.tuple #[.slice none 0 0,.agg #[.int .i64 c,.int .i64 x]])) w):bodyPostD Tryz.prog Tryz.f15 R (.panic ch) a w:=by
 subst hch;show Leaves Tryz.prog Tryz.f15 a.tmps R a.defers (.panicking (V5 c x)) w;rw[ha.df,hdq];refine leaves_cons (f:=44) (args:=Qh5) Qn (by simp [go_sem]) ?_;refine(Q7v hw).mono ?_;rintro e' u' w8 ⟨rfl,rfl,hw8⟩;exact⟨_,Qpi rfl (Yd ha hw8 (RsV.cell1 h4 (fun w hw=>hw.cell_blkL 0 rfl rfl))) (Yd ha hw8 (RsV.blk 1 h5 rfl rfl)),hR _ hw8.k.below⟩
theorem Qth{z:Wz}{res:Wtg}{cost:Nat}{e:Ending}(hw:Wd [] W (.blk g (z.obj none 0 0 0)::O) w)(h:WrE z g w none 0 [] res 0 cost e w'):ZK (fun y:Wy=>.tuple #[]) (fun y=>res=.ok (y.b,y.m)) [] W (fun y=>KR y.A y.c y.b::.blk g (z.obj y.A y.b.length y.c y.m)::O) (fun ch w'=>∃x:Nat,res=.error x/\ch=V5 13 x/\Wd [] W O w') e w':=by
 obtain⟨hk,⟨x,h1,h2⟩|⟨b,m',A',c',h1,h2,h3,h4,h5,h6,h7⟩⟩:=h
 ·exact .inr ⟨_,h2,x,h1,rfl,hw.lost hk⟩
 ·refine .inl ⟨⟨b,m',A',c'⟩,h2,h1,?_⟩;have hw2:=hw.row 5 1
  have:=hw2.upd2 (i:=1) (j:=0) (x:=.blk g (z.obj none 0 0 0)) (y:=.row none 0 0 5 1 []) (x':=.blk g (z.obj A' (([]:List UInt8)++b).length c' m')) (y':=KR A' c' (([]:List UInt8)++b)) Q1 rfl rfl rfl rfl rfl rfl hk (fun q hq=>by
   have:q=g:=by simpa [wM,Value.ownBlock] using hq
   subst this
   exact .inl rfl) h5 h6 (fun _ h=>h) (fun q hq=>by
   rcases h7 q hq with h8|h8
   ·cases h8
   ·exact .inr h8)
  exact this
end
theorem QeC{F:List Rl}{d:Nd}{l:VF}{c:Nat}{W:World}(hf:X3 W W.heap.size A n F)(hs:FSm F)(hc:n<=c)(hg:GV W)(hv:VIn W W.heap.size v d l)(hsz:Sz d l)(hz:Qz F=(0,0))(hz2:ZX d l=(0,0)):
  Calls Tryz.prog 15 #[.agg #[.slice A n c],v] W (Qbs F d l W):=by
 have HF:=Q3 hf;have HS:=Q3 hs;have HG:=Q3 hg;have HZ:=Q3 hz;have HZ2:=Q3 hz2;have HSZ:=Q3 hsz;have HV:=Q3 hv;have HFM:=Q3 (Q0R hz);have HK:=Q3 (show 0<=(0:Int)/\(0:Int)<F.length by have:=HFM.out.len;omega);have HGD:=Q3 (QiH hz2);have hcost:=QfU hsz hz2;obtain⟨sb,sn,sp,rfl,Abv,nb,cbv,Anv,nnv,cnv,Apv,cpv,rfl,rfl,rfl,_⟩:=hv;clear hf hs hg hz hz2 hsz;go_enter_defers Tryz.func15,Tryz.ntmps15;refine Qy (M:=[]) (W:=W) (N:=40) (E:=[V6,QkD]) (O:=[]) ?_ mc3 Xs;refine yq<|yr ?_;refine yB fun b2=>?_;refine yB fun b3=>?_;refine yA fun b4=>?_;refine yA fun b5=>?_;refine yl<|yn<|yq<|yq<|yr<|yo (zD 3) ?_;refine Q4 QhX ?_;refine yA fun b6=>?_;refine Q2Q ?_;have hne:(!((0:Int)==0&&(0:Int)==0))=false:=rfl;refine QdD ?_;refine yl<|yn<|y0<|ys<|yn<|yq<|yq<|yr<|yo (zD 3) ?_;refine Q4 (Qg rfl rfl Q1 rfl rfl (fun w hw=>(Q0A HSZ.out Qs3).mono (fun e w' h=>by rw[HZ2.out] at h;exact h))) ?_;refine yA fun b7=>?_;refine Qec ?_;refine Q4 mc6 ?_;refine Q4 Q8E ?_;refine yl<|yn<|y0<|ys<|yn<|yq<|yr<|yo zu ?_;refine QgZ rfl rfl rfl rfl (fun dq' hdq=>?_);refine yl ?_;replace hdq:dq'.D=prD b4 b5:=hdq;refine yn<|yq<|yr<|yo (zD 5) ?_;refine Q4 (X9 (xs:=[(0,.tmp 22)]) (vs:=[V6]) (v:=.agg #[.slice A n c,.slice none 0 0,.int .i64 0]) rfl rfl Q1 rfl rfl Q4a) ?_;refine Qd (Qov (cs:=[.slice A n c,.slice none 0 0,.int .i64 0]) rfl rfl rfl rfl) rfl Q1 (fun g hg=>?_);have hg1:=hg.1;clear hg;refine yo zA<|yl<|yn<|yq<|yr<|yo zM<|yo (zD 5) ?_;refine Qf6 (XE _ _ _ rfl rfl rfl (fun w hw=>(Q9m (z:=⟨A,n,c⟩) (B:=g) (g:=g) HFM.out d l HGD.out.1 HGD.out.2 HSZ.out.1 HSZ.out.2.1 HSZ.out.2.2 w none 0 [] 0 0 _ HK.out ⟨(HF.out.below hw.k.below).more hg1,Nat.le_refl _,hw.own 0 _ rfl,World.ownsRow_nil _ _ _ _,(fun b hb=>by cases hb),hc,fun w' hb=>HG.out.on (hw.k.below.trans (hb.mono hg1))⟩ ((HV.out.below hw.k.below XU).keep (fun _ _=>rfl) hg1) (by show 0+QK d l<=_;omega) Q2).mono (fun e w' h=>Qth hw h))) rfl Q1 (fun a ch w ha ⟨x,h1,h2,h3⟩=>Qtc hdq h2 rfl rfl ha (h3.sel [3,2] Q1) (fun w2 hb=>Q5t (Qpk HZ.out HZ2.out h1) hb)) (fun y hy=>?_);refine yl ?_;have HY:=Q3 hy;clear hy;by_cases hlong:1000<y.b.length
 ·have hl2:1000<(y.b.length:Int):=by omega
  refine Qfu ?_;refine yo zF<|yo (zB 1)<|yo zL<|yo zgt<|yl<|yn<|y1<|yq<|yr ?_;refine Q4 QhS ?_;refine yS 5 ?_;refine yW 4 ?_;refine yl<|yn<|yt<|yc ?_;exact Qk3 hdq mc4 Qn0 QrH (fun w hw=>Q5t (Qn5 HZ.out HZ2.out HY.out hlong) hw.k.below)
 ·have hl2:¬1000<(y.b.length:Int):=by omega
  refine Qfu ?_;refine yo zF<|yo (zB 1)<|yo zL<|yo zgf<|yl<|yn<|y0<|ys<|yn<|yq<|yr<|yo zM ?_;refine Q4 QjX ?_;refine yo zF<|yo (zB 1) ?_;refine Q4 mc6 ?_;refine yS 5 ?_;refine yW 4 ?_;refine yl<|yn<|yt ?_;have hfine:=Q8f HZ.out HZ2.out HY.out hlong;exact Qk3 hdq mc4 Qn0 QrH (fun w hw=>⟨y.A,y.c,by rw[hfine],by rw[hfine];exact Ql2 0 hw rfl,by rw[hfine];exact(JZ 0 hw rfl).1,(JZ 0 hw rfl).2,hw.k.below⟩)
theorem QaO{F:List Rl}{d:Nd}{l:VF}{c:Nat}{W:World}(hf:X3 W W.heap.size A n F)(hs:FSm F)(hc:n<=c)(hg:GV W)(hv:VIn W W.heap.size v d l)(hsz:Sz d l):
  Calls Tryz.prog 15 #[.agg #[.slice A n c],v] W (Qbs F d l W):=by
 by_cases hz:Qz F=(0,0)
 ·by_cases hz2:ZX d l=(0,0)
  ·exact QeC hf hs hc hg hv hsz hz hz2
  ·exact Qb1 hf hs hc hg hv hsz hz hz2
 ·exact Qbf hf hs hc hg hv hz
end
section
variable {A B Z:List Value}
def ex0:Rl:={ Xo [108,105,115,116] 6 with count:=1,elem:=2 }
def ex1:Rl:={ Xo [110] 2 with size:=1,big:=true,mx:=255 }
def ex2:Rl:={ Xo [120] 2 with size:=2,mx:=65535 }
def exF:List Rl:=[ex0,ex1,ex2]
theorem Ql6:Xr exF=(0,0):=by kernel_rfl
theorem QpA:decide ((YP exF).length<=2000)=true:=by kernel_rfl
theorem Qb7:Qz exF=(0,0):=by
 unfold Qz;rw[Ql6,if_neg (fun hh=>hh rfl),if_neg (by have:=of_decide_eq_true QpA;omega)]
theorem Qgx:FSm exF:=by
 refine⟨by decide,fun r hr=>?_⟩;have:r=ex0\/r=ex1\/r=ex2:=by simpa [exF] using hr
 rcases this with rfl|rfl|rfl<;>exact⟨by decide,by decide,by decide,by decide,fun s hs=>by cases hs⟩
def exC(r:Rl):List Value:=ruC r (.slice none 0 0) (.slice none 0 0) (.slice none 0 0)
theorem Kr{A R:List Value}:∀(us:List Value) (A R:List Value),us.length<=R.length->Zk (A++R) A.length us=A++us++R.drop us.length
 |[],A,R,_=>by simp [Zk]
 |u::us,A,[],h=>by simp at h
 |u::us,A,x::R,h=>by
  rw[Zk,List.set_append_right _ _ (Nat.le_refl _),Nat.sub_self,List.set_cons_zero]
  have e:A++u::R=(A++[u])++R:=by simp
  have e2:A.length+1=(A++[u]).length:=by simp
  rw[e,e2,Kr (A:=[]) (R:=[]) us (A++[u]) R (by simpa using h)];simp
theorem QmH(n:Nat)(hA:A.length=n)(hB:B.length=n)(hZ:Z.length=n+n):Zk (Zk Z 0 A) n B=A++B:=by
 have h1:=Kr (A:=[]) (R:=[]) A [] Z Q2;simp only[List.nil_append,List.length_nil] at h1;rw[h1];have h2:=QqB;rw[hA] at h2 ⊢;rw[h2,List.drop_drop,List.drop_of_length_le Q2,List.append_nil]
theorem Qf7{C:List Value}(n:Nat)(hA:A.length=n)(hB:B.length=n)(hC:C.length=n)(hZ:Z.length=n+n+n):Zk (Zk (Zk Z 0 A) n B) (n+n) C=A++B++C:=by
 have h1:=Kr (A:=[]) (R:=[]) A [] Z Q2;simp only[List.nil_append,List.length_nil] at h1;rw[h1];have h2:=QqB;rw[hA] at h2 ⊢;rw[h2,List.drop_drop];have h3:=Kr (A:=[]) (R:=[]) C (A++B) (Z.drop (n+B.length)) (by rw[List.length_drop];omega);rw[List.length_append,hA,hB] at h3;rw[hB,h3,List.drop_drop,List.drop_of_length_le Q2,List.append_nil]
theorem QtZ(w:World):(Instr.buildSlice 22 3 #[(0,.agg (exC ex0).toArray),(1,.agg (exC ex1).toArray),(2,.agg (exC ex2).toArray)]).run Tryz.prog w=.ok (.slice (some ⟨w.heap.size,0,none⟩) 3 3) (w.alloc (.cells (exC ex0++exC ex1++exC ex2).toArray 65)):=by
 have hT:SlT Tryz.prog 22 65 12 152:=(inferInstance:Sl Tryz.prog 22 65 12 152).h;obtain⟨i,z,hi,hz,hsz,hby,hzs⟩:=hT.info;refine run_buildSlice w _ _ 3 _ (exC ex0++exC ex1++exC ex2).toArray i z hT.und hi hz VX VX ?_;rw[hsz];obtain⟨Z,hZ,hZl⟩:∃Z:List Value,(Array.range (3*12)).map (z.cells[·% z.cells.size]!)=Z.toArray/\Z.length=36:=Qgi;rw[hZ];show Instr.fill (fun i=>some (i*12,12)) Z.toArray [(0,.agg (exC ex0).toArray),(1,.agg (exC ex1).toArray),(2,.agg (exC ex2).toArray)]=_;have hfin:Zk (Zk (Zk Z 0 (exC ex0)) 12 (exC ex1)) 24 (exC ex2)=exC ex0++exC ex1++exC ex2:=Qf7 12 rfl rfl rfl hZl;rw[Js (o:=0) (n:=12) (cs:=exC ex0) rfl rfl rfl Q2,Js (o:=12) (n:=12) (cs:=exC ex1) rfl rfl rfl (by rw[Z5];omega),Js (o:=24) (n:=12) (cs:=exC ex2) rfl rfl rfl (by rw[Z5,Z5];omega),hfin,Q3a]
theorem QgC{w:World}{A:Option Addr}(h:Rd w w.heap.size 12 A 3 (exC ex0++exC ex1++exC ex2)):X3 w w.heap.size A 3 exF:=by
 refine⟨rfl,fun h0=>?_⟩;obtain⟨b,o,e,hb,hc⟩:=h.2 h0;have hsl:∀r:Rl,r.bs=[]->r.names=[]->r.parts=[]->KM w w.heap.size r (.slice none 0 0) (.slice none 0 0) (.slice none 0 0):=fun r h1 h2 h3=>⟨none,0,0,none,0,0,none,0,0,rfl,rfl,rfl,Nat.le_refl _,Nat.le_refl _,Nat.le_refl _,by rw[h1];exact ZZ _ _ _,by rw[h2];exact ZZ _ _ _,by rw[h3];exact ZZ _ _ _⟩;refine⟨b,o,e,hb,fun i r hr=>?_⟩;match i,hr with
 |0,hr=>cases hr;exact⟨_,_,_,⟨hc 0 _ rfl,hc 1 _ rfl,hc 2 _ rfl,hc 3 _ rfl,hc 4 _ rfl,hc 5 _ rfl,hc 6 _ rfl,hc 7 _ rfl,hc 8 _ rfl,hc 9 _ rfl,hc 10 _ rfl,hc 11 _ rfl⟩,hsl ex0 rfl rfl rfl⟩
 |1,hr=>cases hr;exact⟨_,_,_,⟨hc 12 _ rfl,hc 13 _ rfl,hc 14 _ rfl,hc 15 _ rfl,hc 16 _ rfl,hc 17 _ rfl,hc 18 _ rfl,hc 19 _ rfl,hc 20 _ rfl,hc 21 _ rfl,hc 22 _ rfl,hc 23 _ rfl⟩,hsl ex1 rfl rfl rfl⟩
 |2,hr=>cases hr;exact⟨_,_,_,⟨hc 24 _ rfl,hc 25 _ rfl,hc 26 _ rfl,hc 27 _ rfl,hc 28 _ rfl,hc 29 _ rfl,hc 30 _ rfl,hc 31 _ rfl,hc 32 _ rfl,hc 33 _ rfl,hc 34 _ rfl,hc 35 _ rfl⟩,hsl ex2 rfl rfl rfl⟩
 |n+3,hr=>cases hr
section
variable {W w:World}{O:List Qf}
theorem Wd.blkRd{b n s:Nat}{t:TypeId}{cs:List Value}(h:Wd [] W (.blk b (.cells cs.toArray t (0,0))::O) w)(hl:cs.length=n*s):Wd [] W (.rd (some ⟨b,0,none⟩) n s cs::O) w:=by
 have hft:∀q,(Qf.rd (some ⟨b,0,none⟩) n s cs).foot=some q->q=b:=fun q hq=>by
  simp only[Qf.foot] at hq;split at hq
  ·cases hq
  ·cases hq;rfl
 have hpp:=List.pairwise_cons.1 h.pairs;refine .of_pairs h.k ?_ ?_ (List.pairwise_cons.2 ⟨fun x hx q hq hq'=>?_,hpp.2⟩)
 ·intro x hx
  rcases List.mem_cons.1 hx with rfl|hx
  ·exact h.rd_blk 0 rfl hl
  ·exact h.onAll x Q4H
 ·intro x hx q hq hlt
  rcases List.mem_cons.1 hx with rfl|hx
  ·simp [Qf.w]
  ·exact h.newAll x Q4H q hq hlt
 ·have:=hft q hq;subst this;have:=hpp.1 x hx q rfl hq'
  exact Q6S
theorem QvY(hw:Wd [] W O w):Calls Tryz.prog 25 #[] w (QN (fun b:Nat=>.agg #[.slice (some ⟨b,0,none⟩) 3 3]) (fun _=>True) [] W (fun b=>.rd (some ⟨b,0,none⟩) 3 12 (exC ex0++exC ex1++exC ex2)::O)):=by
 go_enter Tryz.func25,Tryz.ntmps25;refine Qy (M:=[]) (W:=W) (N:=6) (E:=[]) (O:=O) ?_ (Ag.nil rfl rfl) hw;refine yq<|yr ?_;refine yA fun b0=>?_;refine yl<|yn<|yq<|yr ?_;refine Q4 (X9 (xs:=Qsc) (vs:=Qrf) (v:=.agg (exC ex0).toArray) rfl rfl Q1 rfl rfl Q4a) ?_;refine Q4 (X9 (xs:=Qre) (vs:=Qsr) (v:=.agg (exC ex1).toArray) rfl rfl Q1 rfl rfl Q4a) ?_;refine Q4 (X9 (xs:=Qrt) (vs:=Qmr) (v:=.agg (exC ex2).toArray) rfl rfl Q1 rfl rfl Q4a) ?_;refine Qd (Jv (xs:=[(0,.tmp 1),(1,.tmp 2),(2,.tmp 3)]) (vs:=[(0,.agg (exC ex0).toArray),(1,.agg (exC ex1).toArray),(2,.agg (exC ex2).toArray)]) (cells:=exC ex0++exC ex1++exC ex2) rfl rfl rfl QtZ) rfl Q1 (fun b _=>?_);refine Q4 Qrg ?_;refine yW 1 ?_;refine yl<|yn<|yt ?_;exact Qb mc4 rfl YW (fun w hw=>⟨b,rfl,trivial,(Wd.blkRd (n:=3) (s:=12) hw rfl).sub (.cons_cons _ (.cons _ (.refl _)))⟩)
abbrev Q5f(i:Int):List Value:=[.int .i64 1,.int .i64 i,.slice none 0 0,.slice none 0 0,.slice none 0 0]
theorem Q7h(n:Int)(w:World):Calls Tryz.prog 27 #[.int .i64 n] w fun e w'=>e=.returned (.agg (Q5f n).toArray)/\Below w.heap.size w w':=by
 go_enter Tryz.func27,Tryz.ntmps27;refine Qy (M:=[]) (W:=w) (N:=5) (E:=[(0,.int .i64 n)]) (O:=[]) ?_ J1 Q9X;refine yq<|yr ?_;refine yA fun b2=>?_;refine yl<|yn<|yq<|yr<|yo zM ?_;refine Q4 (X9 (xs:=[(0,.const (.int .i64 1)),(1,.tmp 3)]) (vs:=[(0,.int .i64 1),(1,.int .i64 n)]) (v:=.agg (Q5f n).toArray) rfl rfl Q1 rfl rfl Q4a) ?_;refine yW 0 ?_;refine yl<|yn<|yt ?_;exact Qb mc4 rfl Qgs QbQ
theorem QnT(hA:A.length=5)(hB:B.length=5)(w:World):(Instr.buildSlice 28 2 #[(0,.agg A.toArray),(1,.agg B.toArray)]).run Tryz.prog w=.ok (.slice (some ⟨w.heap.size,0,none⟩) 2 2) (w.alloc (.cells (A++B).toArray 30)):=by
 have hT:SlT Tryz.prog 28 30 5 88:=QjL;obtain⟨j,z,hi,hz,hsz,hby,hzs⟩:=hT.info;refine run_buildSlice w _ _ 2 _ (A++B).toArray j z hT.und hi hz VX VX ?_;rw[hsz];obtain⟨Z,hZ,hZl⟩:∃Z:List Value,(Array.range (2*5)).map (z.cells[·% z.cells.size]!)=Z.toArray/\Z.length=10:=Qgi;rw[hZ];show Instr.fill (fun i=>some (i*5,5)) Z.toArray [(0,.agg A.toArray),(1,.agg B.toArray)]=_;rw[Js (o:=0) (n:=5) (cs:=A) rfl rfl hA Q2,Js (o:=5) (n:=5) (cs:=B) rfl rfl hB (by rw[Z5];omega),Q3a,QmH 5 hA hB hZl]
abbrev QtA(b:Nat):Value:=.agg #[.int .i64 3,.int .i64 0,.slice none 0 0,.slice none 0 0,.slice (some ⟨b,0,none⟩) 2 2]
abbrev Q3Q(i j:Int):VF:=.cons (ndN i) .nil (.cons (ndN j) .nil .nil)
theorem Qt1(i j:Int)(hw:Wd [] W O w):Calls Tryz.prog 26 #[.agg (Q5f i).toArray,.agg (Q5f j).toArray] w (QN (fun b:Nat=>QtA b) (fun _=>True) [] W (fun b=>.rd (some ⟨b,0,none⟩) 2 5 (Q5f i++Q5f j)::O)):=by
 go_enter Tryz.func26,Tryz.ntmps26;refine Qy (M:=[]) (W:=W) (N:=9) (E:=Qow) (O:=O) ?_ mc3 hw;refine yq<|yr ?_;refine yB fun b2=>?_;refine yB fun b3=>?_;refine yA fun b4=>?_;refine yl<|yn<|yq<|yr<|yo (zD 2)<|yo (zD 1) ?_;refine Qd (Jv (xs:=[(0,.tmp 5),(1,.tmp 6)]) (vs:=Qow) (cells:=Q5f i++Q5f j) rfl rfl rfl (QnT rfl rfl)) rfl Q1 (fun b _=>?_);refine Q4 (X9 (xs:=[(0,.const (.int .i64 3)),(4,.tmp 7)]) (vs:=[(0,.int .i64 3),(4,.slice V7 2 2)]) (v:=QtA b) rfl rfl Q1 rfl rfl Q4a) ?_;refine yW 1 ?_;refine yl<|yn<|yt ?_;exact Qb mc4 rfl YW (fun w hw=>⟨b,rfl,trivial,(Wd.blkRd (n:=2) (s:=5) hw rfl).sub (.cons_cons _ (.cons _ (.cons _ (.cons _ (.refl _)))))⟩)
theorem QbD(i j:Int)(b:Nat):XO [.rd (some ⟨b,0,none⟩) 2 5 (Q5f i++Q5f j)] (QtA b) ndL (Q3Q i j):=
 XO.list (l:=Q3Q i j) ((Vu.nil.snoc (XO.num i)).snoc (XO.num j)) (Nat.le_refl 2) Q1
def exD:List UInt8:=[2,5,0,6,0]
theorem Qq7:QA exF exD (Q00 exF exD) 0 0=some (.ok (ndL,Q3Q 5 6,5)):=by kernel_rfl
theorem Qm8:ZX ndL (Q3Q 5 6)=(0,0):=by kernel_rfl
theorem QjI:Vd exF exD=((ndL,Q3Q 5 6),(0,0)):=Q7S (y:=(ndL,Q3Q 5 6,5)) Qb7 Q1 Qq7 Q1 Qm8
theorem Qoj:Vd exF [2,5,0]=((ndZ,.nil),(1,3)):=Qhh (x:=3) Qb7 Q1 Q5
theorem Qq0:Vd exF [0,9]=((ndZ,.nil),(1,1)):=Q8J (y:=(ndL,.nil,1)) Qb7 Q1 Q5 Q1
theorem QkU:QD exF 0 ndL (Q3Q 5 6) 0=.ok (exD,3):=by kernel_rfl
theorem QkE:Kx exF ndL (Q3Q 5 6)=(exD,(0,0)):=Q8f Qb7 Qm8 QkU Q1
end
end
section
variable {A:Option Addr}{F:List Rl}{c n:Nat}{cd x:Int}
instance iXIlC_1:En Tryz.prog 25:=⟨fun _ _=>by kernel_rfl⟩
instance iXIlC_2:En Tryz.prog 26:=⟨fun _ _=>by kernel_rfl⟩
instance iXIlC_3:En Tryz.prog 27:=⟨fun _ _=>by kernel_rfl⟩
instance iXIlC_4:En Tryz.prog 10:=⟨fun _ _=>by kernel_rfl⟩
section
variable {P:Program}{ops:Array Oper}{Q:Exit->Act->World->Prop}{N:Nat}{M:List Nat}{W:World}{E:Env}{O:List Qf}{o:Oper}{C:World->Prop}{d:Nat}
theorem QkI(T:List Nat:=[]){id:Nat}{l:List Oper}(hm:P.follows .mixedOrders=true)(h:dE P l.toArray Q N M W O T l.length (Array.replicate l.length false) E O):sE P Q N M W E O (.region id l.toArray true):=Xw O T hm h
theorem Qpy{x y:Operand}{t':TypeId}{a b a' b':Int}{v:Bool}(ho:o.op=.binOp .eql 32 x y t')(hd:o.dst=some d)(hN:d<N)(hw:Qm ops E o=some true)(hx:ev E x=some (.agg #[.int .i64 a,.int .i64 b]))(hy:ev E y=some (.agg #[.int .i64 a',.int .i64 b']))(hb:(a==a'&&b==b')=v):oE Tryz.prog ops C N E ((d,.bool v)::E) o:=
 Xl hd hN hw fun ρ w ha _=>by
  subst hb;by_cases h1:a=a'<;>by_cases h2:b=b'<;>simp [execOp,ho,ha.eval hx,ha.eval hy,h1,h2,go_sem]
end
section
variable {W w:World}{O:List Qf}
theorem Q3y{D:List UInt8}{A2:Option Addr}{m c2:Nat}{d:Nd}{l:VF}(hw:Wd [] W O w)(hf:X3 w w.heap.size A n F)(hs:FSm F)(hc:n<=c)(hg:GV w)(hd:Rd w w.heap.size 1 A2 m (bv D))(hmc:m<=c2)(hc2:c2<=maxLen)(h:Vd F D=((d,l),(cd,x))):
  Calls Tryz.prog 11 #[.agg #[.slice A n c],.slice A2 m c2] w (QN (fun y:Py=>.tuple #[.agg (y.cells d).toArray,.agg #[.int .i64 cd,.int .i64 x]]) (fun y=>XO y.L (.agg (y.cells d).toArray) d l) [] W (fun y=>O++y.L)):=
 (Qdn hf hs hc hg hd hmc hc2).mono fun e w' ⟨y,h1,h2,h3,h4⟩=>by
  rw[h] at h1 h2;exact⟨y,h1,h2,hw.made h4 h3⟩
theorem Qlq{d:Nd}{l:VF}{v:Value}{b:List UInt8}(hw:Wd [] W O w)(hf:X3 w w.heap.size A n F)(hs:FSm F)(hc:n<=c)(hg:GV w)(hv:VIn w w.heap.size v d l)(hsz:Sz d l)(h:Kx F d l=(b,(cd,x))):
  Calls Tryz.prog 15 #[.agg #[.slice A n c],v] w (QN (fun y:Option Addr×Nat=>.tuple #[.slice y.1 b.length y.2,.agg #[.int .i64 cd,.int .i64 x]]) (fun y=>b.length<=y.2/\y.2<=maxLen) [] W (fun y=>O++[.rd y.1 b.length 1 (bv b)])):=
 (QaO hf hs hc hg hv hsz).mono fun e w' ⟨A',c',h1,h2,h3,h4,h5⟩=>by
  rw[h] at h1 h2 h3;exact⟨(A',c'),h1,⟨h3,h4⟩,hw.made h5 h2⟩
theorem QaW{vs:List (Nat×Value)}{cells:List Value}(hn:n<=1000/\0<n)(h:∀Z:Array Value,Z.size=n*1->Instr.fill (fun i=>some (i*1,1)) Z vs=some cells.toArray)(w:World):(Instr.buildSlice 25 n vs.toArray).run Tryz.prog w=.ok (.slice (some ⟨w.heap.size,0,none⟩) n n) (w.alloc (.cells cells.toArray 5)):=by
 have hT:SlT Tryz.prog 25 5 1 1:=(inferInstance:Sl Tryz.prog 25 5 1 1).h;obtain⟨j,z,hi,hz,hsz,hby,hzs⟩:=hT.info;refine run_buildSlice w _ _ n vs.toArray cells.toArray j z hT.und hi hz VX VX ?_;rw[hsz];exact h _ Qn
end
theorem Qhb:Sz ndL (Q3Q 5 6):=by
 refine⟨Qmf,⟨Qmf,by decide,trivial,Qmf,by decide,trivial,trivial⟩,by decide⟩
theorem Q7L{W:World}(hg:GV W):Calls Tryz.prog 10 #[] W fun e w'=>e=.returned (.bool true)/\Below W.heap.size W w':=by
 have HG:=Q3 hg;clear hg;go_enter Tryz.func10,Tryz.ntmps10;refine Qy (M:=[]) (W:=W) (N:=65) (E:=[]) (O:=[]) ?_ (Ag.nil rfl rfl) Xs;refine yq<|yr<|yo zA<|yl<|yn<|yq<|yr ?_;refine Qd QhJ rfl Q1 (fun p1 _=>?_);refine Qd QqP rfl Q1 (fun d1 _=>?_);refine Qd (QC _ _ _ rfl rfl rfl (fun w hw=>Q3y hw (QgC Q1p) Qgx XU Kt (hw.rd_blk (n:=5) 0 rfl rfl) XU Q1 QjI)) rfl Q1 (fun q1 hy1=>?_);refine Q4I ?_;refine yA fun b1=>?_;refine yA fun b2=>?_;refine yW 1 ?_;refine Q2Q ?_;have HY1:=Q3 hy1;clear hy1;refine yn<|yq<|yr ?_;refine Qd QhJ rfl Q1 (fun p2 _=>?_);refine Qd (Jv (xs:=[(0,.const (.int .u8 2)),(1,.const (.int .u8 5)),(2,.const (.int .u8 0))]) (vs:=[(0,.int .u8 2),(1,.int .u8 5),(2,.int .u8 0)]) (cells:=bv [2,5,0]) rfl rfl rfl (QaW Q1 (by rintro⟨l⟩ h;match l,h with|[z0,z1,z2],_=>rfl))) rfl Q1 (fun d2 _=>?_);refine Qd (QC _ _ _ rfl rfl rfl (fun w hw=>Q3y hw (QgC Q1p) Qgx XU Kt (hw.rd_blk (n:=3) 0 rfl rfl) XU Q1 Qoj)) rfl Q1 (fun q2 hy2=>?_);refine Q4I ?_;refine yA fun b3=>?_;refine yA fun b4=>?_;refine yW 1 ?_;refine Q2Q ?_;clear hy2;refine yn<|yq<|yr ?_;refine Qd QhJ rfl Q1 (fun p3 _=>?_);refine Qd (Jv (xs:=[(0,.const (.int .u8 0)),(1,.const (.int .u8 9))]) (vs:=[(0,.int .u8 0),(1,.int .u8 9)]) (cells:=bv [0,9]) rfl rfl rfl (QaW Q1 (by rintro⟨l⟩ h;match l,h with|[z0,z1],_=>rfl))) rfl Q1 (fun d3 _=>?_);refine Qd (QC _ _ _ rfl rfl rfl (fun w hw=>Q3y hw (QgC Q1p) Qgx XU Kt (hw.rd_blk (n:=2) 0 rfl rfl) XU Q1 Qq0)) rfl Q1 (fun q3 hy3=>?_);refine Q4I ?_;refine yA fun b5=>?_;refine yA fun b6=>?_;refine yW 1 ?_;refine Q2Q ?_;clear hy3;refine yn<|yq<|yr ?_;refine Qd QhJ rfl Q1 (fun p4 _=>?_);refine Q4 QkK ?_;refine Q4 Qjy ?_;refine Qd Qm2 rfl Q1 (fun s4 _=>?_);refine Qd (QC _ _ _ rfl rfl rfl (fun w hw=>Qlq hw (QgC Q1p) Qgx XU Kt ((QbD 5 6 s4).vin QlU) Qhb QkE)) rfl Q1 (fun wo hyo=>?_);refine Q4I ?_;refine yA fun b8=>?_;refine QgU ?_;refine yl<|yn<|yq ?_;refine QkI [] Q5 ?_;refine Qi 0 rfl Q5 Q06 zF ?_;refine Qi 1 rfl Q5 Q06 (zB 11) ?_;refine Qi 2 rfl Q5 Q06 zet ?_;refine Qi 3 rfl Q5 Q06 zM ?_;refine Qi 4 rfl Q5 Q06 zF ?_;refine Qi 5 rfl Q5 Q06 (zB 0) ?_;refine Qi 6 rfl Q5 Q06 zet ?_;refine Qi 7 rfl Q5 Q06 zY ?_;refine Qi 8 rfl Q5 Q06 zM ?_;refine Qi 9 rfl Q5 Q06 (QV (cs:=q1.cells ndL) rfl rfl Q1 rfl rfl (fun w hw=>Wd.range_blk 12 (cs:=q1.cells ndL) rfl hw) rfl) ?_;refine Qi 10 rfl Q5 Q06 QkK ?_;refine Qi 11 rfl Q5 Q06 Qjy ?_;refine QX 12 Q5 rfl rfl Qm2 (fun _=>.inr Yq) rfl Q1 (fun s5 _=>?_);refine Qd7 13 Q5 rfl (.inr Yq) (Qg rfl rfl Q1 rfl rfl (fun w hw=>QbG ndL (Q3Q 5 6) ndL (Q3Q 5 6) w _ _ Qhb.1.2.2.1 Qhb.2.2 Qhb.2.1 (HY1.out.vin fun x hx=>hw.onAll x Q5C) ((QbD 5 6 s5).vin QlU))) ?_;rw[(Qpq ndL (Q3Q 5 6) ndL (Q3Q 5 6)).2 ⟨rfl,rfl⟩];refine Qi 14 rfl Q5 Yq zY ?_;refine Qi 15 rfl Q5 Yq zM ?_;refine Qi 16 rfl Q5 Yq (QV (cs:=[.int .i64 1,.int .i64 3]) rfl rfl Q1 rfl rfl (fun w hw=>Wd.range_blk 7 (cs:=[.int .i64 1,.int .i64 3]) rfl hw) rfl) ?_;refine Qi 17 rfl Q5 Yq QsH ?_;refine Qi 18 rfl Q5 Yq QoJ ?_;refine Qi 19 rfl Q5 Yq zY ?_;refine Qi 20 rfl Q5 Yq zM ?_;refine Qi 21 rfl Q5 Yq (QV (cs:=[.int .i64 1,.int .i64 1]) rfl rfl Q1 rfl rfl (fun w hw=>Wd.range_blk 3 (cs:=[.int .i64 1,.int .i64 1]) rfl hw) rfl) ?_;refine Qi 22 rfl Q5 Yq QsH ?_;refine Qi 23 rfl Q5 Yq QoJ ?_;refine Qi 24 rfl Q5 Yq zY ?_;refine Qi 25 rfl Q5 Yq zM ?_;refine Qi 26 rfl Q5 Yq zM ?_;refine QX 27 Q5 rfl rfl QqP (fun _=>.inr Q9S) rfl Q1 (fun d5 _=>?_);refine Qd7 28 Q5 rfl (.inr Q9S) (Qg rfl rfl Q1 rfl rfl (fun w hw=>Calls.stay (Q4L (a:=exD) (b:=exD) (B:=w.heap.size) (B':=w.heap.size) (hw.onAll (.rd wo.1 exD.length 1 (bv exD)) Qn) (hw.rd_blk (n:=5) 0 rfl rfl)))) ?_;refine Qi 29 rfl Q5 Q9S zY ?_;refine Qi 30 rfl Q5 Q9S zA ?_;refine Xi ?_ Q5;refine yn<|yt ?_;exact Qb mc4 rfl (.tmp rfl) (fun w hw=>⟨by rfl,hw.k.below⟩)
end
def QtT(W:World)(e:Ending)(w':World):Prop:=e=.returned (.bool true)/\Below W.heap.size W w'
section
variable {A A2:Option Addr}{n c m c2:Nat}{W:World}{F:List Rl}{D:List UInt8}{d:Nd}{l:VF}{v:Value}
theorem neI{a:Int}(h:a≠0):(a != 0)=true:=bne_iff_ne.2 h
end
section
variable {E:Env}{N:Nat}{ops:Array Oper}
theorem QtY(c i:Int)(w:World):Calls Tryz.prog 20 #[.int .i64 c,.int .i64 i] w fun e w'=>e=.returned (.agg #[.int .i64 c,.int .i64 i])/\Below w.heap.size w w':=
 (Qdx c i w).mono fun _ _ h=>⟨h.1,h.2▸YR _ _⟩
theorem Qud{P:Program}{Q:Exit->Act->World->Prop}{M:List Nat}{W:World}{O:List Qf}{l:List Oper}(h:∀w,Wd M W O w->lE P ops Q N [] w E [] l):lE P ops Q N M W E O l:=fun a w ha hw=>h w hw a w ha Q9X
theorem Qvg{C:World->Prop}{o:Oper}{d:Nat}{x:Operand}{A:Option Addr}{n c:Nat}{bs:List UInt8}(ho:o.op=.convert 25 9 x)(hd:o.dst=some d)(hN:d<N)(hw:Qm ops E o=some true)(hx:ev E x=some (.slice A n c))(hr:∀w,C w->Rd w w.heap.size 1 A n (bv bs)):oE Tryz.prog ops C N E ((d,.string ⟨bs.toArray⟩)::E) o:=
 Xl hd hN hw fun ρ w ha hc=>by
  have h:=QaR (c:=c) (hr w hc);exact QsV
end
section
variable {s:ByteArray}{v:Int}
structure GVE(w:World):Prop extends GV w where
 e1:∃te pe,w.cell? ⟨4,0,none⟩=some (.iface te pe)
 e2:∃te pe,w.cell? ⟨5,0,none⟩=some (.iface te pe)
theorem GVE.on{w w':World}(h:GVE w)(hb:Below w.heap.size w w'):GVE w':=⟨h.toGV.on hb,h.e1.imp fun _ h=>h.imp fun _ h=>Q4e h hb,h.e2.imp fun _ h=>h.imp fun _ h=>Q4e h hb⟩
instance {w:World}:Coe (GVE w) (GV w):=⟨GVE.toGV⟩
theorem YY{w:World}(hs:s.size<=1048576)(h:Lib.atoiAll s.data.toList=.ok v):Calls Tryz.prog 168 #[.string s] w fun e w'=>e=.returned (.tuple #[.int .i64 v,.nilIface])/\Below w.heap.size w w':=by
 refine(Tryz.strconv_Atoi_ok s Q2 v h w).mono ?_;rintro e w' ⟨rfl,hw⟩;refine⟨rfl,?_⟩;rcases hw with rfl|⟨t,rfl⟩
 ·exact Below.refl _ _
 ·exact Lib.bytesWorld_below _ _ _
theorem Qby{M:List Nat}{W w:World}{O:List Qf}(hg:GVE w)(hs:s.size<=1048576)(h:(Lib.atoiAll s.data.toList=Lib.atoiAll []/\v=0)\/(Lib.atoiAll s.data.toList=.range/\v=Lib.atoiSat s.data.toList))(hw:Wd M W O w):
  Calls Tryz.prog 168 #[.string s] w (QN (fun n:Nat=>.tuple #[.int .i64 v,.iface 227 (.pointer (some ⟨n,0,none⟩))]) (fun _=>True) M W (fun _=>O)):=by
 rcases h with ⟨h,rfl⟩|⟨h,rfl⟩
 ·obtain⟨te,pe,he⟩:=hg.e1;refine(Tryz.strconv_Atoi_syntax s Q2 h _ w he (.inr ⟨te,pe,rfl⟩)).mono ?_
  exact Qjt
 ·obtain⟨te,pe,he⟩:=hg.e2;refine(Tryz.strconv_Atoi_range s Q2 h _ w he (.inr ⟨te,pe,rfl⟩)).mono ?_
  exact Qjt
theorem Q0U:Tryz.prog.underlying 177=some (.interface (Tryz.prog.methodsAt 177)):=by kernel_rfl
section
variable {W w:World}{O:List Qf}{br bw q N k c:Nat}{bad:Bool}{ws ns:List (List UInt8)}{A:Option Addr}
theorem Ke(hg:GVE W)(hall:∀s∈ws,s.length<=1048576)(hN:ws.length=N)(hq:k<N->q=k)(hk:k<=N)(hn:N<=1048576)(hw:Wd [] W (rdO br bw q N k bad ws A c ns++O) w):
  Calls Tryz.prog 135 #[.pointer (some ⟨br,0,none⟩)] w (QN (fun _:Nat×Nat=>.int .i64 (Xx (wAt ws k))) (fun y=>y.1=min (k+1) N/\(y.1<N->y.2=y.1)) [] W (fun y=>rdO br bw y.2 N y.1 ((bad||decide (N<=k))||!(numOk (wAt ws k))) ws A c ns++O)):=by
 have hxl:=Q0T hall k;obtain⟨x,hx⟩:∃x,wAt ws k=x:=⟨_,rfl⟩;obtain⟨b1,hb1⟩:∃b1,(bad||decide (N<=k))=b1:=⟨_,rfl⟩;have HX:=Q3 hx;have HB:=Q3 hb1;have HG:=Q3 hg;rw[hx] at hxl;rw[hx,hb1];clear hx hb1 hall hg;have hsz:=ZH x;have hsm:(⟨x.toArray⟩:ByteArray).size<=1048576:=by omega
 go_enter Tryz.func135,Tryz.ntmps135;refine Qy (M:=[]) (W:=W) (N:=40) (E:=[Q30]) (O:=rdO br bw q N k bad ws A c ns++O) ?_ J1 hw;repeat(first|refine Q4 zM ?_|refine Q4 zA ?_|(refine Qd Qqu rfl Q1 (fun y hy=>?_);rw[HX.out,HB.out])|refine Qc ?_|refine Qa ?_|refine Q6 ?_)
 obtain⟨k1,q1⟩:=y;have HY:=Q3 hy;clear hy;by_cases hok:∃v,Lib.atoiAll x=.ok v
 ·obtain⟨v,hv⟩:=hok
  have hvv:Xx x=v:=by unfold Xx;rw[hv]
  have hnv:numOk x=(!(decide (10<x.length))&&(!(decide (v<0))&&Lib.itoa v==x)):=by unfold numOk;rw[hv]
  have hb:=Lib.atoiAll_bounds hv;rw[hvv,hnv];have HV:=Q3 (show Lib.atoiAll (⟨x.toArray⟩:ByteArray).data.toList=.ok v from hv);clear hv hvv hnv;cases b1 with
  |true=>
   repeat(first|refine Q4 zM ?_|refine Q4 zA ?_|refine Q4 zF ?_|refine Q4 zS ?_|refine Q4 (zB 0) ?_|refine Q4 QqY ?_|refine Q4 mc5 ?_|refine yS 0 ?_|refine Qc ?_|refine Qa ?_|refine Q6 ?_|refine Qu ?_|refine Q4 zY ?_|refine Q4 zX ?_)
   exact Q8O
  |false=>
   by_cases h10:10<x.length
   ·rw[decide_eq_true h10]
    repeat(first|refine Q4 zM ?_|refine Q4 zA ?_|refine Q4 zF ?_|refine Q4 zS ?_|refine Q4 (zB 0) ?_|refine Q4 QqY ?_|refine Q4 mc5 ?_|refine Q4 QvF ?_|refine yS 0 ?_|refine Qc ?_|refine Qa ?_|refine Q6 ?_|refine Qu ?_|refine Q4 zT ?_|refine Q4 Q2W ?_|refine Q4 zY ?_|refine Q4 zN ?_|refine Q4 zX ?_)
    exact Q8O
   rw[decide_eq_false h10];by_cases h0:v<0
   ·rw[decide_eq_true h0]
    repeat(first|refine Q4 zM ?_|refine Q4 zA ?_|refine Q4 zF ?_|refine Q4 zS ?_|refine Q4 (zB 0) ?_|refine Q4 (Qg (f:=168) rfl rfl Q1 rfl rfl (fun w hw=>YY hsm HV.out)) ?_|refine Q4 (ZO rfl rfl Q1 rfl rfl) ?_|refine Q4 (Q9I Q0U rfl rfl Q1 rfl rfl) ?_|refine yS 0 ?_|refine Qc ?_|refine Qa ?_|refine Q6 ?_|refine Qu ?_|refine Q4 zT ?_|refine Q4 zlt ?_|refine Q4 zgt ?_|refine Q4 zgf ?_|refine Q4 zY ?_|refine Q4 zN ?_|refine Q4 zX ?_)
    exact Qb mc4 rfl (.tmp rfl) (fun w hw=>⟨(k1,q1),rfl,HY.out,hw⟩)
   rw[decide_eq_false h0];obtain⟨u,hu⟩:∃u,(Lib.itoa v==x)=u:=⟨_,rfl⟩;have hne:((⟨(Lib.itoa v).toArray⟩:ByteArray).data.toList != (⟨x.toArray⟩:ByteArray).data.toList)=!u:=by rw[<- hu];rfl
   rw[hu];clear hu;repeat(first|refine Q4 zM ?_|refine Q4 zA ?_|refine Q4 zF ?_|refine Q4 (zB 0) ?_|refine Q4 (Qg (f:=168) rfl rfl Q1 rfl rfl (fun w hw=>YY hsm HV.out)) ?_|refine Q4 (Qg (f:=114) rfl rfl Q1 rfl rfl (fun w hw=>KS (HG.out.on hw.k.below) Q2 Q2)) ?_|refine Q4 (ZO rfl rfl Q1 rfl rfl) ?_|refine Q4 (Q9I Q0U rfl rfl Q1 rfl rfl) ?_|refine yS 0 ?_|refine Qc ?_|refine Qa ?_|refine Q6 ?_|refine Qu ?_|refine Q4 zT ?_|refine Q4 zlf ?_|refine Q4 zgf ?_|refine Q4 zN ?_|refine Q4 (Yl rfl rfl Q1 rfl rfl rfl Qx) ?_|refine Q4 zX ?_)
   exact Qb (by exact .inr rfl) rfl (.tmp rfl) (fun w hw=>⟨(k1,q1),rfl,HY.out,by cases u<;>exact hw⟩)
 ·have hbad:(Lib.atoiAll x=Lib.atoiAll []/\Xx x=0)\/(Lib.atoiAll x=.range/\Xx x=Lib.atoiSat x):=by
   unfold Xx;cases ha:Lib.atoiAll x with
   |ok v=>exact absurd ⟨v,ha⟩ hok
   |range=>exact .inr ⟨rfl,rfl⟩
   |_=>exact .inl ⟨rfl,rfl⟩
  have hnv:numOk x=false:=by
   unfold numOk;rcases hbad with ⟨h,_⟩|⟨h,_⟩<;>rw[h]<;>rfl
  rw[hnv];obtain⟨v,hv⟩:∃v,Xx x=v:=⟨_,rfl⟩;rw[hv] at hbad ⊢;have HV:=Q3 (show (Lib.atoiAll (⟨x.toArray⟩:ByteArray).data.toList=Lib.atoiAll []/\v=0)\/(Lib.atoiAll (⟨x.toArray⟩:ByteArray).data.toList=.range/\v=Lib.atoiSat (⟨x.toArray⟩:ByteArray).data.toList) from hbad);clear hok hbad hnv hv;cases b1 with
  |true=>
   repeat(first|refine Q4 zM ?_|refine Q4 zA ?_|refine Q4 zF ?_|refine Q4 zS ?_|refine Q4 (zB 0) ?_|refine Qd Qom rfl Q1 (fun ne _=>?_)|refine Q4 mc5 ?_|refine yS 0 ?_|refine Qc ?_|refine Qa ?_|refine Q6 ?_|refine Qu ?_|refine Q4 zY ?_|refine Q4 zX ?_)
   exact Q8O
  |false=>
   repeat(first|refine Q4 zM ?_|refine Q4 zA ?_|refine Q4 zF ?_|refine Q4 zS ?_|refine Q4 (zB 0) ?_|refine Qd Qom rfl Q1 (fun ne _=>?_)|refine Q4 mc5 ?_|refine Q4 (Qpu Q0U rfl rfl Q1 rfl rfl) ?_|refine yS 0 ?_|refine Qc ?_|refine Qa ?_|refine Q6 ?_|refine Qu ?_|refine Q4 zY ?_|refine Q4 zN ?_|refine Q4 zX ?_)
   exact Q8O
end
end
open Go.ChangeShapes Go.WideShapes Go.ChangeAt Go.RowKit Go.Deep
def Qo8 : List (String × DataW Unit) := [("math/bits.deBruijn32tab", Rows.laid_math_bits_deBruijn32tab), ("math/bits.deBruijn64tab", Rows.laid_math_bits_deBruijn64tab), ("internal/strconv.uint64pow10", Rows.laid_internal_strconv_uint64pow10), ("unicode/utf8.acceptRanges", Rows.laid_unicode_utf8_acceptRanges), ("strconv.ErrRange", Rows.laid_strconv_ErrRange), ("strconv.ErrSyntax", Rows.laid_strconv_ErrSyntax), ("unicode.White_Space", Rows.laid_unicode_White_Space), ("strings.asciiSpace", Rows.laid_strings_asciiSpace), ("unicode/utf8.first", Rows.laid_unicode_utf8_first)]
theorem QjZ (u : TypeId) (h : Tryz.prog.typeName? 3 u = some "*errors.errorString") : u = 247 :=
 typeName_ptr_named (nm := "errors.errorString") Q5 Q5 Q1 u h
theorem QvT{W:World}(hL:laidMet Tryz.prog Qo8 W)(hsh:W.ShapedOpen Tryz.prog):GVE W:=by
 have t2:=hL.tail.tail;have t4:=t2.tail.tail;have t5:=t4.tail;have t7:=t5.tail.tail;refine⟨⟨?_,?_,?_⟩,?_,?_⟩
 ·exact QuZ
 ·exact Lib.tabIs_of_head (g:=0) (zs:=Lib.asciiSpaceTab) (n:=256) Q5 Q5 Tryz.underlying169 Tryz.underlying5 Q5 Q5 t7
 ·exact Quw
 ·obtain⟨a,s,hv,_⟩:=laid_sentinel (g:=4) t5 Q5 Q5 Tryz.underlying177 QjZ Tryz.underlying247 Tryz.underlying249 rfl rfl Tryz.underlying9 Q5 Q5
  exact⟨_,_,World.var?_cell Q5 hv 0⟩
 ·obtain⟨a,s,hv,_⟩:=laid_sentinel (g:=5) t4 Q5 Q5 Tryz.underlying177 QjZ Tryz.underlying247 Tryz.underlying249 rfl rfl Tryz.underlying9 Q5 Q5
  exact⟨_,_,World.var?_cell Q5 hv 0⟩
def Qk1:DataW Unit->List Value
 |.lit (.int k n)=>[.int k n]
 |_=>[]
def Qqd:DataW Unit->List Value
 |.agg l=>l.flatMap Qk1
 |d=>Qk1 d
def Q0V:DataW Unit->List Value
 |.agg l=>l.flatMap Qqd
 |_=>[]
def Qps:List Value:=[9,13,1,32,133,101,160,5760,5600,8192,8202,1,8232,8233,1,8239,8287,48,12288,12288,1].map fun(z:Int)=>Value.int .u16 z
def QaP(h:Array Obj)(g:Nat)(cs:Array Value):Array Obj:=h.modify g fun
 |.cells _ t frozen=>.cells cs t frozen
 |o=>o
noncomputable def Yc(os:Os):World:=
 let N:=(World.settled Tryz.prog os).heap.size
 let w0:=World.holding Tryz.prog os ⟨#[.cells #[.string ⟨#[118,97,108,117,101,32,111,117,116,32,111,102,32,114,97,110,103,101]⟩] 249,.cells #[.string ⟨#[105,110,118,97,108,105,100,32,115,121,110,116,97,120]⟩] 249,
  .cells #[.slice (some ⟨N+3,0,none⟩) 7 7,.slice none 0 0,.int .i64 2] 208,.cells Qps.toArray 211],#[],[]⟩
 let h1:=QaP w0.heap 8 (Q0V Rows.laid_math_bits_deBruijn32tab).toArray
 let h2:=QaP h1 9 (Q0V Rows.laid_math_bits_deBruijn64tab).toArray
 let h3:=QaP h2 3 (Q0V Rows.laid_internal_strconv_uint64pow10).toArray
 let h4:=QaP h3 7 (Q0V Rows.laid_unicode_utf8_acceptRanges).toArray
 let h5:=QaP h4 5 #[.iface 247 (.pointer (some ⟨N,0,none⟩))]
 let h6:=QaP h5 4 #[.iface 247 (.pointer (some ⟨N+1,0,none⟩))]
 let h7:=QaP h6 1 #[.pointer (some ⟨N+2,0,none⟩)]
 let h8:=QaP h7 0 (Q0V Rows.laid_strings_asciiSpace).toArray
 let h9:=QaP h8 6 (Q0V Rows.laid_unicode_utf8_first).toArray
 { w0 with heap:=h9 }
noncomputable abbrev N0G:Nat:=(World.settled Tryz.prog default).heap.size
section
variable (os:Os)(args:Array Value)
theorem Qup : LaidIn Tryz.prog ((Yc os).forCall (fun _ _ => 0) ⟨#[], args, []⟩).memory [("math/bits.deBruijn32tab", Rows.laid_math_bits_deBruijn32tab), ("math/bits.deBruijn64tab", Rows.laid_math_bits_deBruijn64tab), ("internal/strconv.uint64pow10", Rows.laid_internal_strconv_uint64pow10), ("unicode/utf8.acceptRanges", Rows.laid_unicode_utf8_acceptRanges)] [8, 9, 3, 7] :=
 LaidIn.of_run _ 8 Q5 Q5 Q5 Q5
theorem Qtd : LaidIn Tryz.prog ((Yc os).forCall (fun _ _ => 0) ⟨#[], args, []⟩).memory [("strconv.ErrRange", Rows.laid_strconv_ErrRange), ("strconv.ErrSyntax", Rows.laid_strconv_ErrSyntax), ("unicode.White_Space", Rows.laid_unicode_White_Space)] [5, 4, 1, N0G, N0G + 1, N0G + 2, N0G + 3] :=
 LaidIn.of_run _ 8 Q5 Q5 Q5 Q5
theorem QtN : LaidIn Tryz.prog ((Yc os).forCall (fun _ _ => 0) ⟨#[], args, []⟩).memory [("strings.asciiSpace", Rows.laid_strings_asciiSpace), ("unicode/utf8.first", Rows.laid_unicode_utf8_first)] [0, 6] :=
 LaidIn.of_run _ 8 Q5 Q5 Q5 Q5
theorem QlP:laidMet Tryz.prog Qo8 ((Yc os).forCall (fun _ _=>0) ⟨#[],args,[]⟩).memory:=
 (((Qup os args).append (Qtd os args) Q5).append (QtN os args) Q5).met
end
theorem Wd.ofMap{M:List Nat}{W w:World}{O O':List Qf}(f:Nat->Nat)(hf:∀i j,f i=f j->i=j)(hm:∀(i:Nat) (x:Qf),O'[i]? =some x->O[f i]? =some x)(h:Wd M W O w):Wd M W O' w:=
 ⟨h.k,fun i x hx=>h.own (f i) x (hm i x hx),fun i x b hx hb hl=>h.new (f i) x b (hm i x hx) hb hl,fun i j x y b hx hy hb hb' hw=>hf i j (h.nd (f i) (f j) x y b (hm i x hx) (hm j y hy) hb hb' hw)⟩
theorem Wd.rot3{M:List Nat}{W w:World}{x a b c:Qf}{O:List Qf}(h:Wd M W (x::a::b::c::O) w):Wd M W (a::b::c::x::O) w:=
 h.ofMap (fun i=>if i<3 then i+1 else if i=3 then 0 else i) Q5F (fun i y hy=>by
  match i,hy with
  |0,hy=>exact hy
  |1,hy=>exact hy
  |2,hy=>exact hy
  |3,hy=>exact hy
  |n+4,hy=>
   rw[if_neg Q2,if_neg Q2]
   exact hy)
section
variable {P:Program}{Q:Exit->Act->World->Prop}{ops:Array Oper}{N:Nat}{M:List Nat}{W:World}{E:Env}{O:List Qf}{x:Qf}
theorem Q3L{l:List Oper}(h:lE P ops Q N M W E O l):lE P ops Q N M W E (x::O) l:=fun a w ha hw=>h a w ha hw.tail
end
theorem Q9g{w:World}(hg:GVE w){s:List UInt8}{c:UInt8}(hs:s.length<=1048576):Calls Tryz.prog 92 #[.string ⟨s.toArray⟩,.string ⟨#[c]⟩] w fun e w'=>e=.returned (.tuple #[.string ⟨(Xf c s).1.toArray⟩,.string ⟨(Xf c s).2.1.toArray⟩,.bool (Xf c s).2.2])/\Below w.heap.size w w':=by
 obtain⟨m,hm⟩:=hg.ml;refine(Tryz.strings_Cut ⟨s.toArray⟩ ⟨#[c]⟩ m w (by rw[ZH];omega) hm).mono ?_;rintro e w' ⟨he,n,rfl⟩;have h:Lib.cut (⟨s.toArray⟩:ByteArray).data.toList (⟨#[c]⟩:ByteArray).data.toList=Xf c s:=Qk2 c s;rw[h] at he;exact⟨he,VG w n⟩
def YJ(w:List UInt8):List UInt8:=if (Xf 58 w).1==[45] then [] else (Xf 58 w).1
def Q64(QE:Bool)(w:List UInt8):List UInt8:=if QE then (Xf 58 w).2.1 else w
def Q5e(QE:Bool)(w:List UInt8):Bool:=if QE then (!(Xf 58 w).2.2||(!((Xf 58 w).1==[45])&&!(Qk (Xf 58 w).1)))||!(Qk (Xf 58 w).2.1) else !(Qk w)
theorem Q2Y(c:UInt8):∀s:List UInt8,(Xf c s).1.length<=s.length/\(Xf c s).2.1.length<=s.length
 |[]=>⟨Nat.le_refl _,Nat.le_refl _⟩
 |b::l=>by
  have h:=Q2Y c l
  unfold Xf;split
  ·simp
  ·refine Q9d ?_
   omega
def wIn(ws:List (List UInt8))(k j:Nat):List (List UInt8):=(ws.drop k).take (j - k)
theorem Q6J(ws:List (List UInt8))(k:Nat):wIn ws k k=[]:=by unfold wIn;rw[Nat.sub_self,List.take_zero]
theorem Qlp{ws:List (List UInt8)}{k j:Nat}{x:List UInt8}(hk:k<=j)(h:ws[j]? =some x):wIn ws k (j+1)=wIn ws k j++[x]:=by
 unfold wIn;rw[show j+1 - k=(j - k)+1 by omega,List.take_add_one,List.getElem?_drop,show k+(j - k)=j by omega,h];rfl
theorem QpR{ws:List (List UInt8)}{k:Nat}:wIn ws k ws.length=ws.drop k:=by
 unfold wIn;rw[List.take_of_length_le (by rw[List.length_drop];omega)]
theorem Qi3(ws:List (List UInt8))(k j:Nat):(wIn ws k j).length<=j - k:=by
 unfold wIn;rw[List.length_take];omega
structure PaY where
 j:Nat
 q:Nat
 b:Bool
 ns:List (List UInt8)
 nm:List (List UInt8)
 A:Option Addr
 c:Nat
 A':Option Addr
 c':Nat
structure PaI(QE:Bool)(ws:List (List UInt8))(N k:Nat)(bad:Bool)(ns:List (List UInt8))(y:PaY):Prop where
 j:k<=y.j/\y.j<=N
 q:y.j<N->y.q=y.j
 b:y.b=(bad||(wIn ws k y.j).any (Q5e QE))
 ns:y.ns=ns++(wIn ws k y.j).map (Q64 QE)
 nm:y.nm=if QE then (wIn ws k y.j).map YJ else []
theorem PaI.step{QE:Bool}{ws:List (List UInt8)}{N k:Nat}{bad:Bool}{ns:List (List UInt8)}{y:PaY}(h:PaI QE ws N k bad ns y)(hj:y.j<N){x:List UInt8}(hx:ws[y.j]? =some x){q:Nat}(hq:y.j+1<N->q=y.j+1){A A':Option Addr}{c c':Nat}{b:Bool}{n1 n2:List (List UInt8)}(hb:b=(y.b||Q5e QE x))(h1:n1=y.ns++[Q64 QE x])(h2:n2=if QE then y.nm++[YJ x] else []):PaI QE ws N k bad ns ⟨y.j+1,q,b,n1,n2,A,c,A',c'⟩:=by
 have hs:=Qlp h.j.1 hx;refine⟨⟨by show k<=y.j+1;have:=h.j.1;omega,hj⟩,hq,?_,?_,?_⟩
 ·show b=(bad||(wIn ws k (y.j+1)).any (Q5e QE))
  rw[hs,List.any_append,hb,h.b];simp [Bool.or_assoc]
 ·show n1=ns++(wIn ws k (y.j+1)).map (Q64 QE)
  rw[hs,List.map_append,h1,h.ns];simp
 ·show n2=if QE then (wIn ws k (y.j+1)).map YJ else []
  rw[hs,List.map_append,h2];cases QE with
  |true=>
   have:=h.nm;simp only[if_true] at this ⊢;rw[this];rfl
  |false=>rfl
section
variable {W w:World}{O:List Qf}{br bw q N k c:Nat}{bad:Bool}{ws ns:List (List UInt8)}{A:Option Addr}
theorem Qdh(QE:Bool)(hg:GVE W)(hall:∀s∈ws,s.length<=1048576)(hN:ws.length=N)(hq:k<N->q=k)(hk:k<=N)(hn:N<=100000)(hns:ns.length<=10)(hw:Wd [] W (rdO br bw q N k bad ws A c ns++O) w):
  Calls Tryz.prog 139 #[.pointer (some ⟨br,0,none⟩),.bool QE] w (QN (fun y:PaY=>.slice y.A' y.nm.length y.c') (fun y=>y.j=N/\PaI QE ws N k bad ns y) [] W (fun y=>rdO br bw y.q N y.j y.b ws y.A y.c y.ns++(.row y.A' y.nm.length y.c' 9 1 (sv y.nm)::O))):=by
 have HALL:=Q3 hall;have HG:=Q3 hg;have HN:=Q3 hN;clear hall hg;go_enter Tryz.func139,Tryz.ntmps139;refine Qy (M:=[]) (W:=W) (N:=56) (E:=[Q30,(1,.bool QE)]) (O:=rdO br bw q N k bad ws A c ns++O) ?_ mc3 hw;repeat(first|refine Q4 zA ?_|refine Qc ?_|refine Qa ?_|refine Q6 ?_|refine Qh ?_)
 refine Q5U 9 1 ?_;refine Q2O (ι:=PaY) (PaI QE ws N k bad ns) (fun y=>N - y.j) (fun y=>[Q30,(1,.bool QE),(5,.slice y.A' y.nm.length y.c')]) (fun y=>rdO br bw y.q N y.j y.b ws y.A y.c y.ns++(.row y.A' y.nm.length y.c' 9 1 (sv y.nm)::O)) ⟨k,q,bad,ns,[],A,c,none,0⟩ ⟨⟨Nat.le_refl _,hk⟩,hq,by show bad=_;rw[Q6J];simp,by show ns=_;rw[Q6J];simp,by show []=_;rw[Q6J];cases QE<;>rfl⟩ Q03 (fun w hw=>hw.rot3) ?_;rintro⟨j,q',b,ns',nm,A1,c1,A2,c2⟩ hinv;have hj1:k<=j:=hinv.j.1;have hj2:j<=N:=hinv.j.2;have hq':j<N->q'=j:=hinv.q;have hl1:ns'.length<=100010:=by
  have h1:ns'=ns++(wIn ws k j).map (Q64 QE):=hinv.ns;have h2:=Qi3 ws k j;rw[h1,List.length_append,List.length_map];omega
 have hl2:nm.length<=100000:=by
  have h1:nm=if QE then (wIn ws k j).map YJ else []:=hinv.nm;have h2:=Qi3 ws k j;rw[h1];split
  ·rw[List.length_map];omega
  ·simp
 have HI:=Q3 hinv;clear hinv hq;show sE _ _ _ _ _ [Q30,(1,.bool QE),(5,.slice A2 nm.length c2)] (rdO br bw q' N j b ws A1 c1 ns'++(.row A2 nm.length c2 9 1 (sv nm)::O)) _;by_cases hjn:j<N
 ·obtain⟨x,hx⟩:∃x,ws[j]? =some x:=⟨_,List.getElem?_eq_getElem Q2⟩
  have hwx:wAt ws j=x:=by unfold wAt;rw[List.getD_eq_getElem?_getD,hx];rfl
  have hxl:=HALL.out x Q0G;have hdec:decide (N<=j)=false:=Qh6;have HX:=Q3 hx;have HWX:=Q3 hwx;have HSTEP:=Q3 (fun(q2:Nat) (hq2:j+1<N->q2=j+1) (B1 B2:Option Addr) (d1 d2:Nat) (bb:Bool) (n1 n2:List (List UInt8)) (h0:bb=(b||Q5e QE x)) (h1:n1=ns'++[Q64 QE x]) (h2:n2=if QE then nm++[YJ x] else [])=>HI.out.step (A:=B1) (c:=d1) (A':=B2) (c':=d2) hjn hx hq2 h0 h1 h2);clear hx hwx;cases QE with
  |false=>
   repeat(first|refine Q4 zM ?_|refine Q4 zA ?_|refine Q4 zF ?_|refine Q4 (zB 0) ?_|(refine Qd Q5I rfl Q1 (fun y hy=>?_);rw[HWX.out,hdec,Bool.or_false])|refine Q4 mc5 ?_|refine Qd (QC _ _ _ (f:=137) rfl rfl rfl (fun w hw=>Q2Z (x:=x) hxl Q2 hw)) rfl Q1 (fun yz _=>?_)|refine Qc ?_|refine Qa ?_|refine Q6 ?_|refine Qp ?_|refine Q8 rfl ?_|refine Q7 rfl ?_|refine Qh ?_|refine QZ ?_|refine Q4 zL ?_|refine Q4 zgt ?_)
   have hy1:y.1=j+1:=by rw[hy.1];omega
   refine ZB ⟨j+1,y.2,b||!(Qk x),ns'++[x],nm,yz.1,yz.2,A2,c2⟩ (HSTEP.out y.2 Q7f yz.1 A2 yz.2 c2 _ _ _ rfl rfl ?_) Q5Z Q03 (fun w hw=>?_)
   ·have h:nm=if false then (wIn ws k j).map YJ else []:=HI.out.nm;exact h
   ·rw[hy1] at hw;exact hw
  |true=>
   have hcl:=Q2Y 58 x;have hpb:Q5e true x=((!(Xf 58 x).2.2||(!((Xf 58 x).1==[45])&&!(Qk (Xf 58 x).1)))||!(Qk (Xf 58 x).2.1)):=rfl;have hpr:Q64 true x=(Xf 58 x).2.1:=rfl;have hpn:YJ x=if (Xf 58 x).1==[45] then [] else (Xf 58 x).1:=rfl;obtain⟨n1,hn1⟩:∃z,(Xf 58 x).1=z:=⟨_,rfl⟩;obtain⟨r1,hr1⟩:∃z,(Xf 58 x).2.1=z:=⟨_,rfl⟩;obtain⟨o1,ho1⟩:∃z,(Xf 58 x).2.2=z:=⟨_,rfl⟩;rw[hn1,hr1] at hcl;rw[hn1,hr1,ho1] at hpb;rw[hr1] at hpr;rw[hn1] at hpn;obtain⟨e45,he45⟩:∃z,(n1==([45]:List UInt8))=z:=⟨_,rfl⟩;rw[he45] at hpb hpn;have hnb:((⟨n1.toArray⟩:ByteArray).data.toList != (⟨#[45]⟩:ByteArray).data.toList)=!e45:=by rw[<- he45];rfl
   have heb:((⟨n1.toArray⟩:ByteArray).data.toList==(⟨#[45]⟩:ByteArray).data.toList)=e45:=by rw[<- he45]
   have hsz1:=ZH n1;have hs1:(⟨n1.toArray⟩:ByteArray).size<=9223372036854775807:=by omega
   obtain⟨u,hu⟩:∃u,Qk n1=u:=⟨_,rfl⟩;have HU:=Q3 (show Qk (⟨n1.toArray⟩:ByteArray).data.toList=u from hu);rw[hu] at hpb;have HN1:=Q3 hn1;have HR1:=Q3 hr1;have HO1:=Q3 ho1;have HPB:=Q3 hpb;have HPR:=Q3 hpr;have HPN:=Q3 hpn;have hr1l:r1.length<=1048576:=by omega
   clear hn1 hr1 ho1 hpb hpr hpn he45 hu hcl;cases b with
   |true=>
    cases e45 with
    |true=>
     skip;repeat(first|refine Q4 zM ?_|refine Q4 zA ?_|refine Q4 zF ?_|refine Q4 zS ?_|refine Q4 (zB 0) ?_|(refine Qd Q5I rfl Q1 (fun y hy=>?_);rw[HWX.out,hdec,Bool.or_false])|refine Q4 mc5 ?_|(refine Q4 Q98 ?_;rw[HN1.out,HR1.out,HO1.out])|refine yS 0 ?_|refine Qd QkJ rfl Q1 (fun bn _=>?_)|refine Qd Qm4 rfl Q1 (fun ym _=>?_)|refine Qc ?_|refine Qa ?_|refine Q6 ?_|refine Qp ?_|refine Q8 rfl ?_|refine Qh ?_|refine Q4 zL ?_|refine Q4 Q2W ?_|refine Q4 zY ?_|refine Q4 zsa ?_|refine Q4 zX ?_)
     refine Q3L ?_;repeat(first|refine Qd Q8p rfl Q1 (fun yz _=>?_)|refine Qc ?_|refine QZ ?_)
     have hy1:y.1=j+1:=by rw[hy.1];omega
     refine ZB QlG (HSTEP.out y.2 Q7f yz.1 ym.1 yz.2 ym.2 _ _ _ ?_ ?_ ?_) Q5Z Q6Z (fun w hw=>?_)
     ·rw[HPB.out];simp
     ·rw[HPR.out]
     ·rw[HPN.out];rfl
     ·rw[hy1] at hw
      show Wd [] W (rdO br bw y.2 N (j+1) (true||!(Qk r1)) ws yz.1 yz.2 (ns'++[r1])++(.row ym.1 (nm++[[]]).length ym.2 9 1 (sv (nm++[[]]))::O)) w;have e1:(nm++[([]:List UInt8)]).length=nm.length+1:=by simp
      exact Qlo
    |false=>
     skip;repeat(first|refine Q4 zM ?_|refine Q4 zA ?_|refine Q4 zF ?_|refine Q4 zS ?_|refine Q4 (zB 0) ?_|(refine Qd Q5I rfl Q1 (fun y hy=>?_);rw[HWX.out,hdec,Bool.or_false])|refine Q4 mc5 ?_|(refine Q4 Q98 ?_;rw[HN1.out,HR1.out,HO1.out])|refine yS 0 ?_|refine Qd Qln rfl Q1 (fun bn _=>?_)|refine Qd Ql5 rfl Q1 (fun ym _=>?_)|refine Qc ?_|refine Qa ?_|refine Q6 ?_|refine Qp ?_|refine Q8 rfl ?_|refine Q7 rfl ?_|refine Qh ?_|refine Q4 zL ?_|refine Q4 Q2W ?_|refine Q4 zY ?_|refine Q4 zsa ?_|refine Q4 zX ?_)
     refine Q3L ?_;repeat(first|refine Qd Q8p rfl Q1 (fun yz _=>?_)|refine Qc ?_|refine QZ ?_)
     have hy1:y.1=j+1:=by rw[hy.1];omega
     refine ZB QjK (HSTEP.out y.2 Q7f yz.1 ym.1 yz.2 ym.2 _ _ _ ?_ ?_ ?_) Q5Z Q6Z (fun w hw=>?_)
     ·rw[HPB.out];simp
     ·rw[HPR.out]
     ·rw[HPN.out];rfl
     ·rw[hy1] at hw
      show Wd [] W (rdO br bw y.2 N (j+1) (true||!(Qk r1)) ws yz.1 yz.2 (ns'++[r1])++(.row ym.1 (nm++[n1]).length ym.2 9 1 (sv (nm++[n1]))::O)) w;have e1:(nm++[(n1:List UInt8)]).length=nm.length+1:=by simp
      exact Qkr
   |false=>
    cases o1 with
    |false=>
     cases e45 with
     |true=>
      skip;repeat(first|refine Q4 zM ?_|refine Q4 zA ?_|refine Q4 zF ?_|refine Q4 zS ?_|refine Q4 (zB 0) ?_|(refine Qd Q5I rfl Q1 (fun y hy=>?_);rw[HWX.out,hdec,Bool.or_false])|refine Q4 mc5 ?_|(refine Q4 Q98 ?_;rw[HN1.out,HR1.out,HO1.out])|refine yS 0 ?_|refine Qd QkJ rfl Q1 (fun bn _=>?_)|refine Qd Qm4 rfl Q1 (fun ym _=>?_)|refine Qc ?_|refine Qa ?_|refine Q6 ?_|refine Qp ?_|refine Q8 rfl ?_|refine Qh ?_|refine Q4 zL ?_|refine Q4 Q2W ?_|refine Q4 zY ?_|refine Q4 zN ?_|refine Q4 zO ?_|refine Q4 zsa ?_|refine Q4 zX ?_)
      refine Q3L ?_;repeat(first|refine Qd Q8p rfl Q1 (fun yz _=>?_)|refine Qc ?_|refine QZ ?_)
      have hy1:y.1=j+1:=by rw[hy.1];omega
      refine ZB QlG (HSTEP.out y.2 Q7f yz.1 ym.1 yz.2 ym.2 _ _ _ ?_ ?_ ?_) Q5Z Q6Z (fun w hw=>?_)
      ·rw[HPB.out];simp
      ·rw[HPR.out]
      ·rw[HPN.out];rfl
      ·rw[hy1] at hw
       show Wd [] W (rdO br bw y.2 N (j+1) (true||!(Qk r1)) ws yz.1 yz.2 (ns'++[r1])++(.row ym.1 (nm++[[]]).length ym.2 9 1 (sv (nm++[[]]))::O)) w;have e1:(nm++[([]:List UInt8)]).length=nm.length+1:=by simp
       exact Qlo
     |false=>
      skip;repeat(first|refine Q4 zM ?_|refine Q4 zA ?_|refine Q4 zF ?_|refine Q4 zS ?_|refine Q4 (zB 0) ?_|(refine Qd Q5I rfl Q1 (fun y hy=>?_);rw[HWX.out,hdec,Bool.or_false])|refine Q4 mc5 ?_|(refine Q4 Q98 ?_;rw[HN1.out,HR1.out,HO1.out])|refine yS 0 ?_|refine Qd Qln rfl Q1 (fun bn _=>?_)|refine Qd Ql5 rfl Q1 (fun ym _=>?_)|refine Qc ?_|refine Qa ?_|refine Q6 ?_|refine Qp ?_|refine Q8 rfl ?_|refine Q7 rfl ?_|refine Qh ?_|refine Q4 zL ?_|refine Q4 Q2W ?_|refine Q4 zY ?_|refine Q4 zN ?_|refine Q4 zO ?_|refine Q4 zsa ?_|refine Q4 zX ?_)
      refine Q3L ?_;repeat(first|refine Qd Q8p rfl Q1 (fun yz _=>?_)|refine Qc ?_|refine QZ ?_)
      have hy1:y.1=j+1:=by rw[hy.1];omega
      refine ZB QjK (HSTEP.out y.2 Q7f yz.1 ym.1 yz.2 ym.2 _ _ _ ?_ ?_ ?_) Q5Z Q6Z (fun w hw=>?_)
      ·rw[HPB.out];simp
      ·rw[HPR.out]
      ·rw[HPN.out];rfl
      ·rw[hy1] at hw
       show Wd [] W (rdO br bw y.2 N (j+1) (true||!(Qk r1)) ws yz.1 yz.2 (ns'++[r1])++(.row ym.1 (nm++[n1]).length ym.2 9 1 (sv (nm++[n1]))::O)) w;have e1:(nm++[(n1:List UInt8)]).length=nm.length+1:=by simp
       exact Qkr
    |true=>
     cases e45 with
     |true=>
      skip;repeat(first|refine Q4 zM ?_|refine Q4 zA ?_|refine Q4 zF ?_|refine Q4 zS ?_|refine Q4 (zB 0) ?_|(refine Qd Q5I rfl Q1 (fun y hy=>?_);rw[HWX.out,hdec,Bool.or_false])|refine Q4 mc5 ?_|(refine Q4 Q98 ?_;rw[HN1.out,HR1.out,HO1.out])|refine yS 0 ?_|refine Qd QkJ rfl Q1 (fun bn _=>?_)|refine Qd Qm4 rfl Q1 (fun ym _=>?_)|refine Qc ?_|refine Qa ?_|refine Q6 ?_|refine Qp ?_|refine Q8 rfl ?_|refine Qh ?_|refine Q4 zL ?_|refine Q4 Q2W ?_|refine Q4 zN ?_|refine Q4 zO ?_|refine Q4 zsa ?_|refine Q4 Q7M ?_|refine Q4 zX ?_)
      refine Q3L ?_;repeat(first|refine Qd Q8p rfl Q1 (fun yz _=>?_)|refine Qc ?_|refine QZ ?_)
      have hy1:y.1=j+1:=by rw[hy.1];omega
      refine ZB ⟨j+1,y.2,false||!(Qk r1),ns'++[r1],nm++[[]],yz.1,yz.2,ym.1,ym.2⟩ (HSTEP.out y.2 Q7f yz.1 ym.1 yz.2 ym.2 _ _ _ ?_ ?_ ?_) Q5Z Q6Z (fun w hw=>?_)
      ·rw[HPB.out];simp
      ·rw[HPR.out]
      ·rw[HPN.out];rfl
      ·rw[hy1] at hw
       show Wd [] W (rdO br bw y.2 N (j+1) (false||!(Qk r1)) ws yz.1 yz.2 (ns'++[r1])++(.row ym.1 (nm++[[]]).length ym.2 9 1 (sv (nm++[[]]))::O)) w;have e1:(nm++[([]:List UInt8)]).length=nm.length+1:=by simp
       exact Qlo
     |false=>
      skip;repeat(first|refine Q4 zM ?_|refine Q4 zA ?_|refine Q4 zF ?_|refine Q4 (zB 0) ?_|(refine Qd Q5I rfl Q1 (fun y hy=>?_);rw[HWX.out,hdec,Bool.or_false])|refine Q4 mc5 ?_|(refine Q4 Q98 ?_;rw[HN1.out,HR1.out,HO1.out])|(refine Q4 (Qg (f:=133) rfl rfl Q1 rfl rfl (fun w hw=>JB _ w hs1)) ?_;rw[HU.out])|refine yS 0 ?_|refine Qd Qln rfl Q1 (fun bn _=>?_)|refine Qd Ql5 rfl Q1 (fun ym _=>?_)|refine Qc ?_|refine Qa ?_|refine Q6 ?_|refine Qp ?_|refine Q8 rfl ?_|refine Q7 rfl ?_|refine Qh ?_|refine Q4 zL ?_|refine Q4 Q2W ?_|refine Q4 zY ?_|refine Q4 zN ?_|refine Q4 zO ?_|refine Q4 zsa ?_|refine Q4 Q7M ?_|refine Q4 zX ?_)
      refine Q3L ?_;repeat(first|refine Qd Q8p rfl Q1 (fun yz _=>?_)|refine Qc ?_|refine QZ ?_)
      have hy1:y.1=j+1:=by rw[hy.1];omega
      refine ZB ⟨j+1,y.2,(!u)||!(Qk r1),ns'++[r1],nm++[n1],yz.1,yz.2,ym.1,ym.2⟩ (HSTEP.out y.2 Q7f yz.1 ym.1 yz.2 ym.2 _ _ _ ?_ ?_ ?_) Q5Z Q6Z (fun w hw=>?_)
      ·rw[HPB.out];simp
      ·rw[HPR.out]
      ·rw[HPN.out];rfl
      ·rw[hy1] at hw
       show Wd [] W (rdO br bw y.2 N (j+1) ((!u)||!(Qk r1)) ws yz.1 yz.2 (ns'++[r1])++(.row ym.1 (nm++[n1]).length ym.2 9 1 (sv (nm++[n1]))::O)) w;have e1:(nm++[(n1:List UInt8)]).length=nm.length+1:=by simp
       exact Qkr
 ·obtain rfl:j=N:=by omega
  repeat(first|refine Q4 zM ?_|refine Q4 zA ?_|refine Q4 zF ?_|refine Q4 (zB 0) ?_|refine Q4 mc5 ?_|refine Qc ?_|refine Qa ?_|refine Q6 ?_|refine Q7 rfl ?_|refine Xe ?_|refine Qu ?_|refine Q4 zL ?_|refine Q4 zgf ?_)
  exact Qb mc4 rfl (.tmp rfl) (fun w hw=>⟨⟨j,q',b,ns',nm,A1,c1,A2,c2⟩,rfl,⟨rfl,HI.out⟩,hw⟩)
end
section
variable {A B:Prop}{b:Bool}{x:List UInt8}{y:PaY}
theorem Qiq:Q1U []=false:=rfl
def okB(bad:Bool)(N k:Nat):Bool:=!bad&&(((N - k:Nat):Int)==0)
section
variable {name w1:List UInt8}{rest:List (List UInt8)}{N k1 k2 k3 k4:Nat}{bad:Bool}
theorem XT(h:b=false)(hB:B):if b then A else B:=by rw[h];exact hB
theorem Q2r(h:b=true)(hA:A):if b then A else B:=by rw[h];exact hA
theorem QbT(h:k1<N):okB bad N k1=false:=by
 unfold okB;rw[beq_eq_false_iff_ne.2 Q2,Bool.and_false]
theorem Ju(h:bad=true):okB bad N k1=false:=by unfold okB;rw[h];rfl
theorem Q3S(h:bad=false)(h2:k1=N):okB bad N k1=true:=by unfold okB;rw[h,h2,Nat.sub_self];rfl
theorem JX(h:numOk x=true):VR x=some (Xx x):=by unfold VR;rw[if_pos h]
theorem Y7(h:numOk x=false):VR x=none:=by unfold VR;rw[if_neg (by rw[h];exact Bool.false_ne_true)]
theorem QoQ(ws:List (List UInt8)):XQ name 1 ws=(match ws with|[x]=>if x=[] then none else (XI x).map fun b=>({ Xo name 1 with bs:=b },[])|_=>none):=rfl
theorem Qp0(ws:List (List UInt8)):XQ name 2 ws=(match ws with|[a,o,m,x]=>(match VR a,VR m,VR x with|some a,some m,some x=>if o=Q08\/o=JW then some ({ Xo name 2 with size:=a,big:=o==Q08,mn:=m,mx:=x },[]) else none|_,_,_=>none)|_=>none):=rfl
theorem Qge(ws:List (List UInt8)):XQ name 3 ws=(match ws with|[a,b]=>(match VR a,VR b with|some a,some b=>some ({ Xo name 3 with stop:=a,mx:=b },[])|_,_=>none)|_=>none):=rfl
theorem QpW(ws:List (List UInt8)):XQ name 4 ws=(match ws with|[a]=>(VR a).map fun a=>({ Xo name 4 with size:=a },[])|_=>none):=rfl
theorem Qhx(ws:List (List UInt8)):XQ name 5 ws=(match ws with|[a,b]=>(match VR a,VR b with|some a,some b=>some ({ Xo name 5 with stop:=a,size:=b },[])|_,_=>none)|_=>none):=rfl
theorem QgF(ws:List (List UInt8)):XQ name 6 ws=(match ws with|[a,b]=>if Qk a&&Qk b then some (Xo name 6,[a,b]) else none|_=>none):=rfl
theorem Qho(ws:List (List UInt8)):XQ name 9 ws=(match ws with|[a,b]=>(match VR a with|some a=>if Qk b then some ({ Xo name 9 with stop:=a },[b]) else none|none=>none)|_=>none):=rfl
theorem QkX(ws:List (List UInt8)):XQ name 10 ws=(match ws with|[a]=>if Qk a then some (Xo name 10,[a]) else none|_=>none):=rfl
theorem QoS(ws:List (List UInt8)):XQ name 7 ws=((Kw ws).map fun p=>({ Xo name 7 with names:=p.1 },p.2)):=rfl
theorem QpN(ws:List (List UInt8)):XQ name 8 ws=(if ws.all Qk then some (Xo name 8,ws) else none):=rfl
theorem Qwn{out:List UInt8}(hN:N=rest.length+2)(h1:k1=min (2+1) N)(hb:bad=((false||decide (N<=2))||!(Q1U (wAt (name::w1::rest) 2))))(ho:∀o,XI (wAt (name::w1::rest) 2)=some o->wAt (name::w1::rest) 2≠[]->o=out):
  if okB bad N k1 then XQ name 1 rest=some ({ Xo name 1 with bs:=out },[]) else XQ name 1 rest=none:=by
 rw[QoQ];match rest with
 |[]=>
  have e:okB bad N k1=false:=by rw[hb];unfold okB;simp [hN]
  exact XT e rfl
 |[a]=>
  have hN':N=3:=hN;have hk:k1=3:=by omega
  have hw:wAt [name,w1,a] 2=a:=rfl;rw[hw] at hb ho;simp only;by_cases ha:a=[]
  ·have e:okB bad N k1=false:=by rw[hb,ha];unfold okB;simp [Qiq]
   exact XT e (by rw[if_pos ha])
  ·rw[if_neg ha]
   cases hu:XI a with
   |none=>
    have e:okB bad N k1=false:=by rw[hb];unfold okB Q1U;simp [hu]
    exact XT e rfl
   |some o=>
    have e:okB bad N k1=true:=by rw[hb,hN',hk];unfold okB Q1U;simp [hu,ha]
    rw[ho o hu ha];exact Q2r e rfl
 |a::b::t=>
  have hN':N=t.length+4:=by rw[hN];simp only[List.length_cons]
  have e:okB bad N k1=false:=by
   unfold okB;rw[beq_eq_false_iff_ne.2 Q2,Bool.and_false]
  exact XT e rfl
theorem QwB(hN:N=rest.length+2)(h1:k1=min (2+1) N)(hb:bad=((false||decide (N<=2))||!(numOk (wAt (name::w1::rest) 2)))):
  if okB bad N k1 then XQ name 4 rest=some ({ Xo name 4 with size:=Xx (wAt (name::w1::rest) 2) },[]) else XQ name 4 rest=none:=by
 rw[QpW];match rest with
 |[]=>exact XT QhT rfl
 |[a]=>
  have hN':N=3:=hN;have hw:wAt [name,w1,a] 2=a:=rfl;rw[hw] at hb ⊢;simp only;cases ha:numOk a with
  |false=>rw[Y7 ha];exact XT QhN rfl
  |true=>rw[JX ha];exact Q2r (Q3S (by rw[hb,ha,hN'];rfl) Q2) rfl
 |a::b::t=>
  have hN':N=t.length+4:=by rw[hN];simp only[List.length_cons]
  exact QeQ
theorem QuG(hN:N=rest.length+2)(h1:k1=min (2+1) N)(hb:bad=((false||decide (N<=2))||!(Qk (wAt (name::w1::rest) 2)))):
  if okB bad N k1 then XQ name 10 rest=some (Xo name 10,[wAt (name::w1::rest) 2]) else XQ name 10 rest=none:=by
 rw[QkX];match rest with
 |[]=>exact XT QhT rfl
 |[a]=>
  have hN':N=3:=hN;have hw:wAt [name,w1,a] 2=a:=rfl;rw[hw] at hb ⊢;simp only;cases ha:Qk a with
  |false=>exact XT QhN rfl
  |true=>exact Q2r (Q3S (by rw[hb,ha,hN'];rfl) Q2) rfl
 |a::b::t=>
  have hN':N=t.length+4:=by rw[hN];simp only[List.length_cons]
  exact QeQ
theorem QaL{va vb:List UInt8->Bool}{X:Option (Rl×List (List UInt8))}{Y:List UInt8->List UInt8->Rl×List (List UInt8)}(hva:va []=false)(hvb:vb []=false)(hN:N=rest.length+2)(h1:k1=min (2+1) N)(h2:k2=min (k1+1) N)(hb:bad=((((false||decide (N<=2))||!(va (wAt (name::w1::rest) 2)))||decide (N<=k1))||!(vb (wAt (name::w1::rest) k1))))
  (hX:∀a b,rest=[a,b]->X=if va a&&vb b then some (Y a b) else none) (hno:(∀a b,rest≠[a,b])->X=none):
  if okB bad N k2 then X=some (Y (wAt (name::w1::rest) 2) (wAt (name::w1::rest) k1)) else X=none:=by
 match rest,hX,hno with
 |[],hX,hno=>exact XT QhT (hno Qn)
 |[a],hX,hno=>
  have hN':N=3:=hN;have hk:k1=3:=by omega
  exact XT (Ju (by rw[hb,hN',hk];simp)) (hno Qn)
 |[a,b],hX,hno=>
  have hN':N=4:=hN;have hk:k1=3:=by omega
  have hk2:k2=4:=by omega
  have hw:wAt [name,w1,a,b] 2=a:=rfl;have hw2:wAt [name,w1,a,b] 3=b:=rfl;rw[hk,hw,hw2,hN'] at hb;rw[hk,hw,hw2,hX a b rfl];cases ha:va a with
  |false=>exact XT QhN rfl
  |true=>
   cases hb':vb b with
   |false=>exact XT (Ju (by rw[hb,ha,hb'];simp)) rfl
   |true=>exact Q2r (Q3S (by rw[hb,ha,hb'];rfl) Q2) rfl
 |a::b::c::t,hX,hno=>
  have hN':N=t.length+5:=by rw[hN];simp only[List.length_cons]
  exact XT (QbT Q2) (hno Qn)
theorem QwH(hN:N=rest.length+2)(h1:k1=min (2+1) N)(h2:k2=min (k1+1) N)(hb:bad=((((false||decide (N<=2))||!(numOk (wAt (name::w1::rest) 2)))||decide (N<=k1))||!(numOk (wAt (name::w1::rest) k1)))):
  if okB bad N k2 then XQ name 3 rest=some ({ Xo name 3 with stop:=Xx (wAt (name::w1::rest) 2),mx:=Xx (wAt (name::w1::rest) k1) },[]) else XQ name 3 rest=none:=by
 refine QaL (va:=numOk) (vb:=numOk) (Y:=fun a b=>({ Xo name 3 with stop:=Xx a,mx:=Xx b },[])) rfl rfl hN h1 h2 hb (fun a b e=>?_) (fun hno=>?_)
 ·rw[e];rw[Qge]
  simp only;cases ha:numOk a with
  |false=>rw[Y7 ha];rfl
  |true=>
   cases hb':numOk b with
   |false=>rw[JX ha,Y7 hb'];rfl
   |true=>rw[JX ha,JX hb'];rfl
 ·rw[Qge]
  match rest with
  |[]=>rfl
  |[a]=>rfl
  |[a,b]=>exact absurd rfl (hno a b)
  |a::b::c::t=>rfl
theorem Qws(hN:N=rest.length+2)(h1:k1=min (2+1) N)(h2:k2=min (k1+1) N)(hb:bad=((((false||decide (N<=2))||!(numOk (wAt (name::w1::rest) 2)))||decide (N<=k1))||!(numOk (wAt (name::w1::rest) k1)))):
  if okB bad N k2 then XQ name 5 rest=some ({ Xo name 5 with stop:=Xx (wAt (name::w1::rest) 2),size:=Xx (wAt (name::w1::rest) k1) },[]) else XQ name 5 rest=none:=by
 refine QaL (va:=numOk) (vb:=numOk) (Y:=fun a b=>({ Xo name 5 with stop:=Xx a,size:=Xx b },[])) rfl rfl hN h1 h2 hb (fun a b e=>?_) (fun hno=>?_)
 ·rw[e];rw[Qhx]
  simp only;cases ha:numOk a with
  |false=>rw[Y7 ha];rfl
  |true=>
   cases hb':numOk b with
   |false=>rw[JX ha,Y7 hb'];rfl
   |true=>rw[JX ha,JX hb'];rfl
 ·rw[Qhx]
  match rest with
  |[]=>rfl
  |[a]=>rfl
  |[a,b]=>exact absurd rfl (hno a b)
  |a::b::c::t=>rfl
theorem QwC(hN:N=rest.length+2)(h1:k1=min (2+1) N)(h2:k2=min (k1+1) N)(hb:bad=((((false||decide (N<=2))||!(Qk (wAt (name::w1::rest) 2)))||decide (N<=k1))||!(Qk (wAt (name::w1::rest) k1)))):
  if okB bad N k2 then XQ name 6 rest=some (Xo name 6,[wAt (name::w1::rest) 2,wAt (name::w1::rest) k1]) else XQ name 6 rest=none:=by
 refine QaL (va:=Qk) (vb:=Qk) (Y:=fun a b=>(Xo name 6,[a,b])) rfl rfl hN h1 h2 hb (fun a b e=>?_) (fun hno=>?_)
 ·rw[e];rw[QgF]
 ·rw[QgF]
  match rest with
  |[]=>rfl
  |[a]=>rfl
  |[a,b]=>exact absurd rfl (hno a b)
  |a::b::c::t=>rfl
theorem QwD(hN:N=rest.length+2)(h1:k1=min (2+1) N)(h2:k2=min (k1+1) N)(hb:bad=((((false||decide (N<=2))||!(numOk (wAt (name::w1::rest) 2)))||decide (N<=k1))||!(Qk (wAt (name::w1::rest) k1)))):
  if okB bad N k2 then XQ name 9 rest=some ({ Xo name 9 with stop:=Xx (wAt (name::w1::rest) 2) },[wAt (name::w1::rest) k1]) else XQ name 9 rest=none:=by
 refine QaL (va:=numOk) (vb:=Qk) (Y:=fun a b=>({ Xo name 9 with stop:=Xx a },[b])) rfl rfl hN h1 h2 hb (fun a b e=>?_) (fun hno=>?_)
 ·rw[e];rw[Qho]
  simp only;cases ha:numOk a with
  |false=>rw[Y7 ha];rfl
  |true=>
   rw[JX ha,Bool.true_and]
 ·rw[Qho]
  match rest with
  |[]=>rfl
  |[a]=>rfl
  |[a,b]=>exact absurd rfl (hno a b)
  |a::b::c::t=>rfl
theorem QwG(hN:N=rest.length+2)(h1:k1=min (2+1) N)(h2:k2=min (k1+1) N)(h3:k3=min (k2+1) N)(h4:k4=min (k3+1) N)(hb:bad=((((((((false||decide (N<=2))||!(numOk (wAt (name::w1::rest) 2)))||decide (N<=k1))||!(KH (wAt (name::w1::rest) k1)))||decide (N<=k2))||!(numOk (wAt (name::w1::rest) k2)))||decide (N<=k3))||!(numOk (wAt (name::w1::rest) k3)))):
  if okB bad N k4 then XQ name 2 rest=some ({ Xo name 2 with size:=Xx (wAt (name::w1::rest) 2),big:=wAt (name::w1::rest) k1==Q08,mn:=Xx (wAt (name::w1::rest) k2),mx:=Xx (wAt (name::w1::rest) k3) },[]) else XQ name 2 rest=none:=by
 rw[Qp0];match rest with
 |[]=>exact XT QhT rfl
 |[a]=>
  have hN':N=3:=hN;have hk:k1=3:=by omega
  exact XT (Ju (by rw[hb,hN',hk];simp)) rfl
 |[a,b]=>
  have hN':N=4:=hN;have hk:k1=3:=by omega
  have hk2:k2=4:=by omega
  exact XT (Ju (by rw[hb,hN',hk2];simp)) rfl
 |[a,b,c]=>
  have hN':N=5:=hN;have hk3:k3=5:=by omega
  exact XT (Ju (by rw[hb,hN',hk3];simp)) rfl
 |[a,b,c,d]=>
  have hN':N=6:=hN;have hk:k1=3:=by omega
  have hk2:k2=4:=by omega
  have hk3:k3=5:=by omega
  have hw:wAt [name,w1,a,b,c,d] 2=a:=rfl;have hw2:wAt [name,w1,a,b,c,d] 3=b:=rfl;have hw3:wAt [name,w1,a,b,c,d] 4=c:=rfl;have hw4:wAt [name,w1,a,b,c,d] 5=d:=rfl;rw[hk,hk2,hk3,hw,hw2,hw3,hw4,hN'] at hb;rw[hk,hk2,hk3,hw,hw2,hw3,hw4];simp only;cases ha:numOk a with
  |false=>rw[Y7 ha];exact XT QhN rfl
  |true=>
   rw[JX ha];cases hc:numOk c with
   |false=>rw[Y7 hc];exact XT (Ju (by rw[hb,hc];simp)) rfl
   |true=>
    rw[JX hc];cases hd:numOk d with
    |false=>rw[Y7 hd];exact XT (Ju (by rw[hb,hd];simp)) rfl
    |true=>
     rw[JX hd];simp only;by_cases ho:b=Q08\/b=JW
     ·rw[if_pos ho]
      have hob:KH b=true:=by
       unfold KH;rcases ho with e|e<;>rw[e]<;>rfl
      exact Q2r (Q3S (by rw[hb,ha,hc,hd,hob];rfl) Q2) rfl
     ·rw[if_neg ho]
      have hob:KH b=false:=by
       unfold KH;rw[Bool.or_eq_false_iff,beq_eq_false_iff_ne,beq_eq_false_iff_ne];exact⟨fun e=>ho (.inl e),fun e=>ho (.inr e)⟩
      exact XT (Ju (by rw[hb,hob];simp)) rfl
 |a::b::c::d::e::t=>
  have hN':N=t.length+7:=by rw[hN];simp only[List.length_cons]
  exact QeQ
theorem Qji(w:List UInt8):Q6q w=if Q5e true w then none else some (YJ w,Q64 true w):=by
 have h1:Q5e true w=((!(Xf 58 w).2.2||(!((Xf 58 w).1==[45])&&!(Qk (Xf 58 w).1)))||!(Qk (Xf 58 w).2.1)):=rfl;have h2:Q64 true w=(Xf 58 w).2.1:=rfl;have h3:YJ w=if (Xf 58 w).1==[45] then [] else (Xf 58 w).1:=rfl;rw[h1,h2,h3];unfold Q6q;cases (Xf 58 w).2.2<;>cases ((Xf 58 w).1==[45])<;>cases Qk (Xf 58 w).1<;>cases Qk (Xf 58 w).2.1<;>rfl
theorem Q2h:∀ws:List (List UInt8),Kw ws=if ws.any (Q5e true) then none else some (ws.map YJ,ws.map (Q64 true))
 |[]=>rfl
 |w::l=>by
  unfold Kw
  rw[Qji w,Q2h l,List.any_cons]
  cases Q5e true w<;>cases l.any (Q5e true)<;>rfl
theorem Qh0:∀ws:List (List UInt8),ws.any (Q5e false)=!(ws.all Qk)
 |[]=>rfl
 |w::l=>by
  rw[List.any_cons,List.all_cons,Qh0 l,show Q5e false w=!(Qk w) from rfl]
  cases Qk w<;>cases l.all Qk<;>rfl
theorem Qjx:∀ws:List (List UInt8),ws.map (Q64 false)=ws
 |[]=>rfl
 |w::l=>by rw[List.map_cons,Qjx l];rfl
theorem Qc3{j:Nat}(hN:N=rest.length+2)(hj:j=N):wIn (name::w1::rest) 2 j=rest:=by
 have h:=QpR (ws:=name::w1::rest) (k:=2);rw[hj,hN];exact h
theorem Qwj(hN:N=rest.length+2)(hj:y.j=N)(h:PaI true (name::w1::rest) N 2 false [] y):
  if okB y.b N y.j then XQ name 7 rest=some ({ Xo name 7 with names:=y.nm },y.ns) else XQ name 7 rest=none:=by
 have hb:=h.b;have hns:=h.ns;have hnm:=h.nm;rw[Qc3 hN hj] at hb hns hnm;rw[Bool.false_or] at hb;rw[QoS,Q2h,hnm,hns,<- hb];cases hyb:y.b with
 |true=>exact XT (Ju rfl) rfl
 |false=>exact Q2r (Q3S rfl hj) rfl
theorem QwI(hN:N=rest.length+2)(hj:y.j=N)(h:PaI false (name::w1::rest) N 2 false [] y):
  (if okB y.b N y.j then XQ name 8 rest=some (Xo name 8,y.ns) else XQ name 8 rest=none)/\y.nm=[]:=by
 have hb:=h.b;have hns:=h.ns;have hnm:=h.nm;rw[Qc3 hN hj] at hb hns;rw[Bool.false_or,Qh0] at hb;refine⟨?_,hnm⟩;rw[QpN,hns,Qjx];cases hyb:y.b with
 |true=>
  rw[hyb] at hb;refine XT (Ju rfl) ?_;rw[if_neg];intro e;rw[e] at hb;cases hb
 |false=>
  rw[hyb] at hb;refine Q2r (Q3S rfl hj) ?_;rw[if_pos]
  ·rfl
  ·cases ha:rest.all Qk with
   |true=>rfl
   |false=>rw[ha] at hb;cases hb
end
end
section
variable {w:World}
theorem Qdl(x:List UInt8):∀(zs:List (List UInt8)) (i:Nat),Lib.idxFromS (zs.map fun l=>(⟨l.toArray⟩:ByteArray)) ⟨x.toArray⟩ i=match zs.findIdx? (·==x) with|some j=>((i+j:Nat):Int)|none=>-1
 |[],i=>rfl
 |z::zs,i=>by
  rw[List.map_cons,Lib.idxFromS,List.findIdx?_cons]
  by_cases h:z=x
  ·subst h
   simp
  ·have h1:¬(⟨z.toArray⟩:ByteArray)=⟨x.toArray⟩:=by
    intro e;apply h;have:=congrArg (fun s:ByteArray=>s.data.toList) e;simpa using this
   have h2:(z==x)=false:=beq_eq_false_iff_ne.2 h;rw[h2,if_neg h1,if_neg Bool.false_ne_true,Qdl x zs (i+1)];cases zs.findIdx? (·==x) with
   |none=>rfl
   |some j=>
    show ((i+1+j:Nat):Int)=((i+(j+1):Nat):Int);congr 1;omega
theorem Qfn{b:Nat}{x:List UInt8}(hr:Rd w w.heap.size 1 (some ⟨b,0,none⟩) 10 (sv JV)):Calls Tryz.prog 132 #[.slice (some ⟨b,0,none⟩) 10 10,.string ⟨x.toArray⟩] w fun e w'=>e=.returned (.int .i64 (kwK x - 1))/\Below w.heap.size w w':=by
 refine(Tryz.slices_Index_string b 0 10 10 (JV.map fun l=>(⟨l.toArray⟩:ByteArray)) ⟨x.toArray⟩ w Q1 Q1 (fun j hj=>?_)).mono ?_
 ·obtain⟨b',o,e,_,hc⟩:=hr.2 Q1
  cases e
  refine hc j _ ?_;rw[List.length_map] at hj;unfold sv;rw[List.getElem?_map,List.getD_eq_getElem?_getD,List.getElem?_map,List.getElem?_eq_getElem hj];rfl
 ·rintro e w' ⟨rfl,rfl⟩
  refine⟨?_,Below.refl _ _⟩;have h:Lib.idxOfS ((JV.map fun l=>(⟨l.toArray⟩:ByteArray)).take 10) ⟨x.toArray⟩=kwK x - 1:=by
   rw[show (JV.map fun l=>(⟨l.toArray⟩:ByteArray)).take 10=JV.map fun l=>(⟨l.toArray⟩:ByteArray) from rfl];unfold Lib.idxOfS;rw[Qdl];unfold kwK;cases JV.findIdx? (·==x) with
   |none=>rfl
   |some j=>simp only;omega
  rw[h]
theorem Qkq{M:List Nat}{W:World}{O:List Qf}{l:List UInt8}(hg:GVE w)(hl:l.length<=1048576)(hw:Wd M W O w):
  Calls Tryz.prog 130 #[.string ⟨l.toArray⟩,.string ⟨#[32]⟩] w (QN (fun b:Nat=>.slice (some ⟨b,0,none⟩) (spl 32 l).length (spl 32 l).length) (fun _=>True) M W (fun b=>.rd (some ⟨b,0,none⟩) (spl 32 l).length 1 (sv (spl 32 l))::O)):=by
 obtain⟨m,hm⟩:=hg.ml;refine(Tryz.strings_Split ⟨l.toArray⟩ ⟨#[32]⟩ m w (by rw[ZH];omega) hm Q1).mono ?_;rintro e w' ⟨rfl,rfl⟩;have hd:(Lib.splitB ⟨#[32]⟩ 0 (Lib.countB ⟨l.toArray⟩ ⟨#[32]⟩) ⟨l.toArray⟩).map (fun s=>s.data.toList)=spl 32 l:=(Lib.splitB_data _ _ _ _).trans (Q6A 32 l);have hlen:(spl 32 l).length=Lib.countB ⟨l.toArray⟩ ⟨#[32]⟩+1:=by
  rw[<- hd,List.length_map];exact Lib.splitB_all ⟨#[32]⟩ Q1 0 _ _ rfl
 have hcs:(Lib.splitB ⟨#[32]⟩ 0 (Lib.countB ⟨l.toArray⟩ ⟨#[32]⟩) ⟨l.toArray⟩).map Value.string=sv (spl 32 l):=by
  rw[<- hd];unfold sv;rw[List.map_map];refine List.map_congr_left fun s _=>?_;show Value.string s=Value.string ⟨s.data.toList.toArray⟩;rw[show (⟨s.data.toList.toArray⟩:ByteArray)=s from Lib.mk_data s]
 rw[hcs,<- hlen];refine⟨w.heap.size,rfl,trivial,hw.push Qn3 ⟨by rw[Z8,Nat.mul_one],fun _=>⟨w.heap.size,0,rfl,by simp,fun j u hu=>?_⟩⟩ (fun b' hb'=>?_)⟩
 ·rw[Nat.zero_add];exact(cell_of_row _ w.heap.size j _ _ (0,0) Qa0).trans (by rw[List.getElem?_toArray];exact hu)
 ·simp only[Qf.foot] at hb'
  split at hb'
  ·cases hb'
  ·cases hb';exact Q0n
end
end Go.Proofs.YtphkhfdmlcnoeaaGreatDoor
