import Derived.Test.YtphkhfdmlcnoeaaGreatDoorP16
namespace Go.Proofs.YtphkhfdmlcnoeaaGreatDoor
set_option linter.unusedVariables false
set_option linter.unusedSimpArgs false
open Go.RowKit
def X4:List (Nat→Bool)→List Value
 |[]=>[]
 |s::l=>Xd s++X4 l
theorem Q4D:∀l:List (Nat→Bool),(X4 l).length=l.length*256
 |[]=>rfl
 |s::l=>by rw[X4,List.length_append,Qk,Q4D l,List.length_cons];omega
theorem Q4B:∀(l m:List (Nat→Bool)),X4 (l++m)=X4 l++X4 m
 |[],m=>rfl
 |s::l,m=>by rw[List.cons_append,X4,X4,Q4B l m,List.append_assoc]
def Zx:Nat→Bool:=fun _=>false
theorem Q0Y:∀(l:List (Nat→Bool)) (k c:Nat),k<l.length→c<256→(X4 l)[k*256+c]? =some (.bool ((l.getD k Zx) c))
 |[],k,c,h,_=>absurd h (by simp)
 |s::l,0,c,_,hc=>by
  rw[X4,List.getElem?_append_left (by rw[Qk];omega),Nat.zero_mul,Nat.zero_add,ZL s hc]
  rfl
 |s::l,k+1,c,h,hc=>by
  rw[X4,List.getElem?_append_right (by rw[Qk];omega),Qk,show (k+1)*256+c - 256=k*256+c by omega,Q0Y l k c (by simpa using h) hc]
  rfl
theorem Q4C:∀(l:List (Nat→Bool)) (k c:Nat) (b:Bool),k<l.length→c<256→(X4 l).set (k*256+c) (.bool b)=X4 (l.set k (fun j=>if j=c then b else (l.getD k Zx) j))
 |[],k,c,b,h,_=>absurd h (by simp)
 |s::l,0,c,b,_,hc=>by
  rw[X4,List.set_append_left _ _ (by rw[Qk];omega),Nat.zero_mul,Nat.zero_add,Yj]
  rfl
 |s::l,k+1,c,b,h,hc=>by
  rw[X4,List.set_append_right _ _ (by rw[Qk];omega),Qk,show (k+1)*256+c - 256=k*256+c by omega,Q4C l k c b (by simpa using h) hc]
  rfl
theorem Q0D(l:List (Nat→Bool))(k:Nat)(h:k<l.length):∀j u,(Xd (l.getD k Zx))[j]? =some u→(X4 l)[k*256+j]? =some u:=by
 intro j u hu
 have hj:j<256:=by
  rcases Nat.lt_or_ge j 256 with hj|hj
  ·exact hj
  ·rw[List.getElem?_eq_none (by rw[Qk];omega)] at hu;cases hu
 rw[Q0Y l k j h hj];rw[ZL _ hj] at hu;exact hu
def YH(r:Rl):Nat→Bool:=Q0E r.kind r.bs r.size r.big r.mn r.mx r.stop
def orS(s t:Nat→Bool):Nat→Bool:=fun j=>s j||t j
def JY(Ss:List (Nat→Bool))(k i:Nat):List (Nat→Bool):=Ss.set k (orS (Ss.getD k Zx) (Ss.getD i Zx))
def Y2(F:List Rl)(Ss:List (Nat→Bool))(k:Nat):List (Nat→Bool):=(bg F k).foldl (fun S i=>JY S k i) Ss
def J4(F:List Rl)(Ss:List (Nat→Bool)):List (Nat→Bool):=(List.range F.length).foldl (Y2 F) Ss
def K8(F:List Rl):List (Nat→Bool):=iter (J4 F) F.length (F.map YH)
theorem Qal{r:Rl}{Ab An Ap:Option Addr}{n cb cn cp:Nat}{W:World}(hl:RuL W r Ab cb An cn Ap cp)(hr:ROk n r):
  Calls Tryz.prog 96 #[.agg (ruC r (.slice Ab r.bs.length cb) (.slice An r.names.length cn) (.slice Ap r.parts.length cp)).toArray] W (Jp W (YH r)):=by
 obtain⟨name,kind,bs,size,big,mn,mx,stop,count,elem,names,parts⟩:=r;have hk:=hr.kind;have hb:=hl.b;have h1:=hr.bs1;have h2:=hr.num;have h3:=hr.dec;have h5:=hr.size5;have hs:=hr.stop
 unfold YH
 simp only at hk hb h1 h2 h3 h5 hs ⊢
 rcases (show kind=1∨kind=2∨kind=3∨kind=4∨kind=5∨kind=6∨kind=7∨kind=8∨kind=9∨kind=10 by omega) with rfl|rfl|rfl|rfl|rfl|rfl|rfl|rfl|rfl|rfl
 ·exact QfK W hb (h1 rfl)
 ·obtain⟨a1,a2,a3,a4,a5⟩:=h2 rfl
  have a6:mx≤4294967295:=by
   have b1:1≤size:=a1;have b2:size≤4:=a2;have b5:mx<256 ^ size.toNat:=a5;clear h1 h2 h3 h5 hs hr hl hb a1 a2 a3 a4 a5
   rcases (show size=1∨size=2∨size=3∨size=4 by omega) with rfl|rfl|rfl|rfl<;>simp at b5<;>omega
  cases big with
  |true=>exact Qed (big:=true) W ⟨a1,a2⟩ ⟨a3,a4,a6⟩
  |false=>exact QeC (big:=true) W ⟨a3,a4,a6⟩
 ·exact Qfw W ⟨(h3 rfl).1,(h3 rfl).2.1⟩
 ·exact QfN W
 ·by_cases h0:0<size
  ·exact QeY W h0
  ·have h50:0≤size:=(h5 rfl).1
   have h51:size=0:=by omega
   exact QeI W h51 (hs (.inr (.inl rfl)))
 ·exact Qfa W
 ·exact QfJ W
 ·exact QfF W
 ·exact Qfy W (hs (.inr (.inr rfl)))
 ·exact Qee W
def KH(W:World)(c:Bool)(e:Ending)(w':World):Prop:=e=.returned (.bool c)∧Below W.heap.size W w'
theorem VB{W w:World}{c c':Bool}{O:List Qc}(h:c=c')(hw:Wd [] W O w):KH W c' (.returned (.bool c)) w:=⟨by rw[h],hw.k.below⟩
theorem Q1J{r:Rl}{Ab An Ap:Option Addr}{cb cn cp n:Nat}{W w:World}{O:List Qc}(hl:RuL W r Ab cb An cn Ap cp)(hr:ROk n r)(hw:Wd [] W O w):
  Calls Tryz.prog 97 #[.agg (ruC r (.slice Ab r.bs.length cb) (.slice An r.names.length cn) (.slice Ap r.parts.length cp)).toArray] w (XR (fun y:Option Addr×Nat=>.slice y.1 (bl r).length y.2) (fun y=>(bl r).length≤y.2∧(bl r=[]→y=(none,0))) [] W (fun y=>.rd y.1 (bl r).length 1 (iv (bl r))::O)):=by
 refine(Q5h (hl.on hw.k.below) hr.kind (fun h=>(hr.seven h).2) (fun h=>by have:=hr.eight h;omega)).mono ?_
 rintro e w' ⟨A,m,c,rfl,h1,h2,h3,h4,h5⟩
 have hm:(bl r).length=m:=by have:=h1.len;rw[Ki] at this;exact this
 subst hm;refine⟨(A,c),rfl,⟨h2,fun h=>?_⟩,(hw.on h3).rd_far hw h1 (fun b o e hn=>?_)⟩
 ·obtain⟨rfl,rfl⟩:=h5 (by rw[h];rfl)
  rfl
 ·rcases h4 b o e hn with h|⟨⟨o',h⟩,h0⟩
  ·exact .inl h
  ·right
   obtain⟨b',o'',e',hlt,_⟩:=hl.p.2 h0;rw[h] at e'
   cases e'
   exact hlt
theorem Qci{l:List Int}{A:Option Addr}{c:Nat}{W w:World}{O:List Qc}(hl:0<l.length)(hl':l.length≤1048576)(hw:Wd [] W (.rd A l.length 1 (iv l)::O) w):
  Calls Tryz.prog 151 #[.slice A l.length c] w (XR (fun y:Nat×Nat×Nat×List Value=>.slice (some ⟨y.1,y.2.1,none⟩) l.length y.2.2.1) (fun y=>Q2j y.2.1 l.length y.2.2.1 y.2.2.2 (iv l)) [] W (fun y=>.blk y.1 (.cells y.2.2.2.toArray 3 (0,0))::.rd A l.length 1 (iv l)::O)):=by
 refine(Q5H (hw.own 0 _ rfl) hl hl').mono ?_
 rintro e w' ⟨b,q,c',cur,rfl,h1,h2,h3,h4⟩
 exact⟨(b,q,c',cur),rfl,h3,hw.push h4 h2 (fun b' hb'=>by cases hb';exact h1)⟩
theorem Qc3{q n c:Nat}{cur:List Value}{x:Int}{t:List Int}(h:Q2j q (n+1) c cur (iv (x::t))):∃q',ZU (some ⟨0,q,none⟩) c 1 1=some ⟨0,q',none⟩∧(∀b,ZU (some ⟨b,q,none⟩) c 1 1=some ⟨b,q',none⟩)∧Q2j q' n (c - 1) cur (iv t):=by
 obtain⟨h1,h2,h3,h4,h5⟩:=h
 have hl:(iv t).length=n:=by rw[Ki] at h4 ⊢;simpa using h4
 by_cases hc:c=1
 ·refine⟨q,by rw[ZU,if_pos hc],fun b=>by rw[ZU,if_pos hc],by omega,by omega,by omega,hl,fun j u hu=>?_⟩
  have hn:n=0:=by omega
  rw[List.getElem?_eq_none (by omega)] at hu
  cases hu
 ·refine⟨q+1,by rw[ZU,if_neg hc,Option.map_some,Addr.add_mid],fun b=>by rw[ZU,if_neg hc,Option.map_some,Addr.add_mid],by omega,by omega,by omega,hl,fun j u hu=>?_⟩;have:=h5 (j+1) u (by exact hu);rwa [show q+(j+1)=q+1+j by omega] at this
def cyE(bf bs k n:Nat)(s:Cy):Env:=[(1,.int .i64 (k:Int)),(2,.pointer (some ⟨bf,0,none⟩)),(5,.slice (some ⟨bs,0,none⟩) n n),(6,.slice (some ⟨s.b,s.q,none⟩) s.qs.length s.c)]
def cyO(bf bs n c:Nat)(A:Option Addr)(s:Cy):List Qc:=[.blk s.b (.cells s.cur.toArray 3 (0,0)),.row (some ⟨bs,0,none⟩) n n 4 1 (J3 s.seen),.blk bf (.cells [.slice A n c].toArray 24 (0,0))]
set_option maxRecDepth 100000 in
set_option maxHeartbeats 8000000 in
theorem Q1i{F:List Rl}{A:Option Addr}{n c k:Nat}{W:World}(hf:Xm W W.heap.size A n F)(hF:FOk F)(hn:n≤40)(hk:k<n):
  Calls Tryz.prog 117 #[.agg #[.slice A n c],.int .i64 (k:Int)] W (KH W (Q1g F k)):=by
 have hlen:F.length=n:=hf.1;obtain⟨b,o,rfl⟩:=hf.addr (by omega);obtain⟨rk,Ab,cb,An,cn,Ap,cp,hrk,hrg,hlk⟩:=hf.rl hk;have hok:=hF k rk hrk;have HBG:=Lib.hid (Q1T hrk);have HFM:=Lib.hid hf;have HOK:=Lib.hid hok;have HLK:=Lib.hid hlk;have HF:=Lib.hid hF;have HLEN:=Lib.hid hlen;have h12:=Q52 hok;clear hrk hf hok hlk hF hlen
 go_enter Tryz.func117,Tryz.ntmps117
 refine QE (M:=[]) (W:=W) (N:=46) (E:=[(0,.agg #[.slice (some ⟨b,o,none⟩) n c]),(1,.int .i64 (k:Int))]) (O:=[]) ?_ (Ag.cons (Ag.cons (Ag.nil rfl rfl) rfl) rfl) (Wd.start [] W)
 repeat(first|refine Q1 zM ?_|refine Q1 zA ?_|refine Q1 zF ?_|refine Q1 (zB 0) ?_|refine Q1 (zB 1) ?_|refine Q1 (zD 0) ?_|refine Q1 (zD 1) ?_|refine Q1 (zD 2) ?_|refine Q1 zE ?_|refine yB fun bf=>?_|refine Qo (Qcu rfl rfl rfl rfl (by omega)) rfl (by decide) (fun bs _=>?_)|refine Q1 (zi (hj:=hk)) ?_|refine Qo (QM _ _ _ (f:=97) rfl rfl rfl (fun w hw=>Q1J (n:=F.length) HLK.out HOK.out hw)) rfl (by decide) (fun y hy=>?_)|refine Q8 ?_|refine Q9 ?_|refine Q3 ?_|refine Q1 zL ?_)
 obtain⟨l,hl⟩:∃l,bl rk=l:=⟨_,rfl⟩;rw[hl] at hy h12 ⊢
 cases l with
 |nil=>
  obtain rfl:=hy.2 rfl
  repeat(first|refine Q1 zA ?_|refine Q1 (Qb (f:=151) rfl rfl (by decide) rfl rfl (fun w hw=>Q8L w)) ?_|refine Q8 ?_|refine Q9 ?_|refine Qi ?_)
  refine Z2 (ι:=Unit) (fun _=>True) (fun _=>0) (fun _=>[(6,.slice none 0 0)]) (fun _=>[]) () [] (by decide) trivial (.cons rfl rfl .nil) rfl ?_
  rintro _ _
  repeat(first|refine Q1 zM ?_|refine Q1 zA ?_|refine Q8 ?_|refine Q9 ?_|refine Q3 ?_|refine Q6 rfl ?_|refine XL ?_|refine Qr ?_|refine Q1 zL ?_|refine Q1 zgf ?_)
  refine Q7 (by exact .inr rfl) rfl (.tmp rfl) (fun w hw=>VB ?_ hw)
  cases hc:Q1g F k with
  |false=>rfl
  |true=>
   exfalso
   have hr:=(Q0I HF.out.bd (by rw[HLEN.out];exact hk)).1 hc
   have hnone:∀j,Rch F k j→False:=by
    intro j hj
    induction hj with
    |one h=>rw[HBG.out,hl] at h;cases h
    |more _ _ ih=>exact ih
   exact hnone k hr
 |cons x0 t0=>
  refine Qo (QM _ _ _ (f:=151) rfl rfl rfl (fun w hw=>Qci (l:=x0::t0) (by simp) (by omega) hw)) rfl (by decide) (fun z hz=>?_);obtain⟨b1,q1,c1,cur1⟩:=z;have hz0:Q2j q1 (x0::t0).length c1 cur1 (iv (x0::t0)):=hz;clear hz
  have h0:CyP F k { seen:=List.replicate n false,qs:=x0::t0,b:=b1,q:=q1,c:=c1,cur:=cur1 }:=by
   have hno:∀i:Nat,(List.replicate n false).getD i false=false:=fun i=>by
    rw[List.getD_eq_getElem?_getD,List.getElem?_replicate]
    split<;>rfl
   have hin:=Q2y HOK.out;rw[hl] at hin
   have hbg:bg F k=(x0::t0).map Int.toNat:=by rw[HBG.out,hl]
   refine⟨by rw[List.length_replicate,HLEN.out],hz0,hin,fun x hx=>.one ?_,fun x hx=>.inr ?_,fun i hi=>?_,hno k,?_⟩
   ·rw[hbg];exact List.mem_map_of_mem hx
   ·rw[hbg,List.mem_map] at hx;obtain⟨y',hy',rfl⟩:=hx;have:=hin y' hy';rw[show ((y'.toNat:Nat):Int)=y' by omega];exact hy'
   ·have hi':(List.replicate n false).getD i false=true:=hi;rw[hno i] at hi'
    cases hi'
   ·have:=Q5M (fun i=>!((List.replicate n false).getD i false)) F.length
    show 13*cnt (fun i=>!((List.replicate n false).getD i false)) F.length+(x0::t0).length≤_
    omega
  clear hy hl h12
  repeat(first|refine Q1 zA ?_|refine Q8 ?_|refine Q9 ?_|refine Qi ?_)
  refine Z2 (CyP F k) (fun s=>13*V5 s F.length+s.qs.length) (cyE bf bs k n) (cyO bf bs n c (some ⟨b,o,none⟩)) { seen:=List.replicate n false,qs:=x0::t0,b:=b1,q:=q1,c:=c1,cur:=cur1 } [0,2,3] (by decide) h0 (.cons rfl rfl (.cons rfl rfl (.cons rfl rfl (.cons rfl rfl .nil)))) (by show [_,Qc.row _ _ _ _ _ _,_]=_;rw[QdW];rfl) ?_
  rintro⟨seen,qs,b2,q2,c2,cur2⟩ hp
  have HPP:=Lib.hid hp;clear hp
  cases qs with
  |nil=>
   show sE _ _ _ _ _ [(1,.int .i64 (k:Int)),(2,.pointer (some ⟨bf,0,none⟩)),(5,.slice (some ⟨bs,0,none⟩) n n),(6,.slice (some ⟨b2,q2,none⟩) 0 c2)] [.blk b2 (.cells cur2.toArray 3 (0,0)),.row (some ⟨bs,0,none⟩) n n 4 1 (J3 seen),.blk bf (.cells [.slice (some ⟨b,o,none⟩) n c].toArray 24 (0,0))] _
   repeat(first|refine Q1 zM ?_|refine Q1 zA ?_|refine Q8 ?_|refine Q9 ?_|refine Q3 ?_|refine Q6 rfl ?_|refine XL ?_|refine Qr ?_|refine Q1 zL ?_|refine Q1 zgf ?_)
   refine Q7 (by exact .inr rfl) rfl (.tmp rfl) (fun w hw=>VB (HPP.out.done HF.out (by rw[HLEN.out];exact hk) rfl).symm hw)
  |cons x t=>
   show sE _ _ _ _ _ [(1,.int .i64 (k:Int)),(2,.pointer (some ⟨bf,0,none⟩)),(5,.slice (some ⟨bs,0,none⟩) n n),(6,.slice (some ⟨b2,q2,none⟩) (x::t).length c2)] [.blk b2 (.cells cur2.toArray 3 (0,0)),.row (some ⟨bs,0,none⟩) n n 4 1 (J3 seen),.blk bf (.cells [.slice (some ⟨b,o,none⟩) n c].toArray 24 (0,0))] _
   have hx:=HPP.out.inn x List.mem_cons_self;rw[HLEN.out] at hx;have hc0:cur2[q2+0]? =some (.int .i64 x):=HPP.out.win.2.2.2.2 0 _ rfl;obtain⟨q3,_,hcut,hwt⟩:=Qc3 (show Q2j q2 (t.length+1) c2 cur2 (iv (x::t)) from HPP.out.win);have HWT:=Lib.hid hwt;clear hwt
   have hlt:0<(x::t).length:=by simp
   by_cases hxk:x=(k:Int)
   ·have hxk':(x==(k:Int))=true:=beq_iff_eq.2 hxk
    repeat(first|refine Q1 zM ?_|refine Q1 zA ?_|refine Q1 (zi1 (j:=0) (hj:=hlt)) ?_|refine Q1 (zV 0 hc0) ?_|(refine Q1 (Yu (l:=1) rfl rfl (by decide) rfl rfl rfl hlt) ?_;rw[hcut])|refine Q8 ?_|refine Q9 ?_|refine Q3 ?_|refine Qt ?_|refine Qa rfl ?_|refine Qr ?_|refine Qi ?_|refine Qf ?_|refine Qg ?_|refine Q1 zL ?_|refine Q1 zea ?_|refine Q1 zgt ?_)
    refine Q7 (by exact .inr rfl) rfl (.tmp rfl) (fun w hw=>VB ?_ hw);refine((Q0I HF.out.bd (by rw[HLEN.out];exact hk)).2 ?_).symm;have:=HPP.out.sound x List.mem_cons_self;rw[hxk] at this
    simpa using this
   ·have hxk':(x==(k:Int))=false:=beq_eq_false_iff_ne.2 hxk
    have hs0:(J3 seen)[0+x.toNat]? =some (.bool (seen.getD x.toNat false)):=by
     rw[Nat.zero_add];exact Q1c (by rw[show seen.length=F.length from HPP.out.len,HLEN.out];omega)
    have HXK:=Lib.hid hxk;clear hxk;obtain⟨sx,hsx⟩:∃sx,seen.getD x.toNat false=sx:=⟨_,rfl⟩;rw[hsx] at hs0;have HSX:=Lib.hid hsx;clear hsx
    cases sx with
    |true=>
     repeat(first|refine Q1 zM ?_|refine Q1 zA ?_|refine Q1 (zi1 (j:=0) (hj:=hlt)) ?_|refine Q1 (zV 0 hc0) ?_|(refine Q1 (Yu (l:=1) rfl rfl (by decide) rfl rfl rfl hlt) ?_;rw[hcut])|refine Q1 (J2 rfl rfl (by decide) rfl rfl rfl hx) ?_|refine Q1 (zK 1 hs0) ?_|refine Q8 ?_|refine Q9 ?_|refine Q3 ?_|refine Qt ?_|refine Qa rfl ?_|refine Q6 rfl ?_|refine Qi ?_|refine VM ?_|refine Q1 zL ?_|refine Q1 zea ?_|refine Q1 (Q16 rfl rfl (by decide) rfl rfl rfl (by first|exact decide_eq_true (by omega)|rfl)) ?_|refine Q1 zO ?_)
     refine Xc { seen:=seen,qs:=t,b:=b2,q:=q3,c:=c2 - 1,cur:=cur2 } [0,1,2] (by decide) (HPP.out.old rfl HSX.out hx.1 HWT.out) (by show 13*V5 _ _+t.length<13*V5 _ _+(t.length+1);exact Nat.lt_succ_self _) (.cons rfl rfl (.cons rfl rfl (.cons rfl rfl (.cons rfl rfl .nil)))) rfl
    |false=>
     obtain⟨rx,Ab',cb',An',cn',Ap',cp',hrx,hrgx,hlx⟩:=HFM.out.rl (i:=x.toNat) (by omega);have HRX:=Lib.hid hrx;have HLX:=Lib.hid hlx;have HOX:=Lib.hid (HF.out _ _ hrx);have h12:=Q52 HOX.out;have hsm:=HPP.out.small;have hul:=hsm;rw[HLEN.out] at hul;clear hrx hlx hsm
     have hqs:t.length≤13*n+12:=by
      have:(Cy.mk seen (x::t) b2 q2 c2 cur2).qs.length=t.length+1:=rfl
      omega
     clear hul
     repeat(first|refine Q1 zM ?_|refine Q1 zA ?_|refine Q1 zF ?_|refine Q1 (zB 2) ?_|refine Q1 (zD 0) ?_|refine Q1 (zD 1) ?_|refine Q1 zE ?_|refine Q1 (zi1 (j:=0) (hj:=hlt)) ?_|refine Q1 (zV 0 hc0) ?_|(refine Q1 (Yu (l:=1) rfl rfl (by decide) rfl rfl rfl hlt) ?_;rw[hcut])|refine Q1 (J2 rfl rfl (by decide) rfl rfl rfl hx) ?_|refine Q1 (Qm rfl rfl (by decide) rfl rfl rfl hx) ?_|refine Q1 (zK 1 hs0) ?_|refine QJ (Ji 1 rfl rfl rfl rfl rfl rfl (by omega)) rfl (fun _ _=>?_)|refine Qo (QM _ _ _ (f:=97) rfl rfl rfl (fun w hw=>Q1J (n:=F.length) HLX.out HOX.out hw)) rfl (by decide) (fun z hz=>?_)|refine Qo (Q18 (n:=t.length) 1 rfl rfl rfl rfl rfl HWT.out (fun w hw=>hw.own 0 _ rfl) (QaP _) (by omega)) rfl (by decide) (fun y hy=>?_)|refine Q8 ?_|refine Q9 ?_|refine Q3 ?_|refine Qt ?_|refine Qa rfl ?_|refine Q6 rfl ?_|refine Qi ?_|refine VM ?_|refine Q1 zL ?_|refine Q1 zea ?_|refine Q1 (Q16 rfl rfl (by decide) rfl rfl rfl (by first|exact decide_eq_true (by omega)|rfl)) ?_|refine Q1 zO ?_)
     obtain⟨b4,q4,c4,cur4⟩:=y
     have hnew:=HPP.out.new (b':=b4) (q':=q4) (c':=c4) (cur':=cur4) HF.out rfl HRX.out HSX.out HXK.out (by
      have h:Q2j q4 (t.length+(bl rx).length) c4 cur4 (iv t++iv (bl rx)):=hy;rw[List.length_append,Qcw]
      exact h)
     refine Xc { seen:=seen.set x.toNat true,qs:=t++bl rx,b:=b4,q:=q4,c:=c4,cur:=cur4 } [1,2,3] (by decide) hnew.1 hnew.2 (.cons rfl rfl (.cons rfl rfl (.cons rfl rfl (.cons rfl (by rw[List.length_append]) .nil)))) ?_
     show [_,Qc.row _ _ _ _ _ ((J3 seen).set (0+x.toNat) (.bool true)),_]=_
     rw[Nat.zero_add,Q1E]
     rfl
section
variable {P:Program}{ops:Array Oper}{C:World→Prop}{N:Nat}{E:Env}{o:Oper}{d:Nat}
theorem Q6Y{t e:TypeId}{x y:Operand}{b q n s:Nat}{k:IntKind}{m:Int}[hT:Ar P t n e s](ho:o.op=.indexAddr t x y)(hd:o.dst=some d)(hN:d<N)(hw:Qj ops E o=some true)(hx:ev E x=some (.pointer (some ⟨b,q,none⟩)))(hy:ev E y=some (.int k m))(hj:0≤m∧m<n):oE P ops C N E ((d,.pointer (some ⟨b,q+m.toNat*s,none⟩))::E) o:=by
 obtain⟨j,rfl⟩:∃j:Nat,m=(j:Int):=⟨m.toNat,by omega⟩;exact XK ho hd hN hw hx hy (by omega)
end
theorem Rd.cellAt{w:World}{B s b n j:Nat}{xs:List Value}{u:Value}(h:Rd w B s (some ⟨b,0,none⟩) n xs)(hn:0<n)(hu:xs[j]? =some u):w.cell? ⟨b,0+j,none⟩=some u:=by
 obtain⟨b',o,e,_,hc⟩:=h.2 hn
 cases e
 exact hc j u hu
def VZ(S:List (Nat→Bool)):(Nat→Bool)→List Int→Bool
 |_,[]=>false
 |seen,x::l=>(List.range 256).any (fun c=>(S.getD x.toNat Zx) c&&seen c)||VZ S (orS seen (S.getD x.toNat Zx)) l
def VI(S:List (Nat→Bool))(r:Rl):Bool:=
 if r.kind=9 then (S.getD r.elem.toNat Zx) r.stop.toNat else if r.kind=8 then VZ S noS r.parts else false
def Q4l(S:List (Nat→Bool))(l:List Int):Nat→Bool:=l.foldl (fun s x=>orS s (S.getD x.toNat Zx)) noS
theorem KM(S:List (Nat→Bool)):∀(l m:List Int) (s:Nat→Bool),VZ S s (l++m)=(VZ S s l||VZ S (l.foldl (fun s x=>orS s (S.getD x.toNat Zx)) s) m)
 |[],m,s=>rfl
 |x::l,m,s=>by
  rw[List.cons_append,VZ,VZ,KM S l m,List.foldl_cons,Bool.or_assoc]
def ZK(s t:Nat→Bool)(c:Nat):Nat→Bool:=fun j=>if j<c then s j||t j else s j
theorem Q6m(s t:Nat→Bool):ZK s t 0=s:=by funext j;simp [ZK]
theorem Q8w(s t:Nat→Bool):Xd (ZK s t 256)=Xd (orS s t):=JS fun j hj=>by simp [ZK,hj,orS]
theorem Ku(s t:Nat→Bool)(c:Nat):(Xd (ZK s t c)).set c (.bool (s c||t c))=Xd (ZK s t (c+1)):=by
 rw[Yj]
 congr 1
 funext j
 unfold ZK
 by_cases h1:j=c
 ·subst h1;simp
 ·by_cases h2:j<c
  ·have:j<c+1:=by omega
   simp [h1,h2,this]
  ·have:¬j<c+1:=by omega
   simp [h1,h2,this]
theorem Qaj(s t:Nat→Bool){c:Nat}(hc:c<256):(Xd (ZK s t c))[c]? =some (.bool (s c)):=by
 rw[ZL _ hc]
 simp [ZK]
set_option maxRecDepth 100000 in
set_option maxHeartbeats 8000000 in
theorem Q8C{S:List (Nat→Bool)}{r:Rl}{Ab An Ap:Option Addr}{b n c cb cn cp:Nat}{W:World}(hr:ROk n r)(hS:S.length=n)(hrd:Rd W W.heap.size 256 (some ⟨b,0,none⟩) n (X4 S))(hk:r.kind=9):
  Calls Tryz.prog 120 #[.agg (ruC r (.slice Ab r.bs.length cb) (.slice An r.names.length cn) (.slice Ap r.parts.length cp)).toArray,.slice (some ⟨b,0,none⟩) n c] W (KH W (VI S r)):=by
 obtain⟨name,kind,bs,size,big,mn,mx,stop,count,elem,names,parts⟩:=r;have he:=hr.elem (.inr hk);have hs:=hr.stop (.inr (.inr hk))
 simp only at he hs hk
 subst hk
 have hs':0≤stop∧stop<(256:Nat):=by omega
 have hcell:W.cell? ⟨b,0+elem.toNat*256+stop.toNat*1,none⟩=some (.bool ((S.getD elem.toNat Zx) stop.toNat)):=by
  rw[Nat.mul_one,Nat.add_assoc];exact hrd.cellAt (by omega) (Q0Y S _ _ (by omega) (by omega))
 go_enter Tryz.func120,Tryz.ntmps120
 refine QE (M:=[]) (W:=W) (N:=55) (E:=[(0,.agg (ruC ⟨name,9,bs,size,big,mn,mx,stop,count,elem,names,parts⟩ (.slice Ab bs.length cb) (.slice An names.length cn) (.slice Ap parts.length cp)).toArray),(1,.slice (some ⟨b,0,none⟩) n c)]) (O:=[]) ?_ (Ag.cons (Ag.cons (Ag.nil rfl rfl) rfl) rfl) (Wd.start [] W)
 repeat(first|refine Q1 zA ?_|refine Q1 zF ?_|refine Q1 (zB 0) ?_|refine Q1 zC ?_|refine yB fun br=>?_|refine Q8 ?_|refine Q9 ?_|refine Q3 ?_|refine Qa rfl ?_|refine Qi ?_|refine Q1 zer ?_)
 repeat(first|refine Q5 zM ?_|refine Q5 zA ?_|refine Q5 zF ?_|refine Q5 (zB 0) ?_|refine Q5 zC ?_|refine Q5 (Qm rfl rfl (by decide) rfl rfl rfl he) ?_|refine Q5 (Q6Y rfl rfl (by decide) rfl rfl rfl hs') ?_|refine XM ?_|refine Xj (by kernel_rfl) (by kernel_rfl) ?_)
 refine yt<|yk<|yc ?_;refine Q7 (by exact .inr rfl) rfl (.tmp rfl) (fun w hw=>VB rfl hw)
set_option maxRecDepth 100000 in
set_option maxHeartbeats 8000000 in
theorem Q7S{S:List (Nat→Bool)}{r:Rl}{A Ab An Ap:Option Addr}{n c cb cn cp:Nat}{W:World}(h9:(r.kind==9)=false)(h8:(r.kind==8)=false):
  Calls Tryz.prog 120 #[.agg (ruC r (.slice Ab r.bs.length cb) (.slice An r.names.length cn) (.slice Ap r.parts.length cp)).toArray,.slice A n c] W (KH W (VI S r)):=by
 go_enter Tryz.func120,Tryz.ntmps120
 refine QE (M:=[]) (W:=W) (N:=55) (E:=[(0,.agg (ruC r (.slice Ab r.bs.length cb) (.slice An r.names.length cn) (.slice Ap r.parts.length cp)).toArray),(1,.slice A n c)]) (O:=[]) ?_ (Ag.cons (Ag.cons (Ag.nil rfl rfl) rfl) rfl) (Wd.start [] W)
 repeat(first|refine Q1 zA ?_|refine Q1 zF ?_|refine Q1 (zB 0) ?_|refine yB fun br=>?_|refine Q8 ?_|refine Q9 ?_|refine Q3 ?_|refine Qt ?_|refine Q6 rfl ?_|refine Qr ?_|refine Qi ?_|refine Q1 zea ?_)
 refine Q7 (by exact .inr rfl) rfl (.tmp rfl) (fun w hw=>VB ?_ hw)
 unfold VI
 rw[if_neg (by simpa using h9),if_neg (by simpa using h8)]
set_option maxRecDepth 100000 in
set_option maxHeartbeats 8000000 in
theorem Q8y{S:List (Nat→Bool)}{r:Rl}{Ab An Ap:Option Addr}{b n c cb cn cp:Nat}{W:World}(hl:RuL W r Ab cb An cn Ap cp)(hr:ROk n r)(hS:S.length=n)(hrd:Rd W W.heap.size 256 (some ⟨b,0,none⟩) n (X4 S))(hk:r.kind=8):
  Calls Tryz.prog 120 #[.agg (ruC r (.slice Ab r.bs.length cb) (.slice An r.names.length cn) (.slice Ap r.parts.length cp)).toArray,.slice (some ⟨b,0,none⟩) n c] W (KH W (VI S r)):=by
 have h12:=hr.p12;have h2:=hr.eight hk;have hin:=hr.parts (.inr hk);have hp:=hl.p;obtain⟨name,kind,bs,size,big,mn,mx,stop,count,elem,names,parts⟩:=r
 simp only at h12 h2 hin hp hk
 subst hk;have HIN:=Lib.hid hin;have HRD:=Lib.hid hrd;clear hin hrd hl hr;obtain⟨bp,op,hA,hpb,hpc⟩:=hp.2 (by omega);subst hA;have HPC:=Lib.hid hpc;clear hp hpc;have hconf:VI S ⟨name,8,bs,size,big,mn,mx,stop,count,elem,names,parts⟩=VZ S noS parts:=rfl;rw[hconf];clear hconf
 go_enter Tryz.func120,Tryz.ntmps120
 refine QE (M:=[]) (W:=W) (N:=55) (E:=[(0,.agg (ruC ⟨name,8,bs,size,big,mn,mx,stop,count,elem,names,parts⟩ (.slice Ab bs.length cb) (.slice An names.length cn) (.slice (some ⟨bp,op,none⟩) parts.length cp)).toArray),(1,.slice (some ⟨b,0,none⟩) n c)]) (O:=[]) ?_ (Ag.cons (Ag.cons (Ag.nil rfl rfl) rfl) rfl) (Wd.start [] W)
 repeat(first|refine Q1 zM ?_|refine Q1 zA ?_|refine Q1 zF ?_|refine Q1 (zB 0) ?_|refine Q1 (zB 1) ?_|refine yB fun br=>?_|refine yA (t:=92) fun b7=>?_|refine Q8 ?_|refine Q9 ?_|refine Q3 ?_|refine Qa rfl ?_|refine Q6 rfl ?_|refine Qi ?_|refine Q1 zL ?_|refine Q1 zer ?_)
 refine Z2 (ι:=Nat) (fun j=>j≤parts.length∧VZ S noS (parts.take j)=false) (fun j=>parts.length - j) (fun j=>[(1,.slice (some ⟨b,0,none⟩) n c),(5,.pointer (some ⟨b7,0,none⟩)),(25,.slice (some ⟨bp,op,none⟩) parts.length cp),(26,.int .i64 (parts.length:Int)),(27,.int .i64 (j:Int))]) (fun j=>[.blk b7 (.cells (Xd (Q4l S (parts.take j))).toArray 92 (0,0))]) 0 [0] (by decide) ⟨Nat.zero_le _,rfl⟩ (.cons rfl rfl (.cons rfl rfl (.cons rfl rfl (.cons rfl rfl (.cons rfl rfl .nil))))) rfl ?_
 rintro j ⟨hj,hno⟩
 have HNO:=Lib.hid hno;clear hno
 by_cases hjn:j<parts.length
 ·obtain⟨x,hx⟩:∃x,parts[j]? =some x:=⟨_,List.getElem?_eq_getElem hjn⟩;have hxn:=HIN.out x (List.mem_of_getElem? hx);have hcj:W.cell? ⟨bp,op+j,none⟩=some (.int .i64 x):=HPC.out j _ (by unfold iv;rw[List.getElem?_map,hx];rfl);have HX:=Lib.hid hx;clear hx;obtain⟨st,hst⟩:∃st,st=S.getD x.toNat Zx:=⟨_,rfl⟩;obtain⟨s,hs⟩:∃s,s=Q4l S (parts.take j):=⟨_,rfl⟩
  have hset:W.rangeAt b (0+x.toNat*256) (Xd st):=fun q u hu=>by
   rw[Nat.add_assoc];rw[hst] at hu;exact HRD.out.cellAt (by omega) (Q0D S x.toNat (by omega) q u hu)
  rw[← hs];have HST:=Lib.hid hst;have HS:=Lib.hid hs;clear hst hs
  repeat(first|refine Q1 zM ?_|refine Q1 zA ?_|refine Q1 zC ?_|refine Q1 (zD 0) ?_|refine Q1 zE ?_|refine Q1 (zi1 (hj:=hjn)) ?_|refine Q1 (Qm rfl rfl (by decide) rfl rfl rfl hxn) ?_|refine Q8 ?_|refine Q9 ?_|refine Q3 ?_|refine Qt ?_|refine Qa rfl ?_|refine Qi ?_|refine Q1 zlt ?_)
  refine Z2 (ι:=Nat) (fun q=>q≤256∧∀i,i<q→(st i&&s i)=false) (fun q=>256 - q) (fun q=>[(1,.slice (some ⟨b,0,none⟩) n c),(5,.pointer (some ⟨b7,0,none⟩)),(25,.slice (some ⟨bp,op,none⟩) parts.length cp),(26,.int .i64 (parts.length:Int)),(27,.int .i64 (j:Int)),(34,.agg (Xd st).toArray),(35,.int .i64 (q:Int))]) (fun q=>[.blk b7 (.cells (Xd (ZK s st q)).toArray 92 (0,0))]) 0 [0] (by decide) ⟨Nat.zero_le _,fun i hi=>absurd hi (Nat.not_lt_zero _)⟩ (.cons rfl rfl (.cons rfl rfl (.cons rfl rfl (.cons rfl rfl (.cons rfl rfl (.cons rfl rfl (.cons rfl rfl .nil))))))) (by rw[Q6m];rfl) ?_
  rintro q ⟨hq,hmn⟩
  have HMN:=Lib.hid hmn;clear hmn
  by_cases hqn:q<256
  ·have hc0:(Xd (ZK s st q))[0+q*1]? =some (.bool (s q)):=by rw[Nat.zero_add,Nat.mul_one];exact Qaj s st hqn
   obtain⟨sq,hsq⟩:∃sq,s q=sq:=⟨_,rfl⟩;obtain⟨tq,htq⟩:∃tq,st q=tq:=⟨_,rfl⟩
   have htc:(Xd st)[q]? =some (.bool tq):=by rw[ZL st hqn,htq]
   rw[hsq] at hc0;have HSQ:=Lib.hid hsq;have HTQ:=Lib.hid htq;clear hsq htq
   cases tq with
   |true=>
    cases sq with
    |true=>
     repeat(first|refine Q1 zM ?_|refine Q1 zA ?_|refine Q1 (VX (v:=.bool true) rfl rfl (by decide) rfl rfl rfl hqn htc) ?_|refine Q1 (XK rfl rfl (by decide) rfl rfl rfl hqn) ?_|refine Q1 (zV 0 hc0) ?_|refine Q8 ?_|refine Q9 ?_|refine Q3 ?_|refine Qt ?_|refine Qa rfl ?_|refine Qr ?_|refine Qi ?_|refine Qf ?_|refine Qg ?_|refine Q1 (XS rfl rfl (by decide) rfl rfl rfl (by first|exact decide_eq_true (by omega)|rfl)) ?_|refine Q1 zY ?_)
     refine Q7 (by exact .inr rfl) rfl (.tmp rfl) (fun w hw=>VB ?_ hw)
     have e1:VZ S noS (parts.take (j+1))=true:=by
      rw[List.take_add_one,HX.out,Option.toList_some,KM,HNO.out,Bool.false_or,VZ,Bool.or_eq_true];refine .inl (List.any_eq_true.2 ⟨q,List.mem_range.2 hqn,?_⟩);rw[← HST.out,HTQ.out]
      show (true&&Q4l S (parts.take j) q)=true
      rw[← HS.out,HSQ.out]
      rfl
     have e2:=KM S (parts.take (j+1)) (parts.drop (j+1)) noS;rw[List.take_append_drop,e1,Bool.true_or] at e2;exact e2.symm
    |false=>
     repeat(first|refine Q1 zM ?_|refine Q1 zA ?_|refine Q1 (VX (v:=.bool true) rfl rfl (by decide) rfl rfl rfl hqn htc) ?_|refine Q1 (XK rfl rfl (by decide) rfl rfl rfl hqn) ?_|refine Q1 (zV 0 hc0) ?_|refine QJ (X0 0 rfl rfl rfl rfl rfl rfl hc0) rfl (fun _ _=>?_)|refine Q8 ?_|refine Q9 ?_|refine Q3 ?_|refine Qt ?_|refine Qa rfl ?_|refine Q6 rfl ?_|refine Qi ?_|refine Q1 (XS rfl rfl (by decide) rfl rfl rfl (by first|exact decide_eq_true (by omega)|rfl)) ?_|refine Q1 zY ?_|refine Q1 zN ?_|refine Q1 zP ?_)
     refine Xc (q+1) [0] (by decide) ⟨hqn,fun i hi=>?_⟩ (by show 256 - (q+1)<256 - q;omega) (.cons rfl rfl (.cons rfl rfl (.cons rfl rfl (.cons rfl rfl (.cons rfl rfl (.cons rfl rfl (.cons rfl (by go_num) .nil))))))) ?_
     ·rcases Nat.lt_or_ge i q with h|h
      ·exact HMN.out i h
      ·obtain rfl:i=q:=by omega
       rw[HTQ.out,HSQ.out];rfl
     ·show [Qc.blk b7 (.cells ((Xd (ZK s st q)).set (0+q*1) (.bool true)).toArray _ _)]=[Qc.blk b7 (.cells (Xd (ZK s st (q+1))).toArray _ _)]
      rw[← Ku,HTQ.out,HSQ.out,Nat.zero_add,Nat.mul_one]
      rfl
   |false=>
    cases sq with
    |true=>
     repeat(first|refine Q1 zM ?_|refine Q1 zA ?_|refine Q1 zS ?_|refine Q1 (VX (v:=.bool false) rfl rfl (by decide) rfl rfl rfl hqn htc) ?_|refine Q1 (XK rfl rfl (by decide) rfl rfl rfl hqn) ?_|refine Q1 (zV 0 hc0) ?_|refine QJ (X0 0 rfl rfl rfl rfl rfl rfl hc0) rfl (fun _ _=>?_)|refine Q8 ?_|refine Q9 ?_|refine Q3 ?_|refine Qt ?_|refine Qa rfl ?_|refine Q6 rfl ?_|refine Qi ?_|refine Q1 (XS rfl rfl (by decide) rfl rfl rfl (by first|exact decide_eq_true (by omega)|rfl)) ?_|refine Q1 zY ?_|refine Q1 zN ?_|refine Q1 zP ?_)
     refine Xc (q+1) [0] (by decide) ⟨hqn,fun i hi=>?_⟩ (by show 256 - (q+1)<256 - q;omega) (.cons rfl rfl (.cons rfl rfl (.cons rfl rfl (.cons rfl rfl (.cons rfl rfl (.cons rfl rfl (.cons rfl (by go_num) .nil))))))) ?_
     ·rcases Nat.lt_or_ge i q with h|h
      ·exact HMN.out i h
      ·obtain rfl:i=q:=by omega
       rw[HTQ.out,HSQ.out];rfl
     ·show [Qc.blk b7 (.cells ((Xd (ZK s st q)).set (0+q*1) (.bool true)).toArray _ _)]=[Qc.blk b7 (.cells (Xd (ZK s st (q+1))).toArray _ _)]
      rw[← Ku,HTQ.out,HSQ.out,Nat.zero_add,Nat.mul_one]
      rfl
    |false=>
     repeat(first|refine Q1 zM ?_|refine Q1 zA ?_|refine Q1 zS ?_|refine Q1 (VX (v:=.bool false) rfl rfl (by decide) rfl rfl rfl hqn htc) ?_|refine Q1 (XK rfl rfl (by decide) rfl rfl rfl hqn) ?_|refine Q1 (zV 0 hc0) ?_|refine QJ (X0 0 rfl rfl rfl rfl rfl rfl hc0) rfl (fun _ _=>?_)|refine Q8 ?_|refine Q9 ?_|refine Q3 ?_|refine Qt ?_|refine Qa rfl ?_|refine Q6 rfl ?_|refine Qi ?_|refine Q1 (XS rfl rfl (by decide) rfl rfl rfl (by first|exact decide_eq_true (by omega)|rfl)) ?_|refine Q1 zN ?_|refine Q1 zP ?_)
     refine Xc (q+1) [0] (by decide) ⟨hqn,fun i hi=>?_⟩ (by show 256 - (q+1)<256 - q;omega) (.cons rfl rfl (.cons rfl rfl (.cons rfl rfl (.cons rfl rfl (.cons rfl rfl (.cons rfl rfl (.cons rfl (by go_num) .nil))))))) ?_
     ·rcases Nat.lt_or_ge i q with h|h
      ·exact HMN.out i h
      ·obtain rfl:i=q:=by omega
       rw[HTQ.out,HSQ.out];rfl
     ·show [Qc.blk b7 (.cells ((Xd (ZK s st q)).set (0+q*1) (.bool false)).toArray _ _)]=[Qc.blk b7 (.cells (Xd (ZK s st (q+1))).toArray _ _)]
      rw[← Ku,HTQ.out,HSQ.out,Nat.zero_add,Nat.mul_one]
      rfl
  ·skip
   repeat(first|refine Q1 zM ?_|refine Q8 ?_|refine Q9 ?_|refine Q3 ?_|refine Q6 rfl ?_|refine XL ?_|refine Q1 (XS rfl rfl (by decide) rfl rfl rfl (by first|exact decide_eq_false (by omega)|rfl)) ?_|refine Q1 zP ?_)
   obtain rfl:q=256:=by omega
   refine Xc (j+1) [0] (by decide) ⟨hjn,?_⟩ (by show parts.length - (j+1)<parts.length - j;omega) (.cons rfl rfl (.cons rfl rfl (.cons rfl rfl (.cons rfl rfl (.cons rfl (by go_num) .nil))))) ?_
   ·rw[List.take_add_one,HX.out,Option.toList_some,KM,HNO.out,Bool.false_or,VZ]
    show (_||false)=false
    rw[Bool.or_false,List.any_eq_false];intro i hi;rw[← HST.out];have:=HMN.out i (List.mem_range.1 hi)
    show ¬(st i&&Q4l S (parts.take j) i)=true
    rw[← HS.out,this];exact Bool.false_ne_true
   ·show [Qc.blk b7 (.cells (Xd (ZK s st 256)).toArray _ _)]=[Qc.blk b7 (.cells (Xd (Q4l S (parts.take (j+1)))).toArray _ _)]
    rw[Q8w,List.take_add_one,HX.out,Option.toList_some]
    unfold Q4l
    rw[List.foldl_append,HST.out,HS.out]
    rfl
 ·skip
  repeat(first|refine Q1 zA ?_|refine Q8 ?_|refine Q9 ?_|refine Q3 ?_|refine Q6 rfl ?_|refine XL ?_|refine Qr ?_|refine Q1 zlf ?_)
  refine Q7 (by exact .inr rfl) rfl (.tmp rfl) (fun w hw=>VB ?_ hw);have:=HNO.out;rw[List.take_of_length_le (by omega)] at this;exact this.symm
theorem K5{S:List (Nat→Bool)}{r:Rl}{Ab An Ap:Option Addr}{b n c cb cn cp:Nat}{W:World}(hl:RuL W r Ab cb An cn Ap cp)(hr:ROk n r)(hS:S.length=n)(hrd:Rd W W.heap.size 256 (some ⟨b,0,none⟩) n (X4 S)):
  Calls Tryz.prog 120 #[.agg (ruC r (.slice Ab r.bs.length cb) (.slice An r.names.length cn) (.slice Ap r.parts.length cp)).toArray,.slice (some ⟨b,0,none⟩) n c] W (KH W (VI S r)):=by
 by_cases h9:r.kind=9
 ·exact Q8C hr hS hrd h9
 ·by_cases h8:r.kind=8
  ·exact Q8y hl hr hS hrd h8
  ·exact Q7S (beq_eq_false_iff_ne.2 h9) (beq_eq_false_iff_ne.2 h8)
def Xw(n:Nat)(p:Nat→Bool):Option Nat:=(List.range n).find? p
theorem JP{n k:Nat}{p:Nat→Bool}(hk:k<n)(hp:p k=true)(hl:∀j,j<k→p j=false):Xw n p=some k:=by
 unfold Xw
 rw[List.find?_range_eq_some];exact⟨hp,List.mem_range.2 hk,fun j hj=>by rw[hl j hj];rfl⟩
theorem XH{n:Nat}{p:Nat→Bool}(hl:∀j,j<n→p j=false):Xw n p=none:=by
 unfold Xw
 rw[List.find?_eq_none];intro j hj;rw[hl j (List.mem_range.1 hj)];exact Bool.false_ne_true
theorem Yi{n:Nat}{p:Nat→Bool}(h:Xw n p=none):∀j,j<n→p j=false:=fun j hj=>by
 unfold Xw at h
 rw[List.find?_eq_none] at h;have:=h j (List.mem_range.2 hj)
 cases hp:p j with
 |false=>rfl
 |true=>exact absurd hp this
theorem KL{n k:Nat}{p:Nat→Bool}(h:Xw n p=some k):k<n∧p k=true∧∀j,j<k→p j=false:=by
 unfold Xw at h
 rw[List.find?_range_eq_some] at h;exact⟨List.mem_range.1 h.2.1,h.1,fun j hj=>by simpa using h.2.2 j hj⟩
def ZR(F:List Rl)(k:Nat):Int:=match F[k]? with|some r=>X1 r (F.take k) F.length|none=>0
def V8(F:List Rl)(k:Nat):Int:=match F[k]? with|some r=>Yl F r|none=>0
def J9(F:List Rl)(k:Nat):Bool:=match F[k]? with|some r=>VI (K8 F) r|none=>false
theorem Q1R{F:List Rl}{k:Nat}{r:Rl}(h:F[k]? =some r):ZR F k=X1 r (F.take k) F.length:=by unfold ZR;rw[h]
theorem Q0J{F:List Rl}{k:Nat}{r:Rl}(h:F[k]? =some r):V8 F k=Yl F r:=by unfold V8;rw[h]
theorem Q05{F:List Rl}{k:Nat}{r:Rl}(h:F[k]? =some r):J9 F k=VI (K8 F) r:=by unfold J9;rw[h]
def XC(F:List Rl):Int×Int:=
 if F.length=0 then (10,-1) else if 40<F.length then (2,-1) else
 match Xw F.length (fun k=>ZR F k != 0) with
 |some k=>(ZR F k,k)
 |none=>match Xw F.length (fun k=>V8 F k != 0) with
  |some k=>(V8 F k,k)
  |none=>match Xw F.length (Q1g F) with
   |some k=>(22,k)
   |none=>match Xw F.length (fun k=>!((Vz F).getD k false)) with
    |some k=>(24,k)
    |none=>match Xw F.length (J9 F) with
     |some k=>(23,k)
     |none=>(0,0)
section
variable {F:List Rl}
theorem Q5O(h:F.length=0):XC F=(10,-1):=by unfold XC;rw[if_pos h]
theorem Q7g(h:40<F.length):XC F=(2,-1):=by unfold XC;rw[if_neg (by omega),if_pos h]
theorem Q78{k:Nat}(h0:0<F.length)(h1:F.length≤40)(hk:k<F.length)(hp:ZR F k≠0)(hl:∀j,j<k→ZR F j=0):XC F=(ZR F k,(k:Int)):=by
 unfold XC
 rw[if_neg (by omega),if_neg (by omega),JP hk (by simpa using hp) (fun j hj=>by simpa using hl j hj)]
theorem Q8E{k:Nat}(h0:0<F.length)(h1:F.length≤40)(ha:∀j,j<F.length→ZR F j=0)(hk:k<F.length)(hp:V8 F k≠0)(hl:∀j,j<k→V8 F j=0):XC F=(V8 F k,(k:Int)):=by
 unfold XC
 rw[if_neg (by omega),if_neg (by omega),XH (fun j hj=>by simpa using ha j hj),JP hk (by simpa using hp) (fun j hj=>by simpa using hl j hj)]
theorem Q8A{k:Nat}(h0:0<F.length)(h1:F.length≤40)(ha:∀j,j<F.length→ZR F j=0)(hb:∀j,j<F.length→V8 F j=0)(hk:k<F.length)(hp:Q1g F k=true)(hl:∀j,j<k→Q1g F j=false):XC F=(22,(k:Int)):=by
 unfold XC
 rw[if_neg (by omega),if_neg (by omega),XH (fun j hj=>by simpa using ha j hj),XH (fun j hj=>by simpa using hb j hj),JP hk hp hl]
def Q0d(F:List Rl):Int×Int:=
 match Xw F.length (fun k=>!((Vz F).getD k false)) with
 |some k=>(24,k)
 |none=>match Xw F.length (J9 F) with
  |some k=>(23,k)
  |none=>(0,0)
theorem Q6W(h0:0<F.length)(h1:F.length≤40)(ha:∀j,j<F.length→ZR F j=0)(hb:∀j,j<F.length→V8 F j=0)(hc:∀j,j<F.length→Q1g F j=false):XC F=Q0d F:=by
 unfold XC
 rw[if_neg (by omega),if_neg (by omega),XH (fun j hj=>by simpa using ha j hj),XH (fun j hj=>by simpa using hb j hj),XH hc]
 rfl
def Q31(l:List Bool):Int:=match Xw l.length (fun k=>!(l.getD k false)) with|some k=>(k:Int)|none=>-1
theorem Q7T(hl:(Vz F).length=F.length)(h:0≤Q31 (Vz F)):Q0d F=(24,Q31 (Vz F)):=by
 unfold Q31 at h ⊢
 rw[hl] at h ⊢
 unfold Q0d
 cases hf:Xw F.length (fun k=>!((Vz F).getD k false)) with
 |none=>rw[hf] at h;exact absurd h (by decide)
 |some k=>rfl
theorem Q4Y{k:Nat}(hl:(Vz F).length=F.length)(h:¬0≤Q31 (Vz F))(hk:k<F.length)(hp:J9 F k=true)(hj:∀j,j<k→J9 F j=false):Q0d F=(23,(k:Int)):=by
 unfold Q31 at h
 rw[hl] at h
 unfold Q0d
 cases hf:Xw F.length (fun k=>!((Vz F).getD k false)) with
 |some k=>rw[hf] at h;exact absurd (Int.natCast_nonneg k) h
 |none=>rw[JP hk hp hj]
theorem Qag(hl:(Vz F).length=F.length)(h:¬0≤Q31 (Vz F))(hj:∀j,j<F.length→J9 F j=false):Q0d F=(0,0):=by
 unfold Q31 at h
 rw[hl] at h
 unfold Q0d
 cases hf:Xw F.length (fun k=>!((Vz F).getD k false)) with
 |some k=>rw[hf] at h;exact absurd (Int.natCast_nonneg k) h
 |none=>rw[XH hj]
theorem QbE(h:∀j,j<F.length→ZR F j=0):FOk F:=fun i r hr=>by
 have hi:i<F.length:=(List.getElem?_eq_some_iff.1 hr).1;have:=h i hi;rw[Q1R hr] at this;exact Qep this
theorem QbH{n:Nat}{r:Rl}(h:ROk n r):Q9v n r:=⟨fun hc=>h.count (by
  unfold QP ZC at hc
  simp at hc
  omega),fun h7=>⟨(h.seven h7).1.symm,h.parts (.inl h7)⟩⟩
end
def Q7N(x:List UInt8):Option Int:=if numOk x=true then some (QaW x) else none
def Q8J(name:List UInt8)(k:Int):Rl:=⟨name,k,[],0,false,0,0,0,0,0,[],[]⟩
def Y7(F:List Rl):List (List UInt8)→Option (List Int)
 |[]=>some []
 |s::l=>if VU F s<0 then none else (Y7 F l).map (VU F s::·)
def QL(F:List Rl):Int×Int:=if XC F≠(0,0) then XC F else if 2000<(Q2a F).length then (14,-1) else (0,0)
theorem Q2J:∀(k u:Nat),u<10 ^ (k+1)→Lib.nDigits u≤k+1
 |0,u,h=>by rw[Lib.nDigits_small (by simpa using h)];omega
 |k+1,u,h=>by
  by_cases h1:u<10
  ·rw[Lib.nDigits_small h1];omega
  ·rw[Lib.nDigits_big h1];have:=Q2J k (u / 10) (by rw[Nat.pow_succ] at h;omega)
   omega
theorem Q02(u:Nat):∀c∈Lib.decDigits u,48≤c.toNat∧c.toNat≤57:=by
 induction u using Nat.strongRecOn with
 |_ u ih=>
  intro c hc;rw[Lib.decDigits] at hc
  split at hc
  ·next h=>
   rw[List.mem_singleton.1 hc]
   simp only[UInt8.toNat_ofNat']
   omega
  ·next h=>
   rcases List.mem_append.1 hc with hc|hc
   ·exact ih (u / 10) (by omega) c hc
   ·rw[List.mem_singleton.1 hc]
    simp only[UInt8.toNat_ofNat']
    omega
theorem YQ(u:Nat):Lib.decDigits u≠[]:=by
 intro h;have h1:=Lib.decDigits_length u;have h2:=Lib.nDigits_pos u;rw[h] at h1
 simp at h1
 omega
theorem Q4g(d:UInt8):∀(l:List UInt8) (acc v:Nat),Lib.parseUint10 acc l=.ok v→Lib.parseUint10 acc (l++[d])=Lib.parseUint10 v [d]
 |[],acc,v,h=>by
  simp only[Lib.parseUint10] at h
  injection h with h
  rw[← h]
  rfl
 |c::l,acc,v,h=>by
  rw[List.cons_append];rw[Lib.parseUint10] at h ⊢
  split at h
  ·next h1=>
   rw[if_pos h1]
   split at h
   ·cases h
   ·next h2=>
    rw[if_neg h2]
    split at h
    ·cases h
    ·next h3=>
     rw[if_neg h3];exact Q4g d l _ v h
  ·cases h
theorem Q9S(u:Nat):u<9223372036854775808→Lib.parseUint10 0 (Lib.decDigits u)=.ok u:=by
 induction u using Nat.strongRecOn with
 |_ u ih=>
  intro hu;rw[Lib.decDigits]
  have hd:(UInt8.ofNat (48+u % 10)).toNat=48+u % 10:=by simp only[UInt8.toNat_ofNat'];omega
  split
  ·next h=>
   have hd':(UInt8.ofNat (48+u)).toNat=48+u:=by simp only[UInt8.toNat_ofNat'];omega
   rw[Lib.parseUint10,hd',if_pos (by omega),if_neg (by omega),if_neg (by omega),Lib.parseUint10]
   congr 1
   omega
  ·next h=>
   rw[Q4g _ _ _ _ (ih (u / 10) (by omega) (by omega)),Lib.parseUint10,hd,if_pos (by omega),if_neg (by omega),if_neg (by omega),Lib.parseUint10]
   congr 1
   omega
theorem QbA{u:Nat}(hu:u<9223372036854775808):Lib.atoiAll (Lib.decDigits u)=.ok (u:Int):=by
 cases hl:Lib.decDigits u with
 |nil=>exact absurd hl (YQ u)
 |cons c r=>
  have hc:=Q02 u c (by rw[hl];exact List.mem_cons_self);have hp:=Q9S u hu;rw[hl] at hp
  have hm:Lib.parseMag (c::r)=.ok u:=by
   unfold Lib.parseMag
   rw[if_neg (by simp)];exact hp
  show Lib.atoiAll (c::r)=_
  unfold Lib.atoiAll
  simp only
  rw[if_neg (by omega),hm]
  simp only
  rw[if_neg (by omega),if_neg (by omega),if_neg (by omega)]
theorem KN{v:Int}(h:0≤v):Lib.itoa v=Lib.decDigits v.toNat:=by unfold Lib.itoa;rw[if_neg (by omega)]
theorem Q4H{v:Int}(h0:0≤v)(h1:v≤9999999999):Q7N (Lib.itoa v)=some v:=by
 have ha:Lib.atoiAll (Lib.itoa v)=.ok v:=by
  rw[KN h0,QbA (by omega)]
  congr 1
  omega
 have hl:(Lib.itoa v).length≤10:=by
  rw[KN h0,Lib.decDigits_length];exact Q2J 9 _ (by omega)
 have hok:numOk (Lib.itoa v)=true:=by
  unfold numOk
  rw[ha]
  simp
  omega
 unfold Q7N
 rw[if_pos hok]
 unfold QaW
 rw[ha]
theorem Q9J{x:List UInt8}{v:Int}(h:Q7N x=some v):x=Lib.itoa v∧0≤v:=by
 unfold Q7N at h
 split at h
 ·next hok=>
  unfold numOk at hok
  unfold QaW at h
  cases ha:Lib.atoiAll x with
  |ok u=>
   rw[ha] at hok h
   simp only[Option.some.injEq] at h
   subst h
   simp only[Bool.and_eq_true,Bool.not_eq_true',decide_eq_false_iff_not,beq_iff_eq] at hok
   exact⟨hok.2.2.symm,by omega⟩
  |_=>rw[ha] at hok;cases hok
 ·cases h
structure Zr(r:Rl):Prop where
 bs:r.kind≠1→r.bs=[]
 stop:r.kind≠3→r.kind≠5→r.kind≠9→r.stop=0
 size:r.kind≠2→r.kind≠4→r.kind≠5→r.size=0
 big:r.kind≠2→r.big=false
 mn:r.kind≠2→r.mn=0
 mx:r.kind≠2→r.kind≠3→r.mx=0
 count:r.kind≠6→r.kind≠10→r.count=0
 elem:r.kind≠6→r.kind≠9→r.elem=0
 names:r.kind≠7→r.names=[]
 parts:r.kind≠7→r.kind≠8→r.parts=[]
theorem Qcn{n:Nat}{r:Rl}(h:ROk n r):Zr r:=by
 have hf:=h.formed
 unfold Vd Jn Jl JJ QP Ka JQ ZC at hf
 simp only[Bool.and_eq_true,Bool.or_eq_true,beq_iff_eq,List.contains_iff_mem,List.mem_cons,List.not_mem_nil,or_false,Bool.not_eq_true'] at hf
 obtain⟨⟨⟨⟨⟨⟨⟨⟨h1,h2⟩,h3⟩,h4⟩,h5⟩,h6⟩,h7⟩,h8⟩,h9⟩:=hf;refine⟨fun h=>?_,fun _ _ _=>by omega,fun _ _ _=>by omega,fun h=>?_,fun h=>?_,fun _ _=>by omega,fun _ _=>by omega,fun _ _=>by omega,fun h=>?_,fun h h'=>?_⟩
 ·exact List.eq_nil_of_length_eq_zero (by omega)
 ·exact(h4.resolve_right h).1
 ·exact(h4.resolve_right h).2
 ·exact List.eq_nil_of_length_eq_zero (by omega)
 ·exact List.eq_nil_of_length_eq_zero (by omega)
structure LOk(F:List Rl)(r:Rl):Prop where
 ok:ROk F.length r
 name:QG r.name=true
 all:∀x:Int,0≤x∧x<F.length→QG (Q1B F x)=true
 part:r.kind=7→∀s∈r.names,s=[]∨QG s=true
theorem Q8z{F:List Rl}{s:List UInt8}(h:VU F s<0):∀(j:Nat) (r:Rl),F[j]? =some r→¬r.name=s:=by
 unfold VU at h
 cases hf:F.findIdx? (fun r=>r.name==s) with
 |some i=>rw[hf] at h;simp only at h;omega
 |none=>
  rw[List.findIdx?_eq_none_iff] at hf;intro j r hr hn;have:=hf r (List.mem_of_getElem? hr);rw[hn] at this
  simp at this
theorem Q8c{r:Rl}{early:List Rl}{n:Nat}(h:X1 r early n=0):QG r.name=true∧VU early r.name<0:=by
 unfold X1 at h
 split at h
 ·cases h
 next h1=>
 split at h
 ·cases h
 next h2=>
 refine⟨by simpa using h1,?_⟩
 simpa using h2
theorem Q26{g:Nat→Int}:∀(n i:Nat),Jo g i n=0→∀j,i≤j→j<i+n→g j=0
 |0,i,_,j,h1,h2=>absurd h1 (by omega)
 |n+1,i,h,j,h1,h2=>by
  rw[Jo] at h
  split at h
  ·next h0=>
   rcases Nat.eq_or_lt_of_le h1 with rfl|h3
   ·exact h0
   ·exact Q26 n (i+1) h j h3 (by omega)
  ·next h0=>exact absurd h h0
theorem Q8a{F:List Rl}{r:Rl}(h:Yl F r=0)(hk:r.kind=7):∀s∈r.names,s=[]∨QG s=true:=by
 have hc:QP r.kind=false:=by rw[hk];rfl
 unfold Yl at h
 rw[hc,hk] at h;have h:Jo (Va F r.names r.parts) 0 r.names.length=0:=h;intro s hs;obtain⟨j,hj,e⟩:=List.mem_iff_getElem.1 hs;have h0:=Q26 _ _ h j (by omega) (by omega)
 unfold Va at h0
 rw[List.getD_eq_getElem?_getD,List.getElem?_eq_getElem hj,e] at h0
 simp only[Option.getD_some] at h0
 split at h0
 ·next h1=>exact .inl (by simpa using h1)
 ·split at h0
  ·cases h0
  ·next h2=>exact .inr (by simpa using h2)
structure POk(F:List Rl):Prop where
 rule:∀j,j<F.length→ZR F j=0
 use:∀j,j<F.length→V8 F j=0
theorem Q33{F:List Rl}(h:XC F=(0,0)):POk F:=by
 unfold XC at h
 split at h
 ·cases h
 split at h
 ·cases h
 cases h1:Xw F.length (fun k=>ZR F k != 0) with
 |some k=>rw[h1] at h;have:=(KL h1).2.1;simp only[Prod.mk.injEq] at h;rw[h.1] at this;cases this
 |none=>
  rw[h1] at h
  simp only at h
  cases h2:Xw F.length (fun k=>V8 F k != 0) with
  |some k=>rw[h2] at h;have:=(KL h2).2.1;simp only[Prod.mk.injEq] at h;rw[h.1] at this;cases this
  |none=>exact⟨fun j hj=>by simpa using Yi h1 j hj,fun j hj=>by simpa using Yi h2 j hj⟩
section
variable {F:List Rl}
theorem POk.name(h:POk F){i:Nat}{r:Rl}(hr:F[i]? =some r):QG r.name=true∧VU (F.take i) r.name<0:=by
 have:=h.rule i (List.getElem?_eq_some_iff.1 hr).1;rw[Q1R hr] at this;exact Q8c this
theorem POk.fok(h:POk F):FOk F:=QbE h.rule
theorem POk.self(h:POk F){i:Nat}{r:Rl}(hr:F[i]? =some r):VU F r.name=(i:Int):=
 Q4f hr rfl fun j r' hj hr'=>Q8z (h.name hr).2 j r' (by rw[List.getElem?_take,if_pos hj];exact hr')
theorem POk.find(h:POk F){x:Int}(hx:0≤x∧x<F.length):QG (Q1B F x)=true∧VU F (Q1B F x)=x:=by
 have hr:F[x.toNat]? =some F[x.toNat]:=List.getElem?_eq_getElem (by omega);rw[Q2s hr];refine⟨(h.name hr).1,?_⟩;rw[h.self hr]
 omega
theorem POk.line(h:POk F){i:Nat}{r:Rl}(hr:F[i]? =some r):LOk F r:=
 ⟨h.fok i r hr,(h.name hr).1,fun x hx=>(h.find hx).1,fun hk=>Q8a (by
  have:=h.use i (List.getElem?_eq_some_iff.1 hr).1
  rwa [Q0J hr] at this) hk⟩
end
theorem Q8R(F:List Rl)(out:List Bool)(k:Nat):LeB out (ZT F out k):=LeB.set out k _ fun h=>by rw[h];rfl
theorem Q6v(F:List Rl)(out:List Bool):LeB out (Jm F out):=Vt (Q8R F) _ _
theorem Yr(F:List Rl):(Vz F).length=F.length:=by
 have:=(Q19 (Q6v F) (List.replicate F.length false) F.length).1;rw[List.length_replicate] at this;exact this.symm
def Qej(n:Int):Int:=if 1001<n then 1001 else n
def Q7t(k mn:Int):Int:=if k=2 then Qej mn else 0
def lk(old:List Int)(x:Int):Int:=old.getD x.toNat 0
def Qf1(F:List Rl)(x:Int):Int:=match F[x.toNat]? with|some r=>Q7t r.kind r.mn|none=>0
def QfP(out:List Int)(l:List Int):Int:=l.foldl (fun s x=>s+lk out x) 0
def Qfs(out:List Int)(l:List Int):Int:=l.foldl (fun s x=>min s (lk out x)) 1001
def Q5x(F:List Rl)(out:List Int)(r:Rl):Int:=
 if r.kind=1 then (r.bs.length:Int)
 else if r.kind=2∨r.kind=4 then r.size
 else if r.kind=3 then 2
 else if r.kind=10 then lk out r.count+Q6E F r.count
 else if r.kind=6 then lk out r.count+Q6E F r.count*lk out r.elem
 else if r.kind=7 then QfP out r.parts
 else if r.kind=8 then Qfs out r.parts
 else 1
structure Q0P(F:List Rl)(a:List Int):Prop where
 len:a.length=F.length
 eq:∀(i:Nat) (r:Rl),F[i]? =some r→a.getD i 0=min (Q5x F a r) 1001
 nn:∀i:Nat,0≤a.getD i 0
structure Usd(F:List Rl):Prop where
 ok:FOk F
 use:∀(i:Nat) (r:Rl),F[i]? =some r→(r.kind=6∨r.kind=10)→∃c,F[r.count.toNat]? =some c∧(c.kind=2∨c.kind=3)
structure Vld(F:List Rl):Prop extends Usd F where
 cyc:∀i,i<F.length→¬Rch F i i
 fin:∀i,i<F.length→(Vz F).getD i false=true
theorem QcA(n:Int):Qej n=min n 1001:=by unfold Qej;split<;>omega
theorem Usd.least{F:List Rl}(hv:Usd F){i:Nat}{r:Rl}(h:F[i]? =some r)(hk:r.kind=6∨r.kind=10):0≤Q6E F r.count∧Qf1 F r.count=min (Q6E F r.count) 1001:=by
 obtain⟨c,hc,h23⟩:=hv.use i r h hk;have hok:=hv.ok _ _ hc;rw[Q9s hc]
 unfold Qf1
 rw[hc]
 show _∧Q7t c.kind c.mn=_
 unfold Q7t
 rcases h23 with h2|h3
 ·rw[if_pos h2,QcA];exact⟨(hok.num h2).2.2.1,rfl⟩
 ·rw[if_neg (by omega)];have hf:=hok.formed
  unfold Vd at hf
  simp only[Bool.and_eq_true,Bool.or_eq_true,beq_iff_eq] at hf
  have:=hf.1.1.1.1.1.2
  have h0:c.mn=0:=by
   rcases this with h|h
   ·exact h.2
   ·omega
  rw[h0];exact⟨by omega,rfl⟩
section
variable {F:List Rl}
structure Rnd(F:List Rl)(a old:List Int):Prop where
 len:old.length=F.length
 up:∀j:Nat,j<F.length→old.getD j 0<0∨a.getD j 0≤old.getD j 0
 top:∀j:Nat,old.getD j 0≤1001
theorem Q0V(out:List Int):∀(l:List Int) (n:Int),l.foldl (fun s x=>min s (lk out x)) n=n∨∃x∈l,l.foldl (fun s x=>min s (lk out x)) n=lk out x
 |[],n=>.inl rfl
 |x::l,n=>by
  rw[List.foldl_cons]
  rcases Q0V out l (min n (lk out x)) with h|⟨y,hy,h⟩
  ·by_cases hc:n≤lk out x
   ·left;omega
   ·right;exact⟨x,List.mem_cons_self,by omega⟩
  ·exact .inr ⟨y,List.mem_cons_of_mem _ hy,h⟩
theorem Q1l(old a:List Int):∀(l:List Int) (n m:Int),m≤n→(∀x∈l,lk a x≤lk old x)→l.foldl (fun s x=>s+lk a x) m≤l.foldl (fun s x=>s+lk old x) n
 |[],n,m,h,_=>h
 |x::l,n,m,h,hl=>by
  rw[List.foldl_cons,List.foldl_cons]
  refine Q1l old a l _ _ ?_ fun y hy=>hl y (List.mem_cons_of_mem _ hy)
  have:=hl x List.mem_cons_self
  omega
theorem KZ(a:List Int):∀(l:List Int) (n:Int),(∀x∈l,0≤lk a x)→n≤l.foldl (fun s x=>s+lk a x) n∧∀x∈l,n+lk a x≤l.foldl (fun s x=>s+lk a x) n
 |[],n,_=>⟨Int.le_refl _,fun x hx=>by cases hx⟩
 |x::l,n,hl=>by
  rw[List.foldl_cons]
  have h:=KZ a l (n+lk a x) fun y hy=>hl y (List.mem_cons_of_mem _ hy)
  have h0:=hl x List.mem_cons_self;refine⟨by omega,fun y hy=>?_⟩
  rcases List.mem_cons.1 hy with rfl|hy
  ·omega
  ·have:=h.2 y hy;omega
end
section
variable {F:List Rl}{a:List Int}
theorem Q0P.top(h:Q0P F a)(i:Nat):a.getD i 0≤1001:=by
 by_cases hi:i<F.length
 ·rw[h.eq i F[i] (List.getElem?_eq_getElem hi)];omega
 ·rw[List.getD_eq_getElem?_getD,List.getElem?_eq_none (by rw[h.len];omega)];decide
noncomputable def rk(F:List Rl)(i:Nat):Nat:=by
 classical exact cnt (fun j=>decide (Rch F i j)) F.length
theorem Qfv(hv:Vld F){i j:Nat}(hj:j∈bg F i):rk F j<rk F i:=by
 classical
 have hjn:j<F.length:=hv.ok.bd i j hj
 unfold rk
 refine Q38 F.length (fun x _ hx=>?_) ⟨j,hjn,?_,?_⟩
 ·rw[decide_eq_true_eq] at hx ⊢;exact Rch.trans (.one hj) hx
 ·rw[decide_eq_false_iff_not];exact hv.cyc j hjn
 ·rw[decide_eq_true_eq];exact .one hj
theorem Qf5{i:Nat}{r:Rl}(hr:F[i]? =some r){x:Int}(hx:x∈bl r):x.toNat∈bg F i:=by
 rw[Q1T hr];exact List.mem_map_of_mem hx
theorem QdY(h:Q0P F a)(x:Int):0≤lk a x:=h.nn _
theorem Q0P.pos(hv:Vld F)(h:Q0P F a):∀(m i:Nat),rk F i<m→i<F.length→1≤a.getD i 0
 |0,i,hm,_=>absurd hm (by omega)
 |m+1,i,hm,hi=>by
  have hr:F[i]? =some F[i]:=List.getElem?_eq_getElem hi;obtain⟨r,hrr⟩:∃r,r=F[i]:=⟨_,rfl⟩;rw[← hrr] at hr;have hok:=hv.ok i r hr
  have hbeg:∀x∈bl r,1≤lk a x:=fun x hx=>by
   have hb:=Qf5 hr hx;exact Q0P.pos hv h m x.toNat (by have:=Qfv hv hb;omega) (hv.ok.bd i _ hb)
  rw[h.eq i r hr]
  unfold Q5x
  by_cases h1:r.kind=1
  ·rw[if_pos h1];have:=hok.bs1 h1;omega
  rw[if_neg h1]
  by_cases h2:r.kind=2∨r.kind=4
  ·rw[if_pos h2]
   rcases h2 with h2|h4
   ·have:=(hok.num h2).1;omega
   ·have:=(hok.size4 h4).1;omega
  rw[if_neg h2]
  by_cases h3:r.kind=3
  ·rw[if_pos h3];omega
  rw[if_neg h3]
  by_cases h10:r.kind=10
  ·rw[if_pos h10];have:=hbeg r.count (by unfold bl Xs;rw[if_pos (.inr h10)];exact List.mem_singleton.2 rfl);have:=(hv.least hr (.inr h10)).1
   omega
  rw[if_neg h10]
  by_cases h6:r.kind=6
  ·rw[if_pos h6];have:=hbeg r.count (by unfold bl Xs;rw[if_pos (.inl h6)];exact List.mem_singleton.2 rfl);have:=Int.mul_nonneg (hv.least hr (.inl h6)).1 (QdY h r.elem)
   omega
  rw[if_neg h6]
  by_cases h7:r.kind=7
  ·rw[if_pos h7];have hne:=(hok.seven h7).2;obtain⟨x,hx⟩:∃x,r.parts[0]? =some x:=⟨_,List.getElem?_eq_getElem hne⟩
   have hxb:x∈bl r:=by
    unfold bl Xs
    rw[if_neg (by omega),if_pos h7]
    cases hp:r.parts with
    |nil=>rw[hp] at hx;cases hx
    |cons y l=>rw[hp] at hx;cases hx;exact List.mem_cons_self
   have h1':=hbeg x hxb;have:=(KZ a r.parts 0 (fun y _=>QdY h y)).2 x (List.mem_of_getElem? hx)
   unfold QfP
   omega
  rw[if_neg h7]
  by_cases h8:r.kind=8
  ·rw[if_pos h8]
   unfold Qfs
   rcases Q0V a r.parts 1001 with e|⟨x,hx,e⟩
   ·rw[e];omega
   ·rw[e];have:=hbeg x (by unfold bl Xs;rw[if_neg (by omega),if_neg h7,if_pos h8];exact hx)
    omega
  rw[if_neg h8]
  omega
theorem Q0P.one(hv:Vld F)(h:Q0P F a){x:Int}(hx:0≤x∧x<F.length):1≤lk a x:=Q0P.pos hv h (rk F x.toNat+1) _ (by omega) (by omega)
theorem Usd.inn(hv:Usd F){i:Nat}{r:Rl}(hr:F[i]? =some r)(hk:r.kind=7∨r.kind=8):∀x∈r.parts,0≤x∧x<F.length:=(hv.ok i r hr).parts hk
end
def col(c:Nat)(S:List (Nat→Bool)):List Bool:=S.map fun s=>s c
theorem Q2t(c:Nat)(S:List (Nat→Bool))(k:Nat):(col c S).getD k false=(S.getD k Zx) c:=by
 unfold col
 rw[List.getD_eq_getElem?_getD,List.getElem?_map,List.getD_eq_getElem?_getD]
 cases S[k]?<;>rfl
def Q6y(b:List Bool)(k i:Nat):List Bool:=b.set k (b.getD k false||b.getD i false)
theorem Qdn(c:Nat)(S:List (Nat→Bool))(k i:Nat):col c (JY S k i)=Q6y (col c S) k i:=by
 unfold JY Q6y
 rw[Q2t,Q2t]
 unfold col
 rw[List.map_set]
 rfl
def Qbn(F:List Rl)(b:List Bool)(k:Nat):List Bool:=(bg F k).foldl (fun b i=>Q6y b k i) b
def Y9(F:List Rl)(b:List Bool):List Bool:=(List.range F.length).foldl (Qbn F) b
theorem Q2U{α:Type}(c:Nat){f:List (Nat→Bool)→α→List (Nat→Bool)}{g:List Bool→α→List Bool}(h:∀S x,col c (f S x)=g (col c S) x):∀(l:List α) (S:List (Nat→Bool)),col c (l.foldl f S)=l.foldl g (col c S)
 |[],S=>rfl
 |x::l,S=>by rw[List.foldl_cons,List.foldl_cons,Q2U c h l,h]
theorem Qc4(F:List Rl)(c:Nat)(S:List (Nat→Bool))(k:Nat):col c (Y2 F S k)=Qbn F (col c S) k:=Q2U c (fun S i=>Qdn c S k i) _ S
theorem Q9F(F:List Rl)(c:Nat)(S:List (Nat→Bool)):col c (J4 F S)=Y9 F (col c S):=Q2U c (Qc4 F c) _ S
theorem Q6O(F:List Rl)(c:Nat)(S:List (Nat→Bool)):∀t,col c (iter (J4 F) t S)=iter (Y9 F) t (col c S)
 |0=>rfl
 |t+1=>by
  show col c (J4 F _)=Y9 F _
  rw[Q9F,Q6O F c S t]
theorem Q9a(b:List Bool)(k i:Nat):LeB b (Q6y b k i):=LeB.set b k _ fun h=>by rw[h];rfl
theorem Q6z(F:List Rl)(b:List Bool)(k:Nat):LeB b (Qbn F b k):=Vt (fun b i=>Q9a b k i) _ _
theorem Q4J(F:List Rl)(b:List Bool):LeB b (Y9 F b):=Vt (Q6z F) _ _
theorem KX{α β:Type}{f:α→β→α}{p:α→Prop}:∀(l:List β),(∀a,∀b∈l,p a→p (f a b))→∀a,p a→p (l.foldl f a)
 |[],_,a,ha=>ha
 |b::l,h,a,ha=>KX l (fun a x hx=>h a x (List.mem_cons_of_mem _ hx)) (f a b) (h a b List.mem_cons_self ha)
def Q25(F:List Rl)(k c:Nat):Bool:=match F[k]? with|some r=>YH r c|none=>false
theorem QdI(F:List Rl)(c k:Nat):(col c (F.map YH)).getD k false=Q25 F k c:=by
 rw[Q2t,List.getD_eq_getElem?_getD,List.getElem?_map]
 unfold Q25
 cases F[k]?<;>rfl
theorem Q6K{F:List Rl}(hb:Bd F){k:Nat}(hk:k<F.length)(c:Nat):(K8 F).getD k Zx c=true↔∃j,(j=k∨Rch F k j)∧Q25 F j c=true:=by
 rw[← Q2t]
 unfold K8
 rw[Q6O];obtain⟨B,hB⟩:∃B,B=col c (F.map YH):=⟨_,rfl⟩
 have hBl:B.length=F.length:=by rw[hB];unfold col;rw[List.length_map,List.length_map]
 have hown:∀j:Nat,B.getD j false=Q25 F j c:=fun j=>by rw[hB];exact QdI F c j
 rw[← hB]
 constructor
 ·intro h;refine Q36 (f:=Y9 F) (p:=fun b:List Bool=>∀k:Nat,b.getD k false=true→∃j,(j=k∨Rch F k j)∧Q25 F j c=true) (fun b hb'=>Q1v (p:=fun b:List Bool=>∀k:Nat,b.getD k false=true→∃j,(j=k∨Rch F k j)∧Q25 F j c=true) (fun b k hb'=>?_) _ _ hb') (a:=B) (fun k hk=>⟨k,.inl rfl,by rw[← hown];exact hk⟩) F.length k h;refine KX (p:=fun b:List Bool=>∀k:Nat,b.getD k false=true→∃j,(j=k∨Rch F k j)∧Q25 F j c=true) (bg F k) (fun b i hi hb' k' hk'=>?_) b hb'
  unfold Q6y at hk'
  by_cases hkl:k<b.length
  ·rw[ZI _ _ _ _ hkl] at hk'
   split at hk'
   ·next e=>
    subst e;rw[Bool.or_eq_true] at hk'
    rcases hk' with h1|h1
    ·exact hb' _ h1
    ·obtain⟨j,hj,ho⟩:=hb' _ h1;refine⟨j,.inr ?_,ho⟩
     rcases hj with rfl|hj
     ·exact .one hi
     ·exact Rch.trans (.one hi) hj
   ·exact hb' _ hk'
  ·rw[List.set_eq_of_length_le (by omega)] at hk';exact hb' _ hk'
 ·have hrest:Y9 F (iter (Y9 F) F.length B)=iter (Y9 F) F.length B:=by
   have:=Q1y (Q4J F) B;rwa [hBl] at this
  obtain⟨R,hR⟩:∃R,R=iter (Y9 F) F.length B:=⟨_,rfl⟩
  have hle:LeB B R:=by rw[hR];exact Q19 (Q4J F) B _
  rw[← hR] at hrest ⊢
  have hclosed:∀k i:Nat,k<F.length→i∈bg F k→R.getD i false=true→R.getD k false=true:=by
   intro k i hk hi h;obtain⟨a',h1,h2⟩:=Yh (Q6z F) (List.range F.length) R k (List.mem_range.2 hk);obtain⟨a'',h3,h4⟩:=Yh (f:=fun b i=>Q6y b k i) (fun b i=>Q9a b k i) (bg F k) a' i hi
   have h5:(Q6y a'' k i).getD k false=true:=by
    unfold Q6y
    rw[ZI _ _ _ _ (by rw[← h3.1,← h1.1,← hle.1,hBl];exact hk),if_pos rfl,h3.2 i (h1.2 i h),Bool.or_true]
   have h6:=h2.2 k (h4.2 k h5);have h7:(Y9 F R).getD k false=true:=h6;rwa [hrest] at h7
  rintro⟨j,hj,ho⟩
  have hjR:R.getD j false=true:=hle.2 j (by rw[hown];exact ho)
  rcases hj with rfl|hj
  ·exact hjR
  ·have hall:∀j,Rch F k j→R.getD j false=true→R.getD k false=true:=by
    intro j hj
    induction hj with
    |one h=>exact hclosed _ _ hk h
    |more h hm ih=>exact fun hx=>ih (hclosed _ _ (h.lt hb) hm hx)
   exact hall j hj hjR
def Q5I(r:Rl)(b:Int):Bool:=
 if r.kind=1 then ((r.bs.headD 0).toNat:Int)==b
 else if r.kind=2∧r.big=true then decide (r.mn / 256 ^ (r.size - 1).toNat≤b)&&decide (b≤r.mx / 256 ^ (r.size - 1).toNat)
 else if r.kind=2 then decide ((if r.mn - r.mn % 256+b<r.mn then r.mn - r.mn % 256+b+256 else r.mn - r.mn % 256+b)≤r.mx)
 else if r.kind=3 then inB b 48 57&&decide (b - 48≤r.mx)
 else if r.kind=5 then decide (0<r.size)||b==r.stop
 else if r.kind=9 then b==r.stop
 else r.kind==4
theorem Ky(lo hi:Int)(j:Nat):Zv noS lo hi j=decide (lo+((j:Int) - lo) % 256≤hi):=by
 unfold Zv noS
 rw[Bool.false_or]
theorem QcD{n:Nat}{r:Rl}(h:ROk n r){b:Nat}(hb:b<256):YH r b=Q5I r (b:Int):=by
 obtain⟨name,kind,bs,size,big,mn,mx,stop,count,elem,names,parts⟩:=r;have hk:=h.kind;have h2:=h.num;have h3:=h.dec;have h5:=h.size5;have hs:=h.stop
 unfold YH Q0E Q5I
 simp only at hk h2 h3 h5 hs ⊢
 clear h
 rcases (show kind=1∨kind=2∨kind=3∨kind=4∨kind=5∨kind=6∨kind=7∨kind=8∨kind=9∨kind=10 by omega) with rfl|rfl|rfl|rfl|rfl|rfl|rfl|rfl|rfl|rfl
 ·show (b==(bs.headD 0).toNat)=(((bs.headD 0).toNat:Int)==(b:Int))
  rw[Bool.eq_iff_iff,beq_iff_eq,beq_iff_eq]
  omega
 ·obtain⟨a1,a2,a3,a4,a5⟩:=h2 rfl
  cases big with
  |true=>
   show Zv noS (mn / 2 ^ (8*(size - 1)).toNat) (mx / 2 ^ (8*(size - 1)).toNat) b=(decide (mn / 256 ^ (size - 1).toNat≤(b:Int))&&decide ((b:Int)≤mx / 256 ^ (size - 1).toNat))
   rw[Ky]
   rcases (show size=1∨size=2∨size=3∨size=4 by omega) with rfl|rfl|rfl|rfl<;>
   ·simp at a5 ⊢
    rw[Bool.eq_iff_iff]
    simp only[Bool.and_eq_true,decide_eq_true_eq]
    omega
  |false=>
   show Zv noS mn (min mx (mn+256 - 1)) b=decide ((if mn - mn % 256+(b:Int)<mn then mn - mn % 256+b+256 else mn - mn % 256+b)≤mx)
   rw[Ky];rw[Bool.eq_iff_iff,decide_eq_true_eq,decide_eq_true_eq];clear a5 h2 h3 h5 hs
   split<;>omega
 ·obtain⟨a1,a2,a3⟩:=h3 rfl
  show Zv noS 48 (48+min mx 9) b=(inB (b:Int) 48 57&&decide ((b:Int) - 48≤mx))
  rw[Ky]
  unfold inB
  rw[Bool.eq_iff_iff]
  simp only[Bool.and_eq_true,decide_eq_true_eq]
  omega
 ·show Zv noS 0 255 b=true
  rw[Ky,decide_eq_true_eq]
  omega
 ·show (if 0<size then Zv noS 0 255 else fun j=>decide ((j:Int)=stop)) b=(decide (0<size)||((b:Int)==stop))
  split
  ·next h0=>
   rw[Ky,Bool.eq_iff_iff]
   simp only[Bool.or_eq_true,decide_eq_true_eq,beq_iff_eq]
   omega
  ·next h0=>
   rw[Bool.eq_iff_iff]
   simp only[Bool.or_eq_true,decide_eq_true_eq,beq_iff_eq]
   omega
 ·rfl
 ·rfl
 ·rfl
 ·show decide ((b:Int)=stop)=((b:Int)==stop)
  rw[Bool.eq_iff_iff,decide_eq_true_eq,beq_iff_eq]
 ·rfl
section
variable {F:List Rl}
theorem Q8p{r:Rl}(h:Yl F r=0)(hk:r.kind=6∨r.kind=10):Q06 F r.count=2∨Q06 F r.count=3:=by
 unfold Yl at h
 split at h
 ·cases h
 ·next h1=>
  have hu:QP r.kind=true:=by rcases hk with e|e<;>rw[e]<;>rfl
  rw[hu,Bool.true_and,Bool.not_eq_true',Bool.not_eq_false] at h1
  unfold JJ ZC at h1
  simpa using h1
theorem Qev(h:POk F):Usd F:=⟨h.fok,fun i r hr hk=>by
 have hi:i<F.length:=(List.getElem?_eq_some_iff.1 hr).1;have hu:=h.use i hi;rw[Q0J hr] at hu;have hc:=(h.fok i r hr).count hk;have hg:F[r.count.toNat]? =some F[r.count.toNat]:=List.getElem?_eq_getElem (by omega);have:=Q8p hu hk;rw[KP hg] at this
 exact⟨_,hg,this⟩⟩
theorem Qe9(h:XC F=(0,0)):Vld F:=by
 have hp:=Q33 h;have hu:=Qev hp
 unfold XC at h
 split at h
 ·cases h
 split at h
 ·cases h
 rw[XH (fun j hj=>by simpa using hp.rule j hj)] at h
 simp only at h
 rw[XH (fun j hj=>by simpa using hp.use j hj)] at h
 simp only at h
 cases h3:Xw F.length (Q1g F) with
 |some k=>rw[h3] at h;simp only[Prod.mk.injEq] at h;exact absurd h.1 (by decide)
 |none=>
  rw[h3] at h
  simp only at h
  cases h4:Xw F.length (fun k=>!((Vz F).getD k false)) with
  |some k=>rw[h4] at h;simp only[Prod.mk.injEq] at h;exact absurd h.1 (by decide)
  |none=>
   refine⟨hu,fun i hi hr=>?_,fun i hi=>by simpa using Yi h4 i hi⟩;have:=Yi h3 i hi;rw[(Q0I hu.ok.bd hi).2 hr] at this
   cases this
theorem Q7Q(h:XC F=(0,0)):0<F.length∧F.length≤40:=by
 unfold XC at h
 split at h
 ·cases h
 split at h
 ·cases h
 omega
end
abbrev Rdg(α:Type):Type:=Option (Except Nat α)
def rb{α β:Type}(x:Rdg α)(g:α→Rdg β):Rdg β:=match x with|none=>none|some (.error e)=>some (.error e)|some (.ok a)=>g a
def okR{α:Type}(a:α):Rdg α:=some (.ok a)
def erR{α:Type}(e:Nat):Rdg α:=some (.error e)
abbrev ndN(n:Int):Nd:=⟨1,n,[],[]⟩
abbrev ndB(bs:List UInt8):Nd:=⟨2,0,bs,[]⟩
abbrev ndL:Nd:=⟨3,0,[],[]⟩
abbrev ndR(ns:List (List UInt8)):Nd:=⟨4,0,[],ns⟩
def ZN(stop mx:Int):List UInt8→Bool→Int→Nat→Rdg (Int×Nat)
 |[],_,_,p=>erR p
 |c::l,later,n,p=>
  if (later&&decide ((c.toNat:Int)=stop))=true then okR (n,p+1)
  else if (!(decide (48≤c.toNat∧c.toNat≤57))||(later&&decide (n=0))||decide (mx<10*n+((c.toNat:Int) - 48)))=true then erR p
  else ZN stop mx l true (10*n+((c.toNat:Int) - 48)) (p+1)
def leN:List UInt8→Int
 |[]=>0
 |c::l=>(c.toNat:Int)+256*leN l
def QR(big:Bool)(l:List UInt8):Int:=if big then leN l.reverse else leN l
def ZQ(D:List UInt8)(at_:Nat)(n:Int):Rdg (List UInt8×Nat):=if (D.length:Int) - at_<n then erR D.length else okR ((D.drop at_).take n.toNat,at_+n.toNat)
def JV(r:Rl)(D:List UInt8)(at_:Nat):Rdg (Int×Nat):=
 if r.kind=3 then ZN r.stop r.mx (D.drop at_) false 0 at_
 else rb (ZQ D at_ r.size) fun y=>if QR r.big y.1<r.mn∨r.mx<QR r.big y.1 then erR at_ else okR (QR r.big y.1,y.2)
def Vj:List UInt8→List UInt8→Nat→Rdg Nat
 |[],_,p=>okR p
 |_::_,[],p=>erR p
 |b::bs,c::l,p=>if c=b then Vj bs l (p+1) else erR p
def Jd(stop size:Int):List UInt8→Nat→Nat→Rdg Nat
 |[],_,p=>erR p
 |c::l,k,p=>if (c.toNat:Int)=stop then okR p else if (k:Int)=size then erR p else Jd stop size l (k+1) (p+1)
def Ze(one:Nat→Rdg (Nd×VF×Nat)):Nat→Nat→Rdg (VF×Nat)
 |0,p=>okR (.nil,p)
 |n+1,p=>rb (one p) fun y=>rb (Ze one n y.2.2) fun z=>okR (.cons y.1 y.2.1 z.1,z.2)
def Zs(one:Nat→Rdg (Nd×VF×Nat))(D:List UInt8)(stop:Int):Nat→Nat→Rdg (VF×Nat)
 |0,_=>none
 |f+1,p=>match D[p]? with
  |none=>erR p
  |some c=>if (c.toNat:Int)=stop then okR (.nil,p+1) else rb (one p) fun y=>rb (Zs one D stop f y.2.2) fun z=>okR (.cons y.1 y.2.1 z.1,z.2)
def Zt(one:Int→Nat→Rdg (Nd×VF×Nat)):List (List UInt8)→List Int→Nat→Rdg (List (List UInt8)×VF×Nat)
 |nm::nms,k::ks,p=>rb (one k p) fun y=>rb (Zt one nms ks y.2.2) fun z=>if nm=[] then okR z else okR (nm::z.1,.cons y.1 y.2.1 z.2.1,z.2.2)
 |_,_,p=>okR ([],.nil,p)
def Qd(F:List Rl)(k:Int):Rl:=(F[k.toNat]?).getD (Q8J [] 0)
def ZY(F:List Rl)(ks:List Int)(c:UInt8):Option Nat:=ks.findIdx? fun k=>((K8 F).getD k.toNat Zx) c.toNat
def Qx(F:List Rl)(D:List UInt8):Nat→Int→Nat→Rdg (Nd×VF×Nat)
 |0,_,_=>none
 |f+1,k,p=>
  let r:=Qd F k
  if r.kind=1 then rb (Vj r.bs (D.drop p) p) fun q=>okR (ndL,.nil,q)
  else if r.kind=2∨r.kind=3 then rb (JV r D p) fun y=>okR (ndN y.1,.nil,y.2)
  else if r.kind=4 then rb (ZQ D p r.size) fun y=>okR (ndB y.1,.nil,y.2)
  else if r.kind=10 then rb (JV (Qd F r.count) D p) fun x=>rb (ZQ D x.2 x.1) fun y=>okR (ndB y.1,.nil,y.2)
  else if r.kind=5 then rb (Jd r.stop r.size (D.drop p) 0 p) fun q=>okR (ndB ((D.drop p).take (q - p)),.nil,q+1)
  else if r.kind=6 then rb (JV (Qd F r.count) D p) fun x=>rb (Ze (Qx F D f r.elem) x.1.toNat x.2) fun z=>okR (ndL,z.1,z.2)
  else if r.kind=9 then rb (Zs (Qx F D f r.elem) D r.stop (D.length+1) p) fun z=>okR (ndL,z.1,z.2)
  else if r.kind=8 then match D[p]? with
   |none=>erR p
   |some c=>match ZY F r.parts c with
    |none=>erR p
    |some i=>rb (Qx F D f (r.parts.getD i 0) p) fun y=>okR (ndL,.cons (ndN (i:Int)) .nil (.cons y.1 y.2.1 .nil),y.2.2)
  else rb (Zt (Qx F D f) r.names r.parts p) fun z=>okR (ndR z.1,z.2.1,z.2.2)
section
variable {α β:Type}
theorem Qy{x:Rdg α}{g:α→Rdg β}{b:β}(h:rb x g=some (.ok b)):∃a,x=some (.ok a)∧g a=some (.ok b):=by
 unfold rb at h
 split at h
 ·cases h
 ·cases h
 ·exact⟨_,rfl,h⟩
theorem XZ{x:Rdg α}{g:α→Rdg β}(hx:∃y,x=some y)(hg:∀a,x=some (.ok a)→∃y,g a=some y):∃y,rb x g=some y:=by
 obtain⟨y,rfl⟩:=hx
 cases y with
 |error e=>exact⟨_,rfl⟩
 |ok a=>exact hg a rfl
theorem Xl{x:Rdg α}{g:α→Rdg β}{a:α}(h:x=some (.ok a)):rb x g=g a:=by rw[h];rfl
theorem Qfn{x:Rdg α}{g:α→Rdg β}{e:Nat}(h:x=some (.error e)):rb x g=some (.error e):=by rw[h];rfl
theorem Qv{a b:α}(h:okR a=some (.ok b)):a=b:=by unfold okR at h;injection h with h;injection h
theorem Xa{e:Nat}{b:α}(h:(erR e:Rdg α)=some (.ok b)):False:=by unfold erR at h;injection h with h;cases h
end
theorem Q4c(stop mx:Int):∀(l:List UInt8) (b:Bool) (n:Int) (p:Nat),∃y,ZN stop mx l b n p=some y
 |[],_,_,p=>⟨_,rfl⟩
 |c::l,later,n,p=>by
  unfold ZN
  split
  ·exact⟨_,rfl⟩
  split
  ·exact⟨_,rfl⟩
  ·exact Q4c stop mx l true _ _
theorem Q6s{stop mx:Int}:∀{l:List UInt8} {b:Bool} {n:Int} {p:Nat} {m:Int} {q:Nat},ZN stop mx l b n p=some (.ok (m,q))→p<q∧q≤p+l.length
 |[],_,_,p,m,q,h=>(Xa h).elim
 |c::l,later,n,p,m,q,h=>by
  unfold ZN at h
  split at h
  ·have:=Qv h
   injection this with h1 h2
   rw[List.length_cons];omega
  split at h
  ·exact(Xa h).elim
  ·have:=Q6s h;rw[List.length_cons];omega
theorem Q0u(D:List UInt8)(p:Nat)(n:Int):∃y,ZQ D p n=some y:=by unfold ZQ;split<;>exact⟨_,rfl⟩
theorem Zn{D:List UInt8}{p:Nat}{n:Int}{y:List UInt8×Nat}(h:ZQ D p n=some (.ok y)):y=((D.drop p).take n.toNat,p+n.toNat)∧n≤(D.length:Int) - p:=by
 unfold ZQ at h
 split at h
 ·exact(Xa h).elim
 ·next hn=>exact⟨(Qv h).symm,by omega⟩
theorem Q1K(r:Rl)(D:List UInt8)(p:Nat):∃y,JV r D p=some y:=by
 unfold JV
 split
 ·exact Q4c _ _ _ _ _ _
 ·refine XZ (Q0u _ _ _) fun a _=>?_
  split<;>exact⟨_,rfl⟩
def QdQ(r:Rl):Prop:=r.kind=3∨(r.kind=2∧1≤r.size)
theorem Zl{r:Rl}{D:List UInt8}{p q:Nat}{n:Int}(hr:QdQ r)(hp:p≤D.length)(h:JV r D p=some (.ok (n,q))):p<q∧q≤D.length:=by
 unfold JV at h
 split at h
 ·have:=Q6s h;rw[List.length_drop] at this
  omega
 ·next h3=>
  obtain⟨y,hy,hg⟩:=Qy h;obtain⟨rfl,hn⟩:=Zn hy
  split at hg
  ·exact(Xa hg).elim
  ·have:=Qv hg
   injection this with h1 h2
   have:r.kind=2∧1≤r.size:=hr.resolve_left h3
   simp only at h2
   omega
theorem Q4n:∀(bs l:List UInt8) (p:Nat),∃y,Vj bs l p=some y
 |[],l,p=>by cases l<;>exact⟨_,rfl⟩
 |_::_,[],p=>⟨_,rfl⟩
 |b::bs,c::l,p=>by
  unfold Vj
  split
  ·exact Q4n bs l (p+1)
  ·exact⟨_,rfl⟩
theorem Q1h:∀{bs l:List UInt8} {p q:Nat},Vj bs l p=some (.ok q)→q=p+bs.length∧bs=l.take bs.length∧bs.length≤l.length
 |[],l,p,q,h=>by
  have:q=p:=by cases l<;>exact(Qv h).symm
  simp [this]
 |_::_,[],p,q,h=>(Xa h).elim
 |b::bs,c::l,p,q,h=>by
  unfold Vj at h
  split at h
  ·next e=>
   subst e;obtain⟨h1,h2,h3⟩:=Q1h h;refine⟨?_,?_,?_⟩
   ·rw[List.length_cons];omega
   ·rw[List.length_cons,List.take_succ_cons,← h2]
   ·rw[List.length_cons,List.length_cons];omega
  ·exact(Xa h).elim
theorem Q4a(stop size:Int):∀(l:List UInt8) (k p:Nat),∃y,Jd stop size l k p=some y
 |[],_,p=>⟨_,rfl⟩
 |c::l,k,p=>by
  unfold Jd
  split
  ·exact⟨_,rfl⟩
  split
  ·exact⟨_,rfl⟩
  ·exact Q4a stop size l _ _
theorem Q2R{stop size:Int}:∀{l:List UInt8} {k p q:Nat},Jd stop size l k p=some (.ok q)→p≤q∧q<p+l.length
 |[],_,p,q,h=>(Xa h).elim
 |c::l,k,p,q,h=>by
  unfold Jd at h
  split at h
  ·have:=Qv h;rw[List.length_cons];omega
  split at h
  ·exact(Xa h).elim
  ·have:=Q2R h;rw[List.length_cons];omega
section
variable {one:Nat→Rdg (Nd×VF×Nat)}{D:List UInt8}
def Far(one:Nat→Rdg (Nd×VF×Nat))(m:Nat):Prop:=∀(p:Nat) (y:Nd×VF×Nat),p≤m→one p=some (.ok y)→p<y.2.2∧y.2.2≤m
theorem JK{m:Nat}(h1:Far one m):∀{n p:Nat} {z:VF×Nat},p≤m→Ze one n p=some (.ok z)→p≤z.2∧z.2≤m∧p+n≤z.2
 |0,p,z,hp,h=>by rw[← Qv h];exact⟨Nat.le_refl _,hp,Nat.le_refl _⟩
 |n+1,p,z,hp,h=>by
  obtain⟨y,hy,hg⟩:=Qy h;obtain⟨z',hz,hg⟩:=Qy hg;have a:=h1 p y hp hy;have b:=JK h1 a.2 hz;rw[← Qv hg]
  simp only
  omega
theorem Yf{stop:Int}(h1:Far one D.length):∀{f p:Nat} {z:VF×Nat},p≤D.length→Zs one D stop f p=some (.ok z)→p<z.2∧z.2≤D.length
 |0,p,z,hp,h=>by cases h
 |f+1,p,z,hp,h=>by
  unfold Zs at h
  split at h
  ·exact(Xa h).elim
  ·next c hc=>
   have hl:p<D.length:=(List.getElem?_eq_some_iff.1 hc).1
   split at h
   ·rw[← Qv h];exact⟨Nat.lt_succ_self _,hl⟩
   ·obtain⟨y,hy,hg⟩:=Qy h;obtain⟨z',hz,hg⟩:=Qy hg;have a:=h1 p y hp hy;have b:=Yf h1 a.2 hz;rw[← Qv hg]
    simp only
    omega
theorem Q1x{one:Int→Nat→Rdg (Nd×VF×Nat)}{m:Nat}:∀{ns:List (List UInt8)} {ks:List Int} {p:Nat} {z:List (List UInt8)×VF×Nat},(∀k∈ks,Far (one k) m)→ns.length=ks.length→p≤m→Zt one ns ks p=some (.ok z)→p+ks.length≤z.2.2∧z.2.2≤m
 |[],[],p,z,h1,hl,hp,h=>by rw[← Qv h];exact⟨Nat.le_refl _,hp⟩
 |[],_::_,p,z,h1,hl,hp,h=>by cases hl
 |_::_,[],p,z,h1,hl,hp,h=>by cases hl
 |nm::ns,k::ks,p,z,h1,hl,hp,h=>by
  unfold Zt at h
  obtain⟨y,hy,hg⟩:=Qy h;obtain⟨z',hz,hg⟩:=Qy hg;have a:=h1 k List.mem_cons_self p y hp hy;have b:=Q1x (fun k hk=>h1 k (List.mem_cons_of_mem _ hk)) (by simpa using hl) a.2 hz
  have:z.2.2=z'.2.2:=by
   split at hg
   ·rw[← Qv hg]
   ·rw[← Qv hg]
  rw[this,List.length_cons]
  omega
def Tot(one:Nat→Rdg (Nd×VF×Nat))(p m:Nat):Prop:=∀q,p≤q→q≤m→∃y,one q=some y
theorem Q1X{m:Nat}(h1:Far one m):∀{n p:Nat},p≤m→Tot one p m→∃y,Ze one n p=some y
 |0,p,hp,ht=>⟨_,rfl⟩
 |n+1,p,hp,ht=>by
  unfold Ze
  refine XZ (ht p (Nat.le_refl _) hp) fun y hy=>?_
  have a:=h1 p y hp hy
  refine XZ (Q1X h1 a.2 fun q h h'=>ht q (by omega) h') fun z hz=>⟨_,rfl⟩
theorem Q3o{stop:Int}(h1:Far one D.length):∀{f p:Nat},p≤D.length→D.length<f+p→Tot one p D.length→∃y,Zs one D stop f p=some y
 |0,p,hp,hf,ht=>absurd hf (by omega)
 |f+1,p,hp,hf,ht=>by
  unfold Zs
  split
  ·exact⟨_,rfl⟩
  split
  ·exact⟨_,rfl⟩
  refine XZ (ht p (Nat.le_refl _) hp) fun y hy=>?_
  have a:=h1 p y hp hy
  refine XZ (Q3o h1 a.2 (by omega) fun q h h'=>ht q (by omega) h') fun z hz=>⟨_,rfl⟩
theorem Q2H{one:Int→Nat→Rdg (Nd×VF×Nat)}{m:Nat}:∀{ns:List (List UInt8)} {ks:List Int} {p:Nat},(∀k∈ks,Far (one k) m)→p≤m→(∀k∈ks,Tot (one k) (p+1) m)→(∀k∈ks.take 1,∃y,one k p=some y)→∃y,Zt one ns ks p=some y
 |[],ks,p,h1,hp,ht,h0=>by cases ks<;>exact⟨_,rfl⟩
 |_::_,[],p,h1,hp,ht,h0=>⟨_,rfl⟩
 |nm::ns,k::ks,p,h1,hp,ht,h0=>by
  unfold Zt
  refine XZ (h0 k (by simp)) fun y hy=>?_
  have a:=h1 k List.mem_cons_self p y hp hy
  refine XZ (Q2H (fun k hk=>h1 k (List.mem_cons_of_mem _ hk)) a.2 (fun k hk q h h'=>ht k (List.mem_cons_of_mem _ hk) q (by omega) h') fun k hk=>ht k (List.mem_cons_of_mem _ (List.mem_of_mem_take hk)) _ (by omega) a.2) fun z hz=>?_
  split<;>exact⟨_,rfl⟩
end
section
variable {F:List Rl}{D:List UInt8}
theorem Q5g{k:Int}{r:Rl}(h:F[k.toNat]? =some r):Qd F k=r:=by unfold Qd;rw[h];rfl
theorem V6{k:Int}(h:0≤k∧k<F.length):F[k.toNat]? =some (Qd F k):=by
 unfold Qd
 rw[List.getElem?_eq_getElem (show k.toNat<F.length by omega)]
 rfl
theorem Usd.rok(hv:Usd F){k:Int}(h:0≤k∧k<F.length):ROk F.length (Qd F k):=hv.ok _ _ (V6 h)
theorem Usd.numK(hv:Usd F){k:Int}(h:0≤k∧k<F.length)(hk:(Qd F k).kind=6∨(Qd F k).kind=10):QdQ (Qd F (Qd F k).count):=by
 obtain⟨c,hc,h23⟩:=hv.use _ _ (V6 h) hk;rw[Q5g hc];have:=hv.ok _ _ hc
 rcases h23 with h2|h3
 ·exact .inr ⟨h2,(this.num h2).1⟩
 ·exact .inl h3
theorem ZX{l:List Int}{i:Nat}(h:i<l.length):l.getD i 0∈l:=by
 rw[List.getD_eq_getElem?_getD,List.getElem?_eq_getElem h];exact List.getElem_mem _
theorem Jc{ks:List Int}{c:UInt8}{i:Nat}(h:ZY F ks c=some i):i<ks.length:=by
 unfold ZY at h
 rw[List.findIdx?_eq_some_iff_getElem] at h;exact h.1
theorem Q7r{ks:List Int}{c:UInt8}{i:Nat}(h:ZY F ks c=some i):((K8 F).getD (ks.getD i 0).toNat Zx) c.toNat=true:=by
 have hl:=Jc h
 unfold ZY at h
 rw[List.findIdx?_eq_some_iff_getElem] at h;obtain⟨_,this⟩:=h
 have e:ks.getD i 0=ks[i]:=by rw[List.getD_eq_getElem?_getD,List.getElem?_eq_getElem hl];rfl
 rw[e];exact this.1
theorem QX(hv:Usd F):∀(f:Nat) {k:Int},0≤k∧k<F.length→Far (Qx F D f k) D.length
 |0,k,hk,p,y,hp,h=>by cases h
 |f+1,k,hk,p,y,hp,h=>by
  have hr:=hv.rok hk;have hnk:=hv.numK hk
  unfold Qx at h
  obtain⟨r,e⟩:∃r,Qd F k=r:=⟨_,rfl⟩
  simp only[e] at h hr hnk
  split at h
  ·next h1=>
   obtain⟨q,hq,hg⟩:=Qy h;obtain⟨a,_,c⟩:=Q1h hq;have:=hr.bs1 h1;rw[List.length_drop] at c;rw[← Qv hg]
   simp only
   omega
  split at h
  ·next h23=>
   obtain⟨z,hz,hg⟩:=Qy h
   have:=Zl (q:=z.2) (n:=z.1) (by
    rcases h23 with h2|h3
    ·exact .inr ⟨h2,(hr.num h2).1⟩
    ·exact .inl h3) hp hz
   rw[← Qv hg];exact this
  split at h
  ·next h4=>
   obtain⟨z,hz,hg⟩:=Qy h;obtain⟨rfl,hn⟩:=Zn hz;have:=hr.size4 h4;rw[← Qv hg]
   simp only
   omega
  split at h
  ·next h10=>
   obtain⟨z,hz,hg⟩:=Qy h;have a:=Zl (q:=z.2) (n:=z.1) (hnk (.inr h10)) hp hz;obtain⟨z',hz',hg⟩:=Qy hg;obtain⟨rfl,hn⟩:=Zn hz';rw[← Qv hg]
   simp only
   omega
  split at h
  ·next h5=>
   obtain⟨q,hq,hg⟩:=Qy h;have a:=Q2R hq;rw[List.length_drop] at a;rw[← Qv hg]
   simp only
   omega
  split at h
  ·next h6=>
   obtain⟨z,hz,hg⟩:=Qy h;have a:=Zl (q:=z.2) (n:=z.1) (hnk (.inl h6)) hp hz;obtain⟨z',hz',hg⟩:=Qy hg;have b:=JK (QX hv f (hr.elem (.inl h6))) a.2 hz';rw[← Qv hg]
   simp only
   omega
  split at h
  ·next h9=>
   obtain⟨z',hz',hg⟩:=Qy h;have b:=Yf (QX hv f (hr.elem (.inr h9))) hp hz';rw[← Qv hg];exact b
  split at h
  ·next h8=>
   split at h
   ·exact(Xa h).elim
   ·next c hc=>
    split at h
    ·exact(Xa h).elim
    ·next i hi=>
     obtain⟨z,hz,hg⟩:=Qy h;have b:=QX hv f (hr.parts (.inr h8) _ (ZX (Jc hi))) p z hp hz;rw[← Qv hg];exact b
  ·next h1 h23 h4 h10 h5 h6 h9 h8=>
   have h7:r.kind=7:=by
    have:=hr.kind
    omega
   obtain⟨z,hz,hg⟩:=Qy h;have b:=Q1x (fun k hk=>QX hv f (hr.parts (.inl h7) k hk)) (hr.seven h7).1 hp hz;have:=(hr.seven h7).2;rw[← Qv hg]
   simp only
   omega
def Q9u(F:List Rl)(k:Nat):Nat:=cnt (fun j=>(V4 F k).getD j false) F.length
theorem QbQ(hv:Vld F){k i:Nat}(hk:k<F.length)(hi:i∈bg F k):Q9u F i<Q9u F k:=by
 have hbd:=hv.ok.bd;have hil:i<F.length:=hbd k i hi;refine Q38 _ (fun j _ h=>?_) ⟨i,hil,?_,?_⟩
 ·rw[VH hbd hk];exact Rch.trans (.one hi) ((VH hbd hil j).1 h)
 ·cases hh:(V4 F i).getD i false with
  |false=>rfl
  |true=>exact absurd ((VH hbd hil _).1 hh) (hv.cyc i hil)
 ·rw[VH hbd hk];exact .one hi
theorem Q6c(F:List Rl)(k:Nat):Q9u F k≤F.length:=Q5M _ _
theorem QbM{k:Int}(hk:0≤k∧k<F.length){x:Int}(hx:x∈bl (Qd F k)):x.toNat∈bg F k.toNat:=by
 rw[Q1T (V6 hk)];exact List.mem_map_of_mem hx
def Jw(F:List Rl)(D:List UInt8)(k:Int)(p:Nat):Nat:=(D.length - p)*(F.length+1)+Q9u F k.toNat+1
theorem Q7k{k i:Int}{p q:Nat}(hpq:p<q)(hq:q≤D.length):Jw F D i q<Jw F D k p:=by
 have h1:=Q6c F i.toNat
 unfold Jw
 have h2:(D.length - q)*(F.length+1)+(F.length+1)≤(D.length - p)*(F.length+1):=by
  rw[← Nat.succ_mul];exact Nat.mul_le_mul_right _ (by omega)
 omega
theorem Q9q(hv:Vld F){k i:Int}{p:Nat}(hk:0≤k∧k<F.length)(hi:i∈bl (Qd F k)):Jw F D i p<Jw F D k p:=by
 have:=QbQ hv (by omega) (QbM hk hi)
 unfold Jw
 omega
theorem Q0l(hv:Vld F):∀(f:Nat) {k:Int} {p:Nat},0≤k∧k<F.length→p≤D.length→Jw F D k p≤f→∃y,Qx F D f k p=some y
 |0,k,p,hk,hp,hf=>by unfold Jw at hf;omega
 |f+1,k,p,hk,hp,hf=>by
  have hr:=hv.toUsd.rok hk;have hnk:=hv.toUsd.numK hk
  have hbg:∀x∈bl (Qd F k),∃y,Qx F D f x p=some y:=fun x hx=>
   Q0l hv f (Q2y hr x hx) hp (by have:=Q9q (D:=D) (p:=p) hv hk hx;omega)
  have htot:∀{x:Int} {q:Nat},0≤x∧x<F.length→p<q→Tot (Qx F D f x) q D.length:=fun {x q} hx hq q' h h'=>
   Q0l hv f hx h' (by have:=Q7k (F:=F) (D:=D) (k:=k) (i:=x) (p:=p) (q:=q') (by omega) h';omega)
  unfold Qx
  obtain⟨r,e⟩:∃r,Qd F k=r:=⟨_,rfl⟩
  simp only[e] at hr hnk hbg ⊢
  split
  ·exact XZ (Q4n _ _ _) fun _ _=>⟨_,rfl⟩
  split
  ·exact XZ (Q1K _ _ _) fun _ _=>⟨_,rfl⟩
  split
  ·exact XZ (Q0u _ _ _) fun _ _=>⟨_,rfl⟩
  split
  ·exact XZ (Q1K _ _ _) fun _ _=>XZ (Q0u _ _ _) fun _ _=>⟨_,rfl⟩
  split
  ·exact XZ (Q4a _ _ _ _ _) fun _ _=>⟨_,rfl⟩
  split
  ·next h6=>
   refine XZ (Q1K _ _ _) fun x hx=>?_
   have a:=Zl (q:=x.2) (n:=x.1) (hnk (.inl h6)) hp hx
   exact XZ (Q1X (QX hv.toUsd f (hr.elem (.inl h6))) a.2 (htot (hr.elem (.inl h6)) a.1)) fun _ _=>⟨_,rfl⟩
  split
  ·next h9=>
   refine XZ (Q3o (QX hv.toUsd f (hr.elem (.inr h9))) hp (by omega) fun q h h'=>?_) fun _ _=>⟨_,rfl⟩
   rcases Nat.lt_or_ge p q with hq|hq
   ·exact htot (hr.elem (.inr h9)) hq q (Nat.le_refl _) h'
   ·obtain rfl:p=q:=by omega
    refine hbg _ ?_
    unfold bl Xs
    rw[if_neg (by omega),if_neg (by omega),if_neg (by omega),if_pos h9];exact List.mem_singleton.2 rfl
  split
  ·next h8=>
   split
   ·exact⟨_,rfl⟩
   ·split
    ·exact⟨_,rfl⟩
    ·next c hc i hi=>
     refine XZ (hbg _ ?_) fun _ _=>⟨_,rfl⟩
     unfold bl Xs
     rw[if_neg (by omega),if_neg (by omega),if_pos h8];exact ZX (Jc hi)
  ·next h1 h23 h4 h10 h5 h6 h9 h8=>
   have h7:r.kind=7:=by
    have:=hr.kind
    omega
   refine XZ (Q2H (fun k hk=>QX hv.toUsd f (hr.parts (.inl h7) k hk)) hp (fun x hx=>htot (hr.parts (.inl h7) x hx) (Nat.lt_succ_self _)) fun x hx=>hbg x ?_) fun _ _=>⟨_,rfl⟩
   unfold bl Xs
   rw[if_neg (by omega),if_pos h7];exact hx
end
def Q6l(c:UInt8):Bool:=decide (48≤c.toNat∧c.toNat≤57)
def JW:Nat→List UInt8→Nat
 |n,[]=>n
 |n,c::r=>JW (10*n+(c.toNat - 48)) r
theorem Q2z:∀(x:List UInt8) (n:Nat) (c:UInt8),JW n (x++[c])=10*JW n x+(c.toNat - 48)
 |[],n,c=>rfl
 |b::x,n,c=>Q2z x _ c
theorem Q9x:∀(x:List UInt8) (n m:Nat),x.all Q6l=true→n<10 ^ m→JW n x<10 ^ (m+x.length)
 |[],n,m,_,h=>h
 |c::r,n,m,ha,h=>by
  rw[List.all_cons,Bool.and_eq_true] at ha;have hc:48≤c.toNat∧c.toNat≤57:=of_decide_eq_true ha.1;have:=Q9x r (10*n+(c.toNat - 48)) (m+1) ha.2 (by rw[Nat.pow_succ];omega);rw[List.length_cons,show m+(r.length+1)=m+1+r.length by omega];exact this
theorem Q6M:∀(x:List UInt8) (n:Nat),0<n→0<JW n x
 |[],n,h=>h
 |c::r,n,h=>Q6M r _ (by omega)
def Qab(x:List UInt8):Bool:=decide (1≤x.length∧x.length≤10)&&!(decide (1<x.length)&&x.head? ==some 48)&&x.all Q6l
theorem Q61(m:Nat):∀(x:List UInt8),x.length=m+1→x.all Q6l=true→(1<x.length→x.head?≠some 48)→Lib.decDigits (JW 0 x)=x:=by
 induction m using Nat.strongRecOn with
 |_ m ihm=>
  intro x hl ha hh
  rcases List.eq_nil_or_concat x with rfl|⟨y,c,rfl⟩
  ·cases hl
  ·rw[List.concat_eq_append] at*;rw[List.all_append,Bool.and_eq_true] at ha
   have hc:48≤c.toNat∧c.toNat≤57:=by
    have h:=ha.2
    simp only[List.all_cons,List.all_nil,Bool.and_true] at h
    exact of_decide_eq_true h
   rw[Q2z]
   cases y with
   |nil=>
    rw[Lib.decDigits,dif_pos (by show 10*JW 0 []+(c.toNat - 48)<10;show 10*0+(c.toNat - 48)<10;omega)]
    show [_]=[c]
    congr 1
    refine UInt8.toNat.inj ?_
    show (UInt8.ofNat (48+(10*0+(c.toNat - 48)))).toNat=c.toNat
    simp only[UInt8.toNat_ofNat']
    omega
   |cons b t=>
    have hb:b≠48:=fun e=>hh (by simp) (by rw[e];rfl)
    have hbd:48≤b.toNat∧b.toNat≤57:=by
     have h:=ha.1;rw[List.all_cons,Bool.and_eq_true] at h;exact of_decide_eq_true h.1
    have hb48:b.toNat≠48:=fun e=>hb (UInt8.toNat.inj (by rw[e];rfl))
    have hp:0<JW 0 (b::t):=Q6M t _ (by show 0<10*0+(b.toNat - 48);omega);have ih:=ihm t.length (by simp at hl;omega) (b::t) rfl ha.1 (fun _ h=>hb (by simpa using h));rw[Lib.decDigits,dif_neg (by omega),show (10*JW 0 (b::t)+(c.toNat - 48)) / 10=JW 0 (b::t) by omega,ih]
    congr 1
    congr 1
    refine UInt8.toNat.inj ?_
    simp only[UInt8.toNat_ofNat']
    omega
theorem Qbx(u:Nat):JW 0 (Lib.decDigits u)=u:=by
 induction u using Nat.strongRecOn with
 |_ u ih=>
  rw[Lib.decDigits]
  split
  ·next h=>
   show 10*0+((UInt8.ofNat (48+u)).toNat - 48)=u
   simp only[UInt8.toNat_ofNat']
   omega
  ·next h=>
   rw[Q2z,ih _ (by omega)]
   simp only[UInt8.toNat_ofNat']
   omega
theorem Qbr(u:Nat)(h:10≤u):(Lib.decDigits u).head?≠some 48:=by
 induction u using Nat.strongRecOn with
 |_ u ih=>
  rw[Lib.decDigits,dif_neg (by omega)]
  by_cases h10:10≤u / 10
  ·have h1:=ih (u / 10) (by omega) h10
   cases hd:Lib.decDigits (u / 10) with
   |nil=>exact absurd hd (YQ _)
   |cons b t=>rw[hd] at h1;exact h1
  ·rw[Lib.decDigits,dif_pos (by omega)]
   show some (UInt8.ofNat (48+u / 10))≠some 48
   intro e;have e2:=congrArg UInt8.toNat (Option.some.inj e)
   simp only[UInt8.toNat_ofNat'] at e2
   have:(48:UInt8).toNat=48:=rfl
   omega
theorem QdP(x:List UInt8):Q7N x=if Qab x=true then some ((JW 0 x:Nat):Int) else none:=by
 by_cases hf:Qab x=true
 ·rw[if_pos hf]
  unfold Qab at hf
  simp only[Bool.and_eq_true,Bool.not_eq_true',decide_eq_true_eq,Bool.and_eq_false_iff,decide_eq_false_iff_not,beq_eq_false_iff_ne] at hf
  obtain⟨⟨⟨h1,h2⟩,h3⟩,h4⟩:=hf
  have hd:=Q61 (x.length - 1) x (by omega) h4 (fun hl h=>by
   rcases h3 with h3|h3
   ·exact h3 hl
   ·exact h3 h)
  have hlt:=Q9x x 0 0 h4 (by decide);have h10:(10:Nat) ^ (0+x.length)≤10 ^ 10:=Nat.pow_le_pow_right (by decide) (by omega);have hi:=Q4H (v:=((JW 0 x:Nat):Int)) (by omega) (by omega);rw[KN (by omega),Int.toNat_natCast,hd] at hi;exact hi
 ·rw[if_neg hf]
  cases hn:Q7N x with
  |none=>rfl
  |some v=>
   exfalso
   apply hf
   obtain⟨hx,h0⟩:=Q9J hn
   have hok:numOk x=true:=by
    unfold Q7N at hn
    split at hn
    ·assumption
    ·cases hn
   have hl:x.length≤10:=by
    unfold numOk at hok
    cases ha:Lib.atoiAll x with
    |ok u=>
     rw[ha] at hok
     simp only[Bool.and_eq_true,Bool.not_eq_true',decide_eq_false_iff_not] at hok
     omega
    |_=>rw[ha] at hok;cases hok
   rw[KN h0] at hx;have hne:=YQ v.toNat;have hdig:=Q02 v.toNat;have hhd:=Qbr v.toNat;have hlen:=Lib.decDigits_length v.toNat;rw[← hx] at hne hdig hhd hlen
   unfold Qab
   simp only[Bool.and_eq_true,Bool.not_eq_true',decide_eq_true_eq,Bool.and_eq_false_iff,decide_eq_false_iff_not,beq_eq_false_iff_ne]
   refine⟨⟨⟨?_,hl⟩,?_⟩,?_⟩
   ·cases x with
    |nil=>exact absurd rfl hne
    |cons b t=>rw[List.length_cons];omega
   ·by_cases h10:10≤v.toNat
    ·exact .inr (hhd h10)
    ·left
     rw[hlen,Lib.nDigits_small (by omega)]
     omega
   ·rw[List.all_eq_true]
    exact fun c hc=>decide_eq_true (hdig c hc)
end Go.Proofs.YtphkhfdmlcnoeaaGreatDoor
