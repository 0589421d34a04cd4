import Derived.Test.YtgdiadednlajgaaGreatDoorP14
namespace Go.Proofs.YtgdiadednlajgaaGreatDoor
set_option linter.unusedVariables false
set_option linter.unusedSimpArgs false
open Go.RowKit
structure ROk(n:Nat)(r:Rl):Prop where
 kind:1≤r.kind∧r.kind≤10
 formed:XI r.kind r.size r.big r.mn r.mx r.stop r.count r.elem r.bs.length r.names.length r.parts.length=true
 bs1:r.kind=1→0<r.bs.length
 bs16:r.bs.length≤16
 seven:r.kind=7→r.names.length=r.parts.length∧1≤r.parts.length
 eight:r.kind=8→2≤r.parts.length
 p12:r.parts.length≤12
 parts:(r.kind=7∨r.kind=8)→∀x∈r.parts,0≤x∧x<n
 count:(r.kind=6∨r.kind=10)→0≤r.count∧r.count<n
 elem:(r.kind=6∨r.kind=9)→0≤r.elem∧r.elem<n
 num:r.kind=2→1≤r.size∧r.size≤4∧0≤r.mn∧r.mn≤r.mx∧r.mx<256 ^ r.size.toNat
 dec:r.kind=3→0≤r.mx∧r.mx≤999999999∧¬(48≤r.stop∧r.stop≤57)
 stop:(r.kind=3∨r.kind=5∨r.kind=9)→0≤r.stop∧r.stop≤255
 size4:r.kind=4→1≤r.size∧r.size≤1000
 size5:r.kind=5→0≤r.size∧r.size≤1000
theorem Xo{n a b:Int}:inB n a b=true↔a≤n∧n≤b:=by unfold inB;simp
theorem QdK{r:Rl}{early:List Rl}{n:Nat}(h:X5 r early n=0):ROk n r:=by
 unfold X5 at h
 split at h
 ·cases h
 split at h
 ·cases h
 split at h
 ·cases h
 next h3=>
 split at h
 ·cases h
 next h4=>
 split at h
 ·cases h
 next h5=>
 split at h
 ·cases h
 next h6=>
 split at h
 ·cases h
 next h7=>
 split at h
 ·cases h
 next h8=>
 split at h
 ·cases h
 next h9=>
 split at h
 ·cases h
 next h10=>
 split at h
 ·cases h
 next h11=>
 have hk:1≤r.kind∧r.kind≤10:=Xo.1 (by simpa using h3)
 have hf:XI r.kind r.size r.big r.mn r.mx r.stop r.count r.elem r.bs.length r.names.length r.parts.length=true:=by simpa using h4
 have hr:Qt r.kind r.size r.mn r.mx r.stop r.count r.elem r.parts n=true:=by simpa using h11
 clear h h3 h4 h11
 simp only[Bool.and_eq_true,beq_iff_eq,bne_iff_ne,decide_eq_true_eq,not_and,ne_eq,Decidable.not_not] at h5 h6 h7 h8 h9 h10
 refine⟨hk,hf,fun h=>?_,by omega,fun h=>⟨?_,?_⟩,fun h=>?_,by omega,?_,?_,?_,?_,?_,?_,?_,?_⟩
 ·have:=h5 h;omega
 ·have:=h7 h;omega
 ·have:=h8 h;omega
 ·have:=h9 h;omega
 ·rintro(h|h) x hx<;>
  ·rw[Qt,if_neg (by omega),if_neg (by omega),if_neg (by omega),if_neg (by omega),if_neg (by omega),if_neg (by omega),if_neg (by omega)] at hr
   have h2:r.parts.any (fun x=>!(inB x 0 ((n:Int) - 1)))=false:=by simpa using hr
   have:=List.any_eq_false.1 h2 x hx;have:=Xo.1 (by simpa using this)
   omega
 ·rintro(h|h)
  ·rw[Qt,if_neg (by omega),if_neg (by omega),if_neg (by omega),if_neg (by omega),if_neg (by omega),if_pos h,Bool.and_eq_true,Xo,Xo] at hr
   omega
  ·rw[Qt,if_neg (by omega),if_neg (by omega),if_neg (by omega),if_neg (by omega),if_neg (by omega),if_neg (by omega),if_pos h,Xo] at hr
   omega
 ·rintro(h|h)
  ·rw[Qt,if_neg (by omega),if_neg (by omega),if_neg (by omega),if_neg (by omega),if_neg (by omega),if_pos h,Bool.and_eq_true,Xo,Xo] at hr
   omega
  ·rw[Qt,if_neg (by omega),if_neg (by omega),if_neg (by omega),if_neg (by omega),if_pos h,Bool.and_eq_true,Xo,Xo] at hr
   omega
 ·intro h;rw[Qt,if_pos h,Bool.and_eq_true,Bool.and_eq_true,Xo,Xo,decide_eq_true_eq] at hr;exact⟨hr.1.1,hr.1.2,hr.2.1.1,hr.2.1.2,hr.2.2⟩
 ·intro h;rw[Qt,if_neg (by omega),if_pos h,Bool.and_eq_true,Bool.and_eq_true,Xo,Xo] at hr;refine⟨hr.1.1,hr.1.2,fun h'=>?_⟩;have:=hr.2.2;rw[Xo.2 h'] at this
  cases this
 ·rintro(h|h|h)
  ·rw[Qt,if_neg (by omega),if_pos h,Bool.and_eq_true,Bool.and_eq_true,Xo,Xo] at hr;exact hr.2.1
  ·rw[Qt,if_neg (by omega),if_neg (by omega),if_neg (by omega),if_pos h,Bool.and_eq_true,Xo,Xo] at hr;exact hr.2
  ·rw[Qt,if_neg (by omega),if_neg (by omega),if_neg (by omega),if_neg (by omega),if_pos h,Bool.and_eq_true,Xo,Xo] at hr;exact hr.1
 ·intro h;rw[Qt,if_neg (by omega),if_neg (by omega),if_pos h,Xo] at hr;exact hr
 ·intro h;rw[Qt,if_neg (by omega),if_neg (by omega),if_neg (by omega),if_pos h,Bool.and_eq_true,Xo,Xo] at hr;exact hr.1
def FOk(F:List Rl):Prop:=∀(i:Nat) (r:Rl),F[i]? =some r→ROk F.length r
def bl(r:Rl):List Int:=XP r.kind r.count r.elem r.parts
theorem Q4P{n:Nat}{r:Rl}(h:ROk n r):∀x∈bl r,0≤x∧x<n:=by
 intro x hx
 unfold bl XP at hx
 split at hx
 ·next hk=>rw[List.mem_singleton] at hx;subst hx;exact h.count hk
 split at hx
 ·next hk=>exact h.parts (.inl hk) x (List.mem_of_mem_take hx)
 split at hx
 ·next hk=>exact h.parts (.inr hk) x hx
 split at hx
 ·next hk=>rw[List.mem_singleton] at hx;subst hx;exact h.elem (.inr hk)
 ·cases hx
theorem Q3G{n:Nat}{r:Rl}(h:ROk n r):(bl r).length≤12:=by
 unfold bl XP
 split
 ·simp
 split
 ·have:=h.p12;rw[List.length_take]
  omega
 split
 ·exact h.p12
 split
 ·simp
 ·simp
theorem Q2q{F:List Rl}{i:Nat}{r:Rl}(h:F[i]? =some r):bg F i=(bl r).map Int.toNat:=by unfold bg;rw[h];rfl
theorem FOk.bd{F:List Rl}(h:FOk F):Bd F:=by
 intro i x hx
 cases hr:F[i]? with
 |none=>unfold bg at hx;rw[hr] at hx;cases hx
 |some r=>
  rw[Q2q hr,List.mem_map] at hx;obtain⟨y,hy,rfl⟩:=hx;have:=Q4P (h i r hr) y hy
  omega
def XR(l:List Bool):List Value:=l.map .bool
theorem Vu{l:List Bool}{i:Nat}(h:i<l.length):(XR l)[i]? =some (.bool (l.getD i false)):=by
 unfold XR
 rw[List.getElem?_map,List.getElem?_eq_getElem h,List.getD_eq_getElem?_getD,List.getElem?_eq_getElem h]
 rfl
theorem YD(l:List Bool)(i:Nat)(b:Bool):(XR l).set i (.bool b)=XR (l.set i b):=by
 unfold XR
 rw[List.map_set]
theorem Q9k(n:Nat):(Go.madeCells #[.bool false] (n*1)).toList=XR (List.replicate n false):=by
 refine List.ext_getElem? fun i=>?_
 unfold XR Go.madeCells
 rw[List.getElem?_map]
 by_cases h:i<n
 ·simp [h,Nat.mod_one]
 ·simp [h]
def Km(F:List Rl)(k:Nat):Bool:=(Zb F k).getD k false
theorem Q1o{F:List Rl}(hb:Bd F){k:Nat}(hk:k<F.length):Km F k=true↔Rch F k k:=Ke hb hk k
structure Cy where
 seen:List Bool
 qs:List Int
 b:Nat
 q:Nat
 c:Nat
 cur:List Value
def VB(s:Cy)(n:Nat):Nat:=cnt (fun i=>!(s.seen.getD i false)) n
structure CyP(F:List Rl)(k:Nat)(s:Cy):Prop where
 len:s.seen.length=F.length
 win:Q2z s.q s.qs.length s.c s.cur (iv s.qs)
 inn:∀x∈s.qs,0≤x∧x<F.length
 sound:∀x∈s.qs,Rch F k x.toNat
 start:∀x∈bg F k,s.seen.getD x false=true∨(x:Int)∈s.qs
 closed:∀i,s.seen.getD i false=true→∀x∈bg F i,s.seen.getD x false=true∨(x:Int)∈s.qs
 notk:s.seen.getD k false=false
 small:13*VB s F.length+s.qs.length≤13*F.length+12
theorem CyP.old{F:List Rl}{k:Nat}{s:Cy}{x:Int}{t:List Int}(h:CyP F k s)(hq:s.qs=x::t)(hx:s.seen.getD x.toNat false=true)(hxn:0≤x){q' c':Nat}(hw:Q2z q' t.length c' s.cur (iv t)):CyP F k { s with qs:=t,q:=q',c:=c' }:=by
 have hmem:∀y:Nat,(y:Int)∈s.qs→s.seen.getD y false=true∨(y:Int)∈t:=by
  intro y hy;rw[hq] at hy
  rcases List.mem_cons.1 hy with e|e
  ·left;rw[← e] at hx;simpa using hx
  ·exact .inr e
 refine⟨h.len,hw,fun y hy=>h.inn y (by rw[hq];exact List.mem_cons_of_mem _ hy),fun y hy=>h.sound y (by rw[hq];exact List.mem_cons_of_mem _ hy),?_,?_,h.notk,?_⟩
 ·intro y hy
  rcases h.start y hy with h1|h1
  ·exact .inl h1
  ·exact hmem y h1
 ·intro i hi y hy
  rcases h.closed i hi y hy with h1|h1
  ·exact .inl h1
  ·exact hmem y h1
 ·have h1:=h.small;rw[hq] at h1
  simp only[List.length_cons] at h1
  show 13*VB s F.length+t.length≤_
  omega
theorem CyP.new{F:List Rl}(hF:FOk F){k:Nat}{s:Cy}{x:Int}{t:List Int}{r:Rl}(h:CyP F k s)(hq:s.qs=x::t)(hr:F[x.toNat]? =some r)(hx:s.seen.getD x.toNat false=false)(hne:x≠(k:Int)){b' q' c':Nat}{cur':List Value}(hw:Q2z q' (t++bl r).length c' cur' (iv (t++bl r))):
  CyP F k { seen:=s.seen.set x.toNat true,qs:=t++bl r,b:=b',q:=q',c:=c',cur:=cur' }∧13*VB { seen:=s.seen.set x.toNat true,qs:=t++bl r,b:=b',q:=q',c:=c',cur:=cur' } F.length+(t++bl r).length<13*VB s F.length+s.qs.length:=by
 have hxi:=h.inn x (by rw[hq];exact List.mem_cons_self)
 have hxl:x.toNat<s.seen.length:=by rw[h.len];omega
 have hset:∀i,(s.seen.set x.toNat true).getD i false=if i=x.toNat then true else s.seen.getD i false:=fun i=>Z1 _ _ _ _ hxl
 have hbl:=Q3G (hF _ _ hr)
 have hlt:VB { seen:=s.seen.set x.toNat true,qs:=t++bl r,b:=b',q:=q',c:=c',cur:=cur' } F.length<VB s F.length:=by
  refine Q31 F.length (fun i hi hh=>?_) ⟨x.toNat,by omega,?_,?_⟩
  ·show (!(s.seen.getD i false))=true
   have hh':(!((s.seen.set x.toNat true).getD i false))=true:=hh;rw[hset] at hh'
   split at hh'
   ·cases hh'
   ·exact hh'
  ·show (!((s.seen.set x.toNat true).getD x.toNat false))=false
   rw[hset,if_pos rfl]
   rfl
  ·show (!(s.seen.getD x.toNat false))=true
   rw[hx]
   rfl
 have hm:13*VB { seen:=s.seen.set x.toNat true,qs:=t++bl r,b:=b',q:=q',c:=c',cur:=cur' } F.length+(t++bl r).length<13*VB s F.length+s.qs.length:=by
  rw[hq,List.length_append,List.length_cons]
  omega
 refine⟨⟨by simp [h.len],hw,?_,?_,?_,?_,?_,?_⟩,hm⟩
 ·intro y hy
  rcases List.mem_append.1 hy with e|e
  ·exact h.inn y (by rw[hq];exact List.mem_cons_of_mem _ e)
  ·exact Q4P (hF _ _ hr) y e
 ·intro y hy
  rcases List.mem_append.1 hy with e|e
  ·exact h.sound y (by rw[hq];exact List.mem_cons_of_mem _ e)
  ·refine .more (h.sound x (by rw[hq];exact List.mem_cons_self)) ?_;rw[Q2q hr];exact List.mem_map_of_mem e
 ·intro y hy;rw[hset]
  split
  ·exact .inl rfl
  ·next hyx=>
   rcases h.start y hy with h1|h1
   ·exact .inl h1
   ·rw[hq] at h1
    rcases List.mem_cons.1 h1 with e|e
    ·exact absurd (by omega) hyx
    ·exact .inr (List.mem_append_left _ e)
 ·intro i hi y hy;rw[hset] at hi ⊢
  split
  ·exact .inl rfl
  ·next hyx=>
   split at hi
   ·next hix=>
    subst hix
    right
    rw[Q2q hr,List.mem_map] at hy;obtain⟨z,hz,rfl⟩:=hy;have:=Q4P (hF _ _ hr) z hz;rw[show ((z.toNat:Nat):Int)=z by omega];exact List.mem_append_right _ hz
   ·rcases h.closed i hi y hy with h1|h1
    ·exact .inl h1
    ·rw[hq] at h1
     rcases List.mem_cons.1 h1 with e|e
     ·exact absurd (by omega) hyx
     ·exact .inr (List.mem_append_left _ e)
 ·rw[hset,if_neg (by omega)];exact h.notk
 ·have:=h.small
  show 13*VB _ F.length+(t++bl r).length≤_
  omega
theorem CyP.done{F:List Rl}(hF:FOk F){k:Nat}(hk:k<F.length){s:Cy}(h:CyP F k s)(hq:s.qs=[]):Km F k=false:=by
 cases hc:Km F k with
 |false=>rfl
 |true=>
  exfalso
  have hr:=(Q1o hF.bd hk).1 hc
  have hall:∀j,Rch F k j→s.seen.getD j false=true:=by
   intro j hj
   induction hj with
   |one h'=>
    rcases h.start _ h' with h1|h1
    ·exact h1
    ·rw[hq] at h1;cases h1
   |more _ h' ih=>
    rcases h.closed _ ih _ h' with h1|h1
    ·exact h1
    ·rw[hq] at h1;cases h1
  have:=hall k hr;rw[h.notk] at this
  cases this
def QT(W:World)(c:Bool)(e:Ending)(w':World):Prop:=e=.returned (.bool c)∧Below W.heap.size W w'
theorem QB{W w:World}{c c':Bool}{O:List Qg}(h:c=c')(hw:Wd [] W O w):QT W c' (.returned (.bool c)) w:=⟨by rw[h],hw.k.below⟩
theorem Q1Z{r:Rl}{Ab An Ap:Option Addr}{cb cn cp n:Nat}{W w:World}{O:List Qg}(hl:RuL W r Ab cb An cn Ap cp)(hr:ROk n r)(hw:Wd [] W O w):
  Calls Tryz.prog 54 #[.agg (ruC r (.slice Ab r.bs.length cb) (.slice An r.names.length cn) (.slice Ap r.parts.length cp)).toArray] w (QW (fun y:Option Addr×Nat=>.slice y.1 (bl r).length y.2) (fun y=>(bl r).length≤y.2∧(bl r=[]→y=(none,0))) [] W (fun y=>.rd y.1 (bl r).length 1 (iv (bl r))::O)):=by
 refine(Q5y (hl.on hw.k.below) hr.kind (fun h=>(hr.seven h).2) (fun h=>by have:=hr.eight h;omega)).mono ?_
 rintro e w' ⟨A,m,c,rfl,h1,h2,h3,h4,h5⟩
 have hm:(bl r).length=m:=by have:=h1.len;rw[Kj] at this;exact this
 subst hm;refine⟨(A,c),rfl,⟨h2,fun h=>?_⟩,(hw.on h3).rd_far hw h1 (fun b o e hn=>?_)⟩
 ·obtain⟨rfl,rfl⟩:=h5 (by rw[h];rfl)
  rfl
 ·rcases h4 b o e hn with h|⟨⟨o',h⟩,h0⟩
  ·exact .inl h
  ·right
   obtain⟨b',o'',e',hlt,_⟩:=hl.p.2 h0;rw[h] at e'
   cases e'
   exact hlt
theorem Qcw{l:List Int}{A:Option Addr}{c:Nat}{W w:World}{O:List Qg}(hl:0<l.length)(hl':l.length≤1048576)(hw:Wd [] W (.rd A l.length 1 (iv l)::O) w):
  Calls Tryz.prog 93 #[.slice A l.length c] w (QW (fun y:Nat×Nat×Nat×List Value=>.slice (some ⟨y.1,y.2.1,none⟩) l.length y.2.2.1) (fun y=>Q2z y.2.1 l.length y.2.2.1 y.2.2.2 (iv l)) [] W (fun y=>.blk y.1 (.cells y.2.2.2.toArray 3 (0,0))::.rd A l.length 1 (iv l)::O)):=by
 refine(Q5M (hw.own 0 _ rfl) hl hl').mono ?_
 rintro e w' ⟨b,q,c',cur,rfl,h1,h2,h3,h4⟩
 exact⟨(b,q,c',cur),rfl,h3,hw.push h4 h2 (fun b' hb'=>by cases hb';exact h1)⟩
theorem QbQ{q n c:Nat}{cur:List Value}{x:Int}{t:List Int}(h:Q2z q (n+1) c cur (iv (x::t))):∃q',Zj (some ⟨0,q,none⟩) c 1 1=some ⟨0,q',none⟩∧(∀b,Zj (some ⟨b,q,none⟩) c 1 1=some ⟨b,q',none⟩)∧Q2z q' n (c - 1) cur (iv t):=by
 obtain⟨h1,h2,h3,h4,h5⟩:=h
 have hl:(iv t).length=n:=by rw[Kj] at h4 ⊢;simpa using h4
 by_cases hc:c=1
 ·refine⟨q,by rw[Zj,if_pos hc],fun b=>by rw[Zj,if_pos hc],by omega,by omega,by omega,hl,fun j u hu=>?_⟩
  have hn:n=0:=by omega
  rw[List.getElem?_eq_none (by omega)] at hu
  cases hu
 ·refine⟨q+1,by rw[Zj,if_neg hc,Option.map_some,Addr.add_mid],fun b=>by rw[Zj,if_neg hc,Option.map_some,Addr.add_mid],by omega,by omega,by omega,hl,fun j u hu=>?_⟩;have:=h5 (j+1) u (by exact hu);rwa [show q+(j+1)=q+1+j by omega] at this
def cyE(bf bs k n:Nat)(s:Cy):Env:=[(1,.int .i64 (k:Int)),(2,.pointer (some ⟨bf,0,none⟩)),(5,.slice (some ⟨bs,0,none⟩) n n),(6,.slice (some ⟨s.b,s.q,none⟩) s.qs.length s.c)]
def cyO(bf bs n c:Nat)(A:Option Addr)(s:Cy):List Qg:=[.blk s.b (.cells s.cur.toArray 3 (0,0)),.row (some ⟨bs,0,none⟩) n n 4 1 (XR s.seen),.blk bf (.cells [.slice A n c].toArray 24 (0,0))]
set_option maxRecDepth 100000 in
set_option maxHeartbeats 8000000 in
theorem Q1b{F:List Rl}{A:Option Addr}{n c k:Nat}{W:World}(hf:Xq W W.heap.size A n F)(hF:FOk F)(hn:n≤40)(hk:k<n):
  Calls Tryz.prog 60 #[.agg #[.slice A n c],.int .i64 (k:Int)] W (QT W (Km F k)):=by
 have hlen:F.length=n:=hf.1;obtain⟨b,o,rfl⟩:=hf.addr (by omega);obtain⟨rk,Ab,cb,An,cn,Ap,cp,hrk,hrg,hlk⟩:=hf.rl hk;have hok:=hF k rk hrk;have HBG:=Lib.hid (Q2q hrk);have HFM:=Lib.hid hf;have HOK:=Lib.hid hok;have HLK:=Lib.hid hlk;have HF:=Lib.hid hF;have HLEN:=Lib.hid hlen;have h12:=Q3G hok;clear hrk hf hok hlk hF hlen
 go_enter Tryz.func60,Tryz.ntmps60
 refine QE (M:=[]) (W:=W) (N:=46) (E:=[(0,.agg #[.slice (some ⟨b,o,none⟩) n c]),(1,.int .i64 (k:Int))]) (O:=[]) ?_ (Ag.cons (Ag.cons (Ag.nil rfl rfl) rfl) rfl) (Wd.start [] W)
 repeat(first|refine Q1 zM ?_|refine Q1 zA ?_|refine Q1 zF ?_|refine Q1 (zB 0) ?_|refine Q1 (zB 1) ?_|refine Q1 (zD 0) ?_|refine Q1 (zD 1) ?_|refine Q1 (zD 2) ?_|refine Q1 zE ?_|refine yB fun bf=>?_|refine Qa (Q3R rfl rfl rfl rfl (by omega)) rfl (by decide) (fun bs _=>?_)|refine Q1 (zi (hj:=hk)) ?_|refine Qa (Qx _ _ _ (f:=54) rfl rfl rfl (fun w hw=>Q1Z (n:=F.length) HLK.out HOK.out hw)) rfl (by decide) (fun y hy=>?_)|refine Q8 ?_|refine Q6 ?_|refine Q2 ?_|refine Q1 zL ?_)
 obtain⟨l,hl⟩:∃l,bl rk=l:=⟨_,rfl⟩;rw[hl] at hy h12 ⊢
 cases l with
 |nil=>
  obtain rfl:=hy.2 rfl
  repeat(first|refine Q1 zA ?_|refine Q1 (Q4 (f:=93) rfl rfl (by decide) rfl rfl (fun w hw=>Q8J w)) ?_|refine Q8 ?_|refine Q6 ?_|refine Qe ?_)
  refine X0 (ι:=Unit) (fun _=>True) (fun _=>0) (fun _=>[(6,.slice none 0 0)]) (fun _=>[]) () [] (by decide) trivial (.cons rfl rfl .nil) rfl ?_
  rintro _ _
  repeat(first|refine Q1 zM ?_|refine Q1 zA ?_|refine Q8 ?_|refine Q6 ?_|refine Q2 ?_|refine Q3 rfl ?_|refine QX ?_|refine Ql ?_|refine Q1 zL ?_|refine Q1 zgf ?_)
  refine Q9 (by exact .inr rfl) rfl (.tmp rfl) (fun w hw=>QB ?_ hw)
  cases hc:Km F k with
  |false=>rfl
  |true=>
   exfalso
   have hr:=(Q1o HF.out.bd (by rw[HLEN.out];exact hk)).1 hc
   have hnone:∀j,Rch F k j→False:=by
    intro j hj
    induction hj with
    |one h=>rw[HBG.out,hl] at h;cases h
    |more _ _ ih=>exact ih
   exact hnone k hr
 |cons x0 t0=>
  refine Qa (Qx _ _ _ (f:=93) rfl rfl rfl (fun w hw=>Qcw (l:=x0::t0) (by simp) (by omega) hw)) rfl (by decide) (fun z hz=>?_);obtain⟨b1,q1,c1,cur1⟩:=z;have hz0:Q2z q1 (x0::t0).length c1 cur1 (iv (x0::t0)):=hz;clear hz
  have h0:CyP F k { seen:=List.replicate n false,qs:=x0::t0,b:=b1,q:=q1,c:=c1,cur:=cur1 }:=by
   have hno:∀i:Nat,(List.replicate n false).getD i false=false:=fun i=>by
    rw[List.getD_eq_getElem?_getD,List.getElem?_replicate]
    split<;>rfl
   have hin:=Q4P HOK.out;rw[hl] at hin
   have hbg:bg F k=(x0::t0).map Int.toNat:=by rw[HBG.out,hl]
   refine⟨by rw[List.length_replicate,HLEN.out],hz0,hin,fun x hx=>.one ?_,fun x hx=>.inr ?_,fun i hi=>?_,hno k,?_⟩
   ·rw[hbg];exact List.mem_map_of_mem hx
   ·rw[hbg,List.mem_map] at hx;obtain⟨y',hy',rfl⟩:=hx;have:=hin y' hy';rw[show ((y'.toNat:Nat):Int)=y' by omega];exact hy'
   ·have hi':(List.replicate n false).getD i false=true:=hi;rw[hno i] at hi'
    cases hi'
   ·have:=Q63 (fun i=>!((List.replicate n false).getD i false)) F.length
    show 13*cnt (fun i=>!((List.replicate n false).getD i false)) F.length+(x0::t0).length≤_
    omega
  clear hy hl h12
  repeat(first|refine Q1 zA ?_|refine Q8 ?_|refine Q6 ?_|refine Qe ?_)
  refine X0 (CyP F k) (fun s=>13*VB s F.length+s.qs.length) (cyE bf bs k n) (cyO bf bs n c (some ⟨b,o,none⟩)) { seen:=List.replicate n false,qs:=x0::t0,b:=b1,q:=q1,c:=c1,cur:=cur1 } [0,2,3] (by decide) h0 (.cons rfl rfl (.cons rfl rfl (.cons rfl rfl (.cons rfl rfl .nil)))) (by show [_,Qg.row _ _ _ _ _ _,_]=_;rw[Q9k];rfl) ?_
  rintro⟨seen,qs,b2,q2,c2,cur2⟩ hp
  have HPP:=Lib.hid hp;clear hp
  cases qs with
  |nil=>
   show sE _ _ _ _ _ [(1,.int .i64 (k:Int)),(2,.pointer (some ⟨bf,0,none⟩)),(5,.slice (some ⟨bs,0,none⟩) n n),(6,.slice (some ⟨b2,q2,none⟩) 0 c2)] [.blk b2 (.cells cur2.toArray 3 (0,0)),.row (some ⟨bs,0,none⟩) n n 4 1 (XR seen),.blk bf (.cells [.slice (some ⟨b,o,none⟩) n c].toArray 24 (0,0))] _
   repeat(first|refine Q1 zM ?_|refine Q1 zA ?_|refine Q8 ?_|refine Q6 ?_|refine Q2 ?_|refine Q3 rfl ?_|refine QX ?_|refine Ql ?_|refine Q1 zL ?_|refine Q1 zgf ?_)
   refine Q9 (by exact .inr rfl) rfl (.tmp rfl) (fun w hw=>QB (HPP.out.done HF.out (by rw[HLEN.out];exact hk) rfl).symm hw)
  |cons x t=>
   show sE _ _ _ _ _ [(1,.int .i64 (k:Int)),(2,.pointer (some ⟨bf,0,none⟩)),(5,.slice (some ⟨bs,0,none⟩) n n),(6,.slice (some ⟨b2,q2,none⟩) (x::t).length c2)] [.blk b2 (.cells cur2.toArray 3 (0,0)),.row (some ⟨bs,0,none⟩) n n 4 1 (XR seen),.blk bf (.cells [.slice (some ⟨b,o,none⟩) n c].toArray 24 (0,0))] _
   have hx:=HPP.out.inn x List.mem_cons_self;rw[HLEN.out] at hx;have hc0:cur2[q2+0]? =some (.int .i64 x):=HPP.out.win.2.2.2.2 0 _ rfl;obtain⟨q3,_,hcut,hwt⟩:=QbQ (show Q2z q2 (t.length+1) c2 cur2 (iv (x::t)) from HPP.out.win);have HWT:=Lib.hid hwt;clear hwt
   have hlt:0<(x::t).length:=by simp
   by_cases hxk:x=(k:Int)
   ·have hxk':(x==(k:Int))=true:=beq_iff_eq.2 hxk
    repeat(first|refine Q1 zM ?_|refine Q1 zA ?_|refine Q1 (zi1 (j:=0) (hj:=hlt)) ?_|refine Q1 (zV 0 hc0) ?_|(refine Q1 (QG (l:=1) rfl rfl (by decide) rfl rfl rfl hlt) ?_;rw[hcut])|refine Q8 ?_|refine Q6 ?_|refine Q2 ?_|refine Qh ?_|refine Q5 rfl ?_|refine Ql ?_|refine Qe ?_|refine Qc ?_|refine Qf ?_|refine Q1 zL ?_|refine Q1 zea ?_|refine Q1 zgt ?_)
    refine Q9 (by exact .inr rfl) rfl (.tmp rfl) (fun w hw=>QB ?_ hw);refine((Q1o HF.out.bd (by rw[HLEN.out];exact hk)).2 ?_).symm;have:=HPP.out.sound x List.mem_cons_self;rw[hxk] at this
    simpa using this
   ·have hxk':(x==(k:Int))=false:=beq_eq_false_iff_ne.2 hxk
    have hs0:(XR seen)[0+x.toNat]? =some (.bool (seen.getD x.toNat false)):=by
     rw[Nat.zero_add];exact Vu (by rw[show seen.length=F.length from HPP.out.len,HLEN.out];omega)
    have HXK:=Lib.hid hxk;clear hxk;obtain⟨sx,hsx⟩:∃sx,seen.getD x.toNat false=sx:=⟨_,rfl⟩;rw[hsx] at hs0;have HSX:=Lib.hid hsx;clear hsx
    cases sx with
    |true=>
     repeat(first|refine Q1 zM ?_|refine Q1 zA ?_|refine Q1 (zi1 (j:=0) (hj:=hlt)) ?_|refine Q1 (zV 0 hc0) ?_|(refine Q1 (QG (l:=1) rfl rfl (by decide) rfl rfl rfl hlt) ?_;rw[hcut])|refine Q1 (Qo rfl rfl (by decide) rfl rfl rfl hx) ?_|refine Q1 (zK 1 hs0) ?_|refine Q8 ?_|refine Q6 ?_|refine Q2 ?_|refine Qh ?_|refine Q5 rfl ?_|refine Q3 rfl ?_|refine Qe ?_|refine Xx ?_|refine Q1 zL ?_|refine Q1 zea ?_|refine Q1 (Ja rfl rfl (by decide) rfl rfl rfl (by first|exact decide_eq_true (by omega)|rfl)) ?_|refine Q1 zO ?_)
     refine QA { seen:=seen,qs:=t,b:=b2,q:=q3,c:=c2 - 1,cur:=cur2 } [0,1,2] (by decide) (HPP.out.old rfl HSX.out hx.1 HWT.out) (by show 13*VB _ _+t.length<13*VB _ _+(t.length+1);exact Nat.lt_succ_self _) (.cons rfl rfl (.cons rfl rfl (.cons rfl rfl (.cons rfl rfl .nil)))) rfl
    |false=>
     obtain⟨rx,Ab',cb',An',cn',Ap',cp',hrx,hrgx,hlx⟩:=HFM.out.rl (i:=x.toNat) (by omega);have HRX:=Lib.hid hrx;have HLX:=Lib.hid hlx;have HOX:=Lib.hid (HF.out _ _ hrx);have h12:=Q3G HOX.out;have hsm:=HPP.out.small;have hul:=hsm;rw[HLEN.out] at hul;clear hrx hlx hsm
     have hqs:t.length≤13*n+12:=by
      have:(Cy.mk seen (x::t) b2 q2 c2 cur2).qs.length=t.length+1:=rfl
      omega
     clear hul
     repeat(first|refine Q1 zM ?_|refine Q1 zA ?_|refine Q1 zF ?_|refine Q1 (zB 2) ?_|refine Q1 (zD 0) ?_|refine Q1 (zD 1) ?_|refine Q1 zE ?_|refine Q1 (zi1 (j:=0) (hj:=hlt)) ?_|refine Q1 (zV 0 hc0) ?_|(refine Q1 (QG (l:=1) rfl rfl (by decide) rfl rfl rfl hlt) ?_;rw[hcut])|refine Q1 (Qo rfl rfl (by decide) rfl rfl rfl hx) ?_|refine Q1 (Qv rfl rfl (by decide) rfl rfl rfl hx) ?_|refine Q1 (zK 1 hs0) ?_|refine Qq (QI 1 rfl rfl rfl rfl rfl rfl (by omega)) rfl (fun _ _=>?_)|refine Qa (Qx _ _ _ (f:=54) rfl rfl rfl (fun w hw=>Q1Z (n:=F.length) HLX.out HOX.out hw)) rfl (by decide) (fun z hz=>?_)|refine Qa (Q1w (n:=t.length) 1 rfl rfl rfl rfl rfl HWT.out (fun w hw=>hw.own 0 _ rfl) (Qbq _) (by omega)) rfl (by decide) (fun y hy=>?_)|refine Q8 ?_|refine Q6 ?_|refine Q2 ?_|refine Qh ?_|refine Q5 rfl ?_|refine Q3 rfl ?_|refine Qe ?_|refine Xx ?_|refine Q1 zL ?_|refine Q1 zea ?_|refine Q1 (Ja rfl rfl (by decide) rfl rfl rfl (by first|exact decide_eq_true (by omega)|rfl)) ?_|refine Q1 zO ?_)
     obtain⟨b4,q4,c4,cur4⟩:=y
     have hnew:=HPP.out.new (b':=b4) (q':=q4) (c':=c4) (cur':=cur4) HF.out rfl HRX.out HSX.out HXK.out (by
      have h:Q2z q4 (t.length+(bl rx).length) c4 cur4 (iv t++iv (bl rx)):=hy;rw[List.length_append,Q8w]
      exact h)
     refine QA { seen:=seen.set x.toNat true,qs:=t++bl rx,b:=b4,q:=q4,c:=c4,cur:=cur4 } [1,2,3] (by decide) hnew.1 hnew.2 (.cons rfl rfl (.cons rfl rfl (.cons rfl rfl (.cons rfl (by rw[List.length_append]) .nil)))) ?_
     show [_,Qg.row _ _ _ _ _ ((XR seen).set (0+x.toNat) (.bool true)),_]=_
     rw[Nat.zero_add,YD]
     rfl
def VZ(n:Int):Int:=if 1001<n then 1001 else n
theorem Q13(n:Int)(w:World):Calls Tryz.prog 57 #[.int .i64 n] w fun e w'=>e=.returned (.int .i64 (VZ n))∧w=w':=by
 by_cases h:1001<n
 ·have he:=Lib.hid (show VZ n=1001 by unfold VZ;rw[if_pos h]);rw[he.out]
  go_enter Tryz.func57,Tryz.ntmps57
  go_wp2_with fail
  go_ret
  exact⟨rfl,rfl⟩
 ·have he:=Lib.hid (show VZ n=n by unfold VZ;rw[if_neg h]);rw[he.out]
  go_enter Tryz.func57,Tryz.ntmps57
  go_wp2_with fail
  go_ret
  exact⟨rfl,rfl⟩
def JV(k mn:Int):Int:=if k=2 then VZ mn else 0
theorem JY{a0 a2 a3 a4 a6 a7 a8 a9 a10 a11:Value}(k mn:Int)(w:World):
  Calls Tryz.prog 56 #[.agg #[a0,.int .i64 k,a2,a3,a4,.int .i64 mn,a6,a7,a8,a9,a10,a11]] w fun e w'=>e=.returned (.int .i64 (JV k mn))∧Below w.heap.size w w':=by
 by_cases h:k=2
 ·subst h
  go_enter Tryz.func56,Tryz.ntmps56
  go_wp2_with (go_at_call 57;refine(Q13 _ _).mono ?_;rintro e w' ⟨rfl,rfl⟩)
  go_ret
  exact⟨rfl,VV _ _⟩
 ·have hk:(k==2)=false:=by simpa using h
  have he:=Lib.hid (show JV k mn=0 by unfold JV;rw[if_neg h]);rw[he.out];clear h
  go_enter Tryz.func56,Tryz.ntmps56
  go_wp2_with fail
  go_ret
  exact⟨rfl,VV _ _⟩
def QeY(n:Nat)(o k:Value):Prop:=∃i:Nat,i≤n∧k=.int .i64 (i:Int)∧o=.int .i64 ((256:Int) ^ i)
theorem Qbi{i n:Nat}(hi:i<n)(hn:n≤4):IntKind.i64.wrap ((256:Int) ^ i*256)=(256:Int) ^ (i+1):=by
 rcases (show i=0∨i=1∨i=2∨i=3 by omega) with rfl|rfl|rfl|rfl<;>exact IntWalk.i64_in _ (by omega)
theorem Q6r(n:Nat)(hn:n≤4)(w:World):Calls Tryz.prog 55 #[.int .i64 (n:Int)] w fun e w'=>e=.returned (.int .i64 ((256:Int) ^ n))∧w=w':=by
 go_enter Tryz.func55,Tryz.ntmps55
 go_wp2_with fail
 go_loop [3,4] (QeY n) (fun _ k=>n - (intOf k).toNat)
 case atStart=>exact⟨0,Nat.zero_le _,rfl,rfl⟩
 case round=>
  obtain⟨i,hi,rfl,rfl⟩:=hrel
  by_cases hlt:i<n
  ·have hw:=Qbi hlt hn
   have hli:(i:Int)<(n:Int):=by omega
   obtain⟨P,hP⟩:∃P,(256:Int) ^ i=P:=⟨_,rfl⟩;obtain⟨P2,hP2⟩:∃P,(256:Int) ^ (i+1)=P:=⟨_,rfl⟩;rw[hP,hP2] at hw;rw[hP];have HP2:=Lib.hid hP2;clear hP hP2
   go_wp2_with fail
   go_round
   case rel=>exact⟨i+1,by omega,by go_num,by rw[HP2.out]⟩
   case measure=>simp [intOf];omega
  ·have he:=Lib.hid (show i=n by omega)
   go_wp2_with fail
   go_ret
   exact⟨by rw[← he.out];rfl,rfl⟩
def Jo(F:List Rl)(x:Int):Int:=match F[x.toNat]? with|some r=>r.mn|none=>0
theorem Q1x{F:List Rl}{x:Int}{r:Rl}(h:F[x.toNat]? =some r):Jo F x=r.mn:=by unfold Jo;rw[h]
def mk(out:List Bool)(x:Int):Bool:=out.getD x.toNat false
def JB(F:List Rl)(out:List Bool)(r:Rl):Bool:=
 if r.kind=10 then mk out r.count
 else if r.kind=6 then mk out r.count&&(Jo F r.count==0||mk out r.elem)
 else if r.kind=7 then !(r.parts.any fun k=>!(mk out k))
 else if r.kind=8 then r.parts.any fun k=>mk out k
 else true
def Z5(F:List Rl)(out:List Bool)(k:Nat):List Bool:=out.set k (out.getD k false||(match F[k]? with|some r=>JB F out r|none=>false))
def Zl(F:List Rl)(out:List Bool):List Bool:=(List.range F.length).foldl (Z5 F) out
def ZC(F:List Rl):List Bool:=iter (Zl F) F.length (List.replicate F.length false)
structure Q7Z(w:World)(g bs n:Nat)(out:List Bool):Prop where
 v:w.cell? ⟨g,0,none⟩=some (.slice (some ⟨bs,0,none⟩) n n)
 at_:∀j,j<n→w.cell? ⟨bs,0+j,none⟩=some (.bool (out.getD j false))
theorem Q7Z.on{w w':World}{g bs n:Nat}{out:List Bool}(h:Q7Z w g bs n out)(hb:Below w.heap.size w w'):Q7Z w' g bs n out:=
 ⟨(hb.cell (Q1t h.v)).trans h.v,fun j hj=>(hb.cell (Q1t (h.at_ j hj))).trans (h.at_ j hj)⟩
theorem Q3Y{W:World}{g bs n:Nat}{out:List Bool}{x:Int}(h:Q7Z W g bs n out)(hx:0≤x∧x<n):Calls Tryz.prog 94 #[.int .i64 x,.pointer (some ⟨g,0,none⟩)] W fun e w'=>e=.returned (.bool (mk out x))∧Below W.heap.size W w':=by
 have hv:=h.v;have hc:=h.at_ x.toNat (by omega);clear h
 go_enter Tryz.func94,Tryz.ntmps94
 refine QE (M:=[]) (W:=W) (N:=8) (E:=[(0,.int .i64 x),(1,.pointer (some ⟨g,0,none⟩))]) (O:=[]) ?_ (Ag.cons (Ag.cons (Ag.nil rfl rfl) rfl) rfl) (Wd.start [] W)
 repeat(first|refine Q1 zM ?_|refine Q1 zA ?_|refine Q1 zC ?_|refine Q1 (Qo rfl rfl (by decide) rfl rfl rfl hx) ?_|refine Q8 ?_|refine Q6 ?_|refine Q2 ?_|refine Ql ?_)
 exact Q9 (by exact .inr rfl) rfl (.tmp rfl) (fun w hw=>⟨rfl,hw.k.below⟩)
theorem QeG(a b:Value):(#[a]++#[b]:Array Value)=#[a,b]:=by simp
theorem Q6R(a b c:Value):(#[a]++#[b,c]:Array Value)=#[a,b,c]:=by simp
theorem KW{W:World}{g bs n:Nat}{out:List Bool}{x:Int}(h:Q7Z W g bs n out)(hx:0≤x∧x<n):Calls Tryz.prog 94 ([Value.int .i64 x].toArray++#[.pointer (some ⟨g,0,none⟩)]) W fun e w'=>e=.returned (.bool (mk out x))∧Below W.heap.size W w':=by
 rw[show ([Value.int .i64 x].toArray++#[.pointer (some ⟨g,0,none⟩)]:Array Value)=_ from QeG _ _];exact Q3Y h hx
theorem Q84{W:World}{h g bs n:Nat}{out:List Bool}{x:Int}(hh:W.cell? ⟨h,0,none⟩=some (.func (.func 94) #[] #[.pointer (some ⟨g,0,none⟩)]))(ho:Q7Z W g bs n out)(hx:0≤x∧x<n):Calls Tryz.prog 97 #[.int .i64 x,.pointer (some ⟨h,0,none⟩)] W fun e w'=>e=.returned (.bool (!(mk out x)))∧Below W.heap.size W w':=by
 have HO:=Lib.hid ho;clear ho
 go_enter Tryz.func97,Tryz.ntmps97
 refine QE (M:=[]) (W:=W) (N:=8) (E:=[(0,.int .i64 x),(1,.pointer (some ⟨h,0,none⟩))]) (O:=[]) ?_ (Ag.cons (Ag.cons (Ag.nil rfl rfl) rfl) rfl) (Wd.start [] W)
 repeat(first|refine Q1 zM ?_|refine Q1 zA ?_|refine Q1 zC ?_|refine Q1 (VH (f:=94) rfl rfl (by decide) rfl rfl rfl (fun w hw=>KW (HO.out.on hw.k.below) hx)) ?_|refine Q8 ?_|refine Q6 ?_|refine Q2 ?_|refine Ql ?_|refine Q1 zO ?_)
 exact Q9 (by exact .inr rfl) rfl (.tmp rfl) (fun w hw=>⟨rfl,hw.k.below⟩)
theorem Q7g:Q15 94:=fun args W=>by kernel_rfl
theorem Q5S:Q15 97:=fun args W=>by kernel_rfl
structure Q6h(w:World)(h g bs n:Nat)(out:List Bool)(gf:Nat)(A:Option Addr)(c:Nat):Prop where
 o:Q7Z w g bs n out
 h:w.cell? ⟨h,0,none⟩=some (.func (.func 94) #[] #[.pointer (some ⟨g,0,none⟩)])
 f:w.cell? ⟨gf,0,none⟩=some (.slice A n c)
set_option maxRecDepth 100000 in
set_option maxHeartbeats 4000000 in
theorem Qed{F:List Rl}{r:Rl}{A Ab An Ap:Option Addr}{h g bs n gf c cb cn cp:Nat}{out:List Bool}{W:World}(hv:Q6h W h g bs n out gf A c)(hf:Xq W W.heap.size A n F)(hl:RuL W r Ab cb An cn Ap cp)(hr:ROk n r)(hk:r.kind=10):
  Calls Tryz.prog 95 #[.agg (ruC r (.slice Ab r.bs.length cb) (.slice An r.names.length cn) (.slice Ap r.parts.length cp)).toArray,.pointer (some ⟨h,0,none⟩),.pointer (some ⟨gf,0,none⟩)] W fun e w'=>e=.returned (.bool (JB F out r))∧Below W.heap.size W w':=by
 have hh:=hv.h;have hff:=hv.f;have HO:=Lib.hid hv.o;have HL:=Lib.hid hl;have HR:=Lib.hid hr;have hp12:=hr.p12;have hcn:=hr.count (.inr hk);clear hv hl hr
 go_enter Tryz.func95,Tryz.ntmps95
 refine QE (M:=[]) (W:=W) (N:=48) (E:=[(0,.agg (ruC r (.slice Ab r.bs.length cb) (.slice An r.names.length cn) (.slice Ap r.parts.length cp)).toArray),(1,.pointer (some ⟨h,0,none⟩)),(2,.pointer (some ⟨gf,0,none⟩))]) (O:=[]) ?_ (Ag.cons (Ag.cons (Ag.cons (Ag.nil rfl rfl) rfl) rfl) rfl) (Wd.start [] W)
 repeat(first|refine Q1 zA ?_|refine Q1 zF ?_|refine Q1 (zB 0) ?_|refine Q1 zC ?_|refine yB fun br=>?_|refine Q1 (VH (f:=94) rfl rfl (by decide) rfl rfl rfl (fun w hw=>KW (HO.out.on hw.k.below) hcn)) ?_|refine Q8 ?_|refine Q6 ?_|refine Q2 ?_|refine Q5 rfl ?_|refine Ql ?_|refine Qe ?_|refine Qc ?_|refine Qf ?_|refine Q1 zet ?_)
 exact Q9 (by exact .inr rfl) rfl (.tmp rfl) (fun w hw=>⟨by rw[JB,if_pos hk],hw.k.below⟩)
set_option maxRecDepth 100000 in
set_option maxHeartbeats 4000000 in
theorem Qfh{F:List Rl}{r:Rl}{A Ab An Ap:Option Addr}{h g bs n gf c cb cn cp:Nat}{out:List Bool}{W:World}(hv:Q6h W h g bs n out gf A c)(hf:Xq W W.heap.size A n F)(hl:RuL W r Ab cb An cn Ap cp)(hr:ROk n r)(hk:r.kind=6):
  Calls Tryz.prog 95 #[.agg (ruC r (.slice Ab r.bs.length cb) (.slice An r.names.length cn) (.slice Ap r.parts.length cp)).toArray,.pointer (some ⟨h,0,none⟩),.pointer (some ⟨gf,0,none⟩)] W fun e w'=>e=.returned (.bool (JB F out r))∧Below W.heap.size W w':=by
 have hh:=hv.h;have hff:=hv.f;have HO:=Lib.hid hv.o;have HL:=Lib.hid hl;have HR:=Lib.hid hr;have hp12:=hr.p12;have hcn:=hr.count (.inl hk);have hen:=hr.elem (.inl hk);have hlen:=hf.1;obtain⟨b,o,rfl⟩:=hf.addr (by omega);obtain⟨rc,Ac,cc,Ad,cd,Ae,ce,hrc,hrg,_⟩:=hf.rl (i:=r.count.toNat) (by omega);have HM:=Lib.hid (Q1x hrc);clear hrc hf hlen;obtain⟨B,hB⟩:∃B,JB F out r=B:=⟨_,rfl⟩;have HB:=Lib.hid (show (mk out r.count&&(Jo F r.count==0||mk out r.elem))=B by rw[← hB,JB,if_neg (by omega),if_pos hk]);rw[hB];clear hB;obtain⟨h1,hh1⟩:∃x,mk out r.count=x:=⟨_,rfl⟩;obtain⟨h3,hh3⟩:∃x,mk out r.elem=x:=⟨_,rfl⟩;have H1:=Lib.hid hh1;have H3:=Lib.hid hh3;clear hh1 hh3;clear hv hl hr
 go_enter Tryz.func95,Tryz.ntmps95
 refine QE (M:=[]) (W:=W) (N:=48) (E:=[(0,.agg (ruC r (.slice Ab r.bs.length cb) (.slice An r.names.length cn) (.slice Ap r.parts.length cp)).toArray),(1,.pointer (some ⟨h,0,none⟩)),(2,.pointer (some ⟨gf,0,none⟩))]) (O:=[]) ?_ (Ag.cons (Ag.cons (Ag.cons (Ag.nil rfl rfl) rfl) rfl) rfl) (Wd.start [] W)
 cases h1 with
 |false=>
  repeat(first|refine Q1 zM ?_|refine Q1 zA ?_|refine Q1 zF ?_|refine Q1 zS ?_|refine Q1 (zB 0) ?_|refine Q1 zC ?_|refine yB fun br=>?_|refine Q1 (VH (v:=.bool false) (f:=94) rfl rfl (by decide) rfl rfl rfl (fun w hw=>(KW (HO.out.on hw.k.below) hcn).mono fun e w' hq=>⟨by rw[hq.1,H1.out],hq.2⟩)) ?_|refine Q8 ?_|refine Q6 ?_|refine Q2 ?_|refine Q5 rfl ?_|refine Q3 rfl ?_|refine Ql ?_|refine Qe ?_|refine Qc ?_|refine Qf ?_|refine Q1 zet ?_|refine Q1 zef ?_|refine Q1 zN ?_)
  exact Q9 (by exact .inr rfl) rfl (.tmp rfl) (fun w hw=>⟨by rw[← HB.out,H1.out];rfl,hw.k.below⟩)
 |true=>
  by_cases hm:rc.mn=0
  ·skip
   repeat(first|refine Q1 zM ?_|refine Q1 zA ?_|refine Q1 zF ?_|refine Q1 zS ?_|refine Q1 (zB 0) ?_|refine Q1 zC ?_|refine Q1 (zD 0) ?_|refine Q1 zE ?_|refine yB fun br=>?_|refine Q1 (Q4 (f:=34) rfl rfl (by decide) rfl rfl (fun w hw=>Yh w)) ?_|refine Q1 (VH (v:=.bool true) (f:=94) rfl rfl (by decide) rfl rfl rfl (fun w hw=>(KW (HO.out.on hw.k.below) hcn).mono fun e w' hq=>⟨by rw[hq.1,H1.out],hq.2⟩)) ?_|refine Q1 (Qv rfl rfl (by decide) rfl rfl rfl hcn) ?_|refine Q8 ?_|refine Q6 ?_|refine Q2 ?_|refine Q5 rfl ?_|refine Q3 rfl ?_|refine Ql ?_|refine Qe ?_|refine Qc ?_|refine Qf ?_|refine Q1 zet ?_|refine Q1 zef ?_|refine Q1 zY ?_)
   exact Q9 (by exact .inr rfl) rfl (.tmp rfl) (fun w hw=>⟨by rw[← HB.out,H1.out,HM.out,hm];rfl,hw.k.below⟩)
  ·skip
   repeat(first|refine Q1 zM ?_|refine Q1 zA ?_|refine Q1 zF ?_|refine Q1 (zB 0) ?_|refine Q1 zC ?_|refine Q1 (zD 0) ?_|refine Q1 zE ?_|refine yB fun br=>?_|refine Q1 (Q4 (f:=34) rfl rfl (by decide) rfl rfl (fun w hw=>Yh w)) ?_|refine Q1 (VH (v:=.bool true) (f:=94) rfl rfl (by decide) rfl rfl rfl (fun w hw=>(KW (HO.out.on hw.k.below) hcn).mono fun e w' hq=>⟨by rw[hq.1,H1.out],hq.2⟩)) ?_|refine Q1 (VH (v:=.bool h3) (f:=94) rfl rfl (by decide) rfl rfl rfl (fun w hw=>(KW (HO.out.on hw.k.below) hen).mono fun e w' hq=>⟨by rw[hq.1,H3.out],hq.2⟩)) ?_|refine Q1 (Qv rfl rfl (by decide) rfl rfl rfl hcn) ?_|refine Q8 ?_|refine Q6 ?_|refine Q2 ?_|refine Q5 rfl ?_|refine Q3 rfl ?_|refine Ql ?_|refine Qe ?_|refine Qc ?_|refine Qf ?_|refine Q1 zet ?_|refine Q1 zef ?_|refine Q1 zY ?_|refine Q1 zN ?_)
   exact Q9 (by exact .inr rfl) rfl (.tmp rfl) (fun w hw=>⟨by rw[← HB.out,H1.out,H3.out,HM.out];simp [hm],hw.k.below⟩)
set_option maxRecDepth 100000 in
set_option maxHeartbeats 4000000 in
theorem QeI{F:List Rl}{r:Rl}{A Ab An Ap:Option Addr}{h g bs n gf c cb cn cp:Nat}{out:List Bool}{W:World}(hv:Q6h W h g bs n out gf A c)(hf:Xq W W.heap.size A n F)(hl:RuL W r Ab cb An cn Ap cp)(hr:ROk n r)(hk:r.kind=7):
  Calls Tryz.prog 95 #[.agg (ruC r (.slice Ab r.bs.length cb) (.slice An r.names.length cn) (.slice Ap r.parts.length cp)).toArray,.pointer (some ⟨h,0,none⟩),.pointer (some ⟨gf,0,none⟩)] W fun e w'=>e=.returned (.bool (JB F out r))∧Below W.heap.size W w':=by
 have hh:=hv.h;have hff:=hv.f;have HO:=Lib.hid hv.o;have HL:=Lib.hid hl;have HR:=Lib.hid hr;have hp12:=hr.p12;have HP:=Lib.hid (hr.parts (.inl hk));clear hv hl hr
 go_enter Tryz.func95,Tryz.ntmps95
 refine QE (M:=[]) (W:=W) (N:=48) (E:=[(0,.agg (ruC r (.slice Ab r.bs.length cb) (.slice An r.names.length cn) (.slice Ap r.parts.length cp)).toArray),(1,.pointer (some ⟨h,0,none⟩)),(2,.pointer (some ⟨gf,0,none⟩))]) (O:=[]) ?_ (Ag.cons (Ag.cons (Ag.cons (Ag.nil rfl rfl) rfl) rfl) rfl) (Wd.start [] W)
 repeat(first|refine Q1 zA ?_|refine Q1 zF ?_|refine Q1 (zB 0) ?_|refine Q1 zC ?_|refine yB fun br=>?_|refine Q1 (Q4 (f:=96) rfl rfl (by decide) rfl rfl (fun w hw=>Jb (p:=fun k=>!(mk out k)) (HL.out.on hw.k.below).p (by omega) (fun x y hx=>Q84 (y.b.cell (Q1t (hw.k.below.cell (Q1t hh) |>.trans hh)) |>.trans (hw.k.below.cell (Q1t hh) |>.trans hh)) ((HO.out.on hw.k.below).on y.b) (HP.out x hx)) Q5S)) ?_|refine Q8 ?_|refine Q6 ?_|refine Q2 ?_|refine Q5 rfl ?_|refine Q3 rfl ?_|refine Ql ?_|refine Qe ?_|refine Qc ?_|refine Qf ?_|refine Q1 zet ?_|refine Q1 zef ?_|refine Q1 zO ?_|refine Q1 zu ?_)
 exact Q9 (by exact .inr rfl) rfl (.tmp rfl) (fun w hw=>⟨by rw[JB,if_neg (by omega),if_neg (by omega),if_pos hk],hw.k.below⟩)
set_option maxRecDepth 100000 in
set_option maxHeartbeats 4000000 in
theorem QeU{F:List Rl}{r:Rl}{A Ab An Ap:Option Addr}{h g bs n gf c cb cn cp:Nat}{out:List Bool}{W:World}(hv:Q6h W h g bs n out gf A c)(hf:Xq W W.heap.size A n F)(hl:RuL W r Ab cb An cn Ap cp)(hr:ROk n r)(hk:r.kind=8):
  Calls Tryz.prog 95 #[.agg (ruC r (.slice Ab r.bs.length cb) (.slice An r.names.length cn) (.slice Ap r.parts.length cp)).toArray,.pointer (some ⟨h,0,none⟩),.pointer (some ⟨gf,0,none⟩)] W fun e w'=>e=.returned (.bool (JB F out r))∧Below W.heap.size W w':=by
 have hh:=hv.h;have hff:=hv.f;have HO:=Lib.hid hv.o;have HL:=Lib.hid hl;have HR:=Lib.hid hr;have hp12:=hr.p12;have HP:=Lib.hid (hr.parts (.inr hk));clear hv hl hr
 go_enter Tryz.func95,Tryz.ntmps95
 refine QE (M:=[]) (W:=W) (N:=48) (E:=[(0,.agg (ruC r (.slice Ab r.bs.length cb) (.slice An r.names.length cn) (.slice Ap r.parts.length cp)).toArray),(1,.pointer (some ⟨h,0,none⟩)),(2,.pointer (some ⟨gf,0,none⟩))]) (O:=[]) ?_ (Ag.cons (Ag.cons (Ag.cons (Ag.nil rfl rfl) rfl) rfl) rfl) (Wd.start [] W)
 repeat(first|refine Q1 zA ?_|refine Q1 zF ?_|refine Q1 (zB 0) ?_|refine Q1 zC ?_|refine yB fun br=>?_|refine Q1 (Q4 (f:=96) rfl rfl (by decide) rfl rfl (fun w hw=>Jb (p:=fun k=>mk out k) (HL.out.on hw.k.below).p (by omega) (fun x y hx=>Q3Y ((HO.out.on hw.k.below).on y.b) (HP.out x hx)) Q7g)) ?_|refine Q8 ?_|refine Q6 ?_|refine Q2 ?_|refine Q5 rfl ?_|refine Q3 rfl ?_|refine Ql ?_|refine Qe ?_|refine Qc ?_|refine Qf ?_|refine Q1 zet ?_|refine Q1 zef ?_)
 exact Q9 (by exact .inr rfl) rfl (.tmp rfl) (fun w hw=>⟨by rw[JB,if_neg (by omega),if_neg (by omega),if_neg (by omega),if_pos hk],hw.k.below⟩)
set_option maxRecDepth 100000 in
set_option maxHeartbeats 4000000 in
theorem Qf2{F:List Rl}{r:Rl}{A Ab An Ap:Option Addr}{h g bs n gf c cb cn cp:Nat}{out:List Bool}{W:World}(hv:Q6h W h g bs n out gf A c)(hf:Xq W W.heap.size A n F)(hl:RuL W r Ab cb An cn Ap cp)(hr:ROk n r)(hk:r.kind≠10∧r.kind≠6∧r.kind≠7∧r.kind≠8):
  Calls Tryz.prog 95 #[.agg (ruC r (.slice Ab r.bs.length cb) (.slice An r.names.length cn) (.slice Ap r.parts.length cp)).toArray,.pointer (some ⟨h,0,none⟩),.pointer (some ⟨gf,0,none⟩)] W fun e w'=>e=.returned (.bool (JB F out r))∧Below W.heap.size W w':=by
 have hh:=hv.h;have hff:=hv.f;have HO:=Lib.hid hv.o;have HL:=Lib.hid hl;have HR:=Lib.hid hr;have hp12:=hr.p12;clear hv hl hr
 go_enter Tryz.func95,Tryz.ntmps95
 refine QE (M:=[]) (W:=W) (N:=48) (E:=[(0,.agg (ruC r (.slice Ab r.bs.length cb) (.slice An r.names.length cn) (.slice Ap r.parts.length cp)).toArray),(1,.pointer (some ⟨h,0,none⟩)),(2,.pointer (some ⟨gf,0,none⟩))]) (O:=[]) ?_ (Ag.cons (Ag.cons (Ag.cons (Ag.nil rfl rfl) rfl) rfl) rfl) (Wd.start [] W)
 repeat(first|refine Q1 zA ?_|refine Q1 zF ?_|refine Q1 (zB 0) ?_|refine Q1 zC ?_|refine yB fun br=>?_|refine Q8 ?_|refine Q6 ?_|refine Q2 ?_|refine Qh ?_|refine Q3 rfl ?_|refine Ql ?_|refine Qe ?_|refine Q1 zef ?_)
 exact Q9 (by exact .inr rfl) rfl (.tmp rfl) (fun w hw=>⟨by rw[JB,if_neg (by omega),if_neg (by omega),if_neg (by omega),if_neg (by omega)],hw.k.below⟩)
theorem Qaq{F:List Rl}{r:Rl}{A Ab An Ap:Option Addr}{h g bs n gf c cb cn cp:Nat}{out:List Bool}{W:World}(hv:Q6h W h g bs n out gf A c)(hf:Xq W W.heap.size A n F)(hl:RuL W r Ab cb An cn Ap cp)(hr:ROk n r):
  Calls Tryz.prog 95 #[.agg (ruC r (.slice Ab r.bs.length cb) (.slice An r.names.length cn) (.slice Ap r.parts.length cp)).toArray,.pointer (some ⟨h,0,none⟩),.pointer (some ⟨gf,0,none⟩)] W fun e w'=>e=.returned (.bool (JB F out r))∧Below W.heap.size W w':=by
 by_cases h10:r.kind=10
 ·exact Qed hv hf hl hr h10
 by_cases h6:r.kind=6
 ·exact Qfh hv hf hl hr h6
 by_cases h7:r.kind=7
 ·exact QeI hv hf hl hr h7
 by_cases h8:r.kind=8
 ·exact QeU hv hf hl hr h8
 exact Qf2 hv hf hl hr ⟨h10,h6,h7,h8⟩
theorem Q7.rfl_{M:List Nat}{W:World}{O:List Qg}:Q7 M W O O:=fun _ h=>h
theorem ZW{P:Program}{Q:Exit→Act→World→Prop}{N:Nat}{M:List Nat}{W:World}{E:Env}{O:List Qg}(T:List Nat){id:Nat}{l:List Oper}(hm:P.follows .mixedOrders=true)(h:dE P l.toArray Q N M W O T l.length (Array.replicate l.length false) E O):sE P Q N M W E O (.region id l.toArray true):=Zs O T hm h
theorem Q7w(F:List Rl)(out:List Bool)(k:Nat):(Z5 F out k).length=out.length:=by unfold Z5;rw[List.length_set]
theorem KD(F:List Rl):∀(l:List Nat) (out:List Bool),(l.foldl (Z5 F) out).length=out.length
 |[],_=>rfl
 |k::l,out=>by rw[List.foldl_cons,KD F l,Q7w]
theorem Q3B(F:List Rl)(out:List Bool)(k:Nat):(List.range (k+1)).foldl (Z5 F) out=Z5 F ((List.range k).foldl (Z5 F) out) k:=by
 rw[List.range_succ,List.foldl_append]
 rfl
def QeH(W:World)(l:List Bool)(e:Ending)(w':World):Prop:=∃b,e=.returned (.slice (some ⟨b,0,none⟩) l.length l.length)∧W.heap.size≤b∧Rd w' w'.heap.size 1 (some ⟨b,0,none⟩) l.length (XR l)∧Below W.heap.size W w'
theorem Qd8{M:List Nat}{W w:World}{O:List Qg}{h g bs n c gf:Nat}{A:Option Addr}{out:List Bool}(i1 i2 i3 i4:Nat)(hl:out.length=n)
  (h1:O[i1]? =some (.blk h (.cells [.func (.func 94) #[] #[.pointer (some ⟨g,0,none⟩)]].toArray 112 (0,0))))
  (h2:O[i2]? =some (.blk g (.cells [.slice (some ⟨bs,0,none⟩) n n].toArray 57 (0,0))))
  (h3:O[i3]? =some (.row (some ⟨bs,0,none⟩) n n 4 1 (XR out)))
  (h4:O[i4]? =some (.blk gf (.cells [.slice A n c].toArray 24 (0,0)))) (hw:Wd M W O w):Q6h w h g bs n out gf A c:=
 ⟨⟨hw.cell_blkL i2 h2 rfl,fun j hj=>by rw[Nat.zero_add];exact hw.cell_row i3 h3 (Vu (by omega))⟩,hw.cell_blkL i1 h1 rfl,hw.cell_blkL i4 h4 rfl⟩
theorem QcI{F:List Rl}{r:Rl}{A Ab An Ap:Option Addr}{h g bs n gf c cb cn cp:Nat}{out:List Bool}{W:World}(hv:Q6h W h g bs n out gf A c)(hf:Xq W W.heap.size A n F)(hl:RuL W r Ab cb An cn Ap cp)(hr:ROk n r):
  Calls Tryz.prog 95 ([Value.agg (ruC r (.slice Ab r.bs.length cb) (.slice An r.names.length cn) (.slice Ap r.parts.length cp)).toArray].toArray++#[.pointer (some ⟨h,0,none⟩),.pointer (some ⟨gf,0,none⟩)]) W fun e w'=>e=.returned (.bool (JB F out r))∧Below W.heap.size W w':=by
 rw[show ([Value.agg (ruC r (.slice Ab r.bs.length cb) (.slice An r.names.length cn) (.slice Ap r.parts.length cp)).toArray].toArray++#[.pointer (some ⟨h,0,none⟩),.pointer (some ⟨gf,0,none⟩)]:Array Value)=_ from Q6R _ _ _]
 exact Qaq hv hf hl hr
abbrev fnE(bf g h n c:Nat)(A:Option Addr)(t:Nat):Env:=[(1,.pointer (some ⟨bf,0,none⟩)),(3,.pointer (some ⟨g,0,none⟩)),(5,.func (.func 95) #[] #[.pointer (some ⟨h,0,none⟩),.pointer (some ⟨bf,0,none⟩)]),(16,.int .i64 (n:Int)),(17,.int .i64 (t:Int))]
abbrev fnO(bf g h bs n c:Nat)(A:Option Addr)(out:List Bool):List Qg:=[.blk h (.cells [.func (.func 94) #[] #[.pointer (some ⟨g,0,none⟩)]].toArray 112 (0,0)),.blk g (.cells [.slice (some ⟨bs,0,none⟩) n n].toArray 57 (0,0)),.row (some ⟨bs,0,none⟩) n n 4 1 (XR out),.blk bf (.cells [.slice A n c].toArray 24 (0,0))]
set_option maxRecDepth 100000 in
set_option maxHeartbeats 8000000 in
theorem Q5E{F:List Rl}{A:Option Addr}{n c:Nat}{W:World}(hf:Xq W W.heap.size A n F)(hF:FOk F)(hn:n≤40)(hn0:0<n):
  Calls Tryz.prog 62 #[.agg #[.slice A n c]] W (QeH W (ZC F)):=by
 have hlen:F.length=n:=hf.1
 obtain⟨b,o,rfl⟩:=hf.addr hn0
 have HFM:=Lib.hid hf
 have HF:=Lib.hid hF
 have HLEN:=Lib.hid hlen
 clear hf hF hlen
 go_enter Tryz.func62,Tryz.ntmps62
 refine QE (M:=[]) (W:=W) (N:=42) (E:=[(0,.agg #[.slice (some ⟨b,o,none⟩) n c])]) (O:=[]) ?_ (Ag.cons (Ag.nil rfl rfl) rfl) (Wd.start [] W)
 repeat(first|refine Q1 (QU rfl rfl (by decide) rfl rfl) ?_|refine Q1 (QJ rfl rfl (by decide) rfl rfl) ?_|refine Q1 (X1 rfl rfl (by decide) rfl rfl) ?_|refine Q1 (QL rfl rfl (by decide) rfl rfl (by first|exact fun w hw=>hw.cell_blkL 0 rfl rfl|exact fun w hw=>hw.cell_blkL 3 rfl rfl)) ?_|refine Qa (V6 rfl rfl rfl rfl) rfl (by decide) (fun bf _=>?_)|refine Qa (Q3R rfl rfl rfl rfl (by omega)) rfl (by decide) (fun bs _=>?_)|refine Qa (Xn (t:=57) rfl rfl) rfl (by decide) (fun g0 _=>?_)|refine Qa (Xn (t:=112) rfl rfl) rfl (by decide) (fun g1 _=>?_)|refine Qq (Zp 0 rfl rfl rfl rfl rfl rfl rfl) rfl (fun _ _=>?_)|refine Q8 ?_|refine Q6 ?_|refine Q2 ?_|refine Qe ?_|refine Q1 (Q49 rfl rfl (by decide) rfl rfl) ?_|refine Q1 (Q5P rfl rfl (by decide) rfl rfl) ?_)
 refine X0 (ι:=Nat) (fun t=>t≤n) (fun t=>n - t) (fun t=>fnE bf g0 g1 n c (some ⟨b,o,none⟩) t) (fun t=>fnO bf g0 g1 bs n c (some ⟨b,o,none⟩) (iter (Zl F) t (List.replicate n false))) 0 [0,1,2,3] (by decide) (Nat.zero_le _) (.cons rfl rfl (.cons rfl rfl (.cons rfl rfl (.cons rfl rfl (.cons rfl rfl .nil))))) (by show [_,_,Qg.row _ _ _ _ _ _,_]=_;rw[Q9k];rfl) ?_
 rintro t ht
 have hL0:(iter (Zl F) t (List.replicate n false)).length=n:=by
  have:∀t,(iter (Zl F) t (List.replicate n false)).length=n:=by
   intro t
   induction t with
   |zero=>exact List.length_replicate
   |succ t ih=>exact(KD F _ _).trans ih
  exact this t
 have HL0:=Lib.hid hL0
 clear hL0
 by_cases hlt:t<n
 ·skip
  repeat(first|refine Q1 (QU rfl rfl (by decide) rfl rfl) ?_|refine Q1 (X1 rfl rfl (by decide) rfl rfl) ?_|refine Q1 (QL rfl rfl (by decide) rfl rfl (by exact fun w hw=>hw.cell_blkL 3 rfl rfl)) ?_|refine Q8 ?_|refine Q6 ?_|refine Q2 ?_|refine Qh ?_|refine Q5 rfl ?_|refine Qe ?_|refine Q1 (Q49 rfl rfl (by decide) rfl rfl) ?_|refine Q1 (Xu rfl rfl (by decide) rfl rfl rfl (by exact decide_eq_true (by omega))) ?_)
  refine X0 (ι:=Nat) (fun k=>k≤n) (fun k=>n - k) (fun k=>(20,.slice (some ⟨b,o,none⟩) n c)::(21,.int .i64 (n:Int))::(22,.int .i64 (k:Int))::fnE bf g0 g1 n c (some ⟨b,o,none⟩) t) (fun k=>fnO bf g0 g1 bs n c (some ⟨b,o,none⟩) ((List.range k).foldl (Z5 F) (iter (Zl F) t (List.replicate n false)))) 0 [0,1,2,3] (by decide) (Nat.zero_le _) (.cons rfl rfl (.cons rfl rfl (.cons rfl rfl (.cons rfl rfl (.cons rfl rfl (.cons rfl rfl (.cons rfl rfl (.cons rfl rfl .nil)))))))) rfl ?_
  rintro k hk
  by_cases hkn:k<n
  ·obtain⟨rk,Ab,cb,An,cn,Ap,cp,hrk,hrg,hlk⟩:=HFM.out.rl hkn
   have HRK:=Lib.hid hrk
   have HLK:=Lib.hid hlk
   have HOK:=Lib.hid (show ROk n rk by have:=HF.out k rk hrk;rwa [HLEN.out] at this)
   obtain⟨out,hout⟩:∃out,(List.range k).foldl (Z5 F) (iter (Zl F) t (List.replicate n false))=out:=⟨_,rfl⟩
   have hol:out.length=n:=by rw[← hout,KD,HL0.out]
   have HOUT:=Lib.hid hout
   show sE _ _ _ _ _ _ (fnO bf g0 g1 bs n c (some ⟨b,o,none⟩) ((List.range k).foldl (Z5 F) (iter (Zl F) t (List.replicate n false)))) _
   rw[hout]
   clear hout hrk hlk
   obtain⟨ok,hok⟩:∃x,out.getD k false=x:=⟨_,rfl⟩
   have hcell:(XR out)[0+k]? =some (.bool ok):=by rw[Nat.zero_add,Vu (by omega),hok]
   have HK:=Lib.hid hok
   clear hok
   cases ok with
   |true=>
    repeat(first|refine Q1 (QU rfl rfl (by decide) rfl rfl) ?_|refine Q1 (QJ rfl rfl (by decide) rfl rfl) ?_|refine Q1 (X8 rfl rfl (by decide) rfl rfl (by first|exact fun w hw=>hw.range_blk 0 rfl|exact fun w hw=>hw.range_old (by assumption) (by simp)) (by rfl)) ?_|refine Q1 (Zy rfl rfl (by decide) rfl rfl rfl hkn) ?_|refine Qa (Xn (t:=52) rfl rfl) rfl (by decide) (fun b7 _=>?_)|(refine Qq (Qs 0 rfl rfl rfl rfl rfl rfl rfl (by simp)) rfl (fun _ _=>?_);rw[Qw (by rfl)])|refine Q8 ?_|refine Q6 ?_|refine Q2 ?_|refine Qh ?_|refine Q5 rfl ?_|refine Qe ?_|refine Q1 (Xu rfl rfl (by decide) rfl rfl rfl (by exact decide_eq_true (by omega))) ?_)
    refine ZW [12] (by kernel_rfl) ?_
    refine Qk 0 rfl (by kernel_rfl) (Q7.rfl_) (QL rfl rfl (by decide) rfl rfl (by exact fun w hw=>hw.cell_blkL 2 rfl rfl)) ?_
    refine Qk 1 rfl (by kernel_rfl) (Q7.rfl_) (QU rfl rfl (by decide) rfl rfl) ?_
    refine Qk 2 rfl (by kernel_rfl) (Q7.rfl_) (QL rfl rfl (by decide) rfl rfl (by exact fun w hw=>hw.cell_blkL 2 rfl rfl)) ?_
    refine Qk 3 rfl (by kernel_rfl) (Q7.rfl_) (QU rfl rfl (by decide) rfl rfl) ?_
    refine Qk 4 rfl (by kernel_rfl) (Q7.rfl_) (QV rfl rfl (by decide) rfl rfl rfl hkn) ?_
    refine Qk 5 rfl (by kernel_rfl) (Q7.rfl_) (QL rfl rfl (by decide) rfl rfl (fun w hw=>hw.cell_row 3 rfl hcell)) ?_
    refine Qk 6 rfl (by kernel_rfl) (Q7.rfl_) (QU rfl rfl (by decide) rfl rfl) ?_
    refine Qk 7 rfl (by kernel_rfl) (Q7.rfl_) (KV rfl (by decide) rfl) ?_
    refine Qk 8 rfl (by kernel_rfl) (Q7.rfl_) (KV rfl (by decide) rfl) ?_
    refine Qk 9 rfl (by kernel_rfl) (Q7.rfl_) (KV rfl (by decide) rfl) ?_
    refine Qk 10 rfl (by kernel_rfl) (Q7.rfl_) (V8 rfl rfl (by decide) rfl rfl rfl) ?_
    refine Qk 11 rfl (by kernel_rfl) (Q7.rfl_) (QV rfl rfl (by decide) rfl rfl rfl hkn) ?_
    refine Xw 12 (by kernel_rfl) rfl rfl (QI 3 rfl rfl rfl rfl rfl rfl (by omega)) (fun _=>.inl (by decide)) rfl (fun _ _=>?_)
    refine Zc ?_ (by kernel_rfl)
    repeat(first|refine Q1 (QU rfl rfl (by decide) rfl rfl) ?_|refine Q8 ?_|refine Q2 ?_|refine Q1 (Q0o (k:=.i64) rfl rfl (by decide) rfl rfl rfl (IntWalk.i64_in _ (by omega))) ?_)
    refine QA (k+1) [1,2,3,4] (by decide) hkn (by omega) (.cons rfl rfl (.cons rfl rfl (.cons rfl (by go_num) (.cons rfl rfl (.cons rfl rfl (.cons rfl rfl (.cons rfl rfl (.cons rfl rfl .nil)))))))) ?_
    show [_,_,Qg.row _ _ _ _ _ ((XR out).set (0+k) (.bool true)),_]=fnO bf g0 g1 bs n c (some ⟨b,o,none⟩) _
    rw[Q3B,HOUT.out,Nat.zero_add,YD]
    unfold Z5
    rw[HRK.out,HK.out]
    rfl
   |false=>
    repeat(first|refine Q1 (QU rfl rfl (by decide) rfl rfl) ?_|refine Q1 (QJ rfl rfl (by decide) rfl rfl) ?_|refine Q1 (X8 rfl rfl (by decide) rfl rfl (by first|exact fun w hw=>hw.range_blk 0 rfl|exact fun w hw=>hw.range_old (by assumption) (by simp)) (by rfl)) ?_|refine Q1 (Zy rfl rfl (by decide) rfl rfl rfl hkn) ?_|refine Qa (Xn (t:=52) rfl rfl) rfl (by decide) (fun b7 _=>?_)|(refine Qq (Qs 0 rfl rfl rfl rfl rfl rfl rfl (by simp)) rfl (fun _ _=>?_);rw[Qw (by rfl)])|refine Q8 ?_|refine Q6 ?_|refine Q2 ?_|refine Qh ?_|refine Q5 rfl ?_|refine Qe ?_|refine Q1 (Xu rfl rfl (by decide) rfl rfl rfl (by exact decide_eq_true (by omega))) ?_)
    refine ZW [12] (by kernel_rfl) ?_
    refine Qk 0 rfl (by kernel_rfl) (Q7.rfl_) (QL rfl rfl (by decide) rfl rfl (by exact fun w hw=>hw.cell_blkL 2 rfl rfl)) ?_
    refine Qk 1 rfl (by kernel_rfl) (Q7.rfl_) (QU rfl rfl (by decide) rfl rfl) ?_
    refine Qk 2 rfl (by kernel_rfl) (Q7.rfl_) (QL rfl rfl (by decide) rfl rfl (by exact fun w hw=>hw.cell_blkL 2 rfl rfl)) ?_
    refine Qk 3 rfl (by kernel_rfl) (Q7.rfl_) (QU rfl rfl (by decide) rfl rfl) ?_
    refine Qk 4 rfl (by kernel_rfl) (Q7.rfl_) (QV rfl rfl (by decide) rfl rfl rfl hkn) ?_
    refine Qk 5 rfl (by kernel_rfl) (Q7.rfl_) (QL rfl rfl (by decide) rfl rfl (fun w hw=>hw.cell_row 3 rfl hcell)) ?_
    refine Qk 6 rfl (by kernel_rfl) (Q7.rfl_) (QU rfl rfl (by decide) rfl rfl) ?_
    refine Qk 7 rfl (by kernel_rfl) (Q7.rfl_) (QU rfl rfl (by decide) rfl rfl) ?_
    refine Qk 8 rfl (by kernel_rfl) (Q7.rfl_) (X8 rfl rfl (by decide) rfl rfl (by exact fun w hw=>hw.range_blk 0 rfl) (by rfl)) ?_
    refine Qk 9 rfl (by kernel_rfl) (Q7.rfl_) (VH (f:=95) rfl rfl (by decide) rfl rfl rfl (fun w hw=>QcI (Qd8 1 2 3 4 hol rfl rfl rfl rfl hw) (HFM.out.on hw.k.below) (HLK.out.on hw.k.below) HOK.out)) ?_
    refine Qk 10 rfl (by kernel_rfl) (Q7.rfl_) (VU rfl rfl (by decide) rfl rfl rfl) ?_
    refine Qk 11 rfl (by kernel_rfl) (Q7.rfl_) (QV rfl rfl (by decide) rfl rfl rfl hkn) ?_
    refine Xw 12 (by kernel_rfl) rfl rfl (QI 3 rfl rfl rfl rfl rfl rfl (by omega)) (fun _=>.inl (by decide)) rfl (fun _ _=>?_)
    refine Zc ?_ (by kernel_rfl)
    repeat(first|refine Q1 (QU rfl rfl (by decide) rfl rfl) ?_|refine Q8 ?_|refine Q2 ?_|refine Q1 (Q0o (k:=.i64) rfl rfl (by decide) rfl rfl rfl (IntWalk.i64_in _ (by omega))) ?_)
    refine QA (k+1) [1,2,3,4] (by decide) hkn (by omega) (.cons rfl rfl (.cons rfl rfl (.cons rfl (by go_num) (.cons rfl rfl (.cons rfl rfl (.cons rfl rfl (.cons rfl rfl (.cons rfl rfl .nil)))))))) ?_
    show [_,_,Qg.row _ _ _ _ _ ((XR out).set (0+k) (.bool (JB F out rk))),_]=fnO bf g0 g1 bs n c (some ⟨b,o,none⟩) _
    rw[Q3B,HOUT.out,Nat.zero_add,YD]
    unfold Z5
    rw[HRK.out,HK.out]
    rfl
  ·skip
   repeat(first|refine Q1 (QU rfl rfl (by decide) rfl rfl) ?_|refine Q8 ?_|refine Q6 ?_|refine Q2 ?_|refine Q3 rfl ?_|refine QX ?_|refine Q1 (Xu rfl rfl (by decide) rfl rfl rfl (by first|exact decide_eq_false (by omega)|rfl)) ?_|refine Q1 (Q0o (k:=.i64) rfl rfl (by decide) rfl rfl rfl (IntWalk.i64_in _ (by omega))) ?_)
   refine QA (t+1) [0,1,2,3] (by decide) hlt (by omega) (.cons rfl rfl (.cons rfl rfl (.cons rfl rfl (.cons rfl rfl (.cons rfl (by go_num) .nil))))) ?_
   have hkk:k=F.length:=by rw[HLEN.out];omega
   subst hkk
   rfl
 ·skip
  repeat(first|refine Q1 (QJ rfl rfl (by decide) rfl rfl) ?_|refine Q1 (QL rfl rfl (by decide) rfl rfl (by exact fun w hw=>hw.cell_blkL 1 rfl rfl)) ?_|refine Q8 ?_|refine Q6 ?_|refine Q2 ?_|refine Q3 rfl ?_|refine QX ?_|refine Ql ?_|refine Q1 (Xu rfl rfl (by decide) rfl rfl rfl (by exact decide_eq_false (by omega))) ?_)
  have htn:t=F.length:=by rw[HLEN.out];omega
  refine Q9 (by exact .inr rfl) rfl (.tmp rfl) (fun w hw=>?_)
  have hfl:iter (Zl F) t (List.replicate n false)=ZC F:=by unfold ZC;rw[htn,HLEN.out]
  have hln:(ZC F).length=n:=by rw[← hfl];exact HL0.out
  refine⟨bs,by rw[hln],?_,⟨by rw[hln];simp [XR,hln],fun _=>⟨bs,0,rfl,?_,fun j u hu=>?_⟩⟩,hw.k.below⟩
  ·rcases Nat.lt_or_ge bs W.heap.size with h|h
   ·have:=hw.new 2 _ bs rfl rfl h
    simp [Qg.w] at this
   ·exact h
  ·exact(hw.own 2 _ rfl).lt rfl
  ·rw[Nat.zero_add]
   refine hw.cell_row 2 rfl ?_
   rw[hfl]
   exact hu
def X2(st:Nat→Bool):List Value:=(List.range 256).map fun j=>.bool (st j)
theorem Qn(st:Nat→Bool):(X2 st).length=256:=by simp [X2]
theorem ZN(st:Nat→Bool){j:Nat}(h:j<256):(X2 st)[j]? =some (.bool (st j)):=by
 simp [X2,List.getElem?_map,List.getElem?_range h]
theorem Y2(st:Nat→Bool)(j:Nat)(v:Bool):(X2 st).set j (.bool v)=X2 (fun i=>if i=j then v else st i):=by
 refine List.ext_getElem? fun i=>?_
 rw[List.getElem?_set]
 by_cases hi:i<256
 ·rw[ZN _ hi,Qn]
  by_cases hj:j=i
  ·subst hj;rw[if_pos rfl,if_pos hi,ZN _ hi,if_pos rfl]
  ·rw[if_neg hj,ZN _ hi]
   have:¬i=j:=fun e=>hj e.symm
   simp [this]
 ·have h1:(X2 st)[i]? =none:=List.getElem?_eq_none (by rw[Qn];omega);have h2:(X2 (fun i=>if i=j then v else st i))[i]? =none:=List.getElem?_eq_none (by rw[Qn];omega);rw[h1,h2,Qn]
  split
  ·rw[if_neg (by omega)]
  ·rfl
def J4(st:Nat→Bool)(lo hi:Int):Nat→Bool:=fun j=>st j||decide (lo+((j:Int) - lo) % 256≤hi)
theorem Jm{s t:Nat→Bool}(h:∀j,j<256→s j=t j):X2 s=X2 t:=by
 unfold X2
 exact List.map_congr_left fun j hj=>by rw[h j (List.mem_range.1 hj)]
theorem Q9M(st:Nat→Bool)(lo c:Int)(h:lo≤c)(h0:0≤lo):(X2 (J4 st lo (c - 1))).set (c % 256).toNat (.bool true)=X2 (J4 st lo c):=by
 rw[Y2]
 refine Jm fun j hj=>?_
 unfold J4
 by_cases he:j=(c % 256).toNat
 ·rw[if_pos he,decide_eq_true (by omega),Bool.or_true]
 ·rw[if_neg he]
  congr 1
  rw[decide_eq_decide]
  omega
theorem Q9W(st:Nat→Bool)(lo:Int):X2 (J4 st lo (lo - 1))=X2 st:=
 Jm fun j hj=>by
  unfold J4
  rw[decide_eq_false (by omega),Bool.or_false]
theorem Qc1(st:Nat→Bool)(lo hi:Int)(h:hi<lo):X2 (J4 st lo (lo - 1))=X2 (J4 st lo hi):=
 Jm fun j hj=>by
  unfold J4
  rw[decide_eq_false (by omega),decide_eq_false (by omega)]
theorem Qen(c:Int)(h:0≤c)(w:World):(Op.intDiv .rem .i64 c 256).run Tryz.prog w=.ok (.int .i64 (((c % 256).toNat:Nat):Int)) w:=by
 have e:(((c % 256).toNat:Nat):Int)=c % 256:=by omega
 rw[e]
 simp [Op.intDiv,go_sem]
 exact IntWalk.rem_in c 256 h
set_option maxRecDepth 100000 in
theorem Q8E{st:Nat→Bool}{b:Nat}{lo hi:Int}{W:World}(hb:W.heap[b]? =some (.cells (X2 st).toArray 63 (0,0)))(h0:0≤lo)(h1:hi≤1099511627776)(h2:lo≤1099511627776):
  Calls Tryz.prog 89 #[.int .i64 lo,.int .i64 hi,.pointer (some ⟨b,0,none⟩)] W fun e w'=>e=.returned (.tuple #[])∧w'.heap[b]? =some (.cells (X2 (J4 st lo hi)).toArray 63 (0,0))∧KK [b] W w':=by
 go_enter Tryz.func89,Tryz.ntmps89
 refine QE (M:=[b]) (W:=W) (N:=15) (E:=[(0,.int .i64 lo),(1,.int .i64 hi),(2,.pointer (some ⟨b,0,none⟩))]) (O:=[.blk b (.cells (X2 st).toArray 63 (0,0))]) ?_ (Ag.cons (Ag.cons (Ag.cons (Ag.nil rfl rfl) rfl) rfl) rfl) ((Wd.start [b] W).add hb (fun b' h _=>by cases h;exact List.mem_singleton.2 rfl) (fun i x b' h=>by cases h))
 repeat(first|refine Q8 ?_|refine Q6 ?_|refine Q2 ?_|refine Qe ?_|refine Q1 zM ?_|refine Q1 zA ?_)
 refine X0 (ι:=Int) (fun c=>lo≤c∧(c≤hi+1∨c=lo)) (fun c=>(hi+1 - c).toNat) (fun c=>[(5,.int .i64 c),(1,.int .i64 hi),(2,.pointer (some ⟨b,0,none⟩))]) (fun c=>[.blk b (.cells (X2 (J4 st lo (c - 1))).toArray 63 (0,0))]) lo [0] (by decide) ⟨by omega,by omega⟩ (.cons rfl rfl (.cons rfl rfl (.cons rfl rfl .nil))) (by rw[Q9W];rfl) ?_
 rintro c ⟨h3,h4⟩
 by_cases hc:c≤hi
 ·skip
  repeat(first|(refine Q1 (YU (v:=.int .i64 (((c % 256).toNat:Nat):Int)) rfl rfl (by decide) rfl rfl rfl (fun w=>by rw[binOp_rem];exact Qen c (by omega) w)) ?_)|refine Q1 (XY (j:=(c % 256).toNat) rfl rfl (by decide) rfl rfl rfl (by omega)) ?_|refine Qq (Zp 0 rfl rfl rfl rfl rfl rfl (ZN _ (show 0+(c % 256).toNat*1<256 by omega))) rfl (fun _ _=>?_)|refine Q8 ?_|refine Q6 ?_|refine Q2 ?_|refine Qh ?_|refine Q5 rfl ?_|refine Qe ?_|refine Q1 zM ?_|refine Q1 zA ?_|refine Q1 (Q4H (b:=true) rfl rfl (by decide) rfl rfl rfl (decide_eq_true (by omega))) ?_|refine Q1 zP ?_)
  refine QA (c+1) [0] (by decide) ⟨by omega,by omega⟩ (by omega) (.cons rfl rfl (.cons rfl rfl (.cons rfl rfl .nil))) ?_
  show [Qg.blk b (.cells ((X2 (J4 st lo (c - 1))).set (0+(c % 256).toNat*1) (.bool true)).toArray 63 (0,0))]=_
  rw[Nat.zero_add,Nat.mul_one,Q9M st lo c h3 h0,Int.add_sub_cancel]
 ·skip
  repeat(first|refine Q8 ?_|refine Q6 ?_|refine Q2 ?_|refine Q3 rfl ?_|refine QX ?_|refine KQ ?_|refine KT ?_|refine Q1 zM ?_|refine Q1 (Q4H (b:=false) rfl rfl (by decide) rfl rfl rfl (decide_eq_false (by omega))) ?_)
  refine Q0V (.inl rfl) rfl (fun w hw=>⟨rfl,?_,hw.k⟩);have h:w.heap[b]? =some (.cells (X2 (J4 st lo (c - 1))).toArray 63 (0,0)):=hw.own 0 _ rfl;rw[h]
  congr 3
  by_cases hcl:c=hi+1
  ·rw[hcl,Int.add_sub_cancel]
  ·obtain rfl:c=lo:=by omega
   rw[Qc1 st c hi (by omega)]
end Go.Proofs.YtgdiadednlajgaaGreatDoor
