import Derived.Test.YtphkhfdmlcnoeaaGreatDoorP30
import Derived.Test.YtphkhfdmlcnoeaaGreatDoorP20
namespace Go.Proofs.YtphkhfdmlcnoeaaGreatDoor
set_option linter.unusedVariables false
set_option linter.unusedSimpArgs false
open Go.RowKit
theorem Q1Y{z:Rv}{B g:Nat}{F:List Rl}{D:List UInt8}(hv:Fm F):∀f,IHv z B g F D f
 |0=>fun W k p hk h hs=>by
  obtain⟨y,hy⟩:=hs
  cases hy
 |f+1=>fun W k p hk h hs=>by
  have ih:=Q1Y (z:=z) (B:=B) (g:=g) (D:=D) hv f;have hr:=(hv.toUsd.rok hk).kind
  by_cases h6:(Qd F k).kind=6
  ·exact QdG hv f ih hs hk h h6
  by_cases h7:(Qd F k).kind=7
  ·exact Qds hv f ih hs hk h h7
  by_cases h8:(Qd F k).kind=8
  ·exact QdN hv f ih hs hk h h8
  by_cases h9:(Qd F k).kind=9
  ·exact Qdp hv f ih hs hk h h9
  by_cases h10:(Qd F k).kind=10
  ·exact QaV hv f hk h h10
  exact Q7M hv f hk h (by omega)
structure Fs where
 xs:List Value
 Ar:Option Addr
 c:Nat
 L:List Qc
 i:Nat
def QfC(F:List Rl)(y:Fs):Prop:=∀k,k<y.i→∃Ak ck,y.xs[k]? =some (.slice Ak (JH F k).length ck)∧Qc.rd Ak (JH F k).length 1 (iv (JH F k))∈y.L∧(JH F k).length≤ck
theorem Qek{M:List Nat}{W w w':World}{O:List Qc}{e:Ending}{l:List Int}(hw:Wd M W O w)(h:Qc8 w l (0,0) e w'):XR (fun y:Option Addr×Nat=>.tuple #[.slice y.1 l.length y.2,.agg #[.int .i64 0,.int .i64 0]]) (fun y=>l.length≤y.2∧Q04 [.rd y.1 l.length 1 (iv l)] W.heap.size) M W (fun y=>O++[.rd y.1 l.length 1 (iv l)]) e w':=by
 obtain⟨A,c,he,hon,hf,hc,hb⟩:=h;have hn:=Vl hon hf;exact⟨(A,c),he,⟨hc,fun x hx=>⟨hn.rd x hx,fun b hb'=>Nat.le_trans hw.k.size (hn.far x hx b hb')⟩⟩,hw.made hb hn⟩
theorem QaB{F:List Rl}{k:Int}(h:QL F=(0,0))(hk:0≤k∧k<F.length):Q2m F k=(0,0)∧Q0p F k=JH F k:=by
 have e:Q2m F k=(0,0):=by
  unfold Q2m
  rw[if_neg (by simp [h]),if_pos (Xr.2 (by omega))]
 exact⟨e,by unfold Q0p;rw[if_pos e]⟩
structure FsL(F:List Rl)(n:Nat)(As:Option Addr)(xs:List Value)(L:List Qc):Prop where
 tab:Qc.rd As n 1 xs∈L
 row:∀k,k<n→∃Ak ck,xs[k]? =some (.slice Ak (JH F k).length ck)∧Qc.rd Ak (JH F k).length 1 (iv (JH F k))∈L∧(JH F k).length≤ck
theorem Rd.less{w:World}{B B' s n:Nat}{A:Option Addr}{xs:List Value}(h:Rd w B s A n xs)(hf:∀q,(Qc.rd A n s xs).foot=some q→q<B'):Rd w B' s A n xs:=by
 refine⟨h.1,fun h0=>?_⟩;obtain⟨b,o,e,hb,hc⟩:=h.2 h0;subst e;exact⟨b,o,rfl,hf b (by simp only[Qc.foot];rw[if_neg (by omega)];rfl),hc⟩
theorem FsL.fr{F:List Rl}{n:Nat}{As:Option Addr}{xs:List Value}{L:List Qc}(h:FsL F n As xs L){w:World}{B:Nat}(hw:∀x∈L,x.on w)(hB:∀x∈L,∀q,x.foot=some q→q<B)(h0:0<n):Q5V w B F As n:=by
 obtain⟨b,o,e,hb,hcc⟩:=(Rd.less (B':=B) (hw _ h.tab) (hB _ h.tab)).2 h0;refine⟨b,o,e,hb,fun k hk=>?_⟩;obtain⟨Ak,ck,h1,h2,h3⟩:=h.row k hk;exact⟨Ak,ck,hcc k _ h1,Rd.less (hw _ h2) (hB _ h2),h3⟩
def FsR(F:List Rl)(n:Nat)(W:World)(e:Ending)(w':World):Prop:=∃As cs xs L,e=.returned (.slice As n cs)∧n≤cs∧FsL F n As xs L∧New L W.heap.size w'∧Below W.heap.size W w'
set_option maxRecDepth 100000 in
set_option maxHeartbeats 16000000 in
theorem Q3I{F:List Rl}{A:Option Addr}{n c:Nat}{W:World}(hf:Xm W W.heap.size A n F)(hs:FSm F)(hc:n≤c)(hg:GV W)(hz:QL F=(0,0))(h0:0<n):
  Calls Tryz.prog 31 #[.agg #[.slice A n c]] W (FsR F n W):=by
 have hlen:F.length=n:=hf.1
 have hsz:n≤1048576:=by rw[← hlen];exact hs.1
 have HF:=Lib.hid hf;have HS:=Lib.hid hs;have HG:=Lib.hid hg;have HZ:=Lib.hid hz;clear hf hs hg hz
 go_enter Tryz.func31,Tryz.ntmps31
 refine QE (M:=[]) (W:=W) (N:=25) (E:=[(0,.agg #[.slice A n c])]) (O:=[]) ?_ (Ag.cons (Ag.nil rfl rfl) rfl) (Wd.start [] W);refine yq<|yr ?_;refine yB fun b1=>?_;refine yo zA<|yl<|yn<|yq<|yr<|yo zA<|yl<|yn<|yq<|yq<|yr<|yo zF<|yo (zB 0)<|yo zL<|yo zM<|yl<|yn<|yb ?_;refine Z8 (ι:=Fs) (fun y=>y.xs.length=y.i∧y.i≤n∧QfC F y∧Q04 y.L W.heap.size) (fun y=>n - y.i) (fun y=>[(1,.pointer (some ⟨b1,0,none⟩)),(3,.slice y.Ar y.i y.c),(9,.int .i64 (n:Int)),(10,.int .i64 (y.i:Int))]) (fun y=>.row y.Ar y.i y.c 48 1 y.xs::.blk b1 (.cells ([.slice A n c]:List Value).toArray 24 (0,0))::y.L) ⟨[],none,0,[],0⟩ ⟨rfl,Nat.zero_le _,fun k hk=>absurd hk (Nat.not_lt_zero k),.nil _⟩ (.cons rfl rfl (.cons rfl rfl (.cons rfl rfl (.cons rfl rfl .nil)))) (fun w hw=>hw.row _ _) ?_
 rintro⟨xs,Ar,cr,L,i⟩ ⟨hxi,hi,hall,hfar⟩
 replace hxi:xs.length=i:=hxi
 replace hi:i≤n:=hi
 have HA:=Lib.hid hall;have HFA:=Lib.hid hfar;clear hall hfar
 show sE _ _ _ _ _ [(1,.pointer (some ⟨b1,0,none⟩)),(3,.slice Ar i cr),(9,.int .i64 (n:Int)),(10,.int .i64 (i:Int))] (.row Ar i cr 48 1 xs::.blk b1 (.cells ([.slice A n c]:List Value).toArray 24 (0,0))::L) _
 by_cases hlt:i<n
 case neg=>
  have hin:i=n:=by omega
  subst hin;refine yq<|yr<|yo zlf<|yl<|yn<|yq<|y0<|ye<|yn<|yq<|yr<|yo zM<|yo zA<|yl<|yn<|yt ?_;refine Q7 (by exact .inr rfl) rfl (.tmp rfl) (fun w hw=>⟨Ar,cr,xs,.rd Ar i 1 xs::L,rfl,(Jt 0 hw rfl).1,⟨List.mem_cons_self,fun k hk=>?_⟩,?_,hw.k.below⟩)
  ·obtain⟨Ak,ck,h1,h2,h3⟩:=HA.out k hk;exact⟨Ak,ck,h1,List.mem_cons_of_mem _ h2,h3⟩
  ·have hr:Rd w w.heap.size 1 Ar i xs:=Rd.of_own (hw.own 0 _ rfl)
   exact(Vl hr fun b hb=>by
    rcases Nat.lt_or_ge b W.heap.size with hl|hl
    ·have h1:b∈[]:=hw.new 0 _ b rfl (Q15 (hw.own 0 _ rfl) hb) hl
     cases h1
    ·exact hl).app (HFA.out.new fun x hx=>hw.onAll x (by simp [hx]))
 case pos=>
  have hck:=QaB HZ.out (k:=(i:Int)) (by omega);refine yq<|yr<|yo zlt<|yl<|yn<|yq<|y1<|ys<|yn<|yq<|yb<|yq<|yr<|yo zM<|yo zA<|yl<|yn<|yq<|yr<|yo (zD 1)<|yo zM ?_;refine Qo (QM _ _ _ rfl rfl rfl (fun w hw=>(Q57 (HF.out.on hw.k.below) HS.out hc (HG.out.on hw.k.below)).mono (fun e w' h=>by rw[hck.1,hck.2] at h;exact Qek hw h))) rfl (by decide) (fun y hy=>?_);refine yo zM<|yo zX<|yo zX ?_;refine yA fun b6=>?_;refine yo zA ?_;refine yW 0 ?_;refine yl<|yn<|yr<|yo zM<|yo zM ?_;refine Qo (XF rfl rfl rfl rfl rfl (by simp)) rfl (by decide) (fun bn _=>?_);refine Qo (X9 2 rfl rfl rfl rfl rfl (fun w hw=>hw.rd_blk 0 rfl rfl) (by simp [Value.oneCell']) (by omega)) rfl (by decide) (fun z _=>?_);refine yo zA<|yl<|yn<|yr<|yo zP<|yo zM<|yl ?_;refine Xb ⟨xs++[.slice y.1 (JH F i).length y.2],z.1,z.2,L++[.rd y.1 (JH F i).length 1 (iv (JH F i))],i+1⟩ ⟨by show (xs++[_]).length=i+1;rw[List.length_append,hxi];rfl,by show i+1≤n;omega,fun k hk=>?_,HFA.out.app hy.2⟩ (by show n - (i+1)<n - i;omega) (.cons rfl rfl (.cons rfl rfl (.cons rfl rfl (.cons rfl rfl .nil)))) (fun w hw=>?_)
  rotate_left
  ·exact hw.tl.tl
  by_cases hki:k=i
  ·subst hki;exact⟨y.1,y.2,by show (xs++[_])[k]? =_;rw[List.getElem?_append_right (by omega),hxi,Nat.sub_self];rfl,List.mem_append_right _ List.mem_cons_self,hy.1⟩
  ·obtain⟨Ak,ck,h1,h2,h3⟩:=HA.out k (by show k<i;have:k<i+1:=hk;omega);exact⟨Ak,ck,by show (xs++[_])[k]? =_;rw[List.getElem?_append_left (List.getElem?_eq_some_iff.1 h1).1];exact h1,List.mem_append_left _ h2,h3⟩
set_option maxRecDepth 100000 in
theorem Q55(g h:Nat)(w:World):
  CallsD Tryz.prog 30 #[.pointer (some ⟨g,0,none⟩),.pointer (some ⟨h,0,none⟩)] .returning w fun e u' w'=>e=.returned (.tuple #[])∧u'=.returning∧w'=w:=by
 refine callsD_of_wpS Tryz.func30 rfl fun c₀ cs hu=>?_
 apply wpS_seq
 apply wpS_region
 simp [wpOpsS,go_sem,recoverD,hu,Tryz.ntmps30,Exit.thenS]
 refine wpS_of_wp ?_
 simp only[Array.replicate_succ,Array.replicate_zero,List.push_toArray,List.append_toArray,List.nil_append,List.cons_append,List.setIfInBounds_toArray,List.set_cons_zero,List.set_cons_succ]
 go_wp2_with fail
 cases c₀
 simp_all [bodyPostS,results,Tryz.results30]
set_option maxRecDepth 100000 in
theorem Q3J{g k:Nat}{c x:Int}{M:List Nat}{W w:World}{O:List Qc}{a0 a1 a2 a3 a4 r0 r1:Value}(hw:Wd M W (.blk g (.cells ([a0,a1,a2,a3,a4]:List Value).toArray 30 (0,0))::.blk k (.cells ([r0,r1]:List Value).toArray 32 (0,0))::O) w):
  CallsD Tryz.prog 30 #[.pointer (some ⟨g,0,none⟩),.pointer (some ⟨k,0,none⟩)] (.panicking (Jv c x)) w fun e u' w'=>
   e=.returned (.tuple #[])∧u'=.panicking [{ v:=.iface 32 (.agg #[.int .i64 c,.int .i64 x]),recovered:=true }]∧Wd M W (.blk g (.cells ([.int .i64 0,.int .i64 0,.slice none 0 0,.slice none 0 0,.slice none 0 0]:List Value).toArray 30 (0,0))::.blk k (.cells ([.int .i64 c,.int .i64 x]:List Value).toArray 32 (0,0))::O) w':=by
 refine callsD_of_wpS Tryz.func30 rfl fun c₀ cs hu=>?_
 apply wpS_seq
 apply wpS_region
 unfold Jv at hu
 simp [wpOpsS,go_sem,recoverD,hu,Tryz.ntmps30,Exit.thenS]
 refine wpS_of_wp ?_
 simp only[Array.replicate_succ,Array.replicate_zero,List.push_toArray,List.append_toArray,List.nil_append,List.cons_append,List.setIfInBounds_toArray,List.set_cons_zero,List.set_cons_succ]
 have hta:∀W:World,(Instr.typeAssert (.iface 32 (.agg #[.int .i64 c,.int .i64 x])) 20 32 true).run Tryz.prog W=.ok (.tuple #[.agg #[.int .i64 c,.int .i64 x],.bool true]) W:=fun _=>by kernel_rfl
 have heq:∀W:World,(binOp .eql 20 (.iface 32 (.agg #[.int .i64 c,.int .i64 x])) .nilIface).run Tryz.prog W=.ok (.bool false) W:=fun _=>by kernel_rfl
 have hui:Tryz.prog.underlying 20=some (.interface (Tryz.prog.methodsAt 20)):=by kernel_rfl
 refine QE (M:=M) (W:=W) (N:=13) (E:=[(0,.pointer (some ⟨g,0,none⟩)),(1,.pointer (some ⟨k,0,none⟩)),(5,.iface 32 (.agg #[.int .i64 c,.int .i64 x]))]) (O:=.blk g (.cells ([a0,a1,a2,a3,a4]:List Value).toArray 30 (0,0))::.blk k (.cells ([r0,r1]:List Value).toArray 32 (0,0))::O) ?_ (Ag.cons (Ag.cons (Ag.cons (Ag.nil rfl rfl) rfl) rfl) rfl) hw;refine yb<|yq<|yr ?_;refine Q1 (Xq (v:=.bool false) rfl (by decide) rfl (fun ρ w ha _=>by have h5:=ha.eval (x:=.tmp 5) rfl;have hc:ρ (.const .nilIface)=.nilIface:=ha.eval rfl;simp [execOp,h5,hc,heq,eqGuard,go_sem])) ?_;refine yl<|yn<|y0<|yq<|yr ?_;refine Q1 (Xq (v:=.tuple #[.agg #[.int .i64 c,.int .i64 x],.bool true]) rfl (by decide) rfl (fun ρ w ha _=>by have h5:=ha.eval (x:=.tmp 5) rfl;simp [execOp,h5,hta,Sem.run_bind,go_sem])) ?_;refine yo zX<|yo zX<|yl<|yn<|y1<|yq<|yr ?_;refine yA fun b3=>?_;refine yW 0 ?_;refine yl<|yn ?_;refine XQ [.blk b3 (.cells ([.int .i64 c,.int .i64 x]:List Value).toArray 32 (0,0))] [] (by kernel_rfl) ?_;refine Qe 0 rfl (by kernel_rfl) (Q2.sel [0] (by decide) rfl) (QO (xs:=[]) (vs:=[]) (v:=.agg #[.int .i64 0,.int .i64 0,.slice none 0 0,.slice none 0 0,.slice none 0 0]) rfl rfl (by decide) rfl rfl (fun w=>run_build w _ _ _ (by kernel_rfl))) ?_;refine Qe 1 rfl (by kernel_rfl) (Q2.sel [0] (by decide) rfl) (zD 0) ?_;refine Qu 2 (by kernel_rfl) rfl rfl (Ql 1 rfl rfl rfl rfl rfl rfl rfl (by simp)) (fun _=>.inr (Q2.sel [0] (by decide) rfl)) rfl (fun _ _=>?_);rw[Qn (by rfl)];refine Qu 3 (by kernel_rfl) rfl rfl (Ql 2 rfl rfl rfl rfl rfl rfl rfl (by simp)) (fun _=>.inr (Q2.sel [0] (by decide) rfl)) rfl (fun _ _=>?_);rw[Qn (by rfl)];refine Xh ?_ (by kernel_rfl);refine yd ?_;intro a w' ha hw';exact⟨ha.df,_,rfl,.tuple #[],by simp [results,Tryz.results30],rfl,rfl,hw'.tl⟩
section
variable {P:Program}{ops:Array Oper}{Q:Exit→Act→World→Prop}{N:Nat}{M:List Nat}{W:World}{E:Env}{O:List Qc}{o:Oper}{rest:List Oper}
theorem Q9e[dq:DQ]{fn:Fn}{x:Tmp}{caps:Array Value}(ho:o.op=.defer { callee:=.value (.tmp x),args:=#[],argTypes:=#[] })(hd:o.dst=none)(hw:Qj ops E o=some true)(hx:ev E (.tmp x)=some (.func fn #[] caps))
  (h:∀dq':DQ,dq'.D={ target:=.fn fn caps,args:=#[] }::dq.D→@lE dq' P ops Q N M W E O rest):lE P ops Q N M W E O (o::rest):=fun a w ha hW=>by
 refine wpList_step fun K hK=>?_
 rw[if_pos (ha.want hw)]
 have hr:(execOp a.eval o).run P w=.ok (.defer { target:=.fn fn caps,args:=#[] }) w:=by
  have e:a.tmps[x]?.getD undef=.func fn #[] caps:=by
   have e:=ha.eval hx
   simpa [go_sem] using e
  simp [execOp,ho,resolve,e,go_sem]
 unfold Oper.wp
 rw[hr]
 simp only[Oper.upon]
 refine hK _ _ ((h ⟨{ target:=.fn fn caps,args:=#[] }::dq.D⟩ rfl) _ w ?_ hW)
 rw[hd]
 exact @Ag.mk ⟨{ target:=.fn fn caps,args:=#[] }::dq.D⟩ _ _ _ ha.sz (congrArg (List.cons _) ha.df) ha.has
theorem Q7Y[dq:DQ]{d:Nat}{B:List PanicEntry→World→Prop}{ι:Type}{V:ι→Value}{G:ι→List Qc}{p:ι→Prop}(h1:pE P ops N M W E O o ι V G p B)(hd:o.dst=some d)(hN:d<N)(hp:∀a ch w,Ag N E a→B ch w→Q (.panic ch) a w)(h:∀i,p i→lE P ops Q N M W ((d,V i)::E) (G i) rest):lE P ops Q N M W E O (o::rest):=fun a w ha hW=>by
 obtain⟨hw,hl⟩:=h1 a w ha hW
 refine wpList_step fun K hK=>?_
 rw[if_pos hw]
 refine Oper.wp_of_loudP hl ?_ (fun ch w' hb=>hp a ch w' ha hb)
 rintro v w' ⟨i,rfl,hp,hW'⟩
 rw[hd]
 exact hK _ _ (h i hp _ w' (ha.put _ hN) hW')
end
theorem YD(l:List Int)(k i:Nat)(b:Int)(hk:k<l.length):(l.set k b).getD i 0=if i=k then b else l.getD i 0:=by
 rw[List.getD_eq_getElem?_getD,List.getElem?_set,List.getD_eq_getElem?_getD]
 by_cases h:k=i
 ·subst h;simp [hk]
 ·rw[if_neg h,if_neg (fun e=>h e.symm)]
structure Lst(F:List Rl)(out:List Int):Prop where
 len:out.length=F.length
 nn:∀j:Nat,0≤out.getD j 0
 top:∀j:Nat,out.getD j 0≤1001
 post:∀(i:Nat) (r:Rl),F[i]? =some r→out.getD i 0≤min (Q5x F out r) 1001
section
variable {F:List Rl}
theorem Q5R(a b:List Int)(h:∀j:Nat,a.getD j 0≤b.getD j 0):∀(l:List Int) (m n:Int),m≤n→l.foldl (fun s x=>min s (lk a x)) m≤l.foldl (fun s x=>min s (lk b x)) n
 |[],m,n,h0=>h0
 |x::l,m,n,h0=>by
  rw[List.foldl_cons,List.foldl_cons];refine Q5R a b h l _ _ ?_;have:lk a x≤lk b x:=h _
  omega
theorem Q9P(hv:Usd F){a b:List Int}(hab:∀j:Nat,a.getD j 0≤b.getD j 0){i:Nat}{r:Rl}(hr:F[i]? =some r):Q5x F a r≤Q5x F b r:=by
 have hl:∀x,lk a x≤lk b x:=fun x=>hab _
 unfold Q5x
 split
 ·exact Int.le_refl _
 split
 ·exact Int.le_refl _
 split
 ·exact Int.le_refl _
 split
 ·next h=>have:=hl r.count;omega
 split
 ·next h=>
  have h1:=hl r.count;have h2:=Int.mul_le_mul_of_nonneg_left (hl r.elem) (hv.least hr (.inl h)).1
  omega
 split
 ·exact Q1l b a r.parts 0 0 (Int.le_refl _) fun x _=>hl x
 split
 ·exact Q5R a b hab r.parts 1001 1001 (Int.le_refl _)
 ·exact Int.le_refl _
theorem Lst.start(F:List Rl)(h:∀(i:Nat) (r:Rl),F[i]? =some r→0≤Q5x F (List.replicate F.length 0) r):Lst F (List.replicate F.length 0):=by
 have h0:∀j:Nat,(List.replicate F.length (0:Int)).getD j 0=0:=fun j=>by
  rw[List.getD_eq_getElem?_getD,List.getElem?_replicate]
  split<;>rfl
 refine⟨List.length_replicate,fun j=>by rw[h0];omega,fun j=>by rw[h0];omega,fun i r hr=>?_⟩;rw[h0];have:=h i r hr
 omega
theorem Lst.put(hv:Usd F){out:List Int}(h:Lst F out){k:Nat}{r:Rl}(hr:F[k]? =some r):Lst F (out.set k (min (Q5x F out r) 1001)):=by
 have hk:k<out.length:=by rw[h.len];exact(List.getElem?_eq_some_iff.1 hr).1
 have hp:=h.post k r hr;have h0:=h.nn k
 have hge:∀j:Nat,out.getD j 0≤(out.set k (min (Q5x F out r) 1001)).getD j 0:=fun j=>by
  rw[YD _ _ _ _ hk]
  split
  ·next e=>subst e;exact hp
  ·exact Int.le_refl _
 refine⟨by rw[List.length_set];exact h.len,fun j=>Int.le_trans (h.nn j) (hge j),fun j=>?_,fun i q hq=>?_⟩
 ·rw[YD _ _ _ _ hk]
  split
  ·omega
  ·exact h.top j
 ·have hm:=Q9P hv hge hq;rw[YD _ _ _ _ hk]
  split
  ·next e=>subst e;rw[hr] at hq;cases hq;omega
  ·have:=h.post i q hq;omega
end
def Q08(d:Nd)(np:Nat)(body:List UInt8):List UInt8:=num d.k++(if d.k=1 then num d.n else if d.k=2 then Vs d.bs else num (np:Int)++body)
def Z1:VF→Bool→List (List UInt8)→List UInt8
 |.nil,_,_=>[]
 |.cons d p r,rc,ns=>(if rc then Vs (ns.headD []) else [])++(Q08 d p.len (Z1 p (d.k==4) d.ns)++Z1 r rc ns.tail)
def Zb(d:Nd)(p:VF):List UInt8:=Q08 d p.len (Z1 p (d.k==4) d.ns)
theorem Q8F(F:VF):∀(rc:Bool) (ns:List (List UInt8)) (i:Nat),Z1 F rc ns=Z1 (F.take i) rc ns++Z1 (F.drop i) rc (ns.drop i):=by
 induction F with
 |nil=>intro rc ns i;cases i<;>rfl
 |cons d p r _ ih=>
  intro rc ns i
  cases i with
  |zero=>rw[VF.take_zero,VF.drop_zero,List.drop_zero];rfl
  |succ i=>
   show _=Z1 (.cons d p (r.take i)) rc ns++Z1 (r.drop i) rc (ns.drop (i+1))
   simp only[Z1]
   rw[ih rc ns.tail i,List.drop_tail]
   simp only[List.append_assoc]
theorem Q1z(F:VF):∀(rc:Bool) (ns:List (List UInt8)) (i:Nat) (d:Nd) (p r:VF),F.drop i=.cons d p r→
  Z1 (F.take (i+1)) rc ns=Z1 (F.take i) rc ns++((if rc then Vs ((ns.drop i).headD []) else [])++Zb d p):=by
 induction F with
 |nil=>intro rc ns i d p r h;cases i<;>simp [VF.drop] at h
 |cons d' p' r' _ ih=>
  intro rc ns i d p r h
  cases i with
  |zero=>
   rw[VF.drop_zero] at h
   injection h with h1 h2 h3
   subst h1 h2 h3
   show Z1 (.cons d' p' (r'.take 0)) rc ns=_
   rw[VF.take_zero,VF.take_zero]
   simp [Z1,Zb]
  |succ i=>
   show Z1 (.cons d' p' (r'.take (i+1))) rc ns=Z1 (.cons d' p' (r'.take i)) rc ns++_
   simp only[Z1]
   rw[ih rc ns.tail i d p r h,List.drop_tail]
   simp only[List.append_assoc]
theorem K4{F:VF}{rc:Bool}{ns:List (List UInt8)}{i:Nat}:(Z1 (F.take i) rc ns).length≤(Z1 F rc ns).length:=by
 rw[Q8F F rc ns i,List.length_append];omega
theorem Q32{d:Nd}{p:VF}(h1:¬d.k=1)(h2:¬d.k=2):Zb d p=num d.k++(num (p.len:Int)++Z1 p (d.k==4) d.ns):=by
 unfold Zb Q08;rw[if_neg h1,if_neg h2]
theorem QbS{d:Nd}{p:VF}(h1:d.k=1):Zb d p=num d.k++num d.n:=by unfold Zb Q08;rw[if_pos h1]
theorem Q87{d:Nd}{p:VF}(h2:d.k=2):Zb d p=num d.k++Vs d.bs:=by unfold Zb Q08;rw[if_neg (by omega),if_pos h2]
theorem Q4t{F:VF}{rc:Bool}{ns:List (List UInt8)}{i:Nat}{d:Nd}{p r:VF}(h:F.drop i=.cons d p r):(Zb d p).length≤(Z1 F rc ns).length:=by
 have h1:=Q1z F rc ns i d p r h
 have h2:=K4 (F:=F) (rc:=rc) (ns:=ns) (i:=i+1)
 rw[h1] at h2
 simp only[List.length_append] at h2
 omega
def Y1:VF→Prop
 |.nil=>True
 |.cons d p r=>Xi d p.len=0∧Y1 p∧Y1 r
theorem Y1.drop:∀(F:VF) (i:Nat),Y1 F→Y1 (F.drop i):=by
 intro F
 induction F with
 |nil=>intro i _;cases i<;>trivial
 |cons d p r _ ih=>
  intro i h
  cases i with
  |zero=>exact h
  |succ i=>exact ih i h.2.2
theorem Q4h(F:VF):∀(num lev m:Nat),XP F num lev=.inr m→Y1 F:=by
 induction F with
 |nil=>intro _ _ _ _;trivial
 |cons d p r ih1 ih2=>
  intro num lev m h
  by_cases h1:600≤num∨10<lev
  ·rw[JC h1] at h;cases h
  ·by_cases h2:Xi d p.len≠0
   ·rw[JF h1 h2] at h;cases h
   ·cases hp:XP p (num+1) (lev+1) with
    |inl f=>rw[VO h1 h2 hp] at h;cases h
    |inr k=>
     rw[Vq h1 h2 hp] at h
     exact⟨by simpa using h2,ih1 _ _ _ hp,ih2 _ _ _ h⟩
theorem Q8r{d:Nd}{np:Nat}(h:Xi d np=0):(1≤d.k∧d.k≤4)∧(d.k=1∨d.n=0)∧(d.k=2∨d.bs=[])∧(d.k=4∨d.ns=[])∧(3≤d.k∨np=0)∧(d.k=4→d.ns.length=np)∧np≤600∧d.ns.all QG=true∧d.ns.Nodup:=by
 by_cases hk:d.k<1∨4<d.k
 ·rw[Q2G hk] at h;cases h
 ·by_cases hf:(d.k≠1∧d.n≠0)∨(d.k≠2∧0<d.bs.length)∨(d.k≠4∧0<d.ns.length)∨(d.k<3∧0<np)∨(d.k=4∧d.ns.length≠np)
  ·rw[X2 hk hf] at h;cases h
  ·rw[Jr hk hf] at h
   have h6:¬600<np:=fun h'=>by rw[Q5K h'] at h;cases h
   have h7:d.ns.all QG=true:=by
    cases e:d.ns.all QG with
    |true=>rfl
    |false=>rw[YP h6 e] at h;cases h
   have h8:d.ns.Nodup:=by
    by_cases e:d.ns.Nodup
    ·exact e
    ·rw[Qc0 h6 h7 e] at h;cases h
   have z:∀{α:Type} (l:List α),¬0<l.length→l=[]:=fun l hl=>List.eq_nil_of_length_eq_zero (by omega)
   refine⟨by omega,by omega,?_,?_,by omega,by omega,by omega,h7,h8⟩
   ·by_cases e:d.k=2
    ·exact .inl e
    ·exact .inr (z _ (by omega))
   ·by_cases e:d.k=4
    ·exact .inl e
    ·exact .inr (z _ (by omega))
def Q58(w:World)(s:ByteArray):Nat:=grownCap w s.size 0 5
def YV(w:World)(s:ByteArray):World:=w.drew.alloc (.cells (bytesRow s (Q58 w s)) 5 ((bytesRow s (Q58 w s)).size,(bytesRow s (Q58 w s)).size+1))
theorem Qaa(s:ByteArray)(w:World):(convert 9 25 (.string s)).run Tryz.prog w=.ok (.slice (some ⟨w.heap.size,0,none⟩) s.size (Q58 w s)) (YV w s):=
 run_bytes_of_string w 9 25 5 s Tryz.underlying9 Tryz.underlying25 Tryz.underlying5
theorem Q53(w:World)(s:ByteArray):Below w.heap.size w (YV w s):=((Below.refl _ _).drew).alloc (Nat.le_refl _) _
theorem Q7m(w:World)(s:ByteArray):(YV w s).heap.size=w.heap.size+1:=by simp [YV]
theorem Qcl(w:World)(s:ByteArray):Rd (YV w s) (YV w s).heap.size 1 (some ⟨w.heap.size,0,none⟩) s.size (bv s.data.toList):=by
 refine⟨by simp [bv],fun _=>⟨_,_,rfl,by rw[Q7m];omega,fun j u hu=>?_⟩⟩
 have hj:j<s.size:=by
  have:=(List.getElem?_eq_some_iff.1 hu).1
  simpa [bv] using this
 unfold YV
 rw[Nat.zero_add]
 have e:=cell_of_row (w.drew.alloc (.cells (bytesRow s (Q58 w s)) 5 ((bytesRow s (Q58 w s)).size,(bytesRow s (Q58 w s)).size+1))) w.heap.size j (bytesRow s (Q58 w s)) 5 _ (heap_alloc_new w.drew _)
 rw[e]
 have:(bytesRow s (Q58 w s))[j]? =some (.int .u8 (s[j].toNat:Int)):=by
  unfold bytesRow
  rw[Array.getElem?_append_left (by simpa using hj)]
  rw[Array.getElem?_map,Array.getElem?_eq_getElem (by simpa using hj)]
  rfl
 rw[this,← hu]
 simp only[bv,List.getElem?_map,Q5c hj,Option.map_some]
theorem Qa0(w:World)(s:ByteArray)(g:Nat)(hg:g=w.heap.size):Rd (YV w s) (YV w s).heap.size 1 (some ⟨g,0,none⟩) s.size (bv s.data.toList):=by subst hg;exact Qcl w s
def Qcx(d:Nd)(p:VF):Prop:=ZJ d→Zq p→p.len≤1048576→Xi d p.len=0→Y1 p→(Zb d p).length≤1099511627776→∀(w:World) (v:Value),VIn w w.heap.size v d p→
 Calls Tryz.prog 102 #[v] w (Vc w (Zb d p))
set_option maxRecDepth 100000 in
set_option maxHeartbeats 1000000 in
theorem Q8s{w:World}{v:Value}{d:Nd}{p:VF}(hv:VIn w w.heap.size v d p)(hf:ZJ d)(hk:d.k=1):Calls Tryz.prog 102 #[v] w (Vc w (Zb d p)):=by
 have HE:=Lib.hid (QbS (d:=d) (p:=p) hk)
 obtain⟨sb,sn,sp,rfl,Ab,nb,cb,An,nn,cn,Ap,cp,rfl,rfl,rfl,hbc,hnc,hpc,hpm,hrb,hrn,hp⟩:=hv
 obtain⟨⟨h1,h2,h3,h4⟩,_⟩:=hf
 have hl1:=ZV d.k h1 h2
 have hl2:=ZV d.n h3 h4
 have hk1:(d.k==1)=true:=by simp [hk]
 clear hrb hrn hp hk
 go_enter Tryz.func102,Tryz.ntmps102
 go_wp2_with fail
 refine(Z7 d.k _ h1 h2).mono ?_
 rintro e w1 ⟨A1,c1,rfl,hown1,hb1⟩
 have hz1:=hb1.size
 have q0:w1.cell? ⟨w.heap.size,0,none⟩=some (.int .i64 d.k):=(hb1.cell (by simp)).trans (by simp)
 have q1:w1.cell? ⟨w.heap.size,1,none⟩=some (.int .i64 d.n):=(hb1.cell (by simp)).trans (by simp)
 simp only[Q4] at hz1 hown1
 have HB1:=Lib.hid (show Below w.heap.size w w1 from Qz (Zm _ _) hb1)
 clear hb1
 go_wp2_with fail
 refine(Z7 d.n _ h3 h4).mono ?_
 rintro e w2 ⟨A2,c2,rfl,hown2,hb2⟩
 have hz2:=hb2.size
 have HB2:=Lib.hid (Qz HB1.out hb2)
 have hown1':=Jh hown1 hb2 (Nat.le_refl _)
 go_wp2_with (at_builtin;refine XU _ slB rfl (.tmp 13) (.tmp 16) rfl (w.heap.size+1) A1 (num d.k).length c1 (bv (num d.k)) rfl hown1' _ A2 (num d.n).length c2 (bv (num d.n)) rfl (Rd.of_own hown2) (ZO _) (by omega) (by omega) HB2.out (by omega) ?_;intro A3 c3 w3 hown3 _ hb3)
 go_ret
 rw[HE.out]
 exact Vc.intro (KB hown3 (by omega)) (by rw[Kc]) hb3
set_option maxRecDepth 100000 in
set_option maxHeartbeats 1000000 in
theorem Q5o{w:World}{v:Value}{d:Nd}{p:VF}(hv:VIn w w.heap.size v d p)(hf:ZJ d)(hk:d.k=2):Calls Tryz.prog 102 #[v] w (Vc w (Zb d p)):=by
 have HE:=Lib.hid (Q87 (d:=d) (p:=p) hk)
 obtain⟨sb,sn,sp,rfl,Ab,nb,cb,An,nn,cn,Ap,cp,rfl,rfl,rfl,hbc,hnc,hpc,hpm,hrb,hrn,hp⟩:=hv
 obtain⟨⟨h1,h2,h3,h4⟩,hbl,_⟩:=hf
 have hl1:=ZV d.k h1 h2
 have hnb:d.bs.length=nb:=by have:=hrb.len;rw[Xu] at this;exact this
 have hl2:=Q1O d.bs (by omega)
 have hnb':nb≤1048576:=by omega
 have hk1:(d.k==1)=false:=by simp [hk]
 have hk2:(d.k==2)=true:=by simp [hk]
 have HRB:=Lib.hid hrb
 clear hrb hrn hp hk hnb
 go_enter Tryz.func102,Tryz.ntmps102
 go_wp2_with fail
 refine(Z7 d.k _ h1 h2).mono ?_
 rintro e w1 ⟨A1,c1,rfl,hown1,hb1⟩
 have hz1:=hb1.size
 have q0:w1.cell? ⟨w.heap.size,0,none⟩=some (.int .i64 d.k):=(hb1.cell (by simp)).trans (by simp)
 have q2:w1.cell? ⟨w.heap.size,2,none⟩=some (.slice Ab nb cb):=(hb1.cell (by simp)).trans (by simp)
 simp only[Q4] at hz1 hown1
 have HB1:=Lib.hid (show Below w.heap.size w w1 from Qz (Zm _ _) hb1)
 clear hb1
 go_wp2_with fail
 refine(Q1Z (bs:=d.bs) ((HRB.out.below HB1.out).more HB1.out.size) (by omega)).mono ?_
 rintro e w2 ⟨A2,c2,rfl,hown2,hb2⟩
 have hz2:=hb2.size
 have HB2:=Lib.hid (Qz HB1.out hb2)
 have hown1':=Jh hown1 hb2 (Nat.le_refl _)
 go_wp2_with (at_builtin;refine XU _ slB rfl (.tmp 20) (.tmp 23) rfl (w.heap.size+1) A1 (num d.k).length c1 (bv (num d.k)) rfl hown1' _ A2 (Vs d.bs).length c2 (bv (Vs d.bs)) rfl (Rd.of_own hown2) (ZO _) (by omega) (by omega) HB2.out (by omega) ?_;intro A3 c3 w3 hown3 _ hb3)
 go_ret
 rw[HE.out]
 exact Vc.intro (KB hown3 (by omega)) (by rw[Kc]) hb3
def Q5L(w W1:World)(pre:List UInt8)(p:VF)(rc:Bool)(ns:List (List UInt8))(out k:Value)(wr:World):Prop:=
 ∃(i:Nat) (A:Option Addr) (c:Nat),i≤p.len∧k=.int .i64 (i:Int)∧out=.slice A (pre++Z1 (p.take i) rc ns).length c∧
  wr.ownsRow W1.heap.size 5 1 (.slice A (pre++Z1 (p.take i) rc ns).length c) (pre++Z1 (p.take i) rc ns).length (bv (pre++Z1 (p.take i) rc ns))∧Below W1.heap.size W1 wr
theorem Q76{d:Nd}{p r F:VF}{i:Nat}(h:VF.All Qcx (F.drop i))(hd:F.drop i=.cons d p r)(hf:Zq (F.drop i))(hg:Y1 (F.drop i))(hl:(Zb d p).length≤1099511627776):∀(w:World) (v:Value),VIn w w.heap.size v d p→
  Calls Tryz.prog 102 #[v] w (Vc w (Zb d p)):=by
 rw[hd] at h hf hg
 exact h.1 hf.1 hf.2.2.1 hf.2.1 hg.1 hg.2.1 hl
theorem Q4w{w W1 w3:World}{nk nnp:List UInt8}{p:VF}{rc:Bool}{ns:List (List UInt8)}{A:Option Addr}{c:Nat}(h:w3.ownsRow W1.heap.size 5 1 (.slice A (nk.length+nnp.length) c) (nk.length+nnp.length) (bv nk++bv nnp))(hb:Below W1.heap.size W1 w3):
  Q5L w W1 (nk++nnp) p rc ns (.slice A (nk.length+nnp.length) c) (.int .i64 0) w3:=by
 have e:nk++nnp++Z1 (p.take 0) rc ns=nk++nnp:=by rw[VF.take_zero];simp [Z1]
 refine⟨0,A,c,Nat.zero_le _,rfl,?_,?_,hb⟩
 ·rw[e,List.length_append]
 ·rw[e,List.length_append,Kc];exact h
theorem Q75{w W1 w4:World}{pre add:List UInt8}{p:VF}{rc:Bool}{ns:List (List UInt8)}{A:Option Addr}{c i n:Nat}{xs:List Value}(hi:i<p.len)(hadd:Z1 (p.take (i+1)) rc ns=Z1 (p.take i) rc ns++add)(h:w4.ownsRow W1.heap.size 5 1 (.slice A n c) n xs)(hx:xs=bv (pre++Z1 (p.take i) rc ns)++bv add)(hn:n=(pre++Z1 (p.take i) rc ns).length+add.length)(hb:Below W1.heap.size W1 w4):
  Q5L w W1 pre p rc ns (.slice A n c) (.int .i64 ((i:Int)+1)) w4:=by
 subst hx hn
 have e:pre++Z1 (p.take (i+1)) rc ns=(pre++Z1 (p.take i) rc ns)++add:=by rw[hadd,List.append_assoc]
 refine⟨i+1,A,c,hi,by go_num,?_,?_,hb⟩
 ·rw[e];simp only[List.length_append]
 ·rw[e,List.length_append,Kc];exact h
theorem QcY(F:VF)(ns:List (List UInt8))(i:Nat)(d:Nd)(p r:VF)(h:F.drop i=.cons d p r):Z1 (F.take (i+1)) false ns=Z1 (F.take i) false ns++Zb d p:=by
 rw[Q1z F false ns i d p r h];simp
theorem QbU(F:VF)(ns:List (List UInt8))(i:Nat)(d:Nd)(p r:VF)(s:List UInt8)(h:F.drop i=.cons d p r)(hs:ns[i]? =some s):Z1 (F.take (i+1)) true ns=Z1 (F.take i) true ns++(Vs s++Zb d p):=by
 rw[Q1z F true ns i d p r h]
 have:(ns.drop i).headD []=s:=by
  have e:(ns.drop i)[0]? =some s:=by rw[List.getElem?_drop];simpa using hs
  cases hd:ns.drop i with
  |nil=>rw[hd] at e;simp at e
  |cons x l=>rw[hd] at e;simp at e;simp [e]
 rw[this];simp
set_option maxRecDepth 100000 in
set_option maxHeartbeats 2000000 in
theorem Q6F{w:World}{v:Value}{d:Nd}{p:VF}(hall:VF.All Qcx p)(hv:VIn w w.heap.size v d p)(hf:ZJ d)(hfp:Zq p)(hgp:Y1 p)(hpl:p.len≤1048576)(hk:d.k=3)(hlen:(Zb d p).length≤1099511627776):Calls Tryz.prog 102 #[v] w (Vc w (Zb d p)):=by
 have he:=Q32 (d:=d) (p:=p) (by omega) (by omega)
 have hrc:(d.k==4)=false:=by simp [hk]
 rw[hrc] at he
 rw[he] at hlen
 have HRC:=Lib.hid hrc
 obtain⟨sb,sn,sp,rfl,Ab,nb,cb,An,nn,cn,Ap,cp,rfl,rfl,rfl,hbc,hnc,hpc,hpm,hrb,hrn,hp⟩:=hv
 obtain⟨⟨h1,h2,h3,h4⟩,_⟩:=hf
 have hl1:=ZV d.k h1 h2
 have hl2:=ZV (p.len:Int) (by omega) (by omega)
 have hk1:(d.k==1)=false:=by simp [hk]
 have hk2:(d.k==2)=false:=by simp [hk]
 have HP:=Lib.hid hp
 have HFP:=Lib.hid hfp
 have HGP:=Lib.hid hgp
 have HALL:=Lib.hid hall
 simp only[List.length_append] at hlen
 obtain⟨np,hnp⟩:∃np,p.len=np:=⟨_,rfl⟩
 have HNP:=Lib.hid hnp
 rw[hnp] at hpl hpc hl2 hlen he ⊢
 have HE:=Lib.hid he
 clear he
 clear hrb hrn hp hk hfp hgp hall hnp
 go_enter Tryz.func102,Tryz.ntmps102
 go_wp2_with fail
 refine(Z7 d.k _ h1 h2).mono ?_
 rintro e w1 ⟨A1,c1,rfl,hown1,hb1⟩
 have hz1:=hb1.size
 have q0:w1.cell? ⟨w.heap.size,0,none⟩=some (.int .i64 d.k):=(hb1.cell (by simp)).trans (by simp)
 have q4:w1.cell? ⟨w.heap.size,4,none⟩=some (.slice Ap np cp):=(hb1.cell (by simp)).trans (by simp)
 have HW1:=Lib.hid hb1
 clear hb1
 go_wp2_with fail
 refine(Z7 (np:Int) _ (by omega) (by omega)).mono ?_
 rintro e w2 ⟨A2,c2,rfl,hown2,hb2⟩
 have hz2:=hb2.size
 have HB2:=Lib.hid (HW1.out.trans (hb2.mono hz1))
 have hown1':=Jh hown1 hb2 (Nat.le_refl _)
 obtain⟨W1,hW1⟩:∃W1,w.alloc (.cells #[.int .i64 d.k,.int .i64 d.n,.slice Ab nb cb,.slice An nn cn,.slice Ap np cp] 30)=W1:=⟨_,rfl⟩
 have hW1z:W1.heap.size=w.heap.size+1:=by rw[← hW1];simp
 have HWB:=Lib.hid (show Below w.heap.size w W1 by rw[← hW1];exact Zm _ _)
 rw[hW1] at hown1 hown1' hz1 HB2 HW1
 have HBX:=Lib.hid (show W1.cell? ⟨w.heap.size,0,none⟩=some (.int .i64 d.k)∧W1.cell? ⟨w.heap.size,4,none⟩=some (.slice Ap np cp) by rw[← hW1];exact⟨by simp,by simp⟩)
 have HZ:=Lib.hid hW1z
 clear hW1 hb2
 generalize num d.k=nk at*
 generalize num (np:Int)=nnp at*
 have hzle:w.heap.size<W1.heap.size:=by omega
 clear hW1z
 go_wp2_with (at_builtin;refine XU _ slB rfl (.tmp 25) (.tmp 29) rfl W1.heap.size A1 nk.length c1 (bv nk) rfl hown1' _ A2 nnp.length c2 (bv nnp) rfl (Rd.of_own hown2) (ZO _) (by omega) (by omega) HB2.out (by omega) ?_;intro A3 c3 w3 hown3 _ hb3;have q40:=(hb3.cell (p:=⟨w.heap.size,4,none⟩) (by exact hzle)).trans HBX.out.2)
 go_loopw [3,34] (Q5L w W1 (nk++nnp) p false d.ns) (fun _ k _=>np - (intOf k).toNat)
 case atStart=>exact Q4w hown3 hb3
 case round=>
  clear hown3 hb3 q40 hown1 hown1' hown2 q0 q4 HB2 HW1 hz1 hz2
  obtain⟨i,A,c,hi,rfl,rfl,hown,hbw⟩:=hrel
  rw[HNP.out] at hi
  have HBW:=Lib.hid hbw
  have HWR:=Lib.hid (show Below w.heap.size w wr from Qz HWB.out hbw)
  have hzw:=hbw.size
  have r0:wr.cell? ⟨w.heap.size,0,none⟩=some (.int .i64 d.k):=(hbw.cell (by exact hzle)).trans HBX.out.1
  clear hbw
  by_cases hlt:i<np
  ·obtain⟨b,o,hAp,hb,hfin⟩:=HP.out (by rw[HNP.out];omega)
   subst hAp
   obtain⟨d',p',hdr⟩:=VF.drop_cons (F:=p) (i:=i) (by rw[HNP.out];exact hlt)
   have hl':(Zb d' p').length≤1099511627776:=Nat.le_trans (Q4t (rc:=false) (ns:=d.ns) hdr) (by omega)
   have hlacc:=K4 (F:=p) (rc:=false) (ns:=d.ns) (i:=i)
   have hlacc2:=K4 (F:=p) (rc:=false) (ns:=d.ns) (i:=i+1)
   obtain⟨sb',sn',sp',⟨k0,k1,k2,k3,k4⟩,hd'⟩:=hfin.at_ hdr
   have HV':Hid (VIn w w.heap.size (.agg #[.int .i64 d'.k,.int .i64 d'.n,sb',sn',sp']) d' p'):=Lib.hid ⟨sb',sn',sp',rfl,hd'⟩
   obtain⟨Ab',nb',cb',An',nn',cn',Ap',cp',rfl,rfl,rfl,_⟩:=hd'
   have q0:=(HWR.out.cell (by exact hb)).trans k0
   have q1:=(HWR.out.cell (by exact hb)).trans k1
   have q2:=(HWR.out.cell (by exact hb)).trans k2
   have q3:=(HWR.out.cell (by exact hb)).trans k3
   have q4:=(HWR.out.cell (by exact hb)).trans k4
   clear k0 k1 k2 k3 k4 hfin
   have HCT:=Lib.hid (Q76 (VF.all_drop HALL.out i) hdr (Zq.drop p i HFP.out) (Y1.drop p i HGP.out) hl')
   have HADD:=Lib.hid (QcY p d.ns i d' p' _ hdr)
   clear hdr
   have hrc':=HRC.out
   have hzlt:w.heap.size<wr.heap.size:=by omega
   have r0':∀ob,(wr.alloc ob).cell? ⟨w.heap.size,0,none⟩=some (.int .i64 d.k):=fun ob=>Qh r0
   have hli:(i:Int)<(np:Int):=by omega
   have h0:(0:Int)≤(i:Int):=by omega
   obtain⟨acc,hacc⟩:∃acc,nk++nnp++Z1 (p.take i) false d.ns=acc:=⟨_,rfl⟩
   have HACC:=Lib.hid hacc
   have hal:acc.length=nk.length+nnp.length+(Z1 (p.take i) false d.ns).length:=by rw[← hacc];simp;omega
   rw[hacc] at hown ⊢
   have hal':acc.length≤1099511627776:=by omega
   clear hacc hal
   go_wp2_with fail
   refine(HCT.out _ _ ((HV'.out.below HWR.out (Nat.le_refl _)).keep (fun q hq=>(Zm _ _).cell (by omega)) (by simp only[Q4];omega))).mono ?_
   rintro e w4 ⟨A4,c4,rfl,hown4,hb4⟩
   have hz4:=hb4.size
   have HB4:=Lib.hid (show Below W1.heap.size W1 w4 from HBW.out.trans ((Qz (Zm wr _) hb4).mono hzw))
   have hown':=Jh (Jh hown (Zm wr _) (Nat.le_refl _)) hb4 (by simp only[Q4];omega)
   clear hb4
   go_wp2_with (at_builtin;refine XU _ slB rfl (.tmp 51) (.tmp 53) rfl W1.heap.size A acc.length c (bv acc) rfl hown' _ A4 (Zb d' p').length c4 (bv (Zb d' p')) rfl (Rd.of_own hown4) (ZO _) (by omega) (by have:=HB4.out.size;omega) HB4.out (Nat.le_refl _) ?_;intro A5 c5 w5 hown5 _ hb5)
   exact⟨Q75 (by rw[HNP.out];exact hlt) HADD.out hown5 (by rw[HACC.out]) (by rw[HACC.out]) hb5,by simp [intOf];omega⟩
  ·have HAL:=Lib.hid (show p.take i=p from VF.take_all (by rw[HNP.out];omega))
   go_wp2_with fail
   go_ret
   rw[HE.out]
   refine Vc.as (KB hown (by omega)) rfl ?_ HWR.out
   rw[HAL.out,List.append_assoc]
theorem Q9X{wr w6 w7:World}{base e s n:Nat}{v:Value}{xs:List Value}(hg:w6.grownBy w7 v.ownBlock)(hown:wr.ownsRow base e s v n xs)(hz:wr.heap.size<w6.heap.size):∀o,w7.cell? ⟨wr.heap.size,o,none⟩=w6.cell? ⟨wr.heap.size,o,none⟩:=by
 intro o
 have h:=hg.block wr.heap.size hz (fun e=>by have:=(hown.lt _ e.symm).2;omega)
 simp only[World.cell?,h]
set_option maxRecDepth 100000 in
set_option maxHeartbeats 2000000 in
theorem Q8q{w:World}{v:Value}{d:Nd}{p:VF}(hall:VF.All Qcx p)(hv:VIn w w.heap.size v d p)(hf:ZJ d)(hfp:Zq p)(hgp:Y1 p)(hpl:p.len≤1048576)(hk:d.k=4)(hnl:d.ns.length=p.len)(hlen:(Zb d p).length≤1099511627776):Calls Tryz.prog 102 #[v] w (Vc w (Zb d p)):=by
 have he:=Q32 (d:=d) (p:=p) (by omega) (by omega)
 have hrc:(d.k==4)=true:=by simp [hk]
 rw[hrc] at he
 rw[he] at hlen
 have HRC:=Lib.hid hrc
 obtain⟨sb,sn,sp,rfl,Ab,nb,cb,An,nn,cn,Ap,cp,rfl,rfl,rfl,hbc,hnc,hpc,hpm,hrb,hrn,hp⟩:=hv
 obtain⟨⟨h1,h2,h3,h4⟩,_,_,hf4⟩:=hf
 have hl1:=ZV d.k h1 h2
 have hl2:=ZV (p.len:Int) (by omega) (by omega)
 have hk1:(d.k==1)=false:=by simp [hk]
 have hk2:(d.k==2)=false:=by simp [hk]
 have HRN:=Lib.hid hrn
 have hnn:nn=p.len:=by have:=hrn.len;rw[XB] at this;omega
 have HP:=Lib.hid hp
 have HFP:=Lib.hid hfp
 have HGP:=Lib.hid hgp
 have HALL:=Lib.hid hall
 simp only[List.length_append] at hlen
 obtain⟨np,hnp⟩:∃np,p.len=np:=⟨_,rfl⟩
 have HNP:=Lib.hid hnp
 rw[hnp] at hpl hpc hl2 hlen he hnl hnn ⊢
 have HE:=Lib.hid he
 clear he
 have HNS:=Lib.hid hf4
 clear hrb hrn hp hk hfp hgp hall hnp hf4
 have hnn1:nn≤np:=by omega
 have hnn2:np≤nn:=by omega
 clear hnn hnl
 go_enter Tryz.func102,Tryz.ntmps102
 go_wp2_with fail
 refine(Z7 d.k _ h1 h2).mono ?_
 rintro e w1 ⟨A1,c1,rfl,hown1,hb1⟩
 have hz1:=hb1.size
 have q0:w1.cell? ⟨w.heap.size,0,none⟩=some (.int .i64 d.k):=(hb1.cell (by simp)).trans (by simp)
 have q4:w1.cell? ⟨w.heap.size,4,none⟩=some (.slice Ap np cp):=(hb1.cell (by simp)).trans (by simp)
 have HW1:=Lib.hid hb1
 clear hb1
 go_wp2_with fail
 refine(Z7 (np:Int) _ (by omega) (by omega)).mono ?_
 rintro e w2 ⟨A2,c2,rfl,hown2,hb2⟩
 have hz2:=hb2.size
 have HB2:=Lib.hid (HW1.out.trans (hb2.mono hz1))
 have hown1':=Jh hown1 hb2 (Nat.le_refl _)
 obtain⟨W1,hW1⟩:∃W1,w.alloc (.cells #[.int .i64 d.k,.int .i64 d.n,.slice Ab nb cb,.slice An nn cn,.slice Ap np cp] 30)=W1:=⟨_,rfl⟩
 have hW1z:W1.heap.size=w.heap.size+1:=by rw[← hW1];simp
 have HWB:=Lib.hid (show Below w.heap.size w W1 by rw[← hW1];exact Zm _ _)
 rw[hW1] at hown1 hown1' hz1 HB2 HW1
 have HBX:=Lib.hid (show W1.cell? ⟨w.heap.size,0,none⟩=some (.int .i64 d.k)∧W1.cell? ⟨w.heap.size,4,none⟩=some (.slice Ap np cp)∧W1.cell? ⟨w.heap.size,3,none⟩=some (.slice An nn cn) by rw[← hW1];exact⟨by simp,by simp,by simp⟩)
 have HZ:=Lib.hid hW1z
 clear hW1 hb2
 generalize num d.k=nk at*
 generalize num (np:Int)=nnp at*
 have hzle:w.heap.size<W1.heap.size:=by omega
 clear hW1z
 go_wp2_with (at_builtin;refine XU _ slB rfl (.tmp 25) (.tmp 29) rfl W1.heap.size A1 nk.length c1 (bv nk) rfl hown1' _ A2 nnp.length c2 (bv nnp) rfl (Rd.of_own hown2) (ZO _) (by omega) (by omega) HB2.out (by omega) ?_;intro A3 c3 w3 hown3 _ hb3;have q40:=(hb3.cell (p:=⟨w.heap.size,4,none⟩) (by exact hzle)).trans HBX.out.2.1)
 go_loopw [3,34] (Q5L w W1 (nk++nnp) p true d.ns) (fun _ k _=>np - (intOf k).toNat)
 case atStart=>exact Q4w hown3 hb3
 case round=>
  clear hown3 hb3 q40 hown1 hown1' hown2 q0 q4 HB2 HW1 hz1 hz2
  obtain⟨i,A,c,hi,rfl,rfl,hown,hbw⟩:=hrel
  rw[HNP.out] at hi
  have HBW:=Lib.hid hbw
  have HWR:=Lib.hid (show Below w.heap.size w wr from Qz HWB.out hbw)
  have hzw:=hbw.size
  have r0:wr.cell? ⟨w.heap.size,0,none⟩=some (.int .i64 d.k):=(hbw.cell (by exact hzle)).trans HBX.out.1
  clear hbw
  by_cases hlt:i<np
  ·obtain⟨b,o,hAp,hb,hfin⟩:=HP.out (by rw[HNP.out];omega)
   subst hAp
   obtain⟨d',p',hdr⟩:=VF.drop_cons (F:=p) (i:=i) (by rw[HNP.out];exact hlt)
   have hl':(Zb d' p').length≤1099511627776:=Nat.le_trans (Q4t (rc:=true) (ns:=d.ns) hdr) (by omega)
   have hlacc:=K4 (F:=p) (rc:=true) (ns:=d.ns) (i:=i)
   have hlacc2:=K4 (F:=p) (rc:=true) (ns:=d.ns) (i:=i+1)
   obtain⟨sb',sn',sp',⟨k0,k1,k2,k3,k4⟩,hd'⟩:=hfin.at_ hdr
   have HV':Hid (VIn w w.heap.size (.agg #[.int .i64 d'.k,.int .i64 d'.n,sb',sn',sp']) d' p'):=Lib.hid ⟨sb',sn',sp',rfl,hd'⟩
   obtain⟨Ab',nb',cb',An',nn',cn',Ap',cp',rfl,rfl,rfl,_⟩:=hd'
   have q0:=(HWR.out.cell (by exact hb)).trans k0
   have q1:=(HWR.out.cell (by exact hb)).trans k1
   have q2:=(HWR.out.cell (by exact hb)).trans k2
   have q3:=(HWR.out.cell (by exact hb)).trans k3
   have q4:=(HWR.out.cell (by exact hb)).trans k4
   clear k0 k1 k2 k3 k4 hfin
   have HCT:=Lib.hid (Q76 (VF.all_drop HALL.out i) hdr (Zq.drop p i HFP.out) (Y1.drop p i HGP.out) hl')
   have hni:i<nn:=by omega
   obtain⟨bn,on,s,hAn,hbn,hsn,hcn⟩:=YW HRN.out hni
   subst hAn
   have HADD:=Lib.hid (QbU p d.ns i d' p' _ _ hdr hsn)
   have hsl:s.size≤1048576:=by simpa using HNS.out _ (List.mem_of_getElem? hsn)
   have hchl:(Vs s.data.toList).length≤1048586:=by
    have h1:=Q1O s.data.toList (by simpa using (show s.size≤140737488355318 by omega))
    have h2:s.data.toList.length=s.size:=by simp
    omega
   rw[HADD.out] at hlacc2
   simp only[List.length_append] at hlacc2
   have s3:wr.cell? ⟨w.heap.size,3,none⟩=some (.slice (some ⟨bn,on,none⟩) nn cn):=(HBW.out.cell (by exact hzle)).trans HBX.out.2.2
   have sc:wr.cell? ⟨bn,on+i,none⟩=some (.string s):=(HWR.out.cell (by exact hbn)).trans hcn
   have hni':(i:Int)<(nn:Int):=by omega
   have hcv:=Qaa s
   have s3':∀ob,(wr.alloc ob).cell? ⟨w.heap.size,3,none⟩=some (.slice (some ⟨bn,on,none⟩) nn cn):=fun ob=>Qh s3
   have sc':∀ob,(wr.alloc ob).cell? ⟨bn,on+i,none⟩=some (.string s):=fun ob=>Qh sc
   clear hsn hcn
   clear hdr
   have hrc':=HRC.out
   have hzlt:w.heap.size<wr.heap.size:=by omega
   have r0':∀ob,(wr.alloc ob).cell? ⟨w.heap.size,0,none⟩=some (.int .i64 d.k):=fun ob=>Qh r0
   have hli:(i:Int)<(np:Int):=by omega
   have h0:(0:Int)≤(i:Int):=by omega
   obtain⟨acc,hacc⟩:∃acc,nk++nnp++Z1 (p.take i) true d.ns=acc:=⟨_,rfl⟩
   have HACC:=Lib.hid hacc
   have hal:acc.length=nk.length+nnp.length+(Z1 (p.take i) true d.ns).length:=by rw[← hacc];simp;omega
   rw[hacc] at hown ⊢
   have hal':acc.length≤1099511627776:=by omega
   clear hacc hal
   go_wp2_with fail
   have hb5:=Q53 (wr.alloc (.cells #[.int .i64 d'.k,.int .i64 d'.n,.slice Ab' nb' cb',.slice An' nn' cn',.slice Ap' p'.len cp'] 30)) s
   have hz5:=hb5.size
   refine(Q1Z (bs:=s.data.toList) (Qa0 _ _ _ (by simp only[Q4])) (by omega)).mono ?_
   rintro e w6 ⟨A6,c6,rfl,hown6,hb6⟩
   have hz6:=hb6.size
   have HB6:=Lib.hid (show Below wr.heap.size wr w6 from Qz (Qz (Zm _ _) hb5) hb6)
   have hz66:=HB6.out.size
   have HX:=(show VK w6 wr.heap.size 0 d' (.slice Ab' nb' cb') (.slice An' nn' cn') (.slice Ap' p'.len cp') from by
    have hk:∀o,w6.cell? ⟨wr.heap.size,o,none⟩=(wr.alloc (.cells #[.int .i64 d'.k,.int .i64 d'.n,.slice Ab' nb' cb',.slice An' nn' cn',.slice Ap' p'.len cp'] 30)).cell? ⟨wr.heap.size,o,none⟩:=fun o=>(Qz hb5 hb6).cell (by simp)
    exact⟨(hk 0).trans (by simp),(hk 1).trans (by simp),(hk 2).trans (by simp),(hk 3).trans (by simp),(hk 4).trans (by simp)⟩)
   have hown':=Jh hown HB6.out (Nat.le_refl _)
   have hzx:wr.heap.size<w6.heap.size:=by simp only[Q4] at hz5;omega
   clear hcv hb5 hb6
   generalize Vs s.data.toList=ch at*
   obtain⟨x0,x1,x2,x3,x4⟩:=HX
   go_wp2_with (at_builtin;refine Q6N _ slB rfl (.tmp 42) (.tmp 49) rfl W1.heap.size A acc.length c (bv acc) rfl hown' _ A6 ch.length c6 (bv ch) rfl (Rd.of_own hown6) (ZO _) (by omega) (by omega) ?_;intro A7 c7 w7 hown7 hg7 hb7;have hx7:=Q9X hg7 hown hzx;have y0:=(hx7 0).trans x0;have y1:=(hx7 1).trans x1;have y2:=(hx7 2).trans x2;have y3:=(hx7 3).trans x3;have y4:=(hx7 4).trans x4;clear hx7)
   have HB7:=Lib.hid (show Below W1.heap.size W1 w7 from HBW.out.trans ((HB6.out.mono hzw).trans hb7))
   have HW7:=Lib.hid (show Below w.heap.size w w7 from Qz HWB.out HB7.out)
   have hz7:=HB7.out.size
   refine(HCT.out _ _ (HV'.out.on HW7.out)).mono ?_
   rintro e w4 ⟨A4,c4,rfl,hown4,hb4⟩
   have hz4:=hb4.size
   have HB4:=Lib.hid (show Below W1.heap.size W1 w4 from HB7.out.trans (hb4.mono hz7))
   have hown8:=Jh hown7 hb4 (Nat.le_refl _)
   clear hb4
   go_wp2_with (at_builtin;refine XU _ slB rfl (.tmp 51) (.tmp 53) rfl W1.heap.size A7 (acc.length+ch.length) c7 (bv acc++bv ch) rfl hown8 _ A4 (Zb d' p').length c4 (bv (Zb d' p')) rfl (Rd.of_own hown4) (ZO _) (by omega) (by have:=HB4.out.size;omega) HB4.out (Nat.le_refl _) ?_;intro A5 c5 w5 hown5 _ hb5)
   exact⟨Q75 (by rw[HNP.out];exact hlt) HADD.out hown5 (by rw[HACC.out,Kc,List.append_assoc]) (by rw[HACC.out,List.length_append];omega) hb5,by simp [intOf];omega⟩
  ·have HAL:=Lib.hid (show p.take i=p from VF.take_all (by rw[HNP.out];omega))
   go_wp2_with fail
   go_ret
   rw[HE.out]
   refine Vc.as (KB hown (by omega)) rfl ?_ HWR.out
   rw[HAL.out,List.append_assoc]
theorem Q5Z(d:Nd)(p:VF)(hall:VF.All Qcx p):Qcx d p:=by
 intro hf hfp hpl hc hg hlen w v hv
 obtain⟨⟨k1,k4⟩,_,_,_,_,hnl,_⟩:=Q8r hc
 by_cases h1:d.k=1
 ·exact Q8s hv hf h1
 ·by_cases h2:d.k=2
  ·exact Q5o hv hf h2
  ·by_cases h3:d.k=3
   ·exact Q6F hall hv hf hfp hg hpl h3 hlen
   ·exact Q8q hall hv hf hfp hg hpl (by omega) (hnl (by omega)) hlen
theorem Q4P{d:Nd}{p:VF}{w:World}{v:Value}(hf:ZJ d)(hfp:Zq p)(hpl:p.len≤1048576)(hc:Xi d p.len=0)(hg:Y1 p)(hlen:(Zb d p).length≤1099511627776)(hv:VIn w w.heap.size v d p):
  Calls Tryz.prog 102 #[v] w (Vc w (Zb d p)):=VF.all_each Q5Z d p hf hfp hpl hc hg hlen w v hv
def Zg(d:Nd)(p:VF):Int×Int:=match XP (.cons d p .nil) 0 1 with|.inl f=>f|.inr _=>if 4000<(Zb d p).length then (14,-1) else (0,0)
theorem Q6f{d:Nd}{p:VF}{f:Int×Int}(h:XP (.cons d p .nil) 0 1=.inl f):Zg d p=f:=by unfold Zg;rw[h]
theorem Qb7{d:Nd}{p:VF}{m:Nat}(h:XP (.cons d p .nil) 0 1=.inr m)(hl:4000<(Zb d p).length):Zg d p=(14,-1):=by unfold Zg;rw[h];simp only;rw[if_pos hl]
theorem Qdq{d:Nd}{p:VF}{m:Nat}(h:XP (.cons d p .nil) 0 1=.inr m)(hl:¬4000<(Zb d p).length):Zg d p=(0,0):=by unfold Zg;rw[h];simp only;rw[if_neg hl]
structure Mod(d:Nd)(p:VF):Prop where
 nd:ZJ d
 fp:Zq p
 pl:p.len≤1048576
 el:(Zb d p).length≤1099511627776
theorem Q9w{w:World}{base g o:Nat}{e s n:Nat}{v x:Value}{xs:List Value}(h:w.ownsRow base e s v n xs)(hg:g<base):(w.setCell ⟨g,o,none⟩ x).ownsRow base e s v n xs:=by
 refine⟨h.1,?_⟩
 rcases h.2 with hn|⟨k,cap,cur,hv,hk,hh,r⟩
 ·exact .inl hn
 ·refine .inr ⟨k,cap,cur,hv,hk,?_,r⟩
  rw[Below.heap_setCell _ _ _ _ (by simp only;omega)];exact hh
def QdR(w:World)(d:Nd)(p:VF)(e:Ending)(w':World):Prop:=
 Below w.heap.size w w'∧((∃c i,c≠0∧Zg d p=(c,i)∧e=.returned (.tuple #[.slice none 0 0,.agg #[.int .i64 c,.int .i64 i]]))∨
  (∃A c m,XP (.cons d p .nil) 0 1=.inr m∧Zg d p=(0,0)∧(Zb d p).length≤4000∧e=.returned (.tuple #[.slice A (Zb d p).length c,.agg #[.int .i64 0,.int .i64 0]])∧w'.ownsRow w.heap.size 5 1 (.slice A (Zb d p).length c) (Zb d p).length (bv (Zb d p))))
set_option maxRecDepth 100000 in
set_option maxHeartbeats 1000000 in
theorem Q3O{d:Nd}{p:VF}{w:World}{v:Value}(hm:Mod d p)(hv:VIn w w.heap.size v d p):Calls Tryz.prog 69 #[v] w (QdR w d p):=by
 have HV:=Lib.hid hv
 have HM:=Lib.hid hm
 obtain⟨sb,sn,sp,rfl,Ab,nb,cb,An,nn,cn,Ap,cp,rfl,rfl,rfl,hbc,hnc,hpc,hpm,hrb,hrn,hp⟩:=hv
 clear hrb hrn hp hm
 go_enter Tryz.func69,Tryz.ntmps69
 go_wp2_with fail
 refine(Q0O (num:=0) (lev:=1) HM.out.nd HM.out.fp HM.out.pl (HV.out.on (ZZ _ _ _)) (by omega) (by omega)).mono ?_
 rintro e w2 ⟨hb2,hres⟩
 have F1:=(FC.new (w.alloc (.cells #[.int .i64 d.k,.int .i64 d.n,.slice Ab nb cb,.slice An nn cn,.slice Ap p.len cp] 30)) 0 0).on hb2
 simp only[Q4] at F1
 have HBX:=Lib.hid (show VK w2 w.heap.size 0 d (.slice Ab nb cb) (.slice An nn cn) (.slice Ap p.len cp) from by
  have hk:∀o,w2.cell? ⟨w.heap.size,o,none⟩=_:=fun o=>hb2.cell (by simp only[Q4];omega)
  exact⟨(hk 0).trans (Qh (by simp)),(hk 1).trans (Qh (by simp)),(hk 2).trans (Qh (by simp)),(hk 3).trans (Qh (by simp)),(hk 4).trans (Qh (by simp))⟩)
 have HB2:=Lib.hid (show Below w.heap.size w w2 from Qz (ZZ _ _ _) hb2)
 have HF1:=Lib.hid F1
 have hz2:w.heap.size+1<w2.heap.size:=F1.1
 clear hb2 F1
 rcases hres with ⟨c,ix,hr,rfl⟩|⟨m,hr,rfl⟩
 ·have hc:=Vn _ _ _ _ _ hr
  have hc0:(c==0)=false:=by simpa using hc
  have hneq:=Q0K c ix 0 0
  have HF:=Lib.hid (Q6f hr)
  have HC:=Lib.hid hc
  have P2:=HF1.out.alloc (.cells #[.int .i64 c,.int .i64 ix] 32)
  have P1:=FC.new w2 c ix
  have PB:=Kz HB2.out (.cells #[.int .i64 c,.int .i64 ix] 32)
  clear hr hc
  go_wp2_with fail
  obtain⟨W4,hW4⟩:∃W4,w2.alloc (.cells #[.int .i64 c,.int .i64 ix] 32)=W4:=⟨_,rfl⟩
  rw[hW4] at P1 P2 PB ⊢
  have HPB:=Lib.hid PB
  clear hW4 PB
  obtain⟨z3,a0,a1,g0,g1⟩:=P1
  obtain⟨z4,r0,r1,e0,e1⟩:=P2
  go_region
  go_wp2_with fail
  refine bodyPost_ret (v:=.tuple #[.slice none 0 0,.agg #[.int .i64 c,.int .i64 ix]]) (by simp [results,Tryz.results69,go_sem,r0,r1,z4]) rfl ?_
  exact⟨(Zo HPB.out (by omega) _ _).drew,.inl ⟨c,ix,HC.out,HF.out,rfl⟩⟩
 ·have hneq:=Q0K 0 0 0 0
  have hg:=Q4h _ _ _ _ hr
  have HR:=Lib.hid hr
  obtain⟨x0,x1,x2,x3,x4⟩:=HBX.out
  simp only[Nat.zero_add] at x1 x2 x3 x4
  have y0:=fun ob=>Qh (o:=ob) x0
  have y1:=fun ob=>Qh (o:=ob) x1
  have y2:=fun ob=>Qh (o:=ob) x2
  have y3:=fun ob=>Qh (o:=ob) x3
  have y4:=fun ob=>Qh (o:=ob) x4
  clear hr
  go_wp2_with fail
  refine(Q4P HM.out.nd HM.out.fp HM.out.pl hg.1 hg.2.1 HM.out.el (HV.out.on (Kz HB2.out _))).mono ?_
  rintro e w3 ⟨A3,c3,rfl,hown3,hb3⟩
  have HB3:=Lib.hid (show Below w.heap.size w w3 from Qz (Kz HB2.out _) hb3)
  have HR3:=Lib.hid ((HF1.out.alloc (.cells #[.int .i64 0,.int .i64 0] 32)).on hb3)
  have HOWN:=Lib.hid hown3
  obtain⟨z4,r0,r1,e0,e1⟩:=HR3.out
  have hel:=HM.out.el
  clear hb3 hown3 x0 x1 x2 x3 x4 y0 y1 y2 y3 y4
  by_cases hbig:4000<(Zb d p).length
  ·have HF:=Lib.hid (Qb7 HR.out hbig)
   have hbig':(4000:Int)<((Zb d p).length:Int):=by omega
   go_wp2_with (go_at_call 103;refine(Jq _ _ _).mono ?_;rintro e w' ⟨rfl,rfl⟩)
   refine bodyPost_ret (v:=.tuple #[.slice none 0 0,.agg #[.int .i64 14,.int .i64 (-1)]]) (by simp [results,Tryz.results69,go_sem,r0,r1,z4]) rfl ?_
   exact⟨Kz (Zo HB3.out (by omega) _ _) _,.inl ⟨14,-1,by decide,HF.out,rfl⟩⟩
  ·have HF:=Lib.hid (Qdq HR.out hbig)
   have hbig':¬(4000:Int)<((Zb d p).length:Int):=by omega
   go_wp2_with fail
   refine bodyPost_ret (v:=.tuple #[.slice A3 (Zb d p).length c3,.agg #[.int .i64 0,.int .i64 0]]) (by simp [results,Tryz.results69,go_sem,r0,r1,z4]) rfl ?_
   refine⟨Zo HB3.out (by omega) _ _,.inr ⟨A3,c3,m,HR.out,HF.out,by omega,rfl,?_⟩⟩
   exact KB (Q9w (Q9w HOWN.out (by simp only[Q4];omega)) (by simp only[Q4];omega)) (by simp only[Q4];omega)
set_option maxRecDepth 100000 in
theorem Q3g{d:Nd}{p:VF}{w:World}{v:Value}(hm:Mod d p)(hv:VIn w w.heap.size v d p):Calls Tryz.prog 34 #[v] w fun e w'=>e=.returned (.agg #[.int .i64 (Zg d p).1,.int .i64 (Zg d p).2])∧Below w.heap.size w w':=by
 have HV:=Lib.hid hv
 have HM:=Lib.hid hm
 obtain⟨sb,sn,sp,rfl,Ab,nb,cb,An,nn,cn,Ap,cp,rfl,rfl,rfl,hbc,hnc,hpc,hpm,hrb,hrn,hp⟩:=hv
 clear hrb hrn hp hm
 go_enter Tryz.func34,Tryz.ntmps34
 go_wp2_with fail
 refine(Q3O HM.out (HV.out.on (ZZ _ _ _))).mono ?_
 rintro e w2 ⟨hb2,hres⟩
 have F1:=(FC.new (w.alloc (.cells #[.int .i64 d.k,.int .i64 d.n,.slice Ab nb cb,.slice An nn cn,.slice Ap p.len cp] 30)) 0 0).on hb2
 simp only[Q4] at F1
 have HB2:=Lib.hid (show Below w.heap.size w w2 from Qz (ZZ _ _ _) hb2)
 have HF1:=Lib.hid F1
 have hz2:w.heap.size+1<w2.heap.size:=F1.1
 clear hb2 F1
 obtain⟨A,n,c,cd,ix,he,hf⟩:∃A n c cd ix,e=.returned (.tuple #[.slice A n c,.agg #[.int .i64 cd,.int .i64 ix]])∧Zg d p=(cd,ix):=by
  rcases hres with ⟨c,i,_,h,he⟩|⟨A,c,m,_,h,_,he,_⟩
  ·exact⟨_,_,_,_,_,he,h⟩
  ·exact⟨_,_,_,_,_,he,h⟩
 subst he
 have HF:=Lib.hid hf
 clear hf hres
 obtain⟨z4,r0,r1,e0,e1⟩:=HF1.out
 go_wp2_with fail
 refine bodyPost_ret (v:=.agg #[.int .i64 cd,.int .i64 ix]) (by simp [results,Tryz.results34,go_sem,r0,r1,z4]) rfl ?_
 exact⟨by rw[HF.out],Kz (Zo HB2.out (by omega) _ _) _⟩
theorem Q5i:∀{F:VF},Y1 F→Kq F
 |.nil,_=>trivial
 |.cons d p r,h=>⟨h.1,Q5i h.2.1,Q5i h.2.2⟩
def V9(F:List Rl)(D:List UInt8):Nat:=(D.length+1)*(F.length+1)
theorem Q1n{F:List Rl}{D:List UInt8}:Jw F D 0 0≤V9 F D:=by
 unfold Jw V9
 have:=Q6c F (0:Int).toNat;rw[Nat.sub_zero,Nat.succ_mul]
 omega
abbrev ndZ:Nd:=⟨0,0,[],[]⟩
def Z0(F:List Rl)(D:List UInt8):(Nd×VF)×(Int×Int):=
 if QL F≠(0,0) then ((ndZ,.nil),QL F)
 else if 1000<D.length then ((ndZ,.nil),(3,-2))
 else match Qx F D (V9 F D) 0 0 with
  |none=>((ndZ,.nil),(1,0))
  |some (.error e)=>((ndZ,.nil),(1,(e:Int)))
  |some (.ok y)=>if y.2.2<D.length then ((ndZ,.nil),(1,(y.2.2:Int))) else if Zg y.1 y.2.1≠(0,0) then ((ndZ,.nil),(14,-2)) else ((y.1,y.2.1),(0,0))
def J1(F:List Rl)(d:Nd)(l:VF):List UInt8×(Int×Int):=
 if QL F≠(0,0) then ([],QL F)
 else if Zg d l≠(0,0) then ([],Zg d l)
 else match X7 F (.cons d l .nil) [([],some 0)] [] 0 with
  |.error e=>([],(13,(e:Int)))
  |.ok (b,_)=>if 1000<b.length then ([],(14,-2)) else (b,(0,0))
section
variable {F:List Rl}{D:List UInt8}{d:Nd}{l:VF}
theorem VD(h:QL F=(0,0)):Fm F:=by
 refine Qey ?_
 unfold QL at h
 split at h
 ·exact h
 ·next hc=>simpa using hc
theorem Qb1(h:(XC F).1=0):XC F=(0,0):=by
 unfold XC at h ⊢
 split at h
 ·exact absurd h (by decide)
 split at h
 ·exact absurd h (by decide)
 next h0 h1=>
 rw[if_neg h0,if_neg h1]
 cases e1:Xw F.length (fun k=>ZR F k != 0) with
 |some k=>
  rw[e1] at h;have:=(KL e1).2.1
  simp only at h
  rw[h] at this
  cases this
 |none=>
  rw[e1] at h
  simp only at h ⊢
  cases e2:Xw F.length (fun k=>V8 F k != 0) with
  |some k=>
   rw[e2] at h;have:=(KL e2).2.1
   simp only at h
   rw[h] at this
   cases this
  |none=>
   rw[e2] at h
   simp only at h ⊢
   cases e3:Xw F.length (Q1g F) with
   |some k=>rw[e3] at h;exact absurd h (by simp)
   |none=>
    rw[e3] at h
    simp only at h ⊢
    cases e4:Xw F.length (fun k=>!((Vz F).getD k false)) with
    |some k=>rw[e4] at h;exact absurd h (by simp)
    |none=>
     rw[e4] at h
     simp only at h ⊢
     cases e5:Xw F.length (J9 F) with
     |some k=>rw[e5] at h;exact absurd h (by simp)
     |none=>rfl
theorem Q7j(h:(QL F).1=0):QL F=(0,0):=by
 unfold QL at h ⊢
 split at h
 ·next hc=>exact absurd (Qb1 h) hc
 ·next hc=>
  rw[if_neg hc]
  split at h
  ·exact absurd h (by decide)
  ·next hl=>rw[if_neg hl]
theorem QeB(h:(Zg d l).1=0):Zg d l=(0,0):=by
 unfold Zg at h ⊢
 split at h
 ·next f hf=>
  obtain⟨c,i⟩:=f;exact absurd h (Vn _ _ _ _ _ hf)
 ·next m hm=>
  split at h
  ·exact absurd h (by decide)
  ·next hl=>rw[if_neg hl]
theorem Q4j(h:Zg d l=(0,0)):Xi d l.len=0∧Kq l:=by
 unfold Zg at h
 split at h
 ·next f hf=>
  subst h;exact absurd rfl (Vn _ _ _ _ _ hf)
 ·next m hm=>
  have:=Q4h _ _ _ _ hm;exact⟨this.1,Q5i this.2.1⟩
theorem Qap(hv:Fm F)(D:List UInt8):∃y,Qx F D (V9 F D) 0 0=some y:=Q0l hv.toVld _ ⟨by omega,by have:=hv.len;omega⟩ (Nat.zero_le _) Q1n
theorem Q6X(hv:Fm F){y:Nd×VF×Nat}(h:Qx F D (V9 F D) 0 0=some (.ok y)):0<y.2.2∧y.2.2≤D.length:=QX hv.toUsd _ ⟨by omega,by have:=hv.len;omega⟩ 0 y (Nat.zero_le _) h
theorem Q5b(h:(Z0 F D).2.1=0):QL F=(0,0)∧D.length≤1000∧∃d l,Z0 F D=((d,l),(0,0))∧Qx F D (V9 F D) 0 0=some (.ok (d,l,D.length))∧Zg d l=(0,0):=by
 unfold Z0 at h ⊢
 split at h
 ·next h0=>exact absurd (Q7j h) h0
 next h0=>
 have h0:QL F=(0,0):=by simpa using h0
 rw[if_neg (by simpa using h0)]
 split at h
 ·exact absurd h (by decide)
 next h1=>
 refine⟨h0,by omega,?_⟩;rw[if_neg h1]
 split at h
 ·exact absurd h (by decide)
 ·exact absurd h (by simp)
 ·next y hy=>
  have hfar:=Q6X (VD h0) hy;obtain⟨d,l,q⟩:=y
  simp only at h hfar
  split at h
  ·exact absurd h (by simp)
  ·next hq=>
   have hq:q=D.length:=by omega
   subst hq
   split at h
   ·exact absurd h (by decide)
   ·next hval=>
    refine⟨d,l,?_,hy,by simpa using hval⟩
    simp only
    rw[if_neg (by omega),if_neg hval]
theorem Qc9(h:(Z0 F D).2.1≠0):(Z0 F D).1=(ndZ,.nil):=by
 unfold Z0 at h ⊢
 split
 ·rfl
 split
 ·rfl
 split
 ·rfl
 ·rfl
 ·split
  ·rfl
  ·split
   ·rfl
   ·next h1 h2 _ y hy h3 h4=>
    rw[if_neg h1,if_neg h2,hy] at h
    simp only at h
    rw[if_neg h3,if_neg h4] at h;exact absurd rfl h
theorem Qco(h:(J1 F d l).2.1≠0):(J1 F d l).1=[]:=by
 unfold J1 at h ⊢
 split
 ·rfl
 split
 ·rfl
 split
 ·rfl
 ·next h1 h2 _ b m hb=>
  split
  ·rfl
  ·next h3=>
   rw[if_neg h1,if_neg h2,hb] at h
   simp only at h
   rw[if_neg h3] at h;exact absurd rfl h
theorem QcU(h:(J1 F d l).2.1=0):QL F=(0,0)∧Zg d l=(0,0)∧∃b m,J1 F d l=(b,(0,0))∧X7 F (.cons d l .nil) [([],some 0)] [] 0=.ok (b,m)∧b.length≤1000:=by
 unfold J1 at h ⊢
 split at h
 ·next h0=>exact absurd (Q7j h) h0
 next h0=>
 have h0:QL F=(0,0):=by simpa using h0
 rw[if_neg (by simpa using h0)]
 split at h
 ·next h1=>exact absurd (QeB h) h1
 next h1=>
 have h1:Zg d l=(0,0):=by simpa using h1
 rw[if_neg (by simpa using h1)];refine⟨h0,h1,?_⟩
 split at h
 ·exact absurd h (by simp)
 ·next b m hb=>
  split at h
  ·exact absurd h (by decide)
  ·next h3=>
   refine⟨b,m,?_,hb,by omega⟩;rw[if_neg h3]
theorem Q7X(h:(Z0 F D).2.1=0):J1 F (Z0 F D).1.1 (Z0 F D).1.2=(D,(0,0)):=by
 obtain⟨h0,hl,d,l,he,hr,hval⟩:=Q5b h;rw[he]
 simp only
 obtain⟨m,hm⟩:=Qaq (VD h0) hr 0
 unfold J1
 rw[if_neg (by simpa using h0),if_neg (by simpa using hval),hm]
 simp only
 rw[if_neg (by omega)]
theorem Q7G(h:(J1 F d l).2.1=0):Z0 F (J1 F d l).1=((d,l),(0,0)):=by
 obtain⟨h0,hval,b,m,he,hw,hl⟩:=QcU h;rw[he]
 simp only
 have hg:=Q4j hval;have hr:=Q7U (VD h0) hg.1 hg.2 hw (f:=V9 F b) Q1n
 unfold Z0
 rw[if_neg (by simpa using h0),if_neg (by omega),hr]
 simp only
 rw[if_neg (by omega),if_neg (by simpa using hval)]
theorem Qbq{E:List UInt8}(h:(Z0 F D).2.1=0)(hE:E≠[])(hl:D.length+E.length≤1000):Z0 F (D++E)=((ndZ,.nil),(1,(D.length:Int))):=by
 obtain⟨h0,_,d,l,he,hr,hval⟩:=Q5b h;have hv:=VD h0;have hpos:0<E.length:=List.length_pos_iff.2 hE;have hx:=Ym (E:=E) hv (V9 F D) (V9 F (D++E)) (by unfold V9;rw[List.length_append];exact Nat.mul_le_mul_right _ (by omega)) (k:=0) ⟨by omega,by have:=hv.len;omega⟩ 0 _ (Nat.zero_le _) hr
 unfold Z0
 rw[if_neg (by simpa using h0),if_neg (by rw[List.length_append];omega),hx]
 simp only
 rw[if_pos (by rw[List.length_append];omega)]
end
structure Py where
 Ab:Option Addr
 nb:Nat
 cb:Nat
 An:Option Addr
 nn:Nat
 cn:Nat
 Ap:Option Addr
 np:Nat
 cp:Nat
 L:List Qc
abbrev Py.cells(y:Py)(d:Nd):List Value:=[.int .i64 d.k,.int .i64 d.n,.slice y.Ab y.nb y.cb,.slice y.An y.nn y.cn,.slice y.Ap y.np y.cp]
def Q6h(F:List Rl)(D:List UInt8)(W:World)(e:Ending)(w':World):Prop:=∃y:Py,e=.returned (.tuple #[.agg (y.cells (Z0 F D).1.1).toArray,.agg #[.int .i64 (Z0 F D).2.1,.int .i64 (Z0 F D).2.2]])∧XA y.L (.agg (y.cells (Z0 F D).1.1).toArray) (Z0 F D).1.1 (Z0 F D).1.2∧New y.L W.heap.size w'∧Below W.heap.size W w'
theorem XA.zero:XA [] (.agg #[.int .i64 0,.int .i64 0,.slice none 0 0,.slice none 0 0,.slice none 0 0]) ndZ .nil:=
 ⟨_,_,_,rfl,fun w _=>⟨none,0,0,none,0,0,none,0,rfl,rfl,rfl,Nat.le_refl _,Nat.le_refl _,Nat.le_refl _,Nat.zero_le _,ZM _ _ _,ZM _ _ _,fun h=>absurd h (Nat.lt_irrefl 0)⟩⟩
theorem Q10{F:List Rl}{D:List UInt8}{W w:World}{c x:Int}(h:Z0 F D=((ndZ,.nil),(c,x)))(hb:Below W.heap.size W w):Q6h F D W (.returned (.tuple #[.agg #[.int .i64 0,.int .i64 0,.slice none 0 0,.slice none 0 0,.slice none 0 0],.agg #[.int .i64 c,.int .i64 x]])) w:=
 ⟨⟨none,0,0,none,0,0,none,0,0,[]⟩,by rw[h],by rw[h];exact XA.zero,New.nil _ _,hb⟩
theorem Q8U{P:Program}{fn:Func}{R:Ending→World→Prop}{N:Nat}{M:List Nat}{W:World}{E:Env}{O:List Qc}{e:Exit}(he:e=.normal∨e=.ret)(h:xE (bodyPost P fn R) N M W E O e):xE (bodyPostD P fn R) N M W E O e:=fun a w ha hw=>by
 have h:=h a w ha hw
 rcases he with rfl|rfl
 ·obtain⟨hd,v,h1,h2⟩:=h
  show Leaves P fn a.tmps R a.defers .returning w
  rw[hd];exact⟨v,h1,h2⟩
 ·obtain⟨hd,v,h1,h2⟩:=h
  show Leaves P fn a.tmps R a.defers .returning w
  rw[hd];exact⟨v,h1,h2⟩
set_option maxRecDepth 100000 in
set_option maxHeartbeats 16000000 in
theorem Q5W{F:List Rl}{D:List UInt8}{A A2:Option Addr}{n c m c2:Nat}{W:World}(hf:Xm W W.heap.size A n F)(hs:FSm F)(hc:n≤c)(hg:GV W)(hz:QL F≠(0,0)):
  Calls Tryz.prog 11 #[.agg #[.slice A n c],.slice A2 m c2] W (Q6h F D W):=by
 have HF:=Lib.hid hf;have HS:=Lib.hid hs;have HG:=Lib.hid hg;have HZ:=Lib.hid hz;obtain⟨⟨a,b⟩,hab⟩:∃p,QL F=p:=⟨_,rfl⟩;have HAB:=Lib.hid hab;clear hf hs hg hz hab
 go_enter_defers Tryz.func11,Tryz.ntmps11
 refine QE (M:=[]) (W:=W) (N:=49) (E:=[(0,.agg #[.slice A n c]),(1,.slice A2 m c2)]) (O:=[]) ?_ (Ag.cons (Ag.cons (Ag.nil rfl rfl) rfl) rfl) (Wd.start [] W);refine yq<|yr ?_;refine yB fun b2=>?_;refine yA fun b4=>?_;refine yA fun b5=>?_;refine yl<|yn<|yq<|yq<|yr<|yo (zD 2) ?_;refine Q1 (Qb rfl rfl (by decide) rfl rfl (fun w hw=>(Xv (HF.out.on hw.k.below) HS.out hc (HG.out.on hw.k.below)).mono (fun e w' h=>by rw[HAB.out] at h;exact h))) ?_;refine yA fun b6=>?_;refine yW 0 ?_;refine yl ?_
 have hne:(!(a==0&&b==0))=true:=by
  have h:=HZ.out;rw[HAB.out] at h;rw[Bool.not_eq_true',Bool.and_eq_false_iff,beq_eq_false_iff_ne,beq_eq_false_iff_ne]
  by_cases h0:a=0
  ·exact .inr fun h1=>h (by rw[h0,h1])
  ·exact .inl h0
 refine yn<|yq<|yr<|yo (zD 0) ?_;refine Q1 (QO (xs:=[]) (vs:=[]) (v:=.agg #[.int .i64 0,.int .i64 0]) rfl rfl (by decide) rfl rfl (fun w=>run_build w _ _ _ (by kernel_rfl))) ?_;refine Q1 (Je rfl rfl (by decide) rfl rfl rfl hne) ?_;refine yl<|yn<|y1<|yq ?_;refine XQ [.blk b6 (.cells ([.int .i64 a,.int .i64 b]:List Value).toArray 32 (0,0))] [] (by kernel_rfl) ?_;refine Qe 0 rfl (by kernel_rfl) (Q2.sel [0] (by decide) rfl) (QO (xs:=[]) (vs:=[]) (v:=.agg #[.int .i64 0,.int .i64 0,.slice none 0 0,.slice none 0 0,.slice none 0 0]) rfl rfl (by decide) rfl rfl (fun w=>run_build w _ _ _ (by kernel_rfl))) ?_;refine Qe 1 rfl (by kernel_rfl) (Q2.sel [0] (by decide) rfl) (zD 0) ?_;refine Qu 2 (by kernel_rfl) rfl rfl (Ql 2 rfl rfl rfl rfl rfl rfl rfl (by simp)) (fun _=>.inr (Q2.sel [0] (by decide) rfl)) rfl (fun _ _=>?_);rw[Qn (by rfl)];refine Qu 3 (by kernel_rfl) rfl rfl (Ql 1 rfl rfl rfl rfl rfl rfl rfl (by simp)) (fun _=>.inr (Q2.sel [0] (by decide) rfl)) rfl (fun _ _=>?_);rw[Qn (by rfl)];refine Xh ?_ (by kernel_rfl);refine yn<|yt<|yc ?_;refine Q8U (.inr rfl) (Ve (.inr rfl) rfl (RsV.blk 2 rfl rfl rfl) (RsV.blk 1 rfl rfl rfl) (fun w hw=>?_))
 have e:Z0 F D=((ndZ,.nil),(a,b)):=by unfold Z0;rw[if_pos HZ.out,HAB.out]
 exact Q10 e hw.k.below
set_option maxRecDepth 100000 in
set_option maxHeartbeats 16000000 in
theorem Q7F{F:List Rl}{D:List UInt8}{A A2:Option Addr}{n c m c2:Nat}{W:World}(hf:Xm W W.heap.size A n F)(hs:FSm F)(hc:n≤c)(hg:GV W)(hz:QL F=(0,0))(hd:Rd W W.heap.size 1 A2 m (bv D))(hl:1000<D.length):
  Calls Tryz.prog 11 #[.agg #[.slice A n c],.slice A2 m c2] W (Q6h F D W):=by
 have HF:=Lib.hid hf;have HS:=Lib.hid hs;have HG:=Lib.hid hg;have HZ:=Lib.hid hz
 have hm:1000<(m:Int):=by have:=hd.len;rw[Xu] at this;omega
 clear hf hs hg hz hd
 go_enter_defers Tryz.func11,Tryz.ntmps11
 refine QE (M:=[]) (W:=W) (N:=49) (E:=[(0,.agg #[.slice A n c]),(1,.slice A2 m c2)]) (O:=[]) ?_ (Ag.cons (Ag.cons (Ag.nil rfl rfl) rfl) rfl) (Wd.start [] W);refine yq<|yr ?_;refine yB fun b2=>?_;refine yA fun b4=>?_;refine yA fun b5=>?_;refine yl<|yn<|yq<|yq<|yr<|yo (zD 2) ?_;refine Q1 (Qb rfl rfl (by decide) rfl rfl (fun w hw=>(Xv (HF.out.on hw.k.below) HS.out hc (HG.out.on hw.k.below)).mono (fun e w' h=>by rw[HZ.out] at h;exact h))) ?_;refine yA fun b6=>?_;refine yW 0 ?_;refine yl ?_;have hne:(!((0:Int)==0&&(0:Int)==0))=false:=rfl;refine yn<|yq<|yr<|yo (zD 0) ?_;refine Q1 (QO (xs:=[]) (vs:=[]) (v:=.agg #[.int .i64 0,.int .i64 0]) rfl rfl (by decide) rfl rfl (fun w=>run_build w _ _ _ (by kernel_rfl))) ?_;refine Q1 (Je rfl rfl (by decide) rfl rfl rfl hne) ?_;refine yl<|yn<|y0<|ys<|yn<|yq<|yq<|yr<|yo zM<|yo zL<|yo zgt<|yl<|yn<|y1<|yq<|yr ?_;refine Q1 (QO (xs:=[]) (vs:=[]) (v:=.agg #[.int .i64 0,.int .i64 0,.slice none 0 0,.slice none 0 0,.slice none 0 0]) rfl rfl (by decide) rfl rfl (fun w=>run_build w _ _ _ (by kernel_rfl))) ?_;refine Q1 (Qb rfl rfl (by decide) rfl rfl (fun w hw=>(J5 _ _ w).mono (fun e w2 h=>⟨h.1,h.2▸Zm _ _⟩))) ?_;refine yW 2 ?_;refine yW 1 ?_;refine yl<|yn<|yt<|yc ?_;refine Q8U (.inr rfl) (Ve (.inr rfl) rfl (RsV.blk 2 rfl rfl rfl) (RsV.blk 1 rfl rfl rfl) (fun w hw=>?_))
 have e:Z0 F D=((ndZ,.nil),(3,-2)):=by unfold Z0;rw[if_neg (by simp [HZ.out]),if_pos hl]
 exact Q10 e hw.k.below
theorem Rd.up{W w:World}{s n:Nat}{A:Option Addr}{xs:List Value}(h:Rd W W.heap.size s A n xs)(hb:Below W.heap.size W w):Rd w w.heap.size s A n xs:=(h.below hb).more hb.size
set_option maxRecDepth 100000 in
set_option maxHeartbeats 4000000 in
theorem V3{r:Rl}{sb sn sp:Value}{n:Int}{W:World}:Calls Tryz.prog 108 #[.agg (ruC r sb sn sp).toArray,.int .i64 n] W fun e w'=>e=.returned (.bool (Ju r n))∧Below W.heap.size W w':=by
 obtain⟨name,kind,bs,size,big,mn,mx,stop,count,elem,names,parts⟩:=r
 simp only[ruC]
 go_enter Tryz.func108,Tryz.ntmps108
 refine QE (M:=[]) (W:=W) (N:=15) (E:=[(0,.agg [.string ⟨name.toArray⟩,.int .i64 kind,sb,.int .i64 size,.bool big,.int .i64 mn,.int .i64 mx,.int .i64 stop,.int .i64 count,.int .i64 elem,sn,sp].toArray),(1,.int .i64 n)]) (O:=[]) ?_ (Ag.cons (Ag.cons (Ag.nil rfl rfl) rfl) rfl) (Wd.start [] W)
 by_cases h1:mn≤n
 ·obtain⟨b,hb⟩:∃b,decide (n≤mx)=b:=⟨_,rfl⟩;refine Q9 (Q3 ?_);refine yB fun b2=>?_;refine Q1 zA ?_;refine Q8 ?_;refine QH (Q9 (Q3 ?_));refine Q1 zM ?_;refine Q1 zF ?_;refine Q1 (zB 0) ?_;refine Q1 zht ?_;refine Q1 zM ?_;refine Q1 zM ?_;refine Q1 zF ?_;refine Q1 (zB 0) ?_;refine Q1 (Q5Y rfl rfl (by decide) rfl rfl rfl (by assumption)) ?_;refine Q1 zY ?_;refine Q1 zA ?_;refine Q8 ?_;refine QH (Qr ?_);exact Q7 (by exact .inr rfl) rfl (.tmp rfl) (fun w hw=>⟨by unfold Ju;simp only;rw[decide_eq_true h1,hb];rfl,hw.k.below⟩)
 ·refine Q9 (Q3 ?_);refine yB fun b2=>?_;refine Q1 zA ?_;refine Q8 ?_;refine QH (Q9 (Q3 ?_));refine Q1 zM ?_;refine Q1 zF ?_;refine Q1 (zB 0) ?_;refine Q1 zhf ?_;refine Q1 zM ?_;refine Q1 zS ?_;refine Q1 zS ?_;refine Q1 zS ?_;refine Q1 zS ?_;refine Q1 zN ?_;refine Q1 zA ?_;refine Q8 ?_;refine QH (Qr ?_);exact Q7 (by exact .inr rfl) rfl (.tmp rfl) (fun w hw=>⟨by unfold Ju;simp only;rw[decide_eq_false h1];rfl,hw.k.below⟩)
set_option maxRecDepth 100000 in
theorem Q72(s:ByteArray)(W:World):Calls Tryz.prog 112 #[.string s] W fun e w'=>e=.returned (.bool (s.data.toList==[]))∧Below W.heap.size W w':=by
 go_enter Tryz.func112,Tryz.ntmps112
 refine QE (M:=[]) (W:=W) (N:=5) (E:=[(0,.string s)]) (O:=[]) ?_ (Ag.cons (Ag.nil rfl rfl) rfl) (Wd.start [] W);refine Q9 (Q3 ?_);refine Q1 zA ?_;refine Q8 ?_;refine QH (Q9 (Q3 ?_));refine Q1 zM ?_;refine Q1 (Q09 rfl rfl (by decide) rfl rfl rfl (by rfl)) ?_;refine Q1 zA ?_;refine Q8 ?_;refine QH (Qr ?_);exact Q7 (by exact .inr rfl) rfl (.tmp rfl) (fun w hw=>⟨rfl,hw.k.below⟩)
theorem Qfj{w:World}{B n i:Nat}{A:Option Addr}{bs:List UInt8}(h:Rd w B 1 A n (bv bs))(hi:i<n):∃b o c,A=some ⟨b,o,none⟩∧b<B∧bs[i]? =some c∧w.cell? ⟨b,o+i,none⟩=some (.int .u8 (c.toNat:Int)):=by
 have hl:bs.length=n:=by have:=h.len;rw[Xu] at this;exact this
 obtain⟨b,o,e,hb,hc⟩:=h.2 (by omega);have hx:bs[i]? =some bs[i]:=List.getElem?_eq_getElem (by omega);refine⟨b,o,bs[i],e,hb,hx,hc i _ ?_⟩
 unfold bv
 rw[List.getElem?_map,hx]
 rfl
set_option maxRecDepth 100000 in
set_option maxHeartbeats 4000000 in
theorem Q2P{W:World}{A:Option Addr}{n c:Nat}{bs:List UInt8}(hr:Rd W W.heap.size 1 A n (bv bs))(hn:n≤1048576)(x:UInt8):Calls Tryz.prog 145 #[.slice A n c,.int .u8 (x.toNat:Int)] W fun e w'=>∃i:Int,e=.returned (.int .i64 i)∧(decide (0≤i))=bs.contains x∧Below W.heap.size W w':=by
 have HR:=Lib.hid hr
 have hl:bs.length=n:=by have:=hr.len;rw[Xu] at this;exact this
 clear hr
 go_enter Tryz.func145,Tryz.ntmps145
 refine QE (M:=[]) (W:=W) (N:=19) (E:=[(0,.slice A n c),(1,.int .u8 (x.toNat:Int))]) (O:=[]) ?_ (Ag.cons (Ag.cons (Ag.nil rfl rfl) rfl) rfl) (Wd.start [] W);refine Q9 (Q3 ?_);refine Q1 zA ?_;refine Q8 ?_;refine QH (Q9 (Q9 (Q3 ?_)));refine Q1 zM ?_;refine Q1 zL ?_;refine Q1 zM ?_;refine Q8 ?_;refine QH (Qi ?_);refine Z8 (ι:=Nat) (fun k=>k≤n∧∀y∈bs.take k,y≠x) (fun k=>n - k) (fun k=>[(0,.slice A n c),(1,.int .u8 (x.toNat:Int)),(7,.int .i64 (n:Int)),(8,.int .i64 (k:Int))]) (fun _=>[]) 0 ⟨Nat.zero_le _,by simp⟩ (.cons rfl rfl (.cons rfl rfl (.cons rfl rfl (.cons rfl rfl .nil)))) (fun w hw=>hw) ?_
 rintro k ⟨hk,hall⟩
 have HA:=Lib.hid hall;clear hall
 by_cases hkn:k<n
 ·obtain⟨b,o,y,rfl,hb,hy,hc⟩:=Qfj HR.out hkn
  by_cases hxy:y=x
  ·subst hxy
   have he:((y.toNat:Int)==(y.toNat:Int))=true:=by simp
   refine Q9 (Q3 ?_);refine Q1 zlt ?_;refine Q8 ?_;refine QH (Q9 (Qa rfl (Qt (QH (Q9 (Qi (Q9 (Q3 ?_))))))));refine Q1 zM ?_;refine Q1 zA ?_;refine Q8 ?_;refine QH (Q9 (Q3 ?_));refine Q1 zM ?_;refine Q1 zM ?_;refine Q1 zM ?_;refine Q1 (zi1 (hj:=hkn)) ?_;refine Q1 (zG hc) ?_;refine Q1 zea ?_;refine Q8 ?_;refine QH (Qa rfl (Q9 (Q3 ?_)));refine Q1 zM ?_;refine Q1 zA ?_;refine Q8 ?_;refine QH (Qr (Qg (Qf (Qf (Qg (Qf ?_))))));refine Q7 (by exact .inr rfl) rfl (.tmp rfl) (fun w hw=>⟨(k:Int),rfl,?_,hw.k.below⟩);rw[decide_eq_true (by omega)]
   symm
   rw[List.contains_iff_mem];exact List.mem_of_getElem? hy
  ·have he:((x.toNat:Int)==(y.toNat:Int))=false:=by
    rw[beq_eq_false_iff_ne];intro e;exact hxy (UInt8.toNat_inj.1 (by omega))
   refine Q9 (Q3 ?_);refine Q1 zlt ?_;refine Q8 ?_;refine QH (Q9 (Qa rfl (Qt (QH (Q9 (Qi (Q9 (Q3 ?_))))))));refine Q1 zM ?_;refine Q1 zA ?_;refine Q8 ?_;refine QH (Q9 (Q3 ?_));refine Q1 zM ?_;refine Q1 zM ?_;refine Q1 zM ?_;refine Q1 (zi1 (hj:=hkn)) ?_;refine Q1 (zG hc) ?_;refine Q1 zea ?_;refine Q8 ?_;refine QH (Q6 rfl (Qt (QH (Q3 ?_))));refine Q1 zP ?_;refine Q1 zM ?_;refine Q8 ?_;refine Xb (k+1) ⟨hkn,fun z hz=>?_⟩ (by omega) (.cons rfl rfl (.cons rfl rfl (.cons rfl rfl (.cons rfl (by go_num) .nil)))) (fun w hw=>hw);rw[List.take_add_one,hy] at hz
   simp only[Option.toList_some,List.mem_append,List.mem_singleton] at hz
   rcases hz with hz|rfl
   ·exact HA.out z hz
   ·exact hxy
 ·refine Q9 (Q3 ?_);refine Q1 zlf ?_;refine Q8 ?_;refine QH (Q9 (Q6 rfl (XL (QH (Q9 (Q3 ?_))))));refine Q1 zA ?_;refine Q8 ?_;refine QH (Qr ?_);refine Q7 (by exact .inr rfl) rfl (.tmp rfl) (fun w hw=>⟨-1,rfl,?_,hw.k.below⟩);rw[decide_eq_false (by omega)]
  symm
  rw[← Bool.not_eq_true,List.contains_iff_mem];intro hm;have:bs.take k=bs:=List.take_of_length_le (by omega);exact HA.out x (by rw[this];exact hm) rfl
set_option maxRecDepth 100000 in
theorem KS{W:World}{A:Option Addr}{n c:Nat}{bs:List UInt8}(hr:Rd W W.heap.size 1 A n (bv bs))(hn:n≤1048576)(x:UInt8):Calls Tryz.prog 109 #[.slice A n c,.int .u8 (x.toNat:Int)] W fun e w'=>e=.returned (.bool (bs.contains x))∧Below W.heap.size W w':=by
 have HR:=Lib.hid hr;clear hr
 go_enter Tryz.func109,Tryz.ntmps109
 refine QE (M:=[]) (W:=W) (N:=9) (E:=[(0,.slice A n c),(1,.int .u8 (x.toNat:Int))]) (O:=[]) ?_ (Ag.cons (Ag.cons (Ag.nil rfl rfl) rfl) rfl) (Wd.start [] W);refine Q9 (Q3 ?_);refine Q1 zA ?_;refine Q8 ?_;refine QH (Q9 (Q3 ?_));refine Q1 zM ?_;refine Q1 zM ?_;refine Qo (QM (fun i:Int=>.int .i64 i) (fun i=>decide (0≤i)=bs.contains x) (fun _=>[]) rfl rfl rfl (fun w hw=>(Q2P (HR.out.up hw.k.below) hn x).mono (fun e w' ⟨i,h1,h2,h3⟩=>⟨i,h1,h2,hw.on h3⟩))) rfl (by decide) (fun i hi=>?_);refine Q1 (Q8Y rfl rfl (by decide) rfl rfl rfl (by assumption)) ?_;refine Q1 zA ?_;refine Q8 ?_;refine QH (Qr ?_);exact Q7 (by exact .inr rfl) rfl (.tmp rfl) (fun w hw=>⟨rfl,hw.k.below⟩)
set_option maxRecDepth 100000 in
set_option maxHeartbeats 4000000 in
theorem Q2f{W:World}{A A2:Option Addr}{n c m c2:Nat}{xs ys:List (List UInt8)}(h1:Rd W W.heap.size 1 A n (sv xs))(h2:Rd W W.heap.size 1 A2 m (sv ys))(hn:n≤1048576):Calls Tryz.prog 113 #[.slice A n c,.slice A2 m c2] W fun e w'=>e=.returned (.bool (xs==ys))∧Below W.heap.size W w':=by
 have H1:=Lib.hid h1;have H2:=Lib.hid h2
 have hl1:xs.length=n:=by have:=h1.len;unfold sv at this;simpa using this
 have hl2:ys.length=m:=by have:=h2.len;unfold sv at this;simpa using this
 clear h1 h2
 go_enter Tryz.func113,Tryz.ntmps113
 refine QE (M:=[]) (W:=W) (N:=26) (E:=[(0,.slice A n c),(1,.slice A2 m c2)]) (O:=[]) ?_ (Ag.cons (Ag.cons (Ag.nil rfl rfl) rfl) rfl) (Wd.start [] W)
 by_cases hnm:n=m
 case neg=>
  have hne:(xs==ys)=false:=by
   rw[beq_eq_false_iff_ne];intro e;rw[e] at hl1
   omega
  refine Q9 (Q3 ?_);refine Q1 zA ?_;refine Q8 ?_;refine QH (Q9 (Q9 (Q3 ?_)));refine Q1 zM ?_;refine Q1 zL ?_;refine Q1 zM ?_;refine Q1 zL ?_;refine Q1 znt ?_;refine Q8 ?_;refine QH (Qa rfl (Q9 (Q3 ?_)));refine Q1 zA ?_;refine Q8 ?_;refine QH (Qr (Qf ?_));exact Q7 (by exact .inr rfl) rfl (.tmp rfl) (fun w hw=>⟨by rw[hne],hw.k.below⟩)
 subst hnm;refine Q9 (Q3 ?_);refine Q1 zA ?_;refine Q8 ?_;refine QH (Q9 (Q9 (Q3 ?_)));refine Q1 zM ?_;refine Q1 zL ?_;refine Q1 zM ?_;refine Q1 zL ?_;refine Q1 znf ?_;refine Q8 ?_;refine QH (Q6 rfl (Qt (QH (Q9 (Q9 (Q3 ?_))))));refine Q1 zM ?_;refine Q1 zL ?_;refine Q1 zM ?_;refine Q8 ?_;refine QH (Qi ?_);refine Z8 (ι:=Nat) (fun k=>k≤n∧xs.take k=ys.take k) (fun k=>n - k) (fun k=>[(0,.slice A n c),(1,.slice A2 n c2),(12,.int .i64 (n:Int)),(13,.int .i64 (k:Int))]) (fun _=>[]) 0 ⟨Nat.zero_le _,rfl⟩ (.cons rfl rfl (.cons rfl rfl (.cons rfl rfl (.cons rfl rfl .nil)))) (fun w hw=>hw) ?_
 rintro k ⟨hk,hall⟩
 have HA:=Lib.hid hall;clear hall
 by_cases hkn:k<n
 ·obtain⟨b,o,s,rfl,hb,hs,hc⟩:=YW H1.out hkn;obtain⟨b2,o2,s2,rfl,hb2,hs2,hc2⟩:=YW H2.out hkn
  by_cases hss:s.data.toList=s2.data.toList
  ·have he:(s.data.toList != s2.data.toList)=false:=bne_eq_false_iff_eq.2 hss;refine Q9 (Q3 ?_);refine Q1 zlt ?_;refine Q8 ?_;refine QH (Q9 (Qa rfl (Qt (QH (Q9 (Qi (Q9 (Q3 ?_))))))));refine Q1 zM ?_;refine Q1 zA ?_;refine Q8 ?_;refine QH (Q9 (Xj (by kernel_rfl) (by kernel_rfl) ?_));refine Q5 zM ?_;refine Q5 zM ?_;refine Q5 (zi1 (hj:=hkn)) ?_;refine Q5 (zG hc) ?_;refine Q5 zM ?_;refine Q5 zM ?_;refine Q5 (zi1 (hj:=hkn)) ?_;refine Q5 (zG hc2) ?_;refine Q5 (YM rfl rfl (by decide) rfl rfl rfl (by assumption)) ?_;refine XM ?_;refine QH (Q6 rfl (Qt (QH (Q3 ?_))));refine Q1 zP ?_;refine Q1 zM ?_;refine Q8 ?_;refine Xb (k+1) ⟨hkn,?_⟩ (by omega) (.cons rfl rfl (.cons rfl rfl (.cons rfl rfl (.cons rfl (by go_num) .nil)))) (fun w hw=>hw);rw[List.take_add_one,List.take_add_one,HA.out,hs,hs2,hss]
  ·have he:(s.data.toList != s2.data.toList)=true:=bne_iff_ne.2 hss
   have hne:(xs==ys)=false:=by
    rw[beq_eq_false_iff_ne];intro e;rw[e,hs2] at hs;exact hss (Option.some.inj hs).symm
   refine Q9 (Q3 ?_);refine Q1 zlt ?_;refine Q8 ?_;refine QH (Q9 (Qa rfl (Qt (QH (Q9 (Qi (Q9 (Q3 ?_))))))));refine Q1 zM ?_;refine Q1 zA ?_;refine Q8 ?_;refine QH (Q9 (Xj (by kernel_rfl) (by kernel_rfl) ?_));refine Q5 zM ?_;refine Q5 zM ?_;refine Q5 (zi1 (hj:=hkn)) ?_;refine Q5 (zG hc) ?_;refine Q5 zM ?_;refine Q5 zM ?_;refine Q5 (zi1 (hj:=hkn)) ?_;refine Q5 (zG hc2) ?_;refine Q5 (YM rfl rfl (by decide) rfl rfl rfl (by assumption)) ?_;refine XM ?_;refine QH (Qa rfl (Q9 (Q3 ?_)));refine Q1 zA ?_;refine Q8 ?_;refine QH (Qr (Qg (Qf (Qf (Qg (Qf ?_))))));exact Q7 (by exact .inr rfl) rfl (.tmp rfl) (fun w hw=>⟨by rw[hne],hw.k.below⟩)
 ·refine Q9 (Q3 ?_);refine Q1 zlf ?_;refine Q8 ?_;refine QH (Q9 (Q6 rfl (XL (QH (Q9 (Q3 ?_))))));refine Q1 zA ?_;refine Q8 ?_;refine QH (Qr ?_);refine Q7 (by exact .inr rfl) rfl (.tmp rfl) (fun w hw=>⟨?_,hw.k.below⟩);have h3:xs.take k=xs:=List.take_of_length_le (by omega);have h4:ys.take k=ys:=List.take_of_length_le (by omega);have:=HA.out;rw[h3,h4] at this;rw[this,beq_self_eq_true]
end Go.Proofs.YtphkhfdmlcnoeaaGreatDoor
