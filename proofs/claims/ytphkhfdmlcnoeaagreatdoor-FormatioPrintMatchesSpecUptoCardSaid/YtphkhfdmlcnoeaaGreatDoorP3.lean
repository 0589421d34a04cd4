import Derived.Test.YtphkhfdmlcnoeaaGreatDoorP2
namespace Go.Proofs.YtphkhfdmlcnoeaaGreatDoor
set_option linter.unusedVariables false
set_option linter.unusedSimpArgs false
set_option maxRecDepth 1000000
set_option maxHeartbeats 32000000
open Go.RowKit
section
variable {a:Act}{b id j n s:Nat}{c x y:Code}{fr:Nat×Nat}{t:TypeId}{v:Value}{xs:List Value}{ι:Type}
structure XM(M:List Nat)(W w:World):Prop where
 os:w.os=W.os
 tape:w.tape=W.tape
 output:w.output=W.output
 size:W.heap.size<=w.heap.size
 block:∀k,k<W.heap.size->k∉M->w.heap[k]? =W.heap[k]?
theorem XM.refl(M:List Nat)(W:World):XM M W W:=⟨rfl,rfl,rfl,Nat.le_refl _,fun _ _ _=>rfl⟩
theorem XM.of_below{M:List Nat}{W w:World}(h:Below W.heap.size W w):XM M W w:=⟨h.os,h.tape,h.output,h.size,fun k hk _=>h.block k hk⟩
theorem XM.below{W w:World}(h:XM [] W w):Below W.heap.size W w:=⟨h.os,h.tape,h.output,h.size,fun k hk=>h.block k hk Qn⟩
theorem XM.trans{M M':List Nat}{W w w':World}(h:XM M W w)(k:XM M' w w')(hM:∀b∈M',b<W.heap.size->b∈M):XM M W w':=
 ⟨k.os.trans h.os,k.tape.trans h.tape,k.output.trans h.output,Nat.le_trans h.size k.size,fun b hb hn=>(k.block b (Nat.lt_of_lt_of_le hb h.size) (fun hm=>hn (hM b hm hb))).trans (h.block b hb hn)⟩
inductive Qf where
 |blk (b:Nat) (o:Obj)
 |row (A:Option Addr) (n c:Nat) (e:TypeId) (s:Nat) (xs:List Value)
 |rd (A:Option Addr) (n:Nat) (s:Nat) (xs:List Value)
def Qf.foot:Qf->Option Nat
 |.blk b _=>some b
 |.row A n c _ _ _=>(Value.slice A n c).ownBlock
 |.rd A n _ _=>if n=0 then none else A.map (·.block)
def Qf.w:Qf->Bool
 |.rd .. =>false
 |_=>true
def Qf.on(w:World):Qf->Prop
 |.blk b o=>w.heap[b]? =some o
 |.row A n c e s xs=>w.ownsRow 0 e s (.slice A n c) n xs
 |.rd A n s xs=>Rd w w.heap.size s A n xs
def Qf.none_:Qf:=.row none 0 0 0 0 []
theorem Qf.none_on(w:World):Qf.none_.on w:=World.ownsRow_nil w 0 0 0
theorem Qf.on.lt{w:World}{x:Qf}(h:x.on w){b:Nat}(hb:x.foot=some b):b<w.heap.size:=by
 cases x with
 |blk b' o=>cases hb;exact(Array.getElem?_eq_some_iff.1 h).1
 |row A n c e s xs=>exact(World.ownsRow.lt h b hb).2
 |rd A n s xs=>
  simp only[Qf.foot] at hb;split at hb
  ·cases hb
  ·rename_i hn
   obtain⟨b',o,rfl,hlt,_⟩:=h.2 Q3;cases hb;exact hlt
theorem Qf.on.keep{w w':World}{x:Qf}(h:x.on w)(hs:w.heap.size<=w'.heap.size)(hb:∀b,x.foot=some b->w'.heap[b]? =w.heap[b]?):x.on w':=by
 cases x with
 |blk b o=>exact(hb b rfl).trans h
 |row A n c e s xs=>
  refine⟨h.1,?_⟩;rcases h.2 with hn|⟨g,cap,cur,hv,h0,hg,r⟩
  ·exact .inl hn
  ·refine .inr ⟨g,cap,cur,hv,h0,?_,r⟩
   rw[hb g (by simp only[Qf.foot];rw[hv];rfl)];exact hg
 |rd A n s xs=>
  refine⟨h.1,fun hn=>?_⟩;obtain⟨b,o,rfl,hlt,hc⟩:=h.2 hn;have hf:=hb b (by simp only[Qf.foot];rw[if_neg Q3];rfl);exact⟨b,o,rfl,Nat.lt_of_lt_of_le hlt hs,fun j u hu=>(World.cell?_of_block (w:=w) (by exact hf)).trans (hc j u hu)⟩
structure Wd(M:List Nat)(W:World)(O:List Qf)(w:World):Prop where
 k:XM M W w
 own:∀(i:Nat) (x:Qf),O[i]? =some x->x.on w
 new:∀(i:Nat) (x:Qf) (b:Nat),O[i]? =some x->x.foot=some b->b<W.heap.size->(if x.w then b∈M else b∉M)
 nd:∀(i j:Nat) (x y:Qf) (b:Nat),O[i]? =some x->O[j]? =some y->x.foot=some b->y.foot=some b->(x.w||y.w)=true->i=j
section
variable {M:List Nat}{W w w':World}{O:List Qf}
theorem Wd.start(M:List Nat)(W:World):Wd M W [] W:=⟨XM.refl _ _,by simp,by simp,by simp⟩
theorem Wd.on(h:Wd M W O w)(hb:Below w.heap.size w w'):Wd M W O w':=
 ⟨h.k.trans (XM.of_below (M:=[]) hb) Qn,fun i x hx=>(h.own i x hx).keep hb.size (fun b hf=>hb.block b ((h.own i x hx).lt hf)),h.new,h.nd⟩
theorem Wd.drew(h:Wd M W O w):Wd M W O w.drew:=h.on (Below.refl _ w).drew
theorem Wd.add{y:Qf}(h:Wd M W O w)(hy:y.on w)(hf:∀b,y.foot=some b->b<W.heap.size->(if y.w then b∈M else b∉M))(hd:∀(i:Nat) (x:Qf) (b:Nat),O[i]? =some x->x.foot=some b->y.foot=some b->(x.w||y.w)=false):Wd M W (y::O) w:=by
 refine⟨h.k,?_,?_,?_⟩
 ·intro i x hx
  cases i with
  |zero=>simp at hx;subst hx;exact hy
  |succ i=>exact h.own i x Q7G
 ·intro i x b hx hfx hlt
  cases i with
  |zero=>simp at hx;subst hx;exact hf b hfx hlt
  |succ i=>exact h.new i x b Q7G hfx hlt
 ·intro i j x y' b hx hy' hfx hfy hww
  cases i with
  |zero=>
   cases j with
   |zero=>rfl
   |succ j=>
    simp at hx;subst hx;have h1:=hd j y' b (by simpa using hy') hfy hfx;rw[Bool.or_comm] at h1;rw[h1] at hww;cases hww
  |succ i=>
   cases j with
   |zero=>
    simp at hy';subst hy';have h1:=hd i x b Q7G hfx hfy;rw[h1] at hww;cases hww
   |succ j=>rw[h.nd i j x y' b Q7G (by simpa using hy') hfx hfy hww]
theorem Wd.push{y:Qf}(h:Wd M W O w)(hb:Below w.heap.size w w')(hy:y.on w')(hf:∀b,y.foot=some b->w.heap.size<=b):Wd M W (y::O) w':=by
 refine(h.on hb).add hy (fun b hfy hlt=>?_) (fun i x b hx hfx hfy=>?_)
 ·have:=hf b hfy;have:=h.k.size;omega
 ·have:=hf b hfy
  have:=(h.own i x hx).lt hfx;omega
theorem Wd.upd{i:Nat}{x y:Qf}(h:Wd M W O w)(hx:O[i]? =some x)(hxw:x.w=true)(hyw:y.w=true)(hg:w.grownBy w' x.foot)(hy:y.on w')(hf:∀b,y.foot=some b->x.foot=some b\/w.heap.size<=b):Wd M W (O.set i y) w':=by
 have hi:i<O.length:=(List.getElem?_eq_some_iff.1 hx).1;have hset:∀(j:Nat) (z:Qf),(O.set i y)[j]? =some z->(j=i/\z=y)\/(j≠i/\O[j]? =some z):=by
  intro j z hz;rw[List.getElem?_set] at hz;by_cases hij:i=j
  ·subst hij
   rw[if_pos rfl,if_pos hi] at hz;cases hz;exact .inl ⟨rfl,rfl⟩
  ·rw[if_neg hij] at hz
   exact .inr ⟨fun e=>hij e.symm,hz⟩
 have hapart:∀(j:Nat) (z:Qf) (b:Nat),j≠i->O[j]? =some z->z.foot=some b->x.foot≠some b:=fun j z b hne hz hfz hfx=>hne (h.nd j i z x b hz hx hfz hfx (by rw[hxw,Bool.or_true]));refine⟨⟨hg.os.trans h.k.os,hg.tape.trans h.k.tape,hg.output.trans h.k.output,Nat.le_trans h.k.size hg.size,fun k hk hn=>?_⟩,?_,?_,?_⟩
 ·rw[hg.block k (Nat.lt_of_lt_of_le hk h.k.size) (fun e=>hn (by have:=h.new i x k hx e.symm hk;rwa [hxw] at this))]
  exact h.k.block k hk hn
 ·intro j z hz
  rcases hset j z hz with ⟨_,rfl⟩|⟨hne,hz'⟩
  ·exact hy
  ·exact(h.own j z hz').keep hg.size (fun b hfz=>hg.block b ((h.own j z hz').lt hfz) (fun e=>hapart j z b hne hz' hfz e.symm))
 ·intro j z b hz hfz hlt
  rcases hset j z hz with ⟨_,rfl⟩|⟨hne,hz'⟩
  ·rcases hf b hfz with h1|h1
   ·have:=h.new i x b hx h1 hlt
    rw[hxw] at this;rwa [hyw]
   ·have:=h.k.size;omega
  ·exact h.new j z b hz' hfz hlt
 ·intro j j' z z' b hz hz' hfz hfz' hww
  rcases hset j z hz with ⟨rfl,rfl⟩|⟨hne,hz1⟩
  ·rcases hset j' z' hz' with ⟨rfl,_⟩|⟨hne',hz1'⟩
   ·rfl
   ·rcases hf b hfz with h1|h1
    ·exact absurd h1 (hapart j' z' b hne' hz1' hfz')
    ·have:=(h.own j' z' hz1').lt hfz';omega
  ·rcases hset j' z' hz' with ⟨rfl,rfl⟩|⟨hne',hz1'⟩
   ·rcases hf b hfz' with h1|h1
    ·exact absurd h1 (hapart j z b hne hz1 hfz)
    ·have:=(h.own j z hz1).lt hfz;omega
   ·exact h.nd j j' z z' b hz1 hz1' hfz hfz' hww
theorem Wd.sel(is:List Nat)(hn:is.Nodup)(h:Wd M W O w):Wd M W (is.map fun i=>O.getD i Qf.none_) w:=by
 have hat:∀(p:Nat) (z:Qf),(is.map fun i=>O.getD i Qf.none_)[p]? =some z->∃i:Nat,is[p]? =some i/\(O[i]? =some z\/z=Qf.none_):=by
  intro p z hz;rw[List.getElem?_map] at hz;cases hi:is[p]? with
  |none=>rw[hi] at hz;cases hz
  |some i=>
   rw[hi] at hz;simp only[Option.map_some,Option.some.injEq] at hz;refine⟨i,rfl,?_⟩;rw[List.getD_eq_getElem?_getD] at hz;cases ho:O[i]? with
   |none=>rw[ho] at hz;exact .inr hz.symm
   |some y=>rw[ho] at hz;left;rw[<- hz];rfl
 refine⟨h.k,?_,?_,?_⟩
 ·intro p z hz
  obtain⟨i,_,hi|rfl⟩:=hat p z hz
  ·exact h.own i z hi
  ·exact Qf.none_on w
 ·intro p z b hz hf hlt
  obtain⟨i,_,hi|rfl⟩:=hat p z hz
  ·exact h.new i z b hi hf hlt
  ·cases hf
 ·intro p q z z' b hz hz' hf hf' hww
  obtain⟨i,hp,hi|rfl⟩:=hat p z hz
  ·obtain⟨j,hq,hj|rfl⟩:=hat q z' hz'
   ·have hij:=h.nd i j z z' b hi hj hf hf' hww
    subst hij;exact(List.getElem?_inj (List.getElem?_eq_some_iff.1 hp).1 hn).1 (hp.trans hq.symm)
   ·cases hf'
  ·cases hf
theorem Wd.cell_blk(i:Nat){cs:Array Value}(hx:O[i]? =some (.blk b (.cells cs t fr)))(hc:cs[j]? =some v)(h:Wd M W O w):w.cell? ⟨b,j,none⟩=some v:=by
 rw[cell_of_row w b j cs t fr (h.own i _ hx)];exact hc
theorem Wd.cell_blkL(i:Nat){cs:List Value}(hx:O[i]? =some (.blk b (.cells cs.toArray t fr)))(hc:cs[j]? =some v)(h:Wd M W O w):w.cell? ⟨b,j,none⟩=some v:=
 h.cell_blk i hx (by simpa using hc)
theorem Wd.cell_row(i:Nat){c:Nat}{e:TypeId}(hx:O[i]? =some (.row (some ⟨b,0,none⟩) n c e s xs))(hc:xs[j]? =some v)(h:Wd M W O w):w.cell? ⟨b,j,none⟩=some v:=by
 have:=World.ownsRow.cells (h.own i _ hx) (g:=b) rfl j v hc;rwa [Addr.add_mid,Nat.zero_add] at this
theorem Wd.cell_rd(i:Nat){q:Nat}(hx:O[i]? =some (.rd (some ⟨b,q,none⟩) n s xs))(hc:xs[j]? =some v)(h:Wd M W O w):w.cell? ⟨b,q+j,none⟩=some v:=by
 have hr:Rd w w.heap.size s (some ⟨b,q,none⟩) n xs:=h.own i _ hx;have hn:0<n:=by
  rcases Nat.eq_zero_or_pos n with h0|h0
  ·subst h0
   rw[hr.empty] at hc;cases hc
  ·exact h0
 obtain⟨b',o,e,_,hcc⟩:=hr.2 hn;cases e;exact hcc j v hc
theorem Wd.cell_old{p:Addr}(hc:W.cell? p=some v)(hM:p.block∉M)(h:Wd M W O w):w.cell? p=some v:=by
 rw[World.cell?_of_block (w:=W) (h.k.block p.block (Q3z hc) hM)];exact hc
end
inductive Q7h (E:Env):Env->Prop
 |nil:Q7h E []
 |cons {i:Nat} {u v:Value} {E':Env} (h:E.lookup i=some u) (e:u=v) (r:Q7h E E'):Q7h E ((i,v)::E')
theorem Q7h.ag[dq:DQ]{N:Nat}{E E':Env}(h:Q7h E E')(ha:Ag N E a):Ag N E' a:=by
 induction h with
 |nil=>exact Ag.nil ha.sz ha.df
 |cons h e r ih=>subst e;exact Ag.cons ih (ha.at_ h)
def JX(P:Program)(w:World)(v:Value):Result Next->Prop
 |.ok (.value u) w'=>w'=w/\u=v
 |.ok .skip w'=>w'=w/\v=undef
 |.ok (.enter f args) w'=>w'=w/\Calls P f args w (fun e w''=>e=.returned v/\Below w.heap.size w w'')
 |_=>False
def oE[dq:DQ](P:Program)(ops:Array Oper)(C:World->Prop)(N:Nat)(E E':Env)(o:Oper):Prop:=
 ∀a,Ag N E a->if Region.wanted o (yielded ops a.tmps) then ∃v,(∀w,C w->JX P w v ((execOp a.eval o).run P w))/\Ag N E' (a.put o.dst v) else Ag N E' (a.put o.dst undef)
theorem Q53{P:Program}{o:Oper}{C:World->Prop}(hC:∀w w',C w->Below w.heap.size w w'->C w'){w:World}(hw:C w)(h:JX P w v ((execOp a.eval o).run P w)):o.quietAt P a C w v:=by
 unfold Oper.quietAt;generalize (execOp a.eval o).run P w=r at h;cases r with
 |ok n w'=>
  cases n<;>simp only[JX] at h<;>simp only[Oper.quietUpon]
  case value u=>exact h
  case skip=>exact h
  case enter f args=>exact⟨h.1,h.2.mono fun e w'' ⟨he,hb⟩=>⟨he,hC _ _ hw hb⟩⟩
 |halt x w'=>simp only[JX] at h
def lE[dq:DQ](P:Program)(ops:Array Oper)(Q:Exit->Act->World->Prop)(N:Nat)(M:List Nat)(W:World)(E:Env)(O:List Qf)(l:List Oper):Prop:=
 ∀a w,Ag N E a->Wd M W O w->wpList P ops Q l a w
def sE[dq:DQ](P:Program)(Q:Exit->Act->World->Prop)(N:Nat)(M:List Nat)(W:World)(E:Env)(O:List Qf)(c:Code):Prop:=
 ∀a w,Ag N E a->Wd M W O w->c.wp P Q a w
def xE[dq:DQ](Q:Exit->Act->World->Prop)(N:Nat)(M:List Nat)(W:World)(E:Env)(O:List Qf)(e:Exit):Prop:=
 ∀a w,Ag N E a->Wd M W O w->Q e a w
section
variable {P:Program}{ops:Array Oper}{C:World->Prop}{Q0:Act->Prop}{Q:Exit->Act->World->Prop}{N:Nat}{E E':Env}{o:Oper}{rest:List Oper}{M:List Nat}{W:World}{O:List Qf}
theorem Qe[dq:DQ](h1:oE P ops (Wd M W O) N E E' o)(h2:qE P ops (Wd M W O) Q0 N E' rest):qE P ops (Wd M W O) Q0 N E (o::rest):=fun a ha=>by
 have h:=h1 a ha;unfold wpQuiet;split at h
 ·rename_i hw
  rw[if_pos hw];obtain⟨v,hv,hE⟩:=h;exact⟨v,fun w hC=>Q53 (fun _ _ hw hb=>hw.on hb) hC (hv w hC),h2 _ hE⟩
 ·rename_i hw
  rw[if_neg hw];exact h2 _ h
theorem Q4[dq:DQ](h1:oE P ops (Wd M W O) N E E' o)(h2:lE P ops Q N M W E' O rest):lE P ops Q N M W E O (o::rest):=fun a w ha hw=>by
 have h:=h1 a ha;refine wpList_step fun K hK=>?_;split at h
 ·rename_i hwt
  rw[if_pos hwt];obtain⟨v,hv,hE⟩:=h;exact Oper.wp_of_quiet (C:=Wd M W O) (K:=Ag N E') hw (fun a' w' hw' ha'=>hK a' w' (h2 a' w' ha' hw')) ⟨v,fun w hC=>Q53 (fun _ _ hw hb=>hw.on hb) hC (hv w hC),hE⟩
 ·rename_i hwt
  rw[if_neg hwt];exact hK _ _ (h2 _ w h hw)
theorem Qg[dq:DQ](h:xE Q N M W E O .normal):lE P ops Q N M W E O []:=fun a w ha hw=>wpList_nil Q31
theorem JW[dq:DQ](h:xE Q N M W E O .normal):qE P ops (Wd M W O) (fun a'=>∀w',Wd M W O w'->Q .normal a' w') N E []:=qE.nil fun a ha w' hw=>h a w' ha hw
theorem Qz[dq:DQ]{w:World}(h:sE P Q N M W E O c)(ha:Ag N E a)(hw:Wd M W O w):c.wp P Q a w:=h a w ha hw
theorem Qa[dq:DQ]{x y:Code}(h:sE P (Exit.then (fun a w=>y.wp P Q a w) Q) N M W E O x):sE P Q N M W E O (.seq x y):=fun a w ha hw=>wp_seq Q31
theorem Q6[dq:DQ]{id:Nat}{l:List Oper}(h:lE P l.toArray Q N M W E O l):sE P Q N M W E O (.region id l.toArray false):=fun a w ha hw=>wp_region_lit Q31
theorem Xm[dq:DQ]{l:List Oper}(hm:P.follows .mixedOrders=true)(hB:Region.lexB .any l.toArray=true)(h:qE P l.toArray (Wd M W O) (fun a'=>∀w',Wd M W O w'->Q .normal a' w') N E l):sE P Q N M W E O (.region id l.toArray true):=fun a w ha hw=>
 wp_region_quiet (C:=Wd M W O) hm hB hw.drew (by simpa using h a ha)
theorem Q9[dq:DQ]{c:Operand}(hc:ev E c=some (.bool true))(h:sE P Q N M W E O x):sE P Q N M W E O (.cond c x y):=fun a w ha hw=>wp_cond_true Q2j Q31
theorem Q8[dq:DQ]{c:Operand}(hc:ev E c=some (.bool false))(h:sE P Q N M W E O y):sE P Q N M W E O (.cond c x y):=fun a w ha hw=>wp_cond_false Q2j Q31
theorem Qp[dq:DQ](h:xE Q N M W E O .normal):sE P Q N M W E O .skip:=fun a w ha hw=>wp_skip Q31
theorem QC[dq:DQ](h:xE Q N M W E O .ret):sE P Q N M W E O .ret:=fun a w ha hw=>wp_ret Q31
theorem Xx[dq:DQ]{id:Nat}(h:xE Q N M W E O (.exit id)):sE P Q N M W E O (.exit id):=fun a w ha hw=>wp_exit Q31
theorem Qi[dq:DQ]{id:Nat}{c:Code}(h:sE P (Exit.inBlock id Q) N M W E O c):sE P Q N M W E O (.block id c):=fun a w ha hw=>wp_block Q31
theorem Qk[dq:DQ]{K:Act->World->Prop}(h:xE Q N M W E O .ret):xE (Exit.then K Q) N M W E O .ret:=fun a w ha hw=>h a w ha hw
theorem Q4H[dq:DQ]{K:Act->World->Prop}{id:Nat}(h:xE Q N M W E O (.exit id)):xE (Exit.then K Q) N M W E O (.exit id):=fun a w ha hw=>h a w ha hw
theorem Qu[dq:DQ]{id:Nat}(h:xE Q N M W E O .ret):xE (Exit.inBlock id Q) N M W E O .ret:=fun a w ha hw=>h a w ha hw
theorem Yh[dq:DQ]{id:Nat}(h:xE Q N M W E O .normal):xE (Exit.inBlock id Q) N M W E O .normal:=fun a w ha hw=>h a w ha hw
theorem Q4B[dq:DQ]{id:Nat}(h:xE Q N M W E O .normal):xE (Exit.inBlock id Q) N M W E O (.exit id):=fun a w ha hw=>by
 show (if id=id then _ else _);rw[if_pos rfl];exact h a w ha hw
def QfU[dq:DQ]{ι:Type}(p:ι->Prop)(m:ι->Nat)(n:Nat)(N:Nat)(M:List Nat)(W:World)(F:ι->Env)(G:ι->List Qf)(a:Act)(w:World):Prop:=∃j,p j/\m j<n/\Ag N (F j) a/\Wd M W (G j) w
theorem QK[dq:DQ](p:ι->Prop)(m:ι->Nat)(F:ι->Env)(G:ι->List Qf)(i0:ι)(is:List Nat)(hn:is.Nodup)(h0:p i0)(hE:Q7h E (F i0))(hG:(is.map fun i=>O.getD i Qf.none_)=G i0)
  (hr:∀i,p i->sE P (Exit.then (QfU p m (m i) N M W F G) Q) N M W (F i) (G i) c):sE P Q N M W E O (.loop c):=fun a w ha hw=>by
 refine wp_loop_ghost (fun n a w=>∃i,p i/\m i=n/\Ag N (F i) a/\Wd M W (G i) w) (m i0) ⟨i0,h0,rfl,hE.ag ha,hG▸hw.sel is hn⟩ ?_;rintro n a w ⟨i,hp,rfl,ha,hw⟩;refine wp_mono (hr i hp a w ha hw) ?_;intro e a' w' hq;cases e with
 |normal=>
  exact Qqt
 |exit id=>exact hq
 |goto l=>exact hq
 |ret=>exact hq
 |panic ch=>exact hq
 |outgrown=>exact hq
theorem Qt[dq:DQ]{p:ι->Prop}{m:ι->Nat}{F:ι->Env}{G:ι->List Qf}(j:ι)(is:List Nat)(hn:is.Nodup)(hp:p j)(hm:m j<n)(hE:Q7h E (F j))(hG:(is.map fun i=>O.getD i Qf.none_)=G j):xE (Exit.then (QfU p m n N M W F G) Q) N M W E O .normal:=fun a w ha hw=>
 ⟨j,hp,hm,hE.ag ha,hG▸hw.sel is hn⟩
def Qk7[dq:DQ]{ι:Type}(p:ι->Prop)(N:Nat)(M:List Nat)(W:World)(F:ι->Env)(G:ι->List Qf)(a:Act)(w:World):Prop:=∃j,p j/\Ag N (F j) a/\Wd M W (G j) w
theorem QoE[dq:DQ]{K:Act->World->Prop}(p:ι->Prop)(F:ι->Env)(G:ι->List Qf)(h1:sE P (Exit.then (Qk7 p N M W F G) Q) N M W E O c)(h2:∀i,p i->∀a w,Ag N (F i) a->Wd M W (G i) w->K a w):sE P (Exit.then K Q) N M W E O c:=fun a w ha hw=>by
 refine wp_mono (h1 a w ha hw) ?_;intro e a' w' hq;cases e with
 |normal=>
  obtain⟨i,hp,ha,hw⟩:=hq;exact h2 i hp a' w' ha hw
 |exit id=>exact hq
 |goto l=>exact hq
 |ret=>exact hq
 |panic ch=>exact hq
 |outgrown=>exact hq
theorem Zx[dq:DQ](p:ι->Prop)(F:ι->Env)(G:ι->List Qf)(h1:sE P (Exit.then (Qk7 p N M W F G) Q) N M W E O x)(h2:∀i,p i->sE P Q N M W (F i) (G i) y):sE P Q N M W E O (.seq x y):=
 Qa (QoE p F G h1 fun i hp a w ha hw=>h2 i hp a w ha hw)
theorem XB[dq:DQ]{p:ι->Prop}{F:ι->Env}{G:ι->List Qf}(j:ι)(is:List Nat)(hn:is.Nodup)(hp:p j)(hE:Q7h E (F j))(hG:(is.map fun i=>O.getD i Qf.none_)=G j):xE (Exit.then (Qk7 p N M W F G) Q) N M W E O .normal:=fun a w ha hw=>
 ⟨j,hp,hE.ag ha,hG▸hw.sel is hn⟩
end
end
end Go.Proofs.YtphkhfdmlcnoeaaGreatDoor
