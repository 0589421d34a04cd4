import Derived.Test.YtphkhfdmlcnoeaaGreatDoorP5
namespace Go.Proofs.YtphkhfdmlcnoeaaGreatDoor
set_option linter.unusedVariables false
set_option linter.unusedSimpArgs false
set_option maxRecDepth 1000000
set_option maxHeartbeats 32000000
open Go.RowKit
section
variable {D:World->Prop}{K:Act->(World->Prop)->Prop}{a:Act}{i k:Nat}{v:Value}{ι:Type}
def Stb(D:World->Prop):Prop:=∀w w',D w->Below w.heap.size w w'->D w'
section
variable {P:Program}{ops:Array Oper}{C0:World->Prop}{T:List Nat}{Q:Exit->Act->World->Prop}
def Yg(P:Program)(ops:Array Oper)(C0:World->Prop)(T:List Nat)(i:Nat)(a:Act)(D:World->Prop)(K:Act->(World->Prop)->Prop):Prop:=
 match ops[i]? with
 |none=>K a D
 |some o=>(Region.wanted o (yielded ops a.tmps)=false/\K (a.put o.dst undef) D)\/(Region.wanted o (yielded ops a.tmps)=true/\
   ∃(ι:Type) (V:ι->Value) (G:ι->World->Prop),(∀w,D w->ZN P (fun v w'=>∃i,v=V i/\G i w') ((execOp a.eval o).run P w))/\(∀x,Stb (G x)/\(i∈T\/∀w,G x w->C0 w))/\∀x,K (a.put o.dst (V x)) (G x))
def Q5y(P:Program)(ops:Array Oper)(C0:World->Prop)(T:List Nat)(Q:Exit->Act->World->Prop):Nat->Array Bool->Act->(World->Prop)->Prop
 |0,listed,a,D=>Region.ready .any ops listed=[]/\∀w,D w->Q .normal a w
 |f+1,listed,a,D=>(Region.ready .any ops listed=[]->∀w,D w->Q .normal a w)/\∀i∈Region.ready .any ops listed,Yg P ops C0 T i a D (Q5y P ops C0 T Q f (listed.setIfInBounds i true))
theorem QdM:∀(f:Nat) (listed:Array Bool) (a:Act) (D:World->Prop),Q5y P ops C0 T Q f listed a D->∀w,D w->wpAny P .any ops Q f listed a w:=by
 intro f;induction f with
 |zero=>intro listed a D h w hw;exact⟨h.1,h.2 w hw⟩
 |succ f ih=>
  intro listed a D h w hw;refine⟨fun h0=>h.1 h0 w hw,fun i hi=>?_⟩;have hs:=h.2 i hi;unfold Yg at hs;unfold wpOp;split
  ·rename_i ho;simp only[ho] at hs;exact ih _ _ _ hs w hw
  ·rename_i o ho
   simp only[ho] at hs;rcases hs with ⟨hwt,hk⟩|⟨hwt,ι,V,G,hr,hG,hk⟩
   ·rw[if_neg (by rw[hwt];decide)]
    exact ih _ _ _ hk w hw
   ·rw[if_pos hwt]
    refine .inl (Oper.wp_of_loud (hr w hw) ?_);rintro v w' ⟨j,rfl,hj⟩;exact ih _ _ _ (hk j) w' hj
def Zj(P:Program)(ops:Array Oper)(C0:World->Prop)(o:Oper)(a:Act)(v:Value):Prop:=
 (Region.wanted o (yielded ops a.tmps)=true/\∀w,C0 w->JX P w v ((execOp a.eval o).run P w))\/(Region.wanted o (yielded ops a.tmps)=false/\v=undef)
theorem Zj.step{o:Oper}(hi:ops[i]? =some o)(h:Zj P ops C0 o a v)(hD:Stb D)(hC:∀w,D w->C0 w)(hk:K (a.put o.dst v) D):Yg P ops C0 T i a D K:=by
 unfold Yg;simp only[hi];rcases h with ⟨hw,hv⟩|⟨hw,rfl⟩
 ·refine .inr ⟨hw,Unit,fun _=>v,fun _=>D,fun w hDw=>?_,fun _=>⟨hD,.inr hC⟩,fun _=>hk⟩
  have h:=hv w (hC w hDw);generalize (execOp a.eval o).run P w=r at h;cases r with
  |ok n w'=>
   cases n<;>simp only[JX] at h<;>simp only[ZN]
   case value u=>obtain⟨rfl,rfl⟩:=h;exact⟨(),rfl,hDw⟩
   case skip=>obtain⟨rfl,rfl⟩:=h;exact⟨(),rfl,hDw⟩
   case enter f args=>
    obtain⟨rfl,hc⟩:=h;exact hc.mono fun e w'' ⟨he,hb⟩=>⟨v,he,(),rfl,hD _ _ hDw hb⟩
  |halt x w'=>simp only[JX] at h
 ·exact .inl ⟨hw,hk⟩
theorem Zj.put{o o':Oper}{u:Value}(hs:∀cs b,o.op≠ .select cs b)(h3:∀d,o'.dst=some d->d∉o.looksAt ops)(h:Zj P ops C0 o a v):Zj P ops C0 o (a.put o'.dst u) v:=by
 unfold Zj at*
 rw[execOp_put o hs a o'.dst u h3,wanted_put o a o'.dst u h3];exact h
def waits(ops:Array Oper):Nat->Nat->Nat->Bool
 |0,_,_=>false
 |f+1,t,k=>match ops[t]? with
  |some o=>o.after.any fun e=>Region.binds .any e&&(e.on==k||waits ops f e.on k)
  |none=>false
def Clo(ops:Array Oper)(listed:Array Bool):Prop:=listed.size=ops.size/\∀(j:Nat) (oj:Oper),ops[j]? =some oj->listed.getD j false=true->∀e∈oj.after,Region.binds .any e=true->listed.getD e.on false=true
theorem Clo.set{listed:Array Bool}(h:Clo ops listed)(hi:i∈Region.ready .any ops listed):Clo ops (listed.setIfInBounds i true):=by
 obtain⟨_,oi,hoi,hall⟩:=mem_ready.1 hi;refine⟨by rw[Array.size_setIfInBounds];exact h.1,fun j oj hj hl e he hb=>?_⟩;by_cases hij:i=j
 ·subst hij
  rw[hj] at hoi;cases hoi;exact getD_set_true (hall e he hb)
 ·rw[getD_set_ne false hij] at hl
  exact getD_set_true (h.2 j oj hj hl e he hb)
theorem Clo.waits{listed:Array Bool}(h:Clo ops listed):∀(f t k:Nat) (o:Oper),ops[t]? =some o->(∀e∈o.after,Region.binds .any e=true->listed.getD e.on false=true)->Go.Proofs.YtphkhfdmlcnoeaaGreatDoor.waits ops f t k=true->listed.getD k false=true:=by
 intro f;induction f with
 |zero=>intro t k o _ _ hw;cases hw
 |succ f ih=>
  intro t k o ho hall hw;unfold Go.Proofs.YtphkhfdmlcnoeaaGreatDoor.waits at hw;simp only[ho] at hw;obtain⟨e,he,hb⟩:=Array.any_eq_true'.1 hw;simp only[Bool.and_eq_true,Bool.or_eq_true,beq_iff_eq] at hb;have h1:=hall e he hb.1;rcases hb.2 with h2|h2
  ·rw[<- h2];exact h1
  ·have hlt:e.on<ops.size:=by
    rcases Nat.lt_or_ge e.on listed.size with h3|h3
    ·rw[<- h.1];exact h3
    ·simp [Array.getElem?_eq_none h3] at h1
   exact ih e.on k _ (Array.getElem?_eq_getElem hlt) (fun e' he' hb'=>h.2 e.on _ (Array.getElem?_eq_getElem hlt) h1 e' he' hb') h2
theorem Q6q{oi:Oper}(hi:ops[i]? =some oi)(hsel:∀(j:Nat) (o:Oper) cs b,ops[j]? =some o->o.op≠ .select cs b)(hT:∀t∈T,∃f,Go.Proofs.YtphkhfdmlcnoeaaGreatDoor.waits ops f t i=true):
  ∀(f:Nat) (listed:Array Bool) (a:Act) (D:World->Prop),Clo ops listed->Stb D->(∀w,D w->C0 w)->
   (∀j oj,ops[j]? =some oj->j≠i->listed.getD j true=false->(∀e∈oj.after,Region.binds .any e=true->e.on≠i)->oi.apart ops oj=true)->
   i∈Region.ready .any ops listed->Zj P ops C0 oi a v->
   Q5y P ops C0 T Q f (listed.setIfInBounds i true) (a.put oi.dst v) D->Q5y P ops C0 T Q (f+1) listed a D:=by
 intro f;induction f with
 |zero=>
  intro listed a D hcl hD hC _ hr hy H;refine⟨fun h=>Qap,fun j hj=>?_⟩;by_cases hji:j=i
  ·subst hji;exact hy.step hi hD hC H
  ·have:=ready_mono hj hji
   rw[H.1] at this;cases this
 |succ f ih=>
  intro listed a D hcl hD hC hfree hr hy H;refine⟨fun h=>Qap,fun j hj=>?_⟩;by_cases hji:j=i
  ·subst hji;exact hy.step hi hD hC H
  ·have h1:=H.2 j (ready_mono hj hji)
   obtain⟨hjun,oj,hoj,hall⟩:=mem_ready.1 hj;have hjT:j∉T:=fun hm=>by
    obtain⟨f',hf'⟩:=hT j hm;have h1:=hcl.waits f' j i oj hoj hall hf';have h0:=(mem_ready.1 hr).1;rcases Nat.lt_or_ge i listed.size with h'|h'
    ·simp [h'] at h0 h1;rw[h0] at h1;cases h1
    ·simp [Array.getElem?_eq_none h'] at h1
   have hnot:∀e∈oj.after,Region.binds .any e=true->e.on≠i:=fun e he hb heq=>by
    have h1:=hall e he hb;have h0:=(mem_ready.1 hr).1;rw[heq] at h1;rcases Nat.lt_or_ge i listed.size with h'|h'
    ·simp [h'] at h0 h1;rw[h0] at h1;cases h1
    ·simp [Array.getElem?_eq_none h'] at h1
   obtain⟨a1,a2,a3⟩:=Oper.apart_spec (hfree j oj hoj hji hjun hnot);have hfree':∀k ok,ops[k]? =some ok->k≠i->(listed.setIfInBounds j true).getD k true=false->
     (∀e∈ok.after,Region.binds .any e=true->e.on≠i)->oi.apart ops ok=true:=fun k ok hk hki hun hno=>by
    refine hfree k ok hk hki ?_ hno;by_cases hjk:j=k
    ·subst hjk;exact hjun
    ·rw[getD_set_ne true hjk] at hun;exact hun
   have go:∀u (G:World->Prop),Stb G->(∀w,G w->C0 w)->Q5y P ops C0 T Q f ((listed.setIfInBounds i true).setIfInBounds j true) ((a.put oi.dst v).put oj.dst u) G->Q5y P ops C0 T Q (f+1) (listed.setIfInBounds j true) (a.put oj.dst u) G:=by
    intro u G hG hGC hk;refine Qqx ?_;exact hk
   unfold Yg at h1 ⊢;simp only[hoj] at h1 ⊢;rw[wanted_put oj a oi.dst v a1,execOp_put oj (fun cs b=>hsel j oj cs b hoj) a oi.dst v a1] at h1;rcases h1 with ⟨hw,hk⟩|⟨hw,ι,V,G,hr1,hG,hk⟩
   ·exact .inl ⟨hw,go _ _ hD hC hk⟩
   ·exact Qso
end
def dE[dq:DQ](P:Program)(ops:Array Oper)(Q:Exit->Act->World->Prop)(N:Nat)(M:List Nat)(W:World)(O0:List Qf)(T:List Nat)(f:Nat)(listed:Array Bool)(E:Env)(O:List Qf):Prop:=
 Clo ops listed->∀a,Ag N E a->Q5y P ops (Wd M W O0) T Q f listed a (Wd M W O)
def Qh5(ops:Array Oper)(T:List Nat)(listed:Array Bool)(k:Nat):Bool:=T.all (fun t=>waits ops ops.size t k)&&(Region.ready .any ops listed).contains k&&Region.free .any ops listed k&&Region.noSelect ops
section
variable {P:Program}{ops:Array Oper}{Q:Exit->Act->World->Prop}{N:Nat}{M:List Nat}{W:World}{O0:List Qf}{T:List Nat}{f:Nat}{listed:Array Bool}{E E':Env}{O:List Qf}{o:Oper}{d:Nat}
theorem Wd.stb:Stb (Wd M W O):=fun _ _ h hb=>h.on hb
def Qm(M:List Nat)(W:World)(O0 O:List Qf):Prop:=∀w,Wd M W O w->Wd M W O0 w
theorem Qm.sel(is:List Nat)(hn:is.Nodup)(h:(is.map fun i=>O.getD i Qf.none_)=O0):Qm M W O0 O:=fun w hw=>h▸hw.sel is hn
theorem Q9s(ops:Array Oper):Clo ops (Array.replicate ops.size false):=⟨by simp,fun j oj _ hl=>by
 rw[Array.getD_eq_getD_getElem?,Array.getElem?_replicate] at hl
 split at hl<;>cases hl⟩
theorem Xk[dq:DQ](O0:List Qf)(T:List Nat:=[]){id:Nat}{l:List Oper}(hm:P.follows .mixedOrders=true)(h:dE P l.toArray Q N M W O0 T l.length (Array.replicate l.length false) E O):sE P Q N M W E O (.region id l.toArray true):=fun a w ha hw=>
 wp_region_any hm (by simpa using QdM _ _ _ _ (h (by simpa using Q9s l.toArray) a ha) _ hw.drew)
theorem Qc[dq:DQ](k:Nat)(ho:ops[k]? =some o)(hB:Qh5 ops T listed k=true)(hT:Qm M W O0 O)(h1:oE P ops (Wd M W O0) N E E' o)(h2:dE P ops Q N M W O0 T f (listed.setIfInBounds k true) E' O):dE P ops Q N M W O0 T (f+1) listed E O:=fun hcl a ha=>by
 unfold Qh5 at hB;simp only[Bool.and_eq_true,List.all_eq_true] at hB;obtain⟨⟨⟨hTw,hr⟩,hf⟩,hs⟩:=hB;have hr':k∈Region.ready .any ops listed:=by simpa using hr
 have hTT:∀t∈T,∃f,waits ops f t k=true:=fun t ht=>⟨_,hTw t ht⟩;have h:=h1 a ha;split at h
 ·rename_i hw
  obtain⟨v,hv,hE⟩:=h;exact Q6q ho Qa3 hTT f listed a _ hcl Wd.stb hT QaJ hr' (.inl ⟨hw,hv⟩) (h2 Q3a _ hE)
 ·rename_i hw
  exact Q6q ho Qa3 hTT f listed a _ hcl Wd.stb hT QaJ hr' Qh2 (h2 Q3a _ h)
theorem Q7b[dq:DQ]{V:ι->Value}{G:ι->List Qf}{p:ι->Prop}(ho:ops[k]? =some o)(ha:Ag N E a)(hne:∃w,Wd M W O w)(h1:uE P ops N M W E O o ι V G p)(hT:∀i,k∈T\/Qm M W O0 (G i))(hk:∀i,p i->K (a.put o.dst (V i)) (Wd M W (G i))):Yg P ops (Wd M W O0) T k a (Wd M W O) K:=by
 unfold Yg;simp only[ho];obtain⟨w0,hw0⟩:=hne;refine .inr ⟨(h1 a w0 ha hw0).1,{ i:ι // p i },fun i=>V i.1,fun i=>Wd M W (G i.1),fun w hw=>?_,fun i=>⟨Wd.stb,hT i.1⟩,fun i=>hk i.1 i.2⟩;have h:=(h1 a w ha hw).2;generalize (execOp a.eval o).run P w=r at h;cases r with
 |ok n w'=>
  cases n<;>simp only[ZN] at h ⊢
  case value u=>obtain⟨i,h1,h2,h3⟩:=h;exact Q9C
  case skip=>obtain⟨i,h1,h2,h3⟩:=h;exact Q9C
  case enter f args=>exact h.mono fun e w'' ⟨v,he,i,h1,h2,h3⟩=>⟨v,he,⟨i,h2⟩,h1,h3⟩
 |halt x w'=>simp only[ZN] at h
theorem Q74(hne:¬∃w,D w){o:Oper}(ho:ops[k]? =some o)(hw:Region.wanted o (yielded ops a.tmps)=true){C0:World->Prop}:Yg P ops C0 T k a D K:=by
 unfold Yg;exact Qrf
theorem QL[dq:DQ](k:Nat){V:ι->Value}{G:ι->List Qf}{p:ι->Prop}(hB:Region.ready .any ops listed=[k])(ho:ops[k]? =some o)(hw:Qo ops E o=some true)(h1:uE P ops N M W E O o ι V G p)(hT:∀i,k∈T\/Qm M W O0 (G i))(hd:o.dst=some d)(hN:d<N)(h:∀i,p i->dE P ops Q N M W O0 T f (listed.setIfInBounds k true) ((d,V i)::E) (G i)):dE P ops Q N M W O0 T (f+1) listed E O:=fun hcl a ha=>by
 refine⟨fun h0=>absurd Q8O Qn,fun i hi=>?_⟩;rw[hB] at hi;rw[List.mem_singleton] at hi;subst hi;have hr':i∈Region.ready .any ops listed:=by rw[hB];exact Qdu
 by_cases hne:∃w,Wd M W O w
 ·exact Q7b ho ha hne h1 hT fun x hp=>h x hp Q3a _ QdO
 ·exact Q74 hne ho Jh
theorem X6[dq:DQ](k:Nat){V:ι->Value}{G:ι->List Qf}{p:ι->Prop}(hB:Region.ready .any ops listed=[k])(ho:ops[k]? =some o)(hw:Qo ops E o=some true)(h1:uE P ops N M W E O o ι V G p)(hT:∀i,k∈T\/Qm M W O0 (G i))(hd:o.dst=none)(h:∀i,p i->dE P ops Q N M W O0 T f (listed.setIfInBounds k true) E (G i)):dE P ops Q N M W O0 T (f+1) listed E O:=fun hcl a ha=>by
 refine⟨fun h0=>absurd Q8O Qn,fun i hi=>?_⟩;rw[hB] at hi;rw[List.mem_singleton] at hi;subst hi;have hr':i∈Region.ready .any ops listed:=by rw[hB];exact Qdu
 by_cases hne:∃w,Wd M W O w
 ·exact Q7b ho ha hne h1 hT fun x hp=>h x hp Q3a _ (by rw[hd];exact ha)
 ·exact Q74 hne ho Jh
theorem Q6u[dq:DQ](i j:Nat)(hB:Region.ready .any ops listed=[i,j])(h1:Clo ops (listed.setIfInBounds i true)->∀a,Ag N E a->Yg P ops (Wd M W O0) T i a (Wd M W O) (Q5y P ops (Wd M W O0) T Q f (listed.setIfInBounds i true)))(h2:Clo ops (listed.setIfInBounds j true)->∀a,Ag N E a->Yg P ops (Wd M W O0) T j a (Wd M W O) (Q5y P ops (Wd M W O0) T Q f (listed.setIfInBounds j true))):dE P ops Q N M W O0 T (f+1) listed E O:=fun hcl a ha=>by
 refine⟨fun h0=>absurd Q8O Qn,fun k hk=>?_⟩;have hcl':=hcl.set hk;rw[hB] at hk;simp only[List.mem_cons,List.not_mem_nil,or_false] at hk;rcases hk with rfl|rfl
 ·exact h1 hcl' a ha
 ·exact h2 hcl' a ha
theorem Jr[dq:DQ]{V:ι->Value}{G:ι->List Qf}{p:ι->Prop}(ho:ops[k]? =some o)(hw:Qo ops E o=some true)(h1:uE P ops N M W E O o ι V G p)(hT:∀i,k∈T\/Qm M W O0 (G i))(hd:o.dst=some d)(hN:d<N)(h:∀i,p i->dE P ops Q N M W O0 T f (listed.setIfInBounds k true) ((d,V i)::E) (G i)):Clo ops (listed.setIfInBounds k true)->∀a,Ag N E a->Yg P ops (Wd M W O0) T k a (Wd M W O) (Q5y P ops (Wd M W O0) T Q f (listed.setIfInBounds k true)):=fun hcl a ha=>by
 by_cases hne:∃w,Wd M W O w
 ·exact Q7b ho ha hne h1 hT fun i hp=>h i hp hcl _ QdO
 ·exact Q74 hne ho Jh
theorem X8[dq:DQ](h:xE Q N M W E O .normal)(hB:Region.ready .any ops listed=[]):dE P ops Q N M W O0 T 0 listed E O:=fun _ a ha=>⟨hB,fun w hw=>h a w ha hw⟩
end
end
instance :T1 Tryz.prog 3:=⟨_,Tryz.underlying3,rfl,by kernel_rfl⟩
instance :T1 Tryz.prog 4:=⟨_,Tryz.underlying4,rfl,by kernel_rfl⟩
instance :T1 Tryz.prog 5:=⟨_,Tryz.underlying5,rfl,by kernel_rfl⟩
instance :T1 Tryz.prog 9:=⟨_,Tryz.underlying9,rfl,by kernel_rfl⟩
instance :T1 Tryz.prog 25:=⟨_,Tryz.underlying25,rfl,by kernel_rfl⟩
instance :T1 Tryz.prog 27:=⟨_,Tryz.underlying27,rfl,by kernel_rfl⟩
instance :T1 Tryz.prog 48:=⟨_,Tryz.underlying48,rfl,by kernel_rfl⟩
instance :T1 Tryz.prog 66:=⟨_,Tryz.underlying66,rfl,by kernel_rfl⟩
instance :T1 Tryz.prog 22:=⟨_,Tryz.underlying22,rfl,by kernel_rfl⟩
instance :T1 Tryz.prog 28:=⟨_,Tryz.underlying28,rfl,by kernel_rfl⟩
instance :T1 Tryz.prog 56:=⟨_,Tryz.underlying56,rfl,by kernel_rfl⟩
instance :T1 Tryz.prog 75:=⟨_,Tryz.underlying75,rfl,by kernel_rfl⟩
instance :T1 Tryz.prog 104:=⟨_,Tryz.underlying104,rfl,by kernel_rfl⟩
instance :TN Tryz.prog 24 1:=⟨_,Tryz.underlying24,rfl,by kernel_rfl⟩
instance :TN Tryz.prog 32 2:=⟨_,Tryz.underlying32,rfl,by kernel_rfl⟩
instance :TN Tryz.prog 30 5:=⟨_,Tryz.underlying30,rfl,by kernel_rfl⟩
instance :TN Tryz.prog 65 12:=⟨_,Tryz.underlying65,rfl,by kernel_rfl⟩
instance :TN Tryz.prog 92 256:=⟨_,Tryz.underlying92,rfl,by kernel_rfl⟩
instance :TN Tryz.prog 60 4:=⟨_,Tryz.underlying60,rfl,by kernel_rfl⟩
instance :TN Tryz.prog 77 3:=⟨_,Tryz.underlying77,rfl,by kernel_rfl⟩
instance :TN Tryz.prog 122 6:=⟨_,Tryz.underlying122,rfl,by kernel_rfl⟩
instance :Fld Tryz.prog 24 0 0:=⟨_,_,1,Tryz.underlying24,rfl,rfl,by kernel_rfl,by decide⟩
instance :Fld Tryz.prog 32 0 0:=⟨_,_,1,Tryz.underlying32,rfl,rfl,by kernel_rfl,by decide⟩
instance :Fld Tryz.prog 32 1 1:=⟨_,_,1,Tryz.underlying32,rfl,rfl,by kernel_rfl,by decide⟩
instance :Fld Tryz.prog 30 0 0:=⟨_,_,1,Tryz.underlying30,rfl,rfl,by kernel_rfl,by decide⟩
instance :Fld Tryz.prog 30 1 1:=⟨_,_,1,Tryz.underlying30,rfl,rfl,by kernel_rfl,by decide⟩
instance :Fld Tryz.prog 30 2 2:=⟨_,_,1,Tryz.underlying30,rfl,rfl,by kernel_rfl,by decide⟩
instance :Fld Tryz.prog 30 3 3:=⟨_,_,1,Tryz.underlying30,rfl,rfl,by kernel_rfl,by decide⟩
instance :Fld Tryz.prog 30 4 4:=⟨_,_,1,Tryz.underlying30,rfl,rfl,by kernel_rfl,by decide⟩
instance :Fld Tryz.prog 65 0 0:=⟨_,_,1,Tryz.underlying65,rfl,rfl,by kernel_rfl,by decide⟩
instance :Fld Tryz.prog 65 1 1:=⟨_,_,1,Tryz.underlying65,rfl,rfl,by kernel_rfl,by decide⟩
instance :Fld Tryz.prog 65 2 2:=⟨_,_,1,Tryz.underlying65,rfl,rfl,by kernel_rfl,by decide⟩
instance :Fld Tryz.prog 65 3 3:=⟨_,_,1,Tryz.underlying65,rfl,rfl,by kernel_rfl,by decide⟩
instance :Fld Tryz.prog 65 4 4:=⟨_,_,1,Tryz.underlying65,rfl,rfl,by kernel_rfl,by decide⟩
instance :Fld Tryz.prog 65 5 5:=⟨_,_,1,Tryz.underlying65,rfl,rfl,by kernel_rfl,by decide⟩
instance :Fld Tryz.prog 65 6 6:=⟨_,_,1,Tryz.underlying65,rfl,rfl,by kernel_rfl,by decide⟩
instance :Fld Tryz.prog 65 7 7:=⟨_,_,1,Tryz.underlying65,rfl,rfl,by kernel_rfl,by decide⟩
instance :Fld Tryz.prog 65 8 8:=⟨_,_,1,Tryz.underlying65,rfl,rfl,by kernel_rfl,by decide⟩
instance :Fld Tryz.prog 65 9 9:=⟨_,_,1,Tryz.underlying65,rfl,rfl,by kernel_rfl,by decide⟩
instance :Fld Tryz.prog 65 10 10:=⟨_,_,1,Tryz.underlying65,rfl,rfl,by kernel_rfl,by decide⟩
instance :Fld Tryz.prog 65 11 11:=⟨_,_,1,Tryz.underlying65,rfl,rfl,by kernel_rfl,by decide⟩
instance :Fld Tryz.prog 60 0 0:=⟨_,_,1,Tryz.underlying60,rfl,rfl,by kernel_rfl,by decide⟩
instance :Fld Tryz.prog 60 1 1:=⟨_,_,1,Tryz.underlying60,rfl,rfl,by kernel_rfl,by decide⟩
instance :Fld Tryz.prog 60 2 2:=⟨_,_,1,Tryz.underlying60,rfl,rfl,by kernel_rfl,by decide⟩
instance :Fld Tryz.prog 60 3 3:=⟨_,_,1,Tryz.underlying60,rfl,rfl,by kernel_rfl,by decide⟩
instance :Fld Tryz.prog 77 0 0:=⟨_,_,1,Tryz.underlying77,rfl,rfl,by kernel_rfl,by decide⟩
instance :Fld Tryz.prog 77 1 1:=⟨_,_,1,Tryz.underlying77,rfl,rfl,by kernel_rfl,by decide⟩
instance :Fld Tryz.prog 77 2 2:=⟨_,_,1,Tryz.underlying77,rfl,rfl,by kernel_rfl,by decide⟩
instance :Fld Tryz.prog 122 0 0:=⟨_,_,5,Tryz.underlying122,rfl,rfl,by kernel_rfl,by decide⟩
instance :Fld Tryz.prog 122 1 5:=⟨_,_,1,Tryz.underlying122,rfl,rfl,by kernel_rfl,by decide⟩
instance :VL Tryz.prog 3 [.int .i64 0]:=⟨.int .i64 0,by kernel_rfl,rfl⟩
instance :VL Tryz.prog 4 [.bool false]:=⟨.bool false,by kernel_rfl,rfl⟩
instance :VL Tryz.prog 5 [.int .u8 0]:=⟨.int .u8 0,by kernel_rfl,rfl⟩
instance :VL Tryz.prog 9 [.string ⟨#[]⟩]:=⟨.string ⟨#[]⟩,by kernel_rfl,rfl⟩
instance :VL Tryz.prog 25 [.slice none 0 0]:=⟨.slice none 0 0,by kernel_rfl,rfl⟩
instance :VL Tryz.prog 27 [.slice none 0 0]:=⟨.slice none 0 0,by kernel_rfl,rfl⟩
instance :VL Tryz.prog 48 [.slice none 0 0]:=⟨.slice none 0 0,by kernel_rfl,rfl⟩
instance :VL Tryz.prog 66 [.slice none 0 0]:=⟨.slice none 0 0,by kernel_rfl,rfl⟩
instance :VL Tryz.prog 22 [.slice none 0 0]:=⟨.slice none 0 0,by kernel_rfl,rfl⟩
instance :VL Tryz.prog 28 [.slice none 0 0]:=⟨.slice none 0 0,by kernel_rfl,rfl⟩
instance :VL Tryz.prog 57 [.slice none 0 0]:=⟨.slice none 0 0,by kernel_rfl,rfl⟩
instance :VL Tryz.prog 69 [.slice none 0 0]:=⟨.slice none 0 0,by kernel_rfl,rfl⟩
instance :VL Tryz.prog 127 [.slice none 0 0]:=⟨.slice none 0 0,by kernel_rfl,rfl⟩
instance :VL Tryz.prog 93 [.slice none 0 0]:=⟨.slice none 0 0,by kernel_rfl,rfl⟩
instance :VL Tryz.prog 123 [.slice none 0 0]:=⟨.slice none 0 0,by kernel_rfl,rfl⟩
instance :VL Tryz.prog 32 [.int .i64 0,.int .i64 0]:=⟨.agg #[.int .i64 0,.int .i64 0],by kernel_rfl,rfl⟩
instance :VL Tryz.prog 30 [.int .i64 0,.int .i64 0,.slice none 0 0,.slice none 0 0,.slice none 0 0]:=⟨.agg #[.int .i64 0,.int .i64 0,.slice none 0 0,.slice none 0 0,.slice none 0 0],by kernel_rfl,rfl⟩
instance :VL Tryz.prog 65 [.string ⟨#[]⟩,.int .i64 0,.slice none 0 0,.int .i64 0,.bool false,.int .i64 0,.int .i64 0,.int .i64 0,.int .i64 0,.int .i64 0,.slice none 0 0,.slice none 0 0]:=⟨.agg #[.string ⟨#[]⟩,.int .i64 0,.slice none 0 0,.int .i64 0,.bool false,.int .i64 0,.int .i64 0,.int .i64 0,.int .i64 0,.int .i64 0,.slice none 0 0,.slice none 0 0],by kernel_rfl,rfl⟩
instance :VL Tryz.prog 24 [.slice none 0 0]:=⟨.agg #[.slice none 0 0],by kernel_rfl,rfl⟩
instance :VL Tryz.prog 104 [.nilFunc]:=⟨.nilFunc,by kernel_rfl,rfl⟩
instance :Sl Tryz.prog 25 5 1 1:=⟨SlT.mk' (z:=.int .u8 0) Q5 Q5 Q5 Q1 Q1⟩
instance :Sl Tryz.prog 27 9 1 16:=⟨SlT.mk' (z:=.string ⟨#[]⟩) Q5 Q5 Q5 Q1 Q1⟩
instance :Sl Tryz.prog 48 3 1 8:=⟨SlT.mk' (z:=.int .i64 0) Q5 Q5 Q5 Q1 Q1⟩
instance :Sl Tryz.prog 66 4 1 1:=⟨SlT.mk' (z:=.bool false) Q5 Q5 Q5 Q1 Q1⟩
instance :Sl Tryz.prog 22 65 12 152:=⟨SlT.mk' (z:=.agg (List.toArray [.string ⟨#[]⟩,.int .i64 0,.slice none 0 0,.int .i64 0,.bool false,.int .i64 0,.int .i64 0,.int .i64 0,.int .i64 0,.int .i64 0,.slice none 0 0,.slice none 0 0])) Q5 Q5 Q5 Q1 Q1⟩
instance :Sl Tryz.prog 28 30 5 88:=⟨SlT.mk' (z:=.agg (List.toArray [.int .i64 0,.int .i64 0,.slice none 0 0,.slice none 0 0,.slice none 0 0])) Q5 Q5 Q5 Q1 Q1⟩
instance :Sl Tryz.prog 57 48 1 24:=⟨SlT.mk' (z:=.slice none 0 0) Q5 Q5 Q5 Q1 Q1⟩
instance :Sl Tryz.prog 69 66 1 24:=⟨SlT.mk' (z:=.slice none 0 0) Q5 Q5 Q5 Q1 Q1⟩
instance :Sl Tryz.prog 127 27 1 24:=⟨SlT.mk' (z:=.slice none 0 0) Q5 Q5 Q5 Q1 Q1⟩
instance :Sl Tryz.prog 93 92 256 256:=⟨SlT.mk' (z:=.agg (List.replicate 256 (.bool false)).toArray) Q5 Q5 Q5 Q1 Q1⟩
instance :Sl Tryz.prog 123 122 6 112:=⟨SlT.mk' (z:=.agg #[.int .i64 0,.int .i64 0,.slice none 0 0,.slice none 0 0,.slice none 0 0,.slice none 0 0]) Q5 Q5 Q5 Q1 Q1⟩
instance :Ar Tryz.prog 92 256 4 1:=⟨by kernel_rfl,by kernel_rfl⟩
instance :En Tryz.prog 11:=⟨fun _ _=>by kernel_rfl⟩
instance :En Tryz.prog 12:=⟨fun _ _=>by kernel_rfl⟩
instance :En Tryz.prog 13:=⟨fun _ _=>by kernel_rfl⟩
instance :En Tryz.prog 15:=⟨fun _ _=>by kernel_rfl⟩
instance :En Tryz.prog 16:=⟨fun _ _=>by kernel_rfl⟩
instance :En Tryz.prog 17:=⟨fun _ _=>by kernel_rfl⟩
instance :En Tryz.prog 18:=⟨fun _ _=>by kernel_rfl⟩
instance :En Tryz.prog 20:=⟨fun _ _=>by kernel_rfl⟩
instance :En Tryz.prog 28:=⟨fun _ _=>by kernel_rfl⟩
instance :En Tryz.prog 23:=⟨fun _ _=>by kernel_rfl⟩
instance :En Tryz.prog 71:=⟨fun _ _=>by kernel_rfl⟩
instance :En Tryz.prog 38:=⟨fun _ _=>by kernel_rfl⟩
instance :En Tryz.prog 51:=⟨fun _ _=>by kernel_rfl⟩
instance :En Tryz.prog 41:=⟨fun _ _=>by kernel_rfl⟩
instance :En Tryz.prog 79:=⟨fun _ _=>by kernel_rfl⟩
instance :En Tryz.prog 29:=⟨fun _ _=>by kernel_rfl⟩
instance :En Tryz.prog 31:=⟨fun _ _=>by kernel_rfl⟩
instance :En Tryz.prog 32:=⟨fun _ _=>by kernel_rfl⟩
instance :En Tryz.prog 33:=⟨fun _ _=>by kernel_rfl⟩
instance :En Tryz.prog 34:=⟨fun _ _=>by kernel_rfl⟩
instance :En Tryz.prog 35:=⟨fun _ _=>by kernel_rfl⟩
instance :En Tryz.prog 36:=⟨fun _ _=>by kernel_rfl⟩
instance :En Tryz.prog 37:=⟨fun _ _=>by kernel_rfl⟩
instance :En Tryz.prog 39:=⟨fun _ _=>by kernel_rfl⟩
instance :En Tryz.prog 40:=⟨fun _ _=>by kernel_rfl⟩
instance :En Tryz.prog 42:=⟨fun _ _=>by kernel_rfl⟩
instance :En Tryz.prog 45:=⟨fun _ _=>by kernel_rfl⟩
instance :En Tryz.prog 49:=⟨fun _ _=>by kernel_rfl⟩
instance :En Tryz.prog 50:=⟨fun _ _=>by kernel_rfl⟩
instance :En Tryz.prog 54:=⟨fun _ _=>by kernel_rfl⟩
instance :En Tryz.prog 55:=⟨fun _ _=>by kernel_rfl⟩
instance :En Tryz.prog 57:=⟨fun _ _=>by kernel_rfl⟩
instance :En Tryz.prog 76:=⟨fun _ _=>by kernel_rfl⟩
instance :En Tryz.prog 75:=⟨fun _ _=>by kernel_rfl⟩
instance :En Tryz.prog 89:=⟨fun _ _=>by kernel_rfl⟩
instance :En Tryz.prog 90:=⟨fun _ _=>by kernel_rfl⟩
instance :En Tryz.prog 91:=⟨fun _ _=>by kernel_rfl⟩
instance :En Tryz.prog 77:=⟨fun _ _=>by kernel_rfl⟩
instance :En Tryz.prog 78:=⟨fun _ _=>by kernel_rfl⟩
instance :En Tryz.prog 59:=⟨fun _ _=>by kernel_rfl⟩
instance :En Tryz.prog 60:=⟨fun _ _=>by kernel_rfl⟩
instance :En Tryz.prog 61:=⟨fun _ _=>by kernel_rfl⟩
instance :En Tryz.prog 63:=⟨fun _ _=>by kernel_rfl⟩
instance :En Tryz.prog 70:=⟨fun _ _=>by kernel_rfl⟩
instance :En Tryz.prog 72:=⟨fun _ _=>by kernel_rfl⟩
instance :En Tryz.prog 73:=⟨fun _ _=>by kernel_rfl⟩
instance :En Tryz.prog 74:=⟨fun _ _=>by kernel_rfl⟩
instance :En Tryz.prog 83:=⟨fun _ _=>by kernel_rfl⟩
instance :En Tryz.prog 84:=⟨fun _ _=>by kernel_rfl⟩
instance :En Tryz.prog 85:=⟨fun _ _=>by kernel_rfl⟩
instance :En Tryz.prog 88:=⟨fun _ _=>by kernel_rfl⟩
instance :En Tryz.prog 95:=⟨fun _ _=>by kernel_rfl⟩
instance :En Tryz.prog 96:=⟨fun _ _=>by kernel_rfl⟩
instance :En Tryz.prog 97:=⟨fun _ _=>by kernel_rfl⟩
instance :En Tryz.prog 104:=⟨fun _ _=>by kernel_rfl⟩
instance :En Tryz.prog 105:=⟨fun _ _=>by kernel_rfl⟩
instance :En Tryz.prog 106:=⟨fun _ _=>by kernel_rfl⟩
instance :En Tryz.prog 115:=⟨fun _ _=>by kernel_rfl⟩
instance :En Tryz.prog 116:=⟨fun _ _=>by kernel_rfl⟩
instance :En Tryz.prog 117:=⟨fun _ _=>by kernel_rfl⟩
instance :En Tryz.prog 118:=⟨fun _ _=>by kernel_rfl⟩
instance :En Tryz.prog 119:=⟨fun _ _=>by kernel_rfl⟩
instance :En Tryz.prog 120:=⟨fun _ _=>by kernel_rfl⟩
instance :En Tryz.prog 121:=⟨fun _ _=>by kernel_rfl⟩
instance :En Tryz.prog 122:=⟨fun _ _=>by kernel_rfl⟩
instance :En Tryz.prog 123:=⟨fun _ _=>by kernel_rfl⟩
instance :En Tryz.prog 114:=⟨fun _ _=>by kernel_rfl⟩
instance :En Tryz.prog 124:=⟨fun _ _=>by kernel_rfl⟩
instance :En Tryz.prog 125:=⟨fun _ _=>by kernel_rfl⟩
instance :En Tryz.prog 126:=⟨fun _ _=>by kernel_rfl⟩
instance :En Tryz.prog 127:=⟨fun _ _=>by kernel_rfl⟩
instance :En Tryz.prog 128:=⟨fun _ _=>by kernel_rfl⟩
instance :En Tryz.prog 133:=⟨fun _ _=>by kernel_rfl⟩
instance :En Tryz.prog 140:=⟨fun _ _=>by kernel_rfl⟩
instance :En Tryz.prog 107:=⟨fun _ _=>by kernel_rfl⟩
instance :En Tryz.prog 108:=⟨fun _ _=>by kernel_rfl⟩
instance :En Tryz.prog 109:=⟨fun _ _=>by kernel_rfl⟩
instance :En Tryz.prog 110:=⟨fun _ _=>by kernel_rfl⟩
instance :En Tryz.prog 111:=⟨fun _ _=>by kernel_rfl⟩
instance :En Tryz.prog 112:=⟨fun _ _=>by kernel_rfl⟩
instance :En Tryz.prog 113:=⟨fun _ _=>by kernel_rfl⟩
instance :En Tryz.prog 141:=⟨fun _ _=>by kernel_rfl⟩
instance :En Tryz.prog 148:=⟨fun _ _=>by kernel_rfl⟩
instance :En Tryz.prog 149:=⟨fun _ _=>by kernel_rfl⟩
instance :En Tryz.prog 150:=⟨fun _ _=>by kernel_rfl⟩
instance :En Tryz.prog 151:=⟨fun _ _=>by kernel_rfl⟩
instance :En Tryz.prog 152:=⟨fun _ _=>by kernel_rfl⟩
instance :En Tryz.prog 153:=⟨fun _ _=>by kernel_rfl⟩
instance :En Tryz.prog 154:=⟨fun _ _=>by kernel_rfl⟩
instance :En Tryz.prog 145:=⟨fun _ _=>by kernel_rfl⟩
instance :En Tryz.prog 146:=⟨fun _ _=>by kernel_rfl⟩
section
variable {a:Act}{b n:Nat}{cs:List Value}{fr:Nat×Nat}{r s:ResultVar}{t:Tmp}{ty:TypeId}{u v x:Value}{w:World}
def RsV(P:Program)(C:World->Prop)(E:Env)(r:ResultVar)(v:Value):Prop:=
 match r with
 |.tmp t=>E.lookup t=some v
 |.cell t ty=>∃p,E.lookup t=some (.pointer (some p))/\∀w,C w->(loadVar ty p).run P w=.ok v w
section
variable {P:Program}{C:World->Prop}{E:Env}{M:List Nat}{W:World}{O:List Qf}{N:Nat}
theorem RsV.tmp(h:E.lookup t=some v):RsV P C E (.tmp t) v:=h
theorem RsV.cell{q:Nat}[hT:TN P ty n](h:E.lookup t=some (.pointer (some ⟨b,q,none⟩)))(hc:∀w,C w->w.rangeAt b q cs)(hl:cs.length=n):RsV P C E (.cell t ty) (.agg cs.toArray):=
 ⟨_,h,fun w hw=>by
  obtain⟨ds,hu,hr,hi⟩:=hT.h;subst hl
  exact run_loadVar_mid (P:=P) w b q ty cs ds (hc w hw) hu hr hi⟩
theorem RsV.cell1{p:Addr}[hT:T1 P ty](h:E.lookup t=some (.pointer (some p)))(hc:∀w,C w->w.cell? p=some v):RsV P C E (.cell t ty) v:=
 ⟨_,h,fun w hw=>by
  obtain⟨ds,hu,hr,hi⟩:=hT.h
  have hagg:(isAgg ty).run P w=.ok false w:=by
   unfold isAgg
   rw[Sem.run_bind,run_underlying hu w]
   cases ds<;>simp_all
  simp [loadVar,Sem.run_bind,hagg,hc w hw,go_sem]⟩
theorem Wd.range_blk(i:Nat){t:TypeId}(hx:O[i]? =some (.blk b (.cells cs.toArray t fr)))(h:Wd M W O w):w.rangeAt b 0 cs:=fun j v hv=>by
 rw[Nat.zero_add];exact h.cell_blk i hx (by simpa using hv)
theorem RsV.blk(i:Nat){tb:TypeId}[hT:TN P ty n](h:E.lookup t=some (.pointer (some ⟨b,0,none⟩)))(hx:O[i]? =some (.blk b (.cells cs.toArray tb fr)))(hl:cs.length=n):RsV P (Wd M W O) E (.cell t ty) (.agg cs.toArray):=
 RsV.cell h (fun w hw=>hw.range_blk i hx) hl
def RsF(P:Program)(a:Act)(w:World)(r:ResultVar)(v:Value):Prop:=
 match r with
 |.tmp t=>a.tmps[t]?.getD undef=v
 |.cell t ty=>∃p,a.tmps[t]?.getD undef=.pointer (some p)/\(loadVar ty p).run P w=.ok v w
theorem YU(ha:Ag N E a)(hw:C w)(h:RsV P C E r v):RsF P a w r v:=by
 cases r with
 |tmp t=>
  show a.tmps[t]?.getD undef=v;rw[ha.at_ h];rfl
 |cell t ty=>
  obtain⟨p,h1,h2⟩:=h;refine⟨p,?_,h2 w hw⟩;rw[ha.at_ h1];rfl
theorem Qw1{fn:Func}(hf:fn.results=#[r])(h:RsF P a w r v):(results fn a.tmps).run P w=.ok v w:=by
 cases r with
 |tmp t=>have h:_=_:=h;simp [results,hf,h]
 |cell t ty=>obtain⟨p,h1,h2⟩:=h;simp [results,hf,h1,h2,asAddr]
theorem QpH{fn:Func}(hf:fn.results=#[r,s])(h:RsF P a w r v)(k:RsF P a w s u):(results fn a.tmps).run P w=.ok (.tuple #[v,u]) w:=by
 cases r with
 |tmp t=>
  have h:_=_:=h;cases s with
  |tmp t'=>have k:_=_:=k;simp [results,hf,h,k]
  |cell t' ty'=>obtain⟨q,k1,k2⟩:=k;simp [results,hf,h,k1,k2,asAddr]
 |cell t ty=>
  obtain⟨p,h1,h2⟩:=h;cases s with
  |tmp t'=>have k:_=_:=k;simp [results,hf,h1,h2,k,asAddr]
  |cell t' ty'=>obtain⟨q,k1,k2⟩:=k;simp [results,hf,h1,h2,k1,k2,asAddr]
theorem QvM{fn:Func}{s:Tmp}(hf:fn.results=#[r,.tmp s,.tmp t])(h:RsF P a w r v)(k:RsF P a w (.tmp s) u)(l:RsF P a w (.tmp t) x):(results fn a.tmps).run P w=.ok (.tuple #[v,u,x]) w:=by
 have k:_=_:=k;have l:_=_:=l;cases r with
 |tmp t=>have h:_=_:=h;simp [results,hf,h,k,l]
 |cell t ty=>obtain⟨p,h1,h2⟩:=h;simp [results,hf,h1,h2,k,l,asAddr]
end
section
variable {P:Program}{E:Env}{M:List Nat}{W:World}{O:List Qf}{N:Nat}{fn:Func}{R:Ending->World->Prop}{e:Exit}
theorem Qa6(he:e=.normal\/e=.ret)(hr:∀a w,Ag N E a->Wd M W O w->(results fn a.tmps).run P w=.ok v w)(hR:∀w,Wd M W O w->R (.returned v) w):xE (bodyPost P fn R) N M W E O e:=fun a w ha hw=>by
 rcases he with rfl|rfl<;>exact⟨ha.df,v,hr a w ha hw,hR w hw⟩
theorem Zi(he:e=.normal\/e=.ret)(hf:fn.results=#[])(hR:∀w,Wd M W O w->R (.returned (.tuple #[])) w):xE (bodyPost P fn R) N M W E O e:=
 Qa6 he (fun a w ha hw=>by simp [results,hf]) hR
theorem Q7(he:e=.normal\/e=.ret)(hf:fn.results=#[r])(h:RsV P (Wd M W O) E r v)(hR:∀w,Wd M W O w->R (.returned v) w):xE (bodyPost P fn R) N M W E O e:=
 Qa6 he (fun a w ha hw=>Qw1 hf (YU ha hw h)) hR
theorem ZS(he:e=.normal\/e=.ret)(hf:fn.results=#[r,s])(h:RsV P (Wd M W O) E r v)(k:RsV P (Wd M W O) E s u)(hR:∀w,Wd M W O w->R (.returned (.tuple #[v,u])) w):xE (bodyPost P fn R) N M W E O e:=
 Qa6 he (fun a w ha hw=>QpH hf (YU ha hw h) (YU ha hw k)) hR
theorem ZU{s:Tmp}(he:e=.normal\/e=.ret)(hf:fn.results=#[r,.tmp s,.tmp t])(h:RsV P (Wd M W O) E r v)(k:RsV P (Wd M W O) E (.tmp s) u)(l:RsV P (Wd M W O) E (.tmp t) x)(hR:∀w,Wd M W O w->R (.returned (.tuple #[v,u,x])) w):xE (bodyPost P fn R) N M W E O e:=
 Qa6 he (fun a w ha hw=>QvM hf (YU ha hw h) (YU ha hw k) (YU ha hw l)) hR
end
end
section
variable {b i:Nat}{k:IntKind}{m n:Int}{t t':TypeId}{x y:Operand}
section
variable {P:Program}{ops:Array Oper}{C:World->Prop}{N:Nat}{E:Env}{o:Oper}{d:Nat}
theorem Qvm{ts:Array TypeId}(ho:o.op=.call { callee:=.builtin .min,args:=#[x,y],argTypes:=ts })(hd:o.dst=some d)(hN:d<N)(hw:Qo ops E o=some true)(hx:ev E x=some (.int k m))(hy:ev E y=some (.int k n)):oE P ops C N E ((d,.int k (min m n))::E) o:=
 Xi hd hN hw fun ρ w ha _=>by
  have e:(if n<m then n else m)=min m n:=by
   rw[Int.min_def];split<;>split<;>omega
  simp only[execOp,ho,resolve,invoke,builtin,Sem.run_bind,Sem.run_pure,Result.andThen_ok,List.map_toArray,List.map_cons,List.map_nil,ha.eval hx,ha.eval hy,run_min_int2,e]
theorem Qoj(ho:o.op=.binOp .shr t x y t')(hd:o.dst=some d)(hN:d<N)(hw:Qo ops E o=some true)(hx:ev E x=some (.int .i64 m))(hy:ev E y=some (.int k n))(h0:0<=n)(h1:n<=64):oE P ops C N E ((d,.int .i64 (m / 2 ^ n.toNat))::E) o:=
 Q0n ho hd hN hw hx hy fun w=>by rw[binOp_shr,shift_shr_i64 (h₀:=h0) (h₁:=h1)];rfl
theorem Q3j{e:TypeId}{n j:Nat}{cs:List Value}{v:Value}[hA:Ar P t n e 1][hT:T1 P e](ho:o.op=.index t x y)(hd:o.dst=some d)(hN:d<N)(hw:Qo ops E o=some true)(hx:ev E x=some (.agg cs.toArray))(hy:ev E y=some (.int k (j:Int)))(hj:j<n)(hc:cs[j]? =some v):oE P ops C N E ((d,v)::E) o:=
 Xi hd hN hw fun ρ w ha _=>by
  have hu:=hA.u;obtain⟨ds,hu',hr,hi⟩:=hT.h;have hagg:(isAgg e).run P w=.ok false w:=by
   unfold isAgg;rw[Sem.run_bind,run_underlying hu' w];cases ds<;>simp_all
  have hs:∃i,P.info? e=some i/\i.size=1:=by
   cases hq:P.info? e with
   |none=>rw[hq] at hi;cases hi
   |some i=>rw[hq] at hi;simp at hi;exact⟨i,rfl,hi⟩
  obtain⟨i,hi',hs⟩:=hs;have hc':cs.toArray[j]? =some v:=by simpa using hc
  have hp:(part e cs.toArray (j*1)).run P w=.ok v w:=by
   rw[Nat.mul_one];unfold part;simp only[Sem.run_bind,hagg,Result.andThen_ok,hc'];rfl
  rw[Nat.mul_one] at hp;simp [execOp,ho,ha.eval hx,ha.eval hy,Instr.index,asIntOf,run_underlying hu,sizeOf,typeInfo,hi',hs,hj,hp]
theorem QdL{a b:ByteArray}(ho:o.op=.binOp .add t x y t')(hd:o.dst=some d)(hN:d<N)(hw:Qo ops E o=some true)(hx:ev E x=some (.string a))(hy:ev E y=some (.string b))(h:a.size+b.size<=9223372036854775807):oE P ops C N E ((d,.string (a++b))::E) o:=
 Qtw ho hd hN hw hx hy fun w=>by rw[binOp_string_add];exact run_string_add_sum w a b h
theorem Qkw{lo hi:Operand}{s:ByteArray}{k':IntKind}{l h:Nat}(ht:P.underlying t=some .string)(ho:o.op=.slice t x (some lo) (some hi) none)(hd:o.dst=some d)(hN:d<N)(hw:Qo ops E o=some true)(hx:ev E x=some (.string s))(hl:ev E lo=some (.int k (l:Int)))(hh:ev E hi=some (.int k' (h:Int)))(h1:l<=h)(h2:h<=s.size):oE P ops C N E ((d,.string (s.extract l h))::E) o:=
 Xi hd hN hw fun ρ w ha _=>by
  simp [execOp,ho,ha.eval hx,ha.eval hl,ha.eval hh,Instr.sliceAt,run_underlying ht,Instr.slice,Instr.sliceBounds,Instr.sliceBound,asIntOf,h1,h2]
end
section
variable {M:List Nat}{W w w':World}{O:List Qf}
theorem XM.grown(h:XM [b] w w'):w.grownBy w' (some b):=
 ⟨h.os,h.tape,h.output,h.size,fun k hk hne=>h.block k hk (fun hm=>hne (by rw[List.mem_singleton.1 hm]))⟩
theorem Wd.keep1{o o':Obj}(h:Wd M W O w)(hO:O[i]? =some (.blk b o))(hk:XM [b] w w')(hb:w'.heap[b]? =some o'):Wd M W (O.set i (.blk b o')) w':=
 h.upd hO rfl rfl hk.grown hb Q56
theorem Wd.blk0{o:Obj}(h:Wd M W O w)(hO:O[i]? =some (.blk b o)):w.heap[b]? =some o:=h.own i _ hO
end
theorem Ag.args{vs:List Value}{N:Nat}{E:Env}{a:Act}(h:a.tmps.size=N)(hd:a.defers=[])(hE:∀p∈E,a.tmps[p.1]? =some p.2):Ag N E a:=by
 induction E with
 |nil=>exact Ag.nil h hd
 |cons p E ih=>exact Ag.cons (ih fun q hq=>hE q (List.mem_cons_of_mem _ hq)) (hE p List.mem_cons_self)
section
variable {P:Program}{Q:Exit->Act->World->Prop}{N:Nat}{M:List Nat}{W:World}{E:Env}{O:List Qf}
theorem X2{c:Operand}{x y:Code}{t:Bool}(hc:ev E c=some (.bool t))(h1:t=true->sE P Q N M W E O x)(h2:t=false->sE P Q N M W E O y):sE P Q N M W E O (.cond c x y):=fun a w ha hw=>wp_cond_split Q2j (fun h=>h1 h a w ha hw) (fun h=>h2 h a w ha hw)
end
end
section
variable {A:Option Addr}{c g n:Nat}{cap:Value}{f:FuncId}{p:Int->Bool}{w:World}{xs:List Int}
def Q7i(xs:List Int)(p:Int->Bool):Int:=match xs.findIdx? p with|some i=>(i:Int)|none=>-1
theorem Qit{i:Nat}{x:Int}(h:xs[i]? =some x)(hp:p x=true)(hl:∀j y,j<i->xs[j]? =some y->p y=false):Q7i xs p=(i:Int):=by
 unfold Q7i;have:xs.findIdx? p=some i:=by
  rw[List.findIdx?_eq_some_iff_getElem];obtain⟨h1,h2⟩:=List.getElem?_eq_some_iff.1 h;refine⟨h1,by rw[h2];exact hp,fun j hj=>?_⟩;have hj':xs[j]? =some xs[j]:=List.getElem?_eq_getElem Q3;simpa using hl j _ hj hj'
 rw[this]
theorem Qkl(hl:∀j y,j<xs.length->xs[j]? =some y->p y=false):Q7i xs p=-1:=by
 unfold Q7i;have:xs.findIdx? p=none:=by
  rw[List.findIdx?_eq_none_iff];intro x hx;obtain⟨j,hj,e⟩:=List.mem_iff_getElem.1 hx;simpa using hl j x hj (by rw[List.getElem?_eq_getElem hj,e])
 rw[this]
theorem Qii(xs:List Int)(p:Int->Bool):decide (0<=Q7i xs p)=xs.any p:=by
 unfold Q7i;cases h:xs.findIdx? p with
 |none=>
  rw[List.findIdx?_eq_none_iff] at h;have:xs.any p=false:=by
   rw[List.any_eq_false];intro x hx;simpa using h x hx
  rw[this];rfl
 |some i=>
  rw[List.findIdx?_eq_some_iff_getElem] at h;obtain⟨h1,h2,_⟩:=h;have:xs.any p=true:=by
   rw[List.any_eq_true];exact⟨_,List.getElem_mem h1,h2⟩
  rw[this];simp
def Q3q(f:FuncId):Prop:=∀(args:Array Value) (W:World),(callFunc f args).run Tryz.prog W=.ok (.enter f args) W
def Test(f:FuncId)(cap:Value)(w:World)(xs:List Int)(p:Int->Bool):Prop:=
 ∀(x:Int) (y:Up w),x∈xs->Calls Tryz.prog f #[.int .i64 x,cap] y.w fun e w'=>e=.returned (.bool (p x))/\Below y.w.heap.size y.w w'
theorem Test.up{w':World}(h:Test f cap w xs p)(hb:Below w.heap.size w w'):Test f cap w' xs p:=
 fun x y hx=>h x ⟨y.w,X9 hb y.b⟩ hx
def QuV(xs:List Int)(p:Int->Bool)(w:World)(e:Ending)(w':World):Prop:=e=.returned (.int .i64 (Q7i xs p))/\Below w.heap.size w w'
def Qvj(xs:List Int)(p:Int->Bool)(w:World)(k:Value)(wr:World):Prop:=∃i:Nat,i<=xs.length/\k=.int .i64 (i:Int)/\(∀j y,j<i->xs[j]? =some y->p y=false)/\Below w.heap.size w wr
theorem Q9E(h:Rd w w.heap.size 1 A n (iv xs))(hn:n<=1048576)(ht:Test f cap w xs p)(hf:Q3q f):
  Calls Tryz.prog 66 #[.slice A n c,.func (.func f) #[] #[cap]] w (QuV xs p w):=by
 have HL:=Qsx;have HR:=Q2 h;have HT:=Q2 ht;have hfe:∀(args:Array Value) (W:World),(callFunc f args).run Tryz.prog W=.ok (.enter f args) W:=hf;clear h ht hf;go_enter Tryz.func66,Tryz.ntmps66;go_wp2_with fail
 go_loopw [8] (Qvj xs p w) (fun k _=>n - (intOf k).toNat)
 case atStart=>exact⟨0,Nat.zero_le _,rfl,fun j r hj=>absurd hj Q3,Below.refl _ _⟩
 case round=>
  obtain⟨i,hi,rfl,hff,hbw⟩:=hrel;rw[HL.out] at hi;have HF:=Q2 hff;have HB:=Q2 hbw;clear hff hbw;by_cases hlt:i<n
  ·obtain⟨b,o,x,rfl,hb,hx,hc⟩:=Q6F HR.out hlt;have HX:=Q2 hx;have hc':=(HB.out.cell JU).trans hc
   have hli:(i:Int)<(n:Int):=by omega
   have h0:(0:Int)<=(i:Int):=by omega
   clear hx hc;go_wp2_with fail
   refine(HT.out x ⟨wr,HB.out⟩ (List.mem_of_getElem? HX.out)).mono ?_;rintro e w2 ⟨rfl,hb2⟩;have HB2:=Q2 (X9 HB.out (show Below wr.heap.size wr w2 from hb2));clear hb2 hc';cases hp:p x with
   |true=>
    have HP:=Q2 hp;clear hp;go_wp2_with fail
    go_ret;exact ⟨by rw[Qit HX.out HP.out HF.out];rfl,HB2.out⟩
   |false=>
    have HP:=Q2 hp;clear hp;go_wp2_with fail
    go_roundw
    case rel=>exact⟨i+1,by rw[HL.out];omega,by go_num,fun j y hj hy=>by
     by_cases hji:j=i
     ·subst hji;have:=HX.out;rw[hy] at this
      cases this
      exact HP.out
     ·exact HF.out j y Q3 hy,HB2.out⟩
    case measure=>simp [intOf];omega
  ·go_wp2_with fail
   go_ret;exact ⟨by rw[Qkl (fun j y hj=>HF.out j y (by rw[HL.out] at hj;omega))];rfl,HB.out⟩
theorem Zs(h:Rd w w.heap.size 1 A n (iv xs))(hn:n<=1048576)(ht:Test f cap w xs p)(hf:Q3q f):
  Calls Tryz.prog 154 #[.slice A n c,.func (.func f) #[] #[cap]] w fun e w'=>e=.returned (.bool (xs.any p))/\Below w.heap.size w w':=by
 have HE:=Q2 (Qii xs p);go_enter Tryz.func154,Tryz.ntmps154;go_wp2_with fail
 refine(Q9E h hn ht hf).mono ?_;rintro e w' ⟨rfl,hb⟩;go_wp2_with fail
 go_ret;exact⟨by rw[<- HE.out];rfl,hb⟩
theorem Z1(k:Int)(w:World)(hg:w.cell? ⟨g,0,none⟩=some (.int .i64 (n:Int)))(hn:n<=1048576):
  Calls Tryz.prog 175 #[.int .i64 k,.pointer (some ⟨g,0,none⟩)] w fun e w'=>e=.returned (.bool (inB k 0 ((n:Int) - 1)))/\w=w':=by
 go_enter Tryz.func175,Tryz.ntmps175;go_wp2_with (go_at_call 95;refine(Xo _ _ _ _).mono ?_;rintro e w' ⟨rfl,rfl⟩)
 exact JH
theorem Q0L{h:Nat}(k:Int)(w:World)(hg:w.cell? ⟨g,0,none⟩=some (.int .i64 (n:Int)))(hh:w.cell? ⟨h,0,none⟩=some (.func (.func 175) #[] #[.pointer (some ⟨g,0,none⟩)]))(hn:n<=1048576):
  Calls Tryz.prog 176 #[.int .i64 k,.pointer (some ⟨h,0,none⟩)] w fun e w'=>e=.returned (.bool (!(inB k 0 ((n:Int) - 1))))/\w=w':=by
 go_enter Tryz.func176,Tryz.ntmps176;go_wp2_with fail
 refine(Z1 k w hg hn).mono ?_;rintro e w' ⟨rfl,rfl⟩;go_wp2_with fail
 exact JH
end
def Xd(k size:Int)(big:Bool)(mn mx stop count elem:Int)(nb nn np:Nat):Bool:=
 ((nb:Int)==0||k==1)&&(stop==0||XS k)&&(size==0||XT k)&&((!big&&mn==0)||k==2)&&(mx==0||Z8 k)&&(count==0||QE k)&&(elem==0||JS k)&&((nn:Int)==0||k==7)&&((np:Int)==0||Jo k)
theorem QaR{a0:Value}{k size mn mx stop count elem:Int}{big:Bool}{Ab An Ap:Option Addr}{nb cb nn cn np cp:Nat}(w:World):
  Calls Tryz.prog 148 #[.agg #[a0,.int .i64 k,.slice Ab nb cb,.int .i64 size,.bool big,.int .i64 mn,.int .i64 mx,.int .i64 stop,.int .i64 count,.int .i64 elem,.slice An nn cn,.slice Ap np cp]] w fun e w'=>e=.returned (.bool (Xd k size big mn mx stop count elem nb nn np))/\Below w.heap.size w w':=by
 obtain⟨B,hB⟩:∃B,Xd k size big mn mx stop count elem nb nn np=B:=⟨_,rfl⟩;have HF:=Q2 hB;rw[hB];clear hB;go_enter Tryz.func148,Tryz.ntmps148;go_upto_region 2 with (fail)
 obtain⟨W1,hW1⟩:∃W1,w.alloc (.cells #[a0,.int .i64 k,.slice Ab nb cb,.int .i64 size,.bool big,.int .i64 mn,.int .i64 mx,.int .i64 stop,.int .i64 count,.int .i64 elem,.slice An nn cn,.slice Ap np cp] 65)=W1:=⟨_,rfl⟩;have HB1:=QjZ;have HV:YR (fun w'=>∃x:Up W1,w'=x.w) w.heap.size a0 (.int .i64 k) (.slice Ab nb cb) (.int .i64 size) (.bool big) (.int .i64 mn) (.int .i64 mx) (.int .i64 stop) (.int .i64 count) (.int .i64 elem) (.slice An nn cn) (.slice Ap np cp):=by
  rintro w' ⟨x,rfl⟩ j u hu;refine Up.cell ?_ x;rw[<- hW1];exact Q7O j u hu
 (try rw[hW1]);obtain⟨y,hy⟩:=Up.start W1;rw[hy];clear hW1 hy;refine Qcg y ?_;refine qE.start (N:=95) (E:=[(1,.pointer (some KV)),(3,.bool (k==2))]) ?_ (Ag.cons (Ag.cons (Ag.nil (by rfl) (by rfl)) (by rfl)) (by rfl));refine qE.cut [(16,.bool (((nb:Int)==0)||(k==1))),(1,.pointer (some KV)),(3,.bool (k==2))] 10 ?_ ?_
 ·clear HF HB1;obtain⟨L,hL⟩:∃L,((nb:Int)==0)=L:=⟨_,rfl⟩;rw[hL]
  cases L
  ·obtain⟨R,hR⟩:∃R,(k==1)=R:=⟨_,rfl⟩;rw[hR]
   cases R
   ·skip
    refine Qre ?_
    refine qE.nil (fun a ha=>?_);exact mc8
   ·skip
    refine Qre ?_
    refine qE.nil (fun a ha=>?_);exact mc8
  ·skip
   refine Yf ?_;repeat(first|refine XY rfl rfl Q1 rfl rfl ?_|refine XC rfl Q1 rfl Q1 rfl rfl ?_|refine Q2T HV rfl rfl Q1 rfl rfl rfl ?_|refine Q6w rfl Tryz.underlying25 rfl Q1 rfl rfl ?_|refine Jk rfl rfl Q1 rfl rfl rfl QT ?_|refine QV rfl rfl Q1 rfl rfl rfl ?_|refine Q0O rfl Q1 rfl ?_)
   refine qE.nil (fun a ha=>?_);exact mc8
 obtain⟨b1,hb1⟩:∃b,(((nb:Int)==0)||(k==1))=b:=⟨_,rfl⟩;rw[hb1];have HB_1:=Q2 hb1;clear hb1;refine Q3H ?_;refine qE.cut [(25,.bool (b1&&((stop==0)||(XS k)))),(1,.pointer (some KV)),(3,.bool (k==2))] 9 ?_ ?_
 ·clear HF HB1
  cases b1
  ·skip
   refine Q6z ?_
   refine qE.nil (fun a ha=>?_);exact mc8
  ·obtain⟨L,hL⟩:∃L,(stop==0)=L:=⟨_,rfl⟩;rw[hL]
   cases L
   ·obtain⟨R,hR⟩:∃R,(XS k)=R:=⟨_,rfl⟩;rw[hR]
    cases R
    ·skip
     refine Yf ?_;repeat(first|refine XY rfl rfl Q1 rfl rfl ?_|refine XC rfl Q1 rfl Q1 rfl rfl ?_|refine Xn HV rfl rfl Q1 rfl rfl rfl ?_|refine Xv HV rfl rfl Q1 rfl rfl ?_|refine Jk rfl rfl Q1 rfl rfl rfl QT ?_|refine QV rfl rfl Q1 rfl rfl rfl ?_|refine Xe rfl rfl Q1 rfl rfl rfl ?_|(refine Vo (v:=.bool (XS k)) rfl (fun _ _=>by kernel_rfl) rfl Q1 rfl rfl Qnr ?_;rw[hR]))
     refine qE.nil (fun a ha=>?_);exact mc8
    ·skip
     refine Yf ?_;repeat(first|refine XY rfl rfl Q1 rfl rfl ?_|refine XC rfl Q1 rfl Q1 rfl rfl ?_|refine Xn HV rfl rfl Q1 rfl rfl rfl ?_|refine Xv HV rfl rfl Q1 rfl rfl ?_|refine Jk rfl rfl Q1 rfl rfl rfl QT ?_|refine QV rfl rfl Q1 rfl rfl rfl ?_|refine Xe rfl rfl Q1 rfl rfl rfl ?_|(refine Vo (v:=.bool (XS k)) rfl (fun _ _=>by kernel_rfl) rfl Q1 rfl rfl Qnr ?_;rw[hR]))
     refine qE.nil (fun a ha=>?_);exact mc8
   ·skip
    refine QkN ?_
    refine qE.nil (fun a ha=>?_);exact mc8
 obtain⟨b2,hb2⟩:∃b,(b1&&((stop==0)||(XS k)))=b:=⟨_,rfl⟩;rw[hb2];have HB_2:=Q2 hb2;clear hb2;refine Q3H ?_;refine qE.cut [(34,.bool (b2&&((size==0)||(XT k)))),(1,.pointer (some KV)),(3,.bool (k==2))] 9 ?_ ?_
 ·clear HF HB1
  cases b2
  ·skip
   refine Q6z ?_
   refine qE.nil (fun a ha=>?_);exact mc8
  ·obtain⟨L,hL⟩:∃L,(size==0)=L:=⟨_,rfl⟩;rw[hL]
   cases L
   ·obtain⟨R,hR⟩:∃R,(XT k)=R:=⟨_,rfl⟩;rw[hR]
    cases R
    ·skip
     refine Yf ?_;repeat(first|refine XY rfl rfl Q1 rfl rfl ?_|refine XC rfl Q1 rfl Q1 rfl rfl ?_|refine Xn HV rfl rfl Q1 rfl rfl rfl ?_|refine Xv HV rfl rfl Q1 rfl rfl ?_|refine Jk rfl rfl Q1 rfl rfl rfl QT ?_|refine QV rfl rfl Q1 rfl rfl rfl ?_|refine Xe rfl rfl Q1 rfl rfl rfl ?_|(refine Vo (v:=.bool (XT k)) rfl (fun _ _=>by kernel_rfl) rfl Q1 rfl rfl QjS ?_;rw[hR]))
     refine qE.nil (fun a ha=>?_);exact mc8
    ·skip
     refine Yf ?_;repeat(first|refine XY rfl rfl Q1 rfl rfl ?_|refine XC rfl Q1 rfl Q1 rfl rfl ?_|refine Xn HV rfl rfl Q1 rfl rfl rfl ?_|refine Xv HV rfl rfl Q1 rfl rfl ?_|refine Jk rfl rfl Q1 rfl rfl rfl QT ?_|refine QV rfl rfl Q1 rfl rfl rfl ?_|refine Xe rfl rfl Q1 rfl rfl rfl ?_|(refine Vo (v:=.bool (XT k)) rfl (fun _ _=>by kernel_rfl) rfl Q1 rfl rfl QjS ?_;rw[hR]))
     refine qE.nil (fun a ha=>?_);exact mc8
   ·skip
    refine QkN ?_
    refine qE.nil (fun a ha=>?_);exact mc8
 obtain⟨b3,hb3⟩:∃b,(b2&&((size==0)||(XT k)))=b:=⟨_,rfl⟩;rw[hb3];have HB_3:=Q2 hb3;clear hb3;refine Q3H ?_;refine qE.cut [(47,.bool (b3&&((!big&&mn==0)||(k==2)))),(1,.pointer (some KV)),(3,.bool (k==2))] 13 ?_ ?_
 ·clear HF HB1
  cases b3
  ·skip
   refine Q6z ?_
   refine qE.nil (fun a ha=>?_);exact mc8
  ·skip
   cases big
   ·obtain⟨L,hL⟩:∃L,(mn==0)=L:=⟨_,rfl⟩;rw[hL]
    cases L
    ·obtain⟨R,hR⟩:∃R,(k==2)=R:=⟨_,rfl⟩;rw[hR]
     cases R
     ·skip
      refine Qry ?_
      refine qE.nil (fun a ha=>?_);exact mc8
     ·skip
      refine Qry ?_
      refine qE.nil (fun a ha=>?_);exact mc8
    ·skip
     refine Yf ?_;repeat(first|refine XY rfl rfl Q1 rfl rfl ?_|refine XC rfl Q1 rfl Q1 rfl rfl ?_|refine Xn HV rfl rfl Q1 rfl rfl rfl ?_|refine Q0S HV rfl rfl Q1 rfl rfl rfl ?_|refine Jk rfl rfl Q1 rfl rfl rfl QT ?_|refine QV rfl rfl Q1 rfl rfl rfl ?_|refine Qom rfl rfl Q1 rfl rfl ?_|refine Q0O rfl Q1 rfl ?_)
     refine qE.nil (fun a ha=>?_);exact mc8
   ·obtain⟨R,hR⟩:∃R,(k==2)=R:=⟨_,rfl⟩;rw[hR]
    cases R
    ·skip
     refine Qss ?_
     refine qE.nil (fun a ha=>?_);exact mc8
    ·skip
     refine Qss ?_
     refine qE.nil (fun a ha=>?_);exact mc8
 obtain⟨b4,hb4⟩:∃b,(b3&&((!big&&mn==0)||(k==2)))=b:=⟨_,rfl⟩;rw[hb4];have HB_4:=Q2 hb4;clear hb4;refine Q3H ?_;refine qE.cut [(56,.bool (b4&&((mx==0)||(Z8 k)))),(1,.pointer (some KV)),(3,.bool (k==2))] 9 ?_ ?_
 ·clear HF HB1
  cases b4
  ·skip
   refine Q6z ?_
   refine qE.nil (fun a ha=>?_);exact mc8
  ·obtain⟨L,hL⟩:∃L,(mx==0)=L:=⟨_,rfl⟩;rw[hL]
   cases L
   ·obtain⟨R,hR⟩:∃R,(Z8 k)=R:=⟨_,rfl⟩;rw[hR]
    cases R
    ·skip
     refine Yf ?_;repeat(first|refine XY rfl rfl Q1 rfl rfl ?_|refine XC rfl Q1 rfl Q1 rfl rfl ?_|refine Xn HV rfl rfl Q1 rfl rfl rfl ?_|refine Xv HV rfl rfl Q1 rfl rfl ?_|refine Jk rfl rfl Q1 rfl rfl rfl QT ?_|refine QV rfl rfl Q1 rfl rfl rfl ?_|refine Xe rfl rfl Q1 rfl rfl rfl ?_|(refine Vo (v:=.bool (Z8 k)) rfl (fun _ _=>by kernel_rfl) rfl Q1 rfl rfl Ql3 ?_;rw[hR]))
     refine qE.nil (fun a ha=>?_);exact mc8
    ·skip
     refine Yf ?_;repeat(first|refine XY rfl rfl Q1 rfl rfl ?_|refine XC rfl Q1 rfl Q1 rfl rfl ?_|refine Xn HV rfl rfl Q1 rfl rfl rfl ?_|refine Xv HV rfl rfl Q1 rfl rfl ?_|refine Jk rfl rfl Q1 rfl rfl rfl QT ?_|refine QV rfl rfl Q1 rfl rfl rfl ?_|refine Xe rfl rfl Q1 rfl rfl rfl ?_|(refine Vo (v:=.bool (Z8 k)) rfl (fun _ _=>by kernel_rfl) rfl Q1 rfl rfl Ql3 ?_;rw[hR]))
     refine qE.nil (fun a ha=>?_);exact mc8
   ·skip
    refine QkN ?_
    refine qE.nil (fun a ha=>?_);exact mc8
 obtain⟨b5,hb5⟩:∃b,(b4&&((mx==0)||(Z8 k)))=b:=⟨_,rfl⟩;rw[hb5];have HB_5:=Q2 hb5;clear hb5;refine Q3H ?_;refine qE.cut [(65,.bool (b5&&((count==0)||(QE k)))),(1,.pointer (some KV)),(3,.bool (k==2))] 9 ?_ ?_
 ·clear HF HB1
  cases b5
  ·skip
   refine Q6z ?_
   refine qE.nil (fun a ha=>?_);exact mc8
  ·obtain⟨L,hL⟩:∃L,(count==0)=L:=⟨_,rfl⟩;rw[hL]
   cases L
   ·obtain⟨R,hR⟩:∃R,(QE k)=R:=⟨_,rfl⟩;rw[hR]
    cases R
    ·skip
     refine Yf ?_;repeat(first|refine XY rfl rfl Q1 rfl rfl ?_|refine XC rfl Q1 rfl Q1 rfl rfl ?_|refine Xn HV rfl rfl Q1 rfl rfl rfl ?_|refine Xv HV rfl rfl Q1 rfl rfl ?_|refine Jk rfl rfl Q1 rfl rfl rfl QT ?_|refine QV rfl rfl Q1 rfl rfl rfl ?_|refine Xe rfl rfl Q1 rfl rfl rfl ?_|(refine Vo (v:=.bool (QE k)) rfl (fun _ _=>by kernel_rfl) rfl Q1 rfl rfl Qli ?_;rw[hR]))
     refine qE.nil (fun a ha=>?_);exact mc8
    ·skip
     refine Yf ?_;repeat(first|refine XY rfl rfl Q1 rfl rfl ?_|refine XC rfl Q1 rfl Q1 rfl rfl ?_|refine Xn HV rfl rfl Q1 rfl rfl rfl ?_|refine Xv HV rfl rfl Q1 rfl rfl ?_|refine Jk rfl rfl Q1 rfl rfl rfl QT ?_|refine QV rfl rfl Q1 rfl rfl rfl ?_|refine Xe rfl rfl Q1 rfl rfl rfl ?_|(refine Vo (v:=.bool (QE k)) rfl (fun _ _=>by kernel_rfl) rfl Q1 rfl rfl Qli ?_;rw[hR]))
     refine qE.nil (fun a ha=>?_);exact mc8
   ·skip
    refine QkN ?_
    refine qE.nil (fun a ha=>?_);exact mc8
 obtain⟨b6,hb6⟩:∃b,(b5&&((count==0)||(QE k)))=b:=⟨_,rfl⟩;rw[hb6];have HB_6:=Q2 hb6;clear hb6;refine Q3H ?_;refine qE.cut [(74,.bool (b6&&((elem==0)||(JS k)))),(1,.pointer (some KV)),(3,.bool (k==2))] 9 ?_ ?_
 ·clear HF HB1
  cases b6
  ·skip
   refine Q6z ?_
   refine qE.nil (fun a ha=>?_);exact mc8
  ·obtain⟨L,hL⟩:∃L,(elem==0)=L:=⟨_,rfl⟩;rw[hL]
   cases L
   ·obtain⟨R,hR⟩:∃R,(JS k)=R:=⟨_,rfl⟩;rw[hR]
    cases R
    ·skip
     refine Yf ?_;repeat(first|refine XY rfl rfl Q1 rfl rfl ?_|refine XC rfl Q1 rfl Q1 rfl rfl ?_|refine Xn HV rfl rfl Q1 rfl rfl rfl ?_|refine Xv HV rfl rfl Q1 rfl rfl ?_|refine Jk rfl rfl Q1 rfl rfl rfl QT ?_|refine QV rfl rfl Q1 rfl rfl rfl ?_|refine Xe rfl rfl Q1 rfl rfl rfl ?_|(refine Vo (v:=.bool (JS k)) rfl (fun _ _=>by kernel_rfl) rfl Q1 rfl rfl QkO ?_;rw[hR]))
     refine qE.nil (fun a ha=>?_);exact mc8
    ·skip
     refine Yf ?_;repeat(first|refine XY rfl rfl Q1 rfl rfl ?_|refine XC rfl Q1 rfl Q1 rfl rfl ?_|refine Xn HV rfl rfl Q1 rfl rfl rfl ?_|refine Xv HV rfl rfl Q1 rfl rfl ?_|refine Jk rfl rfl Q1 rfl rfl rfl QT ?_|refine QV rfl rfl Q1 rfl rfl rfl ?_|refine Xe rfl rfl Q1 rfl rfl rfl ?_|(refine Vo (v:=.bool (JS k)) rfl (fun _ _=>by kernel_rfl) rfl Q1 rfl rfl QkO ?_;rw[hR]))
     refine qE.nil (fun a ha=>?_);exact mc8
   ·skip
    refine QkN ?_
    refine qE.nil (fun a ha=>?_);exact mc8
 obtain⟨b7,hb7⟩:∃b,(b6&&((elem==0)||(JS k)))=b:=⟨_,rfl⟩;rw[hb7];have HB_7:=Q2 hb7;clear hb7;refine Q3H ?_;refine qE.cut [(85,.bool (b7&&(((nn:Int)==0)||(k==7)))),(1,.pointer (some KV)),(3,.bool (k==2))] 11 ?_ ?_
 ·clear HF HB1
  cases b7
  ·skip
   refine Q6z ?_
   refine qE.nil (fun a ha=>?_);exact mc8
  ·obtain⟨L,hL⟩:∃L,((nn:Int)==0)=L:=⟨_,rfl⟩;rw[hL]
   cases L
   ·obtain⟨R,hR⟩:∃R,(k==7)=R:=⟨_,rfl⟩;rw[hR]
    cases R
    ·skip
     refine Qsl ?_
     refine qE.nil (fun a ha=>?_);exact mc8
    ·skip
     refine Qsl ?_
     refine qE.nil (fun a ha=>?_);exact mc8
   ·skip
    refine Yf ?_;repeat(first|refine XY rfl rfl Q1 rfl rfl ?_|refine XC rfl Q1 rfl Q1 rfl rfl ?_|refine Q0l HV rfl rfl Q1 rfl rfl rfl ?_|refine Q6w rfl Tryz.underlying27 rfl Q1 rfl rfl ?_|refine Jk rfl rfl Q1 rfl rfl rfl QT ?_|refine QV rfl rfl Q1 rfl rfl rfl ?_|refine Q0O rfl Q1 rfl ?_)
    refine qE.nil (fun a ha=>?_);exact mc8
 obtain⟨b8,hb8⟩:∃b,(b7&&(((nn:Int)==0)||(k==7)))=b:=⟨_,rfl⟩;rw[hb8];have HB_8:=Q2 hb8;clear hb8;refine Q3H ?_;refine qE.cut [(2,.bool (b8&&(((np:Int)==0)||(Jo k))))] 10 ?_ ?_
 ·clear HF HB1
  cases b8
  ·skip
   refine Yf ?_;repeat(first|refine Xe rfl rfl Q1 rfl rfl rfl ?_|refine Q3o rfl rfl Q1 rfl rfl ?_|refine Q0O rfl Q1 rfl ?_)
   refine qE.nil (fun a ha=>?_);exact Qgw
  ·obtain⟨L,hL⟩:∃L,((np:Int)==0)=L:=⟨_,rfl⟩;rw[hL]
   cases L
   ·obtain⟨R,hR⟩:∃R,(Jo k)=R:=⟨_,rfl⟩;rw[hR]
    cases R
    ·skip
     refine Yf ?_;repeat(first|refine XY rfl rfl Q1 rfl rfl ?_|refine XC rfl Q1 rfl Q1 rfl rfl ?_|refine Q0R HV rfl rfl Q1 rfl rfl rfl ?_|refine Xv HV rfl rfl Q1 rfl rfl ?_|refine Q6w rfl Tryz.underlying48 rfl Q1 rfl rfl ?_|refine Jk rfl rfl Q1 rfl rfl rfl QT ?_|refine QV rfl rfl Q1 rfl rfl rfl ?_|refine Xe rfl rfl Q1 rfl rfl rfl ?_|refine Q3o rfl rfl Q1 rfl rfl ?_|(refine Vo (v:=.bool (Jo k)) rfl (fun _ _=>by kernel_rfl) rfl Q1 rfl rfl QjL ?_;rw[hR]))
     refine qE.nil (fun a ha=>?_);exact Qgw
    ·skip
     refine Yf ?_;repeat(first|refine XY rfl rfl Q1 rfl rfl ?_|refine XC rfl Q1 rfl Q1 rfl rfl ?_|refine Q0R HV rfl rfl Q1 rfl rfl rfl ?_|refine Xv HV rfl rfl Q1 rfl rfl ?_|refine Q6w rfl Tryz.underlying48 rfl Q1 rfl rfl ?_|refine Jk rfl rfl Q1 rfl rfl rfl QT ?_|refine QV rfl rfl Q1 rfl rfl rfl ?_|refine Xe rfl rfl Q1 rfl rfl rfl ?_|refine Q3o rfl rfl Q1 rfl rfl ?_|(refine Vo (v:=.bool (Jo k)) rfl (fun _ _=>by kernel_rfl) rfl Q1 rfl rfl QjL ?_;rw[hR]))
     refine qE.nil (fun a ha=>?_);exact Qgw
   ·skip
    refine Yf ?_;repeat(first|refine XY rfl rfl Q1 rfl rfl ?_|refine XC rfl Q1 rfl Q1 rfl rfl ?_|refine Q0R HV rfl rfl Q1 rfl rfl rfl ?_|refine Q6w rfl Tryz.underlying48 rfl Q1 rfl rfl ?_|refine Jk rfl rfl Q1 rfl rfl rfl QT ?_|refine QV rfl rfl Q1 rfl rfl rfl ?_|refine Q3o rfl rfl Q1 rfl rfl ?_|refine Q0O rfl Q1 rfl ?_)
    refine qE.nil (fun a ha=>?_);exact Qgw
 refine Q3H ?_;refine qE.nil (fun a ha=>?_);rintro w' ⟨y',rfl⟩;have hs2:=ha.at_ (i:=2) rfl;go_wp2_with fail
 exact bodyPost_ret (v:=.bool (b8&&(((np:Int)==0)||Jo k))) (by simp [results,Tryz.results148,go_sem,hs2]) ha.df ⟨by rw[<- HF.out,Xd,HB_1.out,HB_2.out,HB_3.out,HB_4.out,HB_5.out,HB_6.out,HB_7.out,HB_8.out],X9 HB1.out y'.b⟩
def XO(k count elem:Int)(parts:List Int):List Int:=
 if k=6\/k=10 then [count] else if k=7 then parts.take 1 else if k=8 then parts else if k=9 then [elem] else []
theorem Qt3(w:World)(B:Nat):Rd w B 1 none 0 (iv []):=⟨rfl,fun h=>absurd h Q3⟩
theorem Qdx{a0 a1 a2 a3 a4 a6 a7 a8 a9 a10 a11:Value}{mn:Int}(w:World):
  Calls Tryz.prog 57 #[.agg #[a0,a1,a2,a3,a4,.int .i64 mn,a6,a7,a8,a9,a10,a11]] w fun e w'=>e=.returned (.int .i64 mn)/\Below w.heap.size w w':=by
 go_enter Tryz.func57,Tryz.ntmps57;go_wp2_with fail
 exact Q2l
end Go.Proofs.YtphkhfdmlcnoeaaGreatDoor
