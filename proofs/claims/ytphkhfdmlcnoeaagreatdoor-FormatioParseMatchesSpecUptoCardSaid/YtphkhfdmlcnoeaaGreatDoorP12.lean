import Derived.Test.YtphkhfdmlcnoeaaGreatDoorP11
namespace Go.Proofs.YtphkhfdmlcnoeaaGreatDoor
set_option linter.unusedVariables false
set_option linter.unusedSimpArgs false
set_option maxRecDepth 1000000
set_option maxHeartbeats 32000000
open Go.RowKit
section
variable {F:List Rl}{c' i k n q':Nat}{r:Rl}{t:List Int}{x:Int}
structure ROk(n:Nat)(r:Rl):Prop where
 kind:1<=r.kind/\r.kind<=10
 formed:X6 r.kind r.size r.big r.mn r.mx r.stop r.count r.elem r.bs.length r.names.length r.parts.length=true
 bs1:r.kind=1->0<r.bs.length
 bs16:r.bs.length<=16
 seven:r.kind=7->r.names.length=r.parts.length/\1<=r.parts.length
 eight:r.kind=8->2<=r.parts.length
 p12:r.parts.length<=12
 parts:(r.kind=7\/r.kind=8)->∀x∈r.parts,0<=x/\x<n
 count:(r.kind=6\/r.kind=10)->0<=r.count/\r.count<n
 elem:(r.kind=6\/r.kind=9)->0<=r.elem/\r.elem<n
 num:r.kind=2->1<=r.size/\r.size<=4/\0<=r.mn/\r.mn<=r.mx/\r.mx<256 ^ r.size.toNat
 dec:r.kind=3->0<=r.mx/\r.mx<=999999999/\¬(48<=r.stop/\r.stop<=57)
 stop:(r.kind=3\/r.kind=5\/r.kind=9)->0<=r.stop/\r.stop<=255
 size4:r.kind=4->1<=r.size/\r.size<=1000
 size5:r.kind=5->0<=r.size/\r.size<=1000
theorem QM{n a b:Int}:inB n a b=true↔a<=n/\n<=b:=by unfold inB;simp
theorem Qv4{early:List Rl}(h:Xm r early n=0):ROk n r:=by
 unfold Xm at h;split at h
 ·cases h
 split at h
 ·cases h
 split at h
 ·cases h
 next h3=>
 split at h
 ·cases h
 next h4=>
 split at h
 ·cases h
 next h5=>
 split at h
 ·cases h
 next h6=>
 split at h
 ·cases h
 next h7=>
 split at h
 ·cases h
 next h8=>
 split at h
 ·cases h
 next h9=>
 split at h
 ·cases h
 next h10=>
 split at h
 ·cases h
 next h11=>
 have hk:1<=r.kind/\r.kind<=10:=QM.1 (by simpa using h3);have hf:X6 r.kind r.size r.big r.mn r.mx r.stop r.count r.elem r.bs.length r.names.length r.parts.length=true:=by simpa using h4
 have hr:QC r.kind r.size r.mn r.mx r.stop r.count r.elem r.parts n=true:=by simpa using h11
 clear h h3 h4 h11;simp only[Bool.and_eq_true,beq_iff_eq,bne_iff_ne,decide_eq_true_eq,not_and,ne_eq,Decidable.not_not] at h5 h6 h7 h8 h9 h10;refine⟨hk,hf,fun h=>?_,by omega,fun h=>⟨?_,?_⟩,fun h=>?_,by omega,?_,?_,?_,?_,?_,?_,?_,?_⟩
 ·have:=h5 h;omega
 ·have:=h7 h;omega
 ·have:=h8 h;omega
 ·have:=h9 h;omega
 ·rintro(h|h) x hx<;>
  ·rw[QC,if_neg Q3,if_neg Q3,if_neg Q3,if_neg Q3,if_neg Q3,if_neg Q3,if_neg Q3] at hr
   have h2:r.parts.any (fun x=>!(inB x 0 ((n:Int) - 1)))=false:=by simpa using hr
   have:=List.any_eq_false.1 h2 x hx;have:=QM.1 (by simpa using this);omega
 ·rintro(h|h)
  ·rw[QC,if_neg Q3,if_neg Q3,if_neg Q3,if_neg Q3,if_neg Q3,if_pos h,Bool.and_eq_true,QM,QM] at hr
   omega
  ·rw[QC,if_neg Q3,if_neg Q3,if_neg Q3,if_neg Q3,if_neg Q3,if_neg Q3,if_pos h,QM] at hr
   omega
 ·rintro(h|h)
  ·rw[QC,if_neg Q3,if_neg Q3,if_neg Q3,if_neg Q3,if_neg Q3,if_pos h,Bool.and_eq_true,QM,QM] at hr
   omega
  ·rw[QC,if_neg Q3,if_neg Q3,if_neg Q3,if_neg Q3,if_pos h,Bool.and_eq_true,QM,QM] at hr
   omega
 ·intro h;rw[QC,if_pos h,Bool.and_eq_true,Bool.and_eq_true,QM,QM,decide_eq_true_eq] at hr;exact⟨hr.1.1,hr.1.2,hr.2.1.1,hr.2.1.2,hr.2.2⟩
 ·intro h;rw[QC,if_neg Q3,if_pos h,Bool.and_eq_true,Bool.and_eq_true,QM,QM] at hr;refine⟨hr.1.1,hr.1.2,fun h'=>?_⟩;have:=hr.2.2;rw[QM.2 h'] at this
  cases this
 ·rintro(h|h|h)
  ·rw[QC,if_neg Q3,if_pos h,Bool.and_eq_true,Bool.and_eq_true,QM,QM] at hr;exact hr.2.1
  ·rw[QC,if_neg Q3,if_neg Q3,if_neg Q3,if_pos h,Bool.and_eq_true,QM,QM] at hr;exact hr.2
  ·rw[QC,if_neg Q3,if_neg Q3,if_neg Q3,if_neg Q3,if_pos h,Bool.and_eq_true,QM,QM] at hr;exact hr.1
 ·intro h;rw[QC,if_neg Q3,if_neg Q3,if_pos h,QM] at hr;exact hr
 ·intro h;rw[QC,if_neg Q3,if_neg Q3,if_neg Q3,if_pos h,Bool.and_eq_true,QM,QM] at hr;exact hr.1
def FOk(F:List Rl):Prop:=∀(i:Nat) (r:Rl),F[i]? =some r->ROk F.length r
def bl(r:Rl):List Int:=Xs r.kind r.count r.elem r.parts
theorem Q6z(h:ROk n r):∀x∈bl r,0<=x/\x<n:=by
 intro x hx;unfold bl Xs at hx;split at hx
 ·next hk=>rw[List.mem_singleton] at hx;subst hx;exact h.count hk
 split at hx
 ·next hk=>exact h.parts (.inl hk) x (List.mem_of_mem_take hx)
 split at hx
 ·next hk=>exact h.parts (.inr hk) x hx
 split at hx
 ·next hk=>rw[List.mem_singleton] at hx;subst hx;exact h.elem (.inr hk)
 ·cases hx
theorem Q6S(h:ROk n r):(bl r).length<=12:=by
 unfold bl Xs;split
 ·simp
 split
 ·have:=h.p12;rw[List.length_take]
  omega
 split
 ·exact h.p12
 split
 ·simp
 ·simp
theorem Q2X(h:F[i]? =some r):bg F i=(bl r).map Int.toNat:=by unfold bg;rw[h];rfl
theorem FOk.bd(h:FOk F):Bd F:=by
 intro i x hx;cases hr:F[i]? with
 |none=>unfold bg at hx;rw[hr] at hx;cases hx
 |some r=>
  rw[Q2X hr,List.mem_map] at hx;obtain⟨y,hy,rfl⟩:=hx;have:=Q6z (h i r hr) y hy;omega
def XC(l:List Bool):List Value:=l.map .bool
theorem Ve{l:List Bool}(h:i<l.length):(XC l)[i]? =some (.bool (l.getD i false)):=by
 unfold XC;rw[List.getElem?_map,List.getElem?_eq_getElem h,List.getD_eq_getElem?_getD,List.getElem?_eq_getElem h];rfl
theorem Q0V(l:List Bool)(i:Nat)(b:Bool):(XC l).set i (.bool b)=XC (l.set i b):=by
 unfold XC;rw[List.map_set]
theorem QgC(n:Nat):(Go.madeCells #[.bool false] (n*1)).toList=XC (List.replicate n false):=by
 refine List.ext_getElem? fun i=>?_;unfold XC Go.madeCells;rw[List.getElem?_map];by_cases h:i<n
 ·simp [h,Nat.mod_one]
 ·simp [h]
def Q1c(F:List Rl)(k:Nat):Bool:=(XD F k).getD k false
theorem Q36(hb:Bd F)(hk:k<F.length):Q1c F k=true↔Rch F k k:=ZN hb hk k
structure Cy where
 seen:List Bool
 qs:List Int
 b:Nat
 q:Nat
 c:Nat
 cur:List Value
def Vq(s:Cy)(n:Nat):Nat:=cnt (fun i=>!(s.seen.getD i false)) n
structure CyP(F:List Rl)(k:Nat)(s:Cy):Prop where
 len:s.seen.length=F.length
 win:Q57 s.q s.qs.length s.c s.cur (iv s.qs)
 inn:∀x∈s.qs,0<=x/\x<F.length
 sound:∀x∈s.qs,Rch F k x.toNat
 start:∀x∈bg F k,s.seen.getD x false=true\/(x:Int)∈s.qs
 closed:∀i,s.seen.getD i false=true->∀x∈bg F i,s.seen.getD x false=true\/(x:Int)∈s.qs
 notk:s.seen.getD k false=false
 small:13*Vq s F.length+s.qs.length<=13*F.length+12
theorem CyP.old{s:Cy}(h:CyP F k s)(hq:s.qs=x::t)(hx:s.seen.getD x.toNat false=true)(hxn:0<=x)(hw:Q57 q' t.length c' s.cur (iv t)):CyP F k { s with qs:=t,q:=q',c:=c' }:=by
 have hmem:∀y:Nat,(y:Int)∈s.qs->s.seen.getD y false=true\/(y:Int)∈t:=by
  intro y hy;rw[hq] at hy;rcases List.mem_cons.1 hy with e|e
  ·left;rw[<- e] at hx;simpa using hx
  ·exact .inr e
 refine⟨h.len,hw,fun y hy=>h.inn y (by rw[hq];exact List.mem_cons_of_mem _ hy),fun y hy=>h.sound y (by rw[hq];exact List.mem_cons_of_mem _ hy),?_,?_,h.notk,?_⟩
 ·intro y hy
  rcases h.start y hy with h1|h1
  ·exact .inl h1
  ·exact hmem y h1
 ·intro i hi y hy
  rcases h.closed i hi y hy with h1|h1
  ·exact .inl h1
  ·exact hmem y h1
 ·have h1:=h.small;rw[hq] at h1
  simp only[List.length_cons] at h1;show 13*Vq s F.length+t.length<=_;omega
theorem CyP.new(hF:FOk F){s:Cy}(h:CyP F k s)(hq:s.qs=x::t)(hr:F[x.toNat]? =some r)(hx:s.seen.getD x.toNat false=false)(hne:x≠(k:Int)){b':Nat}{cur':List Value}(hw:Q57 q' (t++bl r).length c' cur' (iv (t++bl r))):
  CyP F k { seen:=s.seen.set x.toNat true,qs:=t++bl r,b:=b',q:=q',c:=c',cur:=cur' }/\13*Vq { seen:=s.seen.set x.toNat true,qs:=t++bl r,b:=b',q:=q',c:=c',cur:=cur' } F.length+(t++bl r).length<13*Vq s F.length+s.qs.length:=by
 have hxi:=h.inn x (by rw[hq];exact List.mem_cons_self);have hxl:x.toNat<s.seen.length:=by rw[h.len];omega
 have hset:∀i,(s.seen.set x.toNat true).getD i false=if i=x.toNat then true else s.seen.getD i false:=fun i=>XB _ _ _ _ hxl;have hbl:=Q6S (hF _ _ hr);have hlt:Vq { seen:=s.seen.set x.toNat true,qs:=t++bl r,b:=b',q:=q',c:=c',cur:=cur' } F.length<Vq s F.length:=by
  refine Q76 F.length (fun i hi hh=>?_) ⟨x.toNat,by omega,?_,?_⟩
  ·show (!(s.seen.getD i false))=true
   have hh':(!((s.seen.set x.toNat true).getD i false))=true:=hh;rw[hset] at hh';split at hh'
   ·cases hh'
   ·exact hh'
  ·show (!((s.seen.set x.toNat true).getD x.toNat false))=false
   rw[hset,if_pos rfl];rfl
  ·show (!(s.seen.getD x.toNat false))=true
   rw[hx];rfl
 have hm:13*Vq { seen:=s.seen.set x.toNat true,qs:=t++bl r,b:=b',q:=q',c:=c',cur:=cur' } F.length+(t++bl r).length<13*Vq s F.length+s.qs.length:=by
  rw[hq,List.length_append,List.length_cons];omega
 refine⟨⟨by simp [h.len],hw,?_,?_,?_,?_,?_,?_⟩,hm⟩
 ·intro y hy
  rcases List.mem_append.1 hy with e|e
  ·exact h.inn y (by rw[hq];exact List.mem_cons_of_mem _ e)
  ·exact Q6z (hF _ _ hr) y e
 ·intro y hy
  rcases List.mem_append.1 hy with e|e
  ·exact h.sound y (by rw[hq];exact List.mem_cons_of_mem _ e)
  ·refine .more (h.sound x (by rw[hq];exact List.mem_cons_self)) ?_;rw[Q2X hr];exact List.mem_map_of_mem e
 ·intro y hy;rw[hset]
  split
  ·exact .inl rfl
  ·next hyx=>
   rcases h.start y hy with h1|h1
   ·exact .inl h1
   ·rw[hq] at h1
    rcases List.mem_cons.1 h1 with e|e
    ·exact absurd Q3 hyx
    ·exact .inr (List.mem_append_left _ e)
 ·intro i hi y hy;rw[hset] at hi ⊢
  split
  ·exact .inl rfl
  ·next hyx=>
   split at hi
   ·next hix=>
    subst hix;right;rw[Q2X hr,List.mem_map] at hy;obtain⟨z,hz,rfl⟩:=hy;have:=Q6z (hF _ _ hr) z hz;rw[show ((z.toNat:Nat):Int)=z by omega];exact List.mem_append_right _ hz
   ·rcases h.closed i hi y hy with h1|h1
    ·exact .inl h1
    ·rw[hq] at h1
     rcases List.mem_cons.1 h1 with e|e
     ·exact absurd Q3 hyx
     ·exact .inr (List.mem_append_left _ e)
 ·rw[hset,if_neg Q3];exact h.notk
 ·have:=h.small
  show 13*Vq _ F.length+(t++bl r).length<=_;omega
theorem CyP.done(hF:FOk F)(hk:k<F.length){s:Cy}(h:CyP F k s)(hq:s.qs=[]):Q1c F k=false:=by
 cases hc:Q1c F k with
 |false=>rfl
 |true=>
  exfalso;have hr:=(Q36 hF.bd hk).1 hc;have hall:∀j,Rch F k j->s.seen.getD j false=true:=by
   intro j hj;induction hj with
   |one h'=>
    rcases h.start _ h' with h1|h1
    ·exact h1
    ·rw[hq] at h1;cases h1
   |more _ h' ih=>
    rcases h.closed _ ih _ h' with h1|h1
    ·exact h1
    ·rw[hq] at h1;cases h1
  have:=hall k hr;rw[h.notk] at this;cases this
end
section
variable {A Ab An Ap:Option Addr}{F:List Rl}{W:World}{bs c cb cn cp g gf h n:Nat}{out:List Bool}{r:Rl}{x:Int}
def QaA(F:List Rl)(x:Int):Int:=match F[x.toNat]? with|some r=>r.mn|none=>0
theorem QgM(h:F[x.toNat]? =some r):QaA F x=r.mn:=by unfold QaA;rw[h]
def mk(out:List Bool)(x:Int):Bool:=out.getD x.toNat false
def JR(F:List Rl)(out:List Bool)(r:Rl):Bool:=
 if r.kind=10 then mk out r.count
 else if r.kind=6 then mk out r.count&&(QaA F r.count==0||mk out r.elem)
 else if r.kind=7 then !(r.parts.any fun k=>!(mk out k))
 else if r.kind=8 then r.parts.any fun k=>mk out k
 else true
def Z5(F:List Rl)(out:List Bool)(k:Nat):List Bool:=out.set k (out.getD k false||(match F[k]? with|some r=>JR F out r|none=>false))
def Zs(F:List Rl)(out:List Bool):List Bool:=(List.range F.length).foldl (Z5 F) out
def Zg(F:List Rl):List Bool:=iter (Zs F) F.length (List.replicate F.length false)
structure Qf4(w:World)(g bs n:Nat)(out:List Bool):Prop where
 v:w.cell? ⟨g,0,none⟩=some (.slice (some ⟨bs,0,none⟩) n n)
 at_:∀j,j<n->w.cell? ⟨bs,0+j,none⟩=some (.bool (out.getD j false))
theorem Qf4.on{w w':World}(h:Qf4 w g bs n out)(hb:Below w.heap.size w w'):Qf4 w' g bs n out:=
 ⟨(hb.cell (Q0s h.v)).trans h.v,fun j hj=>(hb.cell (Q0s (h.at_ j hj))).trans (h.at_ j hj)⟩
theorem Q7m(h:Qf4 W g bs n out)(hx:0<=x/\x<n):Calls Tryz.prog 152 #[.int .i64 x,.pointer (some ⟨g,0,none⟩)] W fun e w'=>e=.returned (.bool (mk out x))/\Below W.heap.size W w':=by
 have hv:=h.v;have hc:=h.at_ x.toNat Q3;clear h;go_enter Tryz.func152,Tryz.ntmps152;refine Qv (M:=[]) (W:=W) (N:=8) (E:=[(0,.int .i64 x),(1,.pointer Q7E)]) (O:=[]) ?_ mc3 QT;repeat(first|refine Q4 zM ?_|refine Q4 zA ?_|refine Q4 zC ?_|refine Q4 QoE ?_|refine Qd ?_|refine Qa ?_|refine Q6 ?_|refine QB ?_)
 exact QdH
theorem QvX(a b:Value):(#[a]++#[b]:Array Value)=#[a,b]:=by simp
theorem Qvq(a b c:Value):(#[a]++#[b,c]:Array Value)=#[a,b,c]:=by simp
theorem Q5z(h:Qf4 W g bs n out)(hx:0<=x/\x<n):Calls Tryz.prog 152 ([Value.int .i64 x].toArray++#[.pointer (some ⟨g,0,none⟩)]) W fun e w'=>e=.returned (.bool (mk out x))/\Below W.heap.size W w':=by
 rw[show ([Value.int .i64 x].toArray++#[.pointer (some ⟨g,0,none⟩)]:Array Value)=_ from QvX _ _];exact Q7m h hx
theorem QfR(hh:W.cell? ⟨h,0,none⟩=some (.func (.func 152) #[] #[.pointer (some ⟨g,0,none⟩)]))(ho:Qf4 W g bs n out)(hx:0<=x/\x<n):Calls Tryz.prog 155 #[.int .i64 x,.pointer (some ⟨h,0,none⟩)] W fun e w'=>e=.returned (.bool (!(mk out x)))/\Below W.heap.size W w':=by
 have HO:=Q2 ho;clear ho;go_enter Tryz.func155,Tryz.ntmps155;refine Qv (M:=[]) (W:=W) (N:=8) (E:=[(0,.int .i64 x),(1,.pointer (some ⟨h,0,none⟩))]) (O:=[]) ?_ mc3 QT;repeat(first|refine Q4 zM ?_|refine Q4 zA ?_|refine Q4 zC ?_|refine Q4 (Kg (f:=152) rfl rfl Q1 rfl rfl rfl (fun w hw=>Q5z (HO.out.on hw.k.below) hx)) ?_|refine Qd ?_|refine Qa ?_|refine Q6 ?_|refine QB ?_|refine Q4 zO ?_)
 exact QdH
theorem QbW:Q0P 152:=fun args W=>by kernel_rfl
theorem Q9Y:Q0P 155:=fun args W=>by kernel_rfl
structure Qbm(w:World)(h g bs n:Nat)(out:List Bool)(gf:Nat)(A:Option Addr)(c:Nat):Prop where
 o:Qf4 w g bs n out
 h:w.cell? ⟨h,0,none⟩=some (.func (.func 152) #[] #[.pointer (some ⟨g,0,none⟩)])
 f:w.cell? ⟨gf,0,none⟩=some (.slice A n c)
theorem QuC(hv:Qbm W h g bs n out gf A c)(hf:QW W W.heap.size A n F)(hl:RuL W r Ab cb An cn Ap cp)(hr:ROk n r)(hk:r.kind=10):
  Calls Tryz.prog 153 #[.agg (ruC r (.slice Ab r.bs.length cb) (.slice An r.names.length cn) (.slice Ap r.parts.length cp)).toArray,.pointer (some ⟨h,0,none⟩),.pointer (some ⟨gf,0,none⟩)] W fun e w'=>e=.returned (.bool (JR F out r))/\Below W.heap.size W w':=by
 have hh:=hv.h;have hff:=hv.f;have HO:=Q2 hv.o;have HL:=Q2 hl;have HR:=Q2 hr;have hp12:=hr.p12;have hcn:=hr.count (.inr hk);clear hv hl hr;go_enter Tryz.func153,Tryz.ntmps153;refine Qv (M:=[]) (W:=W) (N:=48) (E:=QcG) (O:=[]) ?_ Zo QT;repeat(first|refine Q4 zA ?_|refine Q4 zF ?_|refine Q4 (zB 0) ?_|refine Q4 zC ?_|refine yB fun br=>?_|refine Q4 (Kg (f:=152) rfl rfl Q1 rfl rfl rfl (fun w hw=>Q5z (HO.out.on hw.k.below) hcn)) ?_|refine Qd ?_|refine Qa ?_|refine Q6 ?_|refine Q9 rfl ?_|refine QB ?_|refine Qh ?_|refine Qk ?_|refine Qs ?_|refine Q4 zet ?_)
 exact Q8 mc4 rfl (.tmp rfl) (fun w hw=>⟨by rw[JR,if_pos hk],hw.k.below⟩)
theorem QvT(hv:Qbm W h g bs n out gf A c)(hf:QW W W.heap.size A n F)(hl:RuL W r Ab cb An cn Ap cp)(hr:ROk n r)(hk:r.kind=6):
  Calls Tryz.prog 153 #[.agg (ruC r (.slice Ab r.bs.length cb) (.slice An r.names.length cn) (.slice Ap r.parts.length cp)).toArray,.pointer (some ⟨h,0,none⟩),.pointer (some ⟨gf,0,none⟩)] W fun e w'=>e=.returned (.bool (JR F out r))/\Below W.heap.size W w':=by
 have hh:=hv.h;have hff:=hv.f;have HO:=Q2 hv.o;have HL:=Q2 hl;have HR:=Q2 hr;have hp12:=hr.p12;have hcn:=hr.count (.inl hk);have hen:=hr.elem (.inl hk);have hlen:=hf.1;obtain⟨b,o,rfl⟩:=hf.addr Q3;obtain⟨rc,Ac,cc,Ad,cd,Ae,ce,hrc,hrg,_⟩:=hf.rl (i:=r.count.toNat) Q3;have HM:=Q2 (QgM hrc);clear hrc hf hlen;obtain⟨B,hB⟩:∃B,JR F out r=B:=⟨_,rfl⟩;have HB:=Q2 (show (mk out r.count&&(QaA F r.count==0||mk out r.elem))=B by rw[<- hB,JR,if_neg Q3,if_pos hk]);rw[hB];clear hB;obtain⟨h1,hh1⟩:∃x,mk out r.count=x:=⟨_,rfl⟩;obtain⟨h3,hh3⟩:∃x,mk out r.elem=x:=⟨_,rfl⟩;have H1:=Q2 hh1;have H3:=Q2 hh3;clear hh1 hh3;clear hv hl hr;go_enter Tryz.func153,Tryz.ntmps153;refine Qv (M:=[]) (W:=W) (N:=48) (E:=QcG) (O:=[]) ?_ Zo QT;cases h1 with
 |false=>
  repeat(first|refine Q4 zM ?_|refine Q4 zA ?_|refine Q4 zF ?_|refine Q4 zS ?_|refine Q4 (zB 0) ?_|refine Q4 zC ?_|refine yB fun br=>?_|refine Q4 (Kg (v:=.bool false) (f:=152) rfl rfl Q1 rfl rfl rfl Qsu) ?_|refine Qd ?_|refine Qa ?_|refine Q6 ?_|refine Q9 rfl ?_|refine Q7 rfl ?_|refine QB ?_|refine Qh ?_|refine Qk ?_|refine Qs ?_|refine Q4 zet ?_|refine Q4 zef ?_|refine Q4 zN ?_)
  exact Q8 mc4 rfl (.tmp rfl) (fun w hw=>⟨by rw[<- HB.out,H1.out];rfl,hw.k.below⟩)
 |true=>
  by_cases hm:rc.mn=0
  ·skip
   repeat(first|refine Q4 zM ?_|refine Q4 zA ?_|refine Q4 zF ?_|refine Q4 zS ?_|refine Q4 (zB 0) ?_|refine Q4 zC ?_|refine Q4 (zD 0) ?_|refine Q4 zE ?_|refine yB fun br=>?_|refine Q4 QtZ ?_|refine Q4 Qmk ?_|refine Q4 Qnh ?_|refine Qd ?_|refine Qa ?_|refine Q6 ?_|refine Q9 rfl ?_|refine Q7 rfl ?_|refine QB ?_|refine Qh ?_|refine Qk ?_|refine Qs ?_|refine Q4 zet ?_|refine Q4 zef ?_|refine Q4 zY ?_)
   exact Q8 mc4 rfl (.tmp rfl) (fun w hw=>⟨by rw[<- HB.out,H1.out,HM.out,hm];rfl,hw.k.below⟩)
  ·skip
   repeat(first|refine Q4 zM ?_|refine Q4 zA ?_|refine Q4 zF ?_|refine Q4 (zB 0) ?_|refine Q4 zC ?_|refine Q4 (zD 0) ?_|refine Q4 zE ?_|refine yB fun br=>?_|refine Q4 QtZ ?_|refine Q4 Qmk ?_|refine Q4 (Kg (v:=.bool h3) (f:=152) rfl rfl Q1 rfl rfl rfl (fun w hw=>(Q5z (HO.out.on hw.k.below) hen).mono fun e w' hq=>⟨by rw[hq.1,H3.out],hq.2⟩)) ?_|refine Q4 Qnh ?_|refine Qd ?_|refine Qa ?_|refine Q6 ?_|refine Q9 rfl ?_|refine Q7 rfl ?_|refine QB ?_|refine Qh ?_|refine Qk ?_|refine Qs ?_|refine Q4 zet ?_|refine Q4 zef ?_|refine Q4 zY ?_|refine Q4 zN ?_)
   exact Q8 mc4 rfl (.tmp rfl) (fun w hw=>⟨by rw[<- HB.out,H1.out,H3.out,HM.out];simp [hm],hw.k.below⟩)
theorem Qvz(hv:Qbm W h g bs n out gf A c)(hf:QW W W.heap.size A n F)(hl:RuL W r Ab cb An cn Ap cp)(hr:ROk n r)(hk:r.kind=7):
  Calls Tryz.prog 153 #[.agg (ruC r (.slice Ab r.bs.length cb) (.slice An r.names.length cn) (.slice Ap r.parts.length cp)).toArray,.pointer (some ⟨h,0,none⟩),.pointer (some ⟨gf,0,none⟩)] W fun e w'=>e=.returned (.bool (JR F out r))/\Below W.heap.size W w':=by
 have hh:=hv.h;have hff:=hv.f;have HO:=Q2 hv.o;have HL:=Q2 hl;have HR:=Q2 hr;have hp12:=hr.p12;have HP:=Q2 (hr.parts (.inl hk));clear hv hl hr;go_enter Tryz.func153,Tryz.ntmps153;refine Qv (M:=[]) (W:=W) (N:=48) (E:=QcG) (O:=[]) ?_ Zo QT;repeat(first|refine Q4 zA ?_|refine Q4 zF ?_|refine Q4 (zB 0) ?_|refine Q4 zC ?_|refine yB fun br=>?_|refine Q4 (Qg (f:=154) rfl rfl Q1 rfl rfl (fun w hw=>Zq (p:=fun k=>!(mk out k)) (HL.out.on hw.k.below).p Q3 (fun x y hx=>QfR (y.b.cell (Q0s (hw.k.below.cell (Q0s hh) |>.trans hh)) |>.trans (hw.k.below.cell (Q0s hh) |>.trans hh)) ((HO.out.on hw.k.below).on y.b) (HP.out x hx)) Q9Y)) ?_|refine Qd ?_|refine Qa ?_|refine Q6 ?_|refine Q9 rfl ?_|refine Q7 rfl ?_|refine QB ?_|refine Qh ?_|refine Qk ?_|refine Qs ?_|refine Q4 zet ?_|refine Q4 zef ?_|refine Q4 zO ?_|refine Q4 zu ?_)
 exact Q8 mc4 rfl (.tmp rfl) (fun w hw=>⟨by rw[JR,if_neg Q3,if_neg Q3,if_pos hk],hw.k.below⟩)
theorem Qw1(hv:Qbm W h g bs n out gf A c)(hf:QW W W.heap.size A n F)(hl:RuL W r Ab cb An cn Ap cp)(hr:ROk n r)(hk:r.kind=8):
  Calls Tryz.prog 153 #[.agg (ruC r (.slice Ab r.bs.length cb) (.slice An r.names.length cn) (.slice Ap r.parts.length cp)).toArray,.pointer (some ⟨h,0,none⟩),.pointer (some ⟨gf,0,none⟩)] W fun e w'=>e=.returned (.bool (JR F out r))/\Below W.heap.size W w':=by
 have hh:=hv.h;have hff:=hv.f;have HO:=Q2 hv.o;have HL:=Q2 hl;have HR:=Q2 hr;have hp12:=hr.p12;have HP:=Q2 (hr.parts (.inr hk));clear hv hl hr;go_enter Tryz.func153,Tryz.ntmps153;refine Qv (M:=[]) (W:=W) (N:=48) (E:=QcG) (O:=[]) ?_ Zo QT;repeat(first|refine Q4 zA ?_|refine Q4 zF ?_|refine Q4 (zB 0) ?_|refine Q4 zC ?_|refine yB fun br=>?_|refine Q4 (Qg (f:=154) rfl rfl Q1 rfl rfl (fun w hw=>Zq (p:=fun k=>mk out k) (HL.out.on hw.k.below).p Q3 (fun x y hx=>Q7m ((HO.out.on hw.k.below).on y.b) (HP.out x hx)) QbW)) ?_|refine Qd ?_|refine Qa ?_|refine Q6 ?_|refine Q9 rfl ?_|refine Q7 rfl ?_|refine QB ?_|refine Qh ?_|refine Qk ?_|refine Qs ?_|refine Q4 zet ?_|refine Q4 zef ?_)
 exact Q8 mc4 rfl (.tmp rfl) (fun w hw=>⟨by rw[JR,if_neg Q3,if_neg Q3,if_neg Q3,if_pos hk],hw.k.below⟩)
theorem Qwf(hv:Qbm W h g bs n out gf A c)(hf:QW W W.heap.size A n F)(hl:RuL W r Ab cb An cn Ap cp)(hr:ROk n r)(hk:r.kind≠10/\r.kind≠6/\r.kind≠7/\r.kind≠8):
  Calls Tryz.prog 153 #[.agg (ruC r (.slice Ab r.bs.length cb) (.slice An r.names.length cn) (.slice Ap r.parts.length cp)).toArray,.pointer (some ⟨h,0,none⟩),.pointer (some ⟨gf,0,none⟩)] W fun e w'=>e=.returned (.bool (JR F out r))/\Below W.heap.size W w':=by
 have hh:=hv.h;have hff:=hv.f;have HO:=Q2 hv.o;have HL:=Q2 hl;have HR:=Q2 hr;have hp12:=hr.p12;clear hv hl hr;go_enter Tryz.func153,Tryz.ntmps153;refine Qv (M:=[]) (W:=W) (N:=48) (E:=QcG) (O:=[]) ?_ Zo QT;repeat(first|refine Q4 zA ?_|refine Q4 zF ?_|refine Q4 (zB 0) ?_|refine Q4 zC ?_|refine yB fun br=>?_|refine Qd ?_|refine Qa ?_|refine Q6 ?_|refine Qt ?_|refine Q7 rfl ?_|refine QB ?_|refine Qh ?_|refine Q4 zef ?_)
 exact Q8 mc4 rfl (.tmp rfl) (fun w hw=>⟨by rw[JR,if_neg Q3,if_neg Q3,if_neg Q3,if_neg Q3],hw.k.below⟩)
theorem Qi8(hv:Qbm W h g bs n out gf A c)(hf:QW W W.heap.size A n F)(hl:RuL W r Ab cb An cn Ap cp)(hr:ROk n r):
  Calls Tryz.prog 153 #[.agg (ruC r (.slice Ab r.bs.length cb) (.slice An r.names.length cn) (.slice Ap r.parts.length cp)).toArray,.pointer (some ⟨h,0,none⟩),.pointer (some ⟨gf,0,none⟩)] W fun e w'=>e=.returned (.bool (JR F out r))/\Below W.heap.size W w':=by
 by_cases h10:r.kind=10
 ·exact QuC hv hf hl hr h10
 by_cases h6:r.kind=6
 ·exact QvT hv hf hl hr h6
 by_cases h7:r.kind=7
 ·exact Qvz hv hf hl hr h7
 by_cases h8:r.kind=8
 ·exact Qw1 hv hf hl hr h8
 exact Qwf hv hf hl hr ⟨h10,h6,h7,h8⟩
end
section
variable {A:Option Addr}{F:List Rl}{M:List Nat}{O:List Qb}{W:World}{bs c g gf h n:Nat}{out:List Bool}
theorem QA.rfl_:QA M W O O:=fun _ h=>h
theorem Jz{P:Program}{Q:Exit->Act->World->Prop}{N:Nat}{E:Env}(T:List Nat){id:Nat}{l:List Oper}(hm:P.follows .mixedOrders=true)(h:dE P l.toArray Q N M W O T l.length (Array.replicate l.length false) E O):sE P Q N M W E O (.region id l.toArray true):=ZR O T hm h
theorem Qd7(F:List Rl)(out:List Bool)(k:Nat):(Z5 F out k).length=out.length:=by unfold Z5;rw[List.length_set]
theorem Q0o(F:List Rl):∀(l:List Nat) (out:List Bool),(l.foldl (Z5 F) out).length=out.length
 |[],_=>rfl
 |k::l,out=>by rw[List.foldl_cons,Q0o F l,Qd7]
theorem QfL(F:List Rl)(out:List Bool)(k:Nat):(List.range (k+1)).foldl (Z5 F) out=Z5 F ((List.range k).foldl (Z5 F) out) k:=by
 rw[List.range_succ,List.foldl_append];rfl
def Qwp(W:World)(l:List Bool)(e:Ending)(w':World):Prop:=∃b,e=.returned (.slice (some ⟨b,0,none⟩) l.length l.length)/\W.heap.size<=b/\Rd w' w'.heap.size 1 (some ⟨b,0,none⟩) l.length (XC l)/\Below W.heap.size W w'
theorem Qqi{w:World}(i1 i2 i3 i4:Nat)(hl:out.length=n)
  (h1:O[i1]? =some (.blk h (.cells [.func (.func 152) #[] #[.pointer (some ⟨g,0,none⟩)]].toArray 104 (0,0))))
  (h2:O[i2]? =some (.blk g (.cells [.slice (some ⟨bs,0,none⟩) n n].toArray 66 (0,0))))
  (h3:O[i3]? =some (.row (some ⟨bs,0,none⟩) n n 4 1 (XC out)))
  (h4:O[i4]? =some (.blk gf (.cells [.slice A n c].toArray 24 (0,0)))) (hw:Wd M W O w):Qbm w h g bs n out gf A c:=
 ⟨⟨hw.cell_blkL i2 h2 rfl,fun j hj=>by rw[Nat.zero_add];exact hw.cell_row i3 h3 (Ve Q3)⟩,hw.cell_blkL i1 h1 rfl,hw.cell_blkL i4 h4 rfl⟩
theorem Qpz{r:Rl}{Ab An Ap:Option Addr}{cb cn cp:Nat}(hv:Qbm W h g bs n out gf A c)(hf:QW W W.heap.size A n F)(hl:RuL W r Ab cb An cn Ap cp)(hr:ROk n r):
  Calls Tryz.prog 153 ([Value.agg (ruC r (.slice Ab r.bs.length cb) (.slice An r.names.length cn) (.slice Ap r.parts.length cp)).toArray].toArray++#[.pointer (some ⟨h,0,none⟩),.pointer (some ⟨gf,0,none⟩)]) W fun e w'=>e=.returned (.bool (JR F out r))/\Below W.heap.size W w':=by
 rw[show ([Value.agg (ruC r (.slice Ab r.bs.length cb) (.slice An r.names.length cn) (.slice Ap r.parts.length cp)).toArray].toArray++#[.pointer (some ⟨h,0,none⟩),.pointer (some ⟨gf,0,none⟩)]:Array Value)=_ from Qvq _ _ _];exact Qi8 hv hf hl hr
abbrev fnE(bf g h n c:Nat)(A:Option Addr)(t:Nat):Env:=[(1,.pointer (some ⟨bf,0,none⟩)),(3,.pointer (some ⟨g,0,none⟩)),(5,.func (.func 153) #[] #[.pointer (some ⟨h,0,none⟩),.pointer (some ⟨bf,0,none⟩)]),(16,.int .i64 (n:Int)),(17,.int .i64 (t:Int))]
abbrev fnO(bf g h bs n c:Nat)(A:Option Addr)(out:List Bool):List Qb:=[.blk h (.cells [.func (.func 152) #[] #[.pointer (some ⟨g,0,none⟩)]].toArray 104 (0,0)),.blk g (.cells [.slice (some ⟨bs,0,none⟩) n n].toArray 66 (0,0)),.row (some ⟨bs,0,none⟩) n n 4 1 (XC out),.blk bf (.cells [.slice A n c].toArray 24 (0,0))]
theorem Q9v(hf:QW W W.heap.size A n F)(hF:FOk F)(hn:n<=40)(hn0:0<n):
  Calls Tryz.prog 119 #[.agg #[.slice A n c]] W (Qwp W (Zg F)):=by
 have hlen:F.length=n:=hf.1;obtain⟨b,o,rfl⟩:=hf.addr hn0;have HFM:=Q2 hf;have HF:=Q2 hF;have HLEN:=Q2 hlen;clear hf hF hlen;go_enter Tryz.func119,Tryz.ntmps119;refine Qv (M:=[]) (W:=W) (N:=42) (E:=[(0,.agg #[.slice (some ⟨b,o,none⟩) n c])]) (O:=[]) ?_ Z6 (Wd.start [] W);repeat(first|refine Q4 YE ?_|refine Q4 Q0n ?_|refine Q4 Q4l ?_|refine Q4 (XJ rfl rfl Q1 rfl rfl (by first|exact fun w hw=>hw.cell_blkL 0 rfl rfl|exact fun w hw=>hw.cell_blkL 3 rfl rfl)) ?_|refine Qc YR rfl Q1 (fun bf _=>?_)|refine Qc QoY rfl Q1 (fun bs _=>?_)|refine Qc (Kx (t:=66) rfl rfl) rfl Q1 (fun g0 _=>?_)|refine Qc (Kx (t:=104) rfl rfl) rfl Q1 (fun g1 _=>?_)|refine QD Qp3 rfl (fun _ _=>?_)|refine Qd ?_|refine Qa ?_|refine Q6 ?_|refine Qh ?_|refine Q4 QoO ?_|refine Q4 Qtb ?_)
 refine QH (ι:=Nat) (fun t=>t<=n) (fun t=>n - t) (fun t=>fnE bf g0 g1 n c (some ⟨b,o,none⟩) t) (fun t=>fnO bf g0 g1 bs n c (some ⟨b,o,none⟩) (iter (Zs F) t (List.replicate n false))) 0 [0,1,2,3] Q1 XY Yj (by show [_,_,Qb.row _ _ _ _ _ _,_]=_;rw[QgC];rfl) ?_;rintro t ht;have hL0:(iter (Zs F) t (List.replicate n false)).length=n:=by
  have:∀t,(iter (Zs F) t (List.replicate n false)).length=n:=by
   intro t;induction t with
   |zero=>exact List.length_replicate
   |succ t ih=>exact(Q0o F _ _).trans ih
  exact this t
 have HL0:=Q2 hL0;clear hL0;by_cases hlt:t<n
 ·skip
  repeat(first|refine Q4 YE ?_|refine Q4 Q4l ?_|refine Q4 (XJ rfl rfl Q1 rfl rfl (by exact fun w hw=>hw.cell_blkL 3 rfl rfl)) ?_|refine Qd ?_|refine Qa ?_|refine Q6 ?_|refine Qt ?_|refine Q9 rfl ?_|refine Qh ?_|refine Q4 QoO ?_|refine Q4 QgX ?_)
  refine QH (ι:=Nat) (fun k=>k<=n) (fun k=>n - k) (fun k=>(20,.slice (some ⟨b,o,none⟩) n c)::(21,.int .i64 (n:Int))::(22,.int .i64 (k:Int))::fnE bf g0 g1 n c (some ⟨b,o,none⟩) t) (fun k=>fnO bf g0 g1 bs n c (some ⟨b,o,none⟩) ((List.range k).foldl (Z5 F) (iter (Zs F) t (List.replicate n false)))) 0 [0,1,2,3] Q1 XY (.cons rfl rfl Q0I) rfl ?_;rintro k hk;by_cases hkn:k<n
  ·obtain⟨rk,Ab,cb,An,cn,Ap,cp,hrk,hrg,hlk⟩:=HFM.out.rl hkn
   have HRK:=Q2 hrk;have HLK:=Q2 hlk;have HOK:=Q2 (show ROk n rk by have:=HF.out k rk hrk;rwa [HLEN.out] at this);obtain⟨out,hout⟩:∃out,(List.range k).foldl (Z5 F) (iter (Zs F) t (List.replicate n false))=out:=⟨_,rfl⟩;have hol:out.length=n:=by rw[<- hout,Q0o,HL0.out]
   have HOUT:=Q2 hout;show sE _ _ _ _ _ _ (fnO bf g0 g1 bs n c (some ⟨b,o,none⟩) ((List.range k).foldl (Z5 F) (iter (Zs F) t (List.replicate n false)))) _;rw[hout];clear hout hrk hlk;obtain⟨ok,hok⟩:∃x,out.getD k false=x:=⟨_,rfl⟩;have hcell:(XC out)[0+k]? =some (.bool ok):=by rw[Nat.zero_add,Ve Q3,hok]
   have HK:=Q2 hok;clear hok;cases ok with
   |true=>
    repeat(first|refine Q4 YE ?_|refine Q4 Q0n ?_|refine Q4 Qm1 ?_|refine Q4 Qlq ?_|refine Qc Qov rfl Q1 (fun b7 _=>?_)|(refine QD Yp rfl (fun _ _=>?_);rw[QE (by rfl)])|refine Qd ?_|refine Qa ?_|refine Q6 ?_|refine Qt ?_|refine Q9 rfl ?_|refine Qh ?_|refine Q4 QgX ?_)
    refine Qsp ?_;refine Qn 7 rfl Q5 Xi Q6a ?_;refine Qn 8 rfl Q5 Xi Q6a ?_;refine Qn 9 rfl Q5 Xi Q6a ?_;refine Qn 10 rfl Q5 Xi QbK ?_;refine Qn 11 rfl Q5 Xi (Xz rfl rfl Q1 rfl rfl rfl hkn) ?_;refine QK 12 Q5 rfl rfl (Jp 3 rfl rfl rfl rfl rfl rfl Q3) (fun _=>.inl Q1) rfl (fun _ _=>?_);refine Xn ?_ Q5;refine Ql4 ?_
    refine Qlg ?_;show [_,_,Qb.row _ _ _ _ _ ((XC out).set (0+k) (.bool true)),_]=fnO bf g0 g1 bs n c (some ⟨b,o,none⟩) _;exact Qmm
   |false=>
    repeat(first|refine Q4 YE ?_|refine Q4 Q0n ?_|refine Q4 Qm1 ?_|refine Q4 Qlq ?_|refine Qc Qov rfl Q1 (fun b7 _=>?_)|(refine QD Yp rfl (fun _ _=>?_);rw[QE (by rfl)])|refine Qd ?_|refine Qa ?_|refine Q6 ?_|refine Qt ?_|refine Q9 rfl ?_|refine Qh ?_|refine Q4 QgX ?_)
    refine Qsp ?_;refine Qn 7 rfl Q5 Xi YE ?_;refine Qn 8 rfl Q5 Xi Qou ?_;refine Qn 9 rfl Q5 Xi (Kg (f:=153) rfl rfl Q1 rfl rfl rfl (fun w hw=>Qpz (Qqi 1 2 3 4 hol rfl rfl rfl rfl hw) KG Q9y HOK.out)) ?_;refine Qn 10 rfl Q5 Xi QdT ?_;refine Qn 11 rfl Q5 Xi (Xz rfl rfl Q1 rfl rfl rfl hkn) ?_;refine QK 12 Q5 rfl rfl (Jp 3 rfl rfl rfl rfl rfl rfl Q3) (fun _=>.inl Q1) rfl (fun _ _=>?_);refine Xn ?_ Q5;refine Ql4 ?_
    refine Qlg ?_;show [_,_,Qb.row _ _ _ _ _ ((XC out).set (0+k) (.bool (JR F out rk))),_]=fnO bf g0 g1 bs n c (some ⟨b,o,none⟩) _;exact Qmm
  ·skip
   repeat(first|refine Q4 YE ?_|refine Qd ?_|refine Qa ?_|refine Q6 ?_|refine Q7 rfl ?_|refine XK ?_|refine Q4 Qdp ?_|refine Q4 Qh4 ?_)
   refine Qr (t+1) [0,1,2,3] Q1 hlt Q3 J9 ?_;have hkk:k=F.length:=by rw[HLEN.out];omega
   subst hkk;rfl
 ·skip
  repeat(first|refine Q4 Q0n ?_|refine Q4 (XJ rfl rfl Q1 rfl rfl (by exact fun w hw=>hw.cell_blkL 1 rfl rfl)) ?_|refine Qd ?_|refine Qa ?_|refine Q6 ?_|refine Q7 rfl ?_|refine XK ?_|refine QB ?_|refine Q4 Qs0 ?_)
  have htn:t=F.length:=by rw[HLEN.out];omega
  refine Q8 mc4 rfl (.tmp rfl) (fun w hw=>?_);have hfl:iter (Zs F) t (List.replicate n false)=Zg F:=by unfold Zg;rw[htn,HLEN.out]
  have hln:(Zg F).length=n:=by rw[<- hfl];exact HL0.out
  refine⟨bs,by rw[hln],?_,⟨by rw[hln];simp [XC,hln],fun _=>⟨bs,0,rfl,?_,fun j u hu=>?_⟩⟩,hw.k.below⟩
  ·rcases Nat.lt_or_ge bs W.heap.size with h|h
   ·have:=hw.new 2 _ bs rfl rfl h
    exact Q2f
   ·exact h
  ·exact(hw.own 2 _ rfl).lt rfl
  ·rw[Nat.zero_add]
   refine hw.cell_row 2 rfl ?_;rw[hfl];exact hu
end
def QJ(st:Nat->Bool):List Value:=(List.range 256).map fun j=>.bool (st j)
theorem X3(st:Nat->Bool):(QJ st).length=256:=by simp [QJ]
theorem ZF(st:Nat->Bool){j:Nat}(h:j<256):(QJ st)[j]? =some (.bool (st j)):=by
 simp [QJ,List.getElem?_map,List.getElem?_range h]
theorem Q06(st:Nat->Bool)(j:Nat)(v:Bool):(QJ st).set j (.bool v)=QJ (fun i=>if i=j then v else st i):=by
 refine List.ext_getElem? fun i=>?_;rw[List.getElem?_set];by_cases hi:i<256
 ·rw[ZF _ hi,X3]
  by_cases hj:j=i
  ·subst hj;rw[if_pos rfl,if_pos hi,ZF _ hi,if_pos rfl]
  ·rw[if_neg hj,ZF _ hi]
   have:¬i=j:=fun e=>hj e.symm;simp [this]
 ·have h1:(QJ st)[i]? =none:=List.getElem?_eq_none (by rw[X3];omega);have h2:(QJ (fun i=>if i=j then v else st i))[i]? =none:=List.getElem?_eq_none (by rw[X3];omega);rw[h1,h2,X3]
  split
  ·rw[if_neg Q3]
  ·rfl
def Ze(st:Nat->Bool)(lo hi:Int):Nat->Bool:=fun j=>st j||decide (lo+((j:Int) - lo) % 256<=hi)
theorem ZL{s t:Nat->Bool}(h:∀j,j<256->s j=t j):QJ s=QJ t:=by
 unfold QJ;exact List.map_congr_left fun j hj=>by rw[h j (List.mem_range.1 hj)]
theorem Qjf(st:Nat->Bool)(lo c:Int)(h:lo<=c)(h0:0<=lo):(QJ (Ze st lo (c - 1))).set (c % 256).toNat (.bool true)=QJ (Ze st lo c):=by
 rw[Q06];refine ZL fun j hj=>?_;unfold Ze;by_cases he:j=(c % 256).toNat
 ·rw[if_pos he,decide_eq_true Q3,Bool.or_true]
 ·rw[if_neg he]
  congr 1;rw[decide_eq_decide];omega
theorem Qid(st:Nat->Bool)(lo:Int):QJ (Ze st lo (lo - 1))=QJ st:=
 ZL fun j hj=>by
  unfold Ze;rw[decide_eq_false Q3,Bool.or_false]
theorem QjI(st:Nat->Bool)(lo hi:Int)(h:hi<lo):QJ (Ze st lo (lo - 1))=QJ (Ze st lo hi):=
 ZL fun j hj=>by
  unfold Ze;rw[decide_eq_false Q3,decide_eq_false Q3]
theorem QuP(c:Int)(h:0<=c)(w:World):(Op.intDiv .rem .i64 c 256).run Tryz.prog w=.ok (.int .i64 (((c % 256).toNat:Nat):Int)) w:=by
 have e:(((c % 256).toNat:Nat):Int)=c % 256:=by omega
 rw[e];simp [Op.intDiv,go_sem];exact IntWalk.rem_in c 256 h
theorem QfH{st:Nat->Bool}{b:Nat}{lo hi:Int}{W:World}(hb:W.heap[b]? =some (.cells (QJ st).toArray 92 (0,0)))(h0:0<=lo)(h1:hi<=1099511627776)(h2:lo<=1099511627776):
  Calls Tryz.prog 141 #[.int .i64 lo,.int .i64 hi,.pointer (some ⟨b,0,none⟩)] W fun e w'=>e=.returned (.tuple #[])/\w'.heap[b]? =some (.cells (QJ (Ze st lo hi)).toArray 92 (0,0))/\Xx [b] W w':=by
 go_enter Tryz.func141,Tryz.ntmps141;refine Qv (M:=[b]) (W:=W) (N:=15) (E:=[(0,.int .i64 lo),(1,.int .i64 hi),(2,.pointer Q0H)]) (O:=[.blk b (.cells (QJ st).toArray 92 (0,0))]) ?_ Zo ((Wd.start [b] W).add hb (fun b' h _=>by cases h;exact List.mem_singleton.2 rfl) (fun i x b' h=>by cases h));repeat(first|refine Qd ?_|refine Qa ?_|refine Q6 ?_|refine Qh ?_|refine Q4 zM ?_|refine Q4 zA ?_)
 refine QH (ι:=Int) (fun c=>lo<=c/\(c<=hi+1\/c=lo)) (fun c=>(hi+1 - c).toNat) (fun c=>[(5,.int .i64 c),(1,.int .i64 hi),(2,.pointer Q0H)]) (fun c=>[.blk b (.cells (QJ (Ze st lo (c - 1))).toArray 92 (0,0))]) lo [0] Q1 ⟨by omega,by omega⟩ J0 (by rw[Qid];rfl) ?_;rintro c ⟨h3,h4⟩;by_cases hc:c<=hi
 ·skip
  repeat(first|(refine Q4 (Q0y (v:=.int .i64 (((c % 256).toNat:Nat):Int)) rfl rfl Q1 rfl rfl rfl (fun w=>by rw[binOp_rem];exact QuP c Q3 w)) ?_)|refine Q4 (Jd (j:=(c % 256).toNat) rfl rfl Q1 rfl rfl rfl Q3) ?_|refine QD (JB 0 rfl rfl rfl rfl rfl rfl (ZF _ (show 0+(c % 256).toNat*1<256 by omega))) rfl (fun _ _=>?_)|refine Qd ?_|refine Qa ?_|refine Q6 ?_|refine Qt ?_|refine Q9 rfl ?_|refine Qh ?_|refine Q4 zM ?_|refine Q4 zA ?_|refine Q4 (Q6s (b:=true) rfl rfl Q1 rfl rfl rfl (decide_eq_true Q3)) ?_|refine Q4 zP ?_)
  refine Qr (c+1) [0] Q1 ⟨by omega,by omega⟩ Q3 J0 ?_;show [Qb.blk b (.cells ((QJ (Ze st lo (c - 1))).set (0+(c % 256).toNat*1) (.bool true)).toArray 92 (0,0))]=_;rw[Nat.zero_add,Nat.mul_one,Qjf st lo c h3 h0,Int.add_sub_cancel]
 ·skip
  repeat(first|refine Qd ?_|refine Qa ?_|refine Q6 ?_|refine Q7 rfl ?_|refine XK ?_|refine Q53 ?_|refine Q4u ?_|refine Q4 zM ?_|refine Q4 (Q6s (b:=false) rfl rfl Q1 rfl rfl rfl (decide_eq_false Q3)) ?_)
  refine Y8 (.inl rfl) rfl (fun w hw=>⟨rfl,?_,hw.k⟩);have h:w.heap[b]? =some (.cells (QJ (Ze st lo (c - 1))).toArray 92 (0,0)):=hw.own 0 _ rfl;rw[h];congr 3;by_cases hcl:c=hi+1
  ·rw[hcl,Int.add_sub_cancel]
  ·obtain rfl:c=lo:=by omega
   rw[QjI st c hi Q3]
section
variable {Ab:Option Addr}{O:List Qb}{W w:World}{a0 a10 a11 a8 a9:Value}{big:Bool}{bs:List UInt8}{cb n nb:Nat}{cs:List Value}{m mn mx size stop:Int}{st:Nat->Bool}
instance iXFsB_1:VC Tryz.prog 92 (QJ (fun _=>false)):=⟨.agg (QJ (fun _=>false)).toArray,by kernel_rfl,rfl⟩
theorem Qob{us:List Value}(h:us.length=cs.length):J3 cs 0 us=us:=by
 refine List.ext_getElem? fun i=>?_;rw[K1];split
 ·rw[Nat.sub_zero]
 ·next hn=>
  rw[List.getElem?_eq_none Q3,List.getElem?_eq_none Q3]
theorem Qln(st:Nat->Bool):(QJ st).all (·.oneCell')=true:=by
 rw[List.all_eq_true];intro v hv;simp only[QJ,List.mem_map] at hv;obtain⟨j,_,rfl⟩:=hv;rfl
def noS:Nat->Bool:=fun _=>false
def Q2m(k:Int)(bs:List UInt8)(size:Int)(big:Bool)(mn mx stop:Int):Nat->Bool:=
 if k=1 then fun j=>j==(bs.headD 0).toNat
 else if k=2 then (if big then Ze noS (mn / 2 ^ (8*(size - 1)).toNat) (mx / 2 ^ (8*(size - 1)).toNat) else Ze noS mn (min mx (mn+256 - 1)))
 else if k=3 then Ze noS 48 (48+min mx 9)
 else if k=4 then Ze noS 0 255
 else if k=5 then (if 0<size then Ze noS 0 255 else fun j=>decide ((j:Int)=stop))
 else if k=9 then fun j=>decide ((j:Int)=stop)
 else noS
theorem QpB(h:0<=m):0<=m / 2 ^ n:=Int.ediv_nonneg h (Int.pow_nonneg Q1)
theorem QlP(h:0<=m/\m<=4294967295):m / 2 ^ n<=1099511627776:=by
 have h1:m / 2 ^ n<=m:=Int.ediv_le_self _ h.1;omega
def JH(W:World)(st:Nat->Bool)(e:Ending)(w':World):Prop:=e=.returned (.agg (QJ st).toArray)/\Below W.heap.size W w'
theorem Ja{st':Nat->Bool}(hc:cs.length=256)(hs:QJ st'=QJ st)(hw:Wd [] W O w):JH W st (.returned (.agg (J3 cs 0 (QJ st')).toArray)) w:=
 ⟨by rw[Qob (by rw[X3,hc]),hs],hw.k.below⟩
theorem Qgl{M:List Nat}{i b:Nat}{lo hi:Int}(hO:O[i]? =some (.blk b (.cells (QJ st).toArray 92 (0,0))))(h0:0<=lo)(h1:hi<=1099511627776)(h2:lo<=1099511627776)(hw:Wd M W O w):
  Calls Tryz.prog 141 (#[.int .i64 lo,.int .i64 hi]++#[.pointer (some ⟨b,0,none⟩)]) w (Xf (fun _:Unit=>.tuple #[]) (fun _=>True) M W (fun _=>O.set i (.blk b (.cells (QJ (Ze st lo hi)).toArray 92 (0,0))))):=
 (QfH (hw.blk0 hO) h0 h1 h2).mono fun e w' ⟨he,hb,hk⟩=>⟨(),he,trivial,hw.keep1 hO hk hb⟩
theorem Qwj(W:World)(hb:Rd W W.heap.size 1 Ab nb (bv bs))(hn:0<nb):
  Calls Tryz.prog 96 #[.agg #[a0,.int .i64 1,.slice Ab nb cb,.int .i64 size,.bool big,.int .i64 mn,.int .i64 mx,.int .i64 stop,a8,a9,a10,a11]] W (JH W (Q2m 1 bs size big mn mx stop)):=by
 go_enter Tryz.func96,Tryz.ntmps96;refine Qv (M:=[]) (W:=W) (N:=84) (E:=[(0,.agg #[a0,.int .i64 1,.slice Ab nb cb,.int .i64 size,.bool big,.int .i64 mn,.int .i64 mx,.int .i64 stop,a8,a9,a10,a11])]) (O:=[]) ?_ Z6 QT;repeat(first|refine Q4 zA ?_|refine Q4 zF ?_|refine Q4 (zB 2) ?_|refine yB fun br=>?_|refine yA fun b2=>?_|refine Qd ?_|refine Qa ?_|refine Q6 ?_|refine Q9 rfl ?_|refine Qh ?_|refine Q4 QgA ?_|refine Q4 zu ?_)
 obtain⟨bb,ob,u,rfl,hlt,hu,hcell⟩:=hb.at_ hn;obtain⟨c,hc⟩:∃c,bs[0]? =some c:=by
  unfold bv at hu;rw[List.getElem?_map] at hu;cases e:bs[0]? with
  |none=>rw[e] at hu;cases hu
  |some c=>exact⟨c,rfl⟩
 have hu':u=.int .u8 (c.toNat:Int):=by
  unfold bv at hu;rw[List.getElem?_map,hc] at hu;exact(Option.some.inj hu).symm
 subst hu';have hhd:bs.headD 0=c:=by cases bs with|nil=>cases hc|cons x l=>simp at hc;simpa using hc
 have hlt256:c.toNat<256:=c.toNat_lt;repeat(first|refine Q4 zC ?_|refine Q4 (zi1 (j:=0) (hj:=hn)) ?_|refine Q4 (Jd (j:=c.toNat) rfl rfl Q1 rfl rfl rfl hlt256) ?_|refine QD (JB 0 rfl rfl rfl rfl rfl rfl (ZF _ (show 0+c.toNat*1<256 by omega))) rfl (fun _ _=>?_)|refine Qd ?_|refine Qa ?_|refine Q6 ?_)
 show lE _ _ _ _ _ _ _ [Qb.blk b2 (.cells ((QJ (fun _=>false)).set (0+c.toNat*1) (.bool true)).toArray 92 (0,0)),_,_] _;refine QlX ?_;refine QD Q5n rfl (fun _ _=>?_);refine KA ?_
 refine Q8 (.inr rfl) rfl KM (fun w hw=>Ja Q03 ?_ hw);refine ZL fun j hj=>?_;show (if j=c.toNat then true else false)=(j==(bs.headD 0).toNat);rw[hhd];by_cases h:j=c.toNat<;>simp [h]
theorem Quc{big:Bool}(W:World)(hs:1<=size/\size<=4)(hm:0<=mn/\mn<=mx/\mx<=4294967295):
  Calls Tryz.prog 96 #[.agg #[a0,.int .i64 2,.slice Ab nb cb,.int .i64 size,.bool true,.int .i64 mn,.int .i64 mx,.int .i64 stop,a8,a9,a10,a11]] W (JH W (Q2m 2 bs size true mn mx stop)):=by
 go_enter Tryz.func96,Tryz.ntmps96;refine Qv (M:=[]) (W:=W) (N:=84) (E:=[(0,.agg #[a0,.int .i64 2,.slice Ab nb cb,.int .i64 size,.bool true,.int .i64 mn,.int .i64 mx,.int .i64 stop,a8,a9,a10,a11])]) (O:=[]) ?_ Z6 (Wd.start [] W);repeat(first|refine Q4 zM ?_|refine Q4 zA ?_|refine Q4 zF ?_|refine Q4 (zB 2) ?_|refine yB fun br=>?_|refine yA fun b2=>?_|refine Qd ?_|refine Qa ?_|refine Q6 ?_|refine Q9 rfl ?_|refine Q7 rfl ?_|refine Qh ?_|refine Q4 QbH ?_|refine Q4 zY ?_|refine Q4 zQ ?_|refine Q4 zu ?_)
 repeat(first|refine Q4 zA ?_|refine Q4 Q3q ?_|refine Qd ?_)
 refine ZR [.blk br (.cells [a0,.int .i64 2,.slice Ab nb cb,.int .i64 size,.bool true,.int .i64 mn,.int .i64 mx,.int .i64 stop,a8,a9,a10,a11].toArray 65 (0,0))] [] Q5 ?_;refine Qn 0 rfl Q5 YY zM ?_;refine Qn 1 rfl Q5 YY zF ?_;refine Qn 2 rfl Q5 YY (zB 0) ?_;refine Qn 3 rfl Q5 YY zM ?_;refine Qn 4 rfl Q5 YY (Qk8 rfl rfl Q1 rfl rfl rfl Q3 Q3) ?_;refine Qn 5 rfl Q5 YY zF ?_;refine Qn 6 rfl Q5 YY (zB 0) ?_;refine Qn 7 rfl Q5 YY zM ?_;refine Qn 8 rfl Q5 YY (Qk8 rfl rfl Q1 rfl rfl rfl Q3 Q3) ?_;refine QX 9 Q5 rfl rfl (QaG (fun _:Unit=>.tuple #[]) (fun _=>True) (fun _=>_) rfl rfl rfl rfl (fun w hw=>Qgl (i:=0) rfl (QpB hm.1) (QlP Q3) (QlP Q3) hw)) (fun _=>.inr YY) rfl Q1 (fun _ _=>?_);refine Xn ?_ Q5;repeat(first|refine Q4 (zD 0) ?_|refine Qa ?_|refine Q6 ?_)
 refine QD Q5n rfl (fun _ _=>?_);refine KA ?_
 refine Q8 (.inr rfl) rfl KM (fun w hw=>Ja (X3 _) ?_ hw);rfl
theorem Qv2{big:Bool}(W:World)(hm:0<=mn/\mn<=mx/\mx<=4294967295):
  Calls Tryz.prog 96 #[.agg #[a0,.int .i64 2,.slice Ab nb cb,.int .i64 size,.bool false,.int .i64 mn,.int .i64 mx,.int .i64 stop,a8,a9,a10,a11]] W (JH W (Q2m 2 bs size false mn mx stop)):=by
 go_enter Tryz.func96,Tryz.ntmps96;refine Qv (M:=[]) (W:=W) (N:=84) (E:=[(0,.agg #[a0,.int .i64 2,.slice Ab nb cb,.int .i64 size,.bool false,.int .i64 mn,.int .i64 mx,.int .i64 stop,a8,a9,a10,a11])]) (O:=[]) ?_ Z6 QT;repeat(first|refine Q4 zM ?_|refine Q4 zA ?_|refine Q4 zF ?_|refine Q4 (zB 2) ?_|refine yB fun br=>?_|refine yA fun b2=>?_|refine Qd ?_|refine Qa ?_|refine Q6 ?_|refine Q9 rfl ?_|refine Q7 rfl ?_|refine Qh ?_|refine Q4 QbH ?_|refine Q4 zY ?_|refine Q4 zP ?_|refine Q4 zQ ?_|refine Q4 zu ?_)
 repeat(first|refine Q4 (zD 0) ?_|refine Q4 QrK ?_|refine Qc Qhm rfl Q1 (fun _ _=>?_)|refine Qd ?_|refine Qa ?_|refine Q6 ?_)
 refine QD Q5n rfl (fun _ _=>?_);refine KA ?_
 refine Q8 (.inr rfl) rfl KM (fun w hw=>Ja Q03 ?_ hw);rfl
theorem QvA(W:World)(hm:0<=mx/\mx<=999999999):
  Calls Tryz.prog 96 #[.agg #[a0,.int .i64 3,.slice Ab nb cb,.int .i64 size,.bool big,.int .i64 mn,.int .i64 mx,.int .i64 stop,a8,a9,a10,a11]] W (JH W (Q2m 3 bs size big mn mx stop)):=by
 go_enter Tryz.func96,Tryz.ntmps96;refine Qv (M:=[]) (W:=W) (N:=84) (E:=[(0,.agg #[a0,.int .i64 3,.slice Ab nb cb,.int .i64 size,.bool big,.int .i64 mn,.int .i64 mx,.int .i64 stop,a8,a9,a10,a11])]) (O:=[]) ?_ Z6 QT;repeat(first|refine Q4 zM ?_|refine Q4 zA ?_|refine Q4 zF ?_|refine Q4 (zB 2) ?_|refine yB fun br=>?_|refine yA fun b2=>?_|refine Qd ?_|refine Qa ?_|refine Q6 ?_|refine Q9 rfl ?_|refine Q7 rfl ?_|refine Qh ?_|refine Q4 QbH ?_|refine Q4 zN ?_|refine Q4 zu ?_|refine Q4 zS ?_)
 repeat(first|refine Q4 (zD 0) ?_|refine Q4 QrK ?_|refine Qc Qhm rfl Q1 (fun _ _=>?_)|refine Qd ?_|refine Qa ?_|refine Q6 ?_|refine Q4 zP ?_)
 refine QD Q5n rfl (fun _ _=>?_);refine KA ?_
 refine Q8 (.inr rfl) rfl KM (fun w hw=>Ja Q03 ?_ hw);rfl
theorem QvL(W:World):
  Calls Tryz.prog 96 #[.agg #[a0,.int .i64 4,.slice Ab nb cb,.int .i64 size,.bool big,.int .i64 mn,.int .i64 mx,.int .i64 stop,a8,a9,a10,a11]] W (JH W (Q2m 4 bs size big mn mx stop)):=by
 go_enter Tryz.func96,Tryz.ntmps96;refine Qv (M:=[]) (W:=W) (N:=84) (E:=[(0,.agg #[a0,.int .i64 4,.slice Ab nb cb,.int .i64 size,.bool big,.int .i64 mn,.int .i64 mx,.int .i64 stop,a8,a9,a10,a11])]) (O:=[]) ?_ Z6 QT;repeat(first|refine Q4 zM ?_|refine Q4 zA ?_|refine Q4 zF ?_|refine Q4 (zB 2) ?_|refine yB fun br=>?_|refine yA fun b2=>?_|refine Qd ?_|refine Qa ?_|refine Q6 ?_|refine Qt ?_|refine Q9 rfl ?_|refine Q7 rfl ?_|refine Qh ?_|refine Q4 QbH ?_|refine Q4 zN ?_|refine Q4 zu ?_|refine Q4 zS ?_)
 repeat(first|refine Q4 (zD 0) ?_|refine Qc Qhm rfl Q1 (fun _ _=>?_)|refine Qd ?_|refine Qa ?_|refine Q6 ?_)
 refine QD Q5n rfl (fun _ _=>?_);refine KA ?_
 refine Q8 (.inr rfl) rfl KM (fun w hw=>Ja Q03 ?_ hw);rfl
theorem Qus(W:World)(hs:0<size):
  Calls Tryz.prog 96 #[.agg #[a0,.int .i64 5,.slice Ab nb cb,.int .i64 size,.bool big,.int .i64 mn,.int .i64 mx,.int .i64 stop,a8,a9,a10,a11]] W (JH W (Q2m 5 bs size big mn mx stop)):=by
 go_enter Tryz.func96,Tryz.ntmps96;refine Qv (M:=[]) (W:=W) (N:=84) (E:=Qru) (O:=[]) ?_ Z6 QT;repeat(first|refine Q4 zM ?_|refine Q4 zA ?_|refine Q4 zF ?_|refine Q4 (zB 2) ?_|refine yB fun br=>?_|refine yA fun b2=>?_|refine Qd ?_|refine Qa ?_|refine Q6 ?_|refine Q9 rfl ?_|refine Q7 rfl ?_|refine Qh ?_|refine Q4 QbH ?_|refine Q4 zgt ?_|refine Q4 zY ?_|refine Q4 zN ?_|refine Q4 zu ?_|refine Q4 zS ?_)
 repeat(first|refine Q4 (zD 0) ?_|refine Qc Qhm rfl Q1 (fun _ _=>?_)|refine Qd ?_|refine Qa ?_|refine Q6 ?_)
 refine QD Q5n rfl (fun _ _=>?_);refine KA ?_
 refine Q8 (.inr rfl) rfl KM (fun w hw=>Ja Q03 ?_ hw);exact congrArg QJ (by rw[Q2m,if_neg Q1,if_neg Q1,if_neg Q1,if_neg Q1,if_pos rfl,if_pos hs];rfl)
theorem QuL(W:World)(hs:size=0)(ht:0<=stop/\stop<=255):
  Calls Tryz.prog 96 #[.agg #[a0,.int .i64 5,.slice Ab nb cb,.int .i64 size,.bool big,.int .i64 mn,.int .i64 mx,.int .i64 stop,a8,a9,a10,a11]] W (JH W (Q2m 5 bs size big mn mx stop)):=by
 go_enter Tryz.func96,Tryz.ntmps96;refine Qv (M:=[]) (W:=W) (N:=84) (E:=Qru) (O:=[]) ?_ Z6 QT;repeat(first|refine Q4 zM ?_|refine Q4 zA ?_|refine Q4 zF ?_|refine Q4 (zB 2) ?_|refine Q4 (zD 0) ?_|refine Q4 (zD 2) ?_|refine yB fun br=>?_|refine yA fun b2=>?_|refine Qd ?_|refine Qa ?_|refine Q6 ?_|refine Q7 rfl ?_|refine Qh ?_|refine Q4 zet ?_|refine Q4 zef ?_|refine Q4 (YM rfl rfl Q1 rfl rfl rfl (by first|exact decide_eq_false Q3|rfl)) ?_|refine Q4 zY ?_|refine Q4 zN ?_|refine Q4 zu ?_|refine Q4 zS ?_)
 subst hs;obtain⟨n,rfl⟩:∃n:Nat,stop=(n:Int):=⟨stop.toNat,by omega⟩;repeat(first|refine Q4 zA ?_|refine Q4 zF ?_|refine Q4 (zB 2) ?_|refine Q4 Qng ?_|refine Q4 QjY ?_|refine QD Qp8 rfl (fun _ _=>?_)|refine Qd ?_|refine Qa ?_|refine Q6 ?_|refine Q9 rfl ?_)
 show lE _ _ _ _ _ _ _ [Qb.blk b2 (.cells ((QJ (fun _=>false)).set (0+n*1) (.bool true)).toArray 92 (0,0)),_,_] _;refine QlX ?_;refine QD Q5n rfl (fun _ _=>?_);refine KA ?_
 refine Q8 (.inr rfl) rfl KM (fun w hw=>Ja Q03 ?_ hw);refine ZL fun j hj=>?_;show (if j=n then true else false)=(if (0:Int)<0 then Ze noS 0 255 j else decide ((j:Int)=(n:Int)));rw[if_neg (show ¬(0:Int)<0 by decide)];by_cases h:j=n<;>simp [h]<;>omega
theorem QvZ(W:World)(ht:0<=stop/\stop<=255):
  Calls Tryz.prog 96 #[.agg #[a0,.int .i64 9,.slice Ab nb cb,.int .i64 size,.bool big,.int .i64 mn,.int .i64 mx,.int .i64 stop,a8,a9,a10,a11]] W (JH W (Q2m 9 bs size big mn mx stop)):=by
 go_enter Tryz.func96,Tryz.ntmps96;refine Qv (M:=[]) (W:=W) (N:=84) (E:=[(0,.agg #[a0,.int .i64 9,.slice Ab nb cb,.int .i64 size,.bool big,.int .i64 mn,.int .i64 mx,.int .i64 stop,a8,a9,a10,a11])]) (O:=[]) ?_ Z6 QT;repeat(first|refine Q4 zM ?_|refine Q4 zA ?_|refine Q4 zF ?_|refine Q4 (zB 2) ?_|refine Q4 (zD 0) ?_|refine Q4 (zD 2) ?_|refine yB fun br=>?_|refine yA fun b2=>?_|refine Qd ?_|refine Qa ?_|refine Q6 ?_|refine Q7 rfl ?_|refine Qh ?_|refine Q4 Q7f ?_|refine Q4 zN ?_|refine Q4 zu ?_|refine Q4 zS ?_)
 obtain⟨n,rfl⟩:∃n:Nat,stop=(n:Int):=⟨stop.toNat,by omega⟩;repeat(first|refine Q4 zA ?_|refine Q4 zF ?_|refine Q4 (zB 2) ?_|refine Q4 Qng ?_|refine Q4 QjY ?_|refine QD Qp8 rfl (fun _ _=>?_)|refine Qd ?_|refine Qa ?_|refine Q6 ?_|refine Q9 rfl ?_)
 show lE _ _ _ _ _ _ _ [Qb.blk b2 (.cells ((QJ (fun _=>false)).set (0+n*1) (.bool true)).toArray 92 (0,0)),_,_] _;refine QlX ?_;refine QD Q5n rfl (fun _ _=>?_);refine KA ?_
 refine Q8 (.inr rfl) rfl KM (fun w hw=>Ja Q03 ?_ hw);refine ZL fun j hj=>?_;show (if j=n then true else false)=decide ((j:Int)=(n:Int));skip;by_cases h:j=n<;>simp [h]<;>omega
theorem QvY(W:World):
  Calls Tryz.prog 96 #[.agg #[a0,.int .i64 6,.slice Ab nb cb,.int .i64 size,.bool big,.int .i64 mn,.int .i64 mx,.int .i64 stop,a8,a9,a10,a11]] W (JH W (Q2m 6 bs size big mn mx stop)):=by
 go_enter Tryz.func96,Tryz.ntmps96;refine Qv (M:=[]) (W:=W) (N:=84) (E:=[(0,.agg #[a0,.int .i64 6,.slice Ab nb cb,.int .i64 size,.bool big,.int .i64 mn,.int .i64 mx,.int .i64 stop,a8,a9,a10,a11])]) (O:=[]) ?_ Z6 QT;repeat(first|refine Q4 zM ?_|refine Q4 zA ?_|refine Q4 zF ?_|refine Q4 (zB 2) ?_|refine Q4 (zD 0) ?_|refine Q4 (zD 2) ?_|refine yB fun br=>?_|refine yA fun b2=>?_|refine Qd ?_|refine Qa ?_|refine Q6 ?_|refine Q7 rfl ?_|refine Qh ?_|refine Q4 Q7f ?_|refine Q4 zN ?_|refine Q4 zu ?_|refine Q4 zS ?_)
 refine Qgc ?_
 refine QD Q5n rfl (fun _ _=>?_);refine KA ?_
 refine Q8 (.inr rfl) rfl KM (fun w hw=>Ja Q03 ?_ hw);rfl
theorem Qwd(W:World):
  Calls Tryz.prog 96 #[.agg #[a0,.int .i64 7,.slice Ab nb cb,.int .i64 size,.bool big,.int .i64 mn,.int .i64 mx,.int .i64 stop,a8,a9,a10,a11]] W (JH W (Q2m 7 bs size big mn mx stop)):=by
 go_enter Tryz.func96,Tryz.ntmps96;refine Qv (M:=[]) (W:=W) (N:=84) (E:=[(0,.agg #[a0,.int .i64 7,.slice Ab nb cb,.int .i64 size,.bool big,.int .i64 mn,.int .i64 mx,.int .i64 stop,a8,a9,a10,a11])]) (O:=[]) ?_ Z6 QT;repeat(first|refine Q4 zM ?_|refine Q4 zA ?_|refine Q4 zF ?_|refine Q4 (zB 2) ?_|refine Q4 (zD 0) ?_|refine Q4 (zD 2) ?_|refine yB fun br=>?_|refine yA fun b2=>?_|refine Qd ?_|refine Qa ?_|refine Q6 ?_|refine Q7 rfl ?_|refine Qh ?_|refine Q4 Q7f ?_|refine Q4 zN ?_|refine Q4 zu ?_|refine Q4 zS ?_)
 refine Qgc ?_
 refine QD Q5n rfl (fun _ _=>?_);refine KA ?_
 refine Q8 (.inr rfl) rfl KM (fun w hw=>Ja Q03 ?_ hw);rfl
theorem QvI(W:World):
  Calls Tryz.prog 96 #[.agg #[a0,.int .i64 8,.slice Ab nb cb,.int .i64 size,.bool big,.int .i64 mn,.int .i64 mx,.int .i64 stop,a8,a9,a10,a11]] W (JH W (Q2m 8 bs size big mn mx stop)):=by
 go_enter Tryz.func96,Tryz.ntmps96;refine Qv (M:=[]) (W:=W) (N:=84) (E:=[(0,.agg #[a0,.int .i64 8,.slice Ab nb cb,.int .i64 size,.bool big,.int .i64 mn,.int .i64 mx,.int .i64 stop,a8,a9,a10,a11])]) (O:=[]) ?_ Z6 QT;repeat(first|refine Q4 zM ?_|refine Q4 zA ?_|refine Q4 zF ?_|refine Q4 (zB 2) ?_|refine Q4 (zD 0) ?_|refine Q4 (zD 2) ?_|refine yB fun br=>?_|refine yA fun b2=>?_|refine Qd ?_|refine Qa ?_|refine Q6 ?_|refine Q7 rfl ?_|refine Qh ?_|refine Q4 Q7f ?_|refine Q4 zN ?_|refine Q4 zu ?_|refine Q4 zS ?_)
 refine Qgc ?_
 refine QD Q5n rfl (fun _ _=>?_);refine KA ?_
 refine Q8 (.inr rfl) rfl KM (fun w hw=>Ja Q03 ?_ hw);rfl
theorem QuS(W:World):
  Calls Tryz.prog 96 #[.agg #[a0,.int .i64 10,.slice Ab nb cb,.int .i64 size,.bool big,.int .i64 mn,.int .i64 mx,.int .i64 stop,a8,a9,a10,a11]] W (JH W (Q2m 10 bs size big mn mx stop)):=by
 go_enter Tryz.func96,Tryz.ntmps96;refine Qv (M:=[]) (W:=W) (N:=84) (E:=[(0,.agg #[a0,.int .i64 10,.slice Ab nb cb,.int .i64 size,.bool big,.int .i64 mn,.int .i64 mx,.int .i64 stop,a8,a9,a10,a11])]) (O:=[]) ?_ Z6 QT;repeat(first|refine Q4 zM ?_|refine Q4 zA ?_|refine Q4 zF ?_|refine Q4 (zB 2) ?_|refine Q4 (zD 0) ?_|refine Q4 (zD 2) ?_|refine yB fun br=>?_|refine yA fun b2=>?_|refine Qd ?_|refine Qa ?_|refine Q6 ?_|refine Q7 rfl ?_|refine Qh ?_|refine Q4 Q7f ?_|refine Q4 zN ?_|refine Q4 zu ?_|refine Q4 zS ?_)
 refine Qgc ?_
 refine QD Q5n rfl (fun _ _=>?_);refine KA ?_
 refine Q8 (.inr rfl) rfl KM (fun w hw=>Ja Q03 ?_ hw);rfl
end
def QV:List (Nat->Bool)->List Value
 |[]=>[]
 |s::l=>QJ s++QV l
theorem Q8F:∀l:List (Nat->Bool),(QV l).length=l.length*256
 |[]=>rfl
 |s::l=>by rw[QV,List.length_append,X3,Q8F l,List.length_cons];omega
theorem Q9b:∀(l m:List (Nat->Bool)),QV (l++m)=QV l++QV m
 |[],m=>rfl
 |s::l,m=>by rw[List.cons_append,QV,QV,Q9b l m,List.append_assoc]
def Xu:Nat->Bool:=fun _=>false
theorem Q38:∀(l:List (Nat->Bool)) (k c:Nat),k<l.length->c<256->(QV l)[k*256+c]? =some (.bool ((l.getD k Xu) c))
 |[],k,c,h,_=>absurd h Qm
 |s::l,0,c,_,hc=>by
  rw[QV,List.getElem?_append_left (by rw[X3];omega),Nat.zero_mul,Nat.zero_add,ZF s hc]
  rfl
 |s::l,k+1,c,h,hc=>by
  rw[QV,List.getElem?_append_right (by rw[X3];omega),X3,show (k+1)*256+c - 256=k*256+c by omega,Q38 l k c (by simpa using h) hc]
  rfl
theorem Q8s:∀(l:List (Nat->Bool)) (k c:Nat) (b:Bool),k<l.length->c<256->(QV l).set (k*256+c) (.bool b)=QV (l.set k (fun j=>if j=c then b else (l.getD k Xu) j))
 |[],k,c,b,h,_=>absurd h Qm
 |s::l,0,c,b,_,hc=>by
  rw[QV,List.set_append_left _ _ (by rw[X3];omega),Nat.zero_mul,Nat.zero_add,Q06]
  rfl
 |s::l,k+1,c,b,h,hc=>by
  rw[QV,List.set_append_right _ _ (by rw[X3];omega),X3,show (k+1)*256+c - 256=k*256+c by omega,Q8s l k c b (by simpa using h) hc]
  rfl
theorem Q22(l:List (Nat->Bool))(k:Nat)(h:k<l.length):∀j u,(QJ (l.getD k Xu))[j]? =some u->(QV l)[k*256+j]? =some u:=by
 intro j u hu;have hj:j<256:=by
  rcases Nat.lt_or_ge j 256 with hj|hj
  ·exact hj
  ·rw[List.getElem?_eq_none (by rw[X3];omega)] at hu;cases hu
 rw[Q38 l k j h hj];rw[ZF _ hj] at hu;exact hu
def Ko(r:Rl):Nat->Bool:=Q2m r.kind r.bs r.size r.big r.mn r.mx r.stop
def orS(s t:Nat->Bool):Nat->Bool:=fun j=>s j||t j
def Vo(Ss:List (Nat->Bool))(k i:Nat):List (Nat->Bool):=Ss.set k (orS (Ss.getD k Xu) (Ss.getD i Xu))
def Yd(F:List Rl)(Ss:List (Nat->Bool))(k:Nat):List (Nat->Bool):=(bg F k).foldl (fun S i=>Vo S k i) Ss
def J8(F:List Rl)(Ss:List (Nat->Bool)):List (Nat->Bool):=(List.range F.length).foldl (Yd F) Ss
def V4(F:List Rl):List (Nat->Bool):=iter (J8 F) F.length (F.map Ko)
theorem Qip{r:Rl}{Ab An Ap:Option Addr}{n cb cn cp:Nat}{W:World}(hl:RuL W r Ab cb An cn Ap cp)(hr:ROk n r):
  Calls Tryz.prog 96 #[.agg (ruC r (.slice Ab r.bs.length cb) (.slice An r.names.length cn) (.slice Ap r.parts.length cp)).toArray] W (JH W (Ko r)):=by
 obtain⟨name,kind,bs,size,big,mn,mx,stop,count,elem,names,parts⟩:=r;have hk:=hr.kind;have hb:=hl.b;have h1:=hr.bs1;have h2:=hr.num;have h3:=hr.dec;have h5:=hr.size5;have hs:=hr.stop;unfold Ko;simp only at hk hb h1 h2 h3 h5 hs ⊢;rcases (show kind=1\/kind=2\/kind=3\/kind=4\/kind=5\/kind=6\/kind=7\/kind=8\/kind=9\/kind=10 by omega) with rfl|rfl|rfl|rfl|rfl|rfl|rfl|rfl|rfl|rfl
 ·exact Qwj W hb (h1 rfl)
 ·obtain⟨a1,a2,a3,a4,a5⟩:=h2 rfl
  have a6:mx<=4294967295:=by
   have b1:1<=size:=a1;have b2:size<=4:=a2;have b5:mx<256 ^ size.toNat:=a5;clear h1 h2 h3 h5 hs hr hl hb a1 a2 a3 a4 a5;rcases (show size=1\/size=2\/size=3\/size=4 by omega) with rfl|rfl|rfl|rfl<;>simp at b5<;>omega
  cases big with
  |true=>exact Quc (big:=true) W ⟨a1,a2⟩ ⟨a3,a4,a6⟩
  |false=>exact Qv2 (big:=true) W ⟨a3,a4,a6⟩
 ·exact QvA W ⟨(h3 rfl).1,(h3 rfl).2.1⟩
 ·exact QvL W
 ·by_cases h0:0<size
  ·exact Qus W h0
  ·have h50:0<=size:=(h5 rfl).1
   have h51:size=0:=by omega
   exact QuL W h51 (hs (.inr (.inl rfl)))
 ·exact QvY W
 ·exact Qwd W
 ·exact QvI W
 ·exact QvZ W (hs (.inr (.inr rfl)))
 ·exact QuS W
section
variable {A:Option Addr}{O:List Qb}{W w:World}{c n:Nat}
def QL(W:World)(c:Bool)(e:Ending)(w':World):Prop:=e=.returned (.bool c)/\Below W.heap.size W w'
theorem QG{c c':Bool}(h:c=c')(hw:Wd [] W O w):QL W c' (.returned (.bool c)) w:=⟨by rw[h],hw.k.below⟩
theorem Q8i{r:Rl}{Ab An Ap:Option Addr}{cb cn cp:Nat}(hl:RuL W r Ab cb An cn Ap cp)(hr:ROk n r)(hw:Wd [] W O w):
  Calls Tryz.prog 97 #[.agg (ruC r (.slice Ab r.bs.length cb) (.slice An r.names.length cn) (.slice Ap r.parts.length cp)).toArray] w (Xf (fun y:Option Addr×Nat=>.slice y.1 (bl r).length y.2) (fun y=>(bl r).length<=y.2/\(bl r=[]->y=(none,0))) [] W (fun y=>.rd y.1 (bl r).length 1 (iv (bl r))::O)):=by
 refine(Q9D (hl.on hw.k.below) hr.kind (fun h=>(hr.seven h).2) (fun h=>by have:=hr.eight h;omega)).mono ?_;rintro e w' ⟨A,m,c,rfl,h1,h2,h3,h4,h5⟩;have hm:(bl r).length=m:=by have:=h1.len;rw[Q07] at this;exact this
 subst hm;refine⟨(A,c),rfl,⟨h2,fun h=>?_⟩,(hw.on h3).rd_far hw h1 (fun b o e hn=>?_)⟩
 ·obtain⟨rfl,rfl⟩:=h5 (by rw[h];rfl)
  rfl
 ·rcases h4 b o e hn with h|⟨⟨o',h⟩,h0⟩
  ·exact .inl h
  ·right
   exact QlN
theorem Qlo{l:List Int}(hl:0<l.length)(hl':l.length<=1048576)(hw:Wd [] W (.rd A l.length 1 (iv l)::O) w):
  Calls Tryz.prog 151 #[.slice A l.length c] w (Xf (fun y:Nat×Nat×Nat×List Value=>.slice (some ⟨y.1,y.2.1,none⟩) l.length y.2.2.1) (fun y=>Q57 y.2.1 l.length y.2.2.1 y.2.2.2 (iv l)) [] W (fun y=>.blk y.1 (.cells y.2.2.2.toArray 3 (0,0))::.rd A l.length 1 (iv l)::O)):=by
 refine(Q9H Q6c hl hl').mono ?_;rintro e w' ⟨b,q,c',cur,rfl,h1,h2,h3,h4⟩;exact⟨(b,q,c',cur),rfl,h3,hw.push h4 h2 (fun b' hb'=>by cases hb';exact h1)⟩
theorem QjH{q:Nat}{cur:List Value}{x:Int}{t:List Int}(h:Q57 q (n+1) c cur (iv (x::t))):∃q',JQ (some ⟨0,q,none⟩) c 1 1=some ⟨0,q',none⟩/\(∀b,JQ (some ⟨b,q,none⟩) c 1 1=some ⟨b,q',none⟩)/\Q57 q' n (c - 1) cur (iv t):=by
 obtain⟨h1,h2,h3,h4,h5⟩:=h;have hl:(iv t).length=n:=by rw[Q07] at h4 ⊢;simpa using h4
 by_cases hc:c=1
 ·refine⟨q,by rw[JQ,if_pos hc],fun b=>by rw[JQ,if_pos hc],by omega,by omega,by omega,hl,fun j u hu=>?_⟩
  have hn:n=0:=by omega
  rw[List.getElem?_eq_none Q3] at hu;cases hu
 ·refine⟨q+1,by rw[JQ,if_neg hc,Option.map_some,Addr.add_mid],fun b=>by rw[JQ,if_neg hc,Option.map_some,Addr.add_mid],by omega,by omega,by omega,hl,fun j u hu=>?_⟩;have:=h5 (j+1) u (by exact hu);rwa [show q+(j+1)=q+1+j by omega] at this
def cyE(bf bs k n:Nat)(s:Cy):Env:=[(1,.int .i64 (k:Int)),(2,.pointer (some ⟨bf,0,none⟩)),(5,.slice (some ⟨bs,0,none⟩) n n),(6,.slice (some ⟨s.b,s.q,none⟩) s.qs.length s.c)]
def cyO(bf bs n c:Nat)(A:Option Addr)(s:Cy):List Qb:=[.blk s.b (.cells s.cur.toArray 3 (0,0)),.row (some ⟨bs,0,none⟩) n n 4 1 (XC s.seen),.blk bf (.cells [.slice A n c].toArray 24 (0,0))]
theorem Q9C{F:List Rl}{k:Nat}(hf:QW W W.heap.size A n F)(hF:FOk F)(hn:n<=40)(hk:k<n):
  Calls Tryz.prog 117 #[.agg #[.slice A n c],.int .i64 (k:Int)] W (QL W (Q1c F k)):=by
 have hlen:F.length=n:=hf.1;obtain⟨b,o,rfl⟩:=hf.addr Q3;obtain⟨rk,Ab,cb,An,cn,Ap,cp,hrk,hrg,hlk⟩:=hf.rl hk;have hok:=hF k rk hrk;have HBG:=Q2 (Q2X hrk);have HFM:=Q2 hf;have HOK:=Q2 hok;have HLK:=Q2 hlk;have HF:=Q2 hF;have HLEN:=Q2 hlen;have h12:=Q6S hok;clear hrk hf hok hlk hF hlen;go_enter Tryz.func117,Tryz.ntmps117;refine Qv (M:=[]) (W:=W) (N:=46) (E:=[Q9a,Q1J]) (O:=[]) ?_ mc3 QT;repeat(first|refine Q4 zM ?_|refine Q4 zA ?_|refine Q4 zF ?_|refine Q4 (zB 0) ?_|refine Q4 (zB 1) ?_|refine Q4 (zD 0) ?_|refine Q4 (zD 1) ?_|refine Q4 (zD 2) ?_|refine Q4 zE ?_|refine yB fun bf=>?_|refine Qc QoY rfl Q1 (fun bs _=>?_)|refine Q4 (zi (hj:=hk)) ?_|refine Qc Qu0 rfl Q1 (fun y hy=>?_)|refine Qd ?_|refine Qa ?_|refine Q6 ?_|refine Q4 zL ?_)
 obtain⟨l,hl⟩:∃l,bl rk=l:=⟨_,rfl⟩;rw[hl] at hy h12 ⊢;cases l with
 |nil=>
  obtain rfl:=hy.2 rfl;repeat(first|refine Q4 zA ?_|refine Q4 (Qg (f:=151) rfl rfl Q1 rfl rfl (fun w hw=>QeW w)) ?_|refine Qd ?_|refine Qa ?_|refine Qh ?_)
  refine QH (ι:=Unit) QgG (fun _=>0) (fun _=>[(6,.slice none 0 0)]) (fun _=>[]) () [] Q1 trivial Qfv rfl ?_;rintro _ _;refine QqJ ?_
  refine Q8 mc4 rfl (.tmp rfl) (fun w hw=>QG ?_ hw);cases hc:Q1c F k with
  |false=>rfl
  |true=>
   exfalso;have hr:=(Q36 HF.out.bd Q9V).1 hc;have hnone:∀j,Rch F k j->False:=by
    intro j hj;induction hj with
    |one h=>rw[HBG.out,hl] at h;cases h
    |more _ _ ih=>exact ih
   exact hnone k hr
 |cons x0 t0=>
  refine Qc (Xg _ _ _ (f:=151) rfl rfl rfl (fun w hw=>Qlo (l:=x0::t0) Qm Q3 hw)) rfl Q1 (fun z hz=>?_);obtain⟨b1,q1,c1,cur1⟩:=z;have hz0:Q57 q1 (x0::t0).length c1 cur1 (iv (x0::t0)):=hz;clear hz;have h0:CyP F k { seen:=List.replicate n false,qs:=x0::t0,b:=b1,q:=q1,c:=c1,cur:=cur1 }:=by
   have hno:∀i:Nat,(List.replicate n false).getD i false=false:=fun i=>by
    rw[List.getD_eq_getElem?_getD,List.getElem?_replicate];split<;>rfl
   have hin:=Q6z HOK.out;rw[hl] at hin;have hbg:bg F k=(x0::t0).map Int.toNat:=by rw[HBG.out,hl]
   refine⟨by rw[List.length_replicate,HLEN.out],hz0,hin,fun x hx=>.one ?_,fun x hx=>.inr ?_,fun i hi=>?_,hno k,?_⟩
   ·rw[hbg];exact List.mem_map_of_mem hx
   ·rw[hbg,List.mem_map] at hx;obtain⟨y',hy',rfl⟩:=hx;have:=hin y' hy';rw[show ((y'.toNat:Nat):Int)=y' by omega];exact hy'
   ·have hi':(List.replicate n false).getD i false=true:=hi;rw[hno i] at hi'
    cases hi'
   ·have:=QaH (fun i=>!((List.replicate n false).getD i false)) F.length
    show 13*cnt (fun i=>!((List.replicate n false).getD i false)) F.length+(x0::t0).length<=_;omega
  clear hy hl h12;repeat(first|refine Q4 zA ?_|refine Qd ?_|refine Qa ?_|refine Qh ?_)
  refine QH (CyP F k) (fun s=>13*Vq s F.length+s.qs.length) (cyE bf bs k n) (cyO bf bs n c QhL) { seen:=List.replicate n false,qs:=x0::t0,b:=b1,q:=q1,c:=c1,cur:=cur1 } [0,2,3] Q1 h0 mc1 (by show [_,Qb.row _ _ _ _ _ _,_]=_;rw[QgC];rfl) ?_;rintro⟨seen,qs,b2,q2,c2,cur2⟩ hp;have HPP:=Q2 hp;clear hp;cases qs with
  |nil=>
   show sE _ _ _ _ _ [Q1J,Q4N,Q8E,(6,.slice (some ⟨b2,q2,none⟩) 0 c2)] QtJ _;refine QqJ ?_
   refine Q8 mc4 rfl (.tmp rfl) (fun w hw=>QG (HPP.out.done HF.out Q9V rfl).symm hw)
  |cons x t=>
   show sE _ _ _ _ _ [Q1J,Q4N,Q8E,(6,.slice (some ⟨b2,q2,none⟩) (x::t).length c2)] QtJ _;have hx:=HPP.out.inn x List.mem_cons_self;rw[HLEN.out] at hx;have hc0:cur2[q2+0]? =some (.int .i64 x):=HPP.out.win.2.2.2.2 0 _ rfl;obtain⟨q3,_,hcut,hwt⟩:=QjH (show Q57 q2 (t.length+1) c2 cur2 (iv (x::t)) from HPP.out.win);have HWT:=Q2 hwt;clear hwt;have hlt:0<(x::t).length:=by simp
   by_cases hxk:x=(k:Int)
   ·have hxk':(x==(k:Int))=true:=beq_iff_eq.2 hxk
    repeat(first|refine Q4 zM ?_|refine Q4 zA ?_|refine Q4 QfF ?_|refine Q4 (zV 0 hc0) ?_|(refine Q4 Qmv ?_;rw[hcut])|refine Qd ?_|refine Qa ?_|refine Q6 ?_|refine Qt ?_|refine Q9 rfl ?_|refine QB ?_|refine Qh ?_|refine Qk ?_|refine Qs ?_|refine Q4 zL ?_|refine Q4 zea ?_|refine Q4 zgt ?_)
    refine Q8 mc4 rfl (.tmp rfl) (fun w hw=>QG ?_ hw);refine((Q36 HF.out.bd Q9V).2 ?_).symm;have:=HPP.out.sound x List.mem_cons_self;rw[hxk] at this;simpa using this
   ·have hxk':(x==(k:Int))=false:=beq_eq_false_iff_ne.2 hxk
    have hs0:(XC seen)[0+x.toNat]? =some (.bool (seen.getD x.toNat false)):=by
     rw[Nat.zero_add];exact Ve (by rw[show seen.length=F.length from HPP.out.len,HLEN.out];omega)
    have HXK:=Q2 hxk;clear hxk;obtain⟨sx,hsx⟩:∃sx,seen.getD x.toNat false=sx:=⟨_,rfl⟩;rw[hsx] at hs0;have HSX:=Q2 hsx;clear hsx;cases sx with
    |true=>
     repeat(first|refine Q4 zM ?_|refine Q4 zA ?_|refine Q4 QfF ?_|refine Q4 (zV 0 hc0) ?_|(refine Q4 Qmv ?_;rw[hcut])|refine Q4 QoE ?_|refine Q4 (zK 1 hs0) ?_|refine Qd ?_|refine Qa ?_|refine Q6 ?_|refine Qt ?_|refine Q9 rfl ?_|refine Q7 rfl ?_|refine Qh ?_|refine JD ?_|refine Q4 zL ?_|refine Q4 zea ?_|refine Q4 QqY ?_|refine Q4 zO ?_)
     refine Qr { seen:=seen,qs:=t,b:=b2,q:=q3,c:=c2 - 1,cur:=cur2 } [0,1,2] Q1 (HPP.out.old rfl HSX.out hx.1 HWT.out) (by show 13*Vq _ _+t.length<13*Vq _ _+(t.length+1);exact Nat.lt_succ_self _) mc1 rfl
    |false=>
     obtain⟨rx,Ab',cb',An',cn',Ap',cp',hrx,hrgx,hlx⟩:=HFM.out.rl (i:=x.toNat) Q3;have HRX:=Q2 hrx;have HLX:=Q2 hlx;have HOX:=Q2 (HF.out _ _ hrx);have h12:=Q6S HOX.out;have hsm:=HPP.out.small;have hul:=hsm;rw[HLEN.out] at hul;clear hrx hlx hsm;have hqs:t.length<=13*n+12:=by
      have:(Cy.mk seen (x::t) b2 q2 c2 cur2).qs.length=t.length+1:=rfl;omega
     clear hul;repeat(first|refine Q4 zM ?_|refine Q4 zA ?_|refine Q4 zF ?_|refine Q4 (zB 2) ?_|refine Q4 (zD 0) ?_|refine Q4 (zD 1) ?_|refine Q4 zE ?_|refine Q4 QfF ?_|refine Q4 (zV 0 hc0) ?_|(refine Q4 Qmv ?_;rw[hcut])|refine Q4 QoE ?_|refine Q4 (Qz rfl rfl Q1 rfl rfl rfl hx) ?_|refine Q4 (zK 1 hs0) ?_|refine QD Qm9 rfl (fun _ _=>?_)|refine Qc (Xg _ _ _ (f:=97) rfl rfl rfl (fun w hw=>Q8i (n:=F.length) HLX.out HOX.out hw)) rfl Q1 (fun z hz=>?_)|refine Qc (Q2U (n:=t.length) 1 rfl rfl rfl rfl rfl HWT.out (fun w hw=>hw.own 0 _ rfl) (Qfx _) Q3) rfl Q1 (fun y hy=>?_)|refine Qd ?_|refine Qa ?_|refine Q6 ?_|refine Qt ?_|refine Q9 rfl ?_|refine Q7 rfl ?_|refine Qh ?_|refine JD ?_|refine Q4 zL ?_|refine Q4 zea ?_|refine Q4 QqY ?_|refine Q4 zO ?_)
     obtain⟨b4,q4,c4,cur4⟩:=y
     have hnew:=HPP.out.new (b':=b4) (q':=q4) (c':=c4) (cur':=cur4) HF.out rfl HRX.out HSX.out HXK.out (by
      have h:Q57 q4 (t.length+(bl rx).length) c4 cur4 (iv t++iv (bl rx)):=hy;rw[List.length_append,QmW]
      exact h)
     refine Qr { seen:=seen.set x.toNat true,qs:=t++bl rx,b:=b4,q:=q4,c:=c4,cur:=cur4 } [1,2,3] Q1 hnew.1 hnew.2 (.cons rfl rfl (.cons rfl rfl (.cons rfl rfl (.cons rfl (by rw[List.length_append]) .nil)))) ?_;show [_,Qb.row _ _ _ _ _ ((XC seen).set (0+x.toNat) (.bool true)),_]=_;rw[Nat.zero_add,Q0V];rfl
end
section
variable {A:Option Addr}{S:List (Nat->Bool)}{b c n s:Nat}{cd:Code}{e:TypeId}{w:World}{xs:List Value}
theorem Rd.of_on(h:(Qb.rd A n s xs).on w)(hn:0<n):∃b o,A=some ⟨b,o,none⟩/\b<w.heap.size:=by
 have h':Rd w w.heap.size s A n xs:=h;obtain⟨b,o,e,hb,_⟩:=h'.2 hn;exact⟨b,o,e,hb⟩
section
variable {P:Program}{Q:Exit->Act->World->Prop}{N:Nat}{M:List Nat}{W:World}{E:Env}{O:List Qb}
theorem Q5V(i:Nat)(hO:O[i]? =some (.row A n c e s xs))(hn:0<n)(h:∀b,A=some ⟨b,0,none⟩->sE P Q N M W E O cd):sE P Q N M W E O cd:=fun a w ha hw=>by
 rcases (hw.own i _ hO).2 with ⟨hv,_⟩|⟨g,cap,cur,hv,_⟩
 ·have:n=0:=by
   exact QfX
  omega
 ·simp only[Value.slice.injEq] at hv
  exact h g hv.1 a w ha hw
theorem Qot{x y:Code}{ι:Type}(p:ι->Prop)(F:ι->Env)(G:ι->List Qb)(h1:sE P (Exit.then (QpY p N M W F G) Q) N M W E O x)(h2:∀i,p i->sE P Q N M W (F i) (G i) y):sE P (Exit.then (fun a w=>y.wp P Q a w) Q) N M W E O x:=
 Qu1 p F G h1 fun i hp a w ha hw=>h2 i hp a w ha hw
theorem Wd.rd_blk(i:Nat){cs:List Value}{t:TypeId}{fr:Nat×Nat}(hO:O[i]? =some (.blk b (.cells cs.toArray t fr)))(hl:cs.length=n*s)(hw:Wd M W O w):Rd w w.heap.size s (some ⟨b,0,none⟩) n cs:=
 ⟨hl,fun _=>⟨b,0,rfl,(hw.own i _ hO).lt rfl,fun j u hu=>by rw[Nat.zero_add];exact hw.cell_blkL i hO hu⟩⟩
end
section
variable {P:Program}{Q:Exit->Act->World->Prop}{N:Nat}{M:List Nat}{W:World}{E:Env}{O:List Qb}
theorem Q8v(i:Nat)(hO:O[i]? =some (.rd A n s xs))(hn:0<n)(h:∀b o,A=some ⟨b,o,none⟩->sE P Q N M W E O cd):sE P Q N M W E O cd:=fun a w ha hw=>by
 obtain⟨b,o,e,_⟩:=Go.Proofs.YtphkhfdmlcnoeaaGreatDoor.Rd.of_on Q4X hn;exact h b o e a w ha hw
end
theorem Wd.range_sets{M:List Nat}{W:World}{O:List Qb}(i:Nat){k:Nat}(hO:O[i]? =some (.row (some ⟨b,0,none⟩) n c e 256 (QV S)))(hk:k<S.length)(hw:Wd M W O w):w.rangeAt b (0+k*256) (QJ (S.getD k Xu)):=fun j u hu=>by
 rw[Nat.zero_add];exact hw.cell_row i hO (Q22 S k hk j u hu)
def Ku(S:List (Nat->Bool))(k:Nat)(st:Nat->Bool)(c:Nat):List (Nat->Bool):=S.set k (fun j=>if j<c then (S.getD k Xu) j||st j else (S.getD k Xu) j)
theorem Q3f(S:List (Nat->Bool))(k:Nat)(st:Nat->Bool)(c:Nat):(Ku S k st c).length=S.length:=by unfold Ku;rw[List.length_set]
theorem QbS(S:List (Nat->Bool))(k:Nat)(st:Nat->Bool)(c:Nat)(hk:k<S.length):(Ku S k st c).getD k Xu=fun j=>if j<c then (S.getD k Xu) j||st j else (S.getD k Xu) j:=by
 unfold Ku;rw[List.getD_eq_getElem?_getD,List.getElem?_set,if_pos rfl,if_pos hk];rfl
theorem QiB(S:List (Nat->Bool))(k:Nat)(st:Nat->Bool)(hk:k<S.length):Ku S k st 0=S:=by
 unfold Ku;have e:(fun j=>if j<0 then (S.getD k Xu) j||st j else (S.getD k Xu) j)=S[k]:=by
  funext j;rw[if_neg Q3,List.getD_eq_getElem?_getD,List.getElem?_eq_getElem hk];rfl
 rw[e,List.set_getElem_self]
theorem QiK{T:List (Nat->Bool)}(hl:S.length=T.length)(h:∀k c,k<S.length->c<256->(S.getD k Xu) c=(T.getD k Xu) c):QV S=QV T:=by
 induction S generalizing T with
 |nil=>cases T with
  |nil=>rfl
  |cons=>simp at hl
 |cons s S ih=>cases T with
  |nil=>simp at hl
  |cons t T=>
   have e1:QJ s=QJ t:=ZL (fun j hj=>h 0 j Qm hj);have e2:QV S=QV T:=ih (by simpa using hl) (fun k c hk hc=>h (k+1) c (by simpa using hk) hc);rw[QV,QV,e1,e2]
theorem Qiq(S:List (Nat->Bool))(k:Nat)(st:Nat->Bool)(c:Nat)(hk:k<S.length)(hc:c<256):(QV (Ku S k st c)).set (k*256+c) (.bool ((S.getD k Xu) c||st c))=QV (Ku S k st (c+1)):=by
 rw[Q8s _ _ _ _ (by rw[Q3f];exact hk) hc,QbS S k st c hk];unfold Ku;rw[List.set_set];congr 2;funext j;by_cases h1:j=c
 ·subst h1;simp
 ·by_cases h2:j<c
  ·have:j<c+1:=by omega
   simp [h1,h2,this]
  ·have:¬j<c+1:=by omega
   simp [h1,h2,this]
theorem Qmr(S:List (Nat->Bool))(k x:Nat)(hk:k<S.length):QV (Ku S k (S.getD x Xu) 256)=QV (Vo S k x):=by
 refine QiK (by unfold Vo;rw[Q3f,List.length_set]) fun k' c hk' hc=>?_;rw[Q3f] at hk';unfold Ku Vo;by_cases h:k=k'
 ·subst h
  simp [List.getD_eq_getElem?_getD,hk,hc,orS]
 ·simp [List.getD_eq_getElem?_getD,List.getElem?_set_ne h]
theorem Qe4(S:List (Nat->Bool))(k x:Nat):(Vo S k x).length=S.length:=by unfold Vo;rw[List.length_set]
theorem Q0B(k:Nat):∀(l:List Nat) (S:List (Nat->Bool)),(l.foldl (fun S x=>Vo S k x) S).length=S.length
 |[],_=>rfl
 |x::l,S=>by rw[List.foldl_cons,Q0B k l,Qe4]
theorem Qcz(F:List Rl)(S:List (Nat->Bool))(k:Nat):(Yd F S k).length=S.length:=Q0B k _ S
theorem Kr(F:List Rl):∀(l:List Nat) (S:List (Nat->Bool)),(l.foldl (Yd F) S).length=S.length
 |[],_=>rfl
 |x::l,S=>by rw[List.foldl_cons,Kr F l,Qcz]
theorem Yi(F:List Rl)(S:List (Nat->Bool)):∀t,(iter (J8 F) t S).length=S.length
 |0=>rfl
 |t+1=>(Kr F _ _).trans (Yi F S t)
theorem Qib(st:Nat->Bool):∀u∈QJ st,u.oneCell'=true:=by
 intro u hu;simp only[QJ,List.mem_map] at hu;obtain⟨j,_,rfl⟩:=hu;rfl
theorem Qb0{F:List Rl}{W:World}(hf:QW W W.heap.size A n F)(hF:FOk F)(hn:n<=40)(hn0:0<n):
  Calls Tryz.prog 55 #[.agg #[.slice A n c]] W (fun e w'=>∃b c',e=.returned (.slice (some ⟨b,0,none⟩) n c')/\W.heap.size<=b/\Rd w' w'.heap.size 256 (some ⟨b,0,none⟩) n (QV (V4 F))/\Below W.heap.size W w'):=by
 have hlen:F.length=n:=hf.1;obtain⟨b,o,rfl⟩:=hf.addr hn0;have HFM:=Q2 hf;have HF:=Q2 hF;have HLEN:=Q2 hlen;clear hf hF hlen;go_enter Tryz.func55,Tryz.ntmps55;refine Qv (M:=[]) (W:=W) (N:=72) (E:=[(0,.agg #[.slice (some ⟨b,o,none⟩) n c])]) (O:=[]) ?_ Z6 (Wd.start [] W);repeat(first|refine Q4 zM ?_|refine Q4 zA ?_|refine Q4 zF ?_|refine Q4 (zB 0) ?_|refine yB fun bf=>?_|refine Qd ?_|refine Qa ?_|refine Q6 ?_|refine Qh ?_|refine Q4 zL ?_)
 refine QbN 92 256 ?_;refine QH (ι:=Nat×Option Addr×Nat) (fun y=>y.1<=n) (fun y=>n - y.1) (fun y=>[(1,.pointer KJ),(3,.slice y.2.1 y.1 y.2.2),(13,.slice (some ⟨b,o,none⟩) n c),(14,.int .i64 (n:Int)),(15,.int .i64 (y.1:Int))]) (fun y=>[.row y.2.1 y.1 y.2.2 92 256 (QV ((F.take y.1).map Ko)),.blk bf (.cells [.slice (some ⟨b,o,none⟩) n c].toArray 24 (0,0))]) (0,none,0) [0,1] Q1 XY Yj rfl ?_;rintro⟨i,A',c'⟩ hi;have hi':i<=n:=hi;clear hi;show sE _ _ _ _ _ [(1,.pointer KJ),(3,.slice A' i c'),(13,.slice (some ⟨b,o,none⟩) n c),(14,.int .i64 (n:Int)),(15,.int .i64 (i:Int))] [.row A' i c' 92 256 (QV ((F.take i).map Ko)),.blk bf (.cells [.slice (some ⟨b,o,none⟩) n c].toArray 24 (0,0))] _;by_cases hin:i<n
 ·obtain⟨rk,Ab,cb,An,cn,Ap,cp,hrk,hrg,hlk⟩:=HFM.out.rl hin;have HRK:=Q2 hrk;have HLK:=Q2 hlk;have HOK:=Q2 (HF.out i rk hrk);clear hrk hlk
  repeat(first|refine Q4 zM ?_|refine Q4 zA ?_|refine Q4 (zD 0) ?_|refine Q4 (zD 1) ?_|refine Q4 zE ?_|refine Q4 (zi (hj:=hin)) ?_|refine yA (t:=65) fun b7=>?_|refine yW 0 ?_|refine Q4 (Qg (f:=96) rfl rfl Q1 rfl rfl (fun w hw=>(Qip Q9y HOK.out).mono (fun _ _ h=>h))) ?_|refine Qc (ZZ (cs:=QJ _) rfl rfl rfl rfl (X3 _) Q1) rfl Q1 (fun bn _=>?_)|refine Qc (J4 (news:=QJ _) 2 rfl rfl rfl rfl rfl (fun w hw=>hw.rd_blk 0 rfl (by rw[X3])) (Qib _) Q3) rfl Q1 (fun y _=>?_)|refine Qd ?_|refine Qa ?_|refine Q6 ?_|refine Qt ?_|refine Q9 rfl ?_|refine Qh ?_|refine Q4 Q4e ?_|refine Q4 zP ?_)
  obtain⟨A2,c2⟩:=y;refine Qr (i+1,A2,c2) [2,3] Q1 hin Vt J9 ?_;show [Qb.row _ _ _ _ _ (QV ((F.take i).map Ko)++QJ (Ko rk)),_]=[Qb.row _ _ _ _ _ (QV ((F.take (i+1)).map Ko)),_];rw[List.take_add_one,HRK.out,Option.toList_some,List.map_append,Q9b];simp [QV]
 ·obtain rfl:i=n:=by omega
  refine QmY ?_
  refine Q5V 0 rfl hn0 (fun br hA=>?_);subst hA;have e0:QV ((F.take i).map Ko)=QV (iter (J8 F) 0 (F.map Ko)):=by
   rw[List.take_of_length_le (by rw[HLEN.out];exact Nat.le_refl _)];rfl
  refine QH (ι:=Nat) (fun t=>t<=i) (fun t=>i - t) (fun t=>[(1,.pointer KJ),(3,.slice (some ⟨br,0,none⟩) i c'),(27,.int .i64 (i:Int)),(28,.int .i64 (t:Int))]) (fun t=>[.row (some ⟨br,0,none⟩) i c' 92 256 (QV (iter (J8 F) t (F.map Ko))),.blk bf (.cells [.slice (some ⟨b,o,none⟩) i c].toArray 24 (0,0))]) 0 [0,1] Q1 XY mc1 (by rw[<- e0];rfl) ?_;rintro t ht;by_cases htn:t<i
  ·skip
   repeat(first|refine Q4 zM ?_|refine Q4 zF ?_|refine Q4 (zB 1) ?_|refine Qd ?_|refine Qa ?_|refine Q6 ?_|refine Qt ?_|refine Q9 rfl ?_|refine Qh ?_|refine Q4 zL ?_|refine Q4 zlt ?_)
   refine QH (ι:=Nat) (fun k=>k<=i) (fun k=>i - k) (fun k=>[(1,.pointer KJ),(3,.slice (some ⟨br,0,none⟩) i c'),(27,.int .i64 (i:Int)),(28,.int .i64 (t:Int)),(31,.slice (some ⟨b,o,none⟩) i c),(32,.int .i64 (i:Int)),(33,.int .i64 (k:Int))]) (fun k=>[.row (some ⟨br,0,none⟩) i c' 92 256 (QV ((List.range k).foldl (Yd F) (iter (J8 F) t (F.map Ko)))),.blk bf (.cells [.slice (some ⟨b,o,none⟩) i c].toArray 24 (0,0))]) 0 [0,1] Q1 XY Q0I rfl ?_;rintro k hk;by_cases hkn:k<i
   ·obtain⟨rk,Ab,cb,An,cn,Ap,cp,hrk,hrg,hlk⟩:=HFM.out.rl hkn;have HRK:=Q2 hrk;have HLK:=Q2 hlk;have HOK:=Q2 (HF.out k rk hrk);clear hrk hlk
    repeat(first|refine Q4 zM ?_|refine Q4 zA ?_|refine Q4 (zD 0) ?_|refine Q4 (zD 1) ?_|refine Q4 zE ?_|refine Q4 (zi (hj:=hkn)) ?_|refine yA (t:=65) fun b7=>?_|refine yW 0 ?_|refine Qc Qu0 rfl Q1 (fun z hz=>?_)|refine Qd ?_|refine Qa ?_|refine Q6 ?_|refine Qt ?_|refine Q9 rfl ?_|refine Qh ?_|refine Q4 zL ?_|refine Q4 zlt ?_)
    obtain⟨A2,c2⟩:=z;have hbl:=Q6S HOK.out;refine QH (ι:=Nat) (fun j=>j<=(bl rk).length) (fun j=>(bl rk).length - j) (fun j=>[(1,.pointer KJ),(3,.slice (some ⟨br,0,none⟩) i c'),(6,.int .i64 (k:Int)),(27,.int .i64 (i:Int)),(28,.int .i64 (t:Int)),(31,.slice (some ⟨b,o,none⟩) i c),(32,.int .i64 (i:Int)),(33,.int .i64 (k:Int)),(39,.slice A2 (bl rk).length c2),(40,.int .i64 ((bl rk).length:Int)),(41,.int .i64 (j:Int))]) (fun j=>[.rd A2 (bl rk).length 1 (iv (bl rk)),.row (some ⟨br,0,none⟩) i c' 92 256 (QV (((bg F k).take j).foldl (fun S x=>Vo S k x) ((List.range k).foldl (Yd F) (iter (J8 F) t (F.map Ko))))),.blk bf (.cells [.slice (some ⟨b,o,none⟩) i c].toArray 24 (0,0))]) 0 [0,2,3] Q1 XY (.cons rfl rfl (.cons rfl rfl Qnv)) rfl ?_;rintro j hj;by_cases hjn:j<(bl rk).length
    ·refine Q8v 0 rfl Q3 (fun b2 o2 hA=>?_);subst hA;obtain⟨x,hx⟩:∃x,(bl rk)[j]? =some x:=⟨_,List.getElem?_eq_getElem hjn⟩;have hxb:=Q6z HOK.out x YS
     have hxn:0<=x/\x<(i:Int):=by have:=HLEN.out;omega
     clear hxb;have hxj:(iv (bl rk))[j]? =some (.int .i64 x):=by unfold iv;rw[List.getElem?_map,hx];rfl
     have hbgj:(bg F k)[j]? =some x.toNat:=by rw[Q2X HRK.out,List.getElem?_map,hx];rfl
     have HBG:=Q2 hbgj;clear hbgj;obtain⟨S,hS⟩:∃S,S=((bg F k).take j).foldl (fun S x=>Vo S k x) ((List.range k).foldl (Yd F) (iter (J8 F) t (F.map Ko))):=⟨_,rfl⟩;have hSl:S.length=i:=by rw[hS,Q0B,Kr,Yi,List.length_map];exact HLEN.out
     rw[<- hS];have HS:=Q2 hS;clear hS;have hxS:x.toNat<S.length:=by omega
     have hkS:k<S.length:=by omega
     repeat(first|refine Q4 zM ?_|refine Q4 zA ?_|refine Q4 (zi1 (hj:=hjn)) ?_|refine Q4 Qci ?_|refine Q4 (XJ rfl rfl Q1 rfl rfl (fun w hw=>hw.cell_rd 0 rfl hxj)) ?_|refine Q4 (X7 (cs:=QJ (S.getD x.toNat Xu)) rfl rfl Q1 rfl rfl (fun w hw=>hw.range_sets 1 rfl hxS) (X3 _)) ?_|refine Qd ?_|refine Qa ?_|refine Q6 ?_|refine Qt ?_|refine Q9 rfl ?_|refine Qh ?_|refine Q4 zlt ?_)
     obtain⟨st,hst⟩:∃st,st=S.getD x.toNat Xu:=⟨_,rfl⟩;rw[<- hst];have HST:=Q2 hst;clear hst;refine QH (ι:=Nat) (fun cc=>cc<=256) (fun cc=>256 - cc) (fun cc=>[(1,.pointer KJ),(3,.slice (some ⟨br,0,none⟩) i c'),(6,.int .i64 (k:Int)),(27,.int .i64 (i:Int)),(28,.int .i64 (t:Int)),(31,.slice (some ⟨b,o,none⟩) i c),(32,.int .i64 (i:Int)),(33,.int .i64 (k:Int)),(39,.slice (some ⟨b2,o2,none⟩) (bl rk).length c2),(40,.int .i64 ((bl rk).length:Int)),(41,.int .i64 (j:Int)),(48,.agg (QJ st).toArray),(49,.int .i64 (cc:Int))]) (fun cc=>[.rd (some ⟨b2,o2,none⟩) (bl rk).length 1 (iv (bl rk)),.row (some ⟨br,0,none⟩) i c' 92 256 (QV (Ku S k st cc)),.blk bf (.cells [.slice (some ⟨b,o,none⟩) i c].toArray 24 (0,0))]) 0 [0,1,2] Q1 XY (.cons rfl rfl (.cons rfl rfl (.cons rfl rfl (.cons rfl rfl Qnv)))) (by rw[QiB S k st hkS];rfl) ?_;rintro cc hcc;by_cases hcn:cc<256
     ·have hlt:k*256+cc<i*256:=by omega
      have hcell0:=Q38 (Ku S k st cc) k cc (by rw[Q3f];exact hkS) hcn;rw[QbS S k st cc hkS] at hcell0;have hcell:(QV (Ku S k st cc))[0+k*256+cc*1]? =some (.bool ((S.getD k Xu) cc)):=by
       rw[Nat.zero_add,Nat.mul_one,hcell0];show some (Value.bool (if cc<cc then _ else _))=_;rw[if_neg (Nat.lt_irrefl _)]
      clear hcell0;obtain⟨bb,hbb⟩:∃bb,(S.getD k Xu) cc=bb:=⟨_,rfl⟩;rw[hbb] at hcell;have HB:=Q2 hbb;clear hbb;cases bb with
      |true=>
       skip;refine Qr3 ?_
       refine QsA ?_;refine Qn 10 rfl Q5 Xi zS ?_;refine Qn 11 rfl Q5 Xi zY ?_;refine QnM ?_;refine QK 14 Q5 rfl rfl Qm9 (fun _=>.inl Q1) rfl (fun _ _=>?_);refine Xn ?_ Q5;refine QkO ?_
       refine Qsg ?_;show [_,Qb.row _ _ _ _ _ ((QV (Ku S k st cc)).set (0+k*256+cc*1) (.bool true)),_]=[_,Qb.row _ _ _ _ _ (QV (Ku S k st (cc+1))),_];exact QoA
      |false=>
       skip;refine Qr3 ?_
       refine QsA ?_;refine Qn 10 rfl Q5 Xi zM ?_;refine Qn 11 rfl Q5 Xi zN ?_;refine QnM ?_;refine QK 14 Q5 rfl rfl Qm9 (fun _=>.inl Q1) rfl (fun _ _=>?_);refine Xn ?_ Q5;refine QkO ?_
       refine Qsg ?_;show [_,Qb.row _ _ _ _ _ ((QV (Ku S k st cc)).set (0+k*256+cc*1) (.bool (st cc))),_]=[_,Qb.row _ _ _ _ _ (QV (Ku S k st (cc+1))),_];exact QoA
     ·skip
      refine Qgz ?_
      refine Qr (j+1) [0,1,2] Q1 Q3 (by show (bl rk).length - (j+1)<(bl rk).length - j;omega) (.cons rfl rfl (.cons rfl rfl (.cons rfl rfl (.cons rfl rfl Q0g)))) ?_;obtain rfl:cc=256:=by omega
      show [_,Qb.row _ _ _ _ _ (QV (Ku S k st 256)),_]=[_,Qb.row _ _ _ _ _ (QV (((bg F k).take (j+1)).foldl (fun S x=>Vo S k x) _)),_];rw[HST.out,Qmr S k x.toNat hkS,List.take_add_one,HBG.out,Option.toList_some,List.foldl_append,<- HS.out];rfl
    ·skip
     refine Qgz ?_
     refine Qr (k+1) [1,2] Q1 hkn Q3 Q0g ?_;show [Qb.row _ _ _ _ _ _,_]=[Qb.row _ _ _ _ _ (QV ((List.range (k+1)).foldl (Yd F) _)),_];rw[List.range_succ,List.foldl_append,List.take_of_length_le (by rw[Q2X HRK.out,List.length_map];omega)];rfl
   ·skip
    refine Qgz ?_
    refine Qr (t+1) [0,1] Q1 htn Q3 mc2 ?_;have hkk:k=F.length:=by rw[HLEN.out];omega
    subst hkk;rfl
  ·skip
   repeat(first|refine Q4 zM ?_|refine Q4 zA ?_|refine Qd ?_|refine Qa ?_|refine Q6 ?_|refine Q7 rfl ?_|refine XK ?_|refine QB ?_|refine Q4 zlf ?_)
   have htt:t=F.length:=by rw[HLEN.out];omega
   refine Q8 mc4 rfl (.tmp rfl) (fun w hw=>⟨br,c',rfl,?_,⟨?_,fun _=>⟨br,0,rfl,(hw.own 0 _ rfl).lt rfl,fun j u hu=>?_⟩⟩,hw.k.below⟩)
   ·rcases Nat.lt_or_ge br W.heap.size with h|h
    ·have:=hw.new 0 _ br rfl rfl h
     exact Q2f
    ·exact h
   ·unfold V4;rw[Q8F,Yi,List.length_map,HLEN.out]
   ·rw[Nat.zero_add];refine hw.cell_row 0 rfl ?_;rw[htt];exact hu
end
section
variable {B B' b o:Nat}{F p:VF}{d:Nd}{v:Value}{w w':World}
def Hd(w:World)(B:Nat)(d:Nd)(np:Nat)(Q:Nat->Nat->Prop)(sb sn sp:Value):Prop:=
 ∃Ab nb cb An nn cn Ap cp,sb=.slice Ab nb cb/\sn=.slice An nn cn/\sp=.slice Ap np cp/\nb<=cb/\nn<=cn/\np<=cp/\cp<=maxLen/\
  Rd w B 1 Ab nb (bv d.bs)/\Rd w B 1 An nn (sv d.ns)/\(0<np->∃b o,Ap=some ⟨b,o,none⟩/\b<B/\Q b o)
def Yk(w:World)(b o:Nat)(d:Nd)(sb sn sp:Value):Prop:=
 w.cell? ⟨b,o,none⟩=some (.int .i64 d.k)/\w.cell? ⟨b,o+1,none⟩=some (.int .i64 d.n)/\w.cell? ⟨b,o+2,none⟩=some sb/\w.cell? ⟨b,o+3,none⟩=some sn/\w.cell? ⟨b,o+4,none⟩=some sp
def FIn(w:World)(B:Nat):VF->Nat->Nat->Prop
 |.nil,_,_=>True
 |.cons d p r,b,o=>(∃sb sn sp,Yk w b o d sb sn sp/\Hd w B d p.len (FIn w B p) sb sn sp)/\FIn w B r b (o+5)
def Qwv(d:Nd):Prop:=-9223372036854775808<=d.k/\d.k<=9223372036854775807/\-9223372036854775808<=d.n/\d.n<=9223372036854775807
def VIn(w:World)(B:Nat)(v:Value)(d:Nd)(p:VF):Prop:=
 ∃sb sn sp,v=.agg #[.int .i64 d.k,.int .i64 d.n,sb,sn,sp]/\Hd w B d p.len (FIn w B p) sb sn sp
theorem Hd.mono{np:Nat}{Q Q':Nat->Nat->Prop}{sb sn sp:Value}(h:Hd w B d np Q sb sn sp)(hk:∀p:Addr,p.block<B->w'.cell? p=w.cell? p)(hB:B<=B')(hQ:∀b o,b<B->Q b o->Q' b o):Hd w' B' d np Q' sb sn sp:=by
 obtain⟨Ab,nb,cb,An,nn,cn,Ap,cp,h1,h2,h3,h4,h5,h6,h6',h7,h8,h9⟩:=h;refine⟨Ab,nb,cb,An,nn,cn,Ap,cp,h1,h2,h3,h4,h5,h6,h6',(h7.keep hk).more hB,(h8.keep hk).more hB,fun h0=>?_⟩;obtain⟨b,o,e,hb,hq⟩:=h9 h0;exact⟨b,o,e,by omega,hQ b o hb hq⟩
theorem FIn.keep(hk:∀p:Addr,p.block<B->w'.cell? p=w.cell? p)(hB:B<=B'):∀(F:VF) (b o:Nat),b<B->FIn w B F b o->FIn w' B' F b o:=by
 intro F;induction F with
 |nil=>intro b o _ _;trivial
 |cons d p r ih1 ih2=>
  rintro b o hb ⟨⟨sb,sn,sp,⟨c0,c1,c2,c3,c4⟩,hd⟩,hr⟩;refine⟨⟨sb,sn,sp,⟨(hk _ hb).trans c0,(hk _ hb).trans c1,(hk _ hb).trans c2,(hk _ hb).trans c3,(hk _ hb).trans c4⟩,hd.mono hk hB ih1⟩,ih2 b _ hb hr⟩
theorem VIn.keep{w w':World}{B B':Nat}{v:Value}{d:Nd}{p:VF}(h:VIn w B v d p)(hk:∀p:Addr,p.block<B->w'.cell? p=w.cell? p)(hB:B<=B'):VIn w' B' v d p:=by
 obtain⟨sb,sn,sp,e,h⟩:=h;exact⟨sb,sn,sp,e,h.mono hk hB (FIn.keep hk hB p)⟩
theorem VIn.below(h:VIn w B v d p)(hb:Below B' w w')(h1:B<=B'):VIn w' B v d p:=h.keep (fun q hq=>hb.cell Q3) Xo
theorem VIn.on(h:VIn w w.heap.size v d p)(hb:Below w.heap.size w w'):VIn w' w'.heap.size v d p:=h.keep Q9S hb.size
theorem FIn.below(h:FIn w B F b o)(hb0:b<B)(hb:Below B' w w')(h1:B<=B'):FIn w' B F b o:=FIn.keep (fun q hq=>hb.cell Q3) Xo F b o hb0 h
theorem FIn.on(h:FIn w w.heap.size F b o)(hb0:b<w.heap.size)(hb:Below w.heap.size w w'):FIn w' w'.heap.size F b o:=FIn.keep Q9S hb.size F b o hb0 h
theorem FIn.drop:∀(F:VF) (b o i:Nat),FIn w B F b o->FIn w B (F.drop i) b (o+i*5):=by
 intro F;induction F with
 |nil=>intro b o i _;cases i<;>trivial
 |cons d p r _ ih=>
  intro b o i h;cases i with
  |zero=>rw[Nat.zero_mul,Nat.add_zero];exact h
  |succ i=>
   have:=ih b (o+5) i h.2;rw[show o+(i+1)*5=o+5+i*5 by omega];exact this
theorem FIn.at_{i:Nat}{r:VF}(h:FIn w B F b o)(hd:F.drop i=.cons d p r):∃sb sn sp,Yk w b (o+i*5) d sb sn sp/\Hd w B d p.len (FIn w B p) sb sn sp:=by
 have:=FIn.drop F b o i h;rw[hd] at this;exact this.1
end
section
variable {Ab An Ap:Option Addr}{cb cn cp nb nn np:Nat}{n:Int}{w:World}
theorem Q80(hn1:(n != 0)=true):
  Calls Tryz.prog 142 #[.agg #[.int .i64 3,.int .i64 n,.slice Ab nb cb,.slice An nn cn,.slice Ap np cp]] w fun e w'=>e=.returned (.int .i64 6)/\Below w.heap.size w w':=by
 have hmf:=Z2;go_enter Tryz.func142,Tryz.ntmps142;go_wp2_with fail
 refine(Qp (t:=true) [1,2,3,4] 3 X4 rfl rfl (by repeat(first|exact X5 _ _ _ _ _ _ _|refine Qf ?_)) Q1 Q1).mono ?_;rintro e w' ⟨rfl,rfl⟩;go_wp2_with fail
 refine(Qp (t:=false) [1] 3 X4 rfl rfl (by repeat(first|exact X5 _ _ _ _ _ _ _|refine Qf ?_)) Q1 Q1).mono ?_;rintro e w' ⟨rfl,rfl⟩;go_wp2_with fail
 go_ret;exact⟨rfl,(by repeat(first|exact Below.refl _ _|(refine Below.alloc ?_ Zk _)))⟩
theorem Q5b(hn0:(n != 0)=false)(hb1:0<nb):
  Calls Tryz.prog 142 #[.agg #[.int .i64 3,.int .i64 n,.slice Ab nb cb,.slice An nn cn,.slice Ap np cp]] w fun e w'=>e=.returned (.int .i64 6)/\Below w.heap.size w w':=by
 have hmf:=Z2;have hb1':(0:Int)<(nb:Int):=by omega
 go_enter Tryz.func142,Tryz.ntmps142;go_wp2_with fail
 refine(Qp (t:=true) [1,2,3,4] 3 X4 rfl rfl (by repeat(first|exact X5 _ _ _ _ _ _ _|refine Qf ?_)) Q1 Q1).mono ?_;rintro e w' ⟨rfl,rfl⟩;go_wp2_with fail
 refine(Qp (t:=false) [2] 3 X4 rfl rfl (by repeat(first|exact X5 _ _ _ _ _ _ _|refine Qf ?_)) Q1 Q1).mono ?_;rintro e w' ⟨rfl,rfl⟩;go_wp2_with fail
 go_ret;exact⟨rfl,(by repeat(first|exact Below.refl _ _|(refine Below.alloc ?_ Zk _)))⟩
theorem Q3j(hn0:(n != 0)=false)(hb0:nb=0)(hs1:0<nn):
  Calls Tryz.prog 142 #[.agg #[.int .i64 3,.int .i64 n,.slice Ab nb cb,.slice An nn cn,.slice Ap np cp]] w fun e w'=>e=.returned (.int .i64 6)/\Below w.heap.size w w':=by
 have hmf:=Z2;subst hb0;have hs1':(0:Int)<(nn:Int):=by omega
 go_enter Tryz.func142,Tryz.ntmps142;go_wp2_with fail
 refine(Qp (t:=true) [1,2,3,4] 3 X4 rfl rfl (by repeat(first|exact X5 _ _ _ _ _ _ _|refine Qf ?_)) Q1 Q1).mono ?_;rintro e w' ⟨rfl,rfl⟩;go_wp2_with fail
 refine(Qp (t:=false) [4] 3 X4 rfl rfl (by repeat(first|exact X5 _ _ _ _ _ _ _|refine Qf ?_)) Q1 Q1).mono ?_;rintro e w' ⟨rfl,rfl⟩;go_wp2_with fail
 go_ret;exact⟨rfl,(by repeat(first|exact Below.refl _ _|(refine Below.alloc ?_ Zk _)))⟩
theorem Q7Y(hn1:(n != 0)=true):
  Calls Tryz.prog 142 #[.agg #[.int .i64 4,.int .i64 n,.slice Ab nb cb,.slice An nn cn,.slice Ap np cp]] w fun e w'=>e=.returned (.int .i64 6)/\Below w.heap.size w w':=by
 have hmf:=Z2;go_enter Tryz.func142,Tryz.ntmps142;go_wp2_with fail
 refine(Qp (t:=true) [1,2,3,4] 4 X4 rfl rfl (by repeat(first|exact X5 _ _ _ _ _ _ _|refine Qf ?_)) Q1 Q1).mono ?_;rintro e w' ⟨rfl,rfl⟩;go_wp2_with fail
 refine(Qp (t:=false) [1] 4 X4 rfl rfl (by repeat(first|exact X5 _ _ _ _ _ _ _|refine Qf ?_)) Q1 Q1).mono ?_;rintro e w' ⟨rfl,rfl⟩;go_wp2_with fail
 go_ret;exact⟨rfl,(by repeat(first|exact Below.refl _ _|(refine Below.alloc ?_ Zk _)))⟩
theorem Q5h(hn0:(n != 0)=false)(hb1:0<nb):
  Calls Tryz.prog 142 #[.agg #[.int .i64 4,.int .i64 n,.slice Ab nb cb,.slice An nn cn,.slice Ap np cp]] w fun e w'=>e=.returned (.int .i64 6)/\Below w.heap.size w w':=by
 have hmf:=Z2;have hb1':(0:Int)<(nb:Int):=by omega
 go_enter Tryz.func142,Tryz.ntmps142;go_wp2_with fail
 refine(Qp (t:=true) [1,2,3,4] 4 X4 rfl rfl (by repeat(first|exact X5 _ _ _ _ _ _ _|refine Qf ?_)) Q1 Q1).mono ?_;rintro e w' ⟨rfl,rfl⟩;go_wp2_with fail
 refine(Qp (t:=false) [2] 4 X4 rfl rfl (by repeat(first|exact X5 _ _ _ _ _ _ _|refine Qf ?_)) Q1 Q1).mono ?_;rintro e w' ⟨rfl,rfl⟩;go_wp2_with fail
 go_ret;exact⟨rfl,(by repeat(first|exact Below.refl _ _|(refine Below.alloc ?_ Zk _)))⟩
theorem Q0K(hn0:(n != 0)=false)(hb0:nb=0)(hs1:0<nn)(hp1:0<np)(hne:¬nn=np):
  Calls Tryz.prog 142 #[.agg #[.int .i64 4,.int .i64 n,.slice Ab nb cb,.slice An nn cn,.slice Ap np cp]] w fun e w'=>e=.returned (.int .i64 6)/\Below w.heap.size w w':=by
 have hmf:=Z2;subst hb0;have hs1':(0:Int)<(nn:Int):=by omega
 have hp1':(0:Int)<(np:Int):=by omega
 have hne':((nn:Int) != (np:Int))=true:=by rw[bne_iff_ne];omega
 clear hne;go_enter Tryz.func142,Tryz.ntmps142;go_wp2_with fail
 refine(Qp (t:=true) [1,2,3,4] 4 X4 rfl rfl (by repeat(first|exact X5 _ _ _ _ _ _ _|refine Qf ?_)) Q1 Q1).mono ?_;rintro e w' ⟨rfl,rfl⟩;go_wp2_with fail
 refine(Qp (t:=true) [4] 4 X4 rfl rfl (by repeat(first|exact X5 _ _ _ _ _ _ _|refine Qf ?_)) Q1 Q1).mono ?_;rintro e w' ⟨rfl,rfl⟩;go_wp2_with fail
 refine(Qp (t:=true) [3,4] 4 X4 rfl rfl (by repeat(first|exact X5 _ _ _ _ _ _ _|refine Qf ?_)) Q1 Q1).mono ?_;rintro e w' ⟨rfl,rfl⟩;go_wp2_with fail
 refine(Qp (t:=true) [4] 4 X4 rfl rfl (by repeat(first|exact X5 _ _ _ _ _ _ _|refine Qf ?_)) Q1 Q1).mono ?_;rintro e w' ⟨rfl,rfl⟩;go_wp2_with fail
 go_ret;exact⟨rfl,(by repeat(first|exact Below.refl _ _|(refine Below.alloc ?_ Zk _)))⟩
theorem Q0h(hn0:(n != 0)=false)(hb0:nb=0)(hs1:0<nn)(hp0:np=0)(hne:¬nn=np):
  Calls Tryz.prog 142 #[.agg #[.int .i64 4,.int .i64 n,.slice Ab nb cb,.slice An nn cn,.slice Ap np cp]] w fun e w'=>e=.returned (.int .i64 6)/\Below w.heap.size w w':=by
 have hmf:=Z2;subst hb0;have hs1':(0:Int)<(nn:Int):=by omega
 subst hp0;have hne':((nn:Int) != (0:Int))=true:=by rw[bne_iff_ne];omega
 clear hne;go_enter Tryz.func142,Tryz.ntmps142;go_wp2_with fail
 refine(Qp (t:=true) [1,2,3,4] 4 X4 rfl rfl (by repeat(first|exact X5 _ _ _ _ _ _ _|refine Qf ?_)) Q1 Q1).mono ?_;rintro e w' ⟨rfl,rfl⟩;go_wp2_with fail
 refine(Qp (t:=true) [4] 4 X4 rfl rfl (by repeat(first|exact X5 _ _ _ _ _ _ _|refine Qf ?_)) Q1 Q1).mono ?_;rintro e w' ⟨rfl,rfl⟩;go_wp2_with fail
 refine(Qp (t:=true) [4] 4 X4 rfl rfl (by repeat(first|exact X5 _ _ _ _ _ _ _|refine Qf ?_)) Q1 Q1).mono ?_;rintro e w' ⟨rfl,rfl⟩;go_wp2_with fail
 go_ret;exact⟨rfl,(by repeat(first|exact Below.refl _ _|(refine Below.alloc ?_ Zk _)))⟩
theorem Q0m(hn0:(n != 0)=false)(hb0:nb=0)(hs0:nn=0)(hp1:0<np)(hne:¬nn=np):
  Calls Tryz.prog 142 #[.agg #[.int .i64 4,.int .i64 n,.slice Ab nb cb,.slice An nn cn,.slice Ap np cp]] w fun e w'=>e=.returned (.int .i64 6)/\Below w.heap.size w w':=by
 have hmf:=Z2;subst hb0;subst hs0;have hp1':(0:Int)<(np:Int):=by omega
 have hne':((0:Int) != (np:Int))=true:=by rw[bne_iff_ne];omega
 clear hne;go_enter Tryz.func142,Tryz.ntmps142;go_wp2_with fail
 refine(Qp (t:=true) [1,2,3,4] 4 X4 rfl rfl (by repeat(first|exact X5 _ _ _ _ _ _ _|refine Qf ?_)) Q1 Q1).mono ?_;rintro e w' ⟨rfl,rfl⟩;go_wp2_with fail
 refine(Qp (t:=true) [3,4] 4 X4 rfl rfl (by repeat(first|exact X5 _ _ _ _ _ _ _|refine Qf ?_)) Q1 Q1).mono ?_;rintro e w' ⟨rfl,rfl⟩;go_wp2_with fail
 refine(Qp (t:=true) [4] 4 X4 rfl rfl (by repeat(first|exact X5 _ _ _ _ _ _ _|refine Qf ?_)) Q1 Q1).mono ?_;rintro e w' ⟨rfl,rfl⟩;go_wp2_with fail
 go_ret;exact⟨rfl,(by repeat(first|exact Below.refl _ _|(refine Below.alloc ?_ Zk _)))⟩
end
end Go.Proofs.YtphkhfdmlcnoeaaGreatDoor
