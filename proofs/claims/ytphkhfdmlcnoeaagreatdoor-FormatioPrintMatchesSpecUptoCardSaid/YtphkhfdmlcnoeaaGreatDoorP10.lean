import Derived.Test.YtphkhfdmlcnoeaaGreatDoorP9
namespace Go.Proofs.YtphkhfdmlcnoeaaGreatDoor
set_option linter.unusedVariables false
set_option linter.unusedSimpArgs false
set_option maxRecDepth 1000000
set_option maxHeartbeats 32000000
open Go.RowKit
section
variable {F:List Rl}{c' i k n q':Nat}{r:Rl}{t:List Int}{x:Int}
structure ROk(n:Nat)(r:Rl):Prop where
 kind:1<=r.kind/\r.kind<=10
 formed:Xd r.kind r.size r.big r.mn r.mx r.stop r.count r.elem r.bs.length r.names.length r.parts.length=true
 bs1:r.kind=1->0<r.bs.length
 bs16:r.bs.length<=16
 seven:r.kind=7->r.names.length=r.parts.length/\1<=r.parts.length
 eight:r.kind=8->2<=r.parts.length
 p12:r.parts.length<=12
 parts:(r.kind=7\/r.kind=8)->∀x∈r.parts,0<=x/\x<n
 count:(r.kind=6\/r.kind=10)->0<=r.count/\r.count<n
 elem:(r.kind=6\/r.kind=9)->0<=r.elem/\r.elem<n
 num:r.kind=2->1<=r.size/\r.size<=4/\0<=r.mn/\r.mn<=r.mx/\r.mx<256 ^ r.size.toNat
 dec:r.kind=3->0<=r.mx/\r.mx<=999999999/\¬(48<=r.stop/\r.stop<=57)
 stop:(r.kind=3\/r.kind=5\/r.kind=9)->0<=r.stop/\r.stop<=255
 size4:r.kind=4->1<=r.size/\r.size<=1000
 size5:r.kind=5->0<=r.size/\r.size<=1000
theorem QX{n a b:Int}:inB n a b=true↔a<=n/\n<=b:=by unfold inB;simp
theorem QtB{early:List Rl}(h:Xs r early n=0):ROk n r:=by
 unfold Xs at h;split at h
 ·cases h
 split at h
 ·cases h
 split at h
 ·cases h
 next h3=>
 split at h
 ·cases h
 next h4=>
 split at h
 ·cases h
 next h5=>
 split at h
 ·cases h
 next h6=>
 split at h
 ·cases h
 next h7=>
 split at h
 ·cases h
 next h8=>
 split at h
 ·cases h
 next h9=>
 split at h
 ·cases h
 next h10=>
 split at h
 ·cases h
 next h11=>
 have hk:1<=r.kind/\r.kind<=10:=QX.1 (by simpa using h3);have hf:Xd r.kind r.size r.big r.mn r.mx r.stop r.count r.elem r.bs.length r.names.length r.parts.length=true:=by simpa using h4
 have hr:QH r.kind r.size r.mn r.mx r.stop r.count r.elem r.parts n=true:=by simpa using h11
 clear h h3 h4 h11;simp only[Bool.and_eq_true,beq_iff_eq,bne_iff_ne,decide_eq_true_eq,not_and,ne_eq,Decidable.not_not] at h5 h6 h7 h8 h9 h10;refine⟨hk,hf,fun h=>?_,by omega,fun h=>⟨?_,?_⟩,fun h=>?_,by omega,?_,?_,?_,?_,?_,?_,?_,?_⟩
 ·have:=h5 h;omega
 ·have:=h7 h;omega
 ·have:=h8 h;omega
 ·have:=h9 h;omega
 ·rintro(h|h) x hx<;>
  ·rw[QH,if_neg Q3,if_neg Q3,if_neg Q3,if_neg Q3,if_neg Q3,if_neg Q3,if_neg Q3] at hr
   have h2:r.parts.any (fun x=>!(inB x 0 ((n:Int) - 1)))=false:=by simpa using hr
   have:=List.any_eq_false.1 h2 x hx;have:=QX.1 (by simpa using this);omega
 ·rintro(h|h)
  ·rw[QH,if_neg Q3,if_neg Q3,if_neg Q3,if_neg Q3,if_neg Q3,if_pos h,Bool.and_eq_true,QX,QX] at hr
   omega
  ·rw[QH,if_neg Q3,if_neg Q3,if_neg Q3,if_neg Q3,if_neg Q3,if_neg Q3,if_pos h,QX] at hr
   omega
 ·rintro(h|h)
  ·rw[QH,if_neg Q3,if_neg Q3,if_neg Q3,if_neg Q3,if_neg Q3,if_pos h,Bool.and_eq_true,QX,QX] at hr
   omega
  ·rw[QH,if_neg Q3,if_neg Q3,if_neg Q3,if_neg Q3,if_pos h,Bool.and_eq_true,QX,QX] at hr
   omega
 ·intro h;rw[QH,if_pos h,Bool.and_eq_true,Bool.and_eq_true,QX,QX,decide_eq_true_eq] at hr;exact⟨hr.1.1,hr.1.2,hr.2.1.1,hr.2.1.2,hr.2.2⟩
 ·intro h;rw[QH,if_neg Q3,if_pos h,Bool.and_eq_true,Bool.and_eq_true,QX,QX] at hr;refine⟨hr.1.1,hr.1.2,fun h'=>?_⟩;have:=hr.2.2;rw[QX.2 h'] at this
  cases this
 ·rintro(h|h|h)
  ·rw[QH,if_neg Q3,if_pos h,Bool.and_eq_true,Bool.and_eq_true,QX,QX] at hr;exact hr.2.1
  ·rw[QH,if_neg Q3,if_neg Q3,if_neg Q3,if_pos h,Bool.and_eq_true,QX,QX] at hr;exact hr.2
  ·rw[QH,if_neg Q3,if_neg Q3,if_neg Q3,if_neg Q3,if_pos h,Bool.and_eq_true,QX,QX] at hr;exact hr.1
 ·intro h;rw[QH,if_neg Q3,if_neg Q3,if_pos h,QX] at hr;exact hr
 ·intro h;rw[QH,if_neg Q3,if_neg Q3,if_neg Q3,if_pos h,Bool.and_eq_true,QX,QX] at hr;exact hr.1
def FOk(F:List Rl):Prop:=∀(i:Nat) (r:Rl),F[i]? =some r->ROk F.length r
def bl(r:Rl):List Int:=XO r.kind r.count r.elem r.parts
theorem Q9j(h:ROk n r):∀x∈bl r,0<=x/\x<n:=by
 intro x hx;unfold bl XO at hx;split at hx
 ·next hk=>rw[List.mem_singleton] at hx;subst hx;exact h.count hk
 split at hx
 ·next hk=>exact h.parts (.inl hk) x (List.mem_of_mem_take hx)
 split at hx
 ·next hk=>exact h.parts (.inr hk) x hx
 split at hx
 ·next hk=>rw[List.mem_singleton] at hx;subst hx;exact h.elem (.inr hk)
 ·cases hx
theorem Q7M(h:ROk n r):(bl r).length<=12:=by
 unfold bl XO;split
 ·simp
 split
 ·have:=h.p12;rw[List.length_take]
  omega
 split
 ·exact h.p12
 split
 ·simp
 ·simp
theorem Q4Z(h:F[i]? =some r):bg F i=(bl r).map Int.toNat:=by unfold bg;rw[h];rfl
theorem FOk.bd(h:FOk F):Bd F:=by
 intro i x hx;cases hr:F[i]? with
 |none=>unfold bg at hx;rw[hr] at hx;cases hx
 |some r=>
  rw[Q4Z hr,List.mem_map] at hx;obtain⟨y,hy,rfl⟩:=hx;have:=Q9j (h i r hr) y hy;omega
def XN(l:List Bool):List Value:=l.map .bool
theorem Y7{l:List Bool}(h:i<l.length):(XN l)[i]? =some (.bool (l.getD i false)):=by
 unfold XN;rw[List.getElem?_map,List.getElem?_eq_getElem h,List.getD_eq_getElem?_getD,List.getElem?_eq_getElem h];rfl
theorem Q17(l:List Bool)(i:Nat)(b:Bool):(XN l).set i (.bool b)=XN (l.set i b):=by
 unfold XN;rw[List.map_set]
theorem QgP(n:Nat):(Go.madeCells #[.bool false] (n*1)).toList=XN (List.replicate n false):=by
 refine List.ext_getElem? fun i=>?_;unfold XN Go.madeCells;rw[List.getElem?_map];by_cases h:i<n
 ·simp [h,Nat.mod_one]
 ·simp [h]
def Q1u(F:List Rl)(k:Nat):Bool:=(ZE F k).getD k false
theorem Q2M(hb:Bd F)(hk:k<F.length):Q1u F k=true↔Rch F k k:=Q6V hb hk k
structure Cy where
 seen:List Bool
 qs:List Int
 b:Nat
 q:Nat
 c:Nat
 cur:List Value
def Vl(s:Cy)(n:Nat):Nat:=cnt (fun i=>!(s.seen.getD i false)) n
structure CyP(F:List Rl)(k:Nat)(s:Cy):Prop where
 len:s.seen.length=F.length
 win:Q5L s.q s.qs.length s.c s.cur (iv s.qs)
 inn:∀x∈s.qs,0<=x/\x<F.length
 sound:∀x∈s.qs,Rch F k x.toNat
 start:∀x∈bg F k,s.seen.getD x false=true\/(x:Int)∈s.qs
 closed:∀i,s.seen.getD i false=true->∀x∈bg F i,s.seen.getD x false=true\/(x:Int)∈s.qs
 notk:s.seen.getD k false=false
 small:13*Vl s F.length+s.qs.length<=13*F.length+12
theorem CyP.old{s:Cy}(h:CyP F k s)(hq:s.qs=x::t)(hx:s.seen.getD x.toNat false=true)(hxn:0<=x)(hw:Q5L q' t.length c' s.cur (iv t)):CyP F k { s with qs:=t,q:=q',c:=c' }:=by
 have hmem:∀y:Nat,(y:Int)∈s.qs->s.seen.getD y false=true\/(y:Int)∈t:=by
  intro y hy;rw[hq] at hy;rcases List.mem_cons.1 hy with e|e
  ·left;rw[<- e] at hx;simpa using hx
  ·exact .inr e
 refine⟨h.len,hw,fun y hy=>h.inn y (by rw[hq];exact List.mem_cons_of_mem _ hy),fun y hy=>h.sound y (by rw[hq];exact List.mem_cons_of_mem _ hy),?_,?_,h.notk,?_⟩
 ·intro y hy
  rcases h.start y hy with h1|h1
  ·exact .inl h1
  ·exact hmem y h1
 ·intro i hi y hy
  rcases h.closed i hi y hy with h1|h1
  ·exact .inl h1
  ·exact hmem y h1
 ·have h1:=h.small;rw[hq] at h1
  simp only[List.length_cons] at h1;show 13*Vl s F.length+t.length<=_;omega
theorem CyP.new(hF:FOk F){s:Cy}(h:CyP F k s)(hq:s.qs=x::t)(hr:F[x.toNat]? =some r)(hx:s.seen.getD x.toNat false=false)(hne:x≠(k:Int)){b':Nat}{cur':List Value}(hw:Q5L q' (t++bl r).length c' cur' (iv (t++bl r))):
  CyP F k { seen:=s.seen.set x.toNat true,qs:=t++bl r,b:=b',q:=q',c:=c',cur:=cur' }/\13*Vl { seen:=s.seen.set x.toNat true,qs:=t++bl r,b:=b',q:=q',c:=c',cur:=cur' } F.length+(t++bl r).length<13*Vl s F.length+s.qs.length:=by
 have hxi:=h.inn x (by rw[hq];exact List.mem_cons_self);have hxl:x.toNat<s.seen.length:=by rw[h.len];omega
 have hset:∀i,(s.seen.set x.toNat true).getD i false=if i=x.toNat then true else s.seen.getD i false:=fun i=>XE _ _ _ _ hxl;have hbl:=Q7M (hF _ _ hr);have hlt:Vl { seen:=s.seen.set x.toNat true,qs:=t++bl r,b:=b',q:=q',c:=c',cur:=cur' } F.length<Vl s F.length:=by
  refine QaE F.length (fun i hi hh=>?_) ⟨x.toNat,by omega,?_,?_⟩
  ·show (!(s.seen.getD i false))=true
   have hh':(!((s.seen.set x.toNat true).getD i false))=true:=hh;rw[hset] at hh';split at hh'
   ·cases hh'
   ·exact hh'
  ·show (!((s.seen.set x.toNat true).getD x.toNat false))=false
   rw[hset,if_pos rfl];rfl
  ·show (!(s.seen.getD x.toNat false))=true
   rw[hx];rfl
 have hm:13*Vl { seen:=s.seen.set x.toNat true,qs:=t++bl r,b:=b',q:=q',c:=c',cur:=cur' } F.length+(t++bl r).length<13*Vl s F.length+s.qs.length:=by
  rw[hq,List.length_append,List.length_cons];omega
 refine⟨⟨by simp [h.len],hw,?_,?_,?_,?_,?_,?_⟩,hm⟩
 ·intro y hy
  rcases List.mem_append.1 hy with e|e
  ·exact h.inn y (by rw[hq];exact List.mem_cons_of_mem _ e)
  ·exact Q9j (hF _ _ hr) y e
 ·intro y hy
  rcases List.mem_append.1 hy with e|e
  ·exact h.sound y (by rw[hq];exact List.mem_cons_of_mem _ e)
  ·refine .more (h.sound x (by rw[hq];exact List.mem_cons_self)) ?_;rw[Q4Z hr];exact List.mem_map_of_mem e
 ·intro y hy;rw[hset]
  split
  ·exact .inl rfl
  ·next hyx=>
   rcases h.start y hy with h1|h1
   ·exact .inl h1
   ·rw[hq] at h1
    rcases List.mem_cons.1 h1 with e|e
    ·exact absurd Q3 hyx
    ·exact .inr (List.mem_append_left _ e)
 ·intro i hi y hy;rw[hset] at hi ⊢
  split
  ·exact .inl rfl
  ·next hyx=>
   split at hi
   ·next hix=>
    subst hix;right;rw[Q4Z hr,List.mem_map] at hy;obtain⟨z,hz,rfl⟩:=hy;have:=Q9j (hF _ _ hr) z hz;rw[show ((z.toNat:Nat):Int)=z by omega];exact List.mem_append_right _ hz
   ·rcases h.closed i hi y hy with h1|h1
    ·exact .inl h1
    ·rw[hq] at h1
     rcases List.mem_cons.1 h1 with e|e
     ·exact absurd Q3 hyx
     ·exact .inr (List.mem_append_left _ e)
 ·rw[hset,if_neg Q3];exact h.notk
 ·have:=h.small
  show 13*Vl _ F.length+(t++bl r).length<=_;omega
theorem CyP.done(hF:FOk F)(hk:k<F.length){s:Cy}(h:CyP F k s)(hq:s.qs=[]):Q1u F k=false:=by
 cases hc:Q1u F k with
 |false=>rfl
 |true=>
  exfalso;have hr:=(Q2M hF.bd hk).1 hc;have hall:∀j,Rch F k j->s.seen.getD j false=true:=by
   intro j hj;induction hj with
   |one h'=>
    rcases h.start _ h' with h1|h1
    ·exact h1
    ·rw[hq] at h1;cases h1
   |more _ h' ih=>
    rcases h.closed _ ih _ h' with h1|h1
    ·exact h1
    ·rw[hq] at h1;cases h1
  have:=hall k hr;rw[h.notk] at this;cases this
end
section
variable {A Ab An Ap:Option Addr}{F:List Rl}{W:World}{bs c cb cn cp g gf h n:Nat}{out:List Bool}{r:Rl}{x:Int}
def Qas(F:List Rl)(x:Int):Int:=match F[x.toNat]? with|some r=>r.mn|none=>0
theorem QhB(h:F[x.toNat]? =some r):Qas F x=r.mn:=by unfold Qas;rw[h]
def mk(out:List Bool)(x:Int):Bool:=out.getD x.toNat false
def JL(F:List Rl)(out:List Bool)(r:Rl):Bool:=
 if r.kind=10 then mk out r.count
 else if r.kind=6 then mk out r.count&&(Qas F r.count==0||mk out r.elem)
 else if r.kind=7 then !(r.parts.any fun k=>!(mk out k))
 else if r.kind=8 then r.parts.any fun k=>mk out k
 else true
def Za(F:List Rl)(out:List Bool)(k:Nat):List Bool:=out.set k (out.getD k false||(match F[k]? with|some r=>JL F out r|none=>false))
def Zw(F:List Rl)(out:List Bool):List Bool:=(List.range F.length).foldl (Za F) out
def Zk(F:List Rl):List Bool:=iter (Zw F) F.length (List.replicate F.length false)
structure QeL(w:World)(g bs n:Nat)(out:List Bool):Prop where
 v:w.cell? ⟨g,0,none⟩=some (.slice (some ⟨bs,0,none⟩) n n)
 at_:∀j,j<n->w.cell? ⟨bs,0+j,none⟩=some (.bool (out.getD j false))
theorem QeL.on{w w':World}(h:QeL w g bs n out)(hb:Below w.heap.size w w'):QeL w' g bs n out:=
 ⟨(hb.cell (Q3z h.v)).trans h.v,fun j hj=>(hb.cell (Q3z (h.at_ j hj))).trans (h.at_ j hj)⟩
theorem Q7H(h:QeL W g bs n out)(hx:0<=x/\x<n):Calls Tryz.prog 152 #[.int .i64 x,.pointer (some ⟨g,0,none⟩)] W fun e w'=>e=.returned (.bool (mk out x))/\Below W.heap.size W w':=by
 have hv:=h.v;have hc:=h.at_ x.toNat Q3;clear h;go_enter Tryz.func152,Tryz.ntmps152;refine Qz (M:=[]) (W:=W) (N:=8) (E:=[(0,.int .i64 x),(1,.pointer Q6S)]) (O:=[]) ?_ mc3 QR;repeat(first|refine Q4 zM ?_|refine Q4 zA ?_|refine Q4 zC ?_|refine Q4 Qor ?_|refine Qg ?_|refine Qa ?_|refine Q6 ?_|refine QC ?_)
 exact Q5g
theorem Qus(a b:Value):(#[a]++#[b]:Array Value)=#[a,b]:=by simp
theorem Qup(a b c:Value):(#[a]++#[b,c]:Array Value)=#[a,b,c]:=by simp
theorem Q5S(h:QeL W g bs n out)(hx:0<=x/\x<n):Calls Tryz.prog 152 ([Value.int .i64 x].toArray++#[.pointer (some ⟨g,0,none⟩)]) W fun e w'=>e=.returned (.bool (mk out x))/\Below W.heap.size W w':=by
 rw[show ([Value.int .i64 x].toArray++#[.pointer (some ⟨g,0,none⟩)]:Array Value)=_ from Qus _ _];exact Q7H h hx
theorem QeV(hh:W.cell? ⟨h,0,none⟩=some (.func (.func 152) #[] #[.pointer (some ⟨g,0,none⟩)]))(ho:QeL W g bs n out)(hx:0<=x/\x<n):Calls Tryz.prog 155 #[.int .i64 x,.pointer (some ⟨h,0,none⟩)] W fun e w'=>e=.returned (.bool (!(mk out x)))/\Below W.heap.size W w':=by
 have HO:=Q2 ho;clear ho;go_enter Tryz.func155,Tryz.ntmps155;refine Qz (M:=[]) (W:=W) (N:=8) (E:=[(0,.int .i64 x),(1,.pointer (some ⟨h,0,none⟩))]) (O:=[]) ?_ mc3 QR;repeat(first|refine Q4 zM ?_|refine Q4 zA ?_|refine Q4 zC ?_|refine Q4 (VN (f:=152) rfl rfl Q1 rfl rfl rfl (fun w hw=>Q5S (HO.out.on hw.k.below) hx)) ?_|refine Qg ?_|refine Qa ?_|refine Q6 ?_|refine QC ?_|refine Q4 zO ?_)
 exact Q5g
theorem Qbq:Q3q 152:=fun args W=>by kernel_rfl
theorem Qbd:Q3q 155:=fun args W=>by kernel_rfl
structure Qdt(w:World)(h g bs n:Nat)(out:List Bool)(gf:Nat)(A:Option Addr)(c:Nat):Prop where
 o:QeL w g bs n out
 h:w.cell? ⟨h,0,none⟩=some (.func (.func 152) #[] #[.pointer (some ⟨g,0,none⟩)])
 f:w.cell? ⟨gf,0,none⟩=some (.slice A n c)
theorem Qtl(hv:Qdt W h g bs n out gf A c)(hf:QS W W.heap.size A n F)(hl:RuL W r Ab cb An cn Ap cp)(hr:ROk n r)(hk:r.kind=10):
  Calls Tryz.prog 153 #[.agg (ruC r (.slice Ab r.bs.length cb) (.slice An r.names.length cn) (.slice Ap r.parts.length cp)).toArray,.pointer (some ⟨h,0,none⟩),.pointer (some ⟨gf,0,none⟩)] W fun e w'=>e=.returned (.bool (JL F out r))/\Below W.heap.size W w':=by
 have hh:=hv.h;have hff:=hv.f;have HO:=Q2 hv.o;have HL:=Q2 hl;have HR:=Q2 hr;have hp12:=hr.p12;have hcn:=hr.count (.inr hk);clear hv hl hr;go_enter Tryz.func153,Tryz.ntmps153;refine Qz (M:=[]) (W:=W) (N:=48) (E:=Qbj) (O:=[]) ?_ XW QR;repeat(first|refine Q4 zA ?_|refine Q4 zF ?_|refine Q4 (zB 0) ?_|refine Q4 zC ?_|refine yB fun br=>?_|refine Q4 (VN (f:=152) rfl rfl Q1 rfl rfl rfl (fun w hw=>Q5S (HO.out.on hw.k.below) hcn)) ?_|refine Qg ?_|refine Qa ?_|refine Q6 ?_|refine Q9 rfl ?_|refine QC ?_|refine Qi ?_|refine Qk ?_|refine Qu ?_|refine Q4 zet ?_)
 exact Q7 mc4 rfl (.tmp rfl) (fun w hw=>⟨by rw[JL,if_pos hk],hw.k.below⟩)
theorem QuD(hv:Qdt W h g bs n out gf A c)(hf:QS W W.heap.size A n F)(hl:RuL W r Ab cb An cn Ap cp)(hr:ROk n r)(hk:r.kind=6):
  Calls Tryz.prog 153 #[.agg (ruC r (.slice Ab r.bs.length cb) (.slice An r.names.length cn) (.slice Ap r.parts.length cp)).toArray,.pointer (some ⟨h,0,none⟩),.pointer (some ⟨gf,0,none⟩)] W fun e w'=>e=.returned (.bool (JL F out r))/\Below W.heap.size W w':=by
 have hh:=hv.h;have hff:=hv.f;have HO:=Q2 hv.o;have HL:=Q2 hl;have HR:=Q2 hr;have hp12:=hr.p12;have hcn:=hr.count (.inl hk);have hen:=hr.elem (.inl hk);have hlen:=hf.1;obtain⟨b,o,rfl⟩:=hf.addr Q3;obtain⟨rc,Ac,cc,Ad,cd,Ae,ce,hrc,hrg,_⟩:=hf.rl (i:=r.count.toNat) Q3;have HM:=Q2 (QhB hrc);clear hrc hf hlen;obtain⟨B,hB⟩:∃B,JL F out r=B:=⟨_,rfl⟩;have HB:=Q2 (show (mk out r.count&&(Qas F r.count==0||mk out r.elem))=B by rw[<- hB,JL,if_neg Q3,if_pos hk]);rw[hB];clear hB;obtain⟨h1,hh1⟩:∃x,mk out r.count=x:=⟨_,rfl⟩;obtain⟨h3,hh3⟩:∃x,mk out r.elem=x:=⟨_,rfl⟩;have H1:=Q2 hh1;have H3:=Q2 hh3;clear hh1 hh3;clear hv hl hr;go_enter Tryz.func153,Tryz.ntmps153;refine Qz (M:=[]) (W:=W) (N:=48) (E:=Qbj) (O:=[]) ?_ XW QR;cases h1 with
 |false=>
  repeat(first|refine Q4 zM ?_|refine Q4 zA ?_|refine Q4 zF ?_|refine Q4 zS ?_|refine Q4 (zB 0) ?_|refine Q4 zC ?_|refine yB fun br=>?_|refine Q4 (VN (v:=.bool false) (f:=152) rfl rfl Q1 rfl rfl rfl QqS) ?_|refine Qg ?_|refine Qa ?_|refine Q6 ?_|refine Q9 rfl ?_|refine Q8 rfl ?_|refine QC ?_|refine Qi ?_|refine Qk ?_|refine Qu ?_|refine Q4 zet ?_|refine Q4 zef ?_|refine Q4 zN ?_)
  exact Q7 mc4 rfl (.tmp rfl) (fun w hw=>⟨by rw[<- HB.out,H1.out];rfl,hw.k.below⟩)
 |true=>
  by_cases hm:rc.mn=0
  ·skip
   repeat(first|refine Q4 zM ?_|refine Q4 zA ?_|refine Q4 zF ?_|refine Q4 zS ?_|refine Q4 (zB 0) ?_|refine Q4 zC ?_|refine Q4 (zD 0) ?_|refine Q4 zE ?_|refine yB fun br=>?_|refine Q4 QqZ ?_|refine Q4 QkU ?_|refine Q4 QkY ?_|refine Qg ?_|refine Qa ?_|refine Q6 ?_|refine Q9 rfl ?_|refine Q8 rfl ?_|refine QC ?_|refine Qi ?_|refine Qk ?_|refine Qu ?_|refine Q4 zet ?_|refine Q4 zef ?_|refine Q4 zY ?_)
   exact Q7 mc4 rfl (.tmp rfl) (fun w hw=>⟨by rw[<- HB.out,H1.out,HM.out,hm];rfl,hw.k.below⟩)
  ·skip
   repeat(first|refine Q4 zM ?_|refine Q4 zA ?_|refine Q4 zF ?_|refine Q4 (zB 0) ?_|refine Q4 zC ?_|refine Q4 (zD 0) ?_|refine Q4 zE ?_|refine yB fun br=>?_|refine Q4 QqZ ?_|refine Q4 QkU ?_|refine Q4 (VN (v:=.bool h3) (f:=152) rfl rfl Q1 rfl rfl rfl (fun w hw=>(Q5S (HO.out.on hw.k.below) hen).mono fun e w' hq=>⟨by rw[hq.1,H3.out],hq.2⟩)) ?_|refine Q4 QkY ?_|refine Qg ?_|refine Qa ?_|refine Q6 ?_|refine Q9 rfl ?_|refine Q8 rfl ?_|refine QC ?_|refine Qi ?_|refine Qk ?_|refine Qu ?_|refine Q4 zet ?_|refine Q4 zef ?_|refine Q4 zY ?_|refine Q4 zN ?_)
   exact Q7 mc4 rfl (.tmp rfl) (fun w hw=>⟨by rw[<- HB.out,H1.out,H3.out,HM.out];simp [hm],hw.k.below⟩)
theorem Quy(hv:Qdt W h g bs n out gf A c)(hf:QS W W.heap.size A n F)(hl:RuL W r Ab cb An cn Ap cp)(hr:ROk n r)(hk:r.kind=7):
  Calls Tryz.prog 153 #[.agg (ruC r (.slice Ab r.bs.length cb) (.slice An r.names.length cn) (.slice Ap r.parts.length cp)).toArray,.pointer (some ⟨h,0,none⟩),.pointer (some ⟨gf,0,none⟩)] W fun e w'=>e=.returned (.bool (JL F out r))/\Below W.heap.size W w':=by
 have hh:=hv.h;have hff:=hv.f;have HO:=Q2 hv.o;have HL:=Q2 hl;have HR:=Q2 hr;have hp12:=hr.p12;have HP:=Q2 (hr.parts (.inl hk));clear hv hl hr;go_enter Tryz.func153,Tryz.ntmps153;refine Qz (M:=[]) (W:=W) (N:=48) (E:=Qbj) (O:=[]) ?_ XW QR;repeat(first|refine Q4 zA ?_|refine Q4 zF ?_|refine Q4 (zB 0) ?_|refine Q4 zC ?_|refine yB fun br=>?_|refine Q4 (Ql (f:=154) rfl rfl Q1 rfl rfl (fun w hw=>Zs (p:=fun k=>!(mk out k)) (HL.out.on hw.k.below).p Q3 (fun x y hx=>QeV (y.b.cell (Q3z (hw.k.below.cell (Q3z hh) |>.trans hh)) |>.trans (hw.k.below.cell (Q3z hh) |>.trans hh)) ((HO.out.on hw.k.below).on y.b) (HP.out x hx)) Qbd)) ?_|refine Qg ?_|refine Qa ?_|refine Q6 ?_|refine Q9 rfl ?_|refine Q8 rfl ?_|refine QC ?_|refine Qi ?_|refine Qk ?_|refine Qu ?_|refine Q4 zet ?_|refine Q4 zef ?_|refine Q4 zO ?_|refine Q4 zu ?_)
 exact Q7 mc4 rfl (.tmp rfl) (fun w hw=>⟨by rw[JL,if_neg Q3,if_neg Q3,if_pos hk],hw.k.below⟩)
theorem Qvf(hv:Qdt W h g bs n out gf A c)(hf:QS W W.heap.size A n F)(hl:RuL W r Ab cb An cn Ap cp)(hr:ROk n r)(hk:r.kind=8):
  Calls Tryz.prog 153 #[.agg (ruC r (.slice Ab r.bs.length cb) (.slice An r.names.length cn) (.slice Ap r.parts.length cp)).toArray,.pointer (some ⟨h,0,none⟩),.pointer (some ⟨gf,0,none⟩)] W fun e w'=>e=.returned (.bool (JL F out r))/\Below W.heap.size W w':=by
 have hh:=hv.h;have hff:=hv.f;have HO:=Q2 hv.o;have HL:=Q2 hl;have HR:=Q2 hr;have hp12:=hr.p12;have HP:=Q2 (hr.parts (.inr hk));clear hv hl hr;go_enter Tryz.func153,Tryz.ntmps153;refine Qz (M:=[]) (W:=W) (N:=48) (E:=Qbj) (O:=[]) ?_ XW QR;repeat(first|refine Q4 zA ?_|refine Q4 zF ?_|refine Q4 (zB 0) ?_|refine Q4 zC ?_|refine yB fun br=>?_|refine Q4 (Ql (f:=154) rfl rfl Q1 rfl rfl (fun w hw=>Zs (p:=fun k=>mk out k) (HL.out.on hw.k.below).p Q3 (fun x y hx=>Q7H ((HO.out.on hw.k.below).on y.b) (HP.out x hx)) Qbq)) ?_|refine Qg ?_|refine Qa ?_|refine Q6 ?_|refine Q9 rfl ?_|refine Q8 rfl ?_|refine QC ?_|refine Qi ?_|refine Qk ?_|refine Qu ?_|refine Q4 zet ?_|refine Q4 zef ?_)
 exact Q7 mc4 rfl (.tmp rfl) (fun w hw=>⟨by rw[JL,if_neg Q3,if_neg Q3,if_neg Q3,if_pos hk],hw.k.below⟩)
theorem Qvq(hv:Qdt W h g bs n out gf A c)(hf:QS W W.heap.size A n F)(hl:RuL W r Ab cb An cn Ap cp)(hr:ROk n r)(hk:r.kind≠10/\r.kind≠6/\r.kind≠7/\r.kind≠8):
  Calls Tryz.prog 153 #[.agg (ruC r (.slice Ab r.bs.length cb) (.slice An r.names.length cn) (.slice Ap r.parts.length cp)).toArray,.pointer (some ⟨h,0,none⟩),.pointer (some ⟨gf,0,none⟩)] W fun e w'=>e=.returned (.bool (JL F out r))/\Below W.heap.size W w':=by
 have hh:=hv.h;have hff:=hv.f;have HO:=Q2 hv.o;have HL:=Q2 hl;have HR:=Q2 hr;have hp12:=hr.p12;clear hv hl hr;go_enter Tryz.func153,Tryz.ntmps153;refine Qz (M:=[]) (W:=W) (N:=48) (E:=Qbj) (O:=[]) ?_ XW QR;repeat(first|refine Q4 zA ?_|refine Q4 zF ?_|refine Q4 (zB 0) ?_|refine Q4 zC ?_|refine yB fun br=>?_|refine Qg ?_|refine Qa ?_|refine Q6 ?_|refine Qp ?_|refine Q8 rfl ?_|refine QC ?_|refine Qi ?_|refine Q4 zef ?_)
 exact Q7 mc4 rfl (.tmp rfl) (fun w hw=>⟨by rw[JL,if_neg Q3,if_neg Q3,if_neg Q3,if_neg Q3],hw.k.below⟩)
theorem QiR(hv:Qdt W h g bs n out gf A c)(hf:QS W W.heap.size A n F)(hl:RuL W r Ab cb An cn Ap cp)(hr:ROk n r):
  Calls Tryz.prog 153 #[.agg (ruC r (.slice Ab r.bs.length cb) (.slice An r.names.length cn) (.slice Ap r.parts.length cp)).toArray,.pointer (some ⟨h,0,none⟩),.pointer (some ⟨gf,0,none⟩)] W fun e w'=>e=.returned (.bool (JL F out r))/\Below W.heap.size W w':=by
 by_cases h10:r.kind=10
 ·exact Qtl hv hf hl hr h10
 by_cases h6:r.kind=6
 ·exact QuD hv hf hl hr h6
 by_cases h7:r.kind=7
 ·exact Quy hv hf hl hr h7
 by_cases h8:r.kind=8
 ·exact Qvf hv hf hl hr h8
 exact Qvq hv hf hl hr ⟨h10,h6,h7,h8⟩
end
section
variable {A:Option Addr}{F:List Rl}{M:List Nat}{O:List Qf}{W:World}{bs c g gf h n:Nat}{out:List Bool}
theorem Qm.rfl_:Qm M W O O:=fun _ h=>h
theorem JJ{P:Program}{Q:Exit->Act->World->Prop}{N:Nat}{E:Env}(T:List Nat){id:Nat}{l:List Oper}(hm:P.follows .mixedOrders=true)(h:dE P l.toArray Q N M W O T l.length (Array.replicate l.length false) E O):sE P Q N M W E O (.region id l.toArray true):=Xk O T hm h
theorem Qdv(F:List Rl)(out:List Bool)(k:Nat):(Za F out k).length=out.length:=by unfold Za;rw[List.length_set]
theorem Q0y(F:List Rl):∀(l:List Nat) (out:List Bool),(l.foldl (Za F) out).length=out.length
 |[],_=>rfl
 |k::l,out=>by rw[List.foldl_cons,Q0y F l,Qdv]
theorem QdC(F:List Rl)(out:List Bool)(k:Nat):(List.range (k+1)).foldl (Za F) out=Za F ((List.range k).foldl (Za F) out) k:=by
 rw[List.range_succ,List.foldl_append];rfl
def QuQ(W:World)(l:List Bool)(e:Ending)(w':World):Prop:=∃b,e=.returned (.slice (some ⟨b,0,none⟩) l.length l.length)/\W.heap.size<=b/\Rd w' w'.heap.size 1 (some ⟨b,0,none⟩) l.length (XN l)/\Below W.heap.size W w'
theorem Qq6{w:World}(i1 i2 i3 i4:Nat)(hl:out.length=n)
  (h1:O[i1]? =some (.blk h (.cells [.func (.func 152) #[] #[.pointer (some ⟨g,0,none⟩)]].toArray 104 (0,0))))
  (h2:O[i2]? =some (.blk g (.cells [.slice (some ⟨bs,0,none⟩) n n].toArray 66 (0,0))))
  (h3:O[i3]? =some (.row (some ⟨bs,0,none⟩) n n 4 1 (XN out)))
  (h4:O[i4]? =some (.blk gf (.cells [.slice A n c].toArray 24 (0,0)))) (hw:Wd M W O w):Qdt w h g bs n out gf A c:=
 ⟨⟨hw.cell_blkL i2 h2 rfl,fun j hj=>by rw[Nat.zero_add];exact hw.cell_row i3 h3 (Y7 Q3)⟩,hw.cell_blkL i1 h1 rfl,hw.cell_blkL i4 h4 rfl⟩
theorem Qps{r:Rl}{Ab An Ap:Option Addr}{cb cn cp:Nat}(hv:Qdt W h g bs n out gf A c)(hf:QS W W.heap.size A n F)(hl:RuL W r Ab cb An cn Ap cp)(hr:ROk n r):
  Calls Tryz.prog 153 ([Value.agg (ruC r (.slice Ab r.bs.length cb) (.slice An r.names.length cn) (.slice Ap r.parts.length cp)).toArray].toArray++#[.pointer (some ⟨h,0,none⟩),.pointer (some ⟨gf,0,none⟩)]) W fun e w'=>e=.returned (.bool (JL F out r))/\Below W.heap.size W w':=by
 rw[show ([Value.agg (ruC r (.slice Ab r.bs.length cb) (.slice An r.names.length cn) (.slice Ap r.parts.length cp)).toArray].toArray++#[.pointer (some ⟨h,0,none⟩),.pointer (some ⟨gf,0,none⟩)]:Array Value)=_ from Qup _ _ _];exact QiR hv hf hl hr
abbrev fnE(bf g h n c:Nat)(A:Option Addr)(t:Nat):Env:=[(1,.pointer (some ⟨bf,0,none⟩)),(3,.pointer (some ⟨g,0,none⟩)),(5,.func (.func 153) #[] #[.pointer (some ⟨h,0,none⟩),.pointer (some ⟨bf,0,none⟩)]),(16,.int .i64 (n:Int)),(17,.int .i64 (t:Int))]
abbrev fnO(bf g h bs n c:Nat)(A:Option Addr)(out:List Bool):List Qf:=[.blk h (.cells [.func (.func 152) #[] #[.pointer (some ⟨g,0,none⟩)]].toArray 104 (0,0)),.blk g (.cells [.slice (some ⟨bs,0,none⟩) n n].toArray 66 (0,0)),.row (some ⟨bs,0,none⟩) n n 4 1 (XN out),.blk bf (.cells [.slice A n c].toArray 24 (0,0))]
theorem QaY(hf:QS W W.heap.size A n F)(hF:FOk F)(hn:n<=40)(hn0:0<n):
  Calls Tryz.prog 119 #[.agg #[.slice A n c]] W (QuQ W (Zk F)):=by
 have hlen:F.length=n:=hf.1;obtain⟨b,o,rfl⟩:=hf.addr hn0;have HFM:=Q2 hf;have HF:=Q2 hF;have HLEN:=Q2 hlen;clear hf hF hlen;go_enter Tryz.func119,Tryz.ntmps119;refine Qz (M:=[]) (W:=W) (N:=42) (E:=[(0,.agg #[.slice (some ⟨b,o,none⟩) n c])]) (O:=[]) ?_ Zl (Wd.start [] W);repeat(first|refine Q4 Kd ?_|refine Q4 Q0p ?_|refine Q4 Q5b ?_|refine Q4 (Xz rfl rfl Q1 rfl rfl (by first|exact fun w hw=>hw.cell_blkL 0 rfl rfl|exact fun w hw=>hw.cell_blkL 3 rfl rfl)) ?_|refine Qd YT rfl Q1 (fun bf _=>?_)|refine Qd Ql5 rfl Q1 (fun bs _=>?_)|refine Qd (Q1b (t:=66) rfl rfl) rfl Q1 (fun g0 _=>?_)|refine Qd (Q1b (t:=104) rfl rfl) rfl Q1 (fun g1 _=>?_)|refine QD Qjz rfl (fun _ _=>?_)|refine Qg ?_|refine Qa ?_|refine Q6 ?_|refine Qi ?_|refine Q4 Qnh ?_|refine Q4 Qsh ?_)
 refine QK (ι:=Nat) (fun t=>t<=n) (fun t=>n - t) (fun t=>fnE bf g0 g1 n c (some ⟨b,o,none⟩) t) (fun t=>fnO bf g0 g1 bs n c (some ⟨b,o,none⟩) (iter (Zw F) t (List.replicate n false))) 0 [0,1,2,3] Q1 Z4 Vg (by show [_,_,Qf.row _ _ _ _ _ _,_]=_;rw[QgP];rfl) ?_;rintro t ht;have hL0:(iter (Zw F) t (List.replicate n false)).length=n:=by
  have:∀t,(iter (Zw F) t (List.replicate n false)).length=n:=by
   intro t;induction t with
   |zero=>exact List.length_replicate
   |succ t ih=>exact(Q0y F _ _).trans ih
  exact this t
 have HL0:=Q2 hL0;clear hL0;by_cases hlt:t<n
 ·skip
  repeat(first|refine Q4 Kd ?_|refine Q4 Q5b ?_|refine Q4 (Xz rfl rfl Q1 rfl rfl (by exact fun w hw=>hw.cell_blkL 3 rfl rfl)) ?_|refine Qg ?_|refine Qa ?_|refine Q6 ?_|refine Qp ?_|refine Q9 rfl ?_|refine Qi ?_|refine Q4 Qnh ?_|refine Q4 QfY ?_)
  refine QK (ι:=Nat) (fun k=>k<=n) (fun k=>n - k) (fun k=>(20,.slice (some ⟨b,o,none⟩) n c)::(21,.int .i64 (n:Int))::(22,.int .i64 (k:Int))::fnE bf g0 g1 n c (some ⟨b,o,none⟩) t) (fun k=>fnO bf g0 g1 bs n c (some ⟨b,o,none⟩) ((List.range k).foldl (Za F) (iter (Zw F) t (List.replicate n false)))) 0 [0,1,2,3] Q1 Z4 (.cons rfl rfl KW) rfl ?_;rintro k hk;by_cases hkn:k<n
  ·obtain⟨rk,Ab,cb,An,cn,Ap,cp,hrk,hrg,hlk⟩:=HFM.out.rl hkn
   have HRK:=Q2 hrk;have HLK:=Q2 hlk;have HOK:=Q2 (show ROk n rk by have:=HF.out k rk hrk;rwa [HLEN.out] at this);obtain⟨out,hout⟩:∃out,(List.range k).foldl (Za F) (iter (Zw F) t (List.replicate n false))=out:=⟨_,rfl⟩;have hol:out.length=n:=by rw[<- hout,Q0y,HL0.out]
   have HOUT:=Q2 hout;show sE _ _ _ _ _ _ (fnO bf g0 g1 bs n c (some ⟨b,o,none⟩) ((List.range k).foldl (Za F) (iter (Zw F) t (List.replicate n false)))) _;rw[hout];clear hout hrk hlk;obtain⟨ok,hok⟩:∃x,out.getD k false=x:=⟨_,rfl⟩;have hcell:(XN out)[0+k]? =some (.bool ok):=by rw[Nat.zero_add,Y7 Q3,hok]
   have HK:=Q2 hok;clear hok;cases ok with
   |true=>
    repeat(first|refine Q4 Kd ?_|refine Q4 Q0p ?_|refine Q4 Qmj ?_|refine Q4 Qol ?_|refine Qd QnI rfl Q1 (fun b7 _=>?_)|(refine QD Q3V rfl (fun _ _=>?_);rw[QO (by rfl)])|refine Qg ?_|refine Qa ?_|refine Q6 ?_|refine Qp ?_|refine Q9 rfl ?_|refine Qi ?_|refine Q4 QfY ?_)
    refine QrM ?_;refine Qc 7 rfl Q5 Xt Q7s ?_;refine Qc 8 rfl Q5 Xt Q7s ?_;refine Qc 9 rfl Q5 Xt Q7s ?_;refine Qc 10 rfl Q5 Xt QbG ?_;refine Qc 11 rfl Q5 Xt (Z5 rfl rfl Q1 rfl rfl rfl hkn) ?_;refine X6 12 Q5 rfl rfl (Z3 3 rfl rfl rfl rfl rfl rfl Q3) (fun _=>.inl Q1) rfl (fun _ _=>?_);refine X8 ?_ Q5;refine Qlk ?_
    refine Qlb ?_;show [_,_,Qf.row _ _ _ _ _ ((XN out).set (0+k) (.bool true)),_]=fnO bf g0 g1 bs n c (some ⟨b,o,none⟩) _;exact Qle
   |false=>
    repeat(first|refine Q4 Kd ?_|refine Q4 Q0p ?_|refine Q4 Qmj ?_|refine Q4 Qol ?_|refine Qd QnI rfl Q1 (fun b7 _=>?_)|(refine QD Q3V rfl (fun _ _=>?_);rw[QO (by rfl)])|refine Qg ?_|refine Qa ?_|refine Q6 ?_|refine Qp ?_|refine Q9 rfl ?_|refine Qi ?_|refine Q4 QfY ?_)
    refine QrM ?_;refine Qc 7 rfl Q5 Xt Kd ?_;refine Qc 8 rfl Q5 Xt QnB ?_;refine Qc 9 rfl Q5 Xt (VN (f:=153) rfl rfl Q1 rfl rfl rfl (fun w hw=>Qps (Qq6 1 2 3 4 hol rfl rfl rfl rfl hw) KO Qaa HOK.out)) ?_;refine Qc 10 rfl Q5 Xt Qd1 ?_;refine Qc 11 rfl Q5 Xt (Z5 rfl rfl Q1 rfl rfl rfl hkn) ?_;refine X6 12 Q5 rfl rfl (Z3 3 rfl rfl rfl rfl rfl rfl Q3) (fun _=>.inl Q1) rfl (fun _ _=>?_);refine X8 ?_ Q5;refine Qlk ?_
    refine Qlb ?_;show [_,_,Qf.row _ _ _ _ _ ((XN out).set (0+k) (.bool (JL F out rk))),_]=fnO bf g0 g1 bs n c (some ⟨b,o,none⟩) _;exact Qle
  ·skip
   repeat(first|refine Q4 Kd ?_|refine Qg ?_|refine Qa ?_|refine Q6 ?_|refine Q8 rfl ?_|refine Xx ?_|refine Q4 QbP ?_|refine Q4 QgU ?_)
   refine Qt (t+1) [0,1,2,3] Q1 hlt Q3 Yj ?_;have hkk:k=F.length:=by rw[HLEN.out];omega
   subst hkk;rfl
 ·skip
  repeat(first|refine Q4 Q0p ?_|refine Q4 (Xz rfl rfl Q1 rfl rfl (by exact fun w hw=>hw.cell_blkL 1 rfl rfl)) ?_|refine Qg ?_|refine Qa ?_|refine Q6 ?_|refine Q8 rfl ?_|refine Xx ?_|refine QC ?_|refine Q4 QrI ?_)
  have htn:t=F.length:=by rw[HLEN.out];omega
  refine Q7 mc4 rfl (.tmp rfl) (fun w hw=>?_);have hfl:iter (Zw F) t (List.replicate n false)=Zk F:=by unfold Zk;rw[htn,HLEN.out]
  have hln:(Zk F).length=n:=by rw[<- hfl];exact HL0.out
  refine⟨bs,by rw[hln],?_,⟨by rw[hln];simp [XN,hln],fun _=>⟨bs,0,rfl,?_,fun j u hu=>?_⟩⟩,hw.k.below⟩
  ·rcases Nat.lt_or_ge bs W.heap.size with h|h
   ·have:=hw.new 2 _ bs rfl rfl h
    exact Q2D
   ·exact h
  ·exact(hw.own 2 _ rfl).lt rfl
  ·rw[Nat.zero_add]
   refine hw.cell_row 2 rfl ?_;rw[hfl];exact hu
end
def QP(st:Nat->Bool):List Value:=(List.range 256).map fun j=>.bool (st j)
theorem Xj(st:Nat->Bool):(QP st).length=256:=by simp [QP]
theorem ZI(st:Nat->Bool){j:Nat}(h:j<256):(QP st)[j]? =some (.bool (st j)):=by
 simp [QP,List.getElem?_map,List.getElem?_range h]
theorem Q14(st:Nat->Bool)(j:Nat)(v:Bool):(QP st).set j (.bool v)=QP (fun i=>if i=j then v else st i):=by
 refine List.ext_getElem? fun i=>?_;rw[List.getElem?_set];by_cases hi:i<256
 ·rw[ZI _ hi,Xj]
  by_cases hj:j=i
  ·subst hj;rw[if_pos rfl,if_pos hi,ZI _ hi,if_pos rfl]
  ·rw[if_neg hj,ZI _ hi]
   have:¬i=j:=fun e=>hj e.symm;simp [this]
 ·have h1:(QP st)[i]? =none:=List.getElem?_eq_none (by rw[Xj];omega);have h2:(QP (fun i=>if i=j then v else st i))[i]? =none:=List.getElem?_eq_none (by rw[Xj];omega);rw[h1,h2,Xj]
  split
  ·rw[if_neg Q3]
  ·rfl
def Zh(st:Nat->Bool)(lo hi:Int):Nat->Bool:=fun j=>st j||decide (lo+((j:Int) - lo) % 256<=hi)
theorem ZO{s t:Nat->Bool}(h:∀j,j<256->s j=t j):QP s=QP t:=by
 unfold QP;exact List.map_congr_left fun j hj=>by rw[h j (List.mem_range.1 hj)]
theorem QiM(st:Nat->Bool)(lo c:Int)(h:lo<=c)(h0:0<=lo):(QP (Zh st lo (c - 1))).set (c % 256).toNat (.bool true)=QP (Zh st lo c):=by
 rw[Q14];refine ZO fun j hj=>?_;unfold Zh;by_cases he:j=(c % 256).toNat
 ·rw[if_pos he,decide_eq_true Q3,Bool.or_true]
 ·rw[if_neg he]
  congr 1;rw[decide_eq_decide];omega
theorem Qi6(st:Nat->Bool)(lo:Int):QP (Zh st lo (lo - 1))=QP st:=
 ZO fun j hj=>by
  unfold Zh;rw[decide_eq_false Q3,Bool.or_false]
theorem Qn2(st:Nat->Bool)(lo hi:Int)(h:hi<lo):QP (Zh st lo (lo - 1))=QP (Zh st lo hi):=
 ZO fun j hj=>by
  unfold Zh;rw[decide_eq_false Q3,decide_eq_false Q3]
theorem Qud(c:Int)(h:0<=c)(w:World):(Op.intDiv .rem .i64 c 256).run Tryz.prog w=.ok (.int .i64 (((c % 256).toNat:Nat):Int)) w:=by
 have e:(((c % 256).toNat:Nat):Int)=c % 256:=by omega
 rw[e];simp [Op.intDiv,go_sem];exact IntWalk.rem_in c 256 h
theorem Qft{st:Nat->Bool}{b:Nat}{lo hi:Int}{W:World}(hb:W.heap[b]? =some (.cells (QP st).toArray 92 (0,0)))(h0:0<=lo)(h1:hi<=1099511627776)(h2:lo<=1099511627776):
  Calls Tryz.prog 141 #[.int .i64 lo,.int .i64 hi,.pointer (some ⟨b,0,none⟩)] W fun e w'=>e=.returned (.tuple #[])/\w'.heap[b]? =some (.cells (QP (Zh st lo hi)).toArray 92 (0,0))/\XM [b] W w':=by
 go_enter Tryz.func141,Tryz.ntmps141;refine Qz (M:=[b]) (W:=W) (N:=15) (E:=[(0,.int .i64 lo),(1,.int .i64 hi),(2,.pointer Q0v)]) (O:=[.blk b (.cells (QP st).toArray 92 (0,0))]) ?_ XW ((Wd.start [b] W).add hb (fun b' h _=>by cases h;exact List.mem_singleton.2 rfl) (fun i x b' h=>by cases h));repeat(first|refine Qg ?_|refine Qa ?_|refine Q6 ?_|refine Qi ?_|refine Q4 zM ?_|refine Q4 zA ?_)
 refine QK (ι:=Int) (fun c=>lo<=c/\(c<=hi+1\/c=lo)) (fun c=>(hi+1 - c).toNat) (fun c=>[(5,.int .i64 c),(1,.int .i64 hi),(2,.pointer Q0v)]) (fun c=>[.blk b (.cells (QP (Zh st lo (c - 1))).toArray 92 (0,0))]) lo [0] Q1 ⟨by omega,by omega⟩ Jf (by rw[Qi6];rfl) ?_;rintro c ⟨h3,h4⟩;by_cases hc:c<=hi
 ·skip
  repeat(first|(refine Q4 (Q0n (v:=.int .i64 (((c % 256).toNat:Nat):Int)) rfl rfl Q1 rfl rfl rfl (fun w=>by rw[binOp_rem];exact Qud c Q3 w)) ?_)|refine Q4 (Jc (j:=(c % 256).toNat) rfl rfl Q1 rfl rfl rfl Q3) ?_|refine QD (VI 0 rfl rfl rfl rfl rfl rfl (ZI _ (show 0+(c % 256).toNat*1<256 by omega))) rfl (fun _ _=>?_)|refine Qg ?_|refine Qa ?_|refine Q6 ?_|refine Qp ?_|refine Q9 rfl ?_|refine Qi ?_|refine Q4 zM ?_|refine Q4 zA ?_|refine Q4 (Q5j (b:=true) rfl rfl Q1 rfl rfl rfl (decide_eq_true Q3)) ?_|refine Q4 zP ?_)
  refine Qt (c+1) [0] Q1 ⟨by omega,by omega⟩ Q3 Jf ?_;show [Qf.blk b (.cells ((QP (Zh st lo (c - 1))).set (0+(c % 256).toNat*1) (.bool true)).toArray 92 (0,0))]=_;rw[Nat.zero_add,Nat.mul_one,QiM st lo c h3 h0,Int.add_sub_cancel]
 ·skip
  repeat(first|refine Qg ?_|refine Qa ?_|refine Q6 ?_|refine Q8 rfl ?_|refine Xx ?_|refine Q4B ?_|refine Q4H ?_|refine Q4 zM ?_|refine Q4 (Q5j (b:=false) rfl rfl Q1 rfl rfl rfl (decide_eq_false Q3)) ?_)
  refine Zi (.inl rfl) rfl (fun w hw=>⟨rfl,?_,hw.k⟩);have h:w.heap[b]? =some (.cells (QP (Zh st lo (c - 1))).toArray 92 (0,0)):=hw.own 0 _ rfl;rw[h];congr 3;by_cases hcl:c=hi+1
  ·rw[hcl,Int.add_sub_cancel]
  ·obtain rfl:c=lo:=by omega
   rw[Qn2 st c hi Q3]
section
variable {Ab:Option Addr}{O:List Qf}{W w:World}{a0 a10 a11 a8 a9:Value}{big:Bool}{bs:List UInt8}{cb n nb:Nat}{cs:List Value}{m mn mx size stop:Int}{st:Nat->Bool}
instance iXFsB_1:VL Tryz.prog 92 (QP (fun _=>false)):=⟨.agg (QP (fun _=>false)).toArray,by kernel_rfl,rfl⟩
theorem QmH{us:List Value}(h:us.length=cs.length):ZL cs 0 us=us:=by
 refine List.ext_getElem? fun i=>?_;rw[Q0M];split
 ·rw[Nat.sub_zero]
 ·next hn=>
  rw[List.getElem?_eq_none Q3,List.getElem?_eq_none Q3]
theorem Qkn(st:Nat->Bool):(QP st).all (·.oneCell')=true:=by
 rw[List.all_eq_true];intro v hv;simp only[QP,List.mem_map] at hv;obtain⟨j,_,rfl⟩:=hv;rfl
def noS:Nat->Bool:=fun _=>false
def Q2H(k:Int)(bs:List UInt8)(size:Int)(big:Bool)(mn mx stop:Int):Nat->Bool:=
 if k=1 then fun j=>j==(bs.headD 0).toNat
 else if k=2 then (if big then Zh noS (mn / 2 ^ (8*(size - 1)).toNat) (mx / 2 ^ (8*(size - 1)).toNat) else Zh noS mn (min mx (mn+256 - 1)))
 else if k=3 then Zh noS 48 (48+min mx 9)
 else if k=4 then Zh noS 0 255
 else if k=5 then (if 0<size then Zh noS 0 255 else fun j=>decide ((j:Int)=stop))
 else if k=9 then fun j=>decide ((j:Int)=stop)
 else noS
theorem Qqc(h:0<=m):0<=m / 2 ^ n:=Int.ediv_nonneg h (Int.pow_nonneg Q1)
theorem QnL(h:0<=m/\m<=4294967295):m / 2 ^ n<=1099511627776:=by
 have h1:m / 2 ^ n<=m:=Int.ediv_le_self _ h.1;omega
def Ju(W:World)(st:Nat->Bool)(e:Ending)(w':World):Prop:=e=.returned (.agg (QP st).toArray)/\Below W.heap.size W w'
theorem J8{st':Nat->Bool}(hc:cs.length=256)(hs:QP st'=QP st)(hw:Wd [] W O w):Ju W st (.returned (.agg (ZL cs 0 (QP st')).toArray)) w:=
 ⟨by rw[QmH (by rw[Xj,hc]),hs],hw.k.below⟩
theorem Qhv{M:List Nat}{i b:Nat}{lo hi:Int}(hO:O[i]? =some (.blk b (.cells (QP st).toArray 92 (0,0))))(h0:0<=lo)(h1:hi<=1099511627776)(h2:lo<=1099511627776)(hw:Wd M W O w):
  Calls Tryz.prog 141 (#[.int .i64 lo,.int .i64 hi]++#[.pointer (some ⟨b,0,none⟩)]) w (X7 (fun _:Unit=>.tuple #[]) (fun _=>True) M W (fun _=>O.set i (.blk b (.cells (QP (Zh st lo hi)).toArray 92 (0,0))))):=
 (Qft (hw.blk0 hO) h0 h1 h2).mono fun e w' ⟨he,hb,hk⟩=>⟨(),he,trivial,hw.keep1 hO hk hb⟩
theorem QuI(W:World)(hb:Rd W W.heap.size 1 Ab nb (bv bs))(hn:0<nb):
  Calls Tryz.prog 96 #[.agg #[a0,.int .i64 1,.slice Ab nb cb,.int .i64 size,.bool big,.int .i64 mn,.int .i64 mx,.int .i64 stop,a8,a9,a10,a11]] W (Ju W (Q2H 1 bs size big mn mx stop)):=by
 go_enter Tryz.func96,Tryz.ntmps96;refine Qz (M:=[]) (W:=W) (N:=84) (E:=[(0,.agg #[a0,.int .i64 1,.slice Ab nb cb,.int .i64 size,.bool big,.int .i64 mn,.int .i64 mx,.int .i64 stop,a8,a9,a10,a11])]) (O:=[]) ?_ Zl QR;repeat(first|refine Q4 zA ?_|refine Q4 zF ?_|refine Q4 (zB 2) ?_|refine yB fun br=>?_|refine yA fun b2=>?_|refine Qg ?_|refine Qa ?_|refine Q6 ?_|refine Q9 rfl ?_|refine Qi ?_|refine Q4 Qgf ?_|refine Q4 zu ?_)
 obtain⟨bb,ob,u,rfl,hlt,hu,hcell⟩:=hb.at_ hn;obtain⟨c,hc⟩:∃c,bs[0]? =some c:=by
  unfold bv at hu;rw[List.getElem?_map] at hu;cases e:bs[0]? with
  |none=>rw[e] at hu;cases hu
  |some c=>exact⟨c,rfl⟩
 have hu':u=.int .u8 (c.toNat:Int):=by
  unfold bv at hu;rw[List.getElem?_map,hc] at hu;exact(Option.some.inj hu).symm
 subst hu';have hhd:bs.headD 0=c:=by cases bs with|nil=>cases hc|cons x l=>simp at hc;simpa using hc
 have hlt256:c.toNat<256:=c.toNat_lt;repeat(first|refine Q4 zC ?_|refine Q4 (zi1 (j:=0) (hj:=hn)) ?_|refine Q4 (Jc (j:=c.toNat) rfl rfl Q1 rfl rfl rfl hlt256) ?_|refine QD (VI 0 rfl rfl rfl rfl rfl rfl (ZI _ (show 0+c.toNat*1<256 by omega))) rfl (fun _ _=>?_)|refine Qg ?_|refine Qa ?_|refine Q6 ?_)
 show lE _ _ _ _ _ _ _ [Qf.blk b2 (.cells ((QP (fun _=>false)).set (0+c.toNat*1) (.bool true)).toArray 92 (0,0)),_,_] _;refine QlI ?_;refine QD Q5s rfl (fun _ _=>?_);refine KQ ?_
 refine Q7 (.inr rfl) rfl KY (fun w hw=>J8 YX ?_ hw);refine ZO fun j hj=>?_;show (if j=c.toNat then true else false)=(j==(bs.headD 0).toNat);rw[hhd];by_cases h:j=c.toNat<;>simp [h]
theorem Qu7{big:Bool}(W:World)(hs:1<=size/\size<=4)(hm:0<=mn/\mn<=mx/\mx<=4294967295):
  Calls Tryz.prog 96 #[.agg #[a0,.int .i64 2,.slice Ab nb cb,.int .i64 size,.bool true,.int .i64 mn,.int .i64 mx,.int .i64 stop,a8,a9,a10,a11]] W (Ju W (Q2H 2 bs size true mn mx stop)):=by
 go_enter Tryz.func96,Tryz.ntmps96;refine Qz (M:=[]) (W:=W) (N:=84) (E:=[(0,.agg #[a0,.int .i64 2,.slice Ab nb cb,.int .i64 size,.bool true,.int .i64 mn,.int .i64 mx,.int .i64 stop,a8,a9,a10,a11])]) (O:=[]) ?_ Zl (Wd.start [] W);repeat(first|refine Q4 zM ?_|refine Q4 zA ?_|refine Q4 zF ?_|refine Q4 (zB 2) ?_|refine yB fun br=>?_|refine yA fun b2=>?_|refine Qg ?_|refine Qa ?_|refine Q6 ?_|refine Q9 rfl ?_|refine Q8 rfl ?_|refine Qi ?_|refine Q4 Qdw ?_|refine Q4 zY ?_|refine Q4 zQ ?_|refine Q4 zu ?_)
 repeat(first|refine Q4 zA ?_|refine Q4 Qi7 ?_|refine Qg ?_)
 refine Xk [.blk br (.cells [a0,.int .i64 2,.slice Ab nb cb,.int .i64 size,.bool true,.int .i64 mn,.int .i64 mx,.int .i64 stop,a8,a9,a10,a11].toArray 65 (0,0))] [] Q5 ?_;refine Qc 0 rfl Q5 Ve zM ?_;refine Qc 1 rfl Q5 Ve zF ?_;refine Qc 2 rfl Q5 Ve (zB 0) ?_;refine Qc 3 rfl Q5 Ve zM ?_;refine Qc 4 rfl Q5 Ve (Qoj rfl rfl Q1 rfl rfl rfl Q3 Q3) ?_;refine Qc 5 rfl Q5 Ve zF ?_;refine Qc 6 rfl Q5 Ve (zB 0) ?_;refine Qc 7 rfl Q5 Ve zM ?_;refine Qc 8 rfl Q5 Ve (Qoj rfl rfl Q1 rfl rfl rfl Q3 Q3) ?_;refine QL 9 Q5 rfl rfl (Qab (fun _:Unit=>.tuple #[]) (fun _=>True) (fun _=>_) rfl rfl rfl rfl (fun w hw=>Qhv (i:=0) rfl (Qqc hm.1) (QnL Q3) (QnL Q3) hw)) (fun _=>.inr Ve) rfl Q1 (fun _ _=>?_);refine X8 ?_ Q5;repeat(first|refine Q4 (zD 0) ?_|refine Qa ?_|refine Q6 ?_)
 refine QD Q5s rfl (fun _ _=>?_);refine KQ ?_
 refine Q7 (.inr rfl) rfl KY (fun w hw=>J8 (Xj _) ?_ hw);rfl
theorem Qti{big:Bool}(W:World)(hm:0<=mn/\mn<=mx/\mx<=4294967295):
  Calls Tryz.prog 96 #[.agg #[a0,.int .i64 2,.slice Ab nb cb,.int .i64 size,.bool false,.int .i64 mn,.int .i64 mx,.int .i64 stop,a8,a9,a10,a11]] W (Ju W (Q2H 2 bs size false mn mx stop)):=by
 go_enter Tryz.func96,Tryz.ntmps96;refine Qz (M:=[]) (W:=W) (N:=84) (E:=[(0,.agg #[a0,.int .i64 2,.slice Ab nb cb,.int .i64 size,.bool false,.int .i64 mn,.int .i64 mx,.int .i64 stop,a8,a9,a10,a11])]) (O:=[]) ?_ Zl QR;repeat(first|refine Q4 zM ?_|refine Q4 zA ?_|refine Q4 zF ?_|refine Q4 (zB 2) ?_|refine yB fun br=>?_|refine yA fun b2=>?_|refine Qg ?_|refine Qa ?_|refine Q6 ?_|refine Q9 rfl ?_|refine Q8 rfl ?_|refine Qi ?_|refine Q4 Qdw ?_|refine Q4 zY ?_|refine Q4 zP ?_|refine Q4 zQ ?_|refine Q4 zu ?_)
 repeat(first|refine Q4 (zD 0) ?_|refine Q4 Qt2 ?_|refine Qd QgH rfl Q1 (fun _ _=>?_)|refine Qg ?_|refine Qa ?_|refine Q6 ?_)
 refine QD Q5s rfl (fun _ _=>?_);refine KQ ?_
 refine Q7 (.inr rfl) rfl KY (fun w hw=>J8 YX ?_ hw);rfl
theorem QuE(W:World)(hm:0<=mx/\mx<=999999999):
  Calls Tryz.prog 96 #[.agg #[a0,.int .i64 3,.slice Ab nb cb,.int .i64 size,.bool big,.int .i64 mn,.int .i64 mx,.int .i64 stop,a8,a9,a10,a11]] W (Ju W (Q2H 3 bs size big mn mx stop)):=by
 go_enter Tryz.func96,Tryz.ntmps96;refine Qz (M:=[]) (W:=W) (N:=84) (E:=[(0,.agg #[a0,.int .i64 3,.slice Ab nb cb,.int .i64 size,.bool big,.int .i64 mn,.int .i64 mx,.int .i64 stop,a8,a9,a10,a11])]) (O:=[]) ?_ Zl QR;repeat(first|refine Q4 zM ?_|refine Q4 zA ?_|refine Q4 zF ?_|refine Q4 (zB 2) ?_|refine yB fun br=>?_|refine yA fun b2=>?_|refine Qg ?_|refine Qa ?_|refine Q6 ?_|refine Q9 rfl ?_|refine Q8 rfl ?_|refine Qi ?_|refine Q4 Qdw ?_|refine Q4 zN ?_|refine Q4 zu ?_|refine Q4 zS ?_)
 repeat(first|refine Q4 (zD 0) ?_|refine Q4 Qt2 ?_|refine Qd QgH rfl Q1 (fun _ _=>?_)|refine Qg ?_|refine Qa ?_|refine Q6 ?_|refine Q4 zP ?_)
 refine QD Q5s rfl (fun _ _=>?_);refine KQ ?_
 refine Q7 (.inr rfl) rfl KY (fun w hw=>J8 YX ?_ hw);rfl
theorem QuH(W:World):
  Calls Tryz.prog 96 #[.agg #[a0,.int .i64 4,.slice Ab nb cb,.int .i64 size,.bool big,.int .i64 mn,.int .i64 mx,.int .i64 stop,a8,a9,a10,a11]] W (Ju W (Q2H 4 bs size big mn mx stop)):=by
 go_enter Tryz.func96,Tryz.ntmps96;refine Qz (M:=[]) (W:=W) (N:=84) (E:=[(0,.agg #[a0,.int .i64 4,.slice Ab nb cb,.int .i64 size,.bool big,.int .i64 mn,.int .i64 mx,.int .i64 stop,a8,a9,a10,a11])]) (O:=[]) ?_ Zl QR;repeat(first|refine Q4 zM ?_|refine Q4 zA ?_|refine Q4 zF ?_|refine Q4 (zB 2) ?_|refine yB fun br=>?_|refine yA fun b2=>?_|refine Qg ?_|refine Qa ?_|refine Q6 ?_|refine Qp ?_|refine Q9 rfl ?_|refine Q8 rfl ?_|refine Qi ?_|refine Q4 Qdw ?_|refine Q4 zN ?_|refine Q4 zu ?_|refine Q4 zS ?_)
 repeat(first|refine Q4 (zD 0) ?_|refine Qd QgH rfl Q1 (fun _ _=>?_)|refine Qg ?_|refine Qa ?_|refine Q6 ?_)
 refine QD Q5s rfl (fun _ _=>?_);refine KQ ?_
 refine Q7 (.inr rfl) rfl KY (fun w hw=>J8 YX ?_ hw);rfl
theorem Qtn(W:World)(hs:0<size):
  Calls Tryz.prog 96 #[.agg #[a0,.int .i64 5,.slice Ab nb cb,.int .i64 size,.bool big,.int .i64 mn,.int .i64 mx,.int .i64 stop,a8,a9,a10,a11]] W (Ju W (Q2H 5 bs size big mn mx stop)):=by
 go_enter Tryz.func96,Tryz.ntmps96;refine Qz (M:=[]) (W:=W) (N:=84) (E:=QsX) (O:=[]) ?_ Zl QR;repeat(first|refine Q4 zM ?_|refine Q4 zA ?_|refine Q4 zF ?_|refine Q4 (zB 2) ?_|refine yB fun br=>?_|refine yA fun b2=>?_|refine Qg ?_|refine Qa ?_|refine Q6 ?_|refine Q9 rfl ?_|refine Q8 rfl ?_|refine Qi ?_|refine Q4 Qdw ?_|refine Q4 zgt ?_|refine Q4 zY ?_|refine Q4 zN ?_|refine Q4 zu ?_|refine Q4 zS ?_)
 repeat(first|refine Q4 (zD 0) ?_|refine Qd QgH rfl Q1 (fun _ _=>?_)|refine Qg ?_|refine Qa ?_|refine Q6 ?_)
 refine QD Q5s rfl (fun _ _=>?_);refine KQ ?_
 refine Q7 (.inr rfl) rfl KY (fun w hw=>J8 YX ?_ hw);exact congrArg QP (by rw[Q2H,if_neg Q1,if_neg Q1,if_neg Q1,if_neg Q1,if_pos rfl,if_pos hs];rfl)
theorem Quk(W:World)(hs:size=0)(ht:0<=stop/\stop<=255):
  Calls Tryz.prog 96 #[.agg #[a0,.int .i64 5,.slice Ab nb cb,.int .i64 size,.bool big,.int .i64 mn,.int .i64 mx,.int .i64 stop,a8,a9,a10,a11]] W (Ju W (Q2H 5 bs size big mn mx stop)):=by
 go_enter Tryz.func96,Tryz.ntmps96;refine Qz (M:=[]) (W:=W) (N:=84) (E:=QsX) (O:=[]) ?_ Zl QR;repeat(first|refine Q4 zM ?_|refine Q4 zA ?_|refine Q4 zF ?_|refine Q4 (zB 2) ?_|refine Q4 (zD 0) ?_|refine Q4 (zD 2) ?_|refine yB fun br=>?_|refine yA fun b2=>?_|refine Qg ?_|refine Qa ?_|refine Q6 ?_|refine Q8 rfl ?_|refine Qi ?_|refine Q4 zet ?_|refine Q4 zef ?_|refine Q4 (YV rfl rfl Q1 rfl rfl rfl (by first|exact decide_eq_false Q3|rfl)) ?_|refine Q4 zY ?_|refine Q4 zN ?_|refine Q4 zu ?_|refine Q4 zS ?_)
 subst hs;obtain⟨n,rfl⟩:∃n:Nat,stop=(n:Int):=⟨stop.toNat,by omega⟩;repeat(first|refine Q4 zA ?_|refine Q4 zF ?_|refine Q4 (zB 2) ?_|refine Q4 QkD ?_|refine Q4 QlA ?_|refine QD Qkd rfl (fun _ _=>?_)|refine Qg ?_|refine Qa ?_|refine Q6 ?_|refine Q9 rfl ?_)
 show lE _ _ _ _ _ _ _ [Qf.blk b2 (.cells ((QP (fun _=>false)).set (0+n*1) (.bool true)).toArray 92 (0,0)),_,_] _;refine QlI ?_;refine QD Q5s rfl (fun _ _=>?_);refine KQ ?_
 refine Q7 (.inr rfl) rfl KY (fun w hw=>J8 YX ?_ hw);refine ZO fun j hj=>?_;show (if j=n then true else false)=(if (0:Int)<0 then Zh noS 0 255 j else decide ((j:Int)=(n:Int)));rw[if_neg (show ¬(0:Int)<0 by decide)];by_cases h:j=n<;>simp [h]<;>omega
theorem Qvz(W:World)(ht:0<=stop/\stop<=255):
  Calls Tryz.prog 96 #[.agg #[a0,.int .i64 9,.slice Ab nb cb,.int .i64 size,.bool big,.int .i64 mn,.int .i64 mx,.int .i64 stop,a8,a9,a10,a11]] W (Ju W (Q2H 9 bs size big mn mx stop)):=by
 go_enter Tryz.func96,Tryz.ntmps96;refine Qz (M:=[]) (W:=W) (N:=84) (E:=[(0,.agg #[a0,.int .i64 9,.slice Ab nb cb,.int .i64 size,.bool big,.int .i64 mn,.int .i64 mx,.int .i64 stop,a8,a9,a10,a11])]) (O:=[]) ?_ Zl QR;repeat(first|refine Q4 zM ?_|refine Q4 zA ?_|refine Q4 zF ?_|refine Q4 (zB 2) ?_|refine Q4 (zD 0) ?_|refine Q4 (zD 2) ?_|refine yB fun br=>?_|refine yA fun b2=>?_|refine Qg ?_|refine Qa ?_|refine Q6 ?_|refine Q8 rfl ?_|refine Qi ?_|refine Q4 Q63 ?_|refine Q4 zN ?_|refine Q4 zu ?_|refine Q4 zS ?_)
 obtain⟨n,rfl⟩:∃n:Nat,stop=(n:Int):=⟨stop.toNat,by omega⟩;repeat(first|refine Q4 zA ?_|refine Q4 zF ?_|refine Q4 (zB 2) ?_|refine Q4 QkD ?_|refine Q4 QlA ?_|refine QD Qkd rfl (fun _ _=>?_)|refine Qg ?_|refine Qa ?_|refine Q6 ?_|refine Q9 rfl ?_)
 show lE _ _ _ _ _ _ _ [Qf.blk b2 (.cells ((QP (fun _=>false)).set (0+n*1) (.bool true)).toArray 92 (0,0)),_,_] _;refine QlI ?_;refine QD Q5s rfl (fun _ _=>?_);refine KQ ?_
 refine Q7 (.inr rfl) rfl KY (fun w hw=>J8 YX ?_ hw);refine ZO fun j hj=>?_;show (if j=n then true else false)=decide ((j:Int)=(n:Int));skip;by_cases h:j=n<;>simp [h]<;>omega
theorem QuZ(W:World):
  Calls Tryz.prog 96 #[.agg #[a0,.int .i64 6,.slice Ab nb cb,.int .i64 size,.bool big,.int .i64 mn,.int .i64 mx,.int .i64 stop,a8,a9,a10,a11]] W (Ju W (Q2H 6 bs size big mn mx stop)):=by
 go_enter Tryz.func96,Tryz.ntmps96;refine Qz (M:=[]) (W:=W) (N:=84) (E:=[(0,.agg #[a0,.int .i64 6,.slice Ab nb cb,.int .i64 size,.bool big,.int .i64 mn,.int .i64 mx,.int .i64 stop,a8,a9,a10,a11])]) (O:=[]) ?_ Zl QR;repeat(first|refine Q4 zM ?_|refine Q4 zA ?_|refine Q4 zF ?_|refine Q4 (zB 2) ?_|refine Q4 (zD 0) ?_|refine Q4 (zD 2) ?_|refine yB fun br=>?_|refine yA fun b2=>?_|refine Qg ?_|refine Qa ?_|refine Q6 ?_|refine Q8 rfl ?_|refine Qi ?_|refine Q4 Q63 ?_|refine Q4 zN ?_|refine Q4 zu ?_|refine Q4 zS ?_)
 refine Qgb ?_
 refine QD Q5s rfl (fun _ _=>?_);refine KQ ?_
 refine Q7 (.inr rfl) rfl KY (fun w hw=>J8 YX ?_ hw);rfl
theorem QuW(W:World):
  Calls Tryz.prog 96 #[.agg #[a0,.int .i64 7,.slice Ab nb cb,.int .i64 size,.bool big,.int .i64 mn,.int .i64 mx,.int .i64 stop,a8,a9,a10,a11]] W (Ju W (Q2H 7 bs size big mn mx stop)):=by
 go_enter Tryz.func96,Tryz.ntmps96;refine Qz (M:=[]) (W:=W) (N:=84) (E:=[(0,.agg #[a0,.int .i64 7,.slice Ab nb cb,.int .i64 size,.bool big,.int .i64 mn,.int .i64 mx,.int .i64 stop,a8,a9,a10,a11])]) (O:=[]) ?_ Zl QR;repeat(first|refine Q4 zM ?_|refine Q4 zA ?_|refine Q4 zF ?_|refine Q4 (zB 2) ?_|refine Q4 (zD 0) ?_|refine Q4 (zD 2) ?_|refine yB fun br=>?_|refine yA fun b2=>?_|refine Qg ?_|refine Qa ?_|refine Q6 ?_|refine Q8 rfl ?_|refine Qi ?_|refine Q4 Q63 ?_|refine Q4 zN ?_|refine Q4 zu ?_|refine Q4 zS ?_)
 refine Qgb ?_
 refine QD Q5s rfl (fun _ _=>?_);refine KQ ?_
 refine Q7 (.inr rfl) rfl KY (fun w hw=>J8 YX ?_ hw);rfl
theorem QuX(W:World):
  Calls Tryz.prog 96 #[.agg #[a0,.int .i64 8,.slice Ab nb cb,.int .i64 size,.bool big,.int .i64 mn,.int .i64 mx,.int .i64 stop,a8,a9,a10,a11]] W (Ju W (Q2H 8 bs size big mn mx stop)):=by
 go_enter Tryz.func96,Tryz.ntmps96;refine Qz (M:=[]) (W:=W) (N:=84) (E:=[(0,.agg #[a0,.int .i64 8,.slice Ab nb cb,.int .i64 size,.bool big,.int .i64 mn,.int .i64 mx,.int .i64 stop,a8,a9,a10,a11])]) (O:=[]) ?_ Zl QR;repeat(first|refine Q4 zM ?_|refine Q4 zA ?_|refine Q4 zF ?_|refine Q4 (zB 2) ?_|refine Q4 (zD 0) ?_|refine Q4 (zD 2) ?_|refine yB fun br=>?_|refine yA fun b2=>?_|refine Qg ?_|refine Qa ?_|refine Q6 ?_|refine Q8 rfl ?_|refine Qi ?_|refine Q4 Q63 ?_|refine Q4 zN ?_|refine Q4 zu ?_|refine Q4 zS ?_)
 refine Qgb ?_
 refine QD Q5s rfl (fun _ _=>?_);refine KQ ?_
 refine Q7 (.inr rfl) rfl KY (fun w hw=>J8 YX ?_ hw);rfl
theorem Qu1(W:World):
  Calls Tryz.prog 96 #[.agg #[a0,.int .i64 10,.slice Ab nb cb,.int .i64 size,.bool big,.int .i64 mn,.int .i64 mx,.int .i64 stop,a8,a9,a10,a11]] W (Ju W (Q2H 10 bs size big mn mx stop)):=by
 go_enter Tryz.func96,Tryz.ntmps96;refine Qz (M:=[]) (W:=W) (N:=84) (E:=[(0,.agg #[a0,.int .i64 10,.slice Ab nb cb,.int .i64 size,.bool big,.int .i64 mn,.int .i64 mx,.int .i64 stop,a8,a9,a10,a11])]) (O:=[]) ?_ Zl QR;repeat(first|refine Q4 zM ?_|refine Q4 zA ?_|refine Q4 zF ?_|refine Q4 (zB 2) ?_|refine Q4 (zD 0) ?_|refine Q4 (zD 2) ?_|refine yB fun br=>?_|refine yA fun b2=>?_|refine Qg ?_|refine Qa ?_|refine Q6 ?_|refine Q8 rfl ?_|refine Qi ?_|refine Q4 Q63 ?_|refine Q4 zN ?_|refine Q4 zu ?_|refine Q4 zS ?_)
 refine Qgb ?_
 refine QD Q5s rfl (fun _ _=>?_);refine KQ ?_
 refine Q7 (.inr rfl) rfl KY (fun w hw=>J8 YX ?_ hw);rfl
end
def QW:List (Nat->Bool)->List Value
 |[]=>[]
 |s::l=>QP s++QW l
theorem Q8r:∀l:List (Nat->Bool),(QW l).length=l.length*256
 |[]=>rfl
 |s::l=>by rw[QW,List.length_append,Xj,Q8r l,List.length_cons];omega
theorem Q96:∀(l m:List (Nat->Bool)),QW (l++m)=QW l++QW m
 |[],m=>rfl
 |s::l,m=>by rw[List.cons_append,QW,QW,Q96 l m,List.append_assoc]
def XH:Nat->Bool:=fun _=>false
theorem Q3K:∀(l:List (Nat->Bool)) (k c:Nat),k<l.length->c<256->(QW l)[k*256+c]? =some (.bool ((l.getD k XH) c))
 |[],k,c,h,_=>absurd h Qn
 |s::l,0,c,_,hc=>by
  rw[QW,List.getElem?_append_left (by rw[Xj];omega),Nat.zero_mul,Nat.zero_add,ZI s hc]
  rfl
 |s::l,k+1,c,h,hc=>by
  rw[QW,List.getElem?_append_right (by rw[Xj];omega),Xj,show (k+1)*256+c - 256=k*256+c by omega,Q3K l k c (by simpa using h) hc]
  rfl
theorem Q99:∀(l:List (Nat->Bool)) (k c:Nat) (b:Bool),k<l.length->c<256->(QW l).set (k*256+c) (.bool b)=QW (l.set k (fun j=>if j=c then b else (l.getD k XH) j))
 |[],k,c,b,h,_=>absurd h Qn
 |s::l,0,c,b,_,hc=>by
  rw[QW,List.set_append_left _ _ (by rw[Xj];omega),Nat.zero_mul,Nat.zero_add,Q14]
  rfl
 |s::l,k+1,c,b,h,hc=>by
  rw[QW,List.set_append_right _ _ (by rw[Xj];omega),Xj,show (k+1)*256+c - 256=k*256+c by omega,Q99 l k c b (by simpa using h) hc]
  rfl
theorem Q2J(l:List (Nat->Bool))(k:Nat)(h:k<l.length):∀j u,(QP (l.getD k XH))[j]? =some u->(QW l)[k*256+j]? =some u:=by
 intro j u hu;have hj:j<256:=by
  rcases Nat.lt_or_ge j 256 with hj|hj
  ·exact hj
  ·rw[List.getElem?_eq_none (by rw[Xj];omega)] at hu;cases hu
 rw[Q3K l k j h hj];rw[ZI _ hj] at hu;exact hu
def Kr(r:Rl):Nat->Bool:=Q2H r.kind r.bs r.size r.big r.mn r.mx r.stop
def orS(s t:Nat->Bool):Nat->Bool:=fun j=>s j||t j
def Vn(Ss:List (Nat->Bool))(k i:Nat):List (Nat->Bool):=Ss.set k (orS (Ss.getD k XH) (Ss.getD i XH))
def Yy(F:List Rl)(Ss:List (Nat->Bool))(k:Nat):List (Nat->Bool):=(bg F k).foldl (fun S i=>Vn S k i) Ss
def J1(F:List Rl)(Ss:List (Nat->Bool)):List (Nat->Bool):=(List.range F.length).foldl (Yy F) Ss
def Yi(F:List Rl):List (Nat->Bool):=iter (J1 F) F.length (F.map Kr)
theorem QiB{r:Rl}{Ab An Ap:Option Addr}{n cb cn cp:Nat}{W:World}(hl:RuL W r Ab cb An cn Ap cp)(hr:ROk n r):
  Calls Tryz.prog 96 #[.agg (ruC r (.slice Ab r.bs.length cb) (.slice An r.names.length cn) (.slice Ap r.parts.length cp)).toArray] W (Ju W (Kr r)):=by
 obtain⟨name,kind,bs,size,big,mn,mx,stop,count,elem,names,parts⟩:=r;have hk:=hr.kind;have hb:=hl.b;have h1:=hr.bs1;have h2:=hr.num;have h3:=hr.dec;have h5:=hr.size5;have hs:=hr.stop;unfold Kr;simp only at hk hb h1 h2 h3 h5 hs ⊢;rcases (show kind=1\/kind=2\/kind=3\/kind=4\/kind=5\/kind=6\/kind=7\/kind=8\/kind=9\/kind=10 by omega) with rfl|rfl|rfl|rfl|rfl|rfl|rfl|rfl|rfl|rfl
 ·exact QuI W hb (h1 rfl)
 ·obtain⟨a1,a2,a3,a4,a5⟩:=h2 rfl
  have a6:mx<=4294967295:=by
   have b1:1<=size:=a1;have b2:size<=4:=a2;have b5:mx<256 ^ size.toNat:=a5;clear h1 h2 h3 h5 hs hr hl hb a1 a2 a3 a4 a5;rcases (show size=1\/size=2\/size=3\/size=4 by omega) with rfl|rfl|rfl|rfl<;>simp at b5<;>omega
  cases big with
  |true=>exact Qu7 (big:=true) W ⟨a1,a2⟩ ⟨a3,a4,a6⟩
  |false=>exact Qti (big:=true) W ⟨a3,a4,a6⟩
 ·exact QuE W ⟨(h3 rfl).1,(h3 rfl).2.1⟩
 ·exact QuH W
 ·by_cases h0:0<size
  ·exact Qtn W h0
  ·have h50:0<=size:=(h5 rfl).1
   have h51:size=0:=by omega
   exact Quk W h51 (hs (.inr (.inl rfl)))
 ·exact QuZ W
 ·exact QuW W
 ·exact QuX W
 ·exact Qvz W (hs (.inr (.inr rfl)))
 ·exact Qu1 W
section
variable {A:Option Addr}{O:List Qf}{W w:World}{c n:Nat}
def QU(W:World)(c:Bool)(e:Ending)(w':World):Prop:=e=.returned (.bool c)/\Below W.heap.size W w'
theorem QN{c c':Bool}(h:c=c')(hw:Wd [] W O w):QU W c' (.returned (.bool c)) w:=⟨by rw[h],hw.k.below⟩
theorem Q9h{r:Rl}{Ab An Ap:Option Addr}{cb cn cp:Nat}(hl:RuL W r Ab cb An cn Ap cp)(hr:ROk n r)(hw:Wd [] W O w):
  Calls Tryz.prog 97 #[.agg (ruC r (.slice Ab r.bs.length cb) (.slice An r.names.length cn) (.slice Ap r.parts.length cp)).toArray] w (X7 (fun y:Option Addr×Nat=>.slice y.1 (bl r).length y.2) (fun y=>(bl r).length<=y.2/\(bl r=[]->y=(none,0))) [] W (fun y=>.rd y.1 (bl r).length 1 (iv (bl r))::O)):=by
 refine(Qb2 (hl.on hw.k.below) hr.kind (fun h=>(hr.seven h).2) (fun h=>by have:=hr.eight h;omega)).mono ?_;rintro e w' ⟨A,m,c,rfl,h1,h2,h3,h4,h5⟩;have hm:(bl r).length=m:=by have:=h1.len;rw[Q0o] at this;exact this
 subst hm;refine⟨(A,c),rfl,⟨h2,fun h=>?_⟩,(hw.on h3).rd_far hw h1 (fun b o e hn=>?_)⟩
 ·obtain⟨rfl,rfl⟩:=h5 (by rw[h];rfl)
  rfl
 ·rcases h4 b o e hn with h|⟨⟨o',h⟩,h0⟩
  ·exact .inl h
  ·right
   exact Qnf
theorem QjM{l:List Int}(hl:0<l.length)(hl':l.length<=1048576)(hw:Wd [] W (.rd A l.length 1 (iv l)::O) w):
  Calls Tryz.prog 151 #[.slice A l.length c] w (X7 (fun y:Nat×Nat×Nat×List Value=>.slice (some ⟨y.1,y.2.1,none⟩) l.length y.2.2.1) (fun y=>Q5L y.2.1 l.length y.2.2.1 y.2.2.2 (iv l)) [] W (fun y=>.blk y.1 (.cells y.2.2.2.toArray 3 (0,0))::.rd A l.length 1 (iv l)::O)):=by
 refine(Qaq Kj hl hl').mono ?_;rintro e w' ⟨b,q,c',cur,rfl,h1,h2,h3,h4⟩;exact⟨(b,q,c',cur),rfl,h3,hw.push h4 h2 (fun b' hb'=>by cases hb';exact h1)⟩
theorem QlH{q:Nat}{cur:List Value}{x:Int}{t:List Int}(h:Q5L q (n+1) c cur (iv (x::t))):∃q',ZY (some ⟨0,q,none⟩) c 1 1=some ⟨0,q',none⟩/\(∀b,ZY (some ⟨b,q,none⟩) c 1 1=some ⟨b,q',none⟩)/\Q5L q' n (c - 1) cur (iv t):=by
 obtain⟨h1,h2,h3,h4,h5⟩:=h;have hl:(iv t).length=n:=by rw[Q0o] at h4 ⊢;simpa using h4
 by_cases hc:c=1
 ·refine⟨q,by rw[ZY,if_pos hc],fun b=>by rw[ZY,if_pos hc],by omega,by omega,by omega,hl,fun j u hu=>?_⟩
  have hn:n=0:=by omega
  rw[List.getElem?_eq_none Q3] at hu;cases hu
 ·refine⟨q+1,by rw[ZY,if_neg hc,Option.map_some,Addr.add_mid],fun b=>by rw[ZY,if_neg hc,Option.map_some,Addr.add_mid],by omega,by omega,by omega,hl,fun j u hu=>?_⟩;have:=h5 (j+1) u (by exact hu);rwa [show q+(j+1)=q+1+j by omega] at this
def cyE(bf bs k n:Nat)(s:Cy):Env:=[(1,.int .i64 (k:Int)),(2,.pointer (some ⟨bf,0,none⟩)),(5,.slice (some ⟨bs,0,none⟩) n n),(6,.slice (some ⟨s.b,s.q,none⟩) s.qs.length s.c)]
def cyO(bf bs n c:Nat)(A:Option Addr)(s:Cy):List Qf:=[.blk s.b (.cells s.cur.toArray 3 (0,0)),.row (some ⟨bs,0,none⟩) n n 4 1 (XN s.seen),.blk bf (.cells [.slice A n c].toArray 24 (0,0))]
theorem QaS{F:List Rl}{k:Nat}(hf:QS W W.heap.size A n F)(hF:FOk F)(hn:n<=40)(hk:k<n):
  Calls Tryz.prog 117 #[.agg #[.slice A n c],.int .i64 (k:Int)] W (QU W (Q1u F k)):=by
 have hlen:F.length=n:=hf.1;obtain⟨b,o,rfl⟩:=hf.addr Q3;obtain⟨rk,Ab,cb,An,cn,Ap,cp,hrk,hrg,hlk⟩:=hf.rl hk;have hok:=hF k rk hrk;have HBG:=Q2 (Q4Z hrk);have HFM:=Q2 hf;have HOK:=Q2 hok;have HLK:=Q2 hlk;have HF:=Q2 hF;have HLEN:=Q2 hlen;have h12:=Q7M hok;clear hrk hf hok hlk hF hlen;go_enter Tryz.func117,Tryz.ntmps117;refine Qz (M:=[]) (W:=W) (N:=46) (E:=[Q0s,Q0H]) (O:=[]) ?_ mc3 QR;repeat(first|refine Q4 zM ?_|refine Q4 zA ?_|refine Q4 zF ?_|refine Q4 (zB 0) ?_|refine Q4 (zB 1) ?_|refine Q4 (zD 0) ?_|refine Q4 (zD 1) ?_|refine Q4 (zD 2) ?_|refine Q4 zE ?_|refine yB fun bf=>?_|refine Qd Ql5 rfl Q1 (fun bs _=>?_)|refine Q4 (zi (hj:=hk)) ?_|refine Qd QsB rfl Q1 (fun y hy=>?_)|refine Qg ?_|refine Qa ?_|refine Q6 ?_|refine Q4 zL ?_)
 obtain⟨l,hl⟩:∃l,bl rk=l:=⟨_,rfl⟩;rw[hl] at hy h12 ⊢;cases l with
 |nil=>
  obtain rfl:=hy.2 rfl;repeat(first|refine Q4 zA ?_|refine Q4 (Ql (f:=151) rfl rfl Q1 rfl rfl (fun w hw=>Qe3 w)) ?_|refine Qg ?_|refine Qa ?_|refine Qi ?_)
  refine QK (ι:=Unit) Qd6 (fun _=>0) (fun _=>[(6,.slice none 0 0)]) (fun _=>[]) () [] Q1 trivial Qe6 rfl ?_;rintro _ _;refine Qqn ?_
  refine Q7 mc4 rfl (.tmp rfl) (fun w hw=>QN ?_ hw);cases hc:Q1u F k with
  |false=>rfl
  |true=>
   exfalso;have hr:=(Q2M HF.out.bd Qfu).1 hc;have hnone:∀j,Rch F k j->False:=by
    intro j hj;induction hj with
    |one h=>rw[HBG.out,hl] at h;cases h
    |more _ _ ih=>exact ih
   exact hnone k hr
 |cons x0 t0=>
  refine Qd (QY _ _ _ (f:=151) rfl rfl rfl (fun w hw=>QjM (l:=x0::t0) Qn Q3 hw)) rfl Q1 (fun z hz=>?_);obtain⟨b1,q1,c1,cur1⟩:=z;have hz0:Q5L q1 (x0::t0).length c1 cur1 (iv (x0::t0)):=hz;clear hz;have h0:CyP F k { seen:=List.replicate n false,qs:=x0::t0,b:=b1,q:=q1,c:=c1,cur:=cur1 }:=by
   have hno:∀i:Nat,(List.replicate n false).getD i false=false:=fun i=>by
    rw[List.getD_eq_getElem?_getD,List.getElem?_replicate];split<;>rfl
   have hin:=Q9j HOK.out;rw[hl] at hin;have hbg:bg F k=(x0::t0).map Int.toNat:=by rw[HBG.out,hl]
   refine⟨by rw[List.length_replicate,HLEN.out],hz0,hin,fun x hx=>.one ?_,fun x hx=>.inr ?_,fun i hi=>?_,hno k,?_⟩
   ·rw[hbg];exact List.mem_map_of_mem hx
   ·rw[hbg,List.mem_map] at hx;obtain⟨y',hy',rfl⟩:=hx;have:=hin y' hy';rw[show ((y'.toNat:Nat):Int)=y' by omega];exact hy'
   ·have hi':(List.replicate n false).getD i false=true:=hi;rw[hno i] at hi'
    cases hi'
   ·have:=Qff (fun i=>!((List.replicate n false).getD i false)) F.length
    show 13*cnt (fun i=>!((List.replicate n false).getD i false)) F.length+(x0::t0).length<=_;omega
  clear hy hl h12;repeat(first|refine Q4 zA ?_|refine Qg ?_|refine Qa ?_|refine Qi ?_)
  refine QK (CyP F k) (fun s=>13*Vl s F.length+s.qs.length) (cyE bf bs k n) (cyO bf bs n c Q50) { seen:=List.replicate n false,qs:=x0::t0,b:=b1,q:=q1,c:=c1,cur:=cur1 } [0,2,3] Q1 h0 mc1 (by show [_,Qf.row _ _ _ _ _ _,_]=_;rw[QgP];rfl) ?_;rintro⟨seen,qs,b2,q2,c2,cur2⟩ hp;have HPP:=Q2 hp;clear hp;cases qs with
  |nil=>
   show sE _ _ _ _ _ [Q0H,Q5c,Q8I,(6,.slice (some ⟨b2,q2,none⟩) 0 c2)] Qra _;refine Qqn ?_
   refine Q7 mc4 rfl (.tmp rfl) (fun w hw=>QN (HPP.out.done HF.out Qfu rfl).symm hw)
  |cons x t=>
   show sE _ _ _ _ _ [Q0H,Q5c,Q8I,(6,.slice (some ⟨b2,q2,none⟩) (x::t).length c2)] Qra _;have hx:=HPP.out.inn x List.mem_cons_self;rw[HLEN.out] at hx;have hc0:cur2[q2+0]? =some (.int .i64 x):=HPP.out.win.2.2.2.2 0 _ rfl;obtain⟨q3,_,hcut,hwt⟩:=QlH (show Q5L q2 (t.length+1) c2 cur2 (iv (x::t)) from HPP.out.win);have HWT:=Q2 hwt;clear hwt;have hlt:0<(x::t).length:=by simp
   by_cases hxk:x=(k:Int)
   ·have hxk':(x==(k:Int))=true:=beq_iff_eq.2 hxk
    repeat(first|refine Q4 zM ?_|refine Q4 zA ?_|refine Q4 QdV ?_|refine Q4 (zV 0 hc0) ?_|(refine Q4 Ql8 ?_;rw[hcut])|refine Qg ?_|refine Qa ?_|refine Q6 ?_|refine Qp ?_|refine Q9 rfl ?_|refine QC ?_|refine Qi ?_|refine Qk ?_|refine Qu ?_|refine Q4 zL ?_|refine Q4 zea ?_|refine Q4 zgt ?_)
    refine Q7 mc4 rfl (.tmp rfl) (fun w hw=>QN ?_ hw);refine((Q2M HF.out.bd Qfu).2 ?_).symm;have:=HPP.out.sound x List.mem_cons_self;rw[hxk] at this;simpa using this
   ·have hxk':(x==(k:Int))=false:=beq_eq_false_iff_ne.2 hxk
    have hs0:(XN seen)[0+x.toNat]? =some (.bool (seen.getD x.toNat false)):=by
     rw[Nat.zero_add];exact Y7 (by rw[show seen.length=F.length from HPP.out.len,HLEN.out];omega)
    have HXK:=Q2 hxk;clear hxk;obtain⟨sx,hsx⟩:∃sx,seen.getD x.toNat false=sx:=⟨_,rfl⟩;rw[hsx] at hs0;have HSX:=Q2 hsx;clear hsx;cases sx with
    |true=>
     repeat(first|refine Q4 zM ?_|refine Q4 zA ?_|refine Q4 QdV ?_|refine Q4 (zV 0 hc0) ?_|(refine Q4 Ql8 ?_;rw[hcut])|refine Q4 Qor ?_|refine Q4 (zK 1 hs0) ?_|refine Qg ?_|refine Qa ?_|refine Q6 ?_|refine Qp ?_|refine Q9 rfl ?_|refine Q8 rfl ?_|refine Qi ?_|refine Yh ?_|refine Q4 zL ?_|refine Q4 zea ?_|refine Q4 Qr9 ?_|refine Q4 zO ?_)
     refine Qt { seen:=seen,qs:=t,b:=b2,q:=q3,c:=c2 - 1,cur:=cur2 } [0,1,2] Q1 (HPP.out.old rfl HSX.out hx.1 HWT.out) (by show 13*Vl _ _+t.length<13*Vl _ _+(t.length+1);exact Nat.lt_succ_self _) mc1 rfl
    |false=>
     obtain⟨rx,Ab',cb',An',cn',Ap',cp',hrx,hrgx,hlx⟩:=HFM.out.rl (i:=x.toNat) Q3;have HRX:=Q2 hrx;have HLX:=Q2 hlx;have HOX:=Q2 (HF.out _ _ hrx);have h12:=Q7M HOX.out;have hsm:=HPP.out.small;have hul:=hsm;rw[HLEN.out] at hul;clear hrx hlx hsm;have hqs:t.length<=13*n+12:=by
      have:(Cy.mk seen (x::t) b2 q2 c2 cur2).qs.length=t.length+1:=rfl;omega
     clear hul;repeat(first|refine Q4 zM ?_|refine Q4 zA ?_|refine Q4 zF ?_|refine Q4 (zB 2) ?_|refine Q4 (zD 0) ?_|refine Q4 (zD 1) ?_|refine Q4 zE ?_|refine Q4 QdV ?_|refine Q4 (zV 0 hc0) ?_|(refine Q4 Ql8 ?_;rw[hcut])|refine Q4 Qor ?_|refine Q4 (QG rfl rfl Q1 rfl rfl rfl hx) ?_|refine Q4 (zK 1 hs0) ?_|refine QD QnX rfl (fun _ _=>?_)|refine Qd (QY _ _ _ (f:=97) rfl rfl rfl (fun w hw=>Q9h (n:=F.length) HLX.out HOX.out hw)) rfl Q1 (fun z hz=>?_)|refine Qd (Q3E (n:=t.length) 1 rfl rfl rfl rfl rfl HWT.out (fun w hw=>hw.own 0 _ rfl) (QdQ _) Q3) rfl Q1 (fun y hy=>?_)|refine Qg ?_|refine Qa ?_|refine Q6 ?_|refine Qp ?_|refine Q9 rfl ?_|refine Q8 rfl ?_|refine Qi ?_|refine Yh ?_|refine Q4 zL ?_|refine Q4 zea ?_|refine Q4 Qr9 ?_|refine Q4 zO ?_)
     obtain⟨b4,q4,c4,cur4⟩:=y
     have hnew:=HPP.out.new (b':=b4) (q':=q4) (c':=c4) (cur':=cur4) HF.out rfl HRX.out HSX.out HXK.out (by
      have h:Q5L q4 (t.length+(bl rx).length) c4 cur4 (iv t++iv (bl rx)):=hy;rw[List.length_append,QlV]
      exact h)
     refine Qt { seen:=seen.set x.toNat true,qs:=t++bl rx,b:=b4,q:=q4,c:=c4,cur:=cur4 } [1,2,3] Q1 hnew.1 hnew.2 (.cons rfl rfl (.cons rfl rfl (.cons rfl rfl (.cons rfl (by rw[List.length_append]) .nil)))) ?_;show [_,Qf.row _ _ _ _ _ ((XN seen).set (0+x.toNat) (.bool true)),_]=_;rw[Nat.zero_add,Q17];rfl
end
section
variable {A:Option Addr}{S:List (Nat->Bool)}{b c n s:Nat}{cd:Code}{e:TypeId}{w:World}{xs:List Value}
theorem Rd.of_on(h:(Qf.rd A n s xs).on w)(hn:0<n):∃b o,A=some ⟨b,o,none⟩/\b<w.heap.size:=by
 have h':Rd w w.heap.size s A n xs:=h;obtain⟨b,o,e,hb,_⟩:=h'.2 hn;exact⟨b,o,e,hb⟩
section
variable {P:Program}{Q:Exit->Act->World->Prop}{N:Nat}{M:List Nat}{W:World}{E:Env}{O:List Qf}
theorem Q2L(i:Nat)(hO:O[i]? =some (.row A n c e s xs))(hn:0<n)(h:∀b,A=some ⟨b,0,none⟩->sE P Q N M W E O cd):sE P Q N M W E O cd:=fun a w ha hw=>by
 rcases (hw.own i _ hO).2 with ⟨hv,_⟩|⟨g,cap,cur,hv,_⟩
 ·have:n=0:=by
   simp only[Value.slice.injEq] at hv;omega
  omega
 ·simp only[Value.slice.injEq] at hv
  exact h g hv.1 a w ha hw
theorem QjD{x y:Code}{ι:Type}(p:ι->Prop)(F:ι->Env)(G:ι->List Qf)(h1:sE P (Exit.then (Qk7 p N M W F G) Q) N M W E O x)(h2:∀i,p i->sE P Q N M W (F i) (G i) y):sE P (Exit.then (fun a w=>y.wp P Q a w) Q) N M W E O x:=
 QoE p F G h1 fun i hp a w ha hw=>h2 i hp a w ha hw
theorem Wd.rd_blk(i:Nat){cs:List Value}{t:TypeId}{fr:Nat×Nat}(hO:O[i]? =some (.blk b (.cells cs.toArray t fr)))(hl:cs.length=n*s)(hw:Wd M W O w):Rd w w.heap.size s (some ⟨b,0,none⟩) n cs:=
 ⟨hl,fun _=>⟨b,0,rfl,(hw.own i _ hO).lt rfl,fun j u hu=>by rw[Nat.zero_add];exact hw.cell_blkL i hO hu⟩⟩
end
section
variable {P:Program}{Q:Exit->Act->World->Prop}{N:Nat}{M:List Nat}{W:World}{E:Env}{O:List Qf}
theorem Q9c(i:Nat)(hO:O[i]? =some (.rd A n s xs))(hn:0<n)(h:∀b o,A=some ⟨b,o,none⟩->sE P Q N M W E O cd):sE P Q N M W E O cd:=fun a w ha hw=>by
 obtain⟨b,o,e,_⟩:=Go.Proofs.YtphkhfdmlcnoeaaGreatDoor.Rd.of_on Q5a hn;exact h b o e a w ha hw
end
theorem Wd.range_sets{M:List Nat}{W:World}{O:List Qf}(i:Nat){k:Nat}(hO:O[i]? =some (.row (some ⟨b,0,none⟩) n c e 256 (QW S)))(hk:k<S.length)(hw:Wd M W O w):w.rangeAt b (0+k*256) (QP (S.getD k XH)):=fun j u hu=>by
 rw[Nat.zero_add];exact hw.cell_row i hO (Q2J S k hk j u hu)
def Kq(S:List (Nat->Bool))(k:Nat)(st:Nat->Bool)(c:Nat):List (Nat->Bool):=S.set k (fun j=>if j<c then (S.getD k XH) j||st j else (S.getD k XH) j)
theorem Q3F(S:List (Nat->Bool))(k:Nat)(st:Nat->Bool)(c:Nat):(Kq S k st c).length=S.length:=by unfold Kq;rw[List.length_set]
theorem Qbw(S:List (Nat->Bool))(k:Nat)(st:Nat->Bool)(c:Nat)(hk:k<S.length):(Kq S k st c).getD k XH=fun j=>if j<c then (S.getD k XH) j||st j else (S.getD k XH) j:=by
 unfold Kq;rw[List.getD_eq_getElem?_getD,List.getElem?_set,if_pos rfl,if_pos hk];rfl
theorem QhM(S:List (Nat->Bool))(k:Nat)(st:Nat->Bool)(hk:k<S.length):Kq S k st 0=S:=by
 unfold Kq;have e:(fun j=>if j<0 then (S.getD k XH) j||st j else (S.getD k XH) j)=S[k]:=by
  funext j;rw[if_neg Q3,List.getD_eq_getElem?_getD,List.getElem?_eq_getElem hk];rfl
 rw[e,List.set_getElem_self]
theorem QiL{T:List (Nat->Bool)}(hl:S.length=T.length)(h:∀k c,k<S.length->c<256->(S.getD k XH) c=(T.getD k XH) c):QW S=QW T:=by
 induction S generalizing T with
 |nil=>cases T with
  |nil=>rfl
  |cons=>simp at hl
 |cons s S ih=>cases T with
  |nil=>simp at hl
  |cons t T=>
   have e1:QP s=QP t:=ZO (fun j hj=>h 0 j Qn hj);have e2:QW S=QW T:=ih QdI (fun k c hk hc=>h (k+1) c (by simpa using hk) hc);rw[QW,QW,e1,e2]
theorem QiC(S:List (Nat->Bool))(k:Nat)(st:Nat->Bool)(c:Nat)(hk:k<S.length)(hc:c<256):(QW (Kq S k st c)).set (k*256+c) (.bool ((S.getD k XH) c||st c))=QW (Kq S k st (c+1)):=by
 rw[Q99 _ _ _ _ (by rw[Q3F];exact hk) hc,Qbw S k st c hk];unfold Kq;rw[List.set_set];congr 2;funext j;by_cases h1:j=c
 ·subst h1;simp
 ·by_cases h2:j<c
  ·have:j<c+1:=by omega
   simp [h1,h2,this]
  ·have:¬j<c+1:=by omega
   simp [h1,h2,this]
theorem QnE(S:List (Nat->Bool))(k x:Nat)(hk:k<S.length):QW (Kq S k (S.getD x XH) 256)=QW (Vn S k x):=by
 refine QiL (by unfold Vn;rw[Q3F,List.length_set]) fun k' c hk' hc=>?_;rw[Q3F] at hk';unfold Kq Vn;by_cases h:k=k'
 ·subst h
  simp [List.getD_eq_getElem?_getD,hk,hc,orS]
 ·simp [List.getD_eq_getElem?_getD,List.getElem?_set_ne h]
theorem QfK(S:List (Nat->Bool))(k x:Nat):(Vn S k x).length=S.length:=by unfold Vn;rw[List.length_set]
theorem Q0r(k:Nat):∀(l:List Nat) (S:List (Nat->Bool)),(l.foldl (fun S x=>Vn S k x) S).length=S.length
 |[],_=>rfl
 |x::l,S=>by rw[List.foldl_cons,Q0r k l,QfK]
theorem Qbv(F:List Rl)(S:List (Nat->Bool))(k:Nat):(Yy F S k).length=S.length:=Q0r k _ S
theorem KF(F:List Rl):∀(l:List Nat) (S:List (Nat->Bool)),(l.foldl (Yy F) S).length=S.length
 |[],_=>rfl
 |x::l,S=>by rw[List.foldl_cons,KF F l,Qbv]
theorem Yw(F:List Rl)(S:List (Nat->Bool)):∀t,(iter (J1 F) t S).length=S.length
 |0=>rfl
 |t+1=>(KF F _ _).trans (Yw F S t)
theorem Qij(st:Nat->Bool):∀u∈QP st,u.oneCell'=true:=by
 intro u hu;simp only[QP,List.mem_map] at hu;obtain⟨j,_,rfl⟩:=hu;rfl
theorem QaM{F:List Rl}{W:World}(hf:QS W W.heap.size A n F)(hF:FOk F)(hn:n<=40)(hn0:0<n):
  Calls Tryz.prog 55 #[.agg #[.slice A n c]] W (fun e w'=>∃b c',e=.returned (.slice (some ⟨b,0,none⟩) n c')/\W.heap.size<=b/\Rd w' w'.heap.size 256 (some ⟨b,0,none⟩) n (QW (Yi F))/\Below W.heap.size W w'):=by
 have hlen:F.length=n:=hf.1;obtain⟨b,o,rfl⟩:=hf.addr hn0;have HFM:=Q2 hf;have HF:=Q2 hF;have HLEN:=Q2 hlen;clear hf hF hlen;go_enter Tryz.func55,Tryz.ntmps55;refine Qz (M:=[]) (W:=W) (N:=72) (E:=[Q0s]) (O:=[]) ?_ Zl QR;repeat(first|refine Q4 zM ?_|refine Q4 zA ?_|refine Q4 zF ?_|refine Q4 (zB 0) ?_|refine yB fun bf=>?_|refine Qg ?_|refine Qa ?_|refine Q6 ?_|refine Qi ?_|refine Q4 zL ?_)
 refine Q16 92 256 ?_;refine QK (ι:=Nat×Option Addr×Nat) (fun y=>y.1<=n) (fun y=>n - y.1) (fun y=>[QgQ,(3,.slice y.2.1 y.1 y.2.2),(13,.slice Q50 n c),(14,.int .i64 (n:Int)),(15,.int .i64 (y.1:Int))]) (fun y=>[.row y.2.1 y.1 y.2.2 92 256 (QW ((F.take y.1).map Kr)),.blk bf Q5o]) (0,none,0) [0,1] Q1 Z4 Vg rfl ?_;rintro⟨i,A',c'⟩ hi;have hi':i<=n:=hi;clear hi;show sE _ _ _ _ _ [QgQ,(3,.slice A' i c'),(13,.slice Q50 n c),(14,.int .i64 (n:Int)),(15,.int .i64 (i:Int))] [.row A' i c' 92 256 (QW ((F.take i).map Kr)),.blk bf Q5o] _;by_cases hin:i<n
 ·obtain⟨rk,Ab,cb,An,cn,Ap,cp,hrk,hrg,hlk⟩:=HFM.out.rl hin;have HRK:=Q2 hrk;have HLK:=Q2 hlk;have HOK:=Q2 (HF.out i rk hrk);clear hrk hlk
  repeat(first|refine Q4 zM ?_|refine Q4 zA ?_|refine Q4 (zD 0) ?_|refine Q4 (zD 1) ?_|refine Q4 zE ?_|refine Q4 (zi (hj:=hin)) ?_|refine yA (t:=65) fun b7=>?_|refine yW 0 ?_|refine Q4 (Ql (f:=96) rfl rfl Q1 rfl rfl (fun w hw=>(QiB Qaa HOK.out).mono (fun _ _ h=>h))) ?_|refine Qd (J4 (cs:=QP _) rfl rfl rfl rfl YX Q1) rfl Q1 (fun bn _=>?_)|refine Qd (Zt (news:=QP _) 2 rfl rfl rfl rfl rfl (fun w hw=>hw.rd_blk 0 rfl (by rw[Xj])) (Qij _) Q3) rfl Q1 (fun y _=>?_)|refine Qg ?_|refine Qa ?_|refine Q6 ?_|refine Qp ?_|refine Q9 rfl ?_|refine Qi ?_|refine Q4 Q4m ?_|refine Q4 zP ?_)
  obtain⟨A2,c2⟩:=y;refine Qt (i+1,A2,c2) [2,3] Q1 hin Vw Yj ?_;show [Qf.row _ _ _ _ _ (QW ((F.take i).map Kr)++QP (Kr rk)),_]=[Qf.row _ _ _ _ _ (QW ((F.take (i+1)).map Kr)),_];rw[List.take_add_one,HRK.out,Option.toList_some,List.map_append,Q96];simp [QW]
 ·obtain rfl:i=n:=by omega
  refine QlU ?_
  refine Q2L 0 rfl hn0 (fun br hA=>?_);subst hA;have e0:QW ((F.take i).map Kr)=QW (iter (J1 F) 0 (F.map Kr)):=by
   rw[List.take_of_length_le (by rw[HLEN.out];exact Nat.le_refl _)];rfl
  refine QK (ι:=Nat) (fun t=>t<=i) (fun t=>i - t) (fun t=>[QgQ,(3,.slice Q0w i c'),(27,.int .i64 (i:Int)),(28,.int .i64 (t:Int))]) (fun t=>[.row Q0w i c' 92 256 (QW (iter (J1 F) t (F.map Kr))),.blk bf Qqk]) 0 [0,1] Q1 Z4 mc1 (by rw[<- e0];rfl) ?_;rintro t ht;by_cases htn:t<i
  ·skip
   repeat(first|refine Q4 zM ?_|refine Q4 zF ?_|refine Q4 (zB 1) ?_|refine Qg ?_|refine Qa ?_|refine Q6 ?_|refine Qp ?_|refine Q9 rfl ?_|refine Qi ?_|refine Q4 zL ?_|refine Q4 zlt ?_)
   refine QK (ι:=Nat) (fun k=>k<=i) (fun k=>i - k) (fun k=>[QgQ,(3,.slice Q0w i c'),(27,.int .i64 (i:Int)),(28,.int .i64 (t:Int)),(31,.slice Q50 i c),(32,.int .i64 (i:Int)),(33,.int .i64 (k:Int))]) (fun k=>[.row Q0w i c' 92 256 (QW ((List.range k).foldl (Yy F) (iter (J1 F) t (F.map Kr)))),.blk bf Qqk]) 0 [0,1] Q1 Z4 KW rfl ?_;rintro k hk;by_cases hkn:k<i
   ·obtain⟨rk,Ab,cb,An,cn,Ap,cp,hrk,hrg,hlk⟩:=HFM.out.rl hkn;have HRK:=Q2 hrk;have HLK:=Q2 hlk;have HOK:=Q2 (HF.out k rk hrk);clear hrk hlk
    repeat(first|refine Q4 zM ?_|refine Q4 zA ?_|refine Q4 (zD 0) ?_|refine Q4 (zD 1) ?_|refine Q4 zE ?_|refine Q4 Q4O ?_|refine yA (t:=65) fun b7=>?_|refine yW 0 ?_|refine Qd QsB rfl Q1 (fun z hz=>?_)|refine Qg ?_|refine Qa ?_|refine Q6 ?_|refine Qp ?_|refine Q9 rfl ?_|refine Qi ?_|refine Q4 zL ?_|refine Q4 zlt ?_)
    obtain⟨A2,c2⟩:=z;have hbl:=Q7M HOK.out;refine QK (ι:=Nat) (fun j=>j<=(bl rk).length) (fun j=>(bl rk).length - j) (fun j=>[(1,.pointer Q2P),(3,.slice (some ⟨br,0,none⟩) i c'),(6,.int .i64 (k:Int)),(27,.int .i64 (i:Int)),(28,.int .i64 (t:Int)),(31,.slice (some ⟨b,o,none⟩) i c),(32,.int .i64 (i:Int)),(33,.int .i64 (k:Int)),(39,.slice A2 (bl rk).length c2),(40,.int .i64 ((bl rk).length:Int)),(41,.int .i64 (j:Int))]) (fun j=>[.rd A2 (bl rk).length 1 (iv (bl rk)),.row (some ⟨br,0,none⟩) i c' 92 256 (QW (((bg F k).take j).foldl (fun S x=>Vn S k x) ((List.range k).foldl (Yy F) (iter (J1 F) t (F.map Kr))))),.blk bf (.cells [.slice (some ⟨b,o,none⟩) i c].toArray 24 (0,0))]) 0 [0,2,3] Q1 Z4 (.cons rfl rfl (.cons rfl rfl Qlm)) rfl ?_;rintro j hj;by_cases hjn:j<(bl rk).length
    ·refine Q9c 0 rfl Q3 (fun b2 o2 hA=>?_);subst hA;obtain⟨x,hx⟩:∃x,(bl rk)[j]? =some x:=⟨_,List.getElem?_eq_getElem hjn⟩;have hxb:=Q9j HOK.out x Q07
     have hxn:0<=x/\x<(i:Int):=by have:=HLEN.out;omega
     clear hxb;have hxj:(iv (bl rk))[j]? =some (.int .i64 x):=by unfold iv;rw[List.getElem?_map,hx];rfl
     have hbgj:(bg F k)[j]? =some x.toNat:=by rw[Q4Z HRK.out,List.getElem?_map,hx];rfl
     have HBG:=Q2 hbgj;clear hbgj;obtain⟨S,hS⟩:∃S,S=((bg F k).take j).foldl (fun S x=>Vn S k x) ((List.range k).foldl (Yy F) (iter (J1 F) t (F.map Kr))):=⟨_,rfl⟩;have hSl:S.length=i:=by rw[hS,Q0r,KF,Yw,List.length_map];exact HLEN.out
     rw[<- hS];have HS:=Q2 hS;clear hS;have hxS:x.toNat<S.length:=by omega
     have hkS:k<S.length:=by omega
     repeat(first|refine Q4 zM ?_|refine Q4 zA ?_|refine Q4 (zi1 (hj:=hjn)) ?_|refine Q4 Q6T ?_|refine Q4 (Xz rfl rfl Q1 rfl rfl (fun w hw=>hw.cell_rd 0 rfl hxj)) ?_|refine Q4 (X4 (cs:=QP (S.getD x.toNat XH)) rfl rfl Q1 rfl rfl (fun w hw=>hw.range_sets 1 rfl hxS) YX) ?_|refine Qg ?_|refine Qa ?_|refine Q6 ?_|refine Qp ?_|refine Q9 rfl ?_|refine Qi ?_|refine Q4 zlt ?_)
     obtain⟨st,hst⟩:∃st,st=S.getD x.toNat XH:=⟨_,rfl⟩;rw[<- hst];have HST:=Q2 hst;clear hst;refine QK (ι:=Nat) (fun cc=>cc<=256) (fun cc=>256 - cc) (fun cc=>[(1,.pointer Q2P),(3,.slice (some ⟨br,0,none⟩) i c'),(6,.int .i64 (k:Int)),(27,.int .i64 (i:Int)),(28,.int .i64 (t:Int)),(31,.slice (some ⟨b,o,none⟩) i c),(32,.int .i64 (i:Int)),(33,.int .i64 (k:Int)),(39,.slice (some ⟨b2,o2,none⟩) (bl rk).length c2),(40,.int .i64 ((bl rk).length:Int)),(41,.int .i64 (j:Int)),(48,.agg (QP st).toArray),(49,.int .i64 (cc:Int))]) (fun cc=>[.rd (some ⟨b2,o2,none⟩) (bl rk).length 1 (iv (bl rk)),.row (some ⟨br,0,none⟩) i c' 92 256 (QW (Kq S k st cc)),.blk bf (.cells [.slice (some ⟨b,o,none⟩) i c].toArray 24 (0,0))]) 0 [0,1,2] Q1 Z4 (.cons rfl rfl (.cons rfl rfl (.cons rfl rfl (.cons rfl rfl Qlm)))) (by rw[QhM S k st hkS];rfl) ?_;rintro cc hcc;by_cases hcn:cc<256
     ·have hlt:k*256+cc<i*256:=by omega
      have hcell0:=Q3K (Kq S k st cc) k cc (by rw[Q3F];exact hkS) hcn;rw[Qbw S k st cc hkS] at hcell0;have hcell:(QW (Kq S k st cc))[0+k*256+cc*1]? =some (.bool ((S.getD k XH) cc)):=by
       rw[Nat.zero_add,Nat.mul_one,hcell0];show some (Value.bool (if cc<cc then _ else _))=_;rw[if_neg (Nat.lt_irrefl _)]
      clear hcell0;obtain⟨bb,hbb⟩:∃bb,(S.getD k XH) cc=bb:=⟨_,rfl⟩;rw[hbb] at hcell;have HB:=Q2 hbb;clear hbb;cases bb with
      |true=>
       skip;refine Qrn ?_
       refine QsD ?_;refine Qc 10 rfl Q5 Xt zS ?_;refine Qc 11 rfl Q5 Xt zY ?_;refine QoC ?_;refine X6 14 Q5 rfl rfl QnX JR rfl (fun _ _=>?_);refine X8 ?_ Q5;refine Qm4 ?_
       refine Qrt ?_;show [_,Qf.row _ _ _ _ _ ((QW (Kq S k st cc)).set (0+k*256+cc*1) (.bool true)),_]=[_,Qf.row _ _ _ _ _ (QW (Kq S k st (cc+1))),_];exact QnT
      |false=>
       skip;refine Qrn ?_
       refine QsD ?_;refine Qc 10 rfl Q5 Xt zM ?_;refine Qc 11 rfl Q5 Xt zN ?_;refine QoC ?_;refine X6 14 Q5 rfl rfl QnX JR rfl (fun _ _=>?_);refine X8 ?_ Q5;refine Qm4 ?_
       refine Qrt ?_;show [_,Qf.row _ _ _ _ _ ((QW (Kq S k st cc)).set (0+k*256+cc*1) (.bool (st cc))),_]=[_,Qf.row _ _ _ _ _ (QW (Kq S k st (cc+1))),_];exact QnT
     ·skip
      refine Qh9 ?_
      refine Qt (j+1) [0,1,2] Q1 Q3 (by show (bl rk).length - (j+1)<(bl rk).length - j;omega) (.cons rfl rfl (.cons rfl rfl (.cons rfl rfl Q7r))) ?_;obtain rfl:cc=256:=by omega
      show [_,Qf.row _ _ _ _ _ (QW (Kq S k st 256)),_]=[_,Qf.row _ _ _ _ _ (QW (((bg F k).take (j+1)).foldl (fun S x=>Vn S k x) _)),_];rw[HST.out,QnE S k x.toNat hkS,List.take_add_one,HBG.out,Option.toList_some,List.foldl_append,<- HS.out];rfl
    ·skip
     refine Qh9 ?_
     refine Qt (k+1) [1,2] Q1 hkn Q3 Q1T ?_;show [Qf.row _ _ _ _ _ _,_]=[Qf.row _ _ _ _ _ (QW ((List.range (k+1)).foldl (Yy F) _)),_];rw[List.range_succ,List.foldl_append,List.take_of_length_le (by rw[Q4Z HRK.out,List.length_map];omega)];rfl
   ·skip
    refine Qh9 ?_
    refine Qt (t+1) [0,1] Q1 htn Q3 mc2 ?_;have hkk:k=F.length:=by rw[HLEN.out];omega
    subst hkk;rfl
  ·skip
   repeat(first|refine Q4 zM ?_|refine Q4 zA ?_|refine Qg ?_|refine Qa ?_|refine Q6 ?_|refine Q8 rfl ?_|refine Xx ?_|refine QC ?_|refine Q4 zlf ?_)
   have htt:t=F.length:=by rw[HLEN.out];omega
   refine Q7 mc4 rfl (.tmp rfl) (fun w hw=>⟨br,c',rfl,?_,⟨?_,fun _=>⟨br,0,rfl,(hw.own 0 _ rfl).lt rfl,fun j u hu=>?_⟩⟩,hw.k.below⟩)
   ·rcases Nat.lt_or_ge br W.heap.size with h|h
    ·have:=hw.new 0 _ br rfl rfl h
     exact Q2D
    ·exact h
   ·unfold Yi;rw[Q8r,Yw,List.length_map,HLEN.out]
   ·rw[Nat.zero_add];refine hw.cell_row 0 rfl ?_;rw[htt];exact hu
end
section
variable {Ab An Ap:Option Addr}{S:List (Nat->Bool)}{W:World}{b c cb cn cp n s:Nat}{r:Rl}
section
variable {P:Program}{ops:Array Oper}{C:World->Prop}{N:Nat}{E:Env}{o:Oper}{d:Nat}
theorem Qcq{t e:TypeId}{x y:Operand}{q:Nat}{k:IntKind}{m:Int}[hT:Ar P t n e s](ho:o.op=.indexAddr t x y)(hd:o.dst=some d)(hN:d<N)(hw:Qo ops E o=some true)(hx:ev E x=some (.pointer (some ⟨b,q,none⟩)))(hy:ev E y=some (.int k m))(hj:0<=m/\m<n):oE P ops C N E ((d,.pointer (some ⟨b,q+m.toNat*s,none⟩))::E) o:=by
 obtain⟨j,rfl⟩:∃j:Nat,m=(j:Int):=⟨m.toNat,by omega⟩;exact Jc ho hd hN hw hx hy Q3
end
theorem Rd.cellAt{w:World}{B j:Nat}{xs:List Value}{u:Value}(h:Rd w B s (some ⟨b,0,none⟩) n xs)(hn:0<n)(hu:xs[j]? =some u):w.cell? ⟨b,0+j,none⟩=some u:=by
 obtain⟨b',o,e,_,hc⟩:=h.2 hn;cases e;exact hc j u hu
def VZ(S:List (Nat->Bool)):(Nat->Bool)->List Int->Bool
 |_,[]=>false
 |seen,x::l=>(List.range 256).any (fun c=>(S.getD x.toNat XH) c&&seen c)||VZ S (orS seen (S.getD x.toNat XH)) l
def Ze(S:List (Nat->Bool))(r:Rl):Bool:=
 if r.kind=9 then (S.getD r.elem.toNat XH) r.stop.toNat else if r.kind=8 then VZ S noS r.parts else false
def Q8X(S:List (Nat->Bool))(l:List Int):Nat->Bool:=l.foldl (fun s x=>orS s (S.getD x.toNat XH)) noS
theorem Q1o(S:List (Nat->Bool)):∀(l m:List Int) (s:Nat->Bool),VZ S s (l++m)=(VZ S s l||VZ S (l.foldl (fun s x=>orS s (S.getD x.toNat XH)) s) m)
 |[],m,s=>rfl
 |x::l,m,s=>by
  rw[List.cons_append,VZ,VZ,Q1o S l m,List.foldl_cons,Bool.or_assoc]
def ZC(s t:Nat->Bool)(c:Nat):Nat->Bool:=fun j=>if j<c then s j||t j else s j
theorem Qcn(s t:Nat->Bool):ZC s t 0=s:=by funext j;simp [ZC]
theorem QfO(s t:Nat->Bool):QP (ZC s t 256)=QP (orS s t):=ZO fun j hj=>by simp [ZC,hj,orS]
theorem QbY(s t:Nat->Bool)(c:Nat):(QP (ZC s t c)).set c (.bool (s c||t c))=QP (ZC s t (c+1)):=by
 rw[Q14];congr 1;funext j;unfold ZC;by_cases h1:j=c
 ·subst h1;simp
 ·by_cases h2:j<c
  ·have:j<c+1:=by omega
   simp [h1,h2,this]
  ·have:¬j<c+1:=by omega
   simp [h1,h2,this]
theorem Qi4(s t:Nat->Bool)(hc:c<256):(QP (ZC s t c))[c]? =some (.bool (s c)):=by
 rw[ZI _ hc];simp [ZC]
theorem QdP(hr:ROk n r)(hS:S.length=n)(hrd:Rd W W.heap.size 256 (some ⟨b,0,none⟩) n (QW S))(hk:r.kind=9):
  Calls Tryz.prog 120 #[.agg (ruC r (.slice Ab r.bs.length cb) (.slice An r.names.length cn) (.slice Ap r.parts.length cp)).toArray,.slice (some ⟨b,0,none⟩) n c] W (QU W (Ze S r)):=by
 obtain⟨name,kind,bs,size,big,mn,mx,stop,count,elem,names,parts⟩:=r;have he:=hr.elem (.inr hk);have hs:=hr.stop (.inr (.inr hk));simp only at he hs hk;subst hk;have hs':0<=stop/\stop<(256:Nat):=by omega
 have hcell:W.cell? ⟨b,0+elem.toNat*256+stop.toNat*1,none⟩=some (.bool ((S.getD elem.toNat XH) stop.toNat)):=by
  rw[Nat.mul_one,Nat.add_assoc];exact hrd.cellAt Q3 (Q3K S _ _ Q3 Q3)
 go_enter Tryz.func120,Tryz.ntmps120;refine Qz (M:=[]) (W:=W) (N:=55) (E:=[(0,.agg (ruC Qlj (.slice Ab bs.length cb) (.slice An names.length cn) (.slice Ap parts.length cp)).toArray),(1,.slice Q0v n c)]) (O:=[]) ?_ mc3 QR;repeat(first|refine Q4 zA ?_|refine Q4 zF ?_|refine Q4 (zB 0) ?_|refine Q4 zC ?_|refine yB fun br=>?_|refine Qg ?_|refine Qa ?_|refine Q6 ?_|refine Q9 rfl ?_|refine Qi ?_|refine Q4 zer ?_)
 repeat(first|refine Qe zM ?_|refine Qe zA ?_|refine Qe zF ?_|refine Qe (zB 0) ?_|refine Qe zC ?_|refine Qe (QG rfl rfl Q1 rfl rfl rfl he) ?_|refine Qe (Qcq rfl rfl Q1 rfl rfl rfl hs') ?_|refine JW ?_|refine Xm Q5 Q5 ?_)
 refine yt<|yk<|yc ?_;refine Q7 mc4 rfl (.tmp rfl) (fun w hw=>QN rfl hw)
theorem Qeg{A:Option Addr}(h9:(r.kind==9)=false)(h8:(r.kind==8)=false):
  Calls Tryz.prog 120 #[.agg (ruC r (.slice Ab r.bs.length cb) (.slice An r.names.length cn) (.slice Ap r.parts.length cp)).toArray,.slice A n c] W (QU W (Ze S r)):=by
 go_enter Tryz.func120,Tryz.ntmps120;refine Qz (M:=[]) (W:=W) (N:=55) (E:=[QtW,(1,.slice A n c)]) (O:=[]) ?_ mc3 QR;repeat(first|refine Q4 zA ?_|refine Q4 zF ?_|refine Q4 (zB 0) ?_|refine yB fun br=>?_|refine Qg ?_|refine Qa ?_|refine Q6 ?_|refine Qp ?_|refine Q8 rfl ?_|refine QC ?_|refine Qi ?_|refine Q4 zea ?_)
 refine Q7 mc4 rfl (.tmp rfl) (fun w hw=>QN ?_ hw);unfold Ze;rw[if_neg (by simpa using h9),if_neg (by simpa using h8)]
theorem Qep(hl:RuL W r Ab cb An cn Ap cp)(hr:ROk n r)(hS:S.length=n)(hrd:Rd W W.heap.size 256 (some ⟨b,0,none⟩) n (QW S))(hk:r.kind=8):
  Calls Tryz.prog 120 #[.agg (ruC r (.slice Ab r.bs.length cb) (.slice An r.names.length cn) (.slice Ap r.parts.length cp)).toArray,.slice (some ⟨b,0,none⟩) n c] W (QU W (Ze S r)):=by
 have h12:=hr.p12;have h2:=hr.eight hk;have hin:=hr.parts (.inr hk);have hp:=hl.p;obtain⟨name,kind,bs,size,big,mn,mx,stop,count,elem,names,parts⟩:=r;simp only at h12 h2 hin hp hk;subst hk;have HIN:=Q2 hin;have HRD:=Q2 hrd;clear hin hrd hl hr;obtain⟨bp,op,hA,hpb,hpc⟩:=hp.2 Q3;subst hA;have HPC:=Q2 hpc;clear hp hpc;have hconf:Ze S ⟨name,8,bs,size,big,mn,mx,stop,count,elem,names,parts⟩=VZ S noS parts:=rfl;rw[hconf];clear hconf;go_enter Tryz.func120,Tryz.ntmps120;refine Qz (M:=[]) (W:=W) (N:=55) (E:=[(0,.agg (ruC ⟨name,8,bs,size,big,mn,mx,stop,count,elem,names,parts⟩ (.slice Ab bs.length cb) (.slice An names.length cn) (.slice (some ⟨bp,op,none⟩) parts.length cp)).toArray),(1,.slice Q0v n c)]) (O:=[]) ?_ mc3 (Wd.start [] W);repeat(first|refine Q4 zM ?_|refine Q4 zA ?_|refine Q4 zF ?_|refine Q4 (zB 0) ?_|refine Q4 (zB 1) ?_|refine yB fun br=>?_|refine yA (t:=92) fun b7=>?_|refine Qg ?_|refine Qa ?_|refine Q6 ?_|refine Q9 rfl ?_|refine Q8 rfl ?_|refine Qi ?_|refine Q4 zL ?_|refine Q4 zer ?_)
 refine QK (ι:=Nat) (fun j=>j<=parts.length/\VZ S noS (parts.take j)=false) (fun j=>parts.length - j) (fun j=>[(1,.slice Q0v n c),(5,.pointer (some ⟨b7,0,none⟩)),(25,.slice (some ⟨bp,op,none⟩) parts.length cp),(26,.int .i64 (parts.length:Int)),(27,.int .i64 (j:Int))]) (fun j=>[.blk b7 (.cells (QP (Q8X S (parts.take j))).toArray 92 (0,0))]) 0 [0] Q1 QfH Vg rfl ?_;rintro j ⟨hj,hno⟩;have HNO:=Q2 hno;clear hno;by_cases hjn:j<parts.length
 ·obtain⟨x,hx⟩:∃x,parts[j]? =some x:=⟨_,List.getElem?_eq_getElem hjn⟩;have hxn:=HIN.out x Q07;have hcj:W.cell? ⟨bp,op+j,none⟩=some (.int .i64 x):=HPC.out j _ (by unfold iv;rw[List.getElem?_map,hx];rfl);have HX:=Q2 hx;clear hx;obtain⟨st,hst⟩:∃st,st=S.getD x.toNat XH:=⟨_,rfl⟩;obtain⟨s,hs⟩:∃s,s=Q8X S (parts.take j):=⟨_,rfl⟩
  have hset:W.rangeAt b (0+x.toNat*256) (QP st):=fun q u hu=>by
   rw[Nat.add_assoc];rw[hst] at hu;exact HRD.out.cellAt Q3 (Q2J S x.toNat Q3 q u hu)
  rw[<- hs];have HST:=Q2 hst;have HS:=Q2 hs;clear hst hs;repeat(first|refine Q4 zM ?_|refine Q4 zA ?_|refine Q4 zC ?_|refine Q4 (zD 0) ?_|refine Q4 zE ?_|refine Q4 (zi1 (hj:=hjn)) ?_|refine Q4 Q6T ?_|refine Qg ?_|refine Qa ?_|refine Q6 ?_|refine Qp ?_|refine Q9 rfl ?_|refine Qi ?_|refine Q4 zlt ?_)
  refine QK (ι:=Nat) (fun q=>q<=256/\∀i,i<q->(st i&&s i)=false) (fun q=>256 - q) (fun q=>[(1,.slice Q0v n c),(5,.pointer (some ⟨b7,0,none⟩)),(25,.slice (some ⟨bp,op,none⟩) parts.length cp),(26,.int .i64 (parts.length:Int)),(27,.int .i64 (j:Int)),(34,.agg (QP st).toArray),(35,.int .i64 (q:Int))]) (fun q=>[.blk b7 (.cells (QP (ZC s st q)).toArray 92 (0,0))]) 0 [0] Q1 ⟨Nat.zero_le _,fun i hi=>absurd hi (Nat.not_lt_zero _)⟩ KW (by rw[Qcn];rfl) ?_;rintro q ⟨hq,hmn⟩;have HMN:=Q2 hmn;clear hmn;by_cases hqn:q<256
  ·have hc0:(QP (ZC s st q))[0+q*1]? =some (.bool (s q)):=by rw[Nat.zero_add,Nat.mul_one];exact Qi4 s st hqn
   obtain⟨sq,hsq⟩:∃sq,s q=sq:=⟨_,rfl⟩;obtain⟨tq,htq⟩:∃tq,st q=tq:=⟨_,rfl⟩;have htc:(QP st)[q]? =some (.bool tq):=by rw[ZI st hqn,htq]
   rw[hsq] at hc0;have HSQ:=Q2 hsq;have HTQ:=Q2 htq;clear hsq htq;cases tq with
   |true=>
    cases sq with
    |true=>
     repeat(first|refine Q4 zM ?_|refine Q4 zA ?_|refine Q4 Qm2 ?_|refine Q4 QgA ?_|refine Q4 (zV 0 hc0) ?_|refine Qg ?_|refine Qa ?_|refine Q6 ?_|refine Qp ?_|refine Q9 rfl ?_|refine QC ?_|refine Qi ?_|refine Qk ?_|refine Qu ?_|refine Q4 Q4m ?_|refine Q4 zY ?_)
     refine Q7 mc4 rfl (.tmp rfl) (fun w hw=>QN ?_ hw);have e1:VZ S noS (parts.take (j+1))=true:=by
      rw[List.take_add_one,HX.out,Option.toList_some,Q1o,HNO.out,Bool.false_or,VZ,Bool.or_eq_true];refine .inl (List.any_eq_true.2 ⟨q,List.mem_range.2 hqn,?_⟩);rw[<- HST.out,HTQ.out];show (true&&Q8X S (parts.take j) q)=true;rw[<- HS.out,HSQ.out];rfl
     have e2:=Q1o S (parts.take (j+1)) (parts.drop (j+1)) noS;rw[List.take_append_drop,e1,Bool.true_or] at e2;exact e2.symm
    |false=>
     repeat(first|refine Q4 zM ?_|refine Q4 zA ?_|refine Q4 Qm2 ?_|refine Q4 QgA ?_|refine Q4 (zV 0 hc0) ?_|refine QD Qfz rfl (fun _ _=>?_)|refine Qg ?_|refine Qa ?_|refine Q6 ?_|refine Qp ?_|refine Q9 rfl ?_|refine Q8 rfl ?_|refine Qi ?_|refine Q4 Q4m ?_|refine Q4 zY ?_|refine Q4 zN ?_|refine Q4 zP ?_)
     refine Qt (q+1) [0] Q1 ⟨hqn,fun i hi=>?_⟩ Qea Q1T ?_
     ·rcases Nat.lt_or_ge i q with h|h
      ·exact HMN.out i h
      ·obtain rfl:i=q:=by omega
       rw[HTQ.out,HSQ.out];rfl
     ·show [Qf.blk b7 (.cells ((QP (ZC s st q)).set (0+q*1) (.bool true)).toArray _ _)]=[Qf.blk b7 (.cells (QP (ZC s st (q+1))).toArray _ _)]
      exact QmC
   |false=>
    cases sq with
    |true=>
     repeat(first|refine Q4 zM ?_|refine Q4 zA ?_|refine Q4 zS ?_|refine Q4 QjC ?_|refine Q4 QgA ?_|refine Q4 (zV 0 hc0) ?_|refine QD Qfz rfl (fun _ _=>?_)|refine Qg ?_|refine Qa ?_|refine Q6 ?_|refine Qp ?_|refine Q9 rfl ?_|refine Q8 rfl ?_|refine Qi ?_|refine Q4 Q4m ?_|refine Q4 zY ?_|refine Q4 zN ?_|refine Q4 zP ?_)
     refine Qt (q+1) [0] Q1 ⟨hqn,fun i hi=>?_⟩ Qea Q1T ?_
     ·rcases Nat.lt_or_ge i q with h|h
      ·exact HMN.out i h
      ·obtain rfl:i=q:=by omega
       rw[HTQ.out,HSQ.out];rfl
     ·show [Qf.blk b7 (.cells ((QP (ZC s st q)).set (0+q*1) (.bool true)).toArray _ _)]=[Qf.blk b7 (.cells (QP (ZC s st (q+1))).toArray _ _)]
      exact QmC
    |false=>
     repeat(first|refine Q4 zM ?_|refine Q4 zA ?_|refine Q4 zS ?_|refine Q4 QjC ?_|refine Q4 QgA ?_|refine Q4 (zV 0 hc0) ?_|refine QD Qfz rfl (fun _ _=>?_)|refine Qg ?_|refine Qa ?_|refine Q6 ?_|refine Qp ?_|refine Q9 rfl ?_|refine Q8 rfl ?_|refine Qi ?_|refine Q4 Q4m ?_|refine Q4 zN ?_|refine Q4 zP ?_)
     refine Qt (q+1) [0] Q1 ⟨hqn,fun i hi=>?_⟩ Qea Q1T ?_
     ·rcases Nat.lt_or_ge i q with h|h
      ·exact HMN.out i h
      ·obtain rfl:i=q:=by omega
       rw[HTQ.out,HSQ.out];rfl
     ·show [Qf.blk b7 (.cells ((QP (ZC s st q)).set (0+q*1) (.bool false)).toArray _ _)]=[Qf.blk b7 (.cells (QP (ZC s st (q+1))).toArray _ _)]
      exact QmC
  ·skip
   refine Qh9 ?_
   obtain rfl:q=256:=by omega
   refine Qt (j+1) [0] Q1 ⟨hjn,?_⟩ Q4Y Yj ?_
   ·rw[List.take_add_one,HX.out,Option.toList_some,Q1o,HNO.out,Bool.false_or,VZ]
    show (_||false)=false;rw[Bool.or_false,List.any_eq_false];intro i hi;rw[<- HST.out];have:=HMN.out i (List.mem_range.1 hi);show ¬(st i&&Q8X S (parts.take j) i)=true;rw[<- HS.out,this];exact Bool.false_ne_true
   ·show [Qf.blk b7 (.cells (QP (ZC s st 256)).toArray _ _)]=[Qf.blk b7 (.cells (QP (Q8X S (parts.take (j+1)))).toArray _ _)]
    rw[QfO,List.take_add_one,HX.out,Option.toList_some];unfold Q8X;rw[List.foldl_append,HST.out,HS.out];rfl
 ·skip
  refine QrG ?_
  refine Q7 mc4 rfl (.tmp rfl) (fun w hw=>QN ?_ hw);have:=HNO.out;rw[List.take_of_length_le Q3] at this;exact this.symm
theorem Q65(hl:RuL W r Ab cb An cn Ap cp)(hr:ROk n r)(hS:S.length=n)(hrd:Rd W W.heap.size 256 (some ⟨b,0,none⟩) n (QW S)):
  Calls Tryz.prog 120 #[.agg (ruC r (.slice Ab r.bs.length cb) (.slice An r.names.length cn) (.slice Ap r.parts.length cp)).toArray,.slice (some ⟨b,0,none⟩) n c] W (QU W (Ze S r)):=by
 by_cases h9:r.kind=9
 ·exact QdP hr hS hrd h9
 ·by_cases h8:r.kind=8
  ·exact Qep hl hr hS hrd h8
  ·exact Qeg (beq_eq_false_iff_ne.2 h9) (beq_eq_false_iff_ne.2 h8)
end
section
variable {k n:Nat}{p:Nat->Bool}{r:Rl}
def Xl(n:Nat)(p:Nat->Bool):Option Nat:=(List.range n).find? p
theorem Jl(hk:k<n)(hp:p k=true)(hl:∀j,j<k->p j=false):Xl n p=some k:=by
 unfold Xl;rw[List.find?_range_eq_some];exact⟨hp,List.mem_range.2 hk,fun j hj=>by rw[hl j hj];rfl⟩
theorem Xp(hl:∀j,j<n->p j=false):Xl n p=none:=by
 unfold Xl;rw[List.find?_eq_none];intro j hj;rw[hl j (List.mem_range.1 hj)];exact Bool.false_ne_true
theorem K1(h:Xl n p=none):∀j,j<n->p j=false:=fun j hj=>by
 unfold Xl at h;rw[List.find?_eq_none] at h;have:=h j (List.mem_range.2 hj);cases hp:p j with
 |false=>rfl
 |true=>exact absurd hp this
theorem Q1j(h:Xl n p=some k):k<n/\p k=true/\∀j,j<k->p j=false:=by
 unfold Xl at h;rw[List.find?_range_eq_some] at h;exact⟨List.mem_range.1 h.2.1,h.1,fun j hj=>by simpa using h.2.2 j hj⟩
def Zb(F:List Rl)(k:Nat):Int:=match F[k]? with|some r=>Xs r (F.take k) F.length|none=>0
def JC(F:List Rl)(k:Nat):Int:=match F[k]? with|some r=>J3 F r|none=>0
def ZF(F:List Rl)(k:Nat):Bool:=match F[k]? with|some r=>Ze (Yi F) r|none=>false
theorem Q1p{F:List Rl}(h:F[k]? =some r):Zb F k=Xs r (F.take k) F.length:=by unfold Zb;rw[h]
theorem Q0z{F:List Rl}(h:F[k]? =some r):JC F k=J3 F r:=by unfold JC;rw[h]
theorem Q6s{F:List Rl}(h:F[k]? =some r):ZF F k=Ze (Yi F) r:=by unfold ZF;rw[h]
def Xf(F:List Rl):Int×Int:=
 if F.length=0 then (10,-1) else if 40<F.length then (2,-1) else
 match Xl F.length (fun k=>Zb F k != 0) with
 |some k=>(Zb F k,k)
 |none=>match Xl F.length (fun k=>JC F k != 0) with
  |some k=>(JC F k,k)
  |none=>match Xl F.length (Q1u F) with
   |some k=>(22,k)
   |none=>match Xl F.length (fun k=>!((Zk F).getD k false)) with
    |some k=>(24,k)
    |none=>match Xl F.length (ZF F) with
     |some k=>(23,k)
     |none=>(0,0)
section
variable {F:List Rl}
theorem Q3t(h:F.length=0):Xf F=(10,-1):=by unfold Xf;rw[if_pos h]
theorem Q4J(h:40<F.length):Xf F=(2,-1):=by unfold Xf;rw[if_neg Q3,if_pos h]
theorem Q57(h0:0<F.length)(h1:F.length<=40)(hk:k<F.length)(hp:Zb F k≠0)(hl:∀j,j<k->Zb F j=0):Xf F=(Zb F k,(k:Int)):=by
 unfold Xf;rw[if_neg Q3,if_neg Q3,Jl hk (by simpa using hp) (fun j hj=>by simpa using hl j hj)]
theorem Q61(h0:0<F.length)(h1:F.length<=40)(ha:∀j,j<F.length->Zb F j=0)(hk:k<F.length)(hp:JC F k≠0)(hl:∀j,j<k->JC F j=0):Xf F=(JC F k,(k:Int)):=by
 unfold Xf;rw[if_neg Q3,if_neg Q3,Xp (fun j hj=>by simpa using ha j hj),Jl hk (by simpa using hp) (fun j hj=>by simpa using hl j hj)]
theorem Q7L(h0:0<F.length)(h1:F.length<=40)(ha:∀j,j<F.length->Zb F j=0)(hb:∀j,j<F.length->JC F j=0)(hk:k<F.length)(hp:Q1u F k=true)(hl:∀j,j<k->Q1u F j=false):Xf F=(22,(k:Int)):=by
 unfold Xf;rw[if_neg Q3,if_neg Q3,Xp (fun j hj=>by simpa using ha j hj),Xp (fun j hj=>by simpa using hb j hj),Jl hk hp hl]
def Ks(F:List Rl):Int×Int:=
 match Xl F.length (fun k=>!((Zk F).getD k false)) with
 |some k=>(24,k)
 |none=>match Xl F.length (ZF F) with
  |some k=>(23,k)
  |none=>(0,0)
theorem Q4W(h0:0<F.length)(h1:F.length<=40)(ha:∀j,j<F.length->Zb F j=0)(hb:∀j,j<F.length->JC F j=0)(hc:∀j,j<F.length->Q1u F j=false):Xf F=Ks F:=by
 unfold Xf;rw[if_neg Q3,if_neg Q3,Xp (fun j hj=>by simpa using ha j hj),Xp (fun j hj=>by simpa using hb j hj),Xp hc];rfl
def Q41(l:List Bool):Int:=match Xl l.length (fun k=>!(l.getD k false)) with|some k=>(k:Int)|none=>-1
theorem Qfq(hl:(Zk F).length=F.length)(h:0<=Q41 (Zk F)):Ks F=(24,Q41 (Zk F)):=by
 unfold Q41 at h ⊢;rw[hl] at h ⊢;unfold Ks;cases hf:Xl F.length (fun k=>!((Zk F).getD k false)) with
 |none=>rw[hf] at h;exact Qcv
 |some k=>rfl
theorem Q38(hl:(Zk F).length=F.length)(h:¬0<=Q41 (Zk F))(hk:k<F.length)(hp:ZF F k=true)(hj:∀j,j<k->ZF F j=false):Ks F=(23,(k:Int)):=by
 unfold Q41 at h;rw[hl] at h;unfold Ks;cases hf:Xl F.length (fun k=>!((Zk F).getD k false)) with
 |some k=>rw[hf] at h;exact absurd (Int.natCast_nonneg k) h
 |none=>rw[Jl hk hp hj]
theorem Q8z(hl:(Zk F).length=F.length)(h:¬0<=Q41 (Zk F))(hj:∀j,j<F.length->ZF F j=false):Ks F=(0,0):=by
 unfold Q41 at h;rw[hl] at h;unfold Ks;cases hf:Xl F.length (fun k=>!((Zk F).getD k false)) with
 |some k=>rw[hf] at h;exact absurd (Int.natCast_nonneg k) h
 |none=>rw[Xp hj]
theorem Qe8(h:∀j,j<F.length->Zb F j=0):FOk F:=fun i r hr=>by
 have hi:i<F.length:=(List.getElem?_eq_some_iff.1 hr).1;have:=h i hi;rw[Q1p hr] at this;exact QtB this
theorem Qte(h:ROk n r):Qhm n r:=⟨fun hc=>h.count (by
  unfold QE XR at hc
  simp at hc
  omega),fun h7=>⟨(h.seven h7).1.symm,h.parts (.inl h7)⟩⟩
end
end
def Qn0(name:List UInt8)(k:Int):Rl:=⟨name,k,[],0,false,0,0,0,0,0,[],[]⟩
def Qay(F:List Rl):List (List UInt8)->Option (List Int)
 |[]=>some []
 |s::l=>if Vd F s<0 then none else (Qay F l).map (Vd F s::·)
def QI(F:List Rl):Int×Int:=if Xf F≠(0,0) then Xf F else if 2000<(K4 F).length then (14,-1) else (0,0)
section
variable {k v:Int}{n:Nat}{r:Rl}{α β:Type}
theorem QoY(h:0<=v):Lib.itoa v=Lib.decDigits v.toNat:=by unfold Lib.itoa;rw[if_neg Q3]
end
section
variable {n:Nat}{r:Rl}
structure Zr(r:Rl):Prop where
 bs:r.kind≠1->r.bs=[]
 stop:r.kind≠3->r.kind≠5->r.kind≠9->r.stop=0
 size:r.kind≠2->r.kind≠4->r.kind≠5->r.size=0
 big:r.kind≠2->r.big=false
 mn:r.kind≠2->r.mn=0
 mx:r.kind≠2->r.kind≠3->r.mx=0
 count:r.kind≠6->r.kind≠10->r.count=0
 elem:r.kind≠6->r.kind≠9->r.elem=0
 names:r.kind≠7->r.names=[]
 parts:r.kind≠7->r.kind≠8->r.parts=[]
theorem QnQ(h:ROk n r):Zr r:=by
 have hf:=h.formed;unfold Xd XS XT Z8 QE JS Jo XR at hf;simp only[Bool.and_eq_true,Bool.or_eq_true,beq_iff_eq,List.contains_iff_mem,List.mem_cons,List.not_mem_nil,or_false,Bool.not_eq_true'] at hf;obtain⟨⟨⟨⟨⟨⟨⟨⟨h1,h2⟩,h3⟩,h4⟩,h5⟩,h6⟩,h7⟩,h8⟩,h9⟩:=hf;refine⟨fun h=>?_,fun _ _ _=>by omega,fun _ _ _=>by omega,fun h=>?_,fun h=>?_,fun _ _=>by omega,fun _ _=>by omega,fun _ _=>by omega,fun h=>?_,fun h h'=>?_⟩
 ·exact Qhw
 ·exact(h4.resolve_right h).1
 ·exact(h4.resolve_right h).2
 ·exact Qhw
 ·exact Qhw
structure LOk(F:List Rl)(r:Rl):Prop where
 ok:ROk F.length r
 name:QA r.name=true
 all:∀x:Int,0<=x/\x<F.length->QA (K3 F x)=true
 part:r.kind=7->∀s∈r.names,s=[]\/QA s=true
end
section
variable {i n:Nat}{r:Rl}
theorem QeY{F:List Rl}{s:List UInt8}(h:Vd F s<0):∀(j:Nat) (r:Rl),F[j]? =some r->¬r.name=s:=by
 unfold Vd at h;cases hf:F.findIdx? (fun r=>r.name==s) with
 |some i=>rw[hf] at h;simp only at h;omega
 |none=>
  rw[List.findIdx?_eq_none_iff] at hf;intro j r hr hn;have:=hf r (List.mem_of_getElem? hr);rw[hn] at this;simp at this
theorem Qfx{early:List Rl}(h:Xs r early n=0):QA r.name=true/\Vd early r.name<0:=by
 unfold Xs at h;split at h
 ·cases h
 next h1=>
 split at h
 ·cases h
 next h2=>
 refine⟨by simpa using h1,?_⟩;simpa using h2
theorem Q5k{g:Nat->Int}:∀(n i:Nat),J0 g i n=0->∀j,i<=j->j<i+n->g j=0
 |0,i,_,j,h1,h2=>absurd h1 Q3
 |n+1,i,h,j,h1,h2=>by
  rw[J0] at h
  split at h
  ·next h0=>
   rcases Nat.eq_or_lt_of_le h1 with rfl|h3
   ·exact h0
   ·exact Q5k n (i+1) h j h3 Q3
  ·next h0=>exact absurd h h0
theorem Qel{F:List Rl}(h:J3 F r=0)(hk:r.kind=7):∀s∈r.names,s=[]\/QA s=true:=by
 have hc:QE r.kind=false:=by rw[hk];rfl
 unfold J3 at h;rw[hc,hk] at h;have h:J0 (Zq F r.names r.parts) 0 r.names.length=0:=h;intro s hs;obtain⟨j,hj,e⟩:=List.mem_iff_getElem.1 hs;have h0:=Q5k _ _ h j Q3 Q3;unfold Zq at h0;rw[List.getD_eq_getElem?_getD,List.getElem?_eq_getElem hj,e] at h0;simp only[Option.getD_some] at h0;split at h0
 ·next h1=>exact .inl (by simpa using h1)
 ·split at h0
  ·cases h0
  ·next h2=>exact .inr (by simpa using h2)
structure POk(F:List Rl):Prop where
 rule:∀j,j<F.length->Zb F j=0
 use:∀j,j<F.length->JC F j=0
theorem Q6Q{F:List Rl}(h:Xf F=(0,0)):POk F:=by
 unfold Xf at h;split at h
 ·cases h
 split at h
 ·cases h
 cases h1:Xl F.length (fun k=>Zb F k != 0) with
 |some k=>rw[h1] at h;have:=(Q1j h1).2.1;simp only[Prod.mk.injEq] at h;rw[h.1] at this;cases this
 |none=>
  rw[h1] at h;simp only at h;cases h2:Xl F.length (fun k=>JC F k != 0) with
  |some k=>rw[h2] at h;have:=(Q1j h2).2.1;simp only[Prod.mk.injEq] at h;rw[h.1] at this;cases this
  |none=>exact⟨fun j hj=>by simpa using K1 h1 j hj,fun j hj=>by simpa using K1 h2 j hj⟩
section
variable {F:List Rl}
theorem POk.name(h:POk F)(hr:F[i]? =some r):QA r.name=true/\Vd (F.take i) r.name<0:=by
 have:=h.rule i (List.getElem?_eq_some_iff.1 hr).1;rw[Q1p hr] at this;exact Qfx this
theorem POk.fok(h:POk F):FOk F:=Qe8 h.rule
theorem POk.self(h:POk F)(hr:F[i]? =some r):Vd F r.name=(i:Int):=
 Q43 hr rfl fun j r' hj hr'=>QeY (h.name hr).2 j r' (by rw[List.getElem?_take,if_pos hj];exact hr')
theorem POk.find(h:POk F){x:Int}(hx:0<=x/\x<F.length):QA (K3 F x)=true/\Vd F (K3 F x)=x:=by
 have hr:F[x.toNat]? =some F[x.toNat]:=List.getElem?_eq_getElem Q3;rw[Q3d hr];refine⟨(h.name hr).1,?_⟩;rw[h.self hr];omega
theorem POk.line(h:POk F)(hr:F[i]? =some r):LOk F r:=
 ⟨h.fok i r hr,(h.name hr).1,fun x hx=>(h.find hx).1,fun hk=>Qel (by
  have:=h.use i (List.getElem?_eq_some_iff.1 hr).1
  rwa [Q0z hr] at this) hk⟩
end
end
section
variable {F:List Rl}{a b:List Bool}
theorem LeB.antisymm(h:LeB a b)(k:LeB b a):a=b:=ZB h.1 fun i hi=>by
 cases ha:a.getD i false with
 |true=>exact(h.2 i ha).symm
 |false=>
  cases hb:b.getD i false with
  |false=>rfl
  |true=>rw[k.2 i hb] at ha;cases ha
theorem LeB.of_false(n:Nat)(h:b.length=n):LeB (List.replicate n false) b:=⟨by rw[List.length_replicate,h],fun i hi=>by
 simp only[List.getD_eq_getElem?_getD,List.getElem?_replicate] at hi
 split at hi<;>simp at hi⟩
theorem Qdo(h:LeB a b){x:Int}(hx:mk a x=true):mk b x=true:=h.2 _ hx
theorem Q46{r:Rl}(h:LeB a b)(ho:JL F a r=true):JL F b r=true:=by
 unfold JL at ho ⊢;by_cases h10:r.kind=10
 ·rw[if_pos h10] at ho ⊢;exact Qdo h ho
 rw[if_neg h10] at ho ⊢;by_cases h6:r.kind=6
 ·rw[if_pos h6] at ho ⊢;rw[Bool.and_eq_true,Bool.or_eq_true] at ho ⊢;exact⟨Qdo h ho.1,ho.2.imp id (Qdo h)⟩
 rw[if_neg h6] at ho ⊢;by_cases h7:r.kind=7
 ·rw[if_pos h7] at ho ⊢;rw[Bool.not_eq_true',List.any_eq_false] at ho ⊢;intro x hx hb;refine ho x hx ?_;rw[Bool.not_eq_true'] at hb ⊢
  cases e:mk a x with
  |false=>rfl
  |true=>rw[Qdo h e] at hb;cases hb
 rw[if_neg h7] at ho ⊢;by_cases h8:r.kind=8
 ·rw[if_pos h8] at ho ⊢;rw[List.any_eq_true] at ho ⊢;obtain⟨x,hx,hb⟩:=ho;exact⟨x,hx,Qdo h hb⟩
 ·rw[if_neg h8]
def KU(F:List Rl)(out:List Bool):List Bool:=F.map (JL F out)
def VM(F:List Rl)(t:Nat):List Bool:=iter (KU F) t (List.replicate F.length false)
theorem Q1e(F:List Rl)(out:List Bool):(KU F out).length=F.length:=by unfold KU;rw[List.length_map]
theorem Jp(F:List Rl):∀t,(VM F t).length=F.length
 |0=>List.length_replicate
 |t+1=>Q1e F _
theorem Q1i(F:List Rl)(out:List Bool)(i:Nat):(KU F out).getD i false=match F[i]? with|some r=>JL F out r|none=>false:=by
 unfold KU;rw[List.getD_eq_getElem?_getD,List.getElem?_map];cases F[i]?<;>rfl
theorem Q72(h:LeB a b):LeB (KU F a) (KU F b):=⟨by rw[Q1e,Q1e],fun i hi=>by
 rw[Q1i] at hi ⊢
 cases hr:F[i]? with
 |none=>rw[hr] at hi;cases hi
 |some r=>rw[hr] at hi;exact Q46 h hi⟩
theorem Qgz(F:List Rl):∀t,LeB (VM F t) (VM F (t+1))
 |0=>LeB.of_false _ (Jp F 1)
 |t+1=>Q72 (Qgz F t)
theorem Q8F(F:List Rl):VM F (F.length+1)=VM F F.length:=by
 refine ZB (by rw[Jp,Jp]) fun i hi=>?_;rw[Jp] at hi;exact Q5h (n:=F.length) (s:=fun t i=>(VM F t).getD i false) (fun t i _=>(Qgz F t).2 i)
  (fun t ht i hi=>by
   have e:VM F (t+1)=VM F t:=ZB (by rw[Jp,Jp]) fun j hj=>ht j (by rw[Jp] at hj;exact hj)
   show (KU F (VM F (t+1))).getD i false=(VM F (t+1)).getD i false
   rw[e]
   show (VM F (t+1)).getD i false=_
   rw[e]) i hi
theorem Q8s(F:List Rl):∀k,VM F (F.length+k)=VM F F.length
 |0=>rfl
 |k+1=>by
  show KU F (VM F (F.length+k))=_
  rw[Q8s F k];exact Q8F F
theorem Q6L(F:List Rl)(out:List Bool)(k:Nat):LeB out (Za F out k):=LeB.set out k _ fun h=>by rw[h];rfl
theorem Q4F(F:List Rl)(out:List Bool):LeB out (Zw F out):=Vi (Q6L F) _ _
theorem ZQ(F:List Rl):(Zk F).length=F.length:=by
 have:=(Q18 (Q4F F) Q9o F.length).1;exact QdK
theorem Qio(F:List Rl):Zw F (Zk F)=Zk F:=by
 have:=Q1h (Q4F F) Q9o;rw[List.length_replicate] at this;exact this
theorem QcI(F:List Rl):LeB (KU F (Zk F)) (Zk F):=⟨by rw[Q1e,ZQ],fun i hi=>by
 rw[Q1i] at hi
 cases hr:F[i]? with
 |none=>rw[hr] at hi;cases hi
 |some r=>
  rw[hr] at hi;have hin:i<F.length:=(List.getElem?_eq_some_iff.1 hr).1;obtain⟨a',h1,h2⟩:=VQ (Q6L F) (List.range F.length) (Zk F) i (List.mem_range.2 hin)
  have h3:(Za F a' i).getD i false=true:=by
   unfold Za
   rw[XE _ _ _ _ (by rw[<- h1.1,ZQ];exact hin),if_pos rfl,hr]
   show (_||JL F a' r)=true
   rw[Q46 h1 hi,Bool.or_true]
  have h4:=h2.2 i h3;have h5:(Zw F (Zk F)).getD i false=true:=h4
  rwa [Qio] at h5⟩
theorem Qhl(F:List Rl):∀t,LeB (VM F t) (Zk F)
 |0=>LeB.of_false _ (ZQ F)
 |t+1=>(Q72 (Qhl F t)).trans (QcI F)
theorem Qpo(F:List Rl):LeB (Zk F) (VM F F.length):=by
 refine Q3b (f:=Zw F) (p:=fun out=>LeB out (VM F F.length)) (fun a ha=>Q1q (p:=fun out=>LeB out (VM F F.length)) (fun out k ho=>?_) _ _ ha) (a:=List.replicate F.length false) (LeB.of_false _ (Jp F _)) F.length;refine⟨by rw[<- ho.1];unfold Za;rw[List.length_set],fun i hi=>?_⟩;unfold Za at hi;by_cases hk:k<out.length
 ·rw[XE _ _ _ _ hk] at hi
  split at hi
  ·next e=>
   subst e;rw[Bool.or_eq_true] at hi;rcases hi with hi|hi
   ·exact ho.2 _ hi
   ·have h1:(KU F (VM F F.length)).getD i false=true:=by
     rw[Q1i];cases hr:F[i]? with
     |none=>rw[hr] at hi;cases hi
     |some r=>rw[hr] at hi;exact Q46 ho hi
    have h2:(VM F (F.length+1)).getD i false=true:=h1;rwa [Q8F] at h2
  ·exact ho.2 _ hi
 ·rw[List.set_eq_of_length_le Q3] at hi;exact ho.2 _ hi
theorem Qth(F:List Rl)(k:Nat):VM F (F.length+k)=Zk F:=by
 rw[Q8s];exact(Qhl F _).antisymm (Qpo F)
end
def VU(n:Int):Int:=if 1001<n then 1001 else n
theorem Q3m(n:Int)(w:World):Calls Tryz.prog 106 #[.int .i64 n] w fun e w'=>e=.returned (.int .i64 (VU n))/\w=w':=by
 by_cases h:1001<n
 ·have he:=Q2 (show VU n=1001 by unfold VU;rw[if_pos h]);rw[he.out]
  go_enter Tryz.func106,Tryz.ntmps106;go_wp2_with fail
  exact JH
 ·have he:=Q2 (show VU n=n by unfold VU;rw[if_neg h]);rw[he.out]
  go_enter Tryz.func106,Tryz.ntmps106;go_wp2_with fail
  exact JH
def Jt(k mn:Int):Int:=if k=2 then VU mn else 0
theorem QaH{a0 a2 a3 a4 a6 a7 a8 a9 a10 a11:Value}(k mn:Int)(w:World):
  Calls Tryz.prog 105 #[.agg #[a0,.int .i64 k,a2,a3,a4,.int .i64 mn,a6,a7,a8,a9,a10,a11]] w fun e w'=>e=.returned (.int .i64 (Jt k mn))/\Below w.heap.size w w':=by
 by_cases h:k=2
 ·subst h
  go_enter Tryz.func105,Tryz.ntmps105;go_wp2_with (go_at_call 106;refine(Q3m _ _).mono ?_;rintro e w' ⟨rfl,rfl⟩)
  exact Q2l
 ·have hk:(k==2)=false:=by simpa using h
  have he:=Q2 (show Jt k mn=0 by unfold Jt;rw[if_neg h]);rw[he.out];clear h;go_enter Tryz.func105,Tryz.ntmps105;go_wp2_with fail
  exact Q2l
def Qv9(n:Nat)(o k:Value):Prop:=∃i:Nat,i<=n/\k=.int .i64 (i:Int)/\o=.int .i64 ((256:Int) ^ i)
theorem Qjl{i n:Nat}(hi:i<n)(hn:n<=4):IntKind.i64.wrap ((256:Int) ^ i*256)=(256:Int) ^ (i+1):=by
 rcases (show i=0\/i=1\/i=2\/i=3 by omega) with rfl|rfl|rfl|rfl<;>exact IntWalk.i64_in _ Q3
theorem QcF(n:Nat)(hn:n<=4)(w:World):Calls Tryz.prog 104 #[.int .i64 (n:Int)] w fun e w'=>e=.returned (.int .i64 ((256:Int) ^ n))/\w=w':=by
 go_enter Tryz.func104,Tryz.ntmps104;go_wp2_with fail
 go_loop [3,4] (Qv9 n) (fun _ k=>n - (intOf k).toNat)
 case atStart=>exact⟨0,Nat.zero_le _,rfl,rfl⟩
 case round=>
  obtain⟨i,hi,rfl,rfl⟩:=hrel;by_cases hlt:i<n
  ·have hw:=Qjl hlt hn
   have hli:(i:Int)<(n:Int):=by omega
   obtain⟨P,hP⟩:∃P,(256:Int) ^ i=P:=⟨_,rfl⟩;obtain⟨P2,hP2⟩:∃P,(256:Int) ^ (i+1)=P:=⟨_,rfl⟩;rw[hP,hP2] at hw;rw[hP];have HP2:=Q2 hP2;clear hP hP2;go_wp2_with fail
   go_round
   case rel=>exact⟨i+1,by omega,by go_num,by rw[HP2.out]⟩
   case measure=>simp [intOf];omega
  ·have he:=Q2 (show i=n by omega)
   go_wp2_with fail
   go_ret;exact⟨by rw[<- he.out];rfl,rfl⟩
section
variable {i n:Nat}{old:List Int}{r:Rl}{x:Int}
def lk(old:List Int)(x:Int):Int:=old.getD x.toNat 0
def KD(F:List Rl)(x:Int):Int:=match F[x.toNat]? with|some r=>Jt r.kind r.mn|none=>0
def Q3l(old:List Int):Int->List Int->Int
 |n,[]=>n
 |n,x::l=>Q3l old (if 0<=(if lk old x<0 then -1 else n) then VU ((if lk old x<0 then -1 else n)+lk old x) else (if lk old x<0 then -1 else n)) l
def Q5C(old:List Int):Int->List Int->Int
 |n,[]=>n
 |n,x::l=>Q5C old (if 0<=lk old x/\(n<0\/lk old x<n) then lk old x else n) l
def YN(F:List Rl)(old:List Int)(r:Rl):Int:=
 if r.kind=1 then (r.bs.length:Int)
 else if r.kind=2\/r.kind=4 then r.size
 else if r.kind=3 then 2
 else if r.kind=5\/r.kind=9 then 1
 else if r.kind=6 then (if 0<=lk old r.count/\KD F r.count=0 then lk old r.count else if 0<=lk old r.count/\0<=lk old r.elem then VU (lk old r.count+KD F r.count*lk old r.elem) else -1)
 else if r.kind=10 then (if 0<=lk old r.count then VU (lk old r.count+KD F r.count) else -1)
 else if r.kind=7 then Q3l old 0 r.parts
 else if r.kind=8 then Q5C old (-1) r.parts
 else -1
def Ya(F:List Rl)(old:List Int):List Int:=F.map (YN F old)
def V5(F:List Rl)(t:Nat):List Int:=iter (Ya F) t (List.replicate F.length (-1))
def JY(F:List Rl):List Int:=V5 F (2*F.length+1)
def Quz(out:List Int)(l:List Int):Int:=l.foldl (fun s x=>s+lk out x) 0
def QuG(out:List Int)(l:List Int):Int:=l.foldl (fun s x=>min s (lk out x)) 1001
def Q70(F:List Rl)(out:List Int)(r:Rl):Int:=
 if r.kind=1 then (r.bs.length:Int)
 else if r.kind=2\/r.kind=4 then r.size
 else if r.kind=3 then 2
 else if r.kind=10 then lk out r.count+Qas F r.count
 else if r.kind=6 then lk out r.count+Qas F r.count*lk out r.elem
 else if r.kind=7 then Quz out r.parts
 else if r.kind=8 then QuG out r.parts
 else 1
structure Q2W(F:List Rl)(a:List Int):Prop where
 len:a.length=F.length
 eq:∀(i:Nat) (r:Rl),F[i]? =some r->a.getD i 0=min (Q70 F a r) 1001
 nn:∀i:Nat,0<=a.getD i 0
structure Usd(F:List Rl):Prop where
 ok:FOk F
 use:∀(i:Nat) (r:Rl),F[i]? =some r->(r.kind=6\/r.kind=10)->∃c,F[r.count.toNat]? =some c/\(c.kind=2\/c.kind=3)
structure Vld(F:List Rl):Prop extends Usd F where
 cyc:∀i,i<F.length->¬Rch F i i
 fin:∀i,i<F.length->(Zk F).getD i false=true
theorem Qpu(n:Int):VU n<=1001:=by unfold VU;split<;>omega
theorem Vc(n:Int):VU n=min n 1001:=by unfold VU;split<;>omega
theorem Q2h(F:List Rl)(old:List Int):(Ya F old).length=F.length:=by unfold Ya;rw[List.length_map]
theorem Jd(F:List Rl):∀t,(V5 F t).length=F.length
 |0=>List.length_replicate
 |t+1=>Q2h F _
theorem Q62{F:List Rl}(h:F[i]? =some r)(old:List Int):(Ya F old).getD i 0=YN F old r:=by
 unfold Ya;rw[List.getD_eq_getElem?_getD,List.getElem?_map,h];rfl
theorem Qeq{F:List Rl}(h:F[i]? =some r)(t:Nat):(V5 F (t+1)).getD i 0=YN F (V5 F t) r:=Q62 h _
theorem Usd.least{F:List Rl}(hv:Usd F)(h:F[i]? =some r)(hk:r.kind=6\/r.kind=10):0<=Qas F r.count/\KD F r.count=min (Qas F r.count) 1001:=by
 obtain⟨c,hc,h23⟩:=hv.use i r h hk;have hok:=hv.ok _ _ hc;rw[QhB hc];unfold KD;rw[hc];show _/\Jt c.kind c.mn=_;unfold Jt;rcases h23 with h2|h3
 ·rw[if_pos h2,Vc];exact⟨(hok.num h2).2.2.1,rfl⟩
 ·rw[if_neg Q3];have hf:=hok.formed
  unfold Xd at hf;simp only[Bool.and_eq_true,Bool.or_eq_true,beq_iff_eq] at hf;have:=hf.1.1.1.1.1.2;have h0:c.mn=0:=by
   rcases this with h|h
   ·exact h.2
   ·omega
  rw[h0];exact⟨by omega,rfl⟩
section
variable {F:List Rl}
def sg(old:List Int):List Bool:=old.map fun n=>decide (0<=n)
theorem Q6r(hx:0<=x/\x<old.length):mk (sg old) x=decide (0<=lk old x):=by
 unfold mk sg lk;rw[List.getD_eq_getElem?_getD,List.getElem?_map,List.getD_eq_getElem?_getD];have:x.toNat<old.length:=by omega
 rw[List.getElem?_eq_getElem this];rfl
structure Rnd(F:List Rl)(a old:List Int):Prop where
 len:old.length=F.length
 up:∀j:Nat,j<F.length->old.getD j 0<0\/a.getD j 0<=old.getD j 0
 top:∀j:Nat,old.getD j 0<=1001
theorem Qdb(old:List Int):∀(l:List Int) (n:Int),n<0->Q3l old n l<0
 |[],n,h=>h
 |x::l,n,h=>by
  unfold Q3l
  refine Qdb old l _ ?_
  split<;>split<;>omega
theorem Q9i(old:List Int):∀(l:List Int) (n:Int),0<=n->((∀x∈l,0<=lk old x)↔0<=Q3l old n l)
 |[],n,h=>⟨fun _=>h,fun _=>by simp⟩
 |x::l,n,h=>by
  unfold Q3l
  by_cases hx:lk old x<0
  ·rw[if_pos hx,if_neg Q3];refine⟨fun hl=>absurd (hl x List.mem_cons_self) Q3,fun hs=>?_⟩;have:=Qdb old l (-1) Q3
   omega
  ·rw[if_neg hx,if_pos h]
   have hc:0<=VU (n+lk old x):=by rw[Vc];omega
   rw[<- Q9i old l _ hc]
   exact⟨fun hl y hy=>hl y QmM,fun hl y hy=>by
    rcases List.mem_cons.1 hy with rfl|hy
    ·omega
    ·exact hl y hy⟩
theorem Q91(old:List Int):∀(l:List Int) (n:Int),(0<=n\/∃x∈l,0<=lk old x)↔0<=Q5C old n l
 |[],n=>⟨fun h=>h.elim id (fun⟨x,hx,_⟩=>absurd hx Qn),fun h=>.inl h⟩
 |x::l,n=>by
  unfold Q5C
  rw[<- Q91 old l]
  constructor
  ·rintro(h|⟨y,hy,h⟩)
   ·left;split<;>omega
   ·rcases List.mem_cons.1 hy with rfl|hy
    ·left
     split
     ·exact h
     ·next hn=>omega
    ·exact .inr ⟨y,hy,h⟩
  ·rintro(h|⟨y,hy,h⟩)
   ·split at h
    ·next hc=>exact .inr ⟨x,List.mem_cons_self,hc.1⟩
    ·exact .inl h
   ·exact .inr ⟨y,List.mem_cons_of_mem _ hy,h⟩
theorem Q30(out:List Int):∀(l:List Int) (n:Int),l.foldl (fun s x=>min s (lk out x)) n=n\/∃x∈l,l.foldl (fun s x=>min s (lk out x)) n=lk out x
 |[],n=>.inl rfl
 |x::l,n=>by
  rw[List.foldl_cons]
  rcases Q30 out l (min n (lk out x)) with h|⟨y,hy,h⟩
  ·by_cases hc:n<=lk out x
   ·left;omega
   ·right;exact⟨x,List.mem_cons_self,by omega⟩
  ·exact .inr ⟨y,List.mem_cons_of_mem _ hy,h⟩
theorem Q3n(old a:List Int):∀(l:List Int) (n m:Int),m<=n->(∀x∈l,lk a x<=lk old x)->l.foldl (fun s x=>s+lk a x) m<=l.foldl (fun s x=>s+lk old x) n
 |[],n,m,h,_=>h
 |x::l,n,m,h,hl=>by
  rw[List.foldl_cons,List.foldl_cons]
  refine Q3n old a l _ _ ?_ fun y hy=>hl y (List.mem_cons_of_mem _ hy)
  have:=hl x List.mem_cons_self
  omega
theorem Q21(a:List Int):∀(l:List Int) (n:Int),(∀x∈l,0<=lk a x)->n<=l.foldl (fun s x=>s+lk a x) n/\∀x∈l,n+lk a x<=l.foldl (fun s x=>s+lk a x) n
 |[],n,_=>⟨Int.le_refl _,fun x hx=>by cases hx⟩
 |x::l,n,hl=>by
  rw[List.foldl_cons]
  have h:=Q21 a l (n+lk a x) fun y hy=>hl y QmM
  have h0:=hl x List.mem_cons_self;refine⟨by omega,fun y hy=>?_⟩;rcases List.mem_cons.1 hy with rfl|hy
  ·omega
  ·have:=h.2 y hy;omega
end
section
variable {F:List Rl}{a:List Int}
theorem Q2W.top(h:Q2W F a)(i:Nat):a.getD i 0<=1001:=by
 by_cases hi:i<F.length
 ·rw[h.eq i F[i] (List.getElem?_eq_getElem hi)];omega
 ·rw[List.getD_eq_getElem?_getD,List.getElem?_eq_none (by rw[h.len];omega)];decide
noncomputable def rk(F:List Rl)(i:Nat):Nat:=by
 classical exact cnt (fun j=>decide (Rch F i j)) F.length
theorem Qv8(hv:Vld F){j:Nat}(hj:j∈bg F i):rk F j<rk F i:=by
 classical
 have hjn:j<F.length:=hv.ok.bd i j hj;unfold rk;refine QaE F.length (fun x _ hx=>?_) ⟨j,hjn,?_,?_⟩
 ·rw[decide_eq_true_eq] at hx ⊢;exact Rch.trans (.one hj) hx
 ·rw[decide_eq_false_iff_not];exact hv.cyc j hjn
 ·rw[decide_eq_true_eq];exact .one hj
theorem QuU(hr:F[i]? =some r)(hx:x∈bl r):x.toNat∈bg F i:=by
 rw[Q4Z hr];exact List.mem_map_of_mem hx
theorem Qr3(h:Q2W F a)(x:Int):0<=lk a x:=h.nn _
theorem Q2W.pos(hv:Vld F)(h:Q2W F a):∀(m i:Nat),rk F i<m->i<F.length->1<=a.getD i 0
 |0,i,hm,_=>absurd hm Q3
 |m+1,i,hm,hi=>by
  have hr:F[i]? =some F[i]:=List.getElem?_eq_getElem hi;obtain⟨r,hrr⟩:∃r,r=F[i]:=⟨_,rfl⟩;rw[<- hrr] at hr;have hok:=hv.ok i r hr
  have hbeg:∀x∈bl r,1<=lk a x:=fun x hx=>by
   have hb:=QuU hr hx;exact Q2W.pos hv h m x.toNat (by have:=Qv8 hv hb;omega) (hv.ok.bd i _ hb)
  rw[h.eq i r hr];unfold Q70;by_cases h1:r.kind=1
  ·rw[if_pos h1];have:=hok.bs1 h1;omega
  rw[if_neg h1];by_cases h2:r.kind=2\/r.kind=4
  ·rw[if_pos h2]
   rcases h2 with h2|h4
   ·have:=(hok.num h2).1;omega
   ·have:=(hok.size4 h4).1;omega
  rw[if_neg h2];by_cases h3:r.kind=3
  ·rw[if_pos h3];omega
  rw[if_neg h3];by_cases h10:r.kind=10
  ·rw[if_pos h10];have:=hbeg r.count (by unfold bl XO;rw[if_pos (.inr h10)];exact List.mem_singleton.2 rfl);have:=(hv.least hr (.inr h10)).1
   omega
  rw[if_neg h10];by_cases h6:r.kind=6
  ·rw[if_pos h6];have:=hbeg r.count (by unfold bl XO;rw[if_pos (.inl h6)];exact List.mem_singleton.2 rfl);have:=Int.mul_nonneg (hv.least hr (.inl h6)).1 (Qr3 h r.elem)
   omega
  rw[if_neg h6];by_cases h7:r.kind=7
  ·rw[if_pos h7];have hne:=(hok.seven h7).2;obtain⟨x,hx⟩:∃x,r.parts[0]? =some x:=⟨_,List.getElem?_eq_getElem hne⟩
   have hxb:x∈bl r:=by
    unfold bl XO;rw[if_neg Q3,if_pos h7];cases hp:r.parts with
    |nil=>rw[hp] at hx;cases hx
    |cons y l=>rw[hp] at hx;cases hx;exact List.mem_cons_self
   have h1':=hbeg x hxb;have:=(Q21 a r.parts 0 (fun y _=>Qr3 h y)).2 x Q07;unfold Quz;omega
  rw[if_neg h7];by_cases h8:r.kind=8
  ·rw[if_pos h8]
   unfold QuG;rcases Q30 a r.parts 1001 with e|⟨x,hx,e⟩
   ·rw[e];omega
   ·rw[e];have:=hbeg x (by unfold bl XO;rw[if_neg Q3,if_neg h7,if_pos h8];exact hx)
    omega
  rw[if_neg h8];omega
theorem Q2W.one(hv:Vld F)(h:Q2W F a)(hx:0<=x/\x<F.length):1<=lk a x:=Q2W.pos hv h (rk F x.toNat+1) _ Q3 Q3
theorem Usd.inn(hv:Usd F)(hr:F[i]? =some r)(hk:r.kind=7\/r.kind=8):∀x∈r.parts,0<=x/\x<F.length:=(hv.ok i r hr).parts hk
theorem Qpm(h:ROk n r):r.kind=1\/(r.kind=2\/r.kind=4)\/r.kind=3\/(r.kind=5\/r.kind=9)\/r.kind=6\/r.kind=10\/r.kind=7\/r.kind=8:=by
 have:=h.kind;omega
theorem Qnx(old:List Int)(h:r.kind=6):YN F old r=if 0<=lk old r.count/\KD F r.count=0 then lk old r.count else if 0<=lk old r.count/\0<=lk old r.elem then VU (lk old r.count+KD F r.count*lk old r.elem) else -1:=by
 unfold YN;exact Qqp
theorem QgZ(old:List Int)(h:r.kind=10):YN F old r=if 0<=lk old r.count then VU (lk old r.count+KD F r.count) else -1:=by
 unfold YN;exact QmF
theorem QjU(old:List Int)(h:r.kind=7):YN F old r=Q3l old 0 r.parts:=by
 unfold YN;exact Qro
theorem QkA(old:List Int)(h:r.kind=8):YN F old r=Q5C old (-1) r.parts:=by
 unfold YN;exact Qqg
theorem QpN(old out:List Int)(ho:ROk n r)(h:r.kind=1\/(r.kind=2\/r.kind=4)\/r.kind=3\/(r.kind=5\/r.kind=9)):1<=YN F old r/\YN F old r<=1001/\YN F old r=Q70 F out r:=by
 unfold YN Q70;rcases h with h|h|h|h
 ·rw[if_pos h,if_pos h];have:=ho.bs1 h;have:=ho.bs16;omega
 ·rw[if_neg Q3,if_pos h,if_neg Q3,if_pos h]
  rcases h with h2|h4
  ·have:=ho.num h2;omega
  ·have:=ho.size4 h4;omega
 ·rw[if_neg Q3,if_neg Q3,if_pos h,if_neg Q3,if_neg Q3,if_pos h];omega
 ·rw[if_neg Q3,if_neg Q3,if_neg Q3,if_pos h,if_neg Q3,if_neg Q3,if_neg Q3,if_neg Q3,if_neg Q3,if_neg Q3,if_neg Q3];omega
theorem QtF(hv:Usd F)(hl:old.length=F.length)(hr:F[i]? =some r):JL F (sg old) r=decide (0<=YN F old r):=by
 have hok:=hv.ok i r hr;rcases (by have:=Qpm hok;omega:(r.kind=1\/(r.kind=2\/r.kind=4)\/r.kind=3\/(r.kind=5\/r.kind=9))\/r.kind=6\/r.kind=10\/r.kind=7\/r.kind=8) with hk|h6|h10|h7|h8
 ·have:=QpN (F:=F) old old hok hk;rw[decide_eq_true Q3]
  unfold JL;rw[if_neg Q3,if_neg Q3,if_neg Q3,if_neg Q3]
 ·have hc:=hok.count (.inl h6);have he:=hok.elem (.inl h6);have hln:=hv.least hr (.inl h6)
  unfold JL;rw[if_neg Q3,if_pos h6,Q6r Q3,Q6r Q3,Qnx old h6];by_cases hz:Qas F r.count=0
  ·have hz':KD F r.count=0:=by omega
   rw[hz,hz'];by_cases hp:0<=lk old r.count
   ·rw[if_pos ⟨hp,rfl⟩];simp [hp]
   ·rw[if_neg (fun h=>hp h.1),if_neg (fun h=>hp h.1)];simp [hp]
  ·have hz':¬KD F r.count=0:=by omega
   rw[if_neg (fun h=>hz' h.2)];by_cases hp:0<=lk old r.count/\0<=lk old r.elem
   ·rw[if_pos hp];have h1:=Int.mul_nonneg (show 0<=KD F r.count by omega) hp.2
    have:0<=VU (lk old r.count+KD F r.count*lk old r.elem):=by rw[Vc];omega
    simp [hp.1,hp.2,this]
   ·rw[if_neg hp]
    by_cases hq:0<=lk old r.count
    ·have:¬0<=lk old r.elem:=fun h=>hp ⟨hq,h⟩
     simp [this,hz]
    ·simp [hq]
 ·have hc:=hok.count (.inr h10);have hln:=hv.least hr (.inr h10)
  unfold JL;rw[if_pos h10,Q6r Q3,QgZ old h10];by_cases hp:0<=lk old r.count
  ·rw[if_pos hp]
   have:0<=VU (lk old r.count+KD F r.count):=by rw[Vc];omega
   simp [hp,this]
  ·rw[if_neg hp];simp [hp]
 ·have hin:=hv.inn hr (.inl h7)
  unfold JL;rw[if_neg Q3,if_neg Q3,if_pos h7,QjU old h7];have hs:=Q9i old r.parts 0 Q3;by_cases hall:∀x∈r.parts,0<=lk old x
  ·rw[decide_eq_true (hs.1 hall),Bool.not_eq_true',List.any_eq_false];intro x hx;rw[Q6r (by have:=hin x hx;omega)]
   simp [hall x hx]
  ·rw[decide_eq_false (fun h=>hall (hs.2 h)),Bool.not_eq_false',List.any_eq_true]
   refine Classical.byContradiction fun hn=>hall fun x hx=>?_;refine Classical.byContradiction fun hx0=>hn ⟨x,hx,?_⟩;rw[Q6r (by have:=hin x hx;omega)];simp [hx0]
 ·have hin:=hv.inn hr (.inr h8)
  unfold JL;rw[if_neg Q3,if_neg Q3,if_neg Q3,if_pos h8,QkA old h8];have hs:=Q91 old r.parts (-1);by_cases hex:∃x∈r.parts,0<=lk old x
  ·rw[decide_eq_true (hs.1 (.inr hex)),List.any_eq_true];obtain⟨x,hx,h0⟩:=hex;exact⟨x,hx,by rw[Q6r (by have:=hin x hx;omega)];simp [h0]⟩
  ·rw[decide_eq_false (fun h=>(hs.2 h).elim Q3 hex),List.any_eq_false];intro x hx;rw[Q6r (by have:=hin x hx;omega)]
   simp only[decide_eq_true_eq];exact fun h=>hex ⟨x,hx,h⟩
end
end
section
variable {i:Nat}
section
variable {F:List Rl}{a:List Int}
theorem Qoo(n:Nat):sg (List.replicate n (-1))=List.replicate n false:=by
 unfold sg;rw[List.map_replicate];rfl
theorem Qmn(old:List Int):(sg old).length=old.length:=by unfold sg;rw[List.length_map]
theorem Qox(old:List Int)(hi:i<old.length):(sg old).getD i false=decide (0<=old.getD i 0):=by
 unfold sg;rw[List.getD_eq_getElem?_getD,List.getElem?_map,List.getD_eq_getElem?_getD,List.getElem?_eq_getElem hi];rfl
theorem Q8y(hv:Usd F):∀t,sg (V5 F t)=VM F t
 |0=>Qoo _
 |t+1=>by
  refine ZB (by rw[Qmn,Jd,Jp]) fun i hi=>?_
  rw[Qmn,Jd] at hi;have hr:F[i]? =some F[i]:=List.getElem?_eq_getElem hi;rw[Qox _ (by rw[Jd];exact hi),Qeq hr]
  show _=(KU F (VM F t)).getD i false;rw[Q1i,hr];show _=JL F (VM F t) _;rw[<- Q8y hv t,QtF hv (Jd F t) hr]
theorem QdA(hv:Usd F)(hi:i<F.length):decide (0<=(JY F).getD i 0)=(Zk F).getD i false:=by
 unfold JY;rw[<- Qox _ (by rw[Jd];exact hi),Q8y hv,show 2*F.length+1=F.length+(F.length+1) by omega,Qth]
end
end
section
variable {F:List Rl}{b k:Nat}
def col(c:Nat)(S:List (Nat->Bool)):List Bool:=S.map fun s=>s c
theorem Q5V(c:Nat)(S:List (Nat->Bool))(k:Nat):(col c S).getD k false=(S.getD k XH) c:=by
 unfold col;rw[List.getD_eq_getElem?_getD,List.getElem?_map,List.getD_eq_getElem?_getD];cases S[k]?<;>rfl
def Qd3(b:List Bool)(k i:Nat):List Bool:=b.set k (b.getD k false||b.getD i false)
theorem QpJ(c:Nat)(S:List (Nat->Bool))(k i:Nat):col c (Vn S k i)=Qd3 (col c S) k i:=by
 unfold Vn Qd3;rw[Q5V,Q5V];unfold col;rw[List.map_set];rfl
def Qme(F:List Rl)(b:List Bool)(k:Nat):List Bool:=(bg F k).foldl (fun b i=>Qd3 b k i) b
def YJ(F:List Rl)(b:List Bool):List Bool:=(List.range F.length).foldl (Qme F) b
theorem Q6o{α:Type}(c:Nat){f:List (Nat->Bool)->α->List (Nat->Bool)}{g:List Bool->α->List Bool}(h:∀S x,col c (f S x)=g (col c S) x):∀(l:List α) (S:List (Nat->Bool)),col c (l.foldl f S)=l.foldl g (col c S)
 |[],S=>rfl
 |x::l,S=>by rw[List.foldl_cons,List.foldl_cons,Q6o c h l,h]
theorem QnK(F:List Rl)(c:Nat)(S:List (Nat->Bool))(k:Nat):col c (Yy F S k)=Qme F (col c S) k:=Q6o c (fun S i=>QpJ c S k i) _ S
theorem QhV(F:List Rl)(c:Nat)(S:List (Nat->Bool)):col c (J1 F S)=YJ F (col c S):=Q6o c (QnK F c) _ S
theorem QbQ(F:List Rl)(c:Nat)(S:List (Nat->Bool)):∀t,col c (iter (J1 F) t S)=iter (YJ F) t (col c S)
 |0=>rfl
 |t+1=>by
  show col c (J1 F _)=YJ F _
  rw[QhV,QbQ F c S t]
theorem Qhs(b:List Bool)(k i:Nat):LeB b (Qd3 b k i):=LeB.set b k _ fun h=>by rw[h];rfl
theorem Qcc(F:List Rl)(b:List Bool)(k:Nat):LeB b (Qme F b k):=Vi (fun b i=>Qhs b k i) _ _
theorem Q8G(F:List Rl)(b:List Bool):LeB b (YJ F b):=Vi (Qcc F) _ _
theorem Q23{α β:Type}{f:α->β->α}{p:α->Prop}:∀(l:List β),(∀a,∀b∈l,p a->p (f a b))->∀a,p a->p (l.foldl f a)
 |[],_,a,ha=>ha
 |b::l,h,a,ha=>Q23 l (fun a x hx=>h a x (List.mem_cons_of_mem _ hx)) (f a b) (h a b List.mem_cons_self ha)
def Q3x(F:List Rl)(k c:Nat):Bool:=match F[k]? with|some r=>Kr r c|none=>false
theorem QpI(F:List Rl)(c k:Nat):(col c (F.map Kr)).getD k false=Q3x F k c:=by
 rw[Q5V,List.getD_eq_getElem?_getD,List.getElem?_map];unfold Q3x;cases F[k]?<;>rfl
theorem QnN(hb:Bd F)(hk:k<F.length)(c:Nat):(Yi F).getD k XH c=true↔∃j,(j=k\/Rch F k j)/\Q3x F j c=true:=by
 rw[<- Q5V];unfold Yi;rw[QbQ];obtain⟨B,hB⟩:∃B,B=col c (F.map Kr):=⟨_,rfl⟩;have hBl:B.length=F.length:=by rw[hB];unfold col;rw[List.length_map,List.length_map]
 have hown:∀j:Nat,B.getD j false=Q3x F j c:=fun j=>by rw[hB];exact QpI F c j
 rw[<- hB];constructor
 ·intro h;refine Q3b (f:=YJ F) (p:=fun b:List Bool=>∀k:Nat,b.getD k false=true->∃j,(j=k\/Rch F k j)/\Q3x F j c=true) (fun b hb'=>Q1q (p:=fun b:List Bool=>∀k:Nat,b.getD k false=true->∃j,(j=k\/Rch F k j)/\Q3x F j c=true) (fun b k hb'=>?_) _ _ hb') (a:=B) (fun k hk=>⟨k,.inl rfl,by rw[<- hown];exact hk⟩) F.length k h;refine Q23 (p:=fun b:List Bool=>∀k:Nat,b.getD k false=true->∃j,(j=k\/Rch F k j)/\Q3x F j c=true) (bg F k) (fun b i hi hb' k' hk'=>?_) b hb'
  unfold Qd3 at hk';by_cases hkl:k<b.length
  ·rw[XE _ _ _ _ hkl] at hk'
   split at hk'
   ·next e=>
    subst e;rw[Bool.or_eq_true] at hk';rcases hk' with h1|h1
    ·exact hb' _ h1
    ·obtain⟨j,hj,ho⟩:=hb' _ h1;refine⟨j,.inr ?_,ho⟩
     rcases hj with rfl|hj
     ·exact .one hi
     ·exact Rch.trans (.one hi) hj
   ·exact hb' _ hk'
  ·rw[List.set_eq_of_length_le Q3] at hk';exact hb' _ hk'
 ·have hrest:YJ F (iter (YJ F) F.length B)=iter (YJ F) F.length B:=by
   have:=Q1h (Q8G F) B;rwa [hBl] at this
  obtain⟨R,hR⟩:∃R,R=iter (YJ F) F.length B:=⟨_,rfl⟩;have hle:LeB B R:=by rw[hR];exact Q18 (Q8G F) B _
  rw[<- hR] at hrest ⊢;have hclosed:∀k i:Nat,k<F.length->i∈bg F k->R.getD i false=true->R.getD k false=true:=by
   intro k i hk hi h;obtain⟨a',h1,h2⟩:=VQ (Qcc F) (List.range F.length) R k (List.mem_range.2 hk);obtain⟨a'',h3,h4⟩:=VQ (f:=fun b i=>Qd3 b k i) (fun b i=>Qhs b k i) (bg F k) a' i hi;have h5:(Qd3 a'' k i).getD k false=true:=by
    unfold Qd3;rw[XE _ _ _ _ (by rw[<- h3.1,<- h1.1,<- hle.1,hBl];exact hk),if_pos rfl,h3.2 i (h1.2 i h),Bool.or_true]
   have h6:=h2.2 k (h4.2 k h5);have h7:(YJ F R).getD k false=true:=h6;rwa [hrest] at h7
  rintro⟨j,hj,ho⟩;have hjR:R.getD j false=true:=hle.2 j (by rw[hown];exact ho);rcases hj with rfl|hj
  ·exact hjR
  ·have hall:∀j,Rch F k j->R.getD j false=true->R.getD k false=true:=by
    intro j hj;induction hj with
    |one h=>exact hclosed _ _ hk h
    |more h hm ih=>exact fun hx=>ih (hclosed _ _ (h.lt hb) hm hx)
   exact hall j hj hjR
def Kc(r:Rl)(b:Int):Bool:=
 if r.kind=1 then ((r.bs.headD 0).toNat:Int)==b
 else if r.kind=2/\r.big=true then decide (r.mn / 256 ^ (r.size - 1).toNat<=b)&&decide (b<=r.mx / 256 ^ (r.size - 1).toNat)
 else if r.kind=2 then decide ((if r.mn - r.mn % 256+b<r.mn then r.mn - r.mn % 256+b+256 else r.mn - r.mn % 256+b)<=r.mx)
 else if r.kind=3 then inB b 48 57&&decide (b - 48<=r.mx)
 else if r.kind=5 then decide (0<r.size)||b==r.stop
 else if r.kind=9 then b==r.stop
 else r.kind==4
theorem Q0P(lo hi:Int)(j:Nat):Zh noS lo hi j=decide (lo+((j:Int) - lo) % 256<=hi):=by
 unfold Zh noS;rw[Bool.false_or]
theorem QgT{n:Nat}{r:Rl}(h:ROk n r)(hb:b<256):Kr r b=Kc r (b:Int):=by
 obtain⟨name,kind,bs,size,big,mn,mx,stop,count,elem,names,parts⟩:=r;have hk:=h.kind;have h2:=h.num;have h3:=h.dec;have h5:=h.size5;have hs:=h.stop;unfold Kr Q2H Kc;simp only at hk h2 h3 h5 hs ⊢;clear h;rcases (show kind=1\/kind=2\/kind=3\/kind=4\/kind=5\/kind=6\/kind=7\/kind=8\/kind=9\/kind=10 by omega) with rfl|rfl|rfl|rfl|rfl|rfl|rfl|rfl|rfl|rfl
 ·show (b==(bs.headD 0).toNat)=(((bs.headD 0).toNat:Int)==(b:Int))
  rw[Bool.eq_iff_iff,beq_iff_eq,beq_iff_eq];omega
 ·obtain⟨a1,a2,a3,a4,a5⟩:=h2 rfl
  cases big with
  |true=>
   show Zh noS (mn / 2 ^ (8*(size - 1)).toNat) (mx / 2 ^ (8*(size - 1)).toNat) b=(decide (mn / 256 ^ (size - 1).toNat<=(b:Int))&&decide ((b:Int)<=mx / 256 ^ (size - 1).toNat));rw[Q0P];rcases (show size=1\/size=2\/size=3\/size=4 by omega) with rfl|rfl|rfl|rfl<;>
   ·simp at a5 ⊢
    exact Qny
  |false=>
   show Zh noS mn (min mx (mn+256 - 1)) b=decide ((if mn - mn % 256+(b:Int)<mn then mn - mn % 256+b+256 else mn - mn % 256+b)<=mx);rw[Q0P];rw[Bool.eq_iff_iff,decide_eq_true_eq,decide_eq_true_eq];clear a5 h2 h3 h5 hs;split<;>omega
 ·obtain⟨a1,a2,a3⟩:=h3 rfl
  show Zh noS 48 (48+min mx 9) b=(inB (b:Int) 48 57&&decide ((b:Int) - 48<=mx));rw[Q0P];unfold inB;exact Qny
 ·show Zh noS 0 255 b=true
  rw[Q0P,decide_eq_true_eq];omega
 ·show (if 0<size then Zh noS 0 255 else fun j=>decide ((j:Int)=stop)) b=(decide (0<size)||((b:Int)==stop))
  split
  ·next h0=>
   rw[Q0P,Bool.eq_iff_iff];simp only[Bool.or_eq_true,decide_eq_true_eq,beq_iff_eq];omega
  ·next h0=>
   rw[Bool.eq_iff_iff];simp only[Bool.or_eq_true,decide_eq_true_eq,beq_iff_eq];omega
 ·rfl
 ·rfl
 ·rfl
 ·show decide ((b:Int)=stop)=((b:Int)==stop)
  rw[Bool.eq_iff_iff,decide_eq_true_eq,beq_iff_eq]
 ·rfl
def QkH(F:List Rl)(k b:Nat):Bool:=(List.range F.length).any fun i=>((ZE F k).set k true).getD i false&&(match F[i]? with|some r=>Kc r (b:Int)|none=>false)
theorem Qix(hF:FOk F)(hk:k<F.length)(hb:b<256):QkH F k b=(Yi F).getD k XH b:=by
 rw[Bool.eq_iff_iff,QnN hF.bd hk];unfold QkH;rw[List.any_eq_true];have hset:∀i:Nat,((ZE F k).set k true).getD i false=true↔(i=k\/Rch F k i):=fun i=>by
  rw[XE _ _ _ _ (by rw[KH];exact hk)];split
  ·next e=>exact⟨fun _=>.inl e,fun _=>rfl⟩
  ·next e=>rw[Q6V hF.bd hk];exact⟨.inr,fun h=>h.resolve_left e⟩
 constructor
 ·rintro⟨i,hi,h⟩
  rw[Bool.and_eq_true,hset] at h;refine⟨i,h.1,?_⟩;unfold Q3x;have h2:=h.2;cases hr:F[i]? with
  |none=>rw[hr] at h2;cases h2
  |some r=>rw[hr] at h2;rw[<- h2];exact QgT (hF i r hr) hb
 ·rintro⟨j,hj,ho⟩
  have hjn:j<F.length:=by
   rcases hj with rfl|hj
   ·exact hk
   ·exact hj.lt hF.bd
  refine⟨j,List.mem_range.2 hjn,?_⟩;rw[Bool.and_eq_true,hset];refine⟨hj,?_⟩;unfold Q3x at ho;cases hr:F[j]? with
  |none=>rw[hr] at ho;cases ho
  |some r=>rw[hr] at ho;rw[<- ho];exact(QgT (hF j r hr) hb).symm
end
section
variable {F:List Rl}
theorem QeK{r:Rl}(h:J3 F r=0)(hk:r.kind=6\/r.kind=10):Q2z F r.count=2\/Q2z F r.count=3:=by
 unfold J3 at h;split at h
 ·cases h
 ·next h1=>
  have hu:QE r.kind=true:=by rcases hk with e|e<;>rw[e]<;>rfl
  rw[hu,Bool.true_and,Bool.not_eq_true',Bool.not_eq_false] at h1;unfold Z8 XR at h1;simpa using h1
theorem Qm1(h:POk F):Usd F:=⟨h.fok,fun i r hr hk=>by
 have hi:i<F.length:=(List.getElem?_eq_some_iff.1 hr).1;have hu:=h.use i hi;rw[Q0z hr] at hu;have hc:=(h.fok i r hr).count hk;have hg:F[r.count.toNat]? =some F[r.count.toNat]:=List.getElem?_eq_getElem Q3;have:=QeK hu hk;rw[VT hg] at this
 exact⟨_,hg,this⟩⟩
theorem QtH(h:Xf F=(0,0)):Vld F:=by
 have hp:=Q6Q h;have hu:=Qm1 hp;unfold Xf at h;split at h
 ·cases h
 split at h
 ·cases h
 rw[Xp (fun j hj=>by simpa using hp.rule j hj)] at h;simp only at h;rw[Xp (fun j hj=>by simpa using hp.use j hj)] at h;simp only at h;cases h3:Xl F.length (Q1u F) with
 |some k=>rw[h3] at h;simp only[Prod.mk.injEq] at h;exact Q6J
 |none=>
  rw[h3] at h;simp only at h;cases h4:Xl F.length (fun k=>!((Zk F).getD k false)) with
  |some k=>rw[h4] at h;simp only[Prod.mk.injEq] at h;exact Q6J
  |none=>
   refine⟨hu,fun i hi hr=>?_,fun i hi=>by simpa using K1 h4 i hi⟩;have:=K1 h3 i hi;rw[(Q2M hu.ok.bd hi).2 hr] at this;cases this
theorem QdX(h:Xf F=(0,0)):0<F.length/\F.length<=40:=by
 unfold Xf at h;split at h
 ·cases h
 split at h
 ·cases h
 omega
end
abbrev Rdg(α:Type):Type:=Option (Except Nat α)
def rb{α β:Type}(x:Rdg α)(g:α->Rdg β):Rdg β:=match x with|none=>none|some (.error e)=>some (.error e)|some (.ok a)=>g a
def okR{α:Type}(a:α):Rdg α:=some (.ok a)
def erR{α:Type}(e:Nat):Rdg α:=some (.error e)
abbrev ndN(n:Int):Nd:=⟨1,n,[],[]⟩
abbrev ndB(bs:List UInt8):Nd:=⟨2,0,bs,[]⟩
abbrev ndL:Nd:=⟨3,0,[],[]⟩
abbrev ndR(ns:List (List UInt8)):Nd:=⟨4,0,[],ns⟩
def Qcr(stop mx:Int):List UInt8->Bool->Int->Nat->Rdg (Int×Nat)
 |[],_,_,p=>erR p
 |c::l,later,n,p=>
  if (later&&decide ((c.toNat:Int)=stop))=true then okR (n,p+1)
  else if (!(decide (48<=c.toNat/\c.toNat<=57))||(later&&decide (n=0))||decide (mx<10*n+((c.toNat:Int) - 48)))=true then erR p
  else Qcr stop mx l true (10*n+((c.toNat:Int) - 48)) (p+1)
def leN:List UInt8->Int
 |[]=>0
 |c::l=>(c.toNat:Int)+256*leN l
def X3(big:Bool)(l:List UInt8):Int:=if big then leN l.reverse else leN l
def KL(D:List UInt8)(at_:Nat)(n:Int):Rdg (List UInt8×Nat):=if (D.length:Int) - at_<n then erR D.length else okR ((D.drop at_).take n.toNat,at_+n.toNat)
def Q4i(r:Rl)(D:List UInt8)(at_:Nat):Rdg (Int×Nat):=
 if r.kind=3 then Qcr r.stop r.mx (D.drop at_) false 0 at_
 else rb (KL D at_ r.size) fun y=>if X3 r.big y.1<r.mn\/r.mx<X3 r.big y.1 then erR at_ else okR (X3 r.big y.1,y.2)
def Qpl:List UInt8->List UInt8->Nat->Rdg Nat
 |[],_,p=>okR p
 |_::_,[],p=>erR p
 |b::bs,c::l,p=>if c=b then Qpl bs l (p+1) else erR p
def QpE(stop size:Int):List UInt8->Nat->Nat->Rdg Nat
 |[],_,p=>erR p
 |c::l,k,p=>if (c.toNat:Int)=stop then okR p else if (k:Int)=size then erR p else QpE stop size l (k+1) (p+1)
def Y9(one:Nat->Rdg (Nd×VF×Nat)):Nat->Nat->Rdg (VF×Nat)
 |0,p=>okR (.nil,p)
 |n+1,p=>rb (one p) fun y=>rb (Y9 one n y.2.2) fun z=>okR (.cons y.1 y.2.1 z.1,z.2)
def Qgy(one:Nat->Rdg (Nd×VF×Nat))(D:List UInt8)(stop:Int):Nat->Nat->Rdg (VF×Nat)
 |0,_=>none
 |f+1,p=>match D[p]? with
  |none=>erR p
  |some c=>if (c.toNat:Int)=stop then okR (.nil,p+1) else rb (one p) fun y=>rb (Qgy one D stop f y.2.2) fun z=>okR (.cons y.1 y.2.1 z.1,z.2)
def QgN(one:Int->Nat->Rdg (Nd×VF×Nat)):List (List UInt8)->List Int->Nat->Rdg (List (List UInt8)×VF×Nat)
 |nm::nms,k::ks,p=>rb (one k p) fun y=>rb (QgN one nms ks y.2.2) fun z=>if nm=[] then okR z else okR (nm::z.1,.cons y.1 y.2.1 z.2.1,z.2.2)
 |_,_,p=>okR ([],.nil,p)
def Qh(F:List Rl)(k:Int):Rl:=(F[k.toNat]?).getD (Qn0 [] 0)
def Qa1(F:List Rl)(ks:List Int)(c:UInt8):Option Nat:=ks.findIdx? fun k=>((Yi F).getD k.toNat XH) c.toNat
def XK(F:List Rl)(D:List UInt8):Nat->Int->Nat->Rdg (Nd×VF×Nat)
 |0,_,_=>none
 |f+1,k,p=>
  let r:=Qh F k
  if r.kind=1 then rb (Qpl r.bs (D.drop p) p) fun q=>okR (ndL,.nil,q)
  else if r.kind=2\/r.kind=3 then rb (Q4i r D p) fun y=>okR (ndN y.1,.nil,y.2)
  else if r.kind=4 then rb (KL D p r.size) fun y=>okR (ndB y.1,.nil,y.2)
  else if r.kind=10 then rb (Q4i (Qh F r.count) D p) fun x=>rb (KL D x.2 x.1) fun y=>okR (ndB y.1,.nil,y.2)
  else if r.kind=5 then rb (QpE r.stop r.size (D.drop p) 0 p) fun q=>okR (ndB ((D.drop p).take (q - p)),.nil,q+1)
  else if r.kind=6 then rb (Q4i (Qh F r.count) D p) fun x=>rb (Y9 (XK F D f r.elem) x.1.toNat x.2) fun z=>okR (ndL,z.1,z.2)
  else if r.kind=9 then rb (Qgy (XK F D f r.elem) D r.stop (D.length+1) p) fun z=>okR (ndL,z.1,z.2)
  else if r.kind=8 then match D[p]? with
   |none=>erR p
   |some c=>match Qa1 F r.parts c with
    |none=>erR p
    |some i=>rb (XK F D f (r.parts.getD i 0) p) fun y=>okR (ndL,.cons (ndN (i:Int)) .nil (.cons y.1 y.2.1 .nil),y.2.2)
  else rb (QgN (XK F D f) r.names r.parts p) fun z=>okR (ndR z.1,z.2.1,z.2.2)
section
variable {α β:Type}
theorem JA{x:Rdg α}{g:α->Rdg β}{b:β}(h:rb x g=some (.ok b)):∃a,x=some (.ok a)/\g a=some (.ok b):=by
 unfold rb at h;split at h
 ·cases h
 ·cases h
 ·exact⟨_,rfl,h⟩
theorem Qr4{x:Rdg α}{g:α->Rdg β}{a:α}(h:x=some (.ok a)):rb x g=g a:=by rw[h];rfl
theorem XU{a b:α}(h:okR a=some (.ok b)):a=b:=by unfold okR at h;injection h with h;injection h
theorem Kt{e:Nat}{b:α}(h:(erR e:Rdg α)=some (.ok b)):False:=by unfold erR at h;injection h with h;cases h
end
theorem Qbu{stop mx:Int}:∀{l:List UInt8} {b:Bool} {n:Int} {p:Nat} {m:Int} {q:Nat},Qcr stop mx l b n p=some (.ok (m,q))->p<q/\q<=p+l.length
 |[],_,_,p,m,q,h=>(Kt h).elim
 |c::l,later,n,p,m,q,h=>by
  unfold Qcr at h
  split at h
  ·have:=XU h
   injection this with h1 h2;exact Q7N
  split at h
  ·exact Q4E
  ·have:=Qbu h;exact Q7N
theorem Q0T{D:List UInt8}{p:Nat}{n:Int}{y:List UInt8×Nat}(h:KL D p n=some (.ok y)):y=((D.drop p).take n.toNat,p+n.toNat)/\n<=(D.length:Int) - p:=by
 unfold KL at h;split at h
 ·exact Q4E
 ·next hn=>exact⟨(XU h).symm,by omega⟩
def Qq3(r:Rl):Prop:=r.kind=3\/(r.kind=2/\1<=r.size)
theorem Q11{r:Rl}{D:List UInt8}{p q:Nat}{n:Int}(hr:Qq3 r)(hp:p<=D.length)(h:Q4i r D p=some (.ok (n,q))):p<q/\q<=D.length:=by
 unfold Q4i at h;split at h
 ·have:=Qbu h;rw[List.length_drop] at this
  omega
 ·next h3=>
  obtain⟨y,hy,hg⟩:=JA h;obtain⟨rfl,hn⟩:=Q0T hy;split at hg
  ·exact(Kt hg).elim
  ·have:=XU hg
   injection this with h1 h2;have:r.kind=2/\1<=r.size:=hr.resolve_left h3;simp only at h2;omega
theorem Qh6:∀{bs l:List UInt8} {p q:Nat},Qpl bs l p=some (.ok q)->q=p+bs.length/\bs=l.take bs.length/\bs.length<=l.length
 |[],l,p,q,h=>by
  have:q=p:=by cases l<;>exact(XU h).symm
  simp [this]
 |_::_,[],p,q,h=>(Kt h).elim
 |b::bs,c::l,p,q,h=>by
  unfold Qpl at h;split at h
  ·next e=>
   subst e;obtain⟨h1,h2,h3⟩:=Qh6 h;refine⟨?_,?_,?_⟩
   ·exact Q7N
   ·rw[List.length_cons,List.take_succ_cons,<- h2]
   ·rw[List.length_cons,List.length_cons];omega
  ·exact Q4E
theorem QbK{stop size:Int}:∀{l:List UInt8} {k p q:Nat},QpE stop size l k p=some (.ok q)->p<=q/\q<p+l.length
 |[],_,p,q,h=>(Kt h).elim
 |c::l,k,p,q,h=>by
  unfold QpE at h
  split at h
  ·have:=XU h;rw[List.length_cons];omega
  split at h
  ·exact Q4E
  ·have:=QbK h;exact Q7N
section
variable {one:Nat->Rdg (Nd×VF×Nat)}{D:List UInt8}
def Far(one:Nat->Rdg (Nd×VF×Nat))(m:Nat):Prop:=∀(p:Nat) (y:Nd×VF×Nat),p<=m->one p=some (.ok y)->p<y.2.2/\y.2.2<=m
theorem Q7u{m:Nat}(h1:Far one m):∀{n p:Nat} {z:VF×Nat},p<=m->Y9 one n p=some (.ok z)->p<=z.2/\z.2<=m/\p+n<=z.2
 |0,p,z,hp,h=>by rw[<- XU h];exact⟨Nat.le_refl _,hp,Nat.le_refl _⟩
 |n+1,p,z,hp,h=>by
  obtain⟨y,hy,hg⟩:=JA h;obtain⟨z',hz,hg⟩:=JA hg;have a:=h1 p y hp hy;have b:=Q7u h1 a.2 hz;rw[<- XU hg]
  simp only;omega
theorem Q8v{stop:Int}(h1:Far one D.length):∀{f p:Nat} {z:VF×Nat},p<=D.length->Qgy one D stop f p=some (.ok z)->p<z.2/\z.2<=D.length
 |0,p,z,hp,h=>by cases h
 |f+1,p,z,hp,h=>by
  unfold Qgy at h
  split at h
  ·exact(Kt h).elim
  ·next c hc=>
   have hl:p<D.length:=(List.getElem?_eq_some_iff.1 hc).1
   split at h
   ·rw[<- XU h];exact⟨Nat.lt_succ_self _,hl⟩
   ·obtain⟨y,hy,hg⟩:=JA h;obtain⟨z',hz,hg⟩:=JA hg;have a:=h1 p y hp hy;have b:=Q8v h1 a.2 hz;rw[<- XU hg]
    simp only;omega
theorem Q8x{one:Int->Nat->Rdg (Nd×VF×Nat)}{m:Nat}:∀{ns:List (List UInt8)} {ks:List Int} {p:Nat} {z:List (List UInt8)×VF×Nat},(∀k∈ks,Far (one k) m)->ns.length=ks.length->p<=m->QgN one ns ks p=some (.ok z)->p+ks.length<=z.2.2/\z.2.2<=m
 |[],[],p,z,h1,hl,hp,h=>by rw[<- XU h];exact⟨Nat.le_refl _,hp⟩
 |[],_::_,p,z,h1,hl,hp,h=>by cases hl
 |_::_,[],p,z,h1,hl,hp,h=>by cases hl
 |nm::ns,k::ks,p,z,h1,hl,hp,h=>by
  unfold QgN at h
  obtain⟨y,hy,hg⟩:=JA h;obtain⟨z',hz,hg⟩:=JA hg;have a:=h1 k List.mem_cons_self p y hp hy;have b:=Q8x (fun k hk=>h1 k (List.mem_cons_of_mem _ hk)) QdI a.2 hz
  have:z.2.2=z'.2.2:=by
   split at hg
   ·rw[<- XU hg]
   ·rw[<- XU hg]
  rw[this,List.length_cons];omega
end
section
variable {c:UInt8}{i p:Nat}{k:Int}{ks:List Int}
section
variable {F:List Rl}{D:List UInt8}
theorem QaB{r:Rl}(h:F[k.toNat]? =some r):Qh F k=r:=by unfold Qh;rw[h];rfl
theorem Q6g(h:0<=k/\k<F.length):F[k.toNat]? =some (Qh F k):=by
 unfold Qh;rw[List.getElem?_eq_getElem (show k.toNat<F.length by omega)];rfl
theorem Usd.rok(hv:Usd F)(h:0<=k/\k<F.length):ROk F.length (Qh F k):=hv.ok _ _ (Q6g h)
theorem Usd.numK(hv:Usd F)(h:0<=k/\k<F.length)(hk:(Qh F k).kind=6\/(Qh F k).kind=10):Qq3 (Qh F (Qh F k).count):=by
 obtain⟨c,hc,h23⟩:=hv.use _ _ (Q6g h) hk;rw[QaB hc];have:=hv.ok _ _ hc;rcases h23 with h2|h3
 ·exact .inr ⟨h2,(this.num h2).1⟩
 ·exact .inl h3
theorem Q8B{l:List Int}(h:i<l.length):l.getD i 0∈l:=by
 refine QcN ?_;exact List.getElem_mem _
theorem Qfk(h:Qa1 F ks c=some i):i<ks.length:=by
 unfold Qa1 at h;rw[List.findIdx?_eq_some_iff_getElem] at h;exact h.1
theorem VR(hv:Usd F):∀(f:Nat) {k:Int},0<=k/\k<F.length->Far (XK F D f k) D.length
 |0,k,hk,p,y,hp,h=>by cases h
 |f+1,k,hk,p,y,hp,h=>by
  have hr:=hv.rok hk;have hnk:=hv.numK hk
  unfold XK at h;obtain⟨r,e⟩:∃r,Qh F k=r:=⟨_,rfl⟩;simp only[e] at h hr hnk;split at h
  ·next h1=>
   obtain⟨q,hq,hg⟩:=JA h;obtain⟨a,_,c⟩:=Qh6 hq;have:=hr.bs1 h1;rw[List.length_drop] at c;exact Q9m
  split at h
  ·next h23=>
   obtain⟨z,hz,hg⟩:=JA h
   have:=Q11 (q:=z.2) (n:=z.1) (by
    rcases h23 with h2|h3
    ·exact .inr ⟨h2,(hr.num h2).1⟩
    ·exact .inl h3) hp hz
   rw[<- XU hg];exact this
  split at h
  ·next h4=>
   obtain⟨z,hz,hg⟩:=JA h;obtain⟨rfl,hn⟩:=Q0T hz;have:=hr.size4 h4;exact Q9m
  split at h
  ·next h10=>
   obtain⟨z,hz,hg⟩:=JA h;have a:=Q11 (q:=z.2) (n:=z.1) (hnk (.inr h10)) hp hz;obtain⟨z',hz',hg⟩:=JA hg;obtain⟨rfl,hn⟩:=Q0T hz';exact Q9m
  split at h
  ·next h5=>
   obtain⟨q,hq,hg⟩:=JA h;have a:=QbK hq;rw[List.length_drop] at a;exact Q9m
  split at h
  ·next h6=>
   obtain⟨z,hz,hg⟩:=JA h;have a:=Q11 (q:=z.2) (n:=z.1) (hnk (.inl h6)) hp hz;obtain⟨z',hz',hg⟩:=JA hg;have b:=Q7u (VR hv f (hr.elem (.inl h6))) a.2 hz';exact Q9m
  split at h
  ·next h9=>
   obtain⟨z',hz',hg⟩:=JA h;have b:=Q8v (VR hv f (hr.elem (.inr h9))) hp hz';rw[<- XU hg];exact b
  split at h
  ·next h8=>
   split at h
   ·exact Q4E
   ·next c hc=>
    split at h
    ·exact Q4E
    ·next i hi=>
     obtain⟨z,hz,hg⟩:=JA h;have b:=VR hv f (hr.parts (.inr h8) _ (Q8B (Qfk hi))) p z hp hz;rw[<- XU hg];exact b
  ·next h1 h23 h4 h10 h5 h6 h9 h8=>
   have h7:r.kind=7:=by
    have:=hr.kind;omega
   obtain⟨z,hz,hg⟩:=JA h;have b:=Q8x (fun k hk=>VR hv f (hr.parts (.inl h7) k hk)) (hr.seven h7).1 hp hz;have:=(hr.seven h7).2;exact Q9m
end
end
section
variable {r:Rl}
def VG(S:List (Nat->Bool)):List Int->Nat->Nat
 |[],_=>0
 |x::l,b=>(if (S.getD x.toNat XH) b then 1 else 0)+VG S l b
theorem Qda(S:List (Nat->Bool)):∀(l m:List Int) (b:Nat),VG S (l++m) b=VG S l b+VG S m b
 |[],m,b=>by simp [VG]
 |x::l,m,b=>by
  rw[List.cons_append,VG,VG,Qda S l m b]
  omega
theorem Qhb(S:List (Nat->Bool)):∀(l:List Int) (b:Nat),VG S l b<=l.length
 |[],b=>Nat.le_refl _
 |x::l,b=>by
  rw[VG,List.length_cons];have:=Qhb S l b
  split<;>omega
theorem Q8t(S:List (Nat->Bool)):∀(l:List Int) (seen:Nat->Bool),VZ S seen l=true↔∃b,b<256/\(1<VG S l b\/(seen b=true/\1<=VG S l b))
 |[],seen=>by
  unfold VZ
  simp [VG]
 |x::l,seen=>by
  rw[VZ,Bool.or_eq_true,Q8t S l,List.any_eq_true]
  constructor
  ·rintro(⟨c,hc,h⟩|⟨b,hb,h⟩)
   ·rw[Bool.and_eq_true] at h;refine⟨c,List.mem_range.1 hc,.inr ⟨h.2,?_⟩⟩;rw[VG,if_pos h.1]
    omega
   ·refine⟨b,hb,?_⟩;rw[VG]
    rcases h with h|⟨h1,h2⟩
    ·left;split<;>omega
    ·unfold orS at h1
     rw[Bool.or_eq_true] at h1
     rcases h1 with h1|h1
     ·right;exact⟨h1,by split<;>omega⟩
     ·left;rw[if_pos h1];omega
  ·rintro⟨b,hb,h⟩
   rw[VG] at h
   by_cases hx:(S.getD x.toNat XH) b=true
   ·rw[if_pos hx] at h
    rcases h with h|⟨h1,h2⟩
    ·right
     refine⟨b,hb,.inr ⟨?_,by omega⟩⟩
     unfold orS
     rw[hx,Bool.or_true]
    ·left
     exact⟨b,List.mem_range.2 hb,by rw[hx,h1];rfl⟩
   ·rw[if_neg hx] at h
    right
    refine⟨b,hb,?_⟩
    rcases h with h|⟨h1,h2⟩
    ·left;omega
    ·right
     refine⟨?_,by omega⟩
     unfold orS
     rw[h1]
     rfl
def Q9O(S:List (Nat->Bool))(r:Rl)(b:Nat):Bool:=
 (r.kind==9&&((b:Int)==r.stop&&(S.getD r.elem.toNat XH) b))||(r.kind==8&&decide (1<VG S r.parts b))
theorem Q8w{n:Nat}{S:List (Nat->Bool)}(h:ROk n r):Ze S r=true↔∃b,b<256/\Q9O S r b=true:=by
 unfold Ze Q9O;by_cases h9:r.kind=9
 ·have hs:=h.stop (.inr (.inr h9));rw[if_pos h9]
  constructor
  ·intro hc;refine⟨r.stop.toNat,by omega,?_⟩;rw[hc,h9,show (((r.stop.toNat:Nat):Int)==r.stop)=true from beq_iff_eq.2 Q3]
   rfl
  ·rintro⟨b,hb,hc⟩
   rw[h9] at hc;simp only[Bool.or_eq_true,Bool.and_eq_true,beq_iff_eq] at hc;rcases hc with ⟨_,h1,h2⟩|⟨h1,_⟩
   ·rw[<- h1];exact h2
   ·exact absurd h1 Q1
 ·rw[if_neg h9]
  by_cases h8:r.kind=8
  ·rw[if_pos h8,Q8t]
   constructor
   ·rintro⟨b,hb,hc⟩
    refine⟨b,hb,?_⟩;rcases hc with hc|⟨hc,_⟩
    ·rw[h8]
     simp [hc]
    ·cases hc
   ·rintro⟨b,hb,hc⟩
    refine⟨b,hb,.inl ?_⟩;rw[h8] at hc;simp only[Bool.or_eq_true,Bool.and_eq_true,beq_iff_eq,decide_eq_true_eq] at hc;rcases hc with ⟨h1,_⟩|⟨_,h1⟩
    ·exact absurd h1 Q1
    ·exact h1
  ·rw[if_neg h8]
   constructor
   ·intro hc;cases hc
   ·rintro⟨b,hb,hc⟩
    simp only[Bool.or_eq_true,Bool.and_eq_true,beq_iff_eq] at hc;rcases hc with ⟨h1,_⟩|⟨h1,_⟩
    ·exact absurd h1 h9
    ·exact absurd h1 h8
theorem Q49(sep b:List UInt8):∀ws:List (List UInt8),ws≠[]->Lib.join (ws++[b]) sep=Lib.join ws sep++(sep++b)
 |[],h=>absurd rfl h
 |[x],_=>by
  show Lib.join (x::[b]) sep=_
  rw[Lib.join_cons,Lib.join_one,J2]
  show x++(sep++(b++Lib.joinTail sep []))=_
  rw[show Lib.joinTail sep []=[] from rfl,List.append_nil]
 |x::y::l,_=>by
  have ih:=Q49 sep b (y::l) Qn;rw[Lib.join_cons y,List.cons_append,Lib.join_cons] at ih
  show Lib.join (x::(y::(l++[b]))) sep=_;rw[Lib.join_cons,Lib.join_cons,J2,J2,ih];simp only[List.append_assoc]
def spW(u:Bool)(s:List UInt8):List UInt8:=if u then 32::s else []
theorem YC(u:Bool)(s:List UInt8){ws:List (List UInt8)}(h:ws≠[]):Lib.join (ws++ifW u s) [32]=Lib.join ws [32]++spW u s:=by
 unfold ifW spW;cases u with
 |true=>exact Q49 [32] s ws h
 |false=>simp
theorem QcX{α:Type}(f:α->List UInt8):∀(l:List α) {ws:List (List UInt8)},ws≠[]->Lib.join (ws++l.map f) [32]=Lib.join ws [32]++(l.map fun i=>32::f i).flatten
 |[],ws,h=>by simp
 |x::l,ws,h=>by
  have ih:=QcX f l (ws:=ws++[f x]) Qn;rw[List.append_assoc] at ih
  show Lib.join (ws++([f x]++l.map f)) [32]=_;rw[ih,Q49 _ _ _ h,List.map_cons,List.flatten_cons];simp
def Q2S(F:List Rl)(r:Rl):List UInt8:=
 r.name++[32]++JP r.kind++(if r.kind==1 then [32] else [])++Vu r.bs++spW (XS r.kind) (Lib.itoa r.stop)++spW (XT r.kind) (Lib.itoa r.size)++spW (r.kind==2) (if r.big then Qcx else Ys)++spW (r.kind==2) (Lib.itoa r.mn)++spW (Z8 r.kind) (Lib.itoa r.mx)++spW (QE r.kind) (K3 F r.count)++spW (JS r.kind) (K3 F r.elem)++((List.range r.parts.length).map fun i=>32::XF F r i).flatten++[10]
theorem QeP{F:List Rl}(h:r.kind≠1->r.bs=[]):Q2S F r=Q2N F r:=by
 unfold Q2S Q2N Y2 Q4x;have hb:(if r.kind==1 then [32] else [])++Vu r.bs=spW (r.kind==1) (Vu r.bs):=by
  unfold spW;by_cases h1:r.kind=1
  ·rw[h1];rfl
  ·rw[h h1,show (r.kind==1)=false from beq_eq_false_iff_ne.2 h1];rfl
 rw[QcX _ _ Qn,YC _ _ Qn,YC _ _ Qn,YC _ _ Qn,YC _ _ Qn,YC _ _ Qn,YC _ _ Qn,YC _ _ Qn,YC _ _ Qn,<- hb];have h2:Lib.join [r.name,JP r.kind] [32]=r.name++[32]++JP r.kind:=by
  rw[Lib.join_cons,J2];show r.name++([32]++(JP r.kind++[]))=_;simp
 rw[h2];simp only[List.append_assoc]
end
def Qo6(c:UInt8):Bool:=decide (48<=c.toNat/\c.toNat<=57)
def Q4r:Nat->List UInt8->Nat
 |n,[]=>n
 |n,c::r=>Q4r (10*n+(c.toNat - 48)) r
theorem Qde:∀(x:List UInt8) (n:Nat) (c:UInt8),Q4r n (x++[c])=10*Q4r n x+(c.toNat - 48)
 |[],n,c=>rfl
 |b::x,n,c=>Qde x _ c
theorem Qdy:∀(x:List UInt8) (n:Nat),0<n->0<Q4r n x
 |[],n,h=>h
 |c::r,n,h=>Qdy r _ Q3
theorem QkI(m:Nat):∀(x:List UInt8),x.length=m+1->x.all Qo6=true->(1<x.length->x.head?≠some 48)->Lib.decDigits (Q4r 0 x)=x:=by
 induction m using Nat.strongRecOn with
 |_ m ihm=>
  intro x hl ha hh;rcases List.eq_nil_or_concat x with rfl|⟨y,c,rfl⟩
  ·cases hl
  ·rw[List.concat_eq_append] at*;rw[List.all_append,Bool.and_eq_true] at ha
   have hc:48<=c.toNat/\c.toNat<=57:=by
    have h:=ha.2;simp only[List.all_cons,List.all_nil,Bool.and_true] at h;exact of_decide_eq_true h
   rw[Qde];cases y with
   |nil=>
    rw[Lib.decDigits,dif_pos (by show 10*Q4r 0 []+(c.toNat - 48)<10;show 10*0+(c.toNat - 48)<10;omega)];show [_]=[c];congr 1;refine UInt8.toNat.inj ?_;show (UInt8.ofNat (48+(10*0+(c.toNat - 48)))).toNat=c.toNat;simp only[UInt8.toNat_ofNat'];omega
   |cons b t=>
    have hb:b≠48:=fun e=>hh Qn (by rw[e];rfl);have hbd:48<=b.toNat/\b.toNat<=57:=by
     have h:=ha.1;rw[List.all_cons,Bool.and_eq_true] at h;exact of_decide_eq_true h.1
    have hb48:b.toNat≠48:=fun e=>hb (UInt8.toNat.inj (by rw[e];rfl));have hp:0<Q4r 0 (b::t):=Qdy t _ (by show 0<10*0+(b.toNat - 48);omega);have ih:=ihm t.length (by simp at hl;omega) (b::t) rfl ha.1 (fun _ h=>hb (by simpa using h));rw[Lib.decDigits,dif_neg Q3,show (10*Q4r 0 (b::t)+(c.toNat - 48)) / 10=Q4r 0 (b::t) by omega,ih];congr 1;congr 1;refine UInt8.toNat.inj ?_;simp only[UInt8.toNat_ofNat'];omega
end Go.Proofs.YtphkhfdmlcnoeaaGreatDoor
