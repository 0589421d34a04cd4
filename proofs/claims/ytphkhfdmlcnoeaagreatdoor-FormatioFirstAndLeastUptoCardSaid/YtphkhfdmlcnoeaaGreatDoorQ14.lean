import Derived.Test.YtphkhfdmlcnoeaaGreatDoorQ13
namespace Go.Proofs.YtphkhfdmlcnoeaaGreatDoor
set_option linter.unusedVariables false
set_option linter.unusedSimpArgs false
set_option maxRecDepth 1000000
set_option maxHeartbeats 32000000
open Go.RowKit
section
variable {F:List Rl}{c' i k n q':Nat}{r:Rl}{t:List Int}{x:Int}
structure ROk(n:Nat)(r:Rl):Prop where
 kind:1<=r.kind/\r.kind<=10
 formed:Y4 r.kind r.size r.big r.mn r.mx r.stop r.count r.elem r.bs.length r.names.length r.parts.length=true
 bs1:r.kind=1->0<r.bs.length
 bs16:r.bs.length<=16
 seven:r.kind=7->r.names.length=r.parts.length/\1<=r.parts.length
 eight:r.kind=8->2<=r.parts.length
 p12:r.parts.length<=12
 parts:(r.kind=7\/r.kind=8)->∀x∈r.parts,0<=x/\x<n
 count:(r.kind=6\/r.kind=10)->0<=r.count/\r.count<n
 elem:(r.kind=6\/r.kind=9)->0<=r.elem/\r.elem<n
 num:r.kind=2->1<=r.size/\r.size<=4/\0<=r.mn/\r.mn<=r.mx/\r.mx<256 ^ r.size.toNat
 dec:r.kind=3->0<=r.mx/\r.mx<=999999999/\¬(48<=r.stop/\r.stop<=57)
 stop:(r.kind=3\/r.kind=5\/r.kind=9)->0<=r.stop/\r.stop<=255
 size4:r.kind=4->1<=r.size/\r.size<=1000
 size5:r.kind=5->0<=r.size/\r.size<=1000
theorem Xn{n a b:Int}:inB n a b=true↔a<=n/\n<=b:=by unfold inB;simp
theorem Qto{early:List Rl}(h:XM r early n=0):ROk n r:=by
 unfold XM at h;split at h
 ·cases h
 split at h
 ·cases h
 split at h
 ·cases h
 next h3=>
 split at h
 ·cases h
 next h4=>
 split at h
 ·cases h
 next h5=>
 split at h
 ·cases h
 next h6=>
 split at h
 ·cases h
 next h7=>
 split at h
 ·cases h
 next h8=>
 split at h
 ·cases h
 next h9=>
 split at h
 ·cases h
 next h10=>
 split at h
 ·cases h
 next h11=>
 have hk:1<=r.kind/\r.kind<=10:=Xn.1 (by simpa using h3);have hf:Y4 r.kind r.size r.big r.mn r.mx r.stop r.count r.elem r.bs.length r.names.length r.parts.length=true:=by simpa using h4
 have hr:QR r.kind r.size r.mn r.mx r.stop r.count r.elem r.parts n=true:=by simpa using h11
 clear h h3 h4 h11;simp only[Bool.and_eq_true,beq_iff_eq,bne_iff_ne,decide_eq_true_eq,not_and,ne_eq,Decidable.not_not] at h5 h6 h7 h8 h9 h10;refine⟨hk,hf,fun h=>?_,by omega,fun h=>⟨?_,?_⟩,fun h=>?_,by omega,?_,?_,?_,?_,?_,?_,?_,?_⟩
 ·have:=h5 h;omega
 ·have:=h7 h;omega
 ·have:=h8 h;omega
 ·have:=h9 h;omega
 ·rintro(h|h) x hx<;>
  ·rw[QR,if_neg Q2,if_neg Q2,if_neg Q2,if_neg Q2,if_neg Q2,if_neg Q2,if_neg Q2] at hr
   have h2:r.parts.any (fun x=>!(inB x 0 ((n:Int) - 1)))=false:=by simpa using hr
   have:=List.any_eq_false.1 h2 x hx;have:=Xn.1 (by simpa using this);omega
 ·rintro(h|h)
  ·rw[QR,if_neg Q2,if_neg Q2,if_neg Q2,if_neg Q2,if_neg Q2,if_pos h,Bool.and_eq_true,Xn,Xn] at hr
   omega
  ·rw[QR,if_neg Q2,if_neg Q2,if_neg Q2,if_neg Q2,if_neg Q2,if_neg Q2,if_pos h,Xn] at hr
   omega
 ·rintro(h|h)
  ·rw[QR,if_neg Q2,if_neg Q2,if_neg Q2,if_neg Q2,if_neg Q2,if_pos h,Bool.and_eq_true,Xn,Xn] at hr
   omega
  ·rw[QR,if_neg Q2,if_neg Q2,if_neg Q2,if_neg Q2,if_pos h,Bool.and_eq_true,Xn,Xn] at hr
   omega
 ·intro h;rw[QR,if_pos h,Bool.and_eq_true,Bool.and_eq_true,Xn,Xn,decide_eq_true_eq] at hr;exact⟨hr.1.1,hr.1.2,hr.2.1.1,hr.2.1.2,hr.2.2⟩
 ·intro h;rw[QR,if_neg Q2,if_pos h,Bool.and_eq_true,Bool.and_eq_true,Xn,Xn] at hr;refine⟨hr.1.1,hr.1.2,fun h'=>?_⟩;have:=hr.2.2;rw[Xn.2 h'] at this
  cases this
 ·rintro(h|h|h)
  ·rw[QR,if_neg Q2,if_pos h,Bool.and_eq_true,Bool.and_eq_true,Xn,Xn] at hr;exact hr.2.1
  ·rw[QR,if_neg Q2,if_neg Q2,if_neg Q2,if_pos h,Bool.and_eq_true,Xn,Xn] at hr;exact hr.2
  ·rw[QR,if_neg Q2,if_neg Q2,if_neg Q2,if_neg Q2,if_pos h,Bool.and_eq_true,Xn,Xn] at hr;exact hr.1
 ·intro h;rw[QR,if_neg Q2,if_neg Q2,if_pos h,Xn] at hr;exact hr
 ·intro h;rw[QR,if_neg Q2,if_neg Q2,if_neg Q2,if_pos h,Bool.and_eq_true,Xn,Xn] at hr;exact hr.1
def FOk(F:List Rl):Prop:=∀(i:Nat) (r:Rl),F[i]? =some r->ROk F.length r
def bl(r:Rl):List Int:=Xg r.kind r.count r.elem r.parts
theorem Q6U(h:ROk n r):∀x∈bl r,0<=x/\x<n:=by
 intro x hx;unfold bl Xg at hx;split at hx
 ·next hk=>rw[List.mem_singleton] at hx;subst hx;exact h.count hk
 split at hx
 ·next hk=>exact h.parts (.inl hk) x (List.mem_of_mem_take hx)
 split at hx
 ·next hk=>exact h.parts (.inr hk) x hx
 split at hx
 ·next hk=>rw[List.mem_singleton] at hx;subst hx;exact h.elem (.inr hk)
 ·cases hx
theorem QaQ(h:ROk n r):(bl r).length<=12:=by
 unfold bl Xg;split
 ·simp
 split
 ·have:=h.p12;rw[List.length_take]
  omega
 split
 ·exact h.p12
 split
 ·simp
 ·simp
theorem Q4E(h:F[i]? =some r):bg F i=(bl r).map Int.toNat:=by unfold bg;rw[h];rfl
theorem FOk.bd(h:FOk F):Bd F:=by
 intro i x hx;cases hr:F[i]? with
 |none=>unfold bg at hx;rw[hr] at hx;cases hx
 |some r=>
  rw[Q4E hr,List.mem_map] at hx;obtain⟨y,hy,rfl⟩:=hx;have:=Q6U (h i r hr) y hy;omega
def JL(l:List Bool):List Value:=l.map .bool
theorem Q2D{l:List Bool}(h:i<l.length):(JL l)[i]? =some (.bool (l.getD i false)):=by
 unfold JL;rw[List.getElem?_map,List.getElem?_eq_getElem h,List.getD_eq_getElem?_getD,List.getElem?_eq_getElem h];rfl
theorem Q3X(l:List Bool)(i:Nat)(b:Bool):(JL l).set i (.bool b)=JL (l.set i b):=by
 unfold JL;rw[List.map_set]
theorem QrR(n:Nat):(Go.madeCells #[.bool false] (n*1)).toList=JL (List.replicate n false):=by
 refine List.ext_getElem? fun i=>?_;unfold JL Go.madeCells;rw[List.getElem?_map];by_cases h:i<n
 ·simp [h,Nat.mod_one]
 ·simp [h]
def Q31(F:List Rl)(k:Nat):Bool:=(VJ F k).getD k false
theorem Q2M(hb:Bd F)(hk:k<F.length):Q31 F k=true↔Rch F k k:=Yu hb hk k
structure Cy where
 seen:List Bool
 qs:List Int
 b:Nat
 q:Nat
 c:Nat
 cur:List Value
def VO(s:Cy)(n:Nat):Nat:=cnt (fun i=>!(s.seen.getD i false)) n
structure CyP(F:List Rl)(k:Nat)(s:Cy):Prop where
 len:s.seen.length=F.length
 win:Q55 s.q s.qs.length s.c s.cur (iv s.qs)
 inn:∀x∈s.qs,0<=x/\x<F.length
 sound:∀x∈s.qs,Rch F k x.toNat
 start:∀x∈bg F k,s.seen.getD x false=true\/(x:Int)∈s.qs
 closed:∀i,s.seen.getD i false=true->∀x∈bg F i,s.seen.getD x false=true\/(x:Int)∈s.qs
 notk:s.seen.getD k false=false
 small:13*VO s F.length+s.qs.length<=13*F.length+12
theorem CyP.old{s:Cy}(h:CyP F k s)(hq:s.qs=x::t)(hx:s.seen.getD x.toNat false=true)(hxn:0<=x)(hw:Q55 q' t.length c' s.cur (iv t)):CyP F k { s with qs:=t,q:=q',c:=c' }:=by
 have hmem:∀y:Nat,(y:Int)∈s.qs->s.seen.getD y false=true\/(y:Int)∈t:=by
  intro y hy;rw[hq] at hy;rcases List.mem_cons.1 hy with e|e
  ·left;rw[<- e] at hx;simpa using hx
  ·exact .inr e
 refine⟨h.len,hw,fun y hy=>h.inn y (by rw[hq];exact List.mem_cons_of_mem _ hy),fun y hy=>h.sound y (by rw[hq];exact List.mem_cons_of_mem _ hy),?_,?_,h.notk,?_⟩
 ·intro y hy
  rcases h.start y hy with h1|h1
  ·exact .inl h1
  ·exact hmem y h1
 ·intro i hi y hy
  rcases h.closed i hi y hy with h1|h1
  ·exact .inl h1
  ·exact hmem y h1
 ·have h1:=h.small;rw[hq] at h1
  simp only[List.length_cons] at h1;show 13*VO s F.length+t.length<=_;omega
theorem CyP.new(hF:FOk F){s:Cy}(h:CyP F k s)(hq:s.qs=x::t)(hr:F[x.toNat]? =some r)(hx:s.seen.getD x.toNat false=false)(hne:x≠(k:Int)){b':Nat}{cur':List Value}(hw:Q55 q' (t++bl r).length c' cur' (iv (t++bl r))):
  CyP F k { seen:=s.seen.set x.toNat true,qs:=t++bl r,b:=b',q:=q',c:=c',cur:=cur' }/\13*VO { seen:=s.seen.set x.toNat true,qs:=t++bl r,b:=b',q:=q',c:=c',cur:=cur' } F.length+(t++bl r).length<13*VO s F.length+s.qs.length:=by
 have hxi:=h.inn x (by rw[hq];exact List.mem_cons_self);have hxl:x.toNat<s.seen.length:=by rw[h.len];omega
 have hset:∀i,(s.seen.set x.toNat true).getD i false=if i=x.toNat then true else s.seen.getD i false:=fun i=>Z3 _ _ _ _ hxl;have hbl:=QaQ (hF _ _ hr);have hlt:VO { seen:=s.seen.set x.toNat true,qs:=t++bl r,b:=b',q:=q',c:=c',cur:=cur' } F.length<VO s F.length:=by
  refine Q3H F.length (fun i hi hh=>?_) ⟨x.toNat,by omega,?_,?_⟩
  ·show (!(s.seen.getD i false))=true
   have hh':(!((s.seen.set x.toNat true).getD i false))=true:=hh;rw[hset] at hh';split at hh'
   ·cases hh'
   ·exact hh'
  ·show (!((s.seen.set x.toNat true).getD x.toNat false))=false
   rw[hset,if_pos rfl];rfl
  ·show (!(s.seen.getD x.toNat false))=true
   rw[hx];rfl
 have hm:13*VO { seen:=s.seen.set x.toNat true,qs:=t++bl r,b:=b',q:=q',c:=c',cur:=cur' } F.length+(t++bl r).length<13*VO s F.length+s.qs.length:=by
  rw[hq,List.length_append,List.length_cons];omega
 refine⟨⟨by simp [h.len],hw,?_,?_,?_,?_,?_,?_⟩,hm⟩
 ·intro y hy
  rcases List.mem_append.1 hy with e|e
  ·exact h.inn y (by rw[hq];exact List.mem_cons_of_mem _ e)
  ·exact Q6U (hF _ _ hr) y e
 ·intro y hy
  rcases List.mem_append.1 hy with e|e
  ·exact h.sound y (by rw[hq];exact List.mem_cons_of_mem _ e)
  ·refine .more (h.sound x (by rw[hq];exact List.mem_cons_self)) ?_;rw[Q4E hr];exact List.mem_map_of_mem e
 ·intro y hy;rw[hset]
  split
  ·exact .inl rfl
  ·next hyx=>
   rcases h.start y hy with h1|h1
   ·exact .inl h1
   ·rw[hq] at h1
    rcases List.mem_cons.1 h1 with e|e
    ·exact absurd Q2 hyx
    ·exact .inr (List.mem_append_left _ e)
 ·intro i hi y hy;rw[hset] at hi ⊢
  split
  ·exact .inl rfl
  ·next hyx=>
   split at hi
   ·next hix=>
    subst hix;right;rw[Q4E hr,List.mem_map] at hy;obtain⟨z,hz,rfl⟩:=hy;have:=Q6U (hF _ _ hr) z hz;rw[show ((z.toNat:Nat):Int)=z by omega];exact List.mem_append_right _ hz
   ·rcases h.closed i hi y hy with h1|h1
    ·exact .inl h1
    ·rw[hq] at h1
     rcases List.mem_cons.1 h1 with e|e
     ·exact absurd Q2 hyx
     ·exact .inr (List.mem_append_left _ e)
 ·rw[hset,if_neg Q2];exact h.notk
 ·have:=h.small
  show 13*VO _ F.length+(t++bl r).length<=_;omega
theorem CyP.done(hF:FOk F)(hk:k<F.length){s:Cy}(h:CyP F k s)(hq:s.qs=[]):Q31 F k=false:=by
 cases hc:Q31 F k with
 |false=>rfl
 |true=>
  exfalso;have hr:=(Q2M hF.bd hk).1 hc;have hall:∀j,Rch F k j->s.seen.getD j false=true:=by
   intro j hj;induction hj with
   |one h'=>
    rcases h.start _ h' with h1|h1
    ·exact h1
    ·rw[hq] at h1;cases h1
   |more _ h' ih=>
    rcases h.closed _ ih _ h' with h1|h1
    ·exact h1
    ·rw[hq] at h1;cases h1
  have:=hall k hr;rw[h.notk] at this;cases this
end
section
variable {A Ab An Ap:Option Addr}{F:List Rl}{W:World}{bs c cb cn cp g gf h n:Nat}{out:List Bool}{r:Rl}{x:Int}
def JN(F:List Rl)(x:Int):Int:=match F[x.toNat]? with|some r=>r.mn|none=>0
theorem Q12(h:F[x.toNat]? =some r):JN F x=r.mn:=by unfold JN;rw[h]
def mk(out:List Bool)(x:Int):Bool:=out.getD x.toNat false
def JU(F:List Rl)(out:List Bool)(r:Rl):Bool:=
 if r.kind=10 then mk out r.count
 else if r.kind=6 then mk out r.count&&(JN F r.count==0||mk out r.elem)
 else if r.kind=7 then !(r.parts.any fun k=>!(mk out k))
 else if r.kind=8 then r.parts.any fun k=>mk out k
 else true
def Zo(F:List Rl)(out:List Bool)(k:Nat):List Bool:=out.set k (out.getD k false||(match F[k]? with|some r=>JU F out r|none=>false))
def ZN(F:List Rl)(out:List Bool):List Bool:=(List.range F.length).foldl (Zo F) out
def Jg(F:List Rl):List Bool:=iter (ZN F) F.length (List.replicate F.length false)
structure QdW(w:World)(g bs n:Nat)(out:List Bool):Prop where
 v:w.cell? ⟨g,0,none⟩=some (.slice (some ⟨bs,0,none⟩) n n)
 at_:∀j,j<n->w.cell? ⟨bs,0+j,none⟩=some (.bool (out.getD j false))
theorem QdW.on{w w':World}(h:QdW w g bs n out)(hb:Below w.heap.size w w'):QdW w' g bs n out:=
 ⟨(hb.cell (Q0D h.v)).trans h.v,fun j hj=>(hb.cell (Q0D (h.at_ j hj))).trans (h.at_ j hj)⟩
theorem Q7i(h:QdW W g bs n out)(hx:0<=x/\x<n):Calls Tryz.prog 152 #[.int .i64 x,.pointer (some ⟨g,0,none⟩)] W fun e w'=>e=.returned (.bool (mk out x))/\Below W.heap.size W w':=by
 have hv:=h.v;have hc:=h.at_ x.toNat Q2;clear h;go_enter Tryz.func152,Tryz.ntmps152;refine Qy (M:=[]) (W:=W) (N:=8) (E:=[(0,.int .i64 x),(1,.pointer Q6b)]) (O:=[]) ?_ mc3 Xs;repeat(first|refine Q4 zM ?_|refine Q4 zA ?_|refine Q4 zC ?_|refine Q4 QmR ?_|refine Qc ?_|refine Qa ?_|refine Q6 ?_|refine Qu ?_)
 exact Q50
theorem QuH(a b:Value):(#[a]++#[b]:Array Value)=#[a,b]:=by simp
theorem Qsz(a b c:Value):(#[a]++#[b,c]:Array Value)=#[a,b,c]:=by simp
theorem Q5n(h:QdW W g bs n out)(hx:0<=x/\x<n):Calls Tryz.prog 152 ([Value.int .i64 x].toArray++#[.pointer (some ⟨g,0,none⟩)]) W fun e w'=>e=.returned (.bool (mk out x))/\Below W.heap.size W w':=by
 rw[show ([Value.int .i64 x].toArray++#[.pointer (some ⟨g,0,none⟩)]:Array Value)=_ from QuH _ _];exact Q7i h hx
theorem Qes(hh:W.cell? ⟨h,0,none⟩=some (.func (.func 152) #[] #[.pointer (some ⟨g,0,none⟩)]))(ho:QdW W g bs n out)(hx:0<=x/\x<n):Calls Tryz.prog 155 #[.int .i64 x,.pointer (some ⟨h,0,none⟩)] W fun e w'=>e=.returned (.bool (!(mk out x)))/\Below W.heap.size W w':=by
 have HO:=Q3 ho;clear ho;go_enter Tryz.func155,Tryz.ntmps155;refine Qy (M:=[]) (W:=W) (N:=8) (E:=[(0,.int .i64 x),(1,.pointer (some ⟨h,0,none⟩))]) (O:=[]) ?_ mc3 Xs;repeat(first|refine Q4 zM ?_|refine Q4 zA ?_|refine Q4 zC ?_|refine Q4 (Jw (f:=152) rfl rfl Q1 rfl rfl rfl (fun w hw=>Q5n (HO.out.on hw.k.below) hx)) ?_|refine Qc ?_|refine Qa ?_|refine Q6 ?_|refine Qu ?_|refine Q4 zO ?_)
 exact Q50
theorem QbU:Q11 152:=fun args W=>by kernel_rfl
theorem Q9k:Q11 155:=fun args W=>by kernel_rfl
structure Qc5(w:World)(h g bs n:Nat)(out:List Bool)(gf:Nat)(A:Option Addr)(c:Nat):Prop where
 o:QdW w g bs n out
 h:w.cell? ⟨h,0,none⟩=some (.func (.func 152) #[] #[.pointer (some ⟨g,0,none⟩)])
 f:w.cell? ⟨gf,0,none⟩=some (.slice A n c)
theorem QsX(hv:Qc5 W h g bs n out gf A c)(hf:X3 W W.heap.size A n F)(hl:RuL W r Ab cb An cn Ap cp)(hr:ROk n r)(hk:r.kind=10):
  Calls Tryz.prog 153 #[.agg (ruC r (.slice Ab r.bs.length cb) (.slice An r.names.length cn) (.slice Ap r.parts.length cp)).toArray,.pointer (some ⟨h,0,none⟩),.pointer (some ⟨gf,0,none⟩)] W fun e w'=>e=.returned (.bool (JU F out r))/\Below W.heap.size W w':=by
 have hh:=hv.h;have hff:=hv.f;have HO:=Q3 hv.o;have HL:=Q3 hl;have HR:=Q3 hr;have hp12:=hr.p12;have hcn:=hr.count (.inr hk);clear hv hl hr;go_enter Tryz.func153,Tryz.ntmps153;refine Qy (M:=[]) (W:=W) (N:=48) (E:=Qbo) (O:=[]) ?_ Ze Xs;repeat(first|refine Q4 zA ?_|refine Q4 zF ?_|refine Q4 (zB 0) ?_|refine Q4 zC ?_|refine yB fun br=>?_|refine Q4 (Jw (f:=152) rfl rfl Q1 rfl rfl rfl (fun w hw=>Q5n (HO.out.on hw.k.below) hcn)) ?_|refine Qc ?_|refine Qa ?_|refine Q6 ?_|refine Q8 rfl ?_|refine Qu ?_|refine Qh ?_|refine Qo ?_|refine Qt ?_|refine Q4 zet ?_)
 exact Qb mc4 rfl (.tmp rfl) (fun w hw=>⟨by rw[JU,if_pos hk],hw.k.below⟩)
theorem Qw5(hv:Qc5 W h g bs n out gf A c)(hf:X3 W W.heap.size A n F)(hl:RuL W r Ab cb An cn Ap cp)(hr:ROk n r)(hk:r.kind=6):
  Calls Tryz.prog 153 #[.agg (ruC r (.slice Ab r.bs.length cb) (.slice An r.names.length cn) (.slice Ap r.parts.length cp)).toArray,.pointer (some ⟨h,0,none⟩),.pointer (some ⟨gf,0,none⟩)] W fun e w'=>e=.returned (.bool (JU F out r))/\Below W.heap.size W w':=by
 have hh:=hv.h;have hff:=hv.f;have HO:=Q3 hv.o;have HL:=Q3 hl;have HR:=Q3 hr;have hp12:=hr.p12;have hcn:=hr.count (.inl hk);have hen:=hr.elem (.inl hk);have hlen:=hf.1;obtain⟨b,o,rfl⟩:=hf.addr Q2;obtain⟨rc,Ac,cc,Ad,cd,Ae,ce,hrc,hrg,_⟩:=hf.rl (i:=r.count.toNat) Q2;have HM:=Q3 (Q12 hrc);clear hrc hf hlen;obtain⟨B,hB⟩:∃B,JU F out r=B:=⟨_,rfl⟩;have HB:=Q3 (show (mk out r.count&&(JN F r.count==0||mk out r.elem))=B by rw[<- hB,JU,if_neg Q2,if_pos hk]);rw[hB];clear hB;obtain⟨h1,hh1⟩:∃x,mk out r.count=x:=⟨_,rfl⟩;obtain⟨h3,hh3⟩:∃x,mk out r.elem=x:=⟨_,rfl⟩;have H1:=Q3 hh1;have H3:=Q3 hh3;clear hh1 hh3;clear hv hl hr;go_enter Tryz.func153,Tryz.ntmps153;refine Qy (M:=[]) (W:=W) (N:=48) (E:=Qbo) (O:=[]) ?_ Ze Xs;cases h1 with
 |false=>
  repeat(first|refine Q4 zM ?_|refine Q4 zA ?_|refine Q4 zF ?_|refine Q4 zS ?_|refine Q4 (zB 0) ?_|refine Q4 zC ?_|refine yB fun br=>?_|refine Q4 (Jw (v:=.bool false) (f:=152) rfl rfl Q1 rfl rfl rfl QrJ) ?_|refine Qc ?_|refine Qa ?_|refine Q6 ?_|refine Q8 rfl ?_|refine Q7 rfl ?_|refine Qu ?_|refine Qh ?_|refine Qo ?_|refine Qt ?_|refine Q4 zet ?_|refine Q4 zef ?_|refine Q4 zN ?_)
  exact Qb mc4 rfl (.tmp rfl) (fun w hw=>⟨by rw[<- HB.out,H1.out];rfl,hw.k.below⟩)
 |true=>
  by_cases hm:rc.mn=0
  ·skip
   repeat(first|refine Q4 zM ?_|refine Q4 zA ?_|refine Q4 zF ?_|refine Q4 zS ?_|refine Q4 (zB 0) ?_|refine Q4 zC ?_|refine Q4 (zD 0) ?_|refine Q4 zE ?_|refine yB fun br=>?_|refine Q4 Qhd ?_|refine Q4 Qke ?_|refine Q4 QqQ ?_|refine Qc ?_|refine Qa ?_|refine Q6 ?_|refine Q8 rfl ?_|refine Q7 rfl ?_|refine Qu ?_|refine Qh ?_|refine Qo ?_|refine Qt ?_|refine Q4 zet ?_|refine Q4 zef ?_|refine Q4 zY ?_)
   exact Qb mc4 rfl (.tmp rfl) (fun w hw=>⟨by rw[<- HB.out,H1.out,HM.out,hm];rfl,hw.k.below⟩)
  ·skip
   repeat(first|refine Q4 zM ?_|refine Q4 zA ?_|refine Q4 zF ?_|refine Q4 (zB 0) ?_|refine Q4 zC ?_|refine Q4 (zD 0) ?_|refine Q4 zE ?_|refine yB fun br=>?_|refine Q4 Qhd ?_|refine Q4 Qke ?_|refine Q4 (Jw (v:=.bool h3) (f:=152) rfl rfl Q1 rfl rfl rfl (fun w hw=>(Q5n (HO.out.on hw.k.below) hen).mono fun e w' hq=>⟨by rw[hq.1,H3.out],hq.2⟩)) ?_|refine Q4 QqQ ?_|refine Qc ?_|refine Qa ?_|refine Q6 ?_|refine Q8 rfl ?_|refine Q7 rfl ?_|refine Qu ?_|refine Qh ?_|refine Qo ?_|refine Qt ?_|refine Q4 zet ?_|refine Q4 zef ?_|refine Q4 zY ?_|refine Q4 zN ?_)
   exact Qb mc4 rfl (.tmp rfl) (fun w hw=>⟨by rw[<- HB.out,H1.out,H3.out,HM.out];simp [hm],hw.k.below⟩)
theorem Qw6(hv:Qc5 W h g bs n out gf A c)(hf:X3 W W.heap.size A n F)(hl:RuL W r Ab cb An cn Ap cp)(hr:ROk n r)(hk:r.kind=7):
  Calls Tryz.prog 153 #[.agg (ruC r (.slice Ab r.bs.length cb) (.slice An r.names.length cn) (.slice Ap r.parts.length cp)).toArray,.pointer (some ⟨h,0,none⟩),.pointer (some ⟨gf,0,none⟩)] W fun e w'=>e=.returned (.bool (JU F out r))/\Below W.heap.size W w':=by
 have hh:=hv.h;have hff:=hv.f;have HO:=Q3 hv.o;have HL:=Q3 hl;have HR:=Q3 hr;have hp12:=hr.p12;have HP:=Q3 (hr.parts (.inl hk));clear hv hl hr;go_enter Tryz.func153,Tryz.ntmps153;refine Qy (M:=[]) (W:=W) (N:=48) (E:=Qbo) (O:=[]) ?_ Ze Xs;repeat(first|refine Q4 zA ?_|refine Q4 zF ?_|refine Q4 (zB 0) ?_|refine Q4 zC ?_|refine yB fun br=>?_|refine Q4 (Qg (f:=154) rfl rfl Q1 rfl rfl (fun w hw=>ZQ (p:=fun k=>!(mk out k)) (HL.out.on hw.k.below).p Q2 (fun x y hx=>Qes (y.b.cell (Q0D (hw.k.below.cell (Q0D hh) |>.trans hh)) |>.trans (hw.k.below.cell (Q0D hh) |>.trans hh)) ((HO.out.on hw.k.below).on y.b) (HP.out x hx)) Q9k)) ?_|refine Qc ?_|refine Qa ?_|refine Q6 ?_|refine Q8 rfl ?_|refine Q7 rfl ?_|refine Qu ?_|refine Qh ?_|refine Qo ?_|refine Qt ?_|refine Q4 zet ?_|refine Q4 zef ?_|refine Q4 zO ?_|refine Q4 zu ?_)
 exact Qb mc4 rfl (.tmp rfl) (fun w hw=>⟨by rw[JU,if_neg Q2,if_neg Q2,if_pos hk],hw.k.below⟩)
theorem Qvr(hv:Qc5 W h g bs n out gf A c)(hf:X3 W W.heap.size A n F)(hl:RuL W r Ab cb An cn Ap cp)(hr:ROk n r)(hk:r.kind=8):
  Calls Tryz.prog 153 #[.agg (ruC r (.slice Ab r.bs.length cb) (.slice An r.names.length cn) (.slice Ap r.parts.length cp)).toArray,.pointer (some ⟨h,0,none⟩),.pointer (some ⟨gf,0,none⟩)] W fun e w'=>e=.returned (.bool (JU F out r))/\Below W.heap.size W w':=by
 have hh:=hv.h;have hff:=hv.f;have HO:=Q3 hv.o;have HL:=Q3 hl;have HR:=Q3 hr;have hp12:=hr.p12;have HP:=Q3 (hr.parts (.inr hk));clear hv hl hr;go_enter Tryz.func153,Tryz.ntmps153;refine Qy (M:=[]) (W:=W) (N:=48) (E:=Qbo) (O:=[]) ?_ Ze Xs;repeat(first|refine Q4 zA ?_|refine Q4 zF ?_|refine Q4 (zB 0) ?_|refine Q4 zC ?_|refine yB fun br=>?_|refine Q4 (Qg (f:=154) rfl rfl Q1 rfl rfl (fun w hw=>ZQ (p:=fun k=>mk out k) (HL.out.on hw.k.below).p Q2 (fun x y hx=>Q7i ((HO.out.on hw.k.below).on y.b) (HP.out x hx)) QbU)) ?_|refine Qc ?_|refine Qa ?_|refine Q6 ?_|refine Q8 rfl ?_|refine Q7 rfl ?_|refine Qu ?_|refine Qh ?_|refine Qo ?_|refine Qt ?_|refine Q4 zet ?_|refine Q4 zef ?_)
 exact Qb mc4 rfl (.tmp rfl) (fun w hw=>⟨by rw[JU,if_neg Q2,if_neg Q2,if_neg Q2,if_pos hk],hw.k.below⟩)
theorem Qwf(hv:Qc5 W h g bs n out gf A c)(hf:X3 W W.heap.size A n F)(hl:RuL W r Ab cb An cn Ap cp)(hr:ROk n r)(hk:r.kind≠10/\r.kind≠6/\r.kind≠7/\r.kind≠8):
  Calls Tryz.prog 153 #[.agg (ruC r (.slice Ab r.bs.length cb) (.slice An r.names.length cn) (.slice Ap r.parts.length cp)).toArray,.pointer (some ⟨h,0,none⟩),.pointer (some ⟨gf,0,none⟩)] W fun e w'=>e=.returned (.bool (JU F out r))/\Below W.heap.size W w':=by
 have hh:=hv.h;have hff:=hv.f;have HO:=Q3 hv.o;have HL:=Q3 hl;have HR:=Q3 hr;have hp12:=hr.p12;clear hv hl hr;go_enter Tryz.func153,Tryz.ntmps153;refine Qy (M:=[]) (W:=W) (N:=48) (E:=Qbo) (O:=[]) ?_ Ze Xs;repeat(first|refine Q4 zA ?_|refine Q4 zF ?_|refine Q4 (zB 0) ?_|refine Q4 zC ?_|refine yB fun br=>?_|refine Qc ?_|refine Qa ?_|refine Q6 ?_|refine Qp ?_|refine Q7 rfl ?_|refine Qu ?_|refine Qh ?_|refine Q4 zef ?_)
 exact Qb mc4 rfl (.tmp rfl) (fun w hw=>⟨by rw[JU,if_neg Q2,if_neg Q2,if_neg Q2,if_neg Q2],hw.k.below⟩)
theorem QiO(hv:Qc5 W h g bs n out gf A c)(hf:X3 W W.heap.size A n F)(hl:RuL W r Ab cb An cn Ap cp)(hr:ROk n r):
  Calls Tryz.prog 153 #[.agg (ruC r (.slice Ab r.bs.length cb) (.slice An r.names.length cn) (.slice Ap r.parts.length cp)).toArray,.pointer (some ⟨h,0,none⟩),.pointer (some ⟨gf,0,none⟩)] W fun e w'=>e=.returned (.bool (JU F out r))/\Below W.heap.size W w':=by
 by_cases h10:r.kind=10
 ·exact QsX hv hf hl hr h10
 by_cases h6:r.kind=6
 ·exact Qw5 hv hf hl hr h6
 by_cases h7:r.kind=7
 ·exact Qw6 hv hf hl hr h7
 by_cases h8:r.kind=8
 ·exact Qvr hv hf hl hr h8
 exact Qwf hv hf hl hr ⟨h10,h6,h7,h8⟩
end
section
variable {A:Option Addr}{F:List Rl}{M:List Nat}{O:List Qf}{W:World}{bs c g gf h n:Nat}{out:List Bool}
theorem Qe.rfl_:Qe M W O O:=fun _ h=>h
theorem Ja{P:Program}{Q:Exit->Act->World->Prop}{N:Nat}{E:Env}(T:List Nat){id:Nat}{l:List Oper}(hm:P.follows .mixedOrders=true)(h:dE P l.toArray Q N M W O T l.length (Array.replicate l.length false) E O):sE P Q N M W E O (.region id l.toArray true):=Xw O T hm h
theorem Qc1(F:List Rl)(out:List Bool)(k:Nat):(Zo F out k).length=out.length:=by unfold Zo;rw[List.length_set]
theorem Q0Q(F:List Rl):∀(l:List Nat) (out:List Bool),(l.foldl (Zo F) out).length=out.length
 |[],_=>rfl
 |k::l,out=>by rw[List.foldl_cons,Q0Q F l,Qc1]
theorem Q6j(F:List Rl)(out:List Bool)(k:Nat):(List.range (k+1)).foldl (Zo F) out=Zo F ((List.range k).foldl (Zo F) out) k:=by
 rw[List.range_succ,List.foldl_append];rfl
def QuL(W:World)(l:List Bool)(e:Ending)(w':World):Prop:=∃b,e=.returned (.slice (some ⟨b,0,none⟩) l.length l.length)/\W.heap.size<=b/\Rd w' w'.heap.size 1 (some ⟨b,0,none⟩) l.length (JL l)/\Below W.heap.size W w'
theorem Qpm{w:World}(i1 i2 i3 i4:Nat)(hl:out.length=n)
  (h1:O[i1]? =some (.blk h (.cells [.func (.func 152) #[] #[.pointer (some ⟨g,0,none⟩)]].toArray 104 (0,0))))
  (h2:O[i2]? =some (.blk g (.cells [.slice (some ⟨bs,0,none⟩) n n].toArray 66 (0,0))))
  (h3:O[i3]? =some (.row (some ⟨bs,0,none⟩) n n 4 1 (JL out)))
  (h4:O[i4]? =some (.blk gf (.cells [.slice A n c].toArray 24 (0,0)))) (hw:Wd M W O w):Qc5 w h g bs n out gf A c:=
 ⟨⟨hw.cell_blkL i2 h2 rfl,fun j hj=>by rw[Nat.zero_add];exact hw.cell_row i3 h3 (Q2D Q2)⟩,hw.cell_blkL i1 h1 rfl,hw.cell_blkL i4 h4 rfl⟩
theorem QoX{r:Rl}{Ab An Ap:Option Addr}{cb cn cp:Nat}(hv:Qc5 W h g bs n out gf A c)(hf:X3 W W.heap.size A n F)(hl:RuL W r Ab cb An cn Ap cp)(hr:ROk n r):
  Calls Tryz.prog 153 ([Value.agg (ruC r (.slice Ab r.bs.length cb) (.slice An r.names.length cn) (.slice Ap r.parts.length cp)).toArray].toArray++#[.pointer (some ⟨h,0,none⟩),.pointer (some ⟨gf,0,none⟩)]) W fun e w'=>e=.returned (.bool (JU F out r))/\Below W.heap.size W w':=by
 rw[show ([Value.agg (ruC r (.slice Ab r.bs.length cb) (.slice An r.names.length cn) (.slice Ap r.parts.length cp)).toArray].toArray++#[.pointer (some ⟨h,0,none⟩),.pointer (some ⟨gf,0,none⟩)]:Array Value)=_ from Qsz _ _ _];exact QiO hv hf hl hr
abbrev fnE(bf g h n c:Nat)(A:Option Addr)(t:Nat):Env:=[(1,.pointer (some ⟨bf,0,none⟩)),(3,.pointer (some ⟨g,0,none⟩)),(5,.func (.func 153) #[] #[.pointer (some ⟨h,0,none⟩),.pointer (some ⟨bf,0,none⟩)]),(16,.int .i64 (n:Int)),(17,.int .i64 (t:Int))]
abbrev fnO(bf g h bs n c:Nat)(A:Option Addr)(out:List Bool):List Qf:=[.blk h (.cells [.func (.func 152) #[] #[.pointer (some ⟨g,0,none⟩)]].toArray 104 (0,0)),.blk g (.cells [.slice (some ⟨bs,0,none⟩) n n].toArray 66 (0,0)),.row (some ⟨bs,0,none⟩) n n 4 1 (JL out),.blk bf (.cells [.slice A n c].toArray 24 (0,0))]
theorem Qaf(hf:X3 W W.heap.size A n F)(hF:FOk F)(hn:n<=40)(hn0:0<n):
  Calls Tryz.prog 119 #[.agg #[.slice A n c]] W (QuL W (Jg F)):=by
 have hlen:F.length=n:=hf.1;obtain⟨b,o,rfl⟩:=hf.addr hn0;have HFM:=Q3 hf;have HF:=Q3 hF;have HLEN:=Q3 hlen;clear hf hF hlen;go_enter Tryz.func119,Tryz.ntmps119;refine Qy (M:=[]) (W:=W) (N:=42) (E:=[(0,.agg #[.slice (some ⟨b,o,none⟩) n c])]) (O:=[]) ?_ (Ag.cons (Ag.nil rfl rfl) rfl) (Wd.start [] W);repeat(first|refine Q4 (Jl rfl rfl Q1 rfl rfl) ?_|refine Q4 (Kv rfl rfl Q1 rfl rfl) ?_|refine Q4 (YL rfl rfl Q1 rfl rfl) ?_|refine Q4 (QP rfl rfl Q1 rfl rfl (by first|exact fun w hw=>hw.cell_blkL 0 rfl rfl|exact fun w hw=>hw.cell_blkL 3 rfl rfl)) ?_|refine Qd (Q7P rfl rfl rfl rfl) rfl Q1 (fun bf _=>?_)|refine Qd (Qlz rfl rfl rfl rfl Q2) rfl Q1 (fun bs _=>?_)|refine Qd (Z2 (t:=66) rfl rfl) rfl Q1 (fun g0 _=>?_)|refine Qd (Z2 (t:=104) rfl rfl) rfl Q1 (fun g1 _=>?_)|refine Qr (ZJ 0 rfl rfl rfl rfl rfl rfl rfl) rfl (fun _ _=>?_)|refine Qc ?_|refine Qa ?_|refine Q6 ?_|refine Qh ?_|refine Q4 (Qgt rfl rfl Q1 rfl rfl) ?_|refine Q4 (QeP rfl rfl Q1 rfl rfl) ?_)
 refine Z0 (ι:=Nat) (fun t=>t<=n) (fun t=>n - t) (fun t=>fnE bf g0 g1 n c (some ⟨b,o,none⟩) t) (fun t=>fnO bf g0 g1 bs n c (some ⟨b,o,none⟩) (iter (ZN F) t (List.replicate n false))) 0 [0,1,2,3] Q1 (Nat.zero_le _) (.cons rfl rfl (.cons rfl rfl (.cons rfl rfl (.cons rfl rfl (.cons rfl rfl .nil))))) (by show [_,_,Qf.row _ _ _ _ _ _,_]=_;rw[QrR];rfl) ?_;rintro t ht;have hL0:(iter (ZN F) t (List.replicate n false)).length=n:=by
  have:∀t,(iter (ZN F) t (List.replicate n false)).length=n:=by
   intro t;induction t with
   |zero=>exact List.length_replicate
   |succ t ih=>exact(Q0Q F _ _).trans ih
  exact this t
 have HL0:=Q3 hL0;clear hL0;by_cases hlt:t<n
 ·skip
  repeat(first|refine Q4 (Jl rfl rfl Q1 rfl rfl) ?_|refine Q4 (YL rfl rfl Q1 rfl rfl) ?_|refine Q4 (QP rfl rfl Q1 rfl rfl (by exact fun w hw=>hw.cell_blkL 3 rfl rfl)) ?_|refine Qc ?_|refine Qa ?_|refine Q6 ?_|refine Qp ?_|refine Q8 rfl ?_|refine Qh ?_|refine Q4 (Qgt rfl rfl Q1 rfl rfl) ?_|refine Q4 (XZ rfl rfl Q1 rfl rfl rfl (by exact decide_eq_true Q2)) ?_)
  refine Z0 (ι:=Nat) (fun k=>k<=n) (fun k=>n - k) (fun k=>(20,.slice (some ⟨b,o,none⟩) n c)::(21,.int .i64 (n:Int))::(22,.int .i64 (k:Int))::fnE bf g0 g1 n c (some ⟨b,o,none⟩) t) (fun k=>fnO bf g0 g1 bs n c (some ⟨b,o,none⟩) ((List.range k).foldl (Zo F) (iter (ZN F) t (List.replicate n false)))) 0 [0,1,2,3] Q1 (Nat.zero_le _) (.cons rfl rfl (.cons rfl rfl (.cons rfl rfl (.cons rfl rfl (.cons rfl rfl (.cons rfl rfl (.cons rfl rfl (.cons rfl rfl .nil)))))))) rfl ?_;rintro k hk;by_cases hkn:k<n
  ·obtain⟨rk,Ab,cb,An,cn,Ap,cp,hrk,hrg,hlk⟩:=HFM.out.rl hkn
   have HRK:=Q3 hrk;have HLK:=Q3 hlk;have HOK:=Q3 (show ROk n rk by have:=HF.out k rk hrk;rwa [HLEN.out] at this);obtain⟨out,hout⟩:∃out,(List.range k).foldl (Zo F) (iter (ZN F) t (List.replicate n false))=out:=⟨_,rfl⟩;have hol:out.length=n:=by rw[<- hout,Q0Q,HL0.out]
   have HOUT:=Q3 hout;show sE _ _ _ _ _ _ (fnO bf g0 g1 bs n c (some ⟨b,o,none⟩) ((List.range k).foldl (Zo F) (iter (ZN F) t (List.replicate n false)))) _;rw[hout];clear hout hrk hlk;obtain⟨ok,hok⟩:∃x,out.getD k false=x:=⟨_,rfl⟩;have hcell:(JL out)[0+k]? =some (.bool ok):=by rw[Nat.zero_add,Q2D Q2,hok]
   have HK:=Q3 hok;clear hok;cases ok with
   |true=>
    repeat(first|refine Q4 (Jl rfl rfl Q1 rfl rfl) ?_|refine Q4 (Kv rfl rfl Q1 rfl rfl) ?_|refine Q4 (QV rfl rfl Q1 rfl rfl (by first|exact fun w hw=>hw.range_blk 0 rfl|exact fun w hw=>hw.range_old Qx Qn) (by rfl)) ?_|refine Q4 (QM rfl rfl Q1 rfl rfl rfl hkn) ?_|refine Qd (Z2 (t:=65) rfl rfl) rfl Q1 (fun b7 _=>?_)|(refine Qr (QS 0 rfl rfl rfl rfl rfl rfl rfl Qn) rfl (fun _ _=>?_);rw[Qq (by rfl)])|refine Qc ?_|refine Qa ?_|refine Q6 ?_|refine Qp ?_|refine Q8 rfl ?_|refine Qh ?_|refine Q4 (XZ rfl rfl Q1 rfl rfl rfl (by exact decide_eq_true Q2)) ?_)
    refine Ja [12] Q5 ?_;refine Qi 0 rfl Q5 (Qe.rfl_) (QP rfl rfl Q1 rfl rfl (by exact fun w hw=>hw.cell_blkL 2 rfl rfl)) ?_;refine Qi 1 rfl Q5 (Qe.rfl_) (Jl rfl rfl Q1 rfl rfl) ?_;refine Qi 2 rfl Q5 (Qe.rfl_) (QP rfl rfl Q1 rfl rfl (by exact fun w hw=>hw.cell_blkL 2 rfl rfl)) ?_;refine Qi 3 rfl Q5 (Qe.rfl_) (Jl rfl rfl Q1 rfl rfl) ?_;refine Qi 4 rfl Q5 (Qe.rfl_) (Xd rfl rfl Q1 rfl rfl rfl hkn) ?_;refine Qi 5 rfl Q5 (Qe.rfl_) (QP rfl rfl Q1 rfl rfl (fun w hw=>hw.cell_row 3 rfl hcell)) ?_;refine Qi 6 rfl Q5 (Qe.rfl_) (Jl rfl rfl Q1 rfl rfl) ?_;refine Qi 7 rfl Q5 (Qe.rfl_) (Q6y rfl Q1 rfl) ?_;refine Qi 8 rfl Q5 (Qe.rfl_) (Q6y rfl Q1 rfl) ?_;refine Qi 9 rfl Q5 (Qe.rfl_) (Q6y rfl Q1 rfl) ?_;refine Qi 10 rfl Q5 (Qe.rfl_) (Q2c rfl rfl Q1 rfl rfl rfl) ?_;refine Qi 11 rfl Q5 (Qe.rfl_) (Xd rfl rfl Q1 rfl rfl rfl hkn) ?_;refine QB 12 Q5 rfl rfl (Vz 3 rfl rfl rfl rfl rfl rfl Q2) (fun _=>.inl Q1) rfl (fun _ _=>?_);refine Xi ?_ Q5;repeat(first|refine Q4 (Jl rfl rfl Q1 rfl rfl) ?_|refine Qc ?_|refine Q6 ?_|refine Q4 (Q7W (k:=.i64) rfl rfl Q1 rfl rfl rfl (IntWalk.i64_in _ Q2)) ?_)
    refine QT (k+1) [1,2,3,4] Q1 hkn Q2 (.cons rfl rfl (.cons rfl rfl (.cons rfl (by go_num) (.cons rfl rfl (.cons rfl rfl (.cons rfl rfl (.cons rfl rfl (.cons rfl rfl .nil)))))))) ?_;show [_,_,Qf.row _ _ _ _ _ ((JL out).set (0+k) (.bool true)),_]=fnO bf g0 g1 bs n c (some ⟨b,o,none⟩) _;rw[Q6j,HOUT.out,Nat.zero_add,Q3X];unfold Zo;rw[HRK.out,HK.out];rfl
   |false=>
    repeat(first|refine Q4 (Jl rfl rfl Q1 rfl rfl) ?_|refine Q4 (Kv rfl rfl Q1 rfl rfl) ?_|refine Q4 (QV rfl rfl Q1 rfl rfl (by first|exact fun w hw=>hw.range_blk 0 rfl|exact fun w hw=>hw.range_old Qx Qn) (by rfl)) ?_|refine Q4 (QM rfl rfl Q1 rfl rfl rfl hkn) ?_|refine Qd (Z2 (t:=65) rfl rfl) rfl Q1 (fun b7 _=>?_)|(refine Qr (QS 0 rfl rfl rfl rfl rfl rfl rfl Qn) rfl (fun _ _=>?_);rw[Qq (by rfl)])|refine Qc ?_|refine Qa ?_|refine Q6 ?_|refine Qp ?_|refine Q8 rfl ?_|refine Qh ?_|refine Q4 (XZ rfl rfl Q1 rfl rfl rfl (by exact decide_eq_true Q2)) ?_)
    refine Ja [12] Q5 ?_;refine Qi 0 rfl Q5 (Qe.rfl_) (QP rfl rfl Q1 rfl rfl (by exact fun w hw=>hw.cell_blkL 2 rfl rfl)) ?_;refine Qi 1 rfl Q5 (Qe.rfl_) (Jl rfl rfl Q1 rfl rfl) ?_;refine Qi 2 rfl Q5 (Qe.rfl_) (QP rfl rfl Q1 rfl rfl (by exact fun w hw=>hw.cell_blkL 2 rfl rfl)) ?_;refine Qi 3 rfl Q5 (Qe.rfl_) (Jl rfl rfl Q1 rfl rfl) ?_;refine Qi 4 rfl Q5 (Qe.rfl_) (Xd rfl rfl Q1 rfl rfl rfl hkn) ?_;refine Qi 5 rfl Q5 (Qe.rfl_) (QP rfl rfl Q1 rfl rfl (fun w hw=>hw.cell_row 3 rfl hcell)) ?_;refine Qi 6 rfl Q5 (Qe.rfl_) (Jl rfl rfl Q1 rfl rfl) ?_;refine Qi 7 rfl Q5 (Qe.rfl_) (Jl rfl rfl Q1 rfl rfl) ?_;refine Qi 8 rfl Q5 (Qe.rfl_) (QV rfl rfl Q1 rfl rfl (by exact fun w hw=>hw.range_blk 0 rfl) (by rfl)) ?_;refine Qi 9 rfl Q5 (Qe.rfl_) (Jw (f:=153) rfl rfl Q1 rfl rfl rfl (fun w hw=>QoX (Qpm 1 2 3 4 hol rfl rfl rfl rfl hw) (HFM.out.on hw.k.below) (HLK.out.on hw.k.below) HOK.out)) ?_;refine Qi 10 rfl Q5 (Qe.rfl_) (Q46 rfl rfl Q1 rfl rfl rfl) ?_;refine Qi 11 rfl Q5 (Qe.rfl_) (Xd rfl rfl Q1 rfl rfl rfl hkn) ?_;refine QB 12 Q5 rfl rfl (Vz 3 rfl rfl rfl rfl rfl rfl Q2) (fun _=>.inl Q1) rfl (fun _ _=>?_);refine Xi ?_ Q5;repeat(first|refine Q4 (Jl rfl rfl Q1 rfl rfl) ?_|refine Qc ?_|refine Q6 ?_|refine Q4 (Q7W (k:=.i64) rfl rfl Q1 rfl rfl rfl (IntWalk.i64_in _ Q2)) ?_)
    refine QT (k+1) [1,2,3,4] Q1 hkn Q2 (.cons rfl rfl (.cons rfl rfl (.cons rfl (by go_num) (.cons rfl rfl (.cons rfl rfl (.cons rfl rfl (.cons rfl rfl (.cons rfl rfl .nil)))))))) ?_;show [_,_,Qf.row _ _ _ _ _ ((JL out).set (0+k) (.bool (JU F out rk))),_]=fnO bf g0 g1 bs n c (some ⟨b,o,none⟩) _;rw[Q6j,HOUT.out,Nat.zero_add,Q3X];unfold Zo;rw[HRK.out,HK.out];rfl
  ·skip
   repeat(first|refine Q4 (Jl rfl rfl Q1 rfl rfl) ?_|refine Qc ?_|refine Qa ?_|refine Q6 ?_|refine Q7 rfl ?_|refine Xe ?_|refine Q4 (XZ rfl rfl Q1 rfl rfl rfl (by first|exact decide_eq_false Q2|rfl)) ?_|refine Q4 (Q7W (k:=.i64) rfl rfl Q1 rfl rfl rfl (IntWalk.i64_in _ Q2)) ?_)
   refine QT (t+1) [0,1,2,3] Q1 hlt Q2 (.cons rfl rfl (.cons rfl rfl (.cons rfl rfl (.cons rfl rfl (.cons rfl (by go_num) .nil))))) ?_;have hkk:k=F.length:=by rw[HLEN.out];omega
   subst hkk;rfl
 ·skip
  repeat(first|refine Q4 (Kv rfl rfl Q1 rfl rfl) ?_|refine Q4 (QP rfl rfl Q1 rfl rfl (by exact fun w hw=>hw.cell_blkL 1 rfl rfl)) ?_|refine Qc ?_|refine Qa ?_|refine Q6 ?_|refine Q7 rfl ?_|refine Xe ?_|refine Qu ?_|refine Q4 (XZ rfl rfl Q1 rfl rfl rfl (by exact decide_eq_false Q2)) ?_)
  have htn:t=F.length:=by rw[HLEN.out];omega
  refine Qb (by exact .inr rfl) rfl (.tmp rfl) (fun w hw=>?_);have hfl:iter (ZN F) t (List.replicate n false)=Jg F:=by unfold Jg;rw[htn,HLEN.out]
  have hln:(Jg F).length=n:=by rw[<- hfl];exact HL0.out
  refine⟨bs,by rw[hln],?_,⟨by rw[hln];simp [JL,hln],fun _=>⟨bs,0,rfl,?_,fun j u hu=>?_⟩⟩,hw.k.below⟩
  ·rcases Nat.lt_or_ge bs W.heap.size with h|h
   ·have:=hw.new 2 _ bs rfl rfl h
    simp [Qf.w] at this
   ·exact h
  ·exact(hw.own 2 _ rfl).lt rfl
  ·rw[Nat.zero_add]
   refine hw.cell_row 2 rfl ?_;rw[hfl];exact hu
end
def Xc(st:Nat->Bool):List Value:=(List.range 256).map fun j=>.bool (st j)
theorem X4(st:Nat->Bool):(Xc st).length=256:=by simp [Xc]
theorem Jc(st:Nat->Bool){j:Nat}(h:j<256):(Xc st)[j]? =some (.bool (st j)):=by
 simp [Xc,List.getElem?_map,List.getElem?_range h]
theorem Q2I(st:Nat->Bool)(j:Nat)(v:Bool):(Xc st).set j (.bool v)=Xc (fun i=>if i=j then v else st i):=by
 refine List.ext_getElem? fun i=>?_;rw[List.getElem?_set];by_cases hi:i<256
 ·rw[Jc _ hi,X4]
  by_cases hj:j=i
  ·subst hj;rw[if_pos rfl,if_pos hi,Jc _ hi,if_pos rfl]
  ·rw[if_neg hj,Jc _ hi]
   have:¬i=j:=fun e=>hj e.symm;simp [this]
 ·have h1:(Xc st)[i]? =none:=List.getElem?_eq_none (by rw[X4];omega);have h2:(Xc (fun i=>if i=j then v else st i))[i]? =none:=List.getElem?_eq_none (by rw[X4];omega);rw[h1,h2,X4]
  split
  ·rw[if_neg Q2]
  ·rfl
def ZF(st:Nat->Bool)(lo hi:Int):Nat->Bool:=fun j=>st j||decide (lo+((j:Int) - lo) % 256<=hi)
theorem Vt{s t:Nat->Bool}(h:∀j,j<256->s j=t j):Xc s=Xc t:=by
 unfold Xc;exact List.map_congr_left fun j hj=>by rw[h j (List.mem_range.1 hj)]
theorem QiB(st:Nat->Bool)(lo c:Int)(h:lo<=c)(h0:0<=lo):(Xc (ZF st lo (c - 1))).set (c % 256).toNat (.bool true)=Xc (ZF st lo c):=by
 rw[Q2I];refine Vt fun j hj=>?_;unfold ZF;by_cases he:j=(c % 256).toNat
 ·rw[if_pos he,decide_eq_true Q2,Bool.or_true]
 ·rw[if_neg he]
  congr 1;rw[decide_eq_decide];omega
theorem Qiv(st:Nat->Bool)(lo:Int):Xc (ZF st lo (lo - 1))=Xc st:=
 Vt fun j hj=>by
  unfold ZF;rw[decide_eq_false Q2,Bool.or_false]
theorem QoB(st:Nat->Bool)(lo hi:Int)(h:hi<lo):Xc (ZF st lo (lo - 1))=Xc (ZF st lo hi):=
 Vt fun j hj=>by
  unfold ZF;rw[decide_eq_false Q2,decide_eq_false Q2]
theorem QtJ(c:Int)(h:0<=c)(w:World):(Op.intDiv .rem .i64 c 256).run Tryz.prog w=.ok (.int .i64 (((c % 256).toNat:Nat):Int)) w:=by
 have e:(((c % 256).toNat:Nat):Int)=c % 256:=by omega
 rw[e];simp [Op.intDiv,go_sem];exact IntWalk.rem_in c 256 h
theorem QfH{st:Nat->Bool}{b:Nat}{lo hi:Int}{W:World}(hb:W.heap[b]? =some (.cells (Xc st).toArray 92 (0,0)))(h0:0<=lo)(h1:hi<=1099511627776)(h2:lo<=1099511627776):
  Calls Tryz.prog 141 #[.int .i64 lo,.int .i64 hi,.pointer (some ⟨b,0,none⟩)] W fun e w'=>e=.returned (.tuple #[])/\w'.heap[b]? =some (.cells (Xc (ZF st lo hi)).toArray 92 (0,0))/\XP [b] W w':=by
 go_enter Tryz.func141,Tryz.ntmps141;refine Qy (M:=[b]) (W:=W) (N:=15) (E:=[(0,.int .i64 lo),(1,.int .i64 hi),(2,.pointer V7)]) (O:=[.blk b (.cells (Xc st).toArray 92 (0,0))]) ?_ Ze ((Wd.start [b] W).add hb (fun b' h _=>by cases h;exact List.mem_singleton.2 rfl) (fun i x b' h=>by cases h));repeat(first|refine Qc ?_|refine Qa ?_|refine Q6 ?_|refine Qh ?_|refine Q4 zM ?_|refine Q4 zA ?_)
 refine Z0 (ι:=Int) (fun c=>lo<=c/\(c<=hi+1\/c=lo)) (fun c=>(hi+1 - c).toNat) (fun c=>[(5,.int .i64 c),(1,.int .i64 hi),(2,.pointer V7)]) (fun c=>[.blk b (.cells (Xc (ZF st lo (c - 1))).toArray 92 (0,0))]) lo [0] Q1 ⟨by omega,by omega⟩ Q03 (by rw[Qiv];rfl) ?_;rintro c ⟨h3,h4⟩;by_cases hc:c<=hi
 ·skip
  repeat(first|(refine Q4 (Km (v:=.int .i64 (((c % 256).toNat:Nat):Int)) rfl rfl Q1 rfl rfl rfl (fun w=>by rw[binOp_rem];exact QtJ c Q2 w)) ?_)|refine Q4 (Zu (j:=(c % 256).toNat) rfl rfl Q1 rfl rfl rfl Q2) ?_|refine Qr (ZJ 0 rfl rfl rfl rfl rfl rfl (Jc _ (show 0+(c % 256).toNat*1<256 by omega))) rfl (fun _ _=>?_)|refine Qc ?_|refine Qa ?_|refine Q6 ?_|refine Qp ?_|refine Q8 rfl ?_|refine Qh ?_|refine Q4 zM ?_|refine Q4 zA ?_|refine Q4 (Q5D (b:=true) rfl rfl Q1 rfl rfl rfl (decide_eq_true Q2)) ?_|refine Q4 zP ?_)
  refine QT (c+1) [0] Q1 ⟨by omega,by omega⟩ Q2 Q03 ?_;show [Qf.blk b (.cells ((Xc (ZF st lo (c - 1))).set (0+(c % 256).toNat*1) (.bool true)).toArray 92 (0,0))]=_;rw[Nat.zero_add,Nat.mul_one,QiB st lo c h3 h0,Int.add_sub_cancel]
 ·skip
  repeat(first|refine Qc ?_|refine Qa ?_|refine Q6 ?_|refine Q7 rfl ?_|refine Xe ?_|refine VD ?_|refine Vv ?_|refine Q4 zM ?_|refine Q4 (Q5D (b:=false) rfl rfl Q1 rfl rfl rfl (decide_eq_false Q2)) ?_)
  refine Zc (.inl rfl) rfl (fun w hw=>⟨rfl,?_,hw.k⟩);have h:w.heap[b]? =some (.cells (Xc (ZF st lo (c - 1))).toArray 92 (0,0)):=hw.own 0 _ rfl;rw[h];congr 3;by_cases hcl:c=hi+1
  ·rw[hcl,Int.add_sub_cancel]
  ·obtain rfl:c=lo:=by omega
   rw[QoB st c hi Q2]
section
variable {Ab:Option Addr}{O:List Qf}{W w:World}{a0 a10 a11 a8 a9:Value}{big:Bool}{bs:List UInt8}{cb n nb:Nat}{cs:List Value}{m mn mx size stop:Int}{st:Nat->Bool}
instance iXFsB_1:Y8 Tryz.prog 92 (Xc (fun _=>false)):=⟨.agg (Xc (fun _=>false)).toArray,by kernel_rfl,rfl⟩
theorem Qot{us:List Value}(h:us.length=cs.length):Zk cs 0 us=us:=by
 refine List.ext_getElem? fun i=>?_;rw[Jr];split
 ·rw[Nat.sub_zero]
 ·next hn=>
  rw[List.getElem?_eq_none Q2,List.getElem?_eq_none Q2]
theorem QmF(st:Nat->Bool):(Xc st).all (·.oneCell')=true:=by
 rw[List.all_eq_true];intro v hv;simp only[Xc,List.mem_map] at hv;obtain⟨j,_,rfl⟩:=hv;rfl
def noS:Nat->Bool:=fun _=>false
def Q21(k:Int)(bs:List UInt8)(size:Int)(big:Bool)(mn mx stop:Int):Nat->Bool:=
 if k=1 then fun j=>j==(bs.headD 0).toNat
 else if k=2 then (if big then ZF noS (mn / 2 ^ (8*(size - 1)).toNat) (mx / 2 ^ (8*(size - 1)).toNat) else ZF noS mn (min mx (mn+256 - 1)))
 else if k=3 then ZF noS 48 (48+min mx 9)
 else if k=4 then ZF noS 0 255
 else if k=5 then (if 0<size then ZF noS 0 255 else fun j=>decide ((j:Int)=stop))
 else if k=9 then fun j=>decide ((j:Int)=stop)
 else noS
theorem QpH(h:0<=m):0<=m / 2 ^ n:=Int.ediv_nonneg h (Int.pow_nonneg Q1)
theorem QoH(h:0<=m/\m<=4294967295):m / 2 ^ n<=1099511627776:=by
 have h1:m / 2 ^ n<=m:=Int.ediv_le_self _ h.1;omega
def JS(W:World)(st:Nat->Bool)(e:Ending)(w':World):Prop:=e=.returned (.agg (Xc st).toArray)/\Below W.heap.size W w'
theorem Jx{st':Nat->Bool}(hc:cs.length=256)(hs:Xc st'=Xc st)(hw:Wd [] W O w):JS W st (.returned (.agg (Zk cs 0 (Xc st')).toArray)) w:=
 ⟨by rw[Qot (by rw[X4,hc]),hs],hw.k.below⟩
theorem QgJ{M:List Nat}{i b:Nat}{lo hi:Int}(hO:O[i]? =some (.blk b (.cells (Xc st).toArray 92 (0,0))))(h0:0<=lo)(h1:hi<=1099511627776)(h2:lo<=1099511627776)(hw:Wd M W O w):
  Calls Tryz.prog 141 (#[.int .i64 lo,.int .i64 hi]++#[.pointer (some ⟨b,0,none⟩)]) w (QN (fun _:Unit=>.tuple #[]) (fun _=>True) M W (fun _=>O.set i (.blk b (.cells (Xc (ZF st lo hi)).toArray 92 (0,0))))):=
 (QfH (hw.blk0 hO) h0 h1 h2).mono fun e w' ⟨he,hb,hk⟩=>⟨(),he,trivial,hw.keep1 hO hk hb⟩
theorem QuV(W:World)(hb:Rd W W.heap.size 1 Ab nb (bv bs))(hn:0<nb):
  Calls Tryz.prog 96 #[.agg #[a0,.int .i64 1,.slice Ab nb cb,.int .i64 size,.bool big,.int .i64 mn,.int .i64 mx,.int .i64 stop,a8,a9,a10,a11]] W (JS W (Q21 1 bs size big mn mx stop)):=by
 go_enter Tryz.func96,Tryz.ntmps96;refine Qy (M:=[]) (W:=W) (N:=84) (E:=[(0,.agg #[a0,.int .i64 1,.slice Ab nb cb,.int .i64 size,.bool big,.int .i64 mn,.int .i64 mx,.int .i64 stop,a8,a9,a10,a11])]) (O:=[]) ?_ J1 Xs;repeat(first|refine Q4 zA ?_|refine Q4 zF ?_|refine Q4 (zB 2) ?_|refine yB fun br=>?_|refine yA fun b2=>?_|refine Qc ?_|refine Qa ?_|refine Q6 ?_|refine Q8 rfl ?_|refine Qh ?_|refine Q4 QuE ?_|refine Q4 zu ?_)
 obtain⟨bb,ob,u,rfl,hlt,hu,hcell⟩:=hb.at_ hn;obtain⟨c,hc⟩:∃c,bs[0]? =some c:=by
  unfold bv at hu;rw[List.getElem?_map] at hu;cases e:bs[0]? with
  |none=>rw[e] at hu;cases hu
  |some c=>exact⟨c,rfl⟩
 have hu':u=.int .u8 (c.toNat:Int):=by
  unfold bv at hu;rw[List.getElem?_map,hc] at hu;exact(Option.some.inj hu).symm
 subst hu';have hhd:bs.headD 0=c:=by cases bs with|nil=>cases hc|cons x l=>simp at hc;simpa using hc
 have hlt256:c.toNat<256:=c.toNat_lt;repeat(first|refine Q4 zC ?_|refine Q4 (zi1 (j:=0) (hj:=hn)) ?_|refine Q4 (Zu (j:=c.toNat) rfl rfl Q1 rfl rfl rfl hlt256) ?_|refine Qr (ZJ 0 rfl rfl rfl rfl rfl rfl (Jc _ (show 0+c.toNat*1<256 by omega))) rfl (fun _ _=>?_)|refine Qc ?_|refine Qa ?_|refine Q6 ?_)
 show lE _ _ _ _ _ _ _ [Qf.blk b2 (.cells ((Xc (fun _=>false)).set (0+c.toNat*1) (.bool true)).toArray 92 (0,0)),_,_] _;refine Qk4 ?_;refine Qr Q57 rfl (fun _ _=>?_);refine Q02 ?_
 refine Qb (.inr rfl) rfl KX (fun w hw=>Jx YQ ?_ hw);refine Vt fun j hj=>?_;show (if j=c.toNat then true else false)=(j==(bs.headD 0).toNat);rw[hhd];by_cases h:j=c.toNat<;>simp [h]
theorem Qt2{big:Bool}(W:World)(hs:1<=size/\size<=4)(hm:0<=mn/\mn<=mx/\mx<=4294967295):
  Calls Tryz.prog 96 #[.agg #[a0,.int .i64 2,.slice Ab nb cb,.int .i64 size,.bool true,.int .i64 mn,.int .i64 mx,.int .i64 stop,a8,a9,a10,a11]] W (JS W (Q21 2 bs size true mn mx stop)):=by
 go_enter Tryz.func96,Tryz.ntmps96;refine Qy (M:=[]) (W:=W) (N:=84) (E:=[(0,.agg #[a0,.int .i64 2,.slice Ab nb cb,.int .i64 size,.bool true,.int .i64 mn,.int .i64 mx,.int .i64 stop,a8,a9,a10,a11])]) (O:=[]) ?_ J1 Xs;repeat(first|refine Q4 zM ?_|refine Q4 zA ?_|refine Q4 zF ?_|refine Q4 (zB 2) ?_|refine yB fun br=>?_|refine yA fun b2=>?_|refine Qc ?_|refine Qa ?_|refine Q6 ?_|refine Q8 rfl ?_|refine Q7 rfl ?_|refine Qh ?_|refine Q4 QcX ?_|refine Q4 zY ?_|refine Q4 zQ ?_|refine Q4 zu ?_)
 repeat(first|refine Q4 zA ?_|refine Q4 Q7l ?_|refine Qc ?_)
 refine Xw [.blk br (.cells [a0,.int .i64 2,.slice Ab nb cb,.int .i64 size,.bool true,.int .i64 mn,.int .i64 mx,.int .i64 stop,a8,a9,a10,a11].toArray 65 (0,0))] [] Q5 ?_;refine Qi 0 rfl Q5 (Qe.sel [2] Q1 rfl) zM ?_;refine Qi 1 rfl Q5 (Qe.sel [2] Q1 rfl) zF ?_;refine Qi 2 rfl Q5 (Qe.sel [2] Q1 rfl) (zB 0) ?_;refine Qi 3 rfl Q5 (Qe.sel [2] Q1 rfl) zM ?_;refine Qi 4 rfl Q5 (Qe.sel [2] Q1 rfl) (QmQ rfl rfl Q1 rfl rfl rfl Q2 Q2) ?_;refine Qi 5 rfl Q5 (Qe.sel [2] Q1 rfl) zF ?_;refine Qi 6 rfl Q5 (Qe.sel [2] Q1 rfl) (zB 0) ?_;refine Qi 7 rfl Q5 (Qe.sel [2] Q1 rfl) zM ?_;refine Qi 8 rfl Q5 (Qe.sel [2] Q1 rfl) (QmQ rfl rfl Q1 rfl rfl rfl Q2 Q2) ?_;refine QX 9 Q5 rfl rfl (Q9F (fun _:Unit=>.tuple #[]) (fun _=>True) (fun _=>_) rfl rfl rfl rfl (fun w hw=>QgJ (i:=0) rfl (QpH hm.1) (QoH Q2) (QoH Q2) hw)) (fun _=>.inr (Qe.sel [2] Q1 rfl)) rfl Q1 (fun _ _=>?_);refine Xi ?_ Q5;repeat(first|refine Q4 (zD 0) ?_|refine Qa ?_|refine Q6 ?_)
 refine Qr Q57 rfl (fun _ _=>?_);refine Q02 ?_
 refine Qb (.inr rfl) rfl KX (fun w hw=>Jx YQ ?_ hw);rfl
theorem Quk{big:Bool}(W:World)(hm:0<=mn/\mn<=mx/\mx<=4294967295):
  Calls Tryz.prog 96 #[.agg #[a0,.int .i64 2,.slice Ab nb cb,.int .i64 size,.bool false,.int .i64 mn,.int .i64 mx,.int .i64 stop,a8,a9,a10,a11]] W (JS W (Q21 2 bs size false mn mx stop)):=by
 go_enter Tryz.func96,Tryz.ntmps96;refine Qy (M:=[]) (W:=W) (N:=84) (E:=[(0,.agg #[a0,.int .i64 2,.slice Ab nb cb,.int .i64 size,.bool false,.int .i64 mn,.int .i64 mx,.int .i64 stop,a8,a9,a10,a11])]) (O:=[]) ?_ J1 Xs;repeat(first|refine Q4 zM ?_|refine Q4 zA ?_|refine Q4 zF ?_|refine Q4 (zB 2) ?_|refine yB fun br=>?_|refine yA fun b2=>?_|refine Qc ?_|refine Qa ?_|refine Q6 ?_|refine Q8 rfl ?_|refine Q7 rfl ?_|refine Qh ?_|refine Q4 QcX ?_|refine Q4 zY ?_|refine Q4 zP ?_|refine Q4 zQ ?_|refine Q4 zu ?_)
 repeat(first|refine Q4 (zD 0) ?_|refine Q4 QbI ?_|refine Qd Qgy rfl Q1 (fun _ _=>?_)|refine Qc ?_|refine Qa ?_|refine Q6 ?_)
 refine Qr Q57 rfl (fun _ _=>?_);refine Q02 ?_
 refine Qb (.inr rfl) rfl KX (fun w hw=>Jx YQ ?_ hw);rfl
theorem QuB(W:World)(hm:0<=mx/\mx<=999999999):
  Calls Tryz.prog 96 #[.agg #[a0,.int .i64 3,.slice Ab nb cb,.int .i64 size,.bool big,.int .i64 mn,.int .i64 mx,.int .i64 stop,a8,a9,a10,a11]] W (JS W (Q21 3 bs size big mn mx stop)):=by
 go_enter Tryz.func96,Tryz.ntmps96;refine Qy (M:=[]) (W:=W) (N:=84) (E:=[(0,.agg #[a0,.int .i64 3,.slice Ab nb cb,.int .i64 size,.bool big,.int .i64 mn,.int .i64 mx,.int .i64 stop,a8,a9,a10,a11])]) (O:=[]) ?_ J1 Xs;repeat(first|refine Q4 zM ?_|refine Q4 zA ?_|refine Q4 zF ?_|refine Q4 (zB 2) ?_|refine yB fun br=>?_|refine yA fun b2=>?_|refine Qc ?_|refine Qa ?_|refine Q6 ?_|refine Q8 rfl ?_|refine Q7 rfl ?_|refine Qh ?_|refine Q4 QcX ?_|refine Q4 zN ?_|refine Q4 zu ?_|refine Q4 zS ?_)
 repeat(first|refine Q4 (zD 0) ?_|refine Q4 QbI ?_|refine Qd Qgy rfl Q1 (fun _ _=>?_)|refine Qc ?_|refine Qa ?_|refine Q6 ?_|refine Q4 zP ?_)
 refine Qr Q57 rfl (fun _ _=>?_);refine Q02 ?_
 refine Qb (.inr rfl) rfl KX (fun w hw=>Jx YQ ?_ hw);rfl
theorem QvC(W:World):
  Calls Tryz.prog 96 #[.agg #[a0,.int .i64 4,.slice Ab nb cb,.int .i64 size,.bool big,.int .i64 mn,.int .i64 mx,.int .i64 stop,a8,a9,a10,a11]] W (JS W (Q21 4 bs size big mn mx stop)):=by
 go_enter Tryz.func96,Tryz.ntmps96;refine Qy (M:=[]) (W:=W) (N:=84) (E:=[(0,.agg #[a0,.int .i64 4,.slice Ab nb cb,.int .i64 size,.bool big,.int .i64 mn,.int .i64 mx,.int .i64 stop,a8,a9,a10,a11])]) (O:=[]) ?_ J1 Xs;repeat(first|refine Q4 zM ?_|refine Q4 zA ?_|refine Q4 zF ?_|refine Q4 (zB 2) ?_|refine yB fun br=>?_|refine yA fun b2=>?_|refine Qc ?_|refine Qa ?_|refine Q6 ?_|refine Qp ?_|refine Q8 rfl ?_|refine Q7 rfl ?_|refine Qh ?_|refine Q4 QcX ?_|refine Q4 zN ?_|refine Q4 zu ?_|refine Q4 zS ?_)
 repeat(first|refine Q4 (zD 0) ?_|refine Qd Qgy rfl Q1 (fun _ _=>?_)|refine Qc ?_|refine Qa ?_|refine Q6 ?_)
 refine Qr Q57 rfl (fun _ _=>?_);refine Q02 ?_
 refine Qb (.inr rfl) rfl KX (fun w hw=>Jx YQ ?_ hw);rfl
theorem Qtg(W:World)(hs:0<size):
  Calls Tryz.prog 96 #[.agg #[a0,.int .i64 5,.slice Ab nb cb,.int .i64 size,.bool big,.int .i64 mn,.int .i64 mx,.int .i64 stop,a8,a9,a10,a11]] W (JS W (Q21 5 bs size big mn mx stop)):=by
 go_enter Tryz.func96,Tryz.ntmps96;refine Qy (M:=[]) (W:=W) (N:=84) (E:=QrT) (O:=[]) ?_ J1 Xs;repeat(first|refine Q4 zM ?_|refine Q4 zA ?_|refine Q4 zF ?_|refine Q4 (zB 2) ?_|refine yB fun br=>?_|refine yA fun b2=>?_|refine Qc ?_|refine Qa ?_|refine Q6 ?_|refine Q8 rfl ?_|refine Q7 rfl ?_|refine Qh ?_|refine Q4 QcX ?_|refine Q4 zgt ?_|refine Q4 zY ?_|refine Q4 zN ?_|refine Q4 zu ?_|refine Q4 zS ?_)
 repeat(first|refine Q4 (zD 0) ?_|refine Qd Qgy rfl Q1 (fun _ _=>?_)|refine Qc ?_|refine Qa ?_|refine Q6 ?_)
 refine Qr Q57 rfl (fun _ _=>?_);refine Q02 ?_
 refine Qb (.inr rfl) rfl KX (fun w hw=>Jx YQ ?_ hw);exact congrArg Xc (by rw[Q21,if_neg Q1,if_neg Q1,if_neg Q1,if_neg Q1,if_pos rfl,if_pos hs];rfl)
theorem Qtr(W:World)(hs:size=0)(ht:0<=stop/\stop<=255):
  Calls Tryz.prog 96 #[.agg #[a0,.int .i64 5,.slice Ab nb cb,.int .i64 size,.bool big,.int .i64 mn,.int .i64 mx,.int .i64 stop,a8,a9,a10,a11]] W (JS W (Q21 5 bs size big mn mx stop)):=by
 go_enter Tryz.func96,Tryz.ntmps96;refine Qy (M:=[]) (W:=W) (N:=84) (E:=QrT) (O:=[]) ?_ J1 Xs;repeat(first|refine Q4 zM ?_|refine Q4 zA ?_|refine Q4 zF ?_|refine Q4 (zB 2) ?_|refine Q4 (zD 0) ?_|refine Q4 (zD 2) ?_|refine yB fun br=>?_|refine yA fun b2=>?_|refine Qc ?_|refine Qa ?_|refine Q6 ?_|refine Q7 rfl ?_|refine Qh ?_|refine Q4 zet ?_|refine Q4 zef ?_|refine Q4 (Q0L rfl rfl Q1 rfl rfl rfl (by first|exact decide_eq_false Q2|rfl)) ?_|refine Q4 zY ?_|refine Q4 zN ?_|refine Q4 zu ?_|refine Q4 zS ?_)
 subst hs;obtain⟨n,rfl⟩:∃n:Nat,stop=(n:Int):=⟨stop.toNat,by omega⟩;repeat(first|refine Q4 zA ?_|refine Q4 zF ?_|refine Q4 (zB 2) ?_|refine Q4 Qo3 ?_|refine Q4 Qkk ?_|refine Qr Qnb rfl (fun _ _=>?_)|refine Qc ?_|refine Qa ?_|refine Q6 ?_|refine Q8 rfl ?_)
 show lE _ _ _ _ _ _ _ [Qf.blk b2 (.cells ((Xc (fun _=>false)).set (0+n*1) (.bool true)).toArray 92 (0,0)),_,_] _;refine Qk4 ?_;refine Qr Q57 rfl (fun _ _=>?_);refine Q02 ?_
 refine Qb (.inr rfl) rfl KX (fun w hw=>Jx YQ ?_ hw);refine Vt fun j hj=>?_;show (if j=n then true else false)=(if (0:Int)<0 then ZF noS 0 255 j else decide ((j:Int)=(n:Int)));rw[if_neg (show ¬(0:Int)<0 by decide)];by_cases h:j=n<;>simp [h]<;>omega
theorem Qwb(W:World)(ht:0<=stop/\stop<=255):
  Calls Tryz.prog 96 #[.agg #[a0,.int .i64 9,.slice Ab nb cb,.int .i64 size,.bool big,.int .i64 mn,.int .i64 mx,.int .i64 stop,a8,a9,a10,a11]] W (JS W (Q21 9 bs size big mn mx stop)):=by
 go_enter Tryz.func96,Tryz.ntmps96;refine Qy (M:=[]) (W:=W) (N:=84) (E:=[(0,.agg #[a0,.int .i64 9,.slice Ab nb cb,.int .i64 size,.bool big,.int .i64 mn,.int .i64 mx,.int .i64 stop,a8,a9,a10,a11])]) (O:=[]) ?_ J1 Xs;repeat(first|refine Q4 zM ?_|refine Q4 zA ?_|refine Q4 zF ?_|refine Q4 (zB 2) ?_|refine Q4 (zD 0) ?_|refine Q4 (zD 2) ?_|refine yB fun br=>?_|refine yA fun b2=>?_|refine Qc ?_|refine Qa ?_|refine Q6 ?_|refine Q7 rfl ?_|refine Qh ?_|refine Q4 Qd6 ?_|refine Q4 zN ?_|refine Q4 zu ?_|refine Q4 zS ?_)
 obtain⟨n,rfl⟩:∃n:Nat,stop=(n:Int):=⟨stop.toNat,by omega⟩;repeat(first|refine Q4 zA ?_|refine Q4 zF ?_|refine Q4 (zB 2) ?_|refine Q4 Qo3 ?_|refine Q4 Qkk ?_|refine Qr Qnb rfl (fun _ _=>?_)|refine Qc ?_|refine Qa ?_|refine Q6 ?_|refine Q8 rfl ?_)
 show lE _ _ _ _ _ _ _ [Qf.blk b2 (.cells ((Xc (fun _=>false)).set (0+n*1) (.bool true)).toArray 92 (0,0)),_,_] _;refine Qk4 ?_;refine Qr Q57 rfl (fun _ _=>?_);refine Q02 ?_
 refine Qb (.inr rfl) rfl KX (fun w hw=>Jx YQ ?_ hw);refine Vt fun j hj=>?_;show (if j=n then true else false)=decide ((j:Int)=(n:Int));skip;by_cases h:j=n<;>simp [h]<;>omega
theorem QvR(W:World):
  Calls Tryz.prog 96 #[.agg #[a0,.int .i64 6,.slice Ab nb cb,.int .i64 size,.bool big,.int .i64 mn,.int .i64 mx,.int .i64 stop,a8,a9,a10,a11]] W (JS W (Q21 6 bs size big mn mx stop)):=by
 go_enter Tryz.func96,Tryz.ntmps96;refine Qy (M:=[]) (W:=W) (N:=84) (E:=[(0,.agg #[a0,.int .i64 6,.slice Ab nb cb,.int .i64 size,.bool big,.int .i64 mn,.int .i64 mx,.int .i64 stop,a8,a9,a10,a11])]) (O:=[]) ?_ J1 Xs;repeat(first|refine Q4 zM ?_|refine Q4 zA ?_|refine Q4 zF ?_|refine Q4 (zB 2) ?_|refine Q4 (zD 0) ?_|refine Q4 (zD 2) ?_|refine yB fun br=>?_|refine yA fun b2=>?_|refine Qc ?_|refine Qa ?_|refine Q6 ?_|refine Q7 rfl ?_|refine Qh ?_|refine Q4 Qd6 ?_|refine Q4 zN ?_|refine Q4 zu ?_|refine Q4 zS ?_)
 refine Qhk ?_
 refine Qr Q57 rfl (fun _ _=>?_);refine Q02 ?_
 refine Qb (.inr rfl) rfl KX (fun w hw=>Jx YQ ?_ hw);rfl
theorem Qvc(W:World):
  Calls Tryz.prog 96 #[.agg #[a0,.int .i64 7,.slice Ab nb cb,.int .i64 size,.bool big,.int .i64 mn,.int .i64 mx,.int .i64 stop,a8,a9,a10,a11]] W (JS W (Q21 7 bs size big mn mx stop)):=by
 go_enter Tryz.func96,Tryz.ntmps96;refine Qy (M:=[]) (W:=W) (N:=84) (E:=[(0,.agg #[a0,.int .i64 7,.slice Ab nb cb,.int .i64 size,.bool big,.int .i64 mn,.int .i64 mx,.int .i64 stop,a8,a9,a10,a11])]) (O:=[]) ?_ J1 Xs;repeat(first|refine Q4 zM ?_|refine Q4 zA ?_|refine Q4 zF ?_|refine Q4 (zB 2) ?_|refine Q4 (zD 0) ?_|refine Q4 (zD 2) ?_|refine yB fun br=>?_|refine yA fun b2=>?_|refine Qc ?_|refine Qa ?_|refine Q6 ?_|refine Q7 rfl ?_|refine Qh ?_|refine Q4 Qd6 ?_|refine Q4 zN ?_|refine Q4 zu ?_|refine Q4 zS ?_)
 refine Qhk ?_
 refine Qr Q57 rfl (fun _ _=>?_);refine Q02 ?_
 refine Qb (.inr rfl) rfl KX (fun w hw=>Jx YQ ?_ hw);rfl
theorem Qvs(W:World):
  Calls Tryz.prog 96 #[.agg #[a0,.int .i64 8,.slice Ab nb cb,.int .i64 size,.bool big,.int .i64 mn,.int .i64 mx,.int .i64 stop,a8,a9,a10,a11]] W (JS W (Q21 8 bs size big mn mx stop)):=by
 go_enter Tryz.func96,Tryz.ntmps96;refine Qy (M:=[]) (W:=W) (N:=84) (E:=[(0,.agg #[a0,.int .i64 8,.slice Ab nb cb,.int .i64 size,.bool big,.int .i64 mn,.int .i64 mx,.int .i64 stop,a8,a9,a10,a11])]) (O:=[]) ?_ J1 Xs;repeat(first|refine Q4 zM ?_|refine Q4 zA ?_|refine Q4 zF ?_|refine Q4 (zB 2) ?_|refine Q4 (zD 0) ?_|refine Q4 (zD 2) ?_|refine yB fun br=>?_|refine yA fun b2=>?_|refine Qc ?_|refine Qa ?_|refine Q6 ?_|refine Q7 rfl ?_|refine Qh ?_|refine Q4 Qd6 ?_|refine Q4 zN ?_|refine Q4 zu ?_|refine Q4 zS ?_)
 refine Qhk ?_
 refine Qr Q57 rfl (fun _ _=>?_);refine Q02 ?_
 refine Qb (.inr rfl) rfl KX (fun w hw=>Jx YQ ?_ hw);rfl
theorem Quf(W:World):
  Calls Tryz.prog 96 #[.agg #[a0,.int .i64 10,.slice Ab nb cb,.int .i64 size,.bool big,.int .i64 mn,.int .i64 mx,.int .i64 stop,a8,a9,a10,a11]] W (JS W (Q21 10 bs size big mn mx stop)):=by
 go_enter Tryz.func96,Tryz.ntmps96;refine Qy (M:=[]) (W:=W) (N:=84) (E:=[(0,.agg #[a0,.int .i64 10,.slice Ab nb cb,.int .i64 size,.bool big,.int .i64 mn,.int .i64 mx,.int .i64 stop,a8,a9,a10,a11])]) (O:=[]) ?_ J1 Xs;repeat(first|refine Q4 zM ?_|refine Q4 zA ?_|refine Q4 zF ?_|refine Q4 (zB 2) ?_|refine Q4 (zD 0) ?_|refine Q4 (zD 2) ?_|refine yB fun br=>?_|refine yA fun b2=>?_|refine Qc ?_|refine Qa ?_|refine Q6 ?_|refine Q7 rfl ?_|refine Qh ?_|refine Q4 Qd6 ?_|refine Q4 zN ?_|refine Q4 zu ?_|refine Q4 zS ?_)
 refine Qhk ?_
 refine Qr Q57 rfl (fun _ _=>?_);refine Q02 ?_
 refine Qb (.inr rfl) rfl KX (fun w hw=>Jx YQ ?_ hw);rfl
end
def X5:List (Nat->Bool)->List Value
 |[]=>[]
 |s::l=>Xc s++X5 l
theorem Q8o:∀l:List (Nat->Bool),(X5 l).length=l.length*256
 |[]=>rfl
 |s::l=>by rw[X5,List.length_append,X4,Q8o l,List.length_cons];omega
theorem Q8u:∀(l m:List (Nat->Bool)),X5 (l++m)=X5 l++X5 m
 |[],m=>rfl
 |s::l,m=>by rw[List.cons_append,X5,X5,Q8u l m,List.append_assoc]
def ZL:Nat->Bool:=fun _=>false
theorem Q2S:∀(l:List (Nat->Bool)) (k c:Nat),k<l.length->c<256->(X5 l)[k*256+c]? =some (.bool ((l.getD k ZL) c))
 |[],k,c,h,_=>absurd h Qn
 |s::l,0,c,_,hc=>by
  rw[X5,List.getElem?_append_left (by rw[X4];omega),Nat.zero_mul,Nat.zero_add,Jc s hc]
  rfl
 |s::l,k+1,c,h,hc=>by
  rw[X5,List.getElem?_append_right (by rw[X4];omega),X4,show (k+1)*256+c - 256=k*256+c by omega,Q2S l k c (by simpa using h) hc]
  rfl
theorem Q99:∀(l:List (Nat->Bool)) (k c:Nat) (b:Bool),k<l.length->c<256->(X5 l).set (k*256+c) (.bool b)=X5 (l.set k (fun j=>if j=c then b else (l.getD k ZL) j))
 |[],k,c,b,h,_=>absurd h Qn
 |s::l,0,c,b,_,hc=>by
  rw[X5,List.set_append_left _ _ (by rw[X4];omega),Nat.zero_mul,Nat.zero_add,Q2I]
  rfl
 |s::l,k+1,c,b,h,hc=>by
  rw[X5,List.set_append_right _ _ (by rw[X4];omega),X4,show (k+1)*256+c - 256=k*256+c by omega,Q99 l k c b (by simpa using h) hc]
  rfl
theorem Q2g(l:List (Nat->Bool))(k:Nat)(h:k<l.length):∀j u,(Xc (l.getD k ZL))[j]? =some u->(X5 l)[k*256+j]? =some u:=by
 intro j u hu;have hj:j<256:=by
  rcases Nat.lt_or_ge j 256 with hj|hj
  ·exact hj
  ·rw[List.getElem?_eq_none (by rw[X4];omega)] at hu;cases hu
 rw[Q2S l k j h hj];rw[Jc _ hj] at hu;exact hu
def KA(r:Rl):Nat->Bool:=Q21 r.kind r.bs r.size r.big r.mn r.mx r.stop
def orS(s t:Nat->Bool):Nat->Bool:=fun j=>s j||t j
def VS(Ss:List (Nat->Bool))(k i:Nat):List (Nat->Bool):=Ss.set k (orS (Ss.getD k ZL) (Ss.getD i ZL))
def YG(F:List Rl)(Ss:List (Nat->Bool))(k:Nat):List (Nat->Bool):=(bg F k).foldl (fun S i=>VS S k i) Ss
def Jo(F:List Rl)(Ss:List (Nat->Bool)):List (Nat->Bool):=(List.range F.length).foldl (YG F) Ss
def Q07(F:List Rl):List (Nat->Bool):=iter (Jo F) F.length (F.map KA)
theorem Qif{r:Rl}{Ab An Ap:Option Addr}{n cb cn cp:Nat}{W:World}(hl:RuL W r Ab cb An cn Ap cp)(hr:ROk n r):
  Calls Tryz.prog 96 #[.agg (ruC r (.slice Ab r.bs.length cb) (.slice An r.names.length cn) (.slice Ap r.parts.length cp)).toArray] W (JS W (KA r)):=by
 obtain⟨name,kind,bs,size,big,mn,mx,stop,count,elem,names,parts⟩:=r;have hk:=hr.kind;have hb:=hl.b;have h1:=hr.bs1;have h2:=hr.num;have h3:=hr.dec;have h5:=hr.size5;have hs:=hr.stop;unfold KA;simp only at hk hb h1 h2 h3 h5 hs ⊢;rcases (show kind=1\/kind=2\/kind=3\/kind=4\/kind=5\/kind=6\/kind=7\/kind=8\/kind=9\/kind=10 by omega) with rfl|rfl|rfl|rfl|rfl|rfl|rfl|rfl|rfl|rfl
 ·exact QuV W hb (h1 rfl)
 ·obtain⟨a1,a2,a3,a4,a5⟩:=h2 rfl
  have a6:mx<=4294967295:=by
   have b1:1<=size:=a1;have b2:size<=4:=a2;have b5:mx<256 ^ size.toNat:=a5;clear h1 h2 h3 h5 hs hr hl hb a1 a2 a3 a4 a5;rcases (show size=1\/size=2\/size=3\/size=4 by omega) with rfl|rfl|rfl|rfl<;>simp at b5<;>omega
  cases big with
  |true=>exact Qt2 (big:=true) W ⟨a1,a2⟩ ⟨a3,a4,a6⟩
  |false=>exact Quk (big:=true) W ⟨a3,a4,a6⟩
 ·exact QuB W ⟨(h3 rfl).1,(h3 rfl).2.1⟩
 ·exact QvC W
 ·by_cases h0:0<size
  ·exact Qtg W h0
  ·have h50:0<=size:=(h5 rfl).1
   have h51:size=0:=by omega
   exact Qtr W h51 (hs (.inr (.inl rfl)))
 ·exact QvR W
 ·exact Qvc W
 ·exact Qvs W
 ·exact Qwb W (hs (.inr (.inr rfl)))
 ·exact Quf W
section
variable {A:Option Addr}{O:List Qf}{W w:World}{c n:Nat}
def Q17(W:World)(c:Bool)(e:Ending)(w':World):Prop:=e=.returned (.bool c)/\Below W.heap.size W w'
theorem Ys{c c':Bool}(h:c=c')(hw:Wd [] W O w):Q17 W c' (.returned (.bool c)) w:=⟨by rw[h],hw.k.below⟩
theorem Q8h{r:Rl}{Ab An Ap:Option Addr}{cb cn cp:Nat}(hl:RuL W r Ab cb An cn Ap cp)(hr:ROk n r)(hw:Wd [] W O w):
  Calls Tryz.prog 97 #[.agg (ruC r (.slice Ab r.bs.length cb) (.slice An r.names.length cn) (.slice Ap r.parts.length cp)).toArray] w (QN (fun y:Option Addr×Nat=>.slice y.1 (bl r).length y.2) (fun y=>(bl r).length<=y.2/\(bl r=[]->y=(none,0))) [] W (fun y=>.rd y.1 (bl r).length 1 (iv (bl r))::O)):=by
 refine(Qas (hl.on hw.k.below) hr.kind (fun h=>(hr.seven h).2) (fun h=>by have:=hr.eight h;omega)).mono ?_;rintro e w' ⟨A,m,c,rfl,h1,h2,h3,h4,h5⟩;have hm:(bl r).length=m:=by have:=h1.len;rw[K2] at this;exact this
 subst hm;refine⟨(A,c),rfl,⟨h2,fun h=>?_⟩,(hw.on h3).rd_far hw h1 (fun b o e hn=>?_)⟩
 ·obtain⟨rfl,rfl⟩:=h5 (by rw[h];rfl)
  rfl
 ·rcases h4 b o e hn with h|⟨⟨o',h⟩,h0⟩
  ·exact .inl h
  ·right
   exact QtD
theorem Qna{l:List Int}(hl:0<l.length)(hl':l.length<=1048576)(hw:Wd [] W (.rd A l.length 1 (iv l)::O) w):
  Calls Tryz.prog 151 #[.slice A l.length c] w (QN (fun y:Nat×Nat×Nat×List Value=>.slice (some ⟨y.1,y.2.1,none⟩) l.length y.2.2.1) (fun y=>Q55 y.2.1 l.length y.2.2.1 y.2.2.2 (iv l)) [] W (fun y=>.blk y.1 (.cells y.2.2.2.toArray 3 (0,0))::.rd A l.length 1 (iv l)::O)):=by
 refine(Qan Kk hl hl').mono ?_;rintro e w' ⟨b,q,c',cur,rfl,h1,h2,h3,h4⟩;exact⟨(b,q,c',cur),rfl,h3,hw.push h4 h2 (fun b' hb'=>by cases hb';exact h1)⟩
theorem Qki{q:Nat}{cur:List Value}{x:Int}{t:List Int}(h:Q55 q (n+1) c cur (iv (x::t))):∃q',ZC (some ⟨0,q,none⟩) c 1 1=some ⟨0,q',none⟩/\(∀b,ZC (some ⟨b,q,none⟩) c 1 1=some ⟨b,q',none⟩)/\Q55 q' n (c - 1) cur (iv t):=by
 obtain⟨h1,h2,h3,h4,h5⟩:=h;have hl:(iv t).length=n:=by rw[K2] at h4 ⊢;simpa using h4
 by_cases hc:c=1
 ·refine⟨q,by rw[ZC,if_pos hc],fun b=>by rw[ZC,if_pos hc],by omega,by omega,by omega,hl,fun j u hu=>?_⟩
  have hn:n=0:=by omega
  rw[List.getElem?_eq_none Q2] at hu;cases hu
 ·refine⟨q+1,by rw[ZC,if_neg hc,Option.map_some,Addr.add_mid],fun b=>by rw[ZC,if_neg hc,Option.map_some,Addr.add_mid],by omega,by omega,by omega,hl,fun j u hu=>?_⟩;have:=h5 (j+1) u (by exact hu);rwa [show q+(j+1)=q+1+j by omega] at this
def cyE(bf bs k n:Nat)(s:Cy):Env:=[(1,.int .i64 (k:Int)),(2,.pointer (some ⟨bf,0,none⟩)),(5,.slice (some ⟨bs,0,none⟩) n n),(6,.slice (some ⟨s.b,s.q,none⟩) s.qs.length s.c)]
def cyO(bf bs n c:Nat)(A:Option Addr)(s:Cy):List Qf:=[.blk s.b (.cells s.cur.toArray 3 (0,0)),.row (some ⟨bs,0,none⟩) n n 4 1 (JL s.seen),.blk bf (.cells [.slice A n c].toArray 24 (0,0))]
theorem Q2U{F:List Rl}{k:Nat}(hf:X3 W W.heap.size A n F)(hF:FOk F)(hn:n<=40)(hk:k<n):
  Calls Tryz.prog 117 #[.agg #[.slice A n c],.int .i64 (k:Int)] W (Q17 W (Q31 F k)):=by
 have hlen:F.length=n:=hf.1;obtain⟨b,o,rfl⟩:=hf.addr Q2;obtain⟨rk,Ab,cb,An,cn,Ap,cp,hrk,hrg,hlk⟩:=hf.rl hk;have hok:=hF k rk hrk;have HBG:=Q3 (Q4E hrk);have HFM:=Q3 hf;have HOK:=Q3 hok;have HLK:=Q3 hlk;have HF:=Q3 hF;have HLEN:=Q3 hlen;have h12:=QaQ hok;clear hrk hf hok hlk hF hlen;go_enter Tryz.func117,Tryz.ntmps117;refine Qy (M:=[]) (W:=W) (N:=46) (E:=[Qgh,QjW]) (O:=[]) ?_ mc3 Xs;repeat(first|refine Q4 zM ?_|refine Q4 zA ?_|refine Q4 zF ?_|refine Q4 (zB 0) ?_|refine Q4 (zB 1) ?_|refine Q4 (zD 0) ?_|refine Q4 (zD 1) ?_|refine Q4 (zD 2) ?_|refine Q4 zE ?_|refine yB fun bf=>?_|refine Qd Qsn rfl Q1 (fun bs _=>?_)|refine Q4 (zi (hj:=hk)) ?_|refine Qd QsM rfl Q1 (fun y hy=>?_)|refine Qc ?_|refine Qa ?_|refine Q6 ?_|refine Q4 zL ?_)
 obtain⟨l,hl⟩:∃l,bl rk=l:=⟨_,rfl⟩;rw[hl] at hy h12 ⊢;cases l with
 |nil=>
  obtain rfl:=hy.2 rfl;repeat(first|refine Q4 zA ?_|refine Q4 (Qg (f:=151) rfl rfl Q1 rfl rfl (fun w hw=>Qev w)) ?_|refine Qc ?_|refine Qa ?_|refine Qh ?_)
  refine Z0 (ι:=Unit) QgN (fun _=>0) (fun _=>[(6,.slice none 0 0)]) (fun _=>[]) () [] Q1 trivial Quj rfl ?_;rintro _ _;refine Qqy ?_
  refine Qb mc4 rfl (.tmp rfl) (fun w hw=>Ys ?_ hw);cases hc:Q31 F k with
  |false=>rfl
  |true=>
   exfalso;have hr:=(Q2M HF.out.bd QfC).1 hc;have hnone:∀j,Rch F k j->False:=by
    intro j hj;induction hj with
    |one h=>rw[HBG.out,hl] at h;cases h
    |more _ _ ih=>exact ih
   exact hnone k hr
 |cons x0 t0=>
  refine Qd (QC _ _ _ (f:=151) rfl rfl rfl (fun w hw=>Qna (l:=x0::t0) Qn Q2 hw)) rfl Q1 (fun z hz=>?_);obtain⟨b1,q1,c1,cur1⟩:=z;have hz0:Q55 q1 (x0::t0).length c1 cur1 (iv (x0::t0)):=hz;clear hz;have h0:CyP F k { seen:=List.replicate n false,qs:=x0::t0,b:=b1,q:=q1,c:=c1,cur:=cur1 }:=by
   have hno:∀i:Nat,(List.replicate n false).getD i false=false:=fun i=>by
    refine QgH ?_;split<;>rfl
   have hin:=Q6U HOK.out;rw[hl] at hin;have hbg:bg F k=(x0::t0).map Int.toNat:=by rw[HBG.out,hl]
   refine⟨by rw[List.length_replicate,HLEN.out],hz0,hin,fun x hx=>.one ?_,fun x hx=>.inr ?_,fun i hi=>?_,hno k,?_⟩
   ·rw[hbg];exact List.mem_map_of_mem hx
   ·rw[hbg,List.mem_map] at hx;obtain⟨y',hy',rfl⟩:=hx;have:=hin y' hy';rw[show ((y'.toNat:Nat):Int)=y' by omega];exact hy'
   ·have hi':(List.replicate n false).getD i false=true:=hi;rw[hno i] at hi'
    cases hi'
   ·have:=Q6Q (fun i=>!((List.replicate n false).getD i false)) F.length
    show 13*cnt (fun i=>!((List.replicate n false).getD i false)) F.length+(x0::t0).length<=_;omega
  clear hy hl h12;repeat(first|refine Q4 zA ?_|refine Qc ?_|refine Qa ?_|refine Qh ?_)
  refine Z0 (CyP F k) (fun s=>13*VO s F.length+s.qs.length) (cyE bf bs k n) (cyO bf bs n c Q0H) { seen:=List.replicate n false,qs:=x0::t0,b:=b1,q:=q1,c:=c1,cur:=cur1 } [0,2,3] Q1 h0 mc1 (by show [_,Qf.row _ _ _ _ _ _,_]=_;rw[QrR];rfl) ?_;rintro⟨seen,qs,b2,q2,c2,cur2⟩ hp;have HPP:=Q3 hp;clear hp;cases qs with
  |nil=>
   show sE _ _ _ _ _ [QjW,Q4v,QsC,(6,.slice (some ⟨b2,q2,none⟩) 0 c2)] Qr5 _;refine Qqy ?_
   refine Qb mc4 rfl (.tmp rfl) (fun w hw=>Ys (HPP.out.done HF.out QfC rfl).symm hw)
  |cons x t=>
   show sE _ _ _ _ _ [QjW,Q4v,QsC,(6,.slice (some ⟨b2,q2,none⟩) (x::t).length c2)] Qr5 _;have hx:=HPP.out.inn x List.mem_cons_self;rw[HLEN.out] at hx;have hc0:cur2[q2+0]? =some (.int .i64 x):=HPP.out.win.2.2.2.2 0 _ rfl;obtain⟨q3,_,hcut,hwt⟩:=Qki (show Q55 q2 (t.length+1) c2 cur2 (iv (x::t)) from HPP.out.win);have HWT:=Q3 hwt;clear hwt;have hlt:0<(x::t).length:=by simp
   by_cases hxk:x=(k:Int)
   ·have hxk':(x==(k:Int))=true:=beq_iff_eq.2 hxk
    repeat(first|refine Q4 zM ?_|refine Q4 zA ?_|refine Q4 Q9Y ?_|refine Q4 (zV 0 hc0) ?_|(refine Q4 Qgd ?_;rw[hcut])|refine Qc ?_|refine Qa ?_|refine Q6 ?_|refine Qp ?_|refine Q8 rfl ?_|refine Qu ?_|refine Qh ?_|refine Qo ?_|refine Qt ?_|refine Q4 zL ?_|refine Q4 zea ?_|refine Q4 zgt ?_)
    refine Qb mc4 rfl (.tmp rfl) (fun w hw=>Ys ?_ hw);refine((Q2M HF.out.bd QfC).2 ?_).symm;have:=HPP.out.sound x List.mem_cons_self;rw[hxk] at this;simpa using this
   ·have hxk':(x==(k:Int))=false:=beq_eq_false_iff_ne.2 hxk
    have hs0:(JL seen)[0+x.toNat]? =some (.bool (seen.getD x.toNat false)):=by
     rw[Nat.zero_add];exact Q2D (by rw[show seen.length=F.length from HPP.out.len,HLEN.out];omega)
    have HXK:=Q3 hxk;clear hxk;obtain⟨sx,hsx⟩:∃sx,seen.getD x.toNat false=sx:=⟨_,rfl⟩;rw[hsx] at hs0;have HSX:=Q3 hsx;clear hsx;cases sx with
    |true=>
     repeat(first|refine Q4 zM ?_|refine Q4 zA ?_|refine Q4 Q9Y ?_|refine Q4 (zV 0 hc0) ?_|(refine Q4 Qgd ?_;rw[hcut])|refine Q4 QmR ?_|refine Q4 (zK 1 hs0) ?_|refine Qc ?_|refine Qa ?_|refine Q6 ?_|refine Qp ?_|refine Q8 rfl ?_|refine Q7 rfl ?_|refine Qh ?_|refine QZ ?_|refine Q4 zL ?_|refine Q4 zea ?_|refine Q4 Q2W ?_|refine Q4 zO ?_)
     refine QT { seen:=seen,qs:=t,b:=b2,q:=q3,c:=c2 - 1,cur:=cur2 } [0,1,2] Q1 (HPP.out.old rfl HSX.out hx.1 HWT.out) (by show 13*VO _ _+t.length<13*VO _ _+(t.length+1);exact Nat.lt_succ_self _) mc1 rfl
    |false=>
     obtain⟨rx,Ab',cb',An',cn',Ap',cp',hrx,hrgx,hlx⟩:=HFM.out.rl (i:=x.toNat) Q2;have HRX:=Q3 hrx;have HLX:=Q3 hlx;have HOX:=Q3 (HF.out _ _ hrx);have h12:=QaQ HOX.out;have hsm:=HPP.out.small;have hul:=hsm;rw[HLEN.out] at hul;clear hrx hlx hsm;have hqs:t.length<=13*n+12:=by
      have:(Cy.mk seen (x::t) b2 q2 c2 cur2).qs.length=t.length+1:=rfl;omega
     clear hul;repeat(first|refine Q4 zM ?_|refine Q4 zA ?_|refine Q4 zF ?_|refine Q4 (zB 2) ?_|refine Q4 (zD 0) ?_|refine Q4 (zD 1) ?_|refine Q4 zE ?_|refine Q4 Q9Y ?_|refine Q4 (zV 0 hc0) ?_|(refine Q4 Qgd ?_;rw[hcut])|refine Q4 QmR ?_|refine Q4 (QF rfl rfl Q1 rfl rfl rfl hx) ?_|refine Q4 (zK 1 hs0) ?_|refine Qr Qmg rfl (fun _ _=>?_)|refine Qd (QC _ _ _ (f:=97) rfl rfl rfl (fun w hw=>Q8h (n:=F.length) HLX.out HOX.out hw)) rfl Q1 (fun z hz=>?_)|refine Qd (Q3f (n:=t.length) 1 rfl rfl rfl rfl rfl HWT.out (fun w hw=>hw.own 0 _ rfl) (Qof _) Q2) rfl Q1 (fun y hy=>?_)|refine Qc ?_|refine Qa ?_|refine Q6 ?_|refine Qp ?_|refine Q8 rfl ?_|refine Q7 rfl ?_|refine Qh ?_|refine QZ ?_|refine Q4 zL ?_|refine Q4 zea ?_|refine Q4 Q2W ?_|refine Q4 zO ?_)
     obtain⟨b4,q4,c4,cur4⟩:=y
     have hnew:=HPP.out.new (b':=b4) (q':=q4) (c':=c4) (cur':=cur4) HF.out rfl HRX.out HSX.out HXK.out (by
      have h:Q55 q4 (t.length+(bl rx).length) c4 cur4 (iv t++iv (bl rx)):=hy;rw[List.length_append,Qau]
      exact h)
     refine QT { seen:=seen.set x.toNat true,qs:=t++bl rx,b:=b4,q:=q4,c:=c4,cur:=cur4 } [1,2,3] Q1 hnew.1 hnew.2 (.cons rfl rfl (.cons rfl rfl (.cons rfl rfl (.cons rfl (by rw[List.length_append]) .nil)))) ?_;show [_,Qf.row _ _ _ _ _ ((JL seen).set (0+x.toNat) (.bool true)),_]=_;rw[Nat.zero_add,Q3X];rfl
end
section
variable {A:Option Addr}{S:List (Nat->Bool)}{b c n s:Nat}{cd:Code}{e:TypeId}{w:World}{xs:List Value}
theorem Rd.of_on(h:(Qf.rd A n s xs).on w)(hn:0<n):∃b o,A=some ⟨b,o,none⟩/\b<w.heap.size:=by
 have h':Rd w w.heap.size s A n xs:=h;obtain⟨b,o,e,hb,_⟩:=h'.2 hn;exact⟨b,o,e,hb⟩
section
variable {P:Program}{Q:Exit->Act->World->Prop}{N:Nat}{M:List Nat}{W:World}{E:Env}{O:List Qf}
theorem Qft(i:Nat)(hO:O[i]? =some (.row A n c e s xs))(hn:0<n)(h:∀b,A=some ⟨b,0,none⟩->sE P Q N M W E O cd):sE P Q N M W E O cd:=fun a w ha hw=>by
 rcases (hw.own i _ hO).2 with ⟨hv,_⟩|⟨g,cap,cur,hv,_⟩
 ·have:n=0:=by
   exact Qfz
  omega
 ·simp only[Value.slice.injEq] at hv
  exact h g hv.1 a w ha hw
theorem QnC{x y:Code}{ι:Type}(p:ι->Prop)(F:ι->Env)(G:ι->List Qf)(h1:sE P (Exit.then (Qpb p N M W F G) Q) N M W E O x)(h2:∀i,p i->sE P Q N M W (F i) (G i) y):sE P (Exit.then (fun a w=>y.wp P Q a w) Q) N M W E O x:=
 QqI p F G h1 fun i hp a w ha hw=>h2 i hp a w ha hw
theorem Wd.rd_blk(i:Nat){cs:List Value}{t:TypeId}{fr:Nat×Nat}(hO:O[i]? =some (.blk b (.cells cs.toArray t fr)))(hl:cs.length=n*s)(hw:Wd M W O w):Rd w w.heap.size s (some ⟨b,0,none⟩) n cs:=
 ⟨hl,fun _=>⟨b,0,rfl,(hw.own i _ hO).lt rfl,fun j u hu=>by rw[Nat.zero_add];exact hw.cell_blkL i hO hu⟩⟩
end
section
variable {P:Program}{Q:Exit->Act->World->Prop}{N:Nat}{M:List Nat}{W:World}{E:Env}{O:List Qf}
theorem Qiw(i:Nat)(hO:O[i]? =some (.rd A n s xs))(hn:0<n)(h:∀b o,A=some ⟨b,o,none⟩->sE P Q N M W E O cd):sE P Q N M W E O cd:=fun a w ha hw=>by
 obtain⟨b,o,e,_⟩:=Go.Proofs.YtphkhfdmlcnoeaaGreatDoor.Rd.of_on Q8I hn;exact h b o e a w ha hw
end
theorem Wd.range_sets{M:List Nat}{W:World}{O:List Qf}(i:Nat){k:Nat}(hO:O[i]? =some (.row (some ⟨b,0,none⟩) n c e 256 (X5 S)))(hk:k<S.length)(hw:Wd M W O w):w.rangeAt b (0+k*256) (Xc (S.getD k ZL)):=fun j u hu=>by
 rw[Nat.zero_add];exact hw.cell_row i hO (Q2g S k hk j u hu)
def KI(S:List (Nat->Bool))(k:Nat)(st:Nat->Bool)(c:Nat):List (Nat->Bool):=S.set k (fun j=>if j<c then (S.getD k ZL) j||st j else (S.getD k ZL) j)
theorem Q2A(S:List (Nat->Bool))(k:Nat)(st:Nat->Bool)(c:Nat):(KI S k st c).length=S.length:=by unfold KI;rw[List.length_set]
theorem Qbr(S:List (Nat->Bool))(k:Nat)(st:Nat->Bool)(c:Nat)(hk:k<S.length):(KI S k st c).getD k ZL=fun j=>if j<c then (S.getD k ZL) j||st j else (S.getD k ZL) j:=by
 unfold KI;rw[List.getD_eq_getElem?_getD,List.getElem?_set,if_pos rfl,if_pos hk];rfl
theorem Qja(S:List (Nat->Bool))(k:Nat)(st:Nat->Bool)(hk:k<S.length):KI S k st 0=S:=by
 unfold KI;have e:(fun j=>if j<0 then (S.getD k ZL) j||st j else (S.getD k ZL) j)=S[k]:=by
  funext j;rw[if_neg Q2,List.getD_eq_getElem?_getD,List.getElem?_eq_getElem hk];rfl
 rw[e,List.set_getElem_self]
theorem QiK{T:List (Nat->Bool)}(hl:S.length=T.length)(h:∀k c,k<S.length->c<256->(S.getD k ZL) c=(T.getD k ZL) c):X5 S=X5 T:=by
 induction S generalizing T with
 |nil=>cases T with
  |nil=>rfl
  |cons=>simp at hl
 |cons s S ih=>cases T with
  |nil=>simp at hl
  |cons t T=>
   have e1:Xc s=Xc t:=Vt (fun j hj=>h 0 j Qn hj);have e2:X5 S=X5 T:=ih QfM (fun k c hk hc=>h (k+1) c (by simpa using hk) hc);rw[X5,X5,e1,e2]
theorem Q9a(S:List (Nat->Bool))(k:Nat)(st:Nat->Bool)(c:Nat)(hk:k<S.length)(hc:c<256):(X5 (KI S k st c)).set (k*256+c) (.bool ((S.getD k ZL) c||st c))=X5 (KI S k st (c+1)):=by
 rw[Q99 _ _ _ _ (by rw[Q2A];exact hk) hc,Qbr S k st c hk];unfold KI;rw[List.set_set];congr 2;funext j;by_cases h1:j=c
 ·subst h1;simp
 ·by_cases h2:j<c
  ·have:j<c+1:=by omega
   simp [h1,h2,this]
  ·have:¬j<c+1:=by omega
   simp [h1,h2,this]
theorem Qkh(S:List (Nat->Bool))(k x:Nat)(hk:k<S.length):X5 (KI S k (S.getD x ZL) 256)=X5 (VS S k x):=by
 refine QiK (by unfold VS;rw[Q2A,List.length_set]) fun k' c hk' hc=>?_;rw[Q2A] at hk';unfold KI VS;by_cases h:k=k'
 ·subst h
  simp [List.getD_eq_getElem?_getD,hk,hc,orS]
 ·simp [List.getD_eq_getElem?_getD,List.getElem?_set_ne h]
theorem QdK(S:List (Nat->Bool))(k x:Nat):(VS S k x).length=S.length:=by unfold VS;rw[List.length_set]
theorem Q0K(k:Nat):∀(l:List Nat) (S:List (Nat->Bool)),(l.foldl (fun S x=>VS S k x) S).length=S.length
 |[],_=>rfl
 |x::l,S=>by rw[List.foldl_cons,Q0K k l,QdK]
theorem Qc6(F:List Rl)(S:List (Nat->Bool))(k:Nat):(YG F S k).length=S.length:=Q0K k _ S
theorem KO(F:List Rl):∀(l:List Nat) (S:List (Nat->Bool)),(l.foldl (YG F) S).length=S.length
 |[],_=>rfl
 |x::l,S=>by rw[List.foldl_cons,KO F l,Qc6]
theorem YE(F:List Rl)(S:List (Nat->Bool)):∀t,(iter (Jo F) t S).length=S.length
 |0=>rfl
 |t+1=>(KO F _ _).trans (YE F S t)
theorem QiD(st:Nat->Bool):∀u∈Xc st,u.oneCell'=true:=by
 intro u hu;simp only[Xc,List.mem_map] at hu;obtain⟨j,_,rfl⟩:=hu;rfl
theorem Qaw{F:List Rl}{W:World}(hf:X3 W W.heap.size A n F)(hF:FOk F)(hn:n<=40)(hn0:0<n):
  Calls Tryz.prog 55 #[.agg #[.slice A n c]] W (fun e w'=>∃b c',e=.returned (.slice (some ⟨b,0,none⟩) n c')/\W.heap.size<=b/\Rd w' w'.heap.size 256 (some ⟨b,0,none⟩) n (X5 (Q07 F))/\Below W.heap.size W w'):=by
 have hlen:F.length=n:=hf.1;obtain⟨b,o,rfl⟩:=hf.addr hn0;have HFM:=Q3 hf;have HF:=Q3 hF;have HLEN:=Q3 hlen;clear hf hF hlen;go_enter Tryz.func55,Tryz.ntmps55;refine Qy (M:=[]) (W:=W) (N:=72) (E:=[Qgh]) (O:=[]) ?_ J1 Xs;repeat(first|refine Q4 zM ?_|refine Q4 zA ?_|refine Q4 zF ?_|refine Q4 (zB 0) ?_|refine yB fun bf=>?_|refine Qc ?_|refine Qa ?_|refine Q6 ?_|refine Qh ?_|refine Q4 zL ?_)
 refine Q5U 92 256 ?_;refine Z0 (ι:=Nat×Option Addr×Nat) (fun y=>y.1<=n) (fun y=>n - y.1) (fun y=>[QhE,(3,.slice y.2.1 y.1 y.2.2),(13,.slice Q0H n c),(14,.int .i64 (n:Int)),(15,.int .i64 (y.1:Int))]) (fun y=>[.row y.2.1 y.1 y.2.2 92 256 (X5 ((F.take y.1).map KA)),.blk bf Q4T]) (0,none,0) [0,1] Q1 JR QfY rfl ?_;rintro⟨i,A',c'⟩ hi;have hi':i<=n:=hi;clear hi;show sE _ _ _ _ _ [QhE,(3,.slice A' i c'),(13,.slice Q0H n c),(14,.int .i64 (n:Int)),(15,.int .i64 (i:Int))] [.row A' i c' 92 256 (X5 ((F.take i).map KA)),.blk bf Q4T] _;by_cases hin:i<n
 ·obtain⟨rk,Ab,cb,An,cn,Ap,cp,hrk,hrg,hlk⟩:=HFM.out.rl hin;have HRK:=Q3 hrk;have HLK:=Q3 hlk;have HOK:=Q3 (HF.out i rk hrk);clear hrk hlk
  repeat(first|refine Q4 zM ?_|refine Q4 zA ?_|refine Q4 (zD 0) ?_|refine Q4 (zD 1) ?_|refine Q4 zE ?_|refine Q4 (zi (hj:=hin)) ?_|refine yA (t:=65) fun b7=>?_|refine yW 0 ?_|refine Q4 (Qg (f:=96) rfl rfl Q1 rfl rfl (fun w hw=>(Qif QtM HOK.out).mono (fun _ _ h=>h))) ?_|refine Qd (Zl (cs:=Xc _) rfl rfl rfl rfl YQ Q1) rfl Q1 (fun bn _=>?_)|refine Qd (Xp (news:=Xc _) 2 rfl rfl rfl rfl rfl (fun w hw=>hw.rd_blk 0 rfl (by rw[X4])) (QiD _) Q2) rfl Q1 (fun y _=>?_)|refine Qc ?_|refine Qa ?_|refine Q6 ?_|refine Qp ?_|refine Q8 rfl ?_|refine Qh ?_|refine Q4 Qp5 ?_|refine Q4 zP ?_)
  obtain⟨A2,c2⟩:=y;refine QT (i+1,A2,c2) [2,3] Q1 hin Qgp Q8C ?_;show [Qf.row _ _ _ _ _ (X5 ((F.take i).map KA)++Xc (KA rk)),_]=[Qf.row _ _ _ _ _ (X5 ((F.take (i+1)).map KA)),_];rw[List.take_add_one,HRK.out,Option.toList_some,List.map_append,Q8u];simp [X5]
 ·obtain rfl:i=n:=by omega
  refine Qwc ?_
  refine Qft 0 rfl hn0 (fun br hA=>?_);subst hA;have e0:X5 ((F.take i).map KA)=X5 (iter (Jo F) 0 (F.map KA)):=by
   rw[List.take_of_length_le (by rw[HLEN.out];exact Nat.le_refl _)];rfl
  refine Z0 (ι:=Nat) (fun t=>t<=i) (fun t=>i - t) (fun t=>[QhE,Qk5,QlZ,QmZ]) (fun t=>[.row QcE i c' 92 256 (X5 (iter (Jo F) t (F.map KA))),.blk bf QrF]) 0 [0,1] Q1 JR mc1 (by rw[<- e0];rfl) ?_;rintro t ht;by_cases htn:t<i
  ·skip
   repeat(first|refine Q4 zM ?_|refine Q4 zF ?_|refine Q4 (zB 1) ?_|refine Qc ?_|refine Qa ?_|refine Q6 ?_|refine Qp ?_|refine Q8 rfl ?_|refine Qh ?_|refine Q4 zL ?_|refine Q4 zlt ?_)
   refine Z0 (ι:=Nat) (fun k=>k<=i) (fun k=>i - k) (fun k=>[QhE,Qk5,QlZ,QmZ,(31,.slice Q0H i c),(32,.int .i64 (i:Int)),(33,.int .i64 (k:Int))]) (fun k=>[.row QcE i c' 92 256 (X5 Qui),.blk bf QrF]) 0 [0,1] Q1 JR Q8D rfl ?_;rintro k hk;by_cases hkn:k<i
   ·obtain⟨rk,Ab,cb,An,cn,Ap,cp,hrk,hrg,hlk⟩:=HFM.out.rl hkn;have HRK:=Q3 hrk;have HLK:=Q3 hlk;have HOK:=Q3 (HF.out k rk hrk);clear hrk hlk
    repeat(first|refine Q4 zM ?_|refine Q4 zA ?_|refine Q4 (zD 0) ?_|refine Q4 (zD 1) ?_|refine Q4 zE ?_|refine Q4 QsF ?_|refine yA (t:=65) fun b7=>?_|refine yW 0 ?_|refine Qd QsM rfl Q1 (fun z hz=>?_)|refine Qc ?_|refine Qa ?_|refine Q6 ?_|refine Qp ?_|refine Q8 rfl ?_|refine Qh ?_|refine Q4 zL ?_|refine Q4 zlt ?_)
    obtain⟨A2,c2⟩:=z;have hbl:=QaQ HOK.out;refine Z0 (ι:=Nat) (fun j=>j<=(bl rk).length) (fun j=>(bl rk).length - j) (fun j=>[(1,.pointer (some ⟨bf,0,none⟩)),(3,.slice (some ⟨br,0,none⟩) i c'),(6,.int .i64 (k:Int)),(27,.int .i64 (i:Int)),(28,.int .i64 (t:Int)),(31,.slice (some ⟨b,o,none⟩) i c),(32,.int .i64 (i:Int)),(33,.int .i64 (k:Int)),(39,.slice A2 (bl rk).length c2),(40,.int .i64 ((bl rk).length:Int)),(41,.int .i64 (j:Int))]) (fun j=>[.rd A2 (bl rk).length 1 (iv (bl rk)),.row (some ⟨br,0,none⟩) i c' 92 256 (X5 (((bg F k).take j).foldl (fun S x=>VS S k x) ((List.range k).foldl (YG F) (iter (Jo F) t (F.map KA))))),.blk bf (.cells [.slice (some ⟨b,o,none⟩) i c].toArray 24 (0,0))]) 0 [0,2,3] Q1 (Nat.zero_le _) (.cons rfl rfl (.cons rfl rfl (.cons rfl rfl (.cons rfl rfl (.cons rfl rfl (.cons rfl rfl (.cons rfl rfl (.cons rfl rfl (.cons rfl rfl (.cons rfl rfl (.cons rfl rfl .nil))))))))))) rfl ?_;rintro j hj;by_cases hjn:j<(bl rk).length
    ·refine Qiw 0 rfl Q2 (fun b2 o2 hA=>?_);subst hA;obtain⟨x,hx⟩:∃x,(bl rk)[j]? =some x:=⟨_,List.getElem?_eq_getElem hjn⟩;have hxb:=Q6U HOK.out x Q0G
     have hxn:0<=x/\x<(i:Int):=by have:=HLEN.out;omega
     clear hxb;have hxj:(iv (bl rk))[j]? =some (.int .i64 x):=by unfold iv;rw[List.getElem?_map,hx];rfl
     have hbgj:(bg F k)[j]? =some x.toNat:=by rw[Q4E HRK.out,List.getElem?_map,hx];rfl
     have HBG:=Q3 hbgj;clear hbgj;obtain⟨S,hS⟩:∃S,S=((bg F k).take j).foldl (fun S x=>VS S k x) ((List.range k).foldl (YG F) (iter (Jo F) t (F.map KA))):=⟨_,rfl⟩;have hSl:S.length=i:=by rw[hS,Q0K,KO,YE,List.length_map];exact HLEN.out
     rw[<- hS];have HS:=Q3 hS;clear hS;have hxS:x.toNat<S.length:=by omega
     have hkS:k<S.length:=by omega
     repeat(first|refine Q4 zM ?_|refine Q4 zA ?_|refine Q4 (zi1 (hj:=hjn)) ?_|refine Q4 QgG ?_|refine Q4 (QP rfl rfl Q1 rfl rfl (fun w hw=>hw.cell_rd 0 rfl hxj)) ?_|refine Q4 (QV (cs:=Xc (S.getD x.toNat ZL)) rfl rfl Q1 rfl rfl (fun w hw=>hw.range_sets 1 rfl hxS) YQ) ?_|refine Qc ?_|refine Qa ?_|refine Q6 ?_|refine Qp ?_|refine Q8 rfl ?_|refine Qh ?_|refine Q4 zlt ?_)
     obtain⟨st,hst⟩:∃st,st=S.getD x.toNat ZL:=⟨_,rfl⟩;rw[<- hst];have HST:=Q3 hst;clear hst;refine Z0 (ι:=Nat) (fun cc=>cc<=256) (fun cc=>256 - cc) (fun cc=>[(1,.pointer (some ⟨bf,0,none⟩)),(3,.slice (some ⟨br,0,none⟩) i c'),(6,.int .i64 (k:Int)),(27,.int .i64 (i:Int)),(28,.int .i64 (t:Int)),(31,.slice (some ⟨b,o,none⟩) i c),(32,.int .i64 (i:Int)),(33,.int .i64 (k:Int)),(39,.slice (some ⟨b2,o2,none⟩) (bl rk).length c2),(40,.int .i64 ((bl rk).length:Int)),(41,.int .i64 (j:Int)),(48,.agg (Xc st).toArray),(49,.int .i64 (cc:Int))]) (fun cc=>[.rd (some ⟨b2,o2,none⟩) (bl rk).length 1 (iv (bl rk)),.row (some ⟨br,0,none⟩) i c' 92 256 (X5 (KI S k st cc)),.blk bf (.cells [.slice (some ⟨b,o,none⟩) i c].toArray 24 (0,0))]) 0 [0,1,2] Q1 (Nat.zero_le _) (.cons rfl rfl (.cons rfl rfl (.cons rfl rfl (.cons rfl rfl (.cons rfl rfl (.cons rfl rfl (.cons rfl rfl (.cons rfl rfl (.cons rfl rfl (.cons rfl rfl (.cons rfl rfl (.cons rfl rfl (.cons rfl rfl .nil))))))))))))) (by rw[Qja S k st hkS];rfl) ?_;rintro cc hcc;by_cases hcn:cc<256
     ·have hlt:k*256+cc<i*256:=by omega
      have hcell0:=Q2S (KI S k st cc) k cc (by rw[Q2A];exact hkS) hcn;rw[Qbr S k st cc hkS] at hcell0;have hcell:(X5 (KI S k st cc))[0+k*256+cc*1]? =some (.bool ((S.getD k ZL) cc)):=by
       rw[Nat.zero_add,Nat.mul_one,hcell0];show some (Value.bool (if cc<cc then _ else _))=_;rw[if_neg (Nat.lt_irrefl _)]
      clear hcell0;obtain⟨bb,hbb⟩:∃bb,(S.getD k ZL) cc=bb:=⟨_,rfl⟩;rw[hbb] at hcell;have HB:=Q3 hbb;clear hbb;cases bb with
      |true=>
       skip;refine QqC ?_
       refine Qsg ?_;refine Qi 10 rfl Q5 Z4 zS ?_;refine Qi 11 rfl Q5 Z4 zY ?_;refine QlA ?_;refine QB 14 Q5 rfl rfl Qmg ZA rfl (fun _ _=>?_);refine Xi ?_ Q5;refine QgX ?_
       refine QT (cc+1) [0,1,2] Q1 Q2 (by show 256 - (cc+1)<256 - cc;omega) (.cons rfl rfl (.cons rfl rfl (.cons rfl rfl (.cons rfl rfl (.cons rfl rfl (.cons rfl rfl (.cons rfl rfl (.cons rfl rfl (.cons rfl rfl mc2))))))))) ?_;show [_,Qf.row _ _ _ _ _ ((X5 (KI S k st cc)).set (0+k*256+cc*1) (.bool true)),_]=[_,Qf.row _ _ _ _ _ (X5 (KI S k st (cc+1))),_];rw[<- Q9a S k st cc hkS hcn,Nat.zero_add,Nat.mul_one,HB.out];rfl
      |false=>
       skip;refine QqC ?_
       refine Qsg ?_;refine Qi 10 rfl Q5 Z4 zM ?_;refine Qi 11 rfl Q5 Z4 zN ?_;refine QlA ?_;refine QB 14 Q5 rfl rfl Qmg ZA rfl (fun _ _=>?_);refine Xi ?_ Q5;refine QgX ?_
       refine QT (cc+1) [0,1,2] Q1 Q2 (by show 256 - (cc+1)<256 - cc;omega) (.cons rfl rfl (.cons rfl rfl (.cons rfl rfl (.cons rfl rfl (.cons rfl rfl (.cons rfl rfl (.cons rfl rfl (.cons rfl rfl (.cons rfl rfl mc2))))))))) ?_;show [_,Qf.row _ _ _ _ _ ((X5 (KI S k st cc)).set (0+k*256+cc*1) (.bool (st cc))),_]=[_,Qf.row _ _ _ _ _ (X5 (KI S k st (cc+1))),_];rw[<- Q9a S k st cc hkS hcn,Nat.zero_add,Nat.mul_one,HB.out];rfl
     ·skip
      refine Qlm ?_
      refine QT (j+1) [0,1,2] Q1 Q2 (by show (bl rk).length - (j+1)<(bl rk).length - j;omega) (.cons rfl rfl (.cons rfl rfl (.cons rfl rfl (.cons rfl rfl Qgk)))) ?_;obtain rfl:cc=256:=by omega
      show [_,Qf.row _ _ _ _ _ (X5 (KI S k st 256)),_]=[_,Qf.row _ _ _ _ _ (X5 (((bg F k).take (j+1)).foldl (fun S x=>VS S k x) _)),_];rw[HST.out,Qkh S k x.toNat hkS,List.take_add_one,HBG.out,Option.toList_some,List.foldl_append,<- HS.out];rfl
    ·skip
     refine Qlm ?_
     refine QT (k+1) [1,2] Q1 hkn Q2 Qgk ?_;show [Qf.row _ _ _ _ _ _,_]=[Qf.row _ _ _ _ _ (X5 ((List.range (k+1)).foldl (YG F) _)),_];rw[List.range_succ,List.foldl_append,List.take_of_length_le (by rw[Q4E HRK.out,List.length_map];omega)];rfl
   ·skip
    refine Qlm ?_
    refine QT (t+1) [0,1] Q1 htn Q2 mc2 ?_;have hkk:k=F.length:=by rw[HLEN.out];omega
    subst hkk;rfl
  ·skip
   repeat(first|refine Q4 zM ?_|refine Q4 zA ?_|refine Qc ?_|refine Qa ?_|refine Q6 ?_|refine Q7 rfl ?_|refine Xe ?_|refine Qu ?_|refine Q4 zlf ?_)
   have htt:t=F.length:=by rw[HLEN.out];omega
   refine Qb mc4 rfl (.tmp rfl) (fun w hw=>⟨br,c',rfl,?_,⟨?_,fun _=>⟨br,0,rfl,(hw.own 0 _ rfl).lt rfl,fun j u hu=>?_⟩⟩,hw.k.below⟩)
   ·rcases Nat.lt_or_ge br W.heap.size with h|h
    ·have:=hw.new 0 _ br rfl rfl h
     exact Q6S
    ·exact h
   ·unfold Q07;rw[Q8o,YE,List.length_map,HLEN.out]
   ·rw[Nat.zero_add];refine hw.cell_row 0 rfl ?_;rw[htt];exact hu
end
end Go.Proofs.YtphkhfdmlcnoeaaGreatDoor
