import Derived.Test.YtphkhfdmlcnoeaaGreatDoorP11
namespace Go.Proofs.YtphkhfdmlcnoeaaGreatDoor
set_option linter.unusedVariables false
set_option linter.unusedSimpArgs false
set_option maxRecDepth 1000000
set_option maxHeartbeats 32000000
open Go.RowKit
section
variable {F:List Rl}{c' i k n q':Nat}{r:Rl}{t:List Int}{x:Int}
structure ROk(n:Nat)(r:Rl):Prop where
 kind:1<=r.kind/\r.kind<=10
 formed:Xb r.kind r.size r.big r.mn r.mx r.stop r.count r.elem r.bs.length r.names.length r.parts.length=true
 bs1:r.kind=1->0<r.bs.length
 bs16:r.bs.length<=16
 seven:r.kind=7->r.names.length=r.parts.length/\1<=r.parts.length
 eight:r.kind=8->2<=r.parts.length
 p12:r.parts.length<=12
 parts:(r.kind=7\/r.kind=8)->∀x∈r.parts,0<=x/\x<n
 count:(r.kind=6\/r.kind=10)->0<=r.count/\r.count<n
 elem:(r.kind=6\/r.kind=9)->0<=r.elem/\r.elem<n
 num:r.kind=2->1<=r.size/\r.size<=4/\0<=r.mn/\r.mn<=r.mx/\r.mx<256 ^ r.size.toNat
 dec:r.kind=3->0<=r.mx/\r.mx<=999999999/\¬(48<=r.stop/\r.stop<=57)
 stop:(r.kind=3\/r.kind=5\/r.kind=9)->0<=r.stop/\r.stop<=255
 size4:r.kind=4->1<=r.size/\r.size<=1000
 size5:r.kind=5->0<=r.size/\r.size<=1000
theorem QY{n a b:Int}:inB n a b=true↔a<=n/\n<=b:=by unfold inB;simp
theorem Quy{early:List Rl}(h:Xr r early n=0):ROk n r:=by
 unfold Xr at h;split at h
 ·cases h
 split at h
 ·cases h
 split at h
 ·cases h
 next h3=>
 split at h
 ·cases h
 next h4=>
 split at h
 ·cases h
 next h5=>
 split at h
 ·cases h
 next h6=>
 split at h
 ·cases h
 next h7=>
 split at h
 ·cases h
 next h8=>
 split at h
 ·cases h
 next h9=>
 split at h
 ·cases h
 next h10=>
 split at h
 ·cases h
 next h11=>
 have hk:1<=r.kind/\r.kind<=10:=QY.1 (by simpa using h3);have hf:Xb r.kind r.size r.big r.mn r.mx r.stop r.count r.elem r.bs.length r.names.length r.parts.length=true:=by simpa using h4
 have hr:QC r.kind r.size r.mn r.mx r.stop r.count r.elem r.parts n=true:=by simpa using h11
 clear h h3 h4 h11;simp only[Bool.and_eq_true,beq_iff_eq,bne_iff_ne,decide_eq_true_eq,not_and,ne_eq,Decidable.not_not] at h5 h6 h7 h8 h9 h10;refine⟨hk,hf,fun h=>?_,by omega,fun h=>⟨?_,?_⟩,fun h=>?_,by omega,?_,?_,?_,?_,?_,?_,?_,?_⟩
 ·have:=h5 h;omega
 ·have:=h7 h;omega
 ·have:=h8 h;omega
 ·have:=h9 h;omega
 ·rintro(h|h) x hx<;>
  ·rw[QC,if_neg Q3,if_neg Q3,if_neg Q3,if_neg Q3,if_neg Q3,if_neg Q3,if_neg Q3] at hr
   have h2:r.parts.any (fun x=>!(inB x 0 ((n:Int) - 1)))=false:=by simpa using hr
   have:=List.any_eq_false.1 h2 x hx;have:=QY.1 (by simpa using this);omega
 ·rintro(h|h)
  ·rw[QC,if_neg Q3,if_neg Q3,if_neg Q3,if_neg Q3,if_neg Q3,if_pos h,Bool.and_eq_true,QY,QY] at hr
   omega
  ·rw[QC,if_neg Q3,if_neg Q3,if_neg Q3,if_neg Q3,if_neg Q3,if_neg Q3,if_pos h,QY] at hr
   omega
 ·rintro(h|h)
  ·rw[QC,if_neg Q3,if_neg Q3,if_neg Q3,if_neg Q3,if_neg Q3,if_pos h,Bool.and_eq_true,QY,QY] at hr
   omega
  ·rw[QC,if_neg Q3,if_neg Q3,if_neg Q3,if_neg Q3,if_pos h,Bool.and_eq_true,QY,QY] at hr
   omega
 ·intro h;rw[QC,if_pos h,Bool.and_eq_true,Bool.and_eq_true,QY,QY,decide_eq_true_eq] at hr;exact⟨hr.1.1,hr.1.2,hr.2.1.1,hr.2.1.2,hr.2.2⟩
 ·intro h;rw[QC,if_neg Q3,if_pos h,Bool.and_eq_true,Bool.and_eq_true,QY,QY] at hr;refine⟨hr.1.1,hr.1.2,fun h'=>?_⟩;have:=hr.2.2;rw[QY.2 h'] at this
  cases this
 ·rintro(h|h|h)
  ·rw[QC,if_neg Q3,if_pos h,Bool.and_eq_true,Bool.and_eq_true,QY,QY] at hr;exact hr.2.1
  ·rw[QC,if_neg Q3,if_neg Q3,if_neg Q3,if_pos h,Bool.and_eq_true,QY,QY] at hr;exact hr.2
  ·rw[QC,if_neg Q3,if_neg Q3,if_neg Q3,if_neg Q3,if_pos h,Bool.and_eq_true,QY,QY] at hr;exact hr.1
 ·intro h;rw[QC,if_neg Q3,if_neg Q3,if_pos h,QY] at hr;exact hr
 ·intro h;rw[QC,if_neg Q3,if_neg Q3,if_neg Q3,if_pos h,Bool.and_eq_true,QY,QY] at hr;exact hr.1
def FOk(F:List Rl):Prop:=∀(i:Nat) (r:Rl),F[i]? =some r->ROk F.length r
def bl(r:Rl):List Int:=Xx r.kind r.count r.elem r.parts
theorem Q5O(h:ROk n r):∀x∈bl r,0<=x/\x<n:=by
 intro x hx;unfold bl Xx at hx;split at hx
 ·next hk=>rw[List.mem_singleton] at hx;subst hx;exact h.count hk
 split at hx
 ·next hk=>exact h.parts (.inl hk) x (List.mem_of_mem_take hx)
 split at hx
 ·next hk=>exact h.parts (.inr hk) x hx
 split at hx
 ·next hk=>rw[List.mem_singleton] at hx;subst hx;exact h.elem (.inr hk)
 ·cases hx
theorem Q68(h:ROk n r):(bl r).length<=12:=by
 unfold bl Xx;split
 ·simp
 split
 ·have:=h.p12;rw[List.length_take]
  omega
 split
 ·exact h.p12
 split
 ·simp
 ·simp
theorem Q3k(h:F[i]? =some r):bg F i=(bl r).map Int.toNat:=by unfold bg;rw[h];rfl
theorem FOk.bd(h:FOk F):Bd F:=by
 intro i x hx;cases hr:F[i]? with
 |none=>unfold bg at hx;rw[hr] at hx;cases hx
 |some r=>
  rw[Q3k hr,List.mem_map] at hx;obtain⟨y,hy,rfl⟩:=hx;have:=Q5O (h i r hr) y hy;omega
def XM(l:List Bool):List Value:=l.map .bool
theorem Y0{l:List Bool}(h:i<l.length):(XM l)[i]? =some (.bool (l.getD i false)):=by
 unfold XM;rw[List.getElem?_map,List.getElem?_eq_getElem h,List.getD_eq_getElem?_getD,List.getElem?_eq_getElem h];rfl
theorem Q0V(l:List Bool)(i:Nat)(b:Bool):(XM l).set i (.bool b)=XM (l.set i b):=by
 unfold XM;rw[List.map_set]
theorem QgG(n:Nat):(Go.madeCells #[.bool false] (n*1)).toList=XM (List.replicate n false):=by
 refine List.ext_getElem? fun i=>?_;unfold XM Go.madeCells;rw[List.getElem?_map];by_cases h:i<n
 ·simp [h,Nat.mod_one]
 ·simp [h]
def Q1l(F:List Rl)(k:Nat):Bool:=(Zi F k).getD k false
theorem Q3m(hb:Bd F)(hk:k<F.length):Q1l F k=true↔Rch F k k:=JW hb hk k
structure Cy where
 seen:List Bool
 qs:List Int
 b:Nat
 q:Nat
 c:Nat
 cur:List Value
def VC(s:Cy)(n:Nat):Nat:=cnt (fun i=>!(s.seen.getD i false)) n
structure CyP(F:List Rl)(k:Nat)(s:Cy):Prop where
 len:s.seen.length=F.length
 win:Q56 s.q s.qs.length s.c s.cur (iv s.qs)
 inn:∀x∈s.qs,0<=x/\x<F.length
 sound:∀x∈s.qs,Rch F k x.toNat
 start:∀x∈bg F k,s.seen.getD x false=true\/(x:Int)∈s.qs
 closed:∀i,s.seen.getD i false=true->∀x∈bg F i,s.seen.getD x false=true\/(x:Int)∈s.qs
 notk:s.seen.getD k false=false
 small:13*VC s F.length+s.qs.length<=13*F.length+12
theorem CyP.old{s:Cy}(h:CyP F k s)(hq:s.qs=x::t)(hx:s.seen.getD x.toNat false=true)(hxn:0<=x)(hw:Q56 q' t.length c' s.cur (iv t)):CyP F k { s with qs:=t,q:=q',c:=c' }:=by
 have hmem:∀y:Nat,(y:Int)∈s.qs->s.seen.getD y false=true\/(y:Int)∈t:=by
  intro y hy;rw[hq] at hy;rcases List.mem_cons.1 hy with e|e
  ·left;rw[<- e] at hx;simpa using hx
  ·exact .inr e
 refine⟨h.len,hw,fun y hy=>h.inn y (by rw[hq];exact List.mem_cons_of_mem _ hy),fun y hy=>h.sound y (by rw[hq];exact List.mem_cons_of_mem _ hy),?_,?_,h.notk,?_⟩
 ·intro y hy
  rcases h.start y hy with h1|h1
  ·exact .inl h1
  ·exact hmem y h1
 ·intro i hi y hy
  rcases h.closed i hi y hy with h1|h1
  ·exact .inl h1
  ·exact hmem y h1
 ·have h1:=h.small;rw[hq] at h1
  simp only[List.length_cons] at h1;show 13*VC s F.length+t.length<=_;omega
theorem CyP.new(hF:FOk F){s:Cy}(h:CyP F k s)(hq:s.qs=x::t)(hr:F[x.toNat]? =some r)(hx:s.seen.getD x.toNat false=false)(hne:x≠(k:Int)){b':Nat}{cur':List Value}(hw:Q56 q' (t++bl r).length c' cur' (iv (t++bl r))):
  CyP F k { seen:=s.seen.set x.toNat true,qs:=t++bl r,b:=b',q:=q',c:=c',cur:=cur' }/\13*VC { seen:=s.seen.set x.toNat true,qs:=t++bl r,b:=b',q:=q',c:=c',cur:=cur' } F.length+(t++bl r).length<13*VC s F.length+s.qs.length:=by
 have hxi:=h.inn x (by rw[hq];exact List.mem_cons_self);have hxl:x.toNat<s.seen.length:=by rw[h.len];omega
 have hset:∀i,(s.seen.set x.toNat true).getD i false=if i=x.toNat then true else s.seen.getD i false:=fun i=>XF _ _ _ _ hxl;have hbl:=Q68 (hF _ _ hr);have hlt:VC { seen:=s.seen.set x.toNat true,qs:=t++bl r,b:=b',q:=q',c:=c',cur:=cur' } F.length<VC s F.length:=by
  refine Q7o F.length (fun i hi hh=>?_) ⟨x.toNat,by omega,?_,?_⟩
  ·show (!(s.seen.getD i false))=true
   have hh':(!((s.seen.set x.toNat true).getD i false))=true:=hh;rw[hset] at hh';split at hh'
   ·cases hh'
   ·exact hh'
  ·show (!((s.seen.set x.toNat true).getD x.toNat false))=false
   rw[hset,if_pos rfl];rfl
  ·show (!(s.seen.getD x.toNat false))=true
   rw[hx];rfl
 have hm:13*VC { seen:=s.seen.set x.toNat true,qs:=t++bl r,b:=b',q:=q',c:=c',cur:=cur' } F.length+(t++bl r).length<13*VC s F.length+s.qs.length:=by
  rw[hq,List.length_append,List.length_cons];omega
 refine⟨⟨by simp [h.len],hw,?_,?_,?_,?_,?_,?_⟩,hm⟩
 ·intro y hy
  rcases List.mem_append.1 hy with e|e
  ·exact h.inn y (by rw[hq];exact List.mem_cons_of_mem _ e)
  ·exact Q5O (hF _ _ hr) y e
 ·intro y hy
  rcases List.mem_append.1 hy with e|e
  ·exact h.sound y (by rw[hq];exact List.mem_cons_of_mem _ e)
  ·refine .more (h.sound x (by rw[hq];exact List.mem_cons_self)) ?_;rw[Q3k hr];exact List.mem_map_of_mem e
 ·intro y hy;rw[hset]
  split
  ·exact .inl rfl
  ·next hyx=>
   rcases h.start y hy with h1|h1
   ·exact .inl h1
   ·rw[hq] at h1
    rcases List.mem_cons.1 h1 with e|e
    ·exact absurd Q3 hyx
    ·exact .inr (List.mem_append_left _ e)
 ·intro i hi y hy;rw[hset] at hi ⊢
  split
  ·exact .inl rfl
  ·next hyx=>
   split at hi
   ·next hix=>
    subst hix;right;rw[Q3k hr,List.mem_map] at hy;obtain⟨z,hz,rfl⟩:=hy;have:=Q5O (hF _ _ hr) z hz;rw[show ((z.toNat:Nat):Int)=z by omega];exact List.mem_append_right _ hz
   ·rcases h.closed i hi y hy with h1|h1
    ·exact .inl h1
    ·rw[hq] at h1
     rcases List.mem_cons.1 h1 with e|e
     ·exact absurd Q3 hyx
     ·exact .inr (List.mem_append_left _ e)
 ·rw[hset,if_neg Q3];exact h.notk
 ·have:=h.small
  show 13*VC _ F.length+(t++bl r).length<=_;omega
theorem CyP.done(hF:FOk F)(hk:k<F.length){s:Cy}(h:CyP F k s)(hq:s.qs=[]):Q1l F k=false:=by
 cases hc:Q1l F k with
 |false=>rfl
 |true=>
  exfalso;have hr:=(Q3m hF.bd hk).1 hc;have hall:∀j,Rch F k j->s.seen.getD j false=true:=by
   intro j hj;induction hj with
   |one h'=>
    rcases h.start _ h' with h1|h1
    ·exact h1
    ·rw[hq] at h1;cases h1
   |more _ h' ih=>
    rcases h.closed _ ih _ h' with h1|h1
    ·exact h1
    ·rw[hq] at h1;cases h1
  have:=hall k hr;rw[h.notk] at this;cases this
end
section
variable {A Ab An Ap:Option Addr}{F:List Rl}{W:World}{bs c cb cn cp g gf h n:Nat}{out:List Bool}{r:Rl}{x:Int}
def Qbl(F:List Rl)(x:Int):Int:=match F[x.toNat]? with|some r=>r.mn|none=>0
theorem QhI(h:F[x.toNat]? =some r):Qbl F x=r.mn:=by unfold Qbl;rw[h]
def mk(out:List Bool)(x:Int):Bool:=out.getD x.toNat false
def JO(F:List Rl)(out:List Bool)(r:Rl):Bool:=
 if r.kind=10 then mk out r.count
 else if r.kind=6 then mk out r.count&&(Qbl F r.count==0||mk out r.elem)
 else if r.kind=7 then !(r.parts.any fun k=>!(mk out k))
 else if r.kind=8 then r.parts.any fun k=>mk out k
 else true
def Zb(F:List Rl)(out:List Bool)(k:Nat):List Bool:=out.set k (out.getD k false||(match F[k]? with|some r=>JO F out r|none=>false))
def Zo(F:List Rl)(out:List Bool):List Bool:=(List.range F.length).foldl (Zb F) out
def Zn(F:List Rl):List Bool:=iter (Zo F) F.length (List.replicate F.length false)
structure QfE(w:World)(g bs n:Nat)(out:List Bool):Prop where
 v:w.cell? ⟨g,0,none⟩=some (.slice (some ⟨bs,0,none⟩) n n)
 at_:∀j,j<n->w.cell? ⟨bs,0+j,none⟩=some (.bool (out.getD j false))
theorem QfE.on{w w':World}(h:QfE w g bs n out)(hb:Below w.heap.size w w'):QfE w' g bs n out:=
 ⟨(hb.cell (Q0u h.v)).trans h.v,fun j hj=>(hb.cell (Q0u (h.at_ j hj))).trans (h.at_ j hj)⟩
theorem Q6C(h:QfE W g bs n out)(hx:0<=x/\x<n):Calls Tryz.prog 152 #[.int .i64 x,.pointer (some ⟨g,0,none⟩)] W fun e w'=>e=.returned (.bool (mk out x))/\Below W.heap.size W w':=by
 have hv:=h.v;have hc:=h.at_ x.toNat Q3;clear h;go_enter Tryz.func152,Tryz.ntmps152;refine Qs (M:=[]) (W:=W) (N:=8) (E:=[(0,.int .i64 x),(1,.pointer Q54)]) (O:=[]) ?_ mc3 QV;repeat(first|refine Q4 zM ?_|refine Q4 zA ?_|refine Q4 zC ?_|refine Q4 Qml ?_|refine Qe ?_|refine Qa ?_|refine Q6 ?_|refine QB ?_)
 exact Q1P
theorem Qvj(a b:Value):(#[a]++#[b]:Array Value)=#[a,b]:=by simp
theorem Qvq(a b c:Value):(#[a]++#[b,c]:Array Value)=#[a,b,c]:=by simp
theorem Q5w(h:QfE W g bs n out)(hx:0<=x/\x<n):Calls Tryz.prog 152 ([Value.int .i64 x].toArray++#[.pointer (some ⟨g,0,none⟩)]) W fun e w'=>e=.returned (.bool (mk out x))/\Below W.heap.size W w':=by
 rw[show ([Value.int .i64 x].toArray++#[.pointer (some ⟨g,0,none⟩)]:Array Value)=_ from Qvj _ _];exact Q6C h hx
theorem Qfc(hh:W.cell? ⟨h,0,none⟩=some (.func (.func 152) #[] #[.pointer (some ⟨g,0,none⟩)]))(ho:QfE W g bs n out)(hx:0<=x/\x<n):Calls Tryz.prog 155 #[.int .i64 x,.pointer (some ⟨h,0,none⟩)] W fun e w'=>e=.returned (.bool (!(mk out x)))/\Below W.heap.size W w':=by
 have HO:=Q2 ho;clear ho;go_enter Tryz.func155,Tryz.ntmps155;refine Qs (M:=[]) (W:=W) (N:=8) (E:=[(0,.int .i64 x),(1,.pointer (some ⟨h,0,none⟩))]) (O:=[]) ?_ mc3 QV;repeat(first|refine Q4 zM ?_|refine Q4 zA ?_|refine Q4 zC ?_|refine Q4 (VN (f:=152) rfl rfl Q1 rfl rfl rfl (fun w hw=>Q5w (HO.out.on hw.k.below) hx)) ?_|refine Qe ?_|refine Qa ?_|refine Q6 ?_|refine QB ?_|refine Q4 zO ?_)
 exact Q1P
theorem Qc2:Q10 152:=fun args W=>by kernel_rfl
theorem Qab:Q10 155:=fun args W=>by kernel_rfl
structure Qbo(w:World)(h g bs n:Nat)(out:List Bool)(gf:Nat)(A:Option Addr)(c:Nat):Prop where
 o:QfE w g bs n out
 h:w.cell? ⟨h,0,none⟩=some (.func (.func 152) #[] #[.pointer (some ⟨g,0,none⟩)])
 f:w.cell? ⟨gf,0,none⟩=some (.slice A n c)
theorem QuN(hv:Qbo W h g bs n out gf A c)(hf:QX W W.heap.size A n F)(hl:RuL W r Ab cb An cn Ap cp)(hr:ROk n r)(hk:r.kind=10):
  Calls Tryz.prog 153 #[.agg (ruC r (.slice Ab r.bs.length cb) (.slice An r.names.length cn) (.slice Ap r.parts.length cp)).toArray,.pointer (some ⟨h,0,none⟩),.pointer (some ⟨gf,0,none⟩)] W fun e w'=>e=.returned (.bool (JO F out r))/\Below W.heap.size W w':=by
 have hh:=hv.h;have hff:=hv.f;have HO:=Q2 hv.o;have HL:=Q2 hl;have HR:=Q2 hr;have hp12:=hr.p12;have hcn:=hr.count (.inr hk);clear hv hl hr;go_enter Tryz.func153,Tryz.ntmps153;refine Qs (M:=[]) (W:=W) (N:=48) (E:=QcA) (O:=[]) ?_ Z0 QV;repeat(first|refine Q4 zA ?_|refine Q4 zF ?_|refine Q4 (zB 0) ?_|refine Q4 zC ?_|refine yB fun br=>?_|refine Q4 (VN (f:=152) rfl rfl Q1 rfl rfl rfl (fun w hw=>Q5w (HO.out.on hw.k.below) hcn)) ?_|refine Qe ?_|refine Qa ?_|refine Q6 ?_|refine Q9 rfl ?_|refine QB ?_|refine Qh ?_|refine Qm ?_|refine Qu ?_|refine Q4 zet ?_)
 exact Q7 mc4 rfl (.tmp rfl) (fun w hw=>⟨by rw[JO,if_pos hk],hw.k.below⟩)
theorem Qvw(hv:Qbo W h g bs n out gf A c)(hf:QX W W.heap.size A n F)(hl:RuL W r Ab cb An cn Ap cp)(hr:ROk n r)(hk:r.kind=6):
  Calls Tryz.prog 153 #[.agg (ruC r (.slice Ab r.bs.length cb) (.slice An r.names.length cn) (.slice Ap r.parts.length cp)).toArray,.pointer (some ⟨h,0,none⟩),.pointer (some ⟨gf,0,none⟩)] W fun e w'=>e=.returned (.bool (JO F out r))/\Below W.heap.size W w':=by
 have hh:=hv.h;have hff:=hv.f;have HO:=Q2 hv.o;have HL:=Q2 hl;have HR:=Q2 hr;have hp12:=hr.p12;have hcn:=hr.count (.inl hk);have hen:=hr.elem (.inl hk);have hlen:=hf.1;obtain⟨b,o,rfl⟩:=hf.addr Q3;obtain⟨rc,Ac,cc,Ad,cd,Ae,ce,hrc,hrg,_⟩:=hf.rl (i:=r.count.toNat) Q3;have HM:=Q2 (QhI hrc);clear hrc hf hlen;obtain⟨B,hB⟩:∃B,JO F out r=B:=⟨_,rfl⟩;have HB:=Q2 (show (mk out r.count&&(Qbl F r.count==0||mk out r.elem))=B by rw[<- hB,JO,if_neg Q3,if_pos hk]);rw[hB];clear hB;obtain⟨h1,hh1⟩:∃x,mk out r.count=x:=⟨_,rfl⟩;obtain⟨h3,hh3⟩:∃x,mk out r.elem=x:=⟨_,rfl⟩;have H1:=Q2 hh1;have H3:=Q2 hh3;clear hh1 hh3;clear hv hl hr;go_enter Tryz.func153,Tryz.ntmps153;refine Qs (M:=[]) (W:=W) (N:=48) (E:=QcA) (O:=[]) ?_ Z0 QV;cases h1 with
 |false=>
  repeat(first|refine Q4 zM ?_|refine Q4 zA ?_|refine Q4 zF ?_|refine Q4 zS ?_|refine Q4 (zB 0) ?_|refine Q4 zC ?_|refine yB fun br=>?_|refine Q4 (VN (v:=.bool false) (f:=152) rfl rfl Q1 rfl rfl rfl Qrq) ?_|refine Qe ?_|refine Qa ?_|refine Q6 ?_|refine Q9 rfl ?_|refine Q8 rfl ?_|refine QB ?_|refine Qh ?_|refine Qm ?_|refine Qu ?_|refine Q4 zet ?_|refine Q4 zef ?_|refine Q4 zN ?_)
  exact Q7 mc4 rfl (.tmp rfl) (fun w hw=>⟨by rw[<- HB.out,H1.out];rfl,hw.k.below⟩)
 |true=>
  by_cases hm:rc.mn=0
  ·skip
   repeat(first|refine Q4 zM ?_|refine Q4 zA ?_|refine Q4 zF ?_|refine Q4 zS ?_|refine Q4 (zB 0) ?_|refine Q4 zC ?_|refine Q4 (zD 0) ?_|refine Q4 zE ?_|refine yB fun br=>?_|refine Q4 Qsf ?_|refine Q4 QjQ ?_|refine Q4 QmT ?_|refine Qe ?_|refine Qa ?_|refine Q6 ?_|refine Q9 rfl ?_|refine Q8 rfl ?_|refine QB ?_|refine Qh ?_|refine Qm ?_|refine Qu ?_|refine Q4 zet ?_|refine Q4 zef ?_|refine Q4 zY ?_)
   exact Q7 mc4 rfl (.tmp rfl) (fun w hw=>⟨by rw[<- HB.out,H1.out,HM.out,hm];rfl,hw.k.below⟩)
  ·skip
   repeat(first|refine Q4 zM ?_|refine Q4 zA ?_|refine Q4 zF ?_|refine Q4 (zB 0) ?_|refine Q4 zC ?_|refine Q4 (zD 0) ?_|refine Q4 zE ?_|refine yB fun br=>?_|refine Q4 Qsf ?_|refine Q4 QjQ ?_|refine Q4 (VN (v:=.bool h3) (f:=152) rfl rfl Q1 rfl rfl rfl (fun w hw=>(Q5w (HO.out.on hw.k.below) hen).mono fun e w' hq=>⟨by rw[hq.1,H3.out],hq.2⟩)) ?_|refine Q4 QmT ?_|refine Qe ?_|refine Qa ?_|refine Q6 ?_|refine Q9 rfl ?_|refine Q8 rfl ?_|refine QB ?_|refine Qh ?_|refine Qm ?_|refine Qu ?_|refine Q4 zet ?_|refine Q4 zef ?_|refine Q4 zY ?_|refine Q4 zN ?_)
   exact Q7 mc4 rfl (.tmp rfl) (fun w hw=>⟨by rw[<- HB.out,H1.out,H3.out,HM.out];simp [hm],hw.k.below⟩)
theorem QvV(hv:Qbo W h g bs n out gf A c)(hf:QX W W.heap.size A n F)(hl:RuL W r Ab cb An cn Ap cp)(hr:ROk n r)(hk:r.kind=7):
  Calls Tryz.prog 153 #[.agg (ruC r (.slice Ab r.bs.length cb) (.slice An r.names.length cn) (.slice Ap r.parts.length cp)).toArray,.pointer (some ⟨h,0,none⟩),.pointer (some ⟨gf,0,none⟩)] W fun e w'=>e=.returned (.bool (JO F out r))/\Below W.heap.size W w':=by
 have hh:=hv.h;have hff:=hv.f;have HO:=Q2 hv.o;have HL:=Q2 hl;have HR:=Q2 hr;have hp12:=hr.p12;have HP:=Q2 (hr.parts (.inl hk));clear hv hl hr;go_enter Tryz.func153,Tryz.ntmps153;refine Qs (M:=[]) (W:=W) (N:=48) (E:=QcA) (O:=[]) ?_ Z0 QV;repeat(first|refine Q4 zA ?_|refine Q4 zF ?_|refine Q4 (zB 0) ?_|refine Q4 zC ?_|refine yB fun br=>?_|refine Q4 (Qj (f:=154) rfl rfl Q1 rfl rfl (fun w hw=>Zt (p:=fun k=>!(mk out k)) (HL.out.on hw.k.below).p Q3 (fun x y hx=>Qfc (y.b.cell (Q0u (hw.k.below.cell (Q0u hh) |>.trans hh)) |>.trans (hw.k.below.cell (Q0u hh) |>.trans hh)) ((HO.out.on hw.k.below).on y.b) (HP.out x hx)) Qab)) ?_|refine Qe ?_|refine Qa ?_|refine Q6 ?_|refine Q9 rfl ?_|refine Q8 rfl ?_|refine QB ?_|refine Qh ?_|refine Qm ?_|refine Qu ?_|refine Q4 zet ?_|refine Q4 zef ?_|refine Q4 zO ?_|refine Q4 zu ?_)
 exact Q7 mc4 rfl (.tmp rfl) (fun w hw=>⟨by rw[JO,if_neg Q3,if_neg Q3,if_pos hk],hw.k.below⟩)
theorem Qw3(hv:Qbo W h g bs n out gf A c)(hf:QX W W.heap.size A n F)(hl:RuL W r Ab cb An cn Ap cp)(hr:ROk n r)(hk:r.kind=8):
  Calls Tryz.prog 153 #[.agg (ruC r (.slice Ab r.bs.length cb) (.slice An r.names.length cn) (.slice Ap r.parts.length cp)).toArray,.pointer (some ⟨h,0,none⟩),.pointer (some ⟨gf,0,none⟩)] W fun e w'=>e=.returned (.bool (JO F out r))/\Below W.heap.size W w':=by
 have hh:=hv.h;have hff:=hv.f;have HO:=Q2 hv.o;have HL:=Q2 hl;have HR:=Q2 hr;have hp12:=hr.p12;have HP:=Q2 (hr.parts (.inr hk));clear hv hl hr;go_enter Tryz.func153,Tryz.ntmps153;refine Qs (M:=[]) (W:=W) (N:=48) (E:=QcA) (O:=[]) ?_ Z0 QV;repeat(first|refine Q4 zA ?_|refine Q4 zF ?_|refine Q4 (zB 0) ?_|refine Q4 zC ?_|refine yB fun br=>?_|refine Q4 (Qj (f:=154) rfl rfl Q1 rfl rfl (fun w hw=>Zt (p:=fun k=>mk out k) (HL.out.on hw.k.below).p Q3 (fun x y hx=>Q6C ((HO.out.on hw.k.below).on y.b) (HP.out x hx)) Qc2)) ?_|refine Qe ?_|refine Qa ?_|refine Q6 ?_|refine Q9 rfl ?_|refine Q8 rfl ?_|refine QB ?_|refine Qh ?_|refine Qm ?_|refine Qu ?_|refine Q4 zet ?_|refine Q4 zef ?_)
 exact Q7 mc4 rfl (.tmp rfl) (fun w hw=>⟨by rw[JO,if_neg Q3,if_neg Q3,if_neg Q3,if_pos hk],hw.k.below⟩)
theorem QvP(hv:Qbo W h g bs n out gf A c)(hf:QX W W.heap.size A n F)(hl:RuL W r Ab cb An cn Ap cp)(hr:ROk n r)(hk:r.kind≠10/\r.kind≠6/\r.kind≠7/\r.kind≠8):
  Calls Tryz.prog 153 #[.agg (ruC r (.slice Ab r.bs.length cb) (.slice An r.names.length cn) (.slice Ap r.parts.length cp)).toArray,.pointer (some ⟨h,0,none⟩),.pointer (some ⟨gf,0,none⟩)] W fun e w'=>e=.returned (.bool (JO F out r))/\Below W.heap.size W w':=by
 have hh:=hv.h;have hff:=hv.f;have HO:=Q2 hv.o;have HL:=Q2 hl;have HR:=Q2 hr;have hp12:=hr.p12;clear hv hl hr;go_enter Tryz.func153,Tryz.ntmps153;refine Qs (M:=[]) (W:=W) (N:=48) (E:=QcA) (O:=[]) ?_ Z0 QV;repeat(first|refine Q4 zA ?_|refine Q4 zF ?_|refine Q4 (zB 0) ?_|refine Q4 zC ?_|refine yB fun br=>?_|refine Qe ?_|refine Qa ?_|refine Q6 ?_|refine Qq ?_|refine Q8 rfl ?_|refine QB ?_|refine Qh ?_|refine Q4 zef ?_)
 exact Q7 mc4 rfl (.tmp rfl) (fun w hw=>⟨by rw[JO,if_neg Q3,if_neg Q3,if_neg Q3,if_neg Q3],hw.k.below⟩)
theorem QiF(hv:Qbo W h g bs n out gf A c)(hf:QX W W.heap.size A n F)(hl:RuL W r Ab cb An cn Ap cp)(hr:ROk n r):
  Calls Tryz.prog 153 #[.agg (ruC r (.slice Ab r.bs.length cb) (.slice An r.names.length cn) (.slice Ap r.parts.length cp)).toArray,.pointer (some ⟨h,0,none⟩),.pointer (some ⟨gf,0,none⟩)] W fun e w'=>e=.returned (.bool (JO F out r))/\Below W.heap.size W w':=by
 by_cases h10:r.kind=10
 ·exact QuN hv hf hl hr h10
 by_cases h6:r.kind=6
 ·exact Qvw hv hf hl hr h6
 by_cases h7:r.kind=7
 ·exact QvV hv hf hl hr h7
 by_cases h8:r.kind=8
 ·exact Qw3 hv hf hl hr h8
 exact QvP hv hf hl hr ⟨h10,h6,h7,h8⟩
end
section
variable {A:Option Addr}{F:List Rl}{M:List Nat}{O:List Qb}{W:World}{bs c g gf h n:Nat}{out:List Bool}
theorem QJ.rfl_:QJ M W O O:=fun _ h=>h
theorem JL{P:Program}{Q:Exit->Act->World->Prop}{N:Nat}{E:Env}(T:List Nat){id:Nat}{l:List Oper}(hm:P.follows .mixedOrders=true)(h:dE P l.toArray Q N M W O T l.length (Array.replicate l.length false) E O):sE P Q N M W E O (.region id l.toArray true):=Z7 O T hm h
theorem Qdt(F:List Rl)(out:List Bool)(k:Nat):(Zb F out k).length=out.length:=by unfold Zb;rw[List.length_set]
theorem Q0C(F:List Rl):∀(l:List Nat) (out:List Bool),(l.foldl (Zb F) out).length=out.length
 |[],_=>rfl
 |k::l,out=>by rw[List.foldl_cons,Q0C F l,Qdt]
theorem Qft(F:List Rl)(out:List Bool)(k:Nat):(List.range (k+1)).foldl (Zb F) out=Zb F ((List.range k).foldl (Zb F) out) k:=by
 rw[List.range_succ,List.foldl_append];rfl
def QvA(W:World)(l:List Bool)(e:Ending)(w':World):Prop:=∃b,e=.returned (.slice (some ⟨b,0,none⟩) l.length l.length)/\W.heap.size<=b/\Rd w' w'.heap.size 1 (some ⟨b,0,none⟩) l.length (XM l)/\Below W.heap.size W w'
theorem QqB{w:World}(i1 i2 i3 i4:Nat)(hl:out.length=n)
  (h1:O[i1]? =some (.blk h (.cells [.func (.func 152) #[] #[.pointer (some ⟨g,0,none⟩)]].toArray 104 (0,0))))
  (h2:O[i2]? =some (.blk g (.cells [.slice (some ⟨bs,0,none⟩) n n].toArray 66 (0,0))))
  (h3:O[i3]? =some (.row (some ⟨bs,0,none⟩) n n 4 1 (XM out)))
  (h4:O[i4]? =some (.blk gf (.cells [.slice A n c].toArray 24 (0,0)))) (hw:Wd M W O w):Qbo w h g bs n out gf A c:=
 ⟨⟨hw.cell_blkL i2 h2 rfl,fun j hj=>by rw[Nat.zero_add];exact hw.cell_row i3 h3 (Y0 Q3)⟩,hw.cell_blkL i1 h1 rfl,hw.cell_blkL i4 h4 rfl⟩
theorem Qq8{r:Rl}{Ab An Ap:Option Addr}{cb cn cp:Nat}(hv:Qbo W h g bs n out gf A c)(hf:QX W W.heap.size A n F)(hl:RuL W r Ab cb An cn Ap cp)(hr:ROk n r):
  Calls Tryz.prog 153 ([Value.agg (ruC r (.slice Ab r.bs.length cb) (.slice An r.names.length cn) (.slice Ap r.parts.length cp)).toArray].toArray++#[.pointer (some ⟨h,0,none⟩),.pointer (some ⟨gf,0,none⟩)]) W fun e w'=>e=.returned (.bool (JO F out r))/\Below W.heap.size W w':=by
 rw[show ([Value.agg (ruC r (.slice Ab r.bs.length cb) (.slice An r.names.length cn) (.slice Ap r.parts.length cp)).toArray].toArray++#[.pointer (some ⟨h,0,none⟩),.pointer (some ⟨gf,0,none⟩)]:Array Value)=_ from Qvq _ _ _];exact QiF hv hf hl hr
abbrev fnE(bf g h n c:Nat)(A:Option Addr)(t:Nat):Env:=[(1,.pointer (some ⟨bf,0,none⟩)),(3,.pointer (some ⟨g,0,none⟩)),(5,.func (.func 153) #[] #[.pointer (some ⟨h,0,none⟩),.pointer (some ⟨bf,0,none⟩)]),(16,.int .i64 (n:Int)),(17,.int .i64 (t:Int))]
abbrev fnO(bf g h bs n c:Nat)(A:Option Addr)(out:List Bool):List Qb:=[.blk h (.cells [.func (.func 152) #[] #[.pointer (some ⟨g,0,none⟩)]].toArray 104 (0,0)),.blk g (.cells [.slice (some ⟨bs,0,none⟩) n n].toArray 66 (0,0)),.row (some ⟨bs,0,none⟩) n n 4 1 (XM out),.blk bf (.cells [.slice A n c].toArray 24 (0,0))]
theorem QaR(hf:QX W W.heap.size A n F)(hF:FOk F)(hn:n<=40)(hn0:0<n):
  Calls Tryz.prog 119 #[.agg #[.slice A n c]] W (QvA W (Zn F)):=by
 have hlen:F.length=n:=hf.1;obtain⟨b,o,rfl⟩:=hf.addr hn0;have HFM:=Q2 hf;have HF:=Q2 hF;have HLEN:=Q2 hlen;clear hf hF hlen;go_enter Tryz.func119,Tryz.ntmps119;refine Qs (M:=[]) (W:=W) (N:=42) (E:=[(0,.agg #[.slice (some ⟨b,o,none⟩) n c])]) (O:=[]) ?_ Zj (Wd.start [] W);repeat(first|refine Q4 Kc ?_|refine Q4 Q0t ?_|refine Q4 Q4C ?_|refine Q4 (Xq rfl rfl Q1 rfl rfl (by first|exact fun w hw=>hw.cell_blkL 0 rfl rfl|exact fun w hw=>hw.cell_blkL 3 rfl rfl)) ?_|refine Qc YK rfl Q1 (fun bf _=>?_)|refine Qc QmK rfl Q1 (fun bs _=>?_)|refine Qc (Q16 (t:=66) rfl rfl) rfl Q1 (fun g0 _=>?_)|refine Qc (Q16 (t:=104) rfl rfl) rfl Q1 (fun g1 _=>?_)|refine QA QkQ rfl (fun _ _=>?_)|refine Qe ?_|refine Qa ?_|refine Q6 ?_|refine Qh ?_|refine Q4 QmQ ?_|refine Q4 Qrz ?_)
 refine QN (ι:=Nat) (fun t=>t<=n) (fun t=>n - t) (fun t=>fnE bf g0 g1 n c (some ⟨b,o,none⟩) t) (fun t=>fnO bf g0 g1 bs n c (some ⟨b,o,none⟩) (iter (Zo F) t (List.replicate n false))) 0 [0,1,2,3] Q1 Ze Q0J (by show [_,_,Qb.row _ _ _ _ _ _,_]=_;rw[QgG];rfl) ?_;rintro t ht;have hL0:(iter (Zo F) t (List.replicate n false)).length=n:=by
  have:∀t,(iter (Zo F) t (List.replicate n false)).length=n:=by
   intro t;induction t with
   |zero=>exact List.length_replicate
   |succ t ih=>exact(Q0C F _ _).trans ih
  exact this t
 have HL0:=Q2 hL0;clear hL0;by_cases hlt:t<n
 ·skip
  repeat(first|refine Q4 Kc ?_|refine Q4 Q4C ?_|refine Q4 (Xq rfl rfl Q1 rfl rfl (by exact fun w hw=>hw.cell_blkL 3 rfl rfl)) ?_|refine Qe ?_|refine Qa ?_|refine Q6 ?_|refine Qq ?_|refine Q9 rfl ?_|refine Qh ?_|refine Q4 QmQ ?_|refine Q4 Qgf ?_)
  refine QN (ι:=Nat) (fun k=>k<=n) (fun k=>n - k) (fun k=>(20,.slice (some ⟨b,o,none⟩) n c)::(21,.int .i64 (n:Int))::(22,.int .i64 (k:Int))::fnE bf g0 g1 n c (some ⟨b,o,none⟩) t) (fun k=>fnO bf g0 g1 bs n c (some ⟨b,o,none⟩) ((List.range k).foldl (Zb F) (iter (Zo F) t (List.replicate n false)))) 0 [0,1,2,3] Q1 Ze (.cons rfl rfl Q1S) rfl ?_;rintro k hk;by_cases hkn:k<n
  ·obtain⟨rk,Ab,cb,An,cn,Ap,cp,hrk,hrg,hlk⟩:=HFM.out.rl hkn
   have HRK:=Q2 hrk;have HLK:=Q2 hlk;have HOK:=Q2 (show ROk n rk by have:=HF.out k rk hrk;rwa [HLEN.out] at this);obtain⟨out,hout⟩:∃out,(List.range k).foldl (Zb F) (iter (Zo F) t (List.replicate n false))=out:=⟨_,rfl⟩;have hol:out.length=n:=by rw[<- hout,Q0C,HL0.out]
   have HOUT:=Q2 hout;show sE _ _ _ _ _ _ (fnO bf g0 g1 bs n c (some ⟨b,o,none⟩) ((List.range k).foldl (Zb F) (iter (Zo F) t (List.replicate n false)))) _;rw[hout];clear hout hrk hlk;obtain⟨ok,hok⟩:∃x,out.getD k false=x:=⟨_,rfl⟩;have hcell:(XM out)[0+k]? =some (.bool ok):=by rw[Nat.zero_add,Y0 Q3,hok]
   have HK:=Q2 hok;clear hok;cases ok with
   |true=>
    repeat(first|refine Q4 Kc ?_|refine Q4 Q0t ?_|refine Q4 QlN ?_|refine Q4 QoK ?_|refine Qc Qmc rfl Q1 (fun b7 _=>?_)|(refine QA Q4a rfl (fun _ _=>?_);rw[QF (by rfl)])|refine Qe ?_|refine Qa ?_|refine Q6 ?_|refine Qq ?_|refine Q9 rfl ?_|refine Qh ?_|refine Q4 Qgf ?_)
    refine QrA ?_;refine Qn 7 rfl Q5 Xj Q7p ?_;refine Qn 8 rfl Q5 Xj Q7p ?_;refine Qn 9 rfl Q5 Xj Q7p ?_;refine Qn 10 rfl Q5 Xj QbR ?_;refine Qn 11 rfl Q5 Xj (XP rfl rfl Q1 rfl rfl rfl hkn) ?_;refine QI 12 Q5 rfl rfl (ZT 3 rfl rfl rfl rfl rfl rfl Q3) (fun _=>.inl Q1) rfl (fun _ _=>?_);refine Xu ?_ Q5;refine Qoa ?_
    refine Qlb ?_;show [_,_,Qb.row _ _ _ _ _ ((XM out).set (0+k) (.bool true)),_]=fnO bf g0 g1 bs n c (some ⟨b,o,none⟩) _;exact QmZ
   |false=>
    repeat(first|refine Q4 Kc ?_|refine Q4 Q0t ?_|refine Q4 QlN ?_|refine Q4 QoK ?_|refine Qc Qmc rfl Q1 (fun b7 _=>?_)|(refine QA Q4a rfl (fun _ _=>?_);rw[QF (by rfl)])|refine Qe ?_|refine Qa ?_|refine Q6 ?_|refine Qq ?_|refine Q9 rfl ?_|refine Qh ?_|refine Q4 Qgf ?_)
    refine QrA ?_;refine Qn 7 rfl Q5 Xj Kc ?_;refine Qn 8 rfl Q5 Xj Qm8 ?_;refine Qn 9 rfl Q5 Xj (VN (f:=153) rfl rfl Q1 rfl rfl rfl (fun w hw=>Qq8 (QqB 1 2 3 4 hol rfl rfl rfl rfl hw) KJ Q9z HOK.out)) ?_;refine Qn 10 rfl Q5 Xj QdD ?_;refine Qn 11 rfl Q5 Xj (XP rfl rfl Q1 rfl rfl rfl hkn) ?_;refine QI 12 Q5 rfl rfl (ZT 3 rfl rfl rfl rfl rfl rfl Q3) (fun _=>.inl Q1) rfl (fun _ _=>?_);refine Xu ?_ Q5;refine Qoa ?_
    refine Qlb ?_;show [_,_,Qb.row _ _ _ _ _ ((XM out).set (0+k) (.bool (JO F out rk))),_]=fnO bf g0 g1 bs n c (some ⟨b,o,none⟩) _;exact QmZ
  ·skip
   repeat(first|refine Q4 Kc ?_|refine Qe ?_|refine Qa ?_|refine Q6 ?_|refine Q8 rfl ?_|refine XS ?_|refine Q4 Qdh ?_|refine Q4 QgH ?_)
   refine Qt (t+1) [0,1,2,3] Q1 hlt Q3 Yc ?_;have hkk:k=F.length:=by rw[HLEN.out];omega
   subst hkk;rfl
 ·skip
  repeat(first|refine Q4 Q0t ?_|refine Q4 (Xq rfl rfl Q1 rfl rfl (by exact fun w hw=>hw.cell_blkL 1 rfl rfl)) ?_|refine Qe ?_|refine Qa ?_|refine Q6 ?_|refine Q8 rfl ?_|refine XS ?_|refine QB ?_|refine Q4 Qt7 ?_)
  have htn:t=F.length:=by rw[HLEN.out];omega
  refine Q7 mc4 rfl (.tmp rfl) (fun w hw=>?_);have hfl:iter (Zo F) t (List.replicate n false)=Zn F:=by unfold Zn;rw[htn,HLEN.out]
  have hln:(Zn F).length=n:=by rw[<- hfl];exact HL0.out
  refine⟨bs,by rw[hln],?_,⟨by rw[hln];simp [XM,hln],fun _=>⟨bs,0,rfl,?_,fun j u hu=>?_⟩⟩,hw.k.below⟩
  ·rcases Nat.lt_or_ge bs W.heap.size with h|h
   ·have:=hw.new 2 _ bs rfl rfl h
    exact Q2e
   ·exact h
  ·exact(hw.own 2 _ rfl).lt rfl
  ·rw[Nat.zero_add]
   refine hw.cell_row 2 rfl ?_;rw[hfl];exact hu
end
def QM(st:Nat->Bool):List Value:=(List.range 256).map fun j=>.bool (st j)
theorem X3(st:Nat->Bool):(QM st).length=256:=by simp [QM]
theorem ZD(st:Nat->Bool){j:Nat}(h:j<256):(QM st)[j]? =some (.bool (st j)):=by
 simp [QM,List.getElem?_map,List.getElem?_range h]
theorem Q0k(st:Nat->Bool)(j:Nat)(v:Bool):(QM st).set j (.bool v)=QM (fun i=>if i=j then v else st i):=by
 refine List.ext_getElem? fun i=>?_;rw[List.getElem?_set];by_cases hi:i<256
 ·rw[ZD _ hi,X3]
  by_cases hj:j=i
  ·subst hj;rw[if_pos rfl,if_pos hi,ZD _ hi,if_pos rfl]
  ·rw[if_neg hj,ZD _ hi]
   have:¬i=j:=fun e=>hj e.symm;simp [this]
 ·have h1:(QM st)[i]? =none:=List.getElem?_eq_none (by rw[X3];omega);have h2:(QM (fun i=>if i=j then v else st i))[i]? =none:=List.getElem?_eq_none (by rw[X3];omega);rw[h1,h2,X3]
  split
  ·rw[if_neg Q3]
  ·rfl
def Zl(st:Nat->Bool)(lo hi:Int):Nat->Bool:=fun j=>st j||decide (lo+((j:Int) - lo) % 256<=hi)
theorem ZO{s t:Nat->Bool}(h:∀j,j<256->s j=t j):QM s=QM t:=by
 unfold QM;exact List.map_congr_left fun j hj=>by rw[h j (List.mem_range.1 hj)]
theorem QjC(st:Nat->Bool)(lo c:Int)(h:lo<=c)(h0:0<=lo):(QM (Zl st lo (c - 1))).set (c % 256).toNat (.bool true)=QM (Zl st lo c):=by
 rw[Q0k];refine ZO fun j hj=>?_;unfold Zl;by_cases he:j=(c % 256).toNat
 ·rw[if_pos he,decide_eq_true Q3,Bool.or_true]
 ·rw[if_neg he]
  congr 1;rw[decide_eq_decide];omega
theorem QiB(st:Nat->Bool)(lo:Int):QM (Zl st lo (lo - 1))=QM st:=
 ZO fun j hj=>by
  unfold Zl;rw[decide_eq_false Q3,Bool.or_false]
theorem Qlt(st:Nat->Bool)(lo hi:Int)(h:hi<lo):QM (Zl st lo (lo - 1))=QM (Zl st lo hi):=
 ZO fun j hj=>by
  unfold Zl;rw[decide_eq_false Q3,decide_eq_false Q3]
theorem QuH(c:Int)(h:0<=c)(w:World):(Op.intDiv .rem .i64 c 256).run Tryz.prog w=.ok (.int .i64 (((c % 256).toNat:Nat):Int)) w:=by
 have e:(((c % 256).toNat:Nat):Int)=c % 256:=by omega
 rw[e];simp [Op.intDiv,go_sem];exact IntWalk.rem_in c 256 h
theorem QeN{st:Nat->Bool}{b:Nat}{lo hi:Int}{W:World}(hb:W.heap[b]? =some (.cells (QM st).toArray 92 (0,0)))(h0:0<=lo)(h1:hi<=1099511627776)(h2:lo<=1099511627776):
  Calls Tryz.prog 141 #[.int .i64 lo,.int .i64 hi,.pointer (some ⟨b,0,none⟩)] W fun e w'=>e=.returned (.tuple #[])/\w'.heap[b]? =some (.cells (QM (Zl st lo hi)).toArray 92 (0,0))/\Xz [b] W w':=by
 go_enter Tryz.func141,Tryz.ntmps141;refine Qs (M:=[b]) (W:=W) (N:=15) (E:=[(0,.int .i64 lo),(1,.int .i64 hi),(2,.pointer Q09)]) (O:=[.blk b (.cells (QM st).toArray 92 (0,0))]) ?_ Z0 ((Wd.start [b] W).add hb (fun b' h _=>by cases h;exact List.mem_singleton.2 rfl) (fun i x b' h=>by cases h));repeat(first|refine Qe ?_|refine Qa ?_|refine Q6 ?_|refine Qh ?_|refine Q4 zM ?_|refine Q4 zA ?_)
 refine QN (ι:=Int) (fun c=>lo<=c/\(c<=hi+1\/c=lo)) (fun c=>(hi+1 - c).toNat) (fun c=>[(5,.int .i64 c),(1,.int .i64 hi),(2,.pointer Q09)]) (fun c=>[.blk b (.cells (QM (Zl st lo (c - 1))).toArray 92 (0,0))]) lo [0] Q1 ⟨by omega,by omega⟩ J9 (by rw[QiB];rfl) ?_;rintro c ⟨h3,h4⟩;by_cases hc:c<=hi
 ·skip
  repeat(first|(refine Q4 (Q0K (v:=.int .i64 (((c % 256).toNat:Nat):Int)) rfl rfl Q1 rfl rfl rfl (fun w=>by rw[binOp_rem];exact QuH c Q3 w)) ?_)|refine Q4 (Ji (j:=(c % 256).toNat) rfl rfl Q1 rfl rfl rfl Q3) ?_|refine QA (V9 0 rfl rfl rfl rfl rfl rfl (ZD _ (show 0+(c % 256).toNat*1<256 by omega))) rfl (fun _ _=>?_)|refine Qe ?_|refine Qa ?_|refine Q6 ?_|refine Qq ?_|refine Q9 rfl ?_|refine Qh ?_|refine Q4 zM ?_|refine Q4 zA ?_|refine Q4 (Q6P (b:=true) rfl rfl Q1 rfl rfl rfl (decide_eq_true Q3)) ?_|refine Q4 zP ?_)
  refine Qt (c+1) [0] Q1 ⟨by omega,by omega⟩ Q3 J9 ?_;show [Qb.blk b (.cells ((QM (Zl st lo (c - 1))).set (0+(c % 256).toNat*1) (.bool true)).toArray 92 (0,0))]=_;rw[Nat.zero_add,Nat.mul_one,QjC st lo c h3 h0,Int.add_sub_cancel]
 ·skip
  repeat(first|refine Qe ?_|refine Qa ?_|refine Q6 ?_|refine Q8 rfl ?_|refine XS ?_|refine Q4t ?_|refine Q4s ?_|refine Q4 zM ?_|refine Q4 (Q6P (b:=false) rfl rfl Q1 rfl rfl rfl (decide_eq_false Q3)) ?_)
  refine Zc (.inl rfl) rfl (fun w hw=>⟨rfl,?_,hw.k⟩);have h:w.heap[b]? =some (.cells (QM (Zl st lo (c - 1))).toArray 92 (0,0)):=hw.own 0 _ rfl;rw[h];congr 3;by_cases hcl:c=hi+1
  ·rw[hcl,Int.add_sub_cancel]
  ·obtain rfl:c=lo:=by omega
   rw[Qlt st c hi Q3]
section
variable {Ab:Option Addr}{O:List Qb}{W w:World}{a0 a10 a11 a8 a9:Value}{big:Bool}{bs:List UInt8}{cb n nb:Nat}{cs:List Value}{m mn mx size stop:Int}{st:Nat->Bool}
instance iXFsB_1:VM Tryz.prog 92 (QM (fun _=>false)):=⟨.agg (QM (fun _=>false)).toArray,by kernel_rfl,rfl⟩
theorem Qp8{us:List Value}(h:us.length=cs.length):Zq cs 0 us=us:=by
 refine List.ext_getElem? fun i=>?_;rw[VZ];split
 ·rw[Nat.sub_zero]
 ·next hn=>
  rw[List.getElem?_eq_none Q3,List.getElem?_eq_none Q3]
theorem Qni(st:Nat->Bool):(QM st).all (·.oneCell')=true:=by
 rw[List.all_eq_true];intro v hv;simp only[QM,List.mem_map] at hv;obtain⟨j,_,rfl⟩:=hv;rfl
def noS:Nat->Bool:=fun _=>false
def Q2p(k:Int)(bs:List UInt8)(size:Int)(big:Bool)(mn mx stop:Int):Nat->Bool:=
 if k=1 then fun j=>j==(bs.headD 0).toNat
 else if k=2 then (if big then Zl noS (mn / 2 ^ (8*(size - 1)).toNat) (mx / 2 ^ (8*(size - 1)).toNat) else Zl noS mn (min mx (mn+256 - 1)))
 else if k=3 then Zl noS 48 (48+min mx 9)
 else if k=4 then Zl noS 0 255
 else if k=5 then (if 0<size then Zl noS 0 255 else fun j=>decide ((j:Int)=stop))
 else if k=9 then fun j=>decide ((j:Int)=stop)
 else noS
theorem Qqx(h:0<=m):0<=m / 2 ^ n:=Int.ediv_nonneg h (Int.pow_nonneg Q1)
theorem Qkb(h:0<=m/\m<=4294967295):m / 2 ^ n<=1099511627776:=by
 have h1:m / 2 ^ n<=m:=Int.ediv_le_self _ h.1;omega
def JC(W:World)(st:Nat->Bool)(e:Ending)(w':World):Prop:=e=.returned (.agg (QM st).toArray)/\Below W.heap.size W w'
theorem Je{st':Nat->Bool}(hc:cs.length=256)(hs:QM st'=QM st)(hw:Wd [] W O w):JC W st (.returned (.agg (Zq cs 0 (QM st')).toArray)) w:=
 ⟨by rw[Qp8 (by rw[X3,hc]),hs],hw.k.below⟩
theorem QgM{M:List Nat}{i b:Nat}{lo hi:Int}(hO:O[i]? =some (.blk b (.cells (QM st).toArray 92 (0,0))))(h0:0<=lo)(h1:hi<=1099511627776)(h2:lo<=1099511627776)(hw:Wd M W O w):
  Calls Tryz.prog 141 (#[.int .i64 lo,.int .i64 hi]++#[.pointer (some ⟨b,0,none⟩)]) w (Xo (fun _:Unit=>.tuple #[]) (fun _=>True) M W (fun _=>O.set i (.blk b (.cells (QM (Zl st lo hi)).toArray 92 (0,0))))):=
 (QeN (hw.blk0 hO) h0 h1 h2).mono fun e w' ⟨he,hb,hk⟩=>⟨(),he,trivial,hw.keep1 hO hk hb⟩
theorem QvO(W:World)(hb:Rd W W.heap.size 1 Ab nb (bv bs))(hn:0<nb):
  Calls Tryz.prog 96 #[.agg #[a0,.int .i64 1,.slice Ab nb cb,.int .i64 size,.bool big,.int .i64 mn,.int .i64 mx,.int .i64 stop,a8,a9,a10,a11]] W (JC W (Q2p 1 bs size big mn mx stop)):=by
 go_enter Tryz.func96,Tryz.ntmps96;refine Qs (M:=[]) (W:=W) (N:=84) (E:=[(0,.agg #[a0,.int .i64 1,.slice Ab nb cb,.int .i64 size,.bool big,.int .i64 mn,.int .i64 mx,.int .i64 stop,a8,a9,a10,a11])]) (O:=[]) ?_ Zj QV;repeat(first|refine Q4 zA ?_|refine Q4 zF ?_|refine Q4 (zB 2) ?_|refine yB fun br=>?_|refine yA fun b2=>?_|refine Qe ?_|refine Qa ?_|refine Q6 ?_|refine Q9 rfl ?_|refine Qh ?_|refine Q4 (Ja rfl rfl Q1 rfl rfl rfl (by first|exact beq_iff_eq.2 Q3|rfl)) ?_|refine Q4 zu ?_)
 obtain⟨bb,ob,u,rfl,hlt,hu,hcell⟩:=hb.at_ hn;obtain⟨c,hc⟩:∃c,bs[0]? =some c:=by
  unfold bv at hu;rw[List.getElem?_map] at hu;cases e:bs[0]? with
  |none=>rw[e] at hu;cases hu
  |some c=>exact⟨c,rfl⟩
 have hu':u=.int .u8 (c.toNat:Int):=by
  unfold bv at hu;rw[List.getElem?_map,hc] at hu;exact(Option.some.inj hu).symm
 subst hu';have hhd:bs.headD 0=c:=by cases bs with|nil=>cases hc|cons x l=>simp at hc;simpa using hc
 have hlt256:c.toNat<256:=c.toNat_lt;repeat(first|refine Q4 zC ?_|refine Q4 (zi1 (j:=0) (hj:=hn)) ?_|refine Q4 (Ji (j:=c.toNat) rfl rfl Q1 rfl rfl rfl hlt256) ?_|refine QA (V9 0 rfl rfl rfl rfl rfl rfl (ZD _ (show 0+c.toNat*1<256 by omega))) rfl (fun _ _=>?_)|refine Qe ?_|refine Qa ?_|refine Q6 ?_)
 show lE _ _ _ _ _ _ _ [Qb.blk b2 (.cells ((QM (fun _=>false)).set (0+c.toNat*1) (.bool true)).toArray 92 (0,0)),_,_] _;refine Qk7 ?_;refine QA Q5b rfl (fun _ _=>?_);refine KC ?_
 refine Q7 (.inr rfl) rfl KQ (fun w hw=>Je Q0O ?_ hw);refine ZO fun j hj=>?_;show (if j=c.toNat then true else false)=(j==(bs.headD 0).toNat);rw[hhd];by_cases h:j=c.toNat<;>simp [h]
theorem QtO{big:Bool}(W:World)(hs:1<=size/\size<=4)(hm:0<=mn/\mn<=mx/\mx<=4294967295):
  Calls Tryz.prog 96 #[.agg #[a0,.int .i64 2,.slice Ab nb cb,.int .i64 size,.bool true,.int .i64 mn,.int .i64 mx,.int .i64 stop,a8,a9,a10,a11]] W (JC W (Q2p 2 bs size true mn mx stop)):=by
 go_enter Tryz.func96,Tryz.ntmps96;refine Qs (M:=[]) (W:=W) (N:=84) (E:=[(0,.agg #[a0,.int .i64 2,.slice Ab nb cb,.int .i64 size,.bool true,.int .i64 mn,.int .i64 mx,.int .i64 stop,a8,a9,a10,a11])]) (O:=[]) ?_ Zj (Wd.start [] W);repeat(first|refine Q4 zM ?_|refine Q4 zA ?_|refine Q4 zF ?_|refine Q4 (zB 2) ?_|refine yB fun br=>?_|refine yA fun b2=>?_|refine Qe ?_|refine Qa ?_|refine Q6 ?_|refine Q9 rfl ?_|refine Q8 rfl ?_|refine Qh ?_|refine Q4 QcY ?_|refine Q4 zY ?_|refine Q4 zQ ?_|refine Q4 zu ?_)
 repeat(first|refine Q4 zA ?_|refine Q4 Q6H ?_|refine Qe ?_)
 refine Z7 [.blk br (.cells [a0,.int .i64 2,.slice Ab nb cb,.int .i64 size,.bool true,.int .i64 mn,.int .i64 mx,.int .i64 stop,a8,a9,a10,a11].toArray 65 (0,0))] [] Q5 ?_;refine Qn 0 rfl Q5 Kd zM ?_;refine Qn 1 rfl Q5 Kd zF ?_;refine Qn 2 rfl Q5 Kd (zB 0) ?_;refine Qn 3 rfl Q5 Kd zM ?_;refine Qn 4 rfl Q5 Kd (QoI rfl rfl Q1 rfl rfl rfl Q3 Q3) ?_;refine Qn 5 rfl Q5 Kd zF ?_;refine Qn 6 rfl Q5 Kd (zB 0) ?_;refine Qn 7 rfl Q5 Kd zM ?_;refine Qn 8 rfl Q5 Kd (QoI rfl rfl Q1 rfl rfl rfl Q3 Q3) ?_;refine QS 9 Q5 rfl rfl (Qa5 (fun _:Unit=>.tuple #[]) (fun _=>True) (fun _=>_) rfl rfl rfl rfl (fun w hw=>QgM (i:=0) rfl (Qqx hm.1) (Qkb Q3) (Qkb Q3) hw)) (fun _=>.inr Kd) rfl Q1 (fun _ _=>?_);refine Xu ?_ Q5;repeat(first|refine Q4 (zD 0) ?_|refine Qa ?_|refine Q6 ?_)
 refine QA Q5b rfl (fun _ _=>?_);refine KC ?_
 refine Q7 (.inr rfl) rfl KQ (fun w hw=>Je (X3 _) ?_ hw);rfl
theorem Quv{big:Bool}(W:World)(hm:0<=mn/\mn<=mx/\mx<=4294967295):
  Calls Tryz.prog 96 #[.agg #[a0,.int .i64 2,.slice Ab nb cb,.int .i64 size,.bool false,.int .i64 mn,.int .i64 mx,.int .i64 stop,a8,a9,a10,a11]] W (JC W (Q2p 2 bs size false mn mx stop)):=by
 go_enter Tryz.func96,Tryz.ntmps96;refine Qs (M:=[]) (W:=W) (N:=84) (E:=[(0,.agg #[a0,.int .i64 2,.slice Ab nb cb,.int .i64 size,.bool false,.int .i64 mn,.int .i64 mx,.int .i64 stop,a8,a9,a10,a11])]) (O:=[]) ?_ Zj QV;repeat(first|refine Q4 zM ?_|refine Q4 zA ?_|refine Q4 zF ?_|refine Q4 (zB 2) ?_|refine yB fun br=>?_|refine yA fun b2=>?_|refine Qe ?_|refine Qa ?_|refine Q6 ?_|refine Q9 rfl ?_|refine Q8 rfl ?_|refine Qh ?_|refine Q4 QcY ?_|refine Q4 zY ?_|refine Q4 zP ?_|refine Q4 zQ ?_|refine Q4 zu ?_)
 repeat(first|refine Q4 (zD 0) ?_|refine Q4 Qsl ?_|refine Qc QgV rfl Q1 (fun _ _=>?_)|refine Qe ?_|refine Qa ?_|refine Q6 ?_)
 refine QA Q5b rfl (fun _ _=>?_);refine KC ?_
 refine Q7 (.inr rfl) rfl KQ (fun w hw=>Je Q0O ?_ hw);rfl
theorem Qvr(W:World)(hm:0<=mx/\mx<=999999999):
  Calls Tryz.prog 96 #[.agg #[a0,.int .i64 3,.slice Ab nb cb,.int .i64 size,.bool big,.int .i64 mn,.int .i64 mx,.int .i64 stop,a8,a9,a10,a11]] W (JC W (Q2p 3 bs size big mn mx stop)):=by
 go_enter Tryz.func96,Tryz.ntmps96;refine Qs (M:=[]) (W:=W) (N:=84) (E:=[(0,.agg #[a0,.int .i64 3,.slice Ab nb cb,.int .i64 size,.bool big,.int .i64 mn,.int .i64 mx,.int .i64 stop,a8,a9,a10,a11])]) (O:=[]) ?_ Zj QV;repeat(first|refine Q4 zM ?_|refine Q4 zA ?_|refine Q4 zF ?_|refine Q4 (zB 2) ?_|refine yB fun br=>?_|refine yA fun b2=>?_|refine Qe ?_|refine Qa ?_|refine Q6 ?_|refine Q9 rfl ?_|refine Q8 rfl ?_|refine Qh ?_|refine Q4 QcY ?_|refine Q4 zN ?_|refine Q4 zu ?_|refine Q4 zS ?_)
 repeat(first|refine Q4 (zD 0) ?_|refine Q4 Qsl ?_|refine Qc QgV rfl Q1 (fun _ _=>?_)|refine Qe ?_|refine Qa ?_|refine Q6 ?_|refine Q4 zP ?_)
 refine QA Q5b rfl (fun _ _=>?_);refine KC ?_
 refine Q7 (.inr rfl) rfl KQ (fun w hw=>Je Q0O ?_ hw);rfl
theorem QvS(W:World):
  Calls Tryz.prog 96 #[.agg #[a0,.int .i64 4,.slice Ab nb cb,.int .i64 size,.bool big,.int .i64 mn,.int .i64 mx,.int .i64 stop,a8,a9,a10,a11]] W (JC W (Q2p 4 bs size big mn mx stop)):=by
 go_enter Tryz.func96,Tryz.ntmps96;refine Qs (M:=[]) (W:=W) (N:=84) (E:=[(0,.agg #[a0,.int .i64 4,.slice Ab nb cb,.int .i64 size,.bool big,.int .i64 mn,.int .i64 mx,.int .i64 stop,a8,a9,a10,a11])]) (O:=[]) ?_ Zj QV;repeat(first|refine Q4 zM ?_|refine Q4 zA ?_|refine Q4 zF ?_|refine Q4 (zB 2) ?_|refine yB fun br=>?_|refine yA fun b2=>?_|refine Qe ?_|refine Qa ?_|refine Q6 ?_|refine Qq ?_|refine Q9 rfl ?_|refine Q8 rfl ?_|refine Qh ?_|refine Q4 QcY ?_|refine Q4 zN ?_|refine Q4 zu ?_|refine Q4 zS ?_)
 repeat(first|refine Q4 (zD 0) ?_|refine Qc QgV rfl Q1 (fun _ _=>?_)|refine Qe ?_|refine Qa ?_|refine Q6 ?_)
 refine QA Q5b rfl (fun _ _=>?_);refine KC ?_
 refine Q7 (.inr rfl) rfl KQ (fun w hw=>Je Q0O ?_ hw);rfl
theorem Qut(W:World)(hs:0<size):
  Calls Tryz.prog 96 #[.agg #[a0,.int .i64 5,.slice Ab nb cb,.int .i64 size,.bool big,.int .i64 mn,.int .i64 mx,.int .i64 stop,a8,a9,a10,a11]] W (JC W (Q2p 5 bs size big mn mx stop)):=by
 go_enter Tryz.func96,Tryz.ntmps96;refine Qs (M:=[]) (W:=W) (N:=84) (E:=QrJ) (O:=[]) ?_ Zj QV;repeat(first|refine Q4 zM ?_|refine Q4 zA ?_|refine Q4 zF ?_|refine Q4 (zB 2) ?_|refine yB fun br=>?_|refine yA fun b2=>?_|refine Qe ?_|refine Qa ?_|refine Q6 ?_|refine Q9 rfl ?_|refine Q8 rfl ?_|refine Qh ?_|refine Q4 QcY ?_|refine Q4 zgt ?_|refine Q4 zY ?_|refine Q4 zN ?_|refine Q4 zu ?_|refine Q4 zS ?_)
 repeat(first|refine Q4 (zD 0) ?_|refine Qc QgV rfl Q1 (fun _ _=>?_)|refine Qe ?_|refine Qa ?_|refine Q6 ?_)
 refine QA Q5b rfl (fun _ _=>?_);refine KC ?_
 refine Q7 (.inr rfl) rfl KQ (fun w hw=>Je Q0O ?_ hw);exact congrArg QM (by rw[Q2p,if_neg Q1,if_neg Q1,if_neg Q1,if_neg Q1,if_pos rfl,if_pos hs];rfl)
theorem Qu6(W:World)(hs:size=0)(ht:0<=stop/\stop<=255):
  Calls Tryz.prog 96 #[.agg #[a0,.int .i64 5,.slice Ab nb cb,.int .i64 size,.bool big,.int .i64 mn,.int .i64 mx,.int .i64 stop,a8,a9,a10,a11]] W (JC W (Q2p 5 bs size big mn mx stop)):=by
 go_enter Tryz.func96,Tryz.ntmps96;refine Qs (M:=[]) (W:=W) (N:=84) (E:=QrJ) (O:=[]) ?_ Zj QV;repeat(first|refine Q4 zM ?_|refine Q4 zA ?_|refine Q4 zF ?_|refine Q4 (zB 2) ?_|refine Q4 (zD 0) ?_|refine Q4 (zD 2) ?_|refine yB fun br=>?_|refine yA fun b2=>?_|refine Qe ?_|refine Qa ?_|refine Q6 ?_|refine Q8 rfl ?_|refine Qh ?_|refine Q4 zet ?_|refine Q4 zef ?_|refine Q4 (YY rfl rfl Q1 rfl rfl rfl (by first|exact decide_eq_false Q3|rfl)) ?_|refine Q4 zY ?_|refine Q4 zN ?_|refine Q4 zu ?_|refine Q4 zS ?_)
 subst hs;obtain⟨n,rfl⟩:∃n:Nat,stop=(n:Int):=⟨stop.toNat,by omega⟩;repeat(first|refine Q4 zA ?_|refine Q4 zF ?_|refine Q4 (zB 2) ?_|refine Q4 Qo9 ?_|refine Q4 Qme ?_|refine QA QkA rfl (fun _ _=>?_)|refine Qe ?_|refine Qa ?_|refine Q6 ?_|refine Q9 rfl ?_)
 show lE _ _ _ _ _ _ _ [Qb.blk b2 (.cells ((QM (fun _=>false)).set (0+n*1) (.bool true)).toArray 92 (0,0)),_,_] _;refine Qk7 ?_;refine QA Q5b rfl (fun _ _=>?_);refine KC ?_
 refine Q7 (.inr rfl) rfl KQ (fun w hw=>Je Q0O ?_ hw);refine ZO fun j hj=>?_;show (if j=n then true else false)=(if (0:Int)<0 then Zl noS 0 255 j else decide ((j:Int)=(n:Int)));rw[if_neg (show ¬(0:Int)<0 by decide)];by_cases h:j=n<;>simp [h]<;>omega
theorem QvD(W:World)(ht:0<=stop/\stop<=255):
  Calls Tryz.prog 96 #[.agg #[a0,.int .i64 9,.slice Ab nb cb,.int .i64 size,.bool big,.int .i64 mn,.int .i64 mx,.int .i64 stop,a8,a9,a10,a11]] W (JC W (Q2p 9 bs size big mn mx stop)):=by
 go_enter Tryz.func96,Tryz.ntmps96;refine Qs (M:=[]) (W:=W) (N:=84) (E:=[(0,.agg #[a0,.int .i64 9,.slice Ab nb cb,.int .i64 size,.bool big,.int .i64 mn,.int .i64 mx,.int .i64 stop,a8,a9,a10,a11])]) (O:=[]) ?_ Zj QV;repeat(first|refine Q4 zM ?_|refine Q4 zA ?_|refine Q4 zF ?_|refine Q4 (zB 2) ?_|refine Q4 (zD 0) ?_|refine Q4 (zD 2) ?_|refine yB fun br=>?_|refine yA fun b2=>?_|refine Qe ?_|refine Qa ?_|refine Q6 ?_|refine Q8 rfl ?_|refine Qh ?_|refine Q4 Q7g ?_|refine Q4 zN ?_|refine Q4 zu ?_|refine Q4 zS ?_)
 obtain⟨n,rfl⟩:∃n:Nat,stop=(n:Int):=⟨stop.toNat,by omega⟩;repeat(first|refine Q4 zA ?_|refine Q4 zF ?_|refine Q4 (zB 2) ?_|refine Q4 Qo9 ?_|refine Q4 Qme ?_|refine QA QkA rfl (fun _ _=>?_)|refine Qe ?_|refine Qa ?_|refine Q6 ?_|refine Q9 rfl ?_)
 show lE _ _ _ _ _ _ _ [Qb.blk b2 (.cells ((QM (fun _=>false)).set (0+n*1) (.bool true)).toArray 92 (0,0)),_,_] _;refine Qk7 ?_;refine QA Q5b rfl (fun _ _=>?_);refine KC ?_
 refine Q7 (.inr rfl) rfl KQ (fun w hw=>Je Q0O ?_ hw);refine ZO fun j hj=>?_;show (if j=n then true else false)=decide ((j:Int)=(n:Int));skip;by_cases h:j=n<;>simp [h]<;>omega
theorem Qvp(W:World):
  Calls Tryz.prog 96 #[.agg #[a0,.int .i64 6,.slice Ab nb cb,.int .i64 size,.bool big,.int .i64 mn,.int .i64 mx,.int .i64 stop,a8,a9,a10,a11]] W (JC W (Q2p 6 bs size big mn mx stop)):=by
 go_enter Tryz.func96,Tryz.ntmps96;refine Qs (M:=[]) (W:=W) (N:=84) (E:=[(0,.agg #[a0,.int .i64 6,.slice Ab nb cb,.int .i64 size,.bool big,.int .i64 mn,.int .i64 mx,.int .i64 stop,a8,a9,a10,a11])]) (O:=[]) ?_ Zj QV;repeat(first|refine Q4 zM ?_|refine Q4 zA ?_|refine Q4 zF ?_|refine Q4 (zB 2) ?_|refine Q4 (zD 0) ?_|refine Q4 (zD 2) ?_|refine yB fun br=>?_|refine yA fun b2=>?_|refine Qe ?_|refine Qa ?_|refine Q6 ?_|refine Q8 rfl ?_|refine Qh ?_|refine Q4 Q7g ?_|refine Q4 zN ?_|refine Q4 zu ?_|refine Q4 zS ?_)
 refine QhF ?_
 refine QA Q5b rfl (fun _ _=>?_);refine KC ?_
 refine Q7 (.inr rfl) rfl KQ (fun w hw=>Je Q0O ?_ hw);rfl
theorem QvG(W:World):
  Calls Tryz.prog 96 #[.agg #[a0,.int .i64 7,.slice Ab nb cb,.int .i64 size,.bool big,.int .i64 mn,.int .i64 mx,.int .i64 stop,a8,a9,a10,a11]] W (JC W (Q2p 7 bs size big mn mx stop)):=by
 go_enter Tryz.func96,Tryz.ntmps96;refine Qs (M:=[]) (W:=W) (N:=84) (E:=[(0,.agg #[a0,.int .i64 7,.slice Ab nb cb,.int .i64 size,.bool big,.int .i64 mn,.int .i64 mx,.int .i64 stop,a8,a9,a10,a11])]) (O:=[]) ?_ Zj QV;repeat(first|refine Q4 zM ?_|refine Q4 zA ?_|refine Q4 zF ?_|refine Q4 (zB 2) ?_|refine Q4 (zD 0) ?_|refine Q4 (zD 2) ?_|refine yB fun br=>?_|refine yA fun b2=>?_|refine Qe ?_|refine Qa ?_|refine Q6 ?_|refine Q8 rfl ?_|refine Qh ?_|refine Q4 Q7g ?_|refine Q4 zN ?_|refine Q4 zu ?_|refine Q4 zS ?_)
 refine QhF ?_
 refine QA Q5b rfl (fun _ _=>?_);refine KC ?_
 refine Q7 (.inr rfl) rfl KQ (fun w hw=>Je Q0O ?_ hw);rfl
theorem QvJ(W:World):
  Calls Tryz.prog 96 #[.agg #[a0,.int .i64 8,.slice Ab nb cb,.int .i64 size,.bool big,.int .i64 mn,.int .i64 mx,.int .i64 stop,a8,a9,a10,a11]] W (JC W (Q2p 8 bs size big mn mx stop)):=by
 go_enter Tryz.func96,Tryz.ntmps96;refine Qs (M:=[]) (W:=W) (N:=84) (E:=[(0,.agg #[a0,.int .i64 8,.slice Ab nb cb,.int .i64 size,.bool big,.int .i64 mn,.int .i64 mx,.int .i64 stop,a8,a9,a10,a11])]) (O:=[]) ?_ Zj QV;repeat(first|refine Q4 zM ?_|refine Q4 zA ?_|refine Q4 zF ?_|refine Q4 (zB 2) ?_|refine Q4 (zD 0) ?_|refine Q4 (zD 2) ?_|refine yB fun br=>?_|refine yA fun b2=>?_|refine Qe ?_|refine Qa ?_|refine Q6 ?_|refine Q8 rfl ?_|refine Qh ?_|refine Q4 Q7g ?_|refine Q4 zN ?_|refine Q4 zu ?_|refine Q4 zS ?_)
 refine QhF ?_
 refine QA Q5b rfl (fun _ _=>?_);refine KC ?_
 refine Q7 (.inr rfl) rfl KQ (fun w hw=>Je Q0O ?_ hw);rfl
theorem QuO(W:World):
  Calls Tryz.prog 96 #[.agg #[a0,.int .i64 10,.slice Ab nb cb,.int .i64 size,.bool big,.int .i64 mn,.int .i64 mx,.int .i64 stop,a8,a9,a10,a11]] W (JC W (Q2p 10 bs size big mn mx stop)):=by
 go_enter Tryz.func96,Tryz.ntmps96;refine Qs (M:=[]) (W:=W) (N:=84) (E:=[(0,.agg #[a0,.int .i64 10,.slice Ab nb cb,.int .i64 size,.bool big,.int .i64 mn,.int .i64 mx,.int .i64 stop,a8,a9,a10,a11])]) (O:=[]) ?_ Zj QV;repeat(first|refine Q4 zM ?_|refine Q4 zA ?_|refine Q4 zF ?_|refine Q4 (zB 2) ?_|refine Q4 (zD 0) ?_|refine Q4 (zD 2) ?_|refine yB fun br=>?_|refine yA fun b2=>?_|refine Qe ?_|refine Qa ?_|refine Q6 ?_|refine Q8 rfl ?_|refine Qh ?_|refine Q4 Q7g ?_|refine Q4 zN ?_|refine Q4 zu ?_|refine Q4 zS ?_)
 refine QhF ?_
 refine QA Q5b rfl (fun _ _=>?_);refine KC ?_
 refine Q7 (.inr rfl) rfl KQ (fun w hw=>Je Q0O ?_ hw);rfl
end
def QW:List (Nat->Bool)->List Value
 |[]=>[]
 |s::l=>QM s++QW l
theorem Q8p:∀l:List (Nat->Bool),(QW l).length=l.length*256
 |[]=>rfl
 |s::l=>by rw[QW,List.length_append,X3,Q8p l,List.length_cons];omega
theorem Q9a:∀(l m:List (Nat->Bool)),QW (l++m)=QW l++QW m
 |[],m=>rfl
 |s::l,m=>by rw[List.cons_append,QW,QW,Q9a l m,List.append_assoc]
def XH:Nat->Bool:=fun _=>false
theorem Q3A:∀(l:List (Nat->Bool)) (k c:Nat),k<l.length->c<256->(QW l)[k*256+c]? =some (.bool ((l.getD k XH) c))
 |[],k,c,h,_=>absurd h Ql
 |s::l,0,c,_,hc=>by
  rw[QW,List.getElem?_append_left (by rw[X3];omega),Nat.zero_mul,Nat.zero_add,ZD s hc]
  rfl
 |s::l,k+1,c,h,hc=>by
  rw[QW,List.getElem?_append_right (by rw[X3];omega),X3,show (k+1)*256+c - 256=k*256+c by omega,Q3A l k c (by simpa using h) hc]
  rfl
theorem Q8g:∀(l:List (Nat->Bool)) (k c:Nat) (b:Bool),k<l.length->c<256->(QW l).set (k*256+c) (.bool b)=QW (l.set k (fun j=>if j=c then b else (l.getD k XH) j))
 |[],k,c,b,h,_=>absurd h Ql
 |s::l,0,c,b,_,hc=>by
  rw[QW,List.set_append_left _ _ (by rw[X3];omega),Nat.zero_mul,Nat.zero_add,Q0k]
  rfl
 |s::l,k+1,c,b,h,hc=>by
  rw[QW,List.set_append_right _ _ (by rw[X3];omega),X3,show (k+1)*256+c - 256=k*256+c by omega,Q8g l k c b (by simpa using h) hc]
  rfl
theorem Q1Z(l:List (Nat->Bool))(k:Nat)(h:k<l.length):∀j u,(QM (l.getD k XH))[j]? =some u->(QW l)[k*256+j]? =some u:=by
 intro j u hu;have hj:j<256:=by
  rcases Nat.lt_or_ge j 256 with hj|hj
  ·exact hj
  ·rw[List.getElem?_eq_none (by rw[X3];omega)] at hu;cases hu
 rw[Q3A l k j h hj];rw[ZD _ hj] at hu;exact hu
def Km(r:Rl):Nat->Bool:=Q2p r.kind r.bs r.size r.big r.mn r.mx r.stop
def orS(s t:Nat->Bool):Nat->Bool:=fun j=>s j||t j
def Vv(Ss:List (Nat->Bool))(k i:Nat):List (Nat->Bool):=Ss.set k (orS (Ss.getD k XH) (Ss.getD i XH))
def Ym(F:List Rl)(Ss:List (Nat->Bool))(k:Nat):List (Nat->Bool):=(bg F k).foldl (fun S i=>Vv S k i) Ss
def J8(F:List Rl)(Ss:List (Nat->Bool)):List (Nat->Bool):=(List.range F.length).foldl (Ym F) Ss
def Vz(F:List Rl):List (Nat->Bool):=iter (J8 F) F.length (F.map Km)
theorem Qjq{r:Rl}{Ab An Ap:Option Addr}{n cb cn cp:Nat}{W:World}(hl:RuL W r Ab cb An cn Ap cp)(hr:ROk n r):
  Calls Tryz.prog 96 #[.agg (ruC r (.slice Ab r.bs.length cb) (.slice An r.names.length cn) (.slice Ap r.parts.length cp)).toArray] W (JC W (Km r)):=by
 obtain⟨name,kind,bs,size,big,mn,mx,stop,count,elem,names,parts⟩:=r;have hk:=hr.kind;have hb:=hl.b;have h1:=hr.bs1;have h2:=hr.num;have h3:=hr.dec;have h5:=hr.size5;have hs:=hr.stop;unfold Km;simp only at hk hb h1 h2 h3 h5 hs ⊢;rcases (show kind=1\/kind=2\/kind=3\/kind=4\/kind=5\/kind=6\/kind=7\/kind=8\/kind=9\/kind=10 by omega) with rfl|rfl|rfl|rfl|rfl|rfl|rfl|rfl|rfl|rfl
 ·exact QvO W hb (h1 rfl)
 ·obtain⟨a1,a2,a3,a4,a5⟩:=h2 rfl
  have a6:mx<=4294967295:=by
   have b1:1<=size:=a1;have b2:size<=4:=a2;have b5:mx<256 ^ size.toNat:=a5;clear h1 h2 h3 h5 hs hr hl hb a1 a2 a3 a4 a5;rcases (show size=1\/size=2\/size=3\/size=4 by omega) with rfl|rfl|rfl|rfl<;>simp at b5<;>omega
  cases big with
  |true=>exact QtO (big:=true) W ⟨a1,a2⟩ ⟨a3,a4,a6⟩
  |false=>exact Quv (big:=true) W ⟨a3,a4,a6⟩
 ·exact Qvr W ⟨(h3 rfl).1,(h3 rfl).2.1⟩
 ·exact QvS W
 ·by_cases h0:0<size
  ·exact Qut W h0
  ·have h50:0<=size:=(h5 rfl).1
   have h51:size=0:=by omega
   exact Qu6 W h51 (hs (.inr (.inl rfl)))
 ·exact Qvp W
 ·exact QvG W
 ·exact QvJ W
 ·exact QvD W (hs (.inr (.inr rfl)))
 ·exact QuO W
section
variable {A:Option Addr}{O:List Qb}{W w:World}{c n:Nat}
def QO(W:World)(c:Bool)(e:Ending)(w':World):Prop:=e=.returned (.bool c)/\Below W.heap.size W w'
theorem QK{c c':Bool}(h:c=c')(hw:Wd [] W O w):QO W c' (.returned (.bool c)) w:=⟨by rw[h],hw.k.below⟩
theorem Q8V{r:Rl}{Ab An Ap:Option Addr}{cb cn cp:Nat}(hl:RuL W r Ab cb An cn Ap cp)(hr:ROk n r)(hw:Wd [] W O w):
  Calls Tryz.prog 97 #[.agg (ruC r (.slice Ab r.bs.length cb) (.slice An r.names.length cn) (.slice Ap r.parts.length cp)).toArray] w (Xo (fun y:Option Addr×Nat=>.slice y.1 (bl r).length y.2) (fun y=>(bl r).length<=y.2/\(bl r=[]->y=(none,0))) [] W (fun y=>.rd y.1 (bl r).length 1 (iv (bl r))::O)):=by
 refine(Qb3 (hl.on hw.k.below) hr.kind (fun h=>(hr.seven h).2) (fun h=>by have:=hr.eight h;omega)).mono ?_;rintro e w' ⟨A,m,c,rfl,h1,h2,h3,h4,h5⟩;have hm:(bl r).length=m:=by have:=h1.len;rw[Q0B] at this;exact this
 subst hm;refine⟨(A,c),rfl,⟨h2,fun h=>?_⟩,(hw.on h3).rd_far hw h1 (fun b o e hn=>?_)⟩
 ·obtain⟨rfl,rfl⟩:=h5 (by rw[h];rfl)
  rfl
 ·rcases h4 b o e hn with h|⟨⟨o',h⟩,h0⟩
  ·exact .inl h
  ·right
   exact Qke
theorem Qks{l:List Int}(hl:0<l.length)(hl':l.length<=1048576)(hw:Wd [] W (.rd A l.length 1 (iv l)::O) w):
  Calls Tryz.prog 151 #[.slice A l.length c] w (Xo (fun y:Nat×Nat×Nat×List Value=>.slice (some ⟨y.1,y.2.1,none⟩) l.length y.2.2.1) (fun y=>Q56 y.2.1 l.length y.2.2.1 y.2.2.2 (iv l)) [] W (fun y=>.blk y.1 (.cells y.2.2.2.toArray 3 (0,0))::.rd A l.length 1 (iv l)::O)):=by
 refine(Qap KT hl hl').mono ?_;rintro e w' ⟨b,q,c',cur,rfl,h1,h2,h3,h4⟩;exact⟨(b,q,c',cur),rfl,h3,hw.push h4 h2 (fun b' hb'=>by cases hb';exact h1)⟩
theorem Qll{q:Nat}{cur:List Value}{x:Int}{t:List Int}(h:Q56 q (n+1) c cur (iv (x::t))):∃q',ZX (some ⟨0,q,none⟩) c 1 1=some ⟨0,q',none⟩/\(∀b,ZX (some ⟨b,q,none⟩) c 1 1=some ⟨b,q',none⟩)/\Q56 q' n (c - 1) cur (iv t):=by
 obtain⟨h1,h2,h3,h4,h5⟩:=h;have hl:(iv t).length=n:=by rw[Q0B] at h4 ⊢;simpa using h4
 by_cases hc:c=1
 ·refine⟨q,by rw[ZX,if_pos hc],fun b=>by rw[ZX,if_pos hc],by omega,by omega,by omega,hl,fun j u hu=>?_⟩
  have hn:n=0:=by omega
  rw[List.getElem?_eq_none Q3] at hu;cases hu
 ·refine⟨q+1,by rw[ZX,if_neg hc,Option.map_some,Addr.add_mid],fun b=>by rw[ZX,if_neg hc,Option.map_some,Addr.add_mid],by omega,by omega,by omega,hl,fun j u hu=>?_⟩;have:=h5 (j+1) u (by exact hu);rwa [show q+(j+1)=q+1+j by omega] at this
def cyE(bf bs k n:Nat)(s:Cy):Env:=[(1,.int .i64 (k:Int)),(2,.pointer (some ⟨bf,0,none⟩)),(5,.slice (some ⟨bs,0,none⟩) n n),(6,.slice (some ⟨s.b,s.q,none⟩) s.qs.length s.c)]
def cyO(bf bs n c:Nat)(A:Option Addr)(s:Cy):List Qb:=[.blk s.b (.cells s.cur.toArray 3 (0,0)),.row (some ⟨bs,0,none⟩) n n 4 1 (XM s.seen),.blk bf (.cells [.slice A n c].toArray 24 (0,0))]
theorem Q9W{F:List Rl}{k:Nat}(hf:QX W W.heap.size A n F)(hF:FOk F)(hn:n<=40)(hk:k<n):
  Calls Tryz.prog 117 #[.agg #[.slice A n c],.int .i64 (k:Int)] W (QO W (Q1l F k)):=by
 have hlen:F.length=n:=hf.1;obtain⟨b,o,rfl⟩:=hf.addr Q3;obtain⟨rk,Ab,cb,An,cn,Ap,cp,hrk,hrg,hlk⟩:=hf.rl hk;have hok:=hF k rk hrk;have HBG:=Q2 (Q3k hrk);have HFM:=Q2 hf;have HOK:=Q2 hok;have HLK:=Q2 hlk;have HF:=Q2 hF;have HLEN:=Q2 hlen;have h12:=Q68 hok;clear hrk hf hok hlk hF hlen;go_enter Tryz.func117,Tryz.ntmps117;refine Qs (M:=[]) (W:=W) (N:=46) (E:=[Q5R,Q2U]) (O:=[]) ?_ mc3 QV;repeat(first|refine Q4 zM ?_|refine Q4 zA ?_|refine Q4 zF ?_|refine Q4 (zB 0) ?_|refine Q4 (zB 1) ?_|refine Q4 (zD 0) ?_|refine Q4 (zD 1) ?_|refine Q4 (zD 2) ?_|refine Q4 zE ?_|refine yB fun bf=>?_|refine Qc QmK rfl Q1 (fun bs _=>?_)|refine Q4 (zi (hj:=hk)) ?_|refine Qc Qr0 rfl Q1 (fun y hy=>?_)|refine Qe ?_|refine Qa ?_|refine Q6 ?_|refine Q4 zL ?_)
 obtain⟨l,hl⟩:∃l,bl rk=l:=⟨_,rfl⟩;rw[hl] at hy h12 ⊢;cases l with
 |nil=>
  obtain rfl:=hy.2 rfl;repeat(first|refine Q4 zA ?_|refine Q4 (Qj (f:=151) rfl rfl Q1 rfl rfl (fun w hw=>Qey w)) ?_|refine Qe ?_|refine Qa ?_|refine Qh ?_)
  refine QN (ι:=Unit) QdB (fun _=>0) (fun _=>[(6,.slice none 0 0)]) (fun _=>[]) () [] Q1 trivial (.cons rfl rfl .nil) rfl ?_;rintro _ _;refine Qtl ?_
  refine Q7 mc4 rfl (.tmp rfl) (fun w hw=>QK ?_ hw);cases hc:Q1l F k with
  |false=>rfl
  |true=>
   exfalso;have hr:=(Q3m HF.out.bd QfW).1 hc;have hnone:∀j,Rch F k j->False:=by
    intro j hj;induction hj with
    |one h=>rw[HBG.out,hl] at h;cases h
    |more _ _ ih=>exact ih
   exact hnone k hr
 |cons x0 t0=>
  refine Qc (XB _ _ _ (f:=151) rfl rfl rfl (fun w hw=>Qks (l:=x0::t0) Ql Q3 hw)) rfl Q1 (fun z hz=>?_);obtain⟨b1,q1,c1,cur1⟩:=z;have hz0:Q56 q1 (x0::t0).length c1 cur1 (iv (x0::t0)):=hz;clear hz;have h0:CyP F k { seen:=List.replicate n false,qs:=x0::t0,b:=b1,q:=q1,c:=c1,cur:=cur1 }:=by
   have hno:∀i:Nat,(List.replicate n false).getD i false=false:=fun i=>by
    rw[List.getD_eq_getElem?_getD,List.getElem?_replicate];split<;>rfl
   have hin:=Q5O HOK.out;rw[hl] at hin;have hbg:bg F k=(x0::t0).map Int.toNat:=by rw[HBG.out,hl]
   refine⟨by rw[List.length_replicate,HLEN.out],hz0,hin,fun x hx=>.one ?_,fun x hx=>.inr ?_,fun i hi=>?_,hno k,?_⟩
   ·rw[hbg];exact List.mem_map_of_mem hx
   ·rw[hbg,List.mem_map] at hx;obtain⟨y',hy',rfl⟩:=hx;have:=hin y' hy';rw[show ((y'.toNat:Nat):Int)=y' by omega];exact hy'
   ·have hi':(List.replicate n false).getD i false=true:=hi;rw[hno i] at hi'
    cases hi'
   ·have:=Qa3 (fun i=>!((List.replicate n false).getD i false)) F.length
    show 13*cnt (fun i=>!((List.replicate n false).getD i false)) F.length+(x0::t0).length<=_;omega
  clear hy hl h12;repeat(first|refine Q4 zA ?_|refine Qe ?_|refine Qa ?_|refine Qh ?_)
  refine QN (CyP F k) (fun s=>13*VC s F.length+s.qs.length) (cyE bf bs k n) (cyO bf bs n c Qi1) { seen:=List.replicate n false,qs:=x0::t0,b:=b1,q:=q1,c:=c1,cur:=cur1 } [0,2,3] Q1 h0 mc1 (by show [_,Qb.row _ _ _ _ _ _,_]=_;rw[QgG];rfl) ?_;rintro⟨seen,qs,b2,q2,c2,cur2⟩ hp;have HPP:=Q2 hp;clear hp;cases qs with
  |nil=>
   show sE _ _ _ _ _ [Q2U,Q4r,Q8m,(6,.slice (some ⟨b2,q2,none⟩) 0 c2)] Qs5 _;refine Qtl ?_
   refine Q7 mc4 rfl (.tmp rfl) (fun w hw=>QK (HPP.out.done HF.out QfW rfl).symm hw)
  |cons x t=>
   show sE _ _ _ _ _ [Q2U,Q4r,Q8m,(6,.slice (some ⟨b2,q2,none⟩) (x::t).length c2)] Qs5 _;have hx:=HPP.out.inn x List.mem_cons_self;rw[HLEN.out] at hx;have hc0:cur2[q2+0]? =some (.int .i64 x):=HPP.out.win.2.2.2.2 0 _ rfl;obtain⟨q3,_,hcut,hwt⟩:=Qll (show Q56 q2 (t.length+1) c2 cur2 (iv (x::t)) from HPP.out.win);have HWT:=Q2 hwt;clear hwt;have hlt:0<(x::t).length:=by simp
   by_cases hxk:x=(k:Int)
   ·have hxk':(x==(k:Int))=true:=beq_iff_eq.2 hxk
    repeat(first|refine Q4 zM ?_|refine Q4 zA ?_|refine Q4 Qg4 ?_|refine Q4 (zV 0 hc0) ?_|(refine Q4 Ql7 ?_;rw[hcut])|refine Qe ?_|refine Qa ?_|refine Q6 ?_|refine Qq ?_|refine Q9 rfl ?_|refine QB ?_|refine Qh ?_|refine Qm ?_|refine Qu ?_|refine Q4 zL ?_|refine Q4 zea ?_|refine Q4 zgt ?_)
    refine Q7 mc4 rfl (.tmp rfl) (fun w hw=>QK ?_ hw);refine((Q3m HF.out.bd QfW).2 ?_).symm;have:=HPP.out.sound x List.mem_cons_self;rw[hxk] at this;simpa using this
   ·have hxk':(x==(k:Int))=false:=beq_eq_false_iff_ne.2 hxk
    have hs0:(XM seen)[0+x.toNat]? =some (.bool (seen.getD x.toNat false)):=by
     rw[Nat.zero_add];exact Y0 (by rw[show seen.length=F.length from HPP.out.len,HLEN.out];omega)
    have HXK:=Q2 hxk;clear hxk;obtain⟨sx,hsx⟩:∃sx,seen.getD x.toNat false=sx:=⟨_,rfl⟩;rw[hsx] at hs0;have HSX:=Q2 hsx;clear hsx;cases sx with
    |true=>
     repeat(first|refine Q4 zM ?_|refine Q4 zA ?_|refine Q4 Qg4 ?_|refine Q4 (zV 0 hc0) ?_|(refine Q4 Ql7 ?_;rw[hcut])|refine Q4 Qml ?_|refine Q4 (zK 1 hs0) ?_|refine Qe ?_|refine Qa ?_|refine Q6 ?_|refine Qq ?_|refine Q9 rfl ?_|refine Q8 rfl ?_|refine Qh ?_|refine Ye ?_|refine Q4 zL ?_|refine Q4 zea ?_|refine Q4 QtK ?_|refine Q4 zO ?_)
     refine Qt { seen:=seen,qs:=t,b:=b2,q:=q3,c:=c2 - 1,cur:=cur2 } [0,1,2] Q1 (HPP.out.old rfl HSX.out hx.1 HWT.out) (by show 13*VC _ _+t.length<13*VC _ _+(t.length+1);exact Nat.lt_succ_self _) mc1 rfl
    |false=>
     obtain⟨rx,Ab',cb',An',cn',Ap',cp',hrx,hrgx,hlx⟩:=HFM.out.rl (i:=x.toNat) Q3;have HRX:=Q2 hrx;have HLX:=Q2 hlx;have HOX:=Q2 (HF.out _ _ hrx);have h12:=Q68 HOX.out;have hsm:=HPP.out.small;have hul:=hsm;rw[HLEN.out] at hul;clear hrx hlx hsm;have hqs:t.length<=13*n+12:=by
      have:(Cy.mk seen (x::t) b2 q2 c2 cur2).qs.length=t.length+1:=rfl;omega
     clear hul;repeat(first|refine Q4 zM ?_|refine Q4 zA ?_|refine Q4 zF ?_|refine Q4 (zB 2) ?_|refine Q4 (zD 0) ?_|refine Q4 (zD 1) ?_|refine Q4 zE ?_|refine Q4 Qg4 ?_|refine Q4 (zV 0 hc0) ?_|(refine Q4 Ql7 ?_;rw[hcut])|refine Q4 Qml ?_|refine Q4 (QG rfl rfl Q1 rfl rfl rfl hx) ?_|refine Q4 (zK 1 hs0) ?_|refine QA Qn0 rfl (fun _ _=>?_)|refine Qc (XB _ _ _ (f:=97) rfl rfl rfl (fun w hw=>Q8V (n:=F.length) HLX.out HOX.out hw)) rfl Q1 (fun z hz=>?_)|refine Qc (Q3d (n:=t.length) 1 rfl rfl rfl rfl rfl HWT.out (fun w hw=>hw.own 0 _ rfl) (Qfw _) Q3) rfl Q1 (fun y hy=>?_)|refine Qe ?_|refine Qa ?_|refine Q6 ?_|refine Qq ?_|refine Q9 rfl ?_|refine Q8 rfl ?_|refine Qh ?_|refine Ye ?_|refine Q4 zL ?_|refine Q4 zea ?_|refine Q4 QtK ?_|refine Q4 zO ?_)
     obtain⟨b4,q4,c4,cur4⟩:=y
     have hnew:=HPP.out.new (b':=b4) (q':=q4) (c':=c4) (cur':=cur4) HF.out rfl HRX.out HSX.out HXK.out (by
      have h:Q56 q4 (t.length+(bl rx).length) c4 cur4 (iv t++iv (bl rx)):=hy;rw[List.length_append,Qnj]
      exact h)
     refine Qt { seen:=seen.set x.toNat true,qs:=t++bl rx,b:=b4,q:=q4,c:=c4,cur:=cur4 } [1,2,3] Q1 hnew.1 hnew.2 (.cons rfl rfl (.cons rfl rfl (.cons rfl rfl (.cons rfl (by rw[List.length_append]) .nil)))) ?_;show [_,Qb.row _ _ _ _ _ ((XM seen).set (0+x.toNat) (.bool true)),_]=_;rw[Nat.zero_add,Q0V];rfl
end
section
variable {A:Option Addr}{S:List (Nat->Bool)}{b c n s:Nat}{cd:Code}{e:TypeId}{w:World}{xs:List Value}
theorem Rd.of_on(h:(Qb.rd A n s xs).on w)(hn:0<n):∃b o,A=some ⟨b,o,none⟩/\b<w.heap.size:=by
 have h':Rd w w.heap.size s A n xs:=h;obtain⟨b,o,e,hb,_⟩:=h'.2 hn;exact⟨b,o,e,hb⟩
section
variable {P:Program}{Q:Exit->Act->World->Prop}{N:Nat}{M:List Nat}{W:World}{E:Env}{O:List Qb}
theorem Q5C(i:Nat)(hO:O[i]? =some (.row A n c e s xs))(hn:0<n)(h:∀b,A=some ⟨b,0,none⟩->sE P Q N M W E O cd):sE P Q N M W E O cd:=fun a w ha hw=>by
 rcases (hw.own i _ hO).2 with ⟨hv,_⟩|⟨g,cap,cur,hv,_⟩
 ·have:n=0:=by
   exact Qez
  omega
 ·simp only[Value.slice.injEq] at hv
  exact h g hv.1 a w ha hw
theorem Qno{x y:Code}{ι:Type}(p:ι->Prop)(F:ι->Env)(G:ι->List Qb)(h1:sE P (Exit.then (QqC p N M W F G) Q) N M W E O x)(h2:∀i,p i->sE P Q N M W (F i) (G i) y):sE P (Exit.then (fun a w=>y.wp P Q a w) Q) N M W E O x:=
 QsU p F G h1 fun i hp a w ha hw=>h2 i hp a w ha hw
theorem Wd.rd_blk(i:Nat){cs:List Value}{t:TypeId}{fr:Nat×Nat}(hO:O[i]? =some (.blk b (.cells cs.toArray t fr)))(hl:cs.length=n*s)(hw:Wd M W O w):Rd w w.heap.size s (some ⟨b,0,none⟩) n cs:=
 ⟨hl,fun _=>⟨b,0,rfl,(hw.own i _ hO).lt rfl,fun j u hu=>by rw[Nat.zero_add];exact hw.cell_blkL i hO hu⟩⟩
end
section
variable {P:Program}{Q:Exit->Act->World->Prop}{N:Nat}{M:List Nat}{W:World}{E:Env}{O:List Qb}
theorem Q8r(i:Nat)(hO:O[i]? =some (.rd A n s xs))(hn:0<n)(h:∀b o,A=some ⟨b,o,none⟩->sE P Q N M W E O cd):sE P Q N M W E O cd:=fun a w ha hw=>by
 obtain⟨b,o,e,_⟩:=Go.Proofs.YtphkhfdmlcnoeaaGreatDoor.Rd.of_on Q9y hn;exact h b o e a w ha hw
end
theorem Wd.range_sets{M:List Nat}{W:World}{O:List Qb}(i:Nat){k:Nat}(hO:O[i]? =some (.row (some ⟨b,0,none⟩) n c e 256 (QW S)))(hk:k<S.length)(hw:Wd M W O w):w.rangeAt b (0+k*256) (QM (S.getD k XH)):=fun j u hu=>by
 rw[Nat.zero_add];exact hw.cell_row i hO (Q1Z S k hk j u hu)
def Ks(S:List (Nat->Bool))(k:Nat)(st:Nat->Bool)(c:Nat):List (Nat->Bool):=S.set k (fun j=>if j<c then (S.getD k XH) j||st j else (S.getD k XH) j)
theorem Q3x(S:List (Nat->Bool))(k:Nat)(st:Nat->Bool)(c:Nat):(Ks S k st c).length=S.length:=by unfold Ks;rw[List.length_set]
theorem QbL(S:List (Nat->Bool))(k:Nat)(st:Nat->Bool)(c:Nat)(hk:k<S.length):(Ks S k st c).getD k XH=fun j=>if j<c then (S.getD k XH) j||st j else (S.getD k XH) j:=by
 unfold Ks;rw[List.getD_eq_getElem?_getD,List.getElem?_set,if_pos rfl,if_pos hk];rfl
theorem Qij(S:List (Nat->Bool))(k:Nat)(st:Nat->Bool)(hk:k<S.length):Ks S k st 0=S:=by
 unfold Ks;have e:(fun j=>if j<0 then (S.getD k XH) j||st j else (S.getD k XH) j)=S[k]:=by
  funext j;rw[if_neg Q3,List.getD_eq_getElem?_getD,List.getElem?_eq_getElem hk];rfl
 rw[e,List.set_getElem_self]
theorem Qj4{T:List (Nat->Bool)}(hl:S.length=T.length)(h:∀k c,k<S.length->c<256->(S.getD k XH) c=(T.getD k XH) c):QW S=QW T:=by
 induction S generalizing T with
 |nil=>cases T with
  |nil=>rfl
  |cons=>simp at hl
 |cons s S ih=>cases T with
  |nil=>simp at hl
  |cons t T=>
   have e1:QM s=QM t:=ZO (fun j hj=>h 0 j Ql hj);have e2:QW S=QW T:=ih QfQ (fun k c hk hc=>h (k+1) c (by simpa using hk) hc);rw[QW,QW,e1,e2]
theorem QjF(S:List (Nat->Bool))(k:Nat)(st:Nat->Bool)(c:Nat)(hk:k<S.length)(hc:c<256):(QW (Ks S k st c)).set (k*256+c) (.bool ((S.getD k XH) c||st c))=QW (Ks S k st (c+1)):=by
 rw[Q8g _ _ _ _ (by rw[Q3x];exact hk) hc,QbL S k st c hk];unfold Ks;rw[List.set_set];congr 2;funext j;by_cases h1:j=c
 ·subst h1;simp
 ·by_cases h2:j<c
  ·have:j<c+1:=by omega
   simp [h1,h2,this]
  ·have:¬j<c+1:=by omega
   simp [h1,h2,this]
theorem QkX(S:List (Nat->Bool))(k x:Nat)(hk:k<S.length):QW (Ks S k (S.getD x XH) 256)=QW (Vv S k x):=by
 refine Qj4 (by unfold Vv;rw[Q3x,List.length_set]) fun k' c hk' hc=>?_;rw[Q3x] at hk';unfold Ks Vv;by_cases h:k=k'
 ·subst h
  simp [List.getD_eq_getElem?_getD,hk,hc,orS]
 ·simp [List.getD_eq_getElem?_getD,List.getElem?_set_ne h]
theorem Qee(S:List (Nat->Bool))(k x:Nat):(Vv S k x).length=S.length:=by unfold Vv;rw[List.length_set]
theorem Q0p(k:Nat):∀(l:List Nat) (S:List (Nat->Bool)),(l.foldl (fun S x=>Vv S k x) S).length=S.length
 |[],_=>rfl
 |x::l,S=>by rw[List.foldl_cons,Q0p k l,Qee]
theorem Qcy(F:List Rl)(S:List (Nat->Bool))(k:Nat):(Ym F S k).length=S.length:=Q0p k _ S
theorem Kl(F:List Rl):∀(l:List Nat) (S:List (Nat->Bool)),(l.foldl (Ym F) S).length=S.length
 |[],_=>rfl
 |x::l,S=>by rw[List.foldl_cons,Kl F l,Qcy]
theorem Yp(F:List Rl)(S:List (Nat->Bool)):∀t,(iter (J8 F) t S).length=S.length
 |0=>rfl
 |t+1=>(Kl F _ _).trans (Yp F S t)
theorem Qib(st:Nat->Bool):∀u∈QM st,u.oneCell'=true:=by
 intro u hu;simp only[QM,List.mem_map] at hu;obtain⟨j,_,rfl⟩:=hu;rfl
theorem QaA{F:List Rl}{W:World}(hf:QX W W.heap.size A n F)(hF:FOk F)(hn:n<=40)(hn0:0<n):
  Calls Tryz.prog 55 #[.agg #[.slice A n c]] W (fun e w'=>∃b c',e=.returned (.slice (some ⟨b,0,none⟩) n c')/\W.heap.size<=b/\Rd w' w'.heap.size 256 (some ⟨b,0,none⟩) n (QW (Vz F))/\Below W.heap.size W w'):=by
 have hlen:F.length=n:=hf.1;obtain⟨b,o,rfl⟩:=hf.addr hn0;have HFM:=Q2 hf;have HF:=Q2 hF;have HLEN:=Q2 hlen;clear hf hF hlen;go_enter Tryz.func55,Tryz.ntmps55;refine Qs (M:=[]) (W:=W) (N:=72) (E:=[(0,.agg #[.slice (some ⟨b,o,none⟩) n c])]) (O:=[]) ?_ Zj (Wd.start [] W);repeat(first|refine Q4 zM ?_|refine Q4 zA ?_|refine Q4 zF ?_|refine Q4 (zB 0) ?_|refine yB fun bf=>?_|refine Qe ?_|refine Qa ?_|refine Q6 ?_|refine Qh ?_|refine Q4 zL ?_)
 refine Qc6 92 256 ?_;refine QN (ι:=Nat×Option Addr×Nat) (fun y=>y.1<=n) (fun y=>n - y.1) (fun y=>[(1,.pointer KF),(3,.slice y.2.1 y.1 y.2.2),(13,.slice (some ⟨b,o,none⟩) n c),(14,.int .i64 (n:Int)),(15,.int .i64 (y.1:Int))]) (fun y=>[.row y.2.1 y.1 y.2.2 92 256 (QW ((F.take y.1).map Km)),.blk bf (.cells [.slice (some ⟨b,o,none⟩) n c].toArray 24 (0,0))]) (0,none,0) [0,1] Q1 Ze Q0J rfl ?_;rintro⟨i,A',c'⟩ hi;have hi':i<=n:=hi;clear hi;show sE _ _ _ _ _ [(1,.pointer KF),(3,.slice A' i c'),(13,.slice (some ⟨b,o,none⟩) n c),(14,.int .i64 (n:Int)),(15,.int .i64 (i:Int))] [.row A' i c' 92 256 (QW ((F.take i).map Km)),.blk bf (.cells [.slice (some ⟨b,o,none⟩) n c].toArray 24 (0,0))] _;by_cases hin:i<n
 ·obtain⟨rk,Ab,cb,An,cn,Ap,cp,hrk,hrg,hlk⟩:=HFM.out.rl hin;have HRK:=Q2 hrk;have HLK:=Q2 hlk;have HOK:=Q2 (HF.out i rk hrk);clear hrk hlk
  repeat(first|refine Q4 zM ?_|refine Q4 zA ?_|refine Q4 (zD 0) ?_|refine Q4 (zD 1) ?_|refine Q4 zE ?_|refine Q4 (zi (hj:=hin)) ?_|refine yA (t:=65) fun b7=>?_|refine yW 0 ?_|refine Q4 (Qj (f:=96) rfl rfl Q1 rfl rfl (fun w hw=>(Qjq Q9z HOK.out).mono (fun _ _ h=>h))) ?_|refine Qc (Jb (cs:=QM _) rfl rfl rfl rfl (X3 _) Q1) rfl Q1 (fun bn _=>?_)|refine Qc (Z8 (news:=QM _) 2 rfl rfl rfl rfl rfl (fun w hw=>hw.rd_blk 0 rfl (by rw[X3])) (Qib _) Q3) rfl Q1 (fun y _=>?_)|refine Qe ?_|refine Qa ?_|refine Q6 ?_|refine Qq ?_|refine Q9 rfl ?_|refine Qh ?_|refine Q4 Q4f ?_|refine Q4 zP ?_)
  obtain⟨A2,c2⟩:=y;refine Qt (i+1,A2,c2) [2,3] Q1 hin VH Yc ?_;show [Qb.row _ _ _ _ _ (QW ((F.take i).map Km)++QM (Km rk)),_]=[Qb.row _ _ _ _ _ (QW ((F.take (i+1)).map Km)),_];rw[List.take_add_one,HRK.out,Option.toList_some,List.map_append,Q9a];simp [QW]
 ·obtain rfl:i=n:=by omega
  refine Qla ?_
  refine Q5C 0 rfl hn0 (fun br hA=>?_);subst hA;have e0:QW ((F.take i).map Km)=QW (iter (J8 F) 0 (F.map Km)):=by
   rw[List.take_of_length_le (by rw[HLEN.out];exact Nat.le_refl _)];rfl
  refine QN (ι:=Nat) (fun t=>t<=i) (fun t=>i - t) (fun t=>[(1,.pointer KF),(3,.slice (some ⟨br,0,none⟩) i c'),(27,.int .i64 (i:Int)),(28,.int .i64 (t:Int))]) (fun t=>[.row (some ⟨br,0,none⟩) i c' 92 256 (QW (iter (J8 F) t (F.map Km))),.blk bf (.cells [.slice (some ⟨b,o,none⟩) i c].toArray 24 (0,0))]) 0 [0,1] Q1 Ze mc1 (by rw[<- e0];rfl) ?_;rintro t ht;by_cases htn:t<i
  ·skip
   repeat(first|refine Q4 zM ?_|refine Q4 zF ?_|refine Q4 (zB 1) ?_|refine Qe ?_|refine Qa ?_|refine Q6 ?_|refine Qq ?_|refine Q9 rfl ?_|refine Qh ?_|refine Q4 zL ?_|refine Q4 zlt ?_)
   refine QN (ι:=Nat) (fun k=>k<=i) (fun k=>i - k) (fun k=>[(1,.pointer KF),(3,.slice (some ⟨br,0,none⟩) i c'),(27,.int .i64 (i:Int)),(28,.int .i64 (t:Int)),(31,.slice (some ⟨b,o,none⟩) i c),(32,.int .i64 (i:Int)),(33,.int .i64 (k:Int))]) (fun k=>[.row (some ⟨br,0,none⟩) i c' 92 256 (QW ((List.range k).foldl (Ym F) (iter (J8 F) t (F.map Km)))),.blk bf (.cells [.slice (some ⟨b,o,none⟩) i c].toArray 24 (0,0))]) 0 [0,1] Q1 Ze Q1S rfl ?_;rintro k hk;by_cases hkn:k<i
   ·obtain⟨rk,Ab,cb,An,cn,Ap,cp,hrk,hrg,hlk⟩:=HFM.out.rl hkn;have HRK:=Q2 hrk;have HLK:=Q2 hlk;have HOK:=Q2 (HF.out k rk hrk);clear hrk hlk
    repeat(first|refine Q4 zM ?_|refine Q4 zA ?_|refine Q4 (zD 0) ?_|refine Q4 (zD 1) ?_|refine Q4 zE ?_|refine Q4 (zi (hj:=hkn)) ?_|refine yA (t:=65) fun b7=>?_|refine yW 0 ?_|refine Qc Qr0 rfl Q1 (fun z hz=>?_)|refine Qe ?_|refine Qa ?_|refine Q6 ?_|refine Qq ?_|refine Q9 rfl ?_|refine Qh ?_|refine Q4 zL ?_|refine Q4 zlt ?_)
    obtain⟨A2,c2⟩:=z;have hbl:=Q68 HOK.out;refine QN (ι:=Nat) (fun j=>j<=(bl rk).length) (fun j=>(bl rk).length - j) (fun j=>[(1,.pointer KF),(3,.slice (some ⟨br,0,none⟩) i c'),(6,.int .i64 (k:Int)),(27,.int .i64 (i:Int)),(28,.int .i64 (t:Int)),(31,.slice (some ⟨b,o,none⟩) i c),(32,.int .i64 (i:Int)),(33,.int .i64 (k:Int)),(39,.slice A2 (bl rk).length c2),(40,.int .i64 ((bl rk).length:Int)),(41,.int .i64 (j:Int))]) (fun j=>[.rd A2 (bl rk).length 1 (iv (bl rk)),.row (some ⟨br,0,none⟩) i c' 92 256 (QW (((bg F k).take j).foldl (fun S x=>Vv S k x) ((List.range k).foldl (Ym F) (iter (J8 F) t (F.map Km))))),.blk bf (.cells [.slice (some ⟨b,o,none⟩) i c].toArray 24 (0,0))]) 0 [0,2,3] Q1 Ze (.cons rfl rfl (.cons rfl rfl Qmo)) rfl ?_;rintro j hj;by_cases hjn:j<(bl rk).length
    ·refine Q8r 0 rfl Q3 (fun b2 o2 hA=>?_);subst hA;obtain⟨x,hx⟩:∃x,(bl rk)[j]? =some x:=⟨_,List.getElem?_eq_getElem hjn⟩;have hxb:=Q5O HOK.out x K4
     have hxn:0<=x/\x<(i:Int):=by have:=HLEN.out;omega
     clear hxb;have hxj:(iv (bl rk))[j]? =some (.int .i64 x):=by unfold iv;rw[List.getElem?_map,hx];rfl
     have hbgj:(bg F k)[j]? =some x.toNat:=by rw[Q3k HRK.out,List.getElem?_map,hx];rfl
     have HBG:=Q2 hbgj;clear hbgj;obtain⟨S,hS⟩:∃S,S=((bg F k).take j).foldl (fun S x=>Vv S k x) ((List.range k).foldl (Ym F) (iter (J8 F) t (F.map Km))):=⟨_,rfl⟩;have hSl:S.length=i:=by rw[hS,Q0p,Kl,Yp,List.length_map];exact HLEN.out
     rw[<- hS];have HS:=Q2 hS;clear hS;have hxS:x.toNat<S.length:=by omega
     have hkS:k<S.length:=by omega
     repeat(first|refine Q4 zM ?_|refine Q4 zA ?_|refine Q4 (zi1 (hj:=hjn)) ?_|refine Q4 Q8l ?_|refine Q4 (Xq rfl rfl Q1 rfl rfl (fun w hw=>hw.cell_rd 0 rfl hxj)) ?_|refine Q4 (Xs (cs:=QM (S.getD x.toNat XH)) rfl rfl Q1 rfl rfl (fun w hw=>hw.range_sets 1 rfl hxS) (X3 _)) ?_|refine Qe ?_|refine Qa ?_|refine Q6 ?_|refine Qq ?_|refine Q9 rfl ?_|refine Qh ?_|refine Q4 zlt ?_)
     obtain⟨st,hst⟩:∃st,st=S.getD x.toNat XH:=⟨_,rfl⟩;rw[<- hst];have HST:=Q2 hst;clear hst;refine QN (ι:=Nat) (fun cc=>cc<=256) (fun cc=>256 - cc) (fun cc=>[(1,.pointer KF),(3,.slice (some ⟨br,0,none⟩) i c'),(6,.int .i64 (k:Int)),(27,.int .i64 (i:Int)),(28,.int .i64 (t:Int)),(31,.slice (some ⟨b,o,none⟩) i c),(32,.int .i64 (i:Int)),(33,.int .i64 (k:Int)),(39,.slice (some ⟨b2,o2,none⟩) (bl rk).length c2),(40,.int .i64 ((bl rk).length:Int)),(41,.int .i64 (j:Int)),(48,.agg (QM st).toArray),(49,.int .i64 (cc:Int))]) (fun cc=>[.rd (some ⟨b2,o2,none⟩) (bl rk).length 1 (iv (bl rk)),.row (some ⟨br,0,none⟩) i c' 92 256 (QW (Ks S k st cc)),.blk bf (.cells [.slice (some ⟨b,o,none⟩) i c].toArray 24 (0,0))]) 0 [0,1,2] Q1 Ze (.cons rfl rfl (.cons rfl rfl (.cons rfl rfl (.cons rfl rfl Qmo)))) (by rw[Qij S k st hkS];rfl) ?_;rintro cc hcc;by_cases hcn:cc<256
     ·have hlt:k*256+cc<i*256:=by omega
      have hcell0:=Q3A (Ks S k st cc) k cc (by rw[Q3x];exact hkS) hcn;rw[QbL S k st cc hkS] at hcell0;have hcell:(QW (Ks S k st cc))[0+k*256+cc*1]? =some (.bool ((S.getD k XH) cc)):=by
       rw[Nat.zero_add,Nat.mul_one,hcell0];show some (Value.bool (if cc<cc then _ else _))=_;rw[if_neg (Nat.lt_irrefl _)]
      clear hcell0;obtain⟨bb,hbb⟩:∃bb,(S.getD k XH) cc=bb:=⟨_,rfl⟩;rw[hbb] at hcell;have HB:=Q2 hbb;clear hbb;cases bb with
      |true=>
       skip;refine QsD ?_
       refine QsX ?_;refine Qn 10 rfl Q5 Xj zS ?_;refine Qn 11 rfl Q5 Xj zY ?_;refine Qo7 ?_;refine QI 14 Q5 rfl rfl Qn0 (fun _=>.inl Q1) rfl (fun _ _=>?_);refine Xu ?_ Q5;refine QkI ?_
       refine QqT ?_;show [_,Qb.row _ _ _ _ _ ((QW (Ks S k st cc)).set (0+k*256+cc*1) (.bool true)),_]=[_,Qb.row _ _ _ _ _ (QW (Ks S k st (cc+1))),_];exact QmW
      |false=>
       skip;refine QsD ?_
       refine QsX ?_;refine Qn 10 rfl Q5 Xj zM ?_;refine Qn 11 rfl Q5 Xj zN ?_;refine Qo7 ?_;refine QI 14 Q5 rfl rfl Qn0 (fun _=>.inl Q1) rfl (fun _ _=>?_);refine Xu ?_ Q5;refine QkI ?_
       refine QqT ?_;show [_,Qb.row _ _ _ _ _ ((QW (Ks S k st cc)).set (0+k*256+cc*1) (.bool (st cc))),_]=[_,Qb.row _ _ _ _ _ (QW (Ks S k st (cc+1))),_];exact QmW
     ·skip
      refine QgQ ?_
      refine Qt (j+1) [0,1,2] Q1 Q3 (by show (bl rk).length - (j+1)<(bl rk).length - j;omega) (.cons rfl rfl (.cons rfl rfl (.cons rfl rfl (.cons rfl rfl Q3B)))) ?_;obtain rfl:cc=256:=by omega
      show [_,Qb.row _ _ _ _ _ (QW (Ks S k st 256)),_]=[_,Qb.row _ _ _ _ _ (QW (((bg F k).take (j+1)).foldl (fun S x=>Vv S k x) _)),_];rw[HST.out,QkX S k x.toNat hkS,List.take_add_one,HBG.out,Option.toList_some,List.foldl_append,<- HS.out];rfl
    ·skip
     refine QgQ ?_
     refine Qt (k+1) [1,2] Q1 hkn Q3 Q3B ?_;show [Qb.row _ _ _ _ _ _,_]=[Qb.row _ _ _ _ _ (QW ((List.range (k+1)).foldl (Ym F) _)),_];rw[List.range_succ,List.foldl_append,List.take_of_length_le (by rw[Q3k HRK.out,List.length_map];omega)];rfl
   ·skip
    refine QgQ ?_
    refine Qt (t+1) [0,1] Q1 htn Q3 mc2 ?_;have hkk:k=F.length:=by rw[HLEN.out];omega
    subst hkk;rfl
  ·skip
   repeat(first|refine Q4 zM ?_|refine Q4 zA ?_|refine Qe ?_|refine Qa ?_|refine Q6 ?_|refine Q8 rfl ?_|refine XS ?_|refine QB ?_|refine Q4 zlf ?_)
   have htt:t=F.length:=by rw[HLEN.out];omega
   refine Q7 mc4 rfl (.tmp rfl) (fun w hw=>⟨br,c',rfl,?_,⟨?_,fun _=>⟨br,0,rfl,(hw.own 0 _ rfl).lt rfl,fun j u hu=>?_⟩⟩,hw.k.below⟩)
   ·rcases Nat.lt_or_ge br W.heap.size with h|h
    ·have:=hw.new 0 _ br rfl rfl h
     exact Q2e
    ·exact h
   ·unfold Vz;rw[Q8p,Yp,List.length_map,HLEN.out]
   ·rw[Nat.zero_add];refine hw.cell_row 0 rfl ?_;rw[htt];exact hu
end
section
variable {B B' b o:Nat}{F p:VF}{d:Nd}{v:Value}{w w':World}
def Hd(w:World)(B:Nat)(d:Nd)(np:Nat)(Q:Nat->Nat->Prop)(sb sn sp:Value):Prop:=
 ∃Ab nb cb An nn cn Ap cp,sb=.slice Ab nb cb/\sn=.slice An nn cn/\sp=.slice Ap np cp/\nb<=cb/\nn<=cn/\np<=cp/\cp<=maxLen/\
  Rd w B 1 Ab nb (bv d.bs)/\Rd w B 1 An nn (sv d.ns)/\(0<np->∃b o,Ap=some ⟨b,o,none⟩/\b<B/\Q b o)
def Yk(w:World)(b o:Nat)(d:Nd)(sb sn sp:Value):Prop:=
 w.cell? ⟨b,o,none⟩=some (.int .i64 d.k)/\w.cell? ⟨b,o+1,none⟩=some (.int .i64 d.n)/\w.cell? ⟨b,o+2,none⟩=some sb/\w.cell? ⟨b,o+3,none⟩=some sn/\w.cell? ⟨b,o+4,none⟩=some sp
def FIn(w:World)(B:Nat):VF->Nat->Nat->Prop
 |.nil,_,_=>True
 |.cons d p r,b,o=>(∃sb sn sp,Yk w b o d sb sn sp/\Hd w B d p.len (FIn w B p) sb sn sp)/\FIn w B r b (o+5)
def QfK(d:Nd):Prop:=-9223372036854775808<=d.k/\d.k<=9223372036854775807/\-9223372036854775808<=d.n/\d.n<=9223372036854775807
def VIn(w:World)(B:Nat)(v:Value)(d:Nd)(p:VF):Prop:=
 ∃sb sn sp,v=.agg #[.int .i64 d.k,.int .i64 d.n,sb,sn,sp]/\Hd w B d p.len (FIn w B p) sb sn sp
theorem Hd.mono{np:Nat}{Q Q':Nat->Nat->Prop}{sb sn sp:Value}(h:Hd w B d np Q sb sn sp)(hk:∀p:Addr,p.block<B->w'.cell? p=w.cell? p)(hB:B<=B')(hQ:∀b o,b<B->Q b o->Q' b o):Hd w' B' d np Q' sb sn sp:=by
 obtain⟨Ab,nb,cb,An,nn,cn,Ap,cp,h1,h2,h3,h4,h5,h6,h6',h7,h8,h9⟩:=h;refine⟨Ab,nb,cb,An,nn,cn,Ap,cp,h1,h2,h3,h4,h5,h6,h6',(h7.keep hk).more hB,(h8.keep hk).more hB,fun h0=>?_⟩;obtain⟨b,o,e,hb,hq⟩:=h9 h0;exact⟨b,o,e,by omega,hQ b o hb hq⟩
theorem FIn.keep(hk:∀p:Addr,p.block<B->w'.cell? p=w.cell? p)(hB:B<=B'):∀(F:VF) (b o:Nat),b<B->FIn w B F b o->FIn w' B' F b o:=by
 intro F;induction F with
 |nil=>intro b o _ _;trivial
 |cons d p r ih1 ih2=>
  rintro b o hb ⟨⟨sb,sn,sp,⟨c0,c1,c2,c3,c4⟩,hd⟩,hr⟩;refine⟨⟨sb,sn,sp,⟨(hk _ hb).trans c0,(hk _ hb).trans c1,(hk _ hb).trans c2,(hk _ hb).trans c3,(hk _ hb).trans c4⟩,hd.mono hk hB ih1⟩,ih2 b _ hb hr⟩
theorem VIn.keep{w w':World}{B B':Nat}{v:Value}{d:Nd}{p:VF}(h:VIn w B v d p)(hk:∀p:Addr,p.block<B->w'.cell? p=w.cell? p)(hB:B<=B'):VIn w' B' v d p:=by
 obtain⟨sb,sn,sp,e,h⟩:=h;exact⟨sb,sn,sp,e,h.mono hk hB (FIn.keep hk hB p)⟩
theorem VIn.below(h:VIn w B v d p)(hb:Below B' w w')(h1:B<=B'):VIn w' B v d p:=h.keep (fun q hq=>hb.cell Q3) Xk
theorem VIn.on(h:VIn w w.heap.size v d p)(hb:Below w.heap.size w w'):VIn w' w'.heap.size v d p:=h.keep Qa1 hb.size
theorem FIn.below(h:FIn w B F b o)(hb0:b<B)(hb:Below B' w w')(h1:B<=B'):FIn w' B F b o:=FIn.keep (fun q hq=>hb.cell Q3) Xk F b o hb0 h
theorem FIn.on(h:FIn w w.heap.size F b o)(hb0:b<w.heap.size)(hb:Below w.heap.size w w'):FIn w' w'.heap.size F b o:=FIn.keep Qa1 hb.size F b o hb0 h
theorem FIn.drop:∀(F:VF) (b o i:Nat),FIn w B F b o->FIn w B (F.drop i) b (o+i*5):=by
 intro F;induction F with
 |nil=>intro b o i _;cases i<;>trivial
 |cons d p r _ ih=>
  intro b o i h;cases i with
  |zero=>rw[Nat.zero_mul,Nat.add_zero];exact h
  |succ i=>
   have:=ih b (o+5) i h.2;rw[show o+(i+1)*5=o+5+i*5 by omega];exact this
theorem FIn.at_{i:Nat}{r:VF}(h:FIn w B F b o)(hd:F.drop i=.cons d p r):∃sb sn sp,Yk w b (o+i*5) d sb sn sp/\Hd w B d p.len (FIn w B p) sb sn sp:=by
 have:=FIn.drop F b o i h;rw[hd] at this;exact this.1
end
section
variable {Ab An Ap:Option Addr}{cb cn cp nb nn np:Nat}{n:Int}{w:World}
theorem Q7N(hn1:(n != 0)=true):
  Calls Tryz.prog 142 #[.agg #[.int .i64 3,.int .i64 n,.slice Ab nb cb,.slice An nn cn,.slice Ap np cp]] w fun e w'=>e=.returned (.int .i64 6)/\Below w.heap.size w w':=by
 have hmf:=Za;go_enter Tryz.func142,Tryz.ntmps142;go_wp2_with fail
 refine(Qp (t:=true) [1,2,3,4] 3 X6 rfl rfl (by repeat(first|exact X7 _ _ _ _ _ _ _|refine Qf ?_)) Q1 Q1).mono ?_;rintro e w' ⟨rfl,rfl⟩;go_wp2_with fail
 refine(Qp (t:=false) [1] 3 X6 rfl rfl (by repeat(first|exact X7 _ _ _ _ _ _ _|refine Qf ?_)) Q1 Q1).mono ?_;rintro e w' ⟨rfl,rfl⟩;go_wp2_with fail
 go_ret;exact⟨rfl,(by repeat(first|exact Below.refl _ _|(refine Below.alloc ?_ Zw _)))⟩
theorem Q5q(hn0:(n != 0)=false)(hb1:0<nb):
  Calls Tryz.prog 142 #[.agg #[.int .i64 3,.int .i64 n,.slice Ab nb cb,.slice An nn cn,.slice Ap np cp]] w fun e w'=>e=.returned (.int .i64 6)/\Below w.heap.size w w':=by
 have hmf:=Za;have hb1':(0:Int)<(nb:Int):=by omega
 go_enter Tryz.func142,Tryz.ntmps142;go_wp2_with fail
 refine(Qp (t:=true) [1,2,3,4] 3 X6 rfl rfl (by repeat(first|exact X7 _ _ _ _ _ _ _|refine Qf ?_)) Q1 Q1).mono ?_;rintro e w' ⟨rfl,rfl⟩;go_wp2_with fail
 refine(Qp (t:=false) [2] 3 X6 rfl rfl (by repeat(first|exact X7 _ _ _ _ _ _ _|refine Qf ?_)) Q1 Q1).mono ?_;rintro e w' ⟨rfl,rfl⟩;go_wp2_with fail
 go_ret;exact⟨rfl,(by repeat(first|exact Below.refl _ _|(refine Below.alloc ?_ Zw _)))⟩
theorem Q33(hn0:(n != 0)=false)(hb0:nb=0)(hs1:0<nn):
  Calls Tryz.prog 142 #[.agg #[.int .i64 3,.int .i64 n,.slice Ab nb cb,.slice An nn cn,.slice Ap np cp]] w fun e w'=>e=.returned (.int .i64 6)/\Below w.heap.size w w':=by
 have hmf:=Za;subst hb0;have hs1':(0:Int)<(nn:Int):=by omega
 go_enter Tryz.func142,Tryz.ntmps142;go_wp2_with fail
 refine(Qp (t:=true) [1,2,3,4] 3 X6 rfl rfl (by repeat(first|exact X7 _ _ _ _ _ _ _|refine Qf ?_)) Q1 Q1).mono ?_;rintro e w' ⟨rfl,rfl⟩;go_wp2_with fail
 refine(Qp (t:=false) [4] 3 X6 rfl rfl (by repeat(first|exact X7 _ _ _ _ _ _ _|refine Qf ?_)) Q1 Q1).mono ?_;rintro e w' ⟨rfl,rfl⟩;go_wp2_with fail
 go_ret;exact⟨rfl,(by repeat(first|exact Below.refl _ _|(refine Below.alloc ?_ Zw _)))⟩
theorem Q7X(hn1:(n != 0)=true):
  Calls Tryz.prog 142 #[.agg #[.int .i64 4,.int .i64 n,.slice Ab nb cb,.slice An nn cn,.slice Ap np cp]] w fun e w'=>e=.returned (.int .i64 6)/\Below w.heap.size w w':=by
 have hmf:=Za;go_enter Tryz.func142,Tryz.ntmps142;go_wp2_with fail
 refine(Qp (t:=true) [1,2,3,4] 4 X6 rfl rfl (by repeat(first|exact X7 _ _ _ _ _ _ _|refine Qf ?_)) Q1 Q1).mono ?_;rintro e w' ⟨rfl,rfl⟩;go_wp2_with fail
 refine(Qp (t:=false) [1] 4 X6 rfl rfl (by repeat(first|exact X7 _ _ _ _ _ _ _|refine Qf ?_)) Q1 Q1).mono ?_;rintro e w' ⟨rfl,rfl⟩;go_wp2_with fail
 go_ret;exact⟨rfl,(by repeat(first|exact Below.refl _ _|(refine Below.alloc ?_ Zw _)))⟩
theorem Q5m(hn0:(n != 0)=false)(hb1:0<nb):
  Calls Tryz.prog 142 #[.agg #[.int .i64 4,.int .i64 n,.slice Ab nb cb,.slice An nn cn,.slice Ap np cp]] w fun e w'=>e=.returned (.int .i64 6)/\Below w.heap.size w w':=by
 have hmf:=Za;have hb1':(0:Int)<(nb:Int):=by omega
 go_enter Tryz.func142,Tryz.ntmps142;go_wp2_with fail
 refine(Qp (t:=true) [1,2,3,4] 4 X6 rfl rfl (by repeat(first|exact X7 _ _ _ _ _ _ _|refine Qf ?_)) Q1 Q1).mono ?_;rintro e w' ⟨rfl,rfl⟩;go_wp2_with fail
 refine(Qp (t:=false) [2] 4 X6 rfl rfl (by repeat(first|exact X7 _ _ _ _ _ _ _|refine Qf ?_)) Q1 Q1).mono ?_;rintro e w' ⟨rfl,rfl⟩;go_wp2_with fail
 go_ret;exact⟨rfl,(by repeat(first|exact Below.refl _ _|(refine Below.alloc ?_ Zw _)))⟩
theorem Q0h(hn0:(n != 0)=false)(hb0:nb=0)(hs1:0<nn)(hp1:0<np)(hne:¬nn=np):
  Calls Tryz.prog 142 #[.agg #[.int .i64 4,.int .i64 n,.slice Ab nb cb,.slice An nn cn,.slice Ap np cp]] w fun e w'=>e=.returned (.int .i64 6)/\Below w.heap.size w w':=by
 have hmf:=Za;subst hb0;have hs1':(0:Int)<(nn:Int):=by omega
 have hp1':(0:Int)<(np:Int):=by omega
 have hne':((nn:Int) != (np:Int))=true:=by rw[bne_iff_ne];omega
 clear hne;go_enter Tryz.func142,Tryz.ntmps142;go_wp2_with fail
 refine(Qp (t:=true) [1,2,3,4] 4 X6 rfl rfl (by repeat(first|exact X7 _ _ _ _ _ _ _|refine Qf ?_)) Q1 Q1).mono ?_;rintro e w' ⟨rfl,rfl⟩;go_wp2_with fail
 refine(Qp (t:=true) [4] 4 X6 rfl rfl (by repeat(first|exact X7 _ _ _ _ _ _ _|refine Qf ?_)) Q1 Q1).mono ?_;rintro e w' ⟨rfl,rfl⟩;go_wp2_with fail
 refine(Qp (t:=true) [3,4] 4 X6 rfl rfl (by repeat(first|exact X7 _ _ _ _ _ _ _|refine Qf ?_)) Q1 Q1).mono ?_;rintro e w' ⟨rfl,rfl⟩;go_wp2_with fail
 refine(Qp (t:=true) [4] 4 X6 rfl rfl (by repeat(first|exact X7 _ _ _ _ _ _ _|refine Qf ?_)) Q1 Q1).mono ?_;rintro e w' ⟨rfl,rfl⟩;go_wp2_with fail
 go_ret;exact⟨rfl,(by repeat(first|exact Below.refl _ _|(refine Below.alloc ?_ Zw _)))⟩
theorem Q00(hn0:(n != 0)=false)(hb0:nb=0)(hs1:0<nn)(hp0:np=0)(hne:¬nn=np):
  Calls Tryz.prog 142 #[.agg #[.int .i64 4,.int .i64 n,.slice Ab nb cb,.slice An nn cn,.slice Ap np cp]] w fun e w'=>e=.returned (.int .i64 6)/\Below w.heap.size w w':=by
 have hmf:=Za;subst hb0;have hs1':(0:Int)<(nn:Int):=by omega
 subst hp0;have hne':((nn:Int) != (0:Int))=true:=by rw[bne_iff_ne];omega
 clear hne;go_enter Tryz.func142,Tryz.ntmps142;go_wp2_with fail
 refine(Qp (t:=true) [1,2,3,4] 4 X6 rfl rfl (by repeat(first|exact X7 _ _ _ _ _ _ _|refine Qf ?_)) Q1 Q1).mono ?_;rintro e w' ⟨rfl,rfl⟩;go_wp2_with fail
 refine(Qp (t:=true) [4] 4 X6 rfl rfl (by repeat(first|exact X7 _ _ _ _ _ _ _|refine Qf ?_)) Q1 Q1).mono ?_;rintro e w' ⟨rfl,rfl⟩;go_wp2_with fail
 refine(Qp (t:=true) [4] 4 X6 rfl rfl (by repeat(first|exact X7 _ _ _ _ _ _ _|refine Qf ?_)) Q1 Q1).mono ?_;rintro e w' ⟨rfl,rfl⟩;go_wp2_with fail
 go_ret;exact⟨rfl,(by repeat(first|exact Below.refl _ _|(refine Below.alloc ?_ Zw _)))⟩
theorem Q0z(hn0:(n != 0)=false)(hb0:nb=0)(hs0:nn=0)(hp1:0<np)(hne:¬nn=np):
  Calls Tryz.prog 142 #[.agg #[.int .i64 4,.int .i64 n,.slice Ab nb cb,.slice An nn cn,.slice Ap np cp]] w fun e w'=>e=.returned (.int .i64 6)/\Below w.heap.size w w':=by
 have hmf:=Za;subst hb0;subst hs0;have hp1':(0:Int)<(np:Int):=by omega
 have hne':((0:Int) != (np:Int))=true:=by rw[bne_iff_ne];omega
 clear hne;go_enter Tryz.func142,Tryz.ntmps142;go_wp2_with fail
 refine(Qp (t:=true) [1,2,3,4] 4 X6 rfl rfl (by repeat(first|exact X7 _ _ _ _ _ _ _|refine Qf ?_)) Q1 Q1).mono ?_;rintro e w' ⟨rfl,rfl⟩;go_wp2_with fail
 refine(Qp (t:=true) [3,4] 4 X6 rfl rfl (by repeat(first|exact X7 _ _ _ _ _ _ _|refine Qf ?_)) Q1 Q1).mono ?_;rintro e w' ⟨rfl,rfl⟩;go_wp2_with fail
 refine(Qp (t:=true) [4] 4 X6 rfl rfl (by repeat(first|exact X7 _ _ _ _ _ _ _|refine Qf ?_)) Q1 Q1).mono ?_;rintro e w' ⟨rfl,rfl⟩;go_wp2_with fail
 go_ret;exact⟨rfl,(by repeat(first|exact Below.refl _ _|(refine Below.alloc ?_ Zw _)))⟩
end
end Go.Proofs.YtphkhfdmlcnoeaaGreatDoor
