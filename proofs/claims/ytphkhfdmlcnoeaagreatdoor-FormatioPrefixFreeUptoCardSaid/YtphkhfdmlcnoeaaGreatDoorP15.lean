import Derived.Test.YtphkhfdmlcnoeaaGreatDoorP14
namespace Go.Proofs.YtphkhfdmlcnoeaaGreatDoor
set_option linter.unusedVariables false
set_option linter.unusedSimpArgs false
open Go.RowKit
structure ROk(n:Nat)(r:Rl):Prop where
 kind:1≤r.kind∧r.kind≤10
 formed:Vd r.kind r.size r.big r.mn r.mx r.stop r.count r.elem r.bs.length r.names.length r.parts.length=true
 bs1:r.kind=1→0<r.bs.length
 bs16:r.bs.length≤16
 seven:r.kind=7→r.names.length=r.parts.length∧1≤r.parts.length
 eight:r.kind=8→2≤r.parts.length
 p12:r.parts.length≤12
 parts:(r.kind=7∨r.kind=8)→∀x∈r.parts,0≤x∧x<n
 count:(r.kind=6∨r.kind=10)→0≤r.count∧r.count<n
 elem:(r.kind=6∨r.kind=9)→0≤r.elem∧r.elem<n
 num:r.kind=2→1≤r.size∧r.size≤4∧0≤r.mn∧r.mn≤r.mx∧r.mx<256 ^ r.size.toNat
 dec:r.kind=3→0≤r.mx∧r.mx≤999999999∧¬(48≤r.stop∧r.stop≤57)
 stop:(r.kind=3∨r.kind=5∨r.kind=9)→0≤r.stop∧r.stop≤255
 size4:r.kind=4→1≤r.size∧r.size≤1000
 size5:r.kind=5→0≤r.size∧r.size≤1000
theorem Xr{n a b:Int}:inB n a b=true↔a≤n∧n≤b:=by unfold inB;simp
theorem Qep{r:Rl}{early:List Rl}{n:Nat}(h:X1 r early n=0):ROk n r:=by
 unfold X1 at h
 split at h
 ·cases h
 split at h
 ·cases h
 split at h
 ·cases h
 next h3=>
 split at h
 ·cases h
 next h4=>
 split at h
 ·cases h
 next h5=>
 split at h
 ·cases h
 next h6=>
 split at h
 ·cases h
 next h7=>
 split at h
 ·cases h
 next h8=>
 split at h
 ·cases h
 next h9=>
 split at h
 ·cases h
 next h10=>
 split at h
 ·cases h
 next h11=>
 have hk:1≤r.kind∧r.kind≤10:=Xr.1 (by simpa using h3)
 have hf:Vd r.kind r.size r.big r.mn r.mx r.stop r.count r.elem r.bs.length r.names.length r.parts.length=true:=by simpa using h4
 have hr:Qs r.kind r.size r.mn r.mx r.stop r.count r.elem r.parts n=true:=by simpa using h11
 clear h h3 h4 h11
 simp only[Bool.and_eq_true,beq_iff_eq,bne_iff_ne,decide_eq_true_eq,not_and,ne_eq,Decidable.not_not] at h5 h6 h7 h8 h9 h10
 refine⟨hk,hf,fun h=>?_,by omega,fun h=>⟨?_,?_⟩,fun h=>?_,by omega,?_,?_,?_,?_,?_,?_,?_,?_⟩
 ·have:=h5 h;omega
 ·have:=h7 h;omega
 ·have:=h8 h;omega
 ·have:=h9 h;omega
 ·rintro(h|h) x hx<;>
  ·rw[Qs,if_neg (by omega),if_neg (by omega),if_neg (by omega),if_neg (by omega),if_neg (by omega),if_neg (by omega),if_neg (by omega)] at hr
   have h2:r.parts.any (fun x=>!(inB x 0 ((n:Int) - 1)))=false:=by simpa using hr
   have:=List.any_eq_false.1 h2 x hx;have:=Xr.1 (by simpa using this)
   omega
 ·rintro(h|h)
  ·rw[Qs,if_neg (by omega),if_neg (by omega),if_neg (by omega),if_neg (by omega),if_neg (by omega),if_pos h,Bool.and_eq_true,Xr,Xr] at hr
   omega
  ·rw[Qs,if_neg (by omega),if_neg (by omega),if_neg (by omega),if_neg (by omega),if_neg (by omega),if_neg (by omega),if_pos h,Xr] at hr
   omega
 ·rintro(h|h)
  ·rw[Qs,if_neg (by omega),if_neg (by omega),if_neg (by omega),if_neg (by omega),if_neg (by omega),if_pos h,Bool.and_eq_true,Xr,Xr] at hr
   omega
  ·rw[Qs,if_neg (by omega),if_neg (by omega),if_neg (by omega),if_neg (by omega),if_pos h,Bool.and_eq_true,Xr,Xr] at hr
   omega
 ·intro h;rw[Qs,if_pos h,Bool.and_eq_true,Bool.and_eq_true,Xr,Xr,decide_eq_true_eq] at hr;exact⟨hr.1.1,hr.1.2,hr.2.1.1,hr.2.1.2,hr.2.2⟩
 ·intro h;rw[Qs,if_neg (by omega),if_pos h,Bool.and_eq_true,Bool.and_eq_true,Xr,Xr] at hr;refine⟨hr.1.1,hr.1.2,fun h'=>?_⟩;have:=hr.2.2;rw[Xr.2 h'] at this
  cases this
 ·rintro(h|h|h)
  ·rw[Qs,if_neg (by omega),if_pos h,Bool.and_eq_true,Bool.and_eq_true,Xr,Xr] at hr;exact hr.2.1
  ·rw[Qs,if_neg (by omega),if_neg (by omega),if_neg (by omega),if_pos h,Bool.and_eq_true,Xr,Xr] at hr;exact hr.2
  ·rw[Qs,if_neg (by omega),if_neg (by omega),if_neg (by omega),if_neg (by omega),if_pos h,Bool.and_eq_true,Xr,Xr] at hr;exact hr.1
 ·intro h;rw[Qs,if_neg (by omega),if_neg (by omega),if_pos h,Xr] at hr;exact hr
 ·intro h;rw[Qs,if_neg (by omega),if_neg (by omega),if_neg (by omega),if_pos h,Bool.and_eq_true,Xr,Xr] at hr;exact hr.1
def FOk(F:List Rl):Prop:=∀(i:Nat) (r:Rl),F[i]? =some r→ROk F.length r
def bl(r:Rl):List Int:=Xs r.kind r.count r.elem r.parts
theorem Q2y{n:Nat}{r:Rl}(h:ROk n r):∀x∈bl r,0≤x∧x<n:=by
 intro x hx
 unfold bl Xs at hx
 split at hx
 ·next hk=>rw[List.mem_singleton] at hx;subst hx;exact h.count hk
 split at hx
 ·next hk=>exact h.parts (.inl hk) x (List.mem_of_mem_take hx)
 split at hx
 ·next hk=>exact h.parts (.inr hk) x hx
 split at hx
 ·next hk=>rw[List.mem_singleton] at hx;subst hx;exact h.elem (.inr hk)
 ·cases hx
theorem Q52{n:Nat}{r:Rl}(h:ROk n r):(bl r).length≤12:=by
 unfold bl Xs
 split
 ·simp
 split
 ·have:=h.p12;rw[List.length_take]
  omega
 split
 ·exact h.p12
 split
 ·simp
 ·simp
theorem Q1T{F:List Rl}{i:Nat}{r:Rl}(h:F[i]? =some r):bg F i=(bl r).map Int.toNat:=by unfold bg;rw[h];rfl
theorem FOk.bd{F:List Rl}(h:FOk F):Bd F:=by
 intro i x hx
 cases hr:F[i]? with
 |none=>unfold bg at hx;rw[hr] at hx;cases hx
 |some r=>
  rw[Q1T hr,List.mem_map] at hx;obtain⟨y,hy,rfl⟩:=hx;have:=Q2y (h i r hr) y hy
  omega
def J3(l:List Bool):List Value:=l.map .bool
theorem Q1c{l:List Bool}{i:Nat}(h:i<l.length):(J3 l)[i]? =some (.bool (l.getD i false)):=by
 unfold J3
 rw[List.getElem?_map,List.getElem?_eq_getElem h,List.getD_eq_getElem?_getD,List.getElem?_eq_getElem h]
 rfl
theorem Q1E(l:List Bool)(i:Nat)(b:Bool):(J3 l).set i (.bool b)=J3 (l.set i b):=by
 unfold J3
 rw[List.map_set]
theorem QdW(n:Nat):(Go.madeCells #[.bool false] (n*1)).toList=J3 (List.replicate n false):=by
 refine List.ext_getElem? fun i=>?_
 unfold J3 Go.madeCells
 rw[List.getElem?_map]
 by_cases h:i<n
 ·simp [h,Nat.mod_one]
 ·simp [h]
def Q1g(F:List Rl)(k:Nat):Bool:=(V4 F k).getD k false
theorem Q0I{F:List Rl}(hb:Bd F){k:Nat}(hk:k<F.length):Q1g F k=true↔Rch F k k:=VH hb hk k
structure Cy where
 seen:List Bool
 qs:List Int
 b:Nat
 q:Nat
 c:Nat
 cur:List Value
def V5(s:Cy)(n:Nat):Nat:=cnt (fun i=>!(s.seen.getD i false)) n
structure CyP(F:List Rl)(k:Nat)(s:Cy):Prop where
 len:s.seen.length=F.length
 win:Q2j s.q s.qs.length s.c s.cur (iv s.qs)
 inn:∀x∈s.qs,0≤x∧x<F.length
 sound:∀x∈s.qs,Rch F k x.toNat
 start:∀x∈bg F k,s.seen.getD x false=true∨(x:Int)∈s.qs
 closed:∀i,s.seen.getD i false=true→∀x∈bg F i,s.seen.getD x false=true∨(x:Int)∈s.qs
 notk:s.seen.getD k false=false
 small:13*V5 s F.length+s.qs.length≤13*F.length+12
theorem CyP.old{F:List Rl}{k:Nat}{s:Cy}{x:Int}{t:List Int}(h:CyP F k s)(hq:s.qs=x::t)(hx:s.seen.getD x.toNat false=true)(hxn:0≤x){q' c':Nat}(hw:Q2j q' t.length c' s.cur (iv t)):CyP F k { s with qs:=t,q:=q',c:=c' }:=by
 have hmem:∀y:Nat,(y:Int)∈s.qs→s.seen.getD y false=true∨(y:Int)∈t:=by
  intro y hy;rw[hq] at hy
  rcases List.mem_cons.1 hy with e|e
  ·left;rw[← e] at hx;simpa using hx
  ·exact .inr e
 refine⟨h.len,hw,fun y hy=>h.inn y (by rw[hq];exact List.mem_cons_of_mem _ hy),fun y hy=>h.sound y (by rw[hq];exact List.mem_cons_of_mem _ hy),?_,?_,h.notk,?_⟩
 ·intro y hy
  rcases h.start y hy with h1|h1
  ·exact .inl h1
  ·exact hmem y h1
 ·intro i hi y hy
  rcases h.closed i hi y hy with h1|h1
  ·exact .inl h1
  ·exact hmem y h1
 ·have h1:=h.small;rw[hq] at h1
  simp only[List.length_cons] at h1
  show 13*V5 s F.length+t.length≤_
  omega
theorem CyP.new{F:List Rl}(hF:FOk F){k:Nat}{s:Cy}{x:Int}{t:List Int}{r:Rl}(h:CyP F k s)(hq:s.qs=x::t)(hr:F[x.toNat]? =some r)(hx:s.seen.getD x.toNat false=false)(hne:x≠(k:Int)){b' q' c':Nat}{cur':List Value}(hw:Q2j q' (t++bl r).length c' cur' (iv (t++bl r))):
  CyP F k { seen:=s.seen.set x.toNat true,qs:=t++bl r,b:=b',q:=q',c:=c',cur:=cur' }∧13*V5 { seen:=s.seen.set x.toNat true,qs:=t++bl r,b:=b',q:=q',c:=c',cur:=cur' } F.length+(t++bl r).length<13*V5 s F.length+s.qs.length:=by
 have hxi:=h.inn x (by rw[hq];exact List.mem_cons_self)
 have hxl:x.toNat<s.seen.length:=by rw[h.len];omega
 have hset:∀i,(s.seen.set x.toNat true).getD i false=if i=x.toNat then true else s.seen.getD i false:=fun i=>ZI _ _ _ _ hxl
 have hbl:=Q52 (hF _ _ hr)
 have hlt:V5 { seen:=s.seen.set x.toNat true,qs:=t++bl r,b:=b',q:=q',c:=c',cur:=cur' } F.length<V5 s F.length:=by
  refine Q38 F.length (fun i hi hh=>?_) ⟨x.toNat,by omega,?_,?_⟩
  ·show (!(s.seen.getD i false))=true
   have hh':(!((s.seen.set x.toNat true).getD i false))=true:=hh;rw[hset] at hh'
   split at hh'
   ·cases hh'
   ·exact hh'
  ·show (!((s.seen.set x.toNat true).getD x.toNat false))=false
   rw[hset,if_pos rfl]
   rfl
  ·show (!(s.seen.getD x.toNat false))=true
   rw[hx]
   rfl
 have hm:13*V5 { seen:=s.seen.set x.toNat true,qs:=t++bl r,b:=b',q:=q',c:=c',cur:=cur' } F.length+(t++bl r).length<13*V5 s F.length+s.qs.length:=by
  rw[hq,List.length_append,List.length_cons]
  omega
 refine⟨⟨by simp [h.len],hw,?_,?_,?_,?_,?_,?_⟩,hm⟩
 ·intro y hy
  rcases List.mem_append.1 hy with e|e
  ·exact h.inn y (by rw[hq];exact List.mem_cons_of_mem _ e)
  ·exact Q2y (hF _ _ hr) y e
 ·intro y hy
  rcases List.mem_append.1 hy with e|e
  ·exact h.sound y (by rw[hq];exact List.mem_cons_of_mem _ e)
  ·refine .more (h.sound x (by rw[hq];exact List.mem_cons_self)) ?_;rw[Q1T hr];exact List.mem_map_of_mem e
 ·intro y hy;rw[hset]
  split
  ·exact .inl rfl
  ·next hyx=>
   rcases h.start y hy with h1|h1
   ·exact .inl h1
   ·rw[hq] at h1
    rcases List.mem_cons.1 h1 with e|e
    ·exact absurd (by omega) hyx
    ·exact .inr (List.mem_append_left _ e)
 ·intro i hi y hy;rw[hset] at hi ⊢
  split
  ·exact .inl rfl
  ·next hyx=>
   split at hi
   ·next hix=>
    subst hix
    right
    rw[Q1T hr,List.mem_map] at hy;obtain⟨z,hz,rfl⟩:=hy;have:=Q2y (hF _ _ hr) z hz;rw[show ((z.toNat:Nat):Int)=z by omega];exact List.mem_append_right _ hz
   ·rcases h.closed i hi y hy with h1|h1
    ·exact .inl h1
    ·rw[hq] at h1
     rcases List.mem_cons.1 h1 with e|e
     ·exact absurd (by omega) hyx
     ·exact .inr (List.mem_append_left _ e)
 ·rw[hset,if_neg (by omega)];exact h.notk
 ·have:=h.small
  show 13*V5 _ F.length+(t++bl r).length≤_
  omega
theorem CyP.done{F:List Rl}(hF:FOk F){k:Nat}(hk:k<F.length){s:Cy}(h:CyP F k s)(hq:s.qs=[]):Q1g F k=false:=by
 cases hc:Q1g F k with
 |false=>rfl
 |true=>
  exfalso
  have hr:=(Q0I hF.bd hk).1 hc
  have hall:∀j,Rch F k j→s.seen.getD j false=true:=by
   intro j hj
   induction hj with
   |one h'=>
    rcases h.start _ h' with h1|h1
    ·exact h1
    ·rw[hq] at h1;cases h1
   |more _ h' ih=>
    rcases h.closed _ ih _ h' with h1|h1
    ·exact h1
    ·rw[hq] at h1;cases h1
  have:=hall k hr;rw[h.notk] at this
  cases this
def Q6E(F:List Rl)(x:Int):Int:=match F[x.toNat]? with|some r=>r.mn|none=>0
theorem Q9s{F:List Rl}{x:Int}{r:Rl}(h:F[x.toNat]? =some r):Q6E F x=r.mn:=by unfold Q6E;rw[h]
def mk(out:List Bool)(x:Int):Bool:=out.getD x.toNat false
def Q0s(F:List Rl)(out:List Bool)(r:Rl):Bool:=
 if r.kind=10 then mk out r.count
 else if r.kind=6 then mk out r.count&&(Q6E F r.count==0||mk out r.elem)
 else if r.kind=7 then !(r.parts.any fun k=>!(mk out k))
 else if r.kind=8 then r.parts.any fun k=>mk out k
 else true
def ZT(F:List Rl)(out:List Bool)(k:Nat):List Bool:=out.set k (out.getD k false||(match F[k]? with|some r=>Q0s F out r|none=>false))
def Jm(F:List Rl)(out:List Bool):List Bool:=(List.range F.length).foldl (ZT F) out
def Vz(F:List Rl):List Bool:=iter (Jm F) F.length (List.replicate F.length false)
structure Q7x(w:World)(g bs n:Nat)(out:List Bool):Prop where
 v:w.cell? ⟨g,0,none⟩=some (.slice (some ⟨bs,0,none⟩) n n)
 at_:∀j,j<n→w.cell? ⟨bs,0+j,none⟩=some (.bool (out.getD j false))
theorem Q7x.on{w w':World}{g bs n:Nat}{out:List Bool}(h:Q7x w g bs n out)(hb:Below w.heap.size w w'):Q7x w' g bs n out:=
 ⟨(hb.cell (Km h.v)).trans h.v,fun j hj=>(hb.cell (Km (h.at_ j hj))).trans (h.at_ j hj)⟩
theorem Q39{W:World}{g bs n:Nat}{out:List Bool}{x:Int}(h:Q7x W g bs n out)(hx:0≤x∧x<n):Calls Tryz.prog 152 #[.int .i64 x,.pointer (some ⟨g,0,none⟩)] W fun e w'=>e=.returned (.bool (mk out x))∧Below W.heap.size W w':=by
 have hv:=h.v;have hc:=h.at_ x.toNat (by omega);clear h
 go_enter Tryz.func152,Tryz.ntmps152
 refine QE (M:=[]) (W:=W) (N:=8) (E:=[(0,.int .i64 x),(1,.pointer (some ⟨g,0,none⟩))]) (O:=[]) ?_ (Ag.cons (Ag.cons (Ag.nil rfl rfl) rfl) rfl) (Wd.start [] W)
 repeat(first|refine Q1 zM ?_|refine Q1 zA ?_|refine Q1 zC ?_|refine Q1 (J2 rfl rfl (by decide) rfl rfl rfl hx) ?_|refine Q8 ?_|refine Q9 ?_|refine Q3 ?_|refine Qr ?_)
 exact Q7 (by exact .inr rfl) rfl (.tmp rfl) (fun w hw=>⟨rfl,hw.k.below⟩)
theorem Qfp(a b:Value):(#[a]++#[b]:Array Value)=#[a,b]:=by simp
theorem QfO(a b c:Value):(#[a]++#[b,c]:Array Value)=#[a,b,c]:=by simp
theorem KO{W:World}{g bs n:Nat}{out:List Bool}{x:Int}(h:Q7x W g bs n out)(hx:0≤x∧x<n):Calls Tryz.prog 152 ([Value.int .i64 x].toArray++#[.pointer (some ⟨g,0,none⟩)]) W fun e w'=>e=.returned (.bool (mk out x))∧Below W.heap.size W w':=by
 rw[show ([Value.int .i64 x].toArray++#[.pointer (some ⟨g,0,none⟩)]:Array Value)=_ from Qfp _ _];exact Q39 h hx
theorem Q7I{W:World}{h g bs n:Nat}{out:List Bool}{x:Int}(hh:W.cell? ⟨h,0,none⟩=some (.func (.func 152) #[] #[.pointer (some ⟨g,0,none⟩)]))(ho:Q7x W g bs n out)(hx:0≤x∧x<n):Calls Tryz.prog 155 #[.int .i64 x,.pointer (some ⟨h,0,none⟩)] W fun e w'=>e=.returned (.bool (!(mk out x)))∧Below W.heap.size W w':=by
 have HO:=Lib.hid ho;clear ho
 go_enter Tryz.func155,Tryz.ntmps155
 refine QE (M:=[]) (W:=W) (N:=8) (E:=[(0,.int .i64 x),(1,.pointer (some ⟨h,0,none⟩))]) (O:=[]) ?_ (Ag.cons (Ag.cons (Ag.nil rfl rfl) rfl) rfl) (Wd.start [] W)
 repeat(first|refine Q1 zM ?_|refine Q1 zA ?_|refine Q1 zC ?_|refine Q1 (ZW (f:=152) rfl rfl (by decide) rfl rfl rfl (fun w hw=>KO (HO.out.on hw.k.below) hx)) ?_|refine Q8 ?_|refine Q9 ?_|refine Q3 ?_|refine Qr ?_|refine Q1 zO ?_)
 exact Q7 (by exact .inr rfl) rfl (.tmp rfl) (fun w hw=>⟨rfl,hw.k.below⟩)
theorem Q6T:KK 152:=fun args W=>by kernel_rfl
theorem Q4U:KK 155:=fun args W=>by kernel_rfl
structure Q62(w:World)(h g bs n:Nat)(out:List Bool)(gf:Nat)(A:Option Addr)(c:Nat):Prop where
 o:Q7x w g bs n out
 h:w.cell? ⟨h,0,none⟩=some (.func (.func 152) #[] #[.pointer (some ⟨g,0,none⟩)])
 f:w.cell? ⟨gf,0,none⟩=some (.slice A n c)
set_option maxRecDepth 100000 in
set_option maxHeartbeats 4000000 in
theorem QeT{F:List Rl}{r:Rl}{A Ab An Ap:Option Addr}{h g bs n gf c cb cn cp:Nat}{out:List Bool}{W:World}(hv:Q62 W h g bs n out gf A c)(hf:Xm W W.heap.size A n F)(hl:RuL W r Ab cb An cn Ap cp)(hr:ROk n r)(hk:r.kind=10):
  Calls Tryz.prog 153 #[.agg (ruC r (.slice Ab r.bs.length cb) (.slice An r.names.length cn) (.slice Ap r.parts.length cp)).toArray,.pointer (some ⟨h,0,none⟩),.pointer (some ⟨gf,0,none⟩)] W fun e w'=>e=.returned (.bool (Q0s F out r))∧Below W.heap.size W w':=by
 have hh:=hv.h;have hff:=hv.f;have HO:=Lib.hid hv.o;have HL:=Lib.hid hl;have HR:=Lib.hid hr;have hp12:=hr.p12;have hcn:=hr.count (.inr hk);clear hv hl hr
 go_enter Tryz.func153,Tryz.ntmps153
 refine QE (M:=[]) (W:=W) (N:=48) (E:=[(0,.agg (ruC r (.slice Ab r.bs.length cb) (.slice An r.names.length cn) (.slice Ap r.parts.length cp)).toArray),(1,.pointer (some ⟨h,0,none⟩)),(2,.pointer (some ⟨gf,0,none⟩))]) (O:=[]) ?_ (Ag.cons (Ag.cons (Ag.cons (Ag.nil rfl rfl) rfl) rfl) rfl) (Wd.start [] W)
 repeat(first|refine Q1 zA ?_|refine Q1 zF ?_|refine Q1 (zB 0) ?_|refine Q1 zC ?_|refine yB fun br=>?_|refine Q1 (ZW (f:=152) rfl rfl (by decide) rfl rfl rfl (fun w hw=>KO (HO.out.on hw.k.below) hcn)) ?_|refine Q8 ?_|refine Q9 ?_|refine Q3 ?_|refine Qa rfl ?_|refine Qr ?_|refine Qi ?_|refine Qf ?_|refine Qg ?_|refine Q1 zet ?_)
 exact Q7 (by exact .inr rfl) rfl (.tmp rfl) (fun w hw=>⟨by rw[Q0s,if_pos hk],hw.k.below⟩)
set_option maxRecDepth 100000 in
set_option maxHeartbeats 4000000 in
theorem QfG{F:List Rl}{r:Rl}{A Ab An Ap:Option Addr}{h g bs n gf c cb cn cp:Nat}{out:List Bool}{W:World}(hv:Q62 W h g bs n out gf A c)(hf:Xm W W.heap.size A n F)(hl:RuL W r Ab cb An cn Ap cp)(hr:ROk n r)(hk:r.kind=6):
  Calls Tryz.prog 153 #[.agg (ruC r (.slice Ab r.bs.length cb) (.slice An r.names.length cn) (.slice Ap r.parts.length cp)).toArray,.pointer (some ⟨h,0,none⟩),.pointer (some ⟨gf,0,none⟩)] W fun e w'=>e=.returned (.bool (Q0s F out r))∧Below W.heap.size W w':=by
 have hh:=hv.h;have hff:=hv.f;have HO:=Lib.hid hv.o;have HL:=Lib.hid hl;have HR:=Lib.hid hr;have hp12:=hr.p12;have hcn:=hr.count (.inl hk);have hen:=hr.elem (.inl hk);have hlen:=hf.1;obtain⟨b,o,rfl⟩:=hf.addr (by omega);obtain⟨rc,Ac,cc,Ad,cd,Ae,ce,hrc,hrg,_⟩:=hf.rl (i:=r.count.toNat) (by omega);have HM:=Lib.hid (Q9s hrc);clear hrc hf hlen;obtain⟨B,hB⟩:∃B,Q0s F out r=B:=⟨_,rfl⟩;have HB:=Lib.hid (show (mk out r.count&&(Q6E F r.count==0||mk out r.elem))=B by rw[← hB,Q0s,if_neg (by omega),if_pos hk]);rw[hB];clear hB;obtain⟨h1,hh1⟩:∃x,mk out r.count=x:=⟨_,rfl⟩;obtain⟨h3,hh3⟩:∃x,mk out r.elem=x:=⟨_,rfl⟩;have H1:=Lib.hid hh1;have H3:=Lib.hid hh3;clear hh1 hh3;clear hv hl hr
 go_enter Tryz.func153,Tryz.ntmps153
 refine QE (M:=[]) (W:=W) (N:=48) (E:=[(0,.agg (ruC r (.slice Ab r.bs.length cb) (.slice An r.names.length cn) (.slice Ap r.parts.length cp)).toArray),(1,.pointer (some ⟨h,0,none⟩)),(2,.pointer (some ⟨gf,0,none⟩))]) (O:=[]) ?_ (Ag.cons (Ag.cons (Ag.cons (Ag.nil rfl rfl) rfl) rfl) rfl) (Wd.start [] W)
 cases h1 with
 |false=>
  repeat(first|refine Q1 zM ?_|refine Q1 zA ?_|refine Q1 zF ?_|refine Q1 zS ?_|refine Q1 (zB 0) ?_|refine Q1 zC ?_|refine yB fun br=>?_|refine Q1 (ZW (v:=.bool false) (f:=152) rfl rfl (by decide) rfl rfl rfl (fun w hw=>(KO (HO.out.on hw.k.below) hcn).mono fun e w' hq=>⟨by rw[hq.1,H1.out],hq.2⟩)) ?_|refine Q8 ?_|refine Q9 ?_|refine Q3 ?_|refine Qa rfl ?_|refine Q6 rfl ?_|refine Qr ?_|refine Qi ?_|refine Qf ?_|refine Qg ?_|refine Q1 zet ?_|refine Q1 zef ?_|refine Q1 zN ?_)
  exact Q7 (by exact .inr rfl) rfl (.tmp rfl) (fun w hw=>⟨by rw[← HB.out,H1.out];rfl,hw.k.below⟩)
 |true=>
  by_cases hm:rc.mn=0
  ·skip
   repeat(first|refine Q1 zM ?_|refine Q1 zA ?_|refine Q1 zF ?_|refine Q1 zS ?_|refine Q1 (zB 0) ?_|refine Q1 zC ?_|refine Q1 (zD 0) ?_|refine Q1 zE ?_|refine yB fun br=>?_|refine Q1 (Qb (f:=57) rfl rfl (by decide) rfl rfl (fun w hw=>Q1U w)) ?_|refine Q1 (ZW (v:=.bool true) (f:=152) rfl rfl (by decide) rfl rfl rfl (fun w hw=>(KO (HO.out.on hw.k.below) hcn).mono fun e w' hq=>⟨by rw[hq.1,H1.out],hq.2⟩)) ?_|refine Q1 (Qm rfl rfl (by decide) rfl rfl rfl hcn) ?_|refine Q8 ?_|refine Q9 ?_|refine Q3 ?_|refine Qa rfl ?_|refine Q6 rfl ?_|refine Qr ?_|refine Qi ?_|refine Qf ?_|refine Qg ?_|refine Q1 zet ?_|refine Q1 zef ?_|refine Q1 zY ?_)
   exact Q7 (by exact .inr rfl) rfl (.tmp rfl) (fun w hw=>⟨by rw[← HB.out,H1.out,HM.out,hm];rfl,hw.k.below⟩)
  ·skip
   repeat(first|refine Q1 zM ?_|refine Q1 zA ?_|refine Q1 zF ?_|refine Q1 (zB 0) ?_|refine Q1 zC ?_|refine Q1 (zD 0) ?_|refine Q1 zE ?_|refine yB fun br=>?_|refine Q1 (Qb (f:=57) rfl rfl (by decide) rfl rfl (fun w hw=>Q1U w)) ?_|refine Q1 (ZW (v:=.bool true) (f:=152) rfl rfl (by decide) rfl rfl rfl (fun w hw=>(KO (HO.out.on hw.k.below) hcn).mono fun e w' hq=>⟨by rw[hq.1,H1.out],hq.2⟩)) ?_|refine Q1 (ZW (v:=.bool h3) (f:=152) rfl rfl (by decide) rfl rfl rfl (fun w hw=>(KO (HO.out.on hw.k.below) hen).mono fun e w' hq=>⟨by rw[hq.1,H3.out],hq.2⟩)) ?_|refine Q1 (Qm rfl rfl (by decide) rfl rfl rfl hcn) ?_|refine Q8 ?_|refine Q9 ?_|refine Q3 ?_|refine Qa rfl ?_|refine Q6 rfl ?_|refine Qr ?_|refine Qi ?_|refine Qf ?_|refine Qg ?_|refine Q1 zet ?_|refine Q1 zef ?_|refine Q1 zY ?_|refine Q1 zN ?_)
   exact Q7 (by exact .inr rfl) rfl (.tmp rfl) (fun w hw=>⟨by rw[← HB.out,H1.out,H3.out,HM.out];simp [hm],hw.k.below⟩)
set_option maxRecDepth 100000 in
set_option maxHeartbeats 4000000 in
theorem Qfk{F:List Rl}{r:Rl}{A Ab An Ap:Option Addr}{h g bs n gf c cb cn cp:Nat}{out:List Bool}{W:World}(hv:Q62 W h g bs n out gf A c)(hf:Xm W W.heap.size A n F)(hl:RuL W r Ab cb An cn Ap cp)(hr:ROk n r)(hk:r.kind=7):
  Calls Tryz.prog 153 #[.agg (ruC r (.slice Ab r.bs.length cb) (.slice An r.names.length cn) (.slice Ap r.parts.length cp)).toArray,.pointer (some ⟨h,0,none⟩),.pointer (some ⟨gf,0,none⟩)] W fun e w'=>e=.returned (.bool (Q0s F out r))∧Below W.heap.size W w':=by
 have hh:=hv.h;have hff:=hv.f;have HO:=Lib.hid hv.o;have HL:=Lib.hid hl;have HR:=Lib.hid hr;have hp12:=hr.p12;have HP:=Lib.hid (hr.parts (.inl hk));clear hv hl hr
 go_enter Tryz.func153,Tryz.ntmps153
 refine QE (M:=[]) (W:=W) (N:=48) (E:=[(0,.agg (ruC r (.slice Ab r.bs.length cb) (.slice An r.names.length cn) (.slice Ap r.parts.length cp)).toArray),(1,.pointer (some ⟨h,0,none⟩)),(2,.pointer (some ⟨gf,0,none⟩))]) (O:=[]) ?_ (Ag.cons (Ag.cons (Ag.cons (Ag.nil rfl rfl) rfl) rfl) rfl) (Wd.start [] W)
 repeat(first|refine Q1 zA ?_|refine Q1 zF ?_|refine Q1 (zB 0) ?_|refine Q1 zC ?_|refine yB fun br=>?_|refine Q1 (Qb (f:=154) rfl rfl (by decide) rfl rfl (fun w hw=>Zz (p:=fun k=>!(mk out k)) (HL.out.on hw.k.below).p (by omega) (fun x y hx=>Q7I (y.b.cell (Km (hw.k.below.cell (Km hh) |>.trans hh)) |>.trans (hw.k.below.cell (Km hh) |>.trans hh)) ((HO.out.on hw.k.below).on y.b) (HP.out x hx)) Q4U)) ?_|refine Q8 ?_|refine Q9 ?_|refine Q3 ?_|refine Qa rfl ?_|refine Q6 rfl ?_|refine Qr ?_|refine Qi ?_|refine Qf ?_|refine Qg ?_|refine Q1 zet ?_|refine Q1 zef ?_|refine Q1 zO ?_|refine Q1 zu ?_)
 exact Q7 (by exact .inr rfl) rfl (.tmp rfl) (fun w hw=>⟨by rw[Q0s,if_neg (by omega),if_neg (by omega),if_pos hk],hw.k.below⟩)
set_option maxRecDepth 100000 in
set_option maxHeartbeats 4000000 in
theorem QfB{F:List Rl}{r:Rl}{A Ab An Ap:Option Addr}{h g bs n gf c cb cn cp:Nat}{out:List Bool}{W:World}(hv:Q62 W h g bs n out gf A c)(hf:Xm W W.heap.size A n F)(hl:RuL W r Ab cb An cn Ap cp)(hr:ROk n r)(hk:r.kind=8):
  Calls Tryz.prog 153 #[.agg (ruC r (.slice Ab r.bs.length cb) (.slice An r.names.length cn) (.slice Ap r.parts.length cp)).toArray,.pointer (some ⟨h,0,none⟩),.pointer (some ⟨gf,0,none⟩)] W fun e w'=>e=.returned (.bool (Q0s F out r))∧Below W.heap.size W w':=by
 have hh:=hv.h;have hff:=hv.f;have HO:=Lib.hid hv.o;have HL:=Lib.hid hl;have HR:=Lib.hid hr;have hp12:=hr.p12;have HP:=Lib.hid (hr.parts (.inr hk));clear hv hl hr
 go_enter Tryz.func153,Tryz.ntmps153
 refine QE (M:=[]) (W:=W) (N:=48) (E:=[(0,.agg (ruC r (.slice Ab r.bs.length cb) (.slice An r.names.length cn) (.slice Ap r.parts.length cp)).toArray),(1,.pointer (some ⟨h,0,none⟩)),(2,.pointer (some ⟨gf,0,none⟩))]) (O:=[]) ?_ (Ag.cons (Ag.cons (Ag.cons (Ag.nil rfl rfl) rfl) rfl) rfl) (Wd.start [] W)
 repeat(first|refine Q1 zA ?_|refine Q1 zF ?_|refine Q1 (zB 0) ?_|refine Q1 zC ?_|refine yB fun br=>?_|refine Q1 (Qb (f:=154) rfl rfl (by decide) rfl rfl (fun w hw=>Zz (p:=fun k=>mk out k) (HL.out.on hw.k.below).p (by omega) (fun x y hx=>Q39 ((HO.out.on hw.k.below).on y.b) (HP.out x hx)) Q6T)) ?_|refine Q8 ?_|refine Q9 ?_|refine Q3 ?_|refine Qa rfl ?_|refine Q6 rfl ?_|refine Qr ?_|refine Qi ?_|refine Qf ?_|refine Qg ?_|refine Q1 zet ?_|refine Q1 zef ?_)
 exact Q7 (by exact .inr rfl) rfl (.tmp rfl) (fun w hw=>⟨by rw[Q0s,if_neg (by omega),if_neg (by omega),if_neg (by omega),if_pos hk],hw.k.below⟩)
set_option maxRecDepth 100000 in
set_option maxHeartbeats 4000000 in
theorem QeZ{F:List Rl}{r:Rl}{A Ab An Ap:Option Addr}{h g bs n gf c cb cn cp:Nat}{out:List Bool}{W:World}(hv:Q62 W h g bs n out gf A c)(hf:Xm W W.heap.size A n F)(hl:RuL W r Ab cb An cn Ap cp)(hr:ROk n r)(hk:r.kind≠10∧r.kind≠6∧r.kind≠7∧r.kind≠8):
  Calls Tryz.prog 153 #[.agg (ruC r (.slice Ab r.bs.length cb) (.slice An r.names.length cn) (.slice Ap r.parts.length cp)).toArray,.pointer (some ⟨h,0,none⟩),.pointer (some ⟨gf,0,none⟩)] W fun e w'=>e=.returned (.bool (Q0s F out r))∧Below W.heap.size W w':=by
 have hh:=hv.h;have hff:=hv.f;have HO:=Lib.hid hv.o;have HL:=Lib.hid hl;have HR:=Lib.hid hr;have hp12:=hr.p12;clear hv hl hr
 go_enter Tryz.func153,Tryz.ntmps153
 refine QE (M:=[]) (W:=W) (N:=48) (E:=[(0,.agg (ruC r (.slice Ab r.bs.length cb) (.slice An r.names.length cn) (.slice Ap r.parts.length cp)).toArray),(1,.pointer (some ⟨h,0,none⟩)),(2,.pointer (some ⟨gf,0,none⟩))]) (O:=[]) ?_ (Ag.cons (Ag.cons (Ag.cons (Ag.nil rfl rfl) rfl) rfl) rfl) (Wd.start [] W)
 repeat(first|refine Q1 zA ?_|refine Q1 zF ?_|refine Q1 (zB 0) ?_|refine Q1 zC ?_|refine yB fun br=>?_|refine Q8 ?_|refine Q9 ?_|refine Q3 ?_|refine Qt ?_|refine Q6 rfl ?_|refine Qr ?_|refine Qi ?_|refine Q1 zef ?_)
 exact Q7 (by exact .inr rfl) rfl (.tmp rfl) (fun w hw=>⟨by rw[Q0s,if_neg (by omega),if_neg (by omega),if_neg (by omega),if_neg (by omega)],hw.k.below⟩)
theorem Qas{F:List Rl}{r:Rl}{A Ab An Ap:Option Addr}{h g bs n gf c cb cn cp:Nat}{out:List Bool}{W:World}(hv:Q62 W h g bs n out gf A c)(hf:Xm W W.heap.size A n F)(hl:RuL W r Ab cb An cn Ap cp)(hr:ROk n r):
  Calls Tryz.prog 153 #[.agg (ruC r (.slice Ab r.bs.length cb) (.slice An r.names.length cn) (.slice Ap r.parts.length cp)).toArray,.pointer (some ⟨h,0,none⟩),.pointer (some ⟨gf,0,none⟩)] W fun e w'=>e=.returned (.bool (Q0s F out r))∧Below W.heap.size W w':=by
 by_cases h10:r.kind=10
 ·exact QeT hv hf hl hr h10
 by_cases h6:r.kind=6
 ·exact QfG hv hf hl hr h6
 by_cases h7:r.kind=7
 ·exact Qfk hv hf hl hr h7
 by_cases h8:r.kind=8
 ·exact QfB hv hf hl hr h8
 exact QeZ hv hf hl hr ⟨h10,h6,h7,h8⟩
theorem Q2.rfl_{M:List Nat}{W:World}{O:List Qc}:Q2 M W O O:=fun _ h=>h
theorem ZA{P:Program}{Q:Exit→Act→World→Prop}{N:Nat}{M:List Nat}{W:World}{E:Env}{O:List Qc}(T:List Nat){id:Nat}{l:List Oper}(hm:P.follows .mixedOrders=true)(h:dE P l.toArray Q N M W O T l.length (Array.replicate l.length false) E O):sE P Q N M W E O (.region id l.toArray true):=XQ O T hm h
theorem Q5Q(F:List Rl)(out:List Bool)(k:Nat):(ZT F out k).length=out.length:=by unfold ZT;rw[List.length_set]
theorem K6(F:List Rl):∀(l:List Nat) (out:List Bool),(l.foldl (ZT F) out).length=out.length
 |[],_=>rfl
 |k::l,out=>by rw[List.foldl_cons,K6 F l,Q5Q]
theorem Q3l(F:List Rl)(out:List Bool)(k:Nat):(List.range (k+1)).foldl (ZT F) out=ZT F ((List.range k).foldl (ZT F) out) k:=by
 rw[List.range_succ,List.foldl_append]
 rfl
def Qf2(W:World)(l:List Bool)(e:Ending)(w':World):Prop:=∃b,e=.returned (.slice (some ⟨b,0,none⟩) l.length l.length)∧W.heap.size≤b∧Rd w' w'.heap.size 1 (some ⟨b,0,none⟩) l.length (J3 l)∧Below W.heap.size W w'
theorem Qd4{M:List Nat}{W w:World}{O:List Qc}{h g bs n c gf:Nat}{A:Option Addr}{out:List Bool}(i1 i2 i3 i4:Nat)(hl:out.length=n)
  (h1:O[i1]? =some (.blk h (.cells [.func (.func 152) #[] #[.pointer (some ⟨g,0,none⟩)]].toArray 104 (0,0))))
  (h2:O[i2]? =some (.blk g (.cells [.slice (some ⟨bs,0,none⟩) n n].toArray 66 (0,0))))
  (h3:O[i3]? =some (.row (some ⟨bs,0,none⟩) n n 4 1 (J3 out)))
  (h4:O[i4]? =some (.blk gf (.cells [.slice A n c].toArray 24 (0,0)))) (hw:Wd M W O w):Q62 w h g bs n out gf A c:=
 ⟨⟨hw.cell_blkL i2 h2 rfl,fun j hj=>by rw[Nat.zero_add];exact hw.cell_row i3 h3 (Q1c (by omega))⟩,hw.cell_blkL i1 h1 rfl,hw.cell_blkL i4 h4 rfl⟩
theorem Qdh{F:List Rl}{r:Rl}{A Ab An Ap:Option Addr}{h g bs n gf c cb cn cp:Nat}{out:List Bool}{W:World}(hv:Q62 W h g bs n out gf A c)(hf:Xm W W.heap.size A n F)(hl:RuL W r Ab cb An cn Ap cp)(hr:ROk n r):
  Calls Tryz.prog 153 ([Value.agg (ruC r (.slice Ab r.bs.length cb) (.slice An r.names.length cn) (.slice Ap r.parts.length cp)).toArray].toArray++#[.pointer (some ⟨h,0,none⟩),.pointer (some ⟨gf,0,none⟩)]) W fun e w'=>e=.returned (.bool (Q0s F out r))∧Below W.heap.size W w':=by
 rw[show ([Value.agg (ruC r (.slice Ab r.bs.length cb) (.slice An r.names.length cn) (.slice Ap r.parts.length cp)).toArray].toArray++#[.pointer (some ⟨h,0,none⟩),.pointer (some ⟨gf,0,none⟩)]:Array Value)=_ from QfO _ _ _]
 exact Qas hv hf hl hr
abbrev fnE(bf g h n c:Nat)(A:Option Addr)(t:Nat):Env:=[(1,.pointer (some ⟨bf,0,none⟩)),(3,.pointer (some ⟨g,0,none⟩)),(5,.func (.func 153) #[] #[.pointer (some ⟨h,0,none⟩),.pointer (some ⟨bf,0,none⟩)]),(16,.int .i64 (n:Int)),(17,.int .i64 (t:Int))]
abbrev fnO(bf g h bs n c:Nat)(A:Option Addr)(out:List Bool):List Qc:=[.blk h (.cells [.func (.func 152) #[] #[.pointer (some ⟨g,0,none⟩)]].toArray 104 (0,0)),.blk g (.cells [.slice (some ⟨bs,0,none⟩) n n].toArray 66 (0,0)),.row (some ⟨bs,0,none⟩) n n 4 1 (J3 out),.blk bf (.cells [.slice A n c].toArray 24 (0,0))]
set_option maxRecDepth 100000 in
set_option maxHeartbeats 8000000 in
theorem Q56{F:List Rl}{A:Option Addr}{n c:Nat}{W:World}(hf:Xm W W.heap.size A n F)(hF:FOk F)(hn:n≤40)(hn0:0<n):
  Calls Tryz.prog 119 #[.agg #[.slice A n c]] W (Qf2 W (Vz F)):=by
 have hlen:F.length=n:=hf.1
 obtain⟨b,o,rfl⟩:=hf.addr hn0
 have HFM:=Lib.hid hf
 have HF:=Lib.hid hF
 have HLEN:=Lib.hid hlen
 clear hf hF hlen
 go_enter Tryz.func119,Tryz.ntmps119
 refine QE (M:=[]) (W:=W) (N:=42) (E:=[(0,.agg #[.slice (some ⟨b,o,none⟩) n c])]) (O:=[]) ?_ (Ag.cons (Ag.nil rfl rfl) rfl) (Wd.start [] W)
 repeat(first|refine Q1 (XN rfl rfl (by decide) rfl rfl) ?_|refine Q1 (Xt rfl rfl (by decide) rfl rfl) ?_|refine Q1 (Z6 rfl rfl (by decide) rfl rfl) ?_|refine Q1 (QW rfl rfl (by decide) rfl rfl (by first|exact fun w hw=>hw.cell_blkL 0 rfl rfl|exact fun w hw=>hw.cell_blkL 3 rfl rfl)) ?_|refine Qo (Y3 rfl rfl rfl rfl) rfl (by decide) (fun bf _=>?_)|refine Qo (Qcu rfl rfl rfl rfl (by omega)) rfl (by decide) (fun bs _=>?_)|refine Qo (QT (t:=66) rfl rfl) rfl (by decide) (fun g0 _=>?_)|refine Qo (QT (t:=104) rfl rfl) rfl (by decide) (fun g1 _=>?_)|refine QJ (X0 0 rfl rfl rfl rfl rfl rfl rfl) rfl (fun _ _=>?_)|refine Q8 ?_|refine Q9 ?_|refine Q3 ?_|refine Qi ?_|refine Q1 (Q8X rfl rfl (by decide) rfl rfl) ?_|refine Q1 (Q7P rfl rfl (by decide) rfl rfl) ?_)
 refine Z2 (ι:=Nat) (fun t=>t≤n) (fun t=>n - t) (fun t=>fnE bf g0 g1 n c (some ⟨b,o,none⟩) t) (fun t=>fnO bf g0 g1 bs n c (some ⟨b,o,none⟩) (iter (Jm F) t (List.replicate n false))) 0 [0,1,2,3] (by decide) (Nat.zero_le _) (.cons rfl rfl (.cons rfl rfl (.cons rfl rfl (.cons rfl rfl (.cons rfl rfl .nil))))) (by show [_,_,Qc.row _ _ _ _ _ _,_]=_;rw[QdW];rfl) ?_
 rintro t ht
 have hL0:(iter (Jm F) t (List.replicate n false)).length=n:=by
  have:∀t,(iter (Jm F) t (List.replicate n false)).length=n:=by
   intro t
   induction t with
   |zero=>exact List.length_replicate
   |succ t ih=>exact(K6 F _ _).trans ih
  exact this t
 have HL0:=Lib.hid hL0
 clear hL0
 by_cases hlt:t<n
 ·skip
  repeat(first|refine Q1 (XN rfl rfl (by decide) rfl rfl) ?_|refine Q1 (Z6 rfl rfl (by decide) rfl rfl) ?_|refine Q1 (QW rfl rfl (by decide) rfl rfl (by exact fun w hw=>hw.cell_blkL 3 rfl rfl)) ?_|refine Q8 ?_|refine Q9 ?_|refine Q3 ?_|refine Qt ?_|refine Qa rfl ?_|refine Qi ?_|refine Q1 (Q8X rfl rfl (by decide) rfl rfl) ?_|refine Q1 (XS rfl rfl (by decide) rfl rfl rfl (by exact decide_eq_true (by omega))) ?_)
  refine Z2 (ι:=Nat) (fun k=>k≤n) (fun k=>n - k) (fun k=>(20,.slice (some ⟨b,o,none⟩) n c)::(21,.int .i64 (n:Int))::(22,.int .i64 (k:Int))::fnE bf g0 g1 n c (some ⟨b,o,none⟩) t) (fun k=>fnO bf g0 g1 bs n c (some ⟨b,o,none⟩) ((List.range k).foldl (ZT F) (iter (Jm F) t (List.replicate n false)))) 0 [0,1,2,3] (by decide) (Nat.zero_le _) (.cons rfl rfl (.cons rfl rfl (.cons rfl rfl (.cons rfl rfl (.cons rfl rfl (.cons rfl rfl (.cons rfl rfl (.cons rfl rfl .nil)))))))) rfl ?_
  rintro k hk
  by_cases hkn:k<n
  ·obtain⟨rk,Ab,cb,An,cn,Ap,cp,hrk,hrg,hlk⟩:=HFM.out.rl hkn
   have HRK:=Lib.hid hrk
   have HLK:=Lib.hid hlk
   have HOK:=Lib.hid (show ROk n rk by have:=HF.out k rk hrk;rwa [HLEN.out] at this)
   obtain⟨out,hout⟩:∃out,(List.range k).foldl (ZT F) (iter (Jm F) t (List.replicate n false))=out:=⟨_,rfl⟩
   have hol:out.length=n:=by rw[← hout,K6,HL0.out]
   have HOUT:=Lib.hid hout
   show sE _ _ _ _ _ _ (fnO bf g0 g1 bs n c (some ⟨b,o,none⟩) ((List.range k).foldl (ZT F) (iter (Jm F) t (List.replicate n false)))) _
   rw[hout]
   clear hout hrk hlk
   obtain⟨ok,hok⟩:∃x,out.getD k false=x:=⟨_,rfl⟩
   have hcell:(J3 out)[0+k]? =some (.bool ok):=by rw[Nat.zero_add,Q1c (by omega),hok]
   have HK:=Lib.hid hok
   clear hok
   cases ok with
   |true=>
    repeat(first|refine Q1 (XN rfl rfl (by decide) rfl rfl) ?_|refine Q1 (Xt rfl rfl (by decide) rfl rfl) ?_|refine Q1 (QB rfl rfl (by decide) rfl rfl (by first|exact fun w hw=>hw.range_blk 0 rfl|exact fun w hw=>hw.range_old (by assumption) (by simp)) (by rfl)) ?_|refine Q1 (QY rfl rfl (by decide) rfl rfl rfl hkn) ?_|refine Qo (QT (t:=65) rfl rfl) rfl (by decide) (fun b7 _=>?_)|(refine QJ (Ql 0 rfl rfl rfl rfl rfl rfl rfl (by simp)) rfl (fun _ _=>?_);rw[Qn (by rfl)])|refine Q8 ?_|refine Q9 ?_|refine Q3 ?_|refine Qt ?_|refine Qa rfl ?_|refine Qi ?_|refine Q1 (XS rfl rfl (by decide) rfl rfl rfl (by exact decide_eq_true (by omega))) ?_)
    refine ZA [12] (by kernel_rfl) ?_
    refine Qe 0 rfl (by kernel_rfl) (Q2.rfl_) (QW rfl rfl (by decide) rfl rfl (by exact fun w hw=>hw.cell_blkL 2 rfl rfl)) ?_
    refine Qe 1 rfl (by kernel_rfl) (Q2.rfl_) (XN rfl rfl (by decide) rfl rfl) ?_
    refine Qe 2 rfl (by kernel_rfl) (Q2.rfl_) (QW rfl rfl (by decide) rfl rfl (by exact fun w hw=>hw.cell_blkL 2 rfl rfl)) ?_
    refine Qe 3 rfl (by kernel_rfl) (Q2.rfl_) (XN rfl rfl (by decide) rfl rfl) ?_
    refine Qe 4 rfl (by kernel_rfl) (Q2.rfl_) (QS rfl rfl (by decide) rfl rfl rfl hkn) ?_
    refine Qe 5 rfl (by kernel_rfl) (Q2.rfl_) (QW rfl rfl (by decide) rfl rfl (fun w hw=>hw.cell_row 3 rfl hcell)) ?_
    refine Qe 6 rfl (by kernel_rfl) (Q2.rfl_) (XN rfl rfl (by decide) rfl rfl) ?_
    refine Qe 7 rfl (by kernel_rfl) (Q2.rfl_) (KA rfl (by decide) rfl) ?_
    refine Qe 8 rfl (by kernel_rfl) (Q2.rfl_) (KA rfl (by decide) rfl) ?_
    refine Qe 9 rfl (by kernel_rfl) (Q2.rfl_) (KA rfl (by decide) rfl) ?_
    refine Qe 10 rfl (by kernel_rfl) (Q2.rfl_) (JG rfl rfl (by decide) rfl rfl rfl) ?_
    refine Qe 11 rfl (by kernel_rfl) (Q2.rfl_) (QS rfl rfl (by decide) rfl rfl rfl hkn) ?_
    refine Qu 12 (by kernel_rfl) rfl rfl (Ji 3 rfl rfl rfl rfl rfl rfl (by omega)) (fun _=>.inl (by decide)) rfl (fun _ _=>?_)
    refine Xh ?_ (by kernel_rfl)
    repeat(first|refine Q1 (XN rfl rfl (by decide) rfl rfl) ?_|refine Q8 ?_|refine Q3 ?_|refine Q1 (Q3p (k:=.i64) rfl rfl (by decide) rfl rfl rfl (IntWalk.i64_in _ (by omega))) ?_)
    refine Xc (k+1) [1,2,3,4] (by decide) hkn (by omega) (.cons rfl rfl (.cons rfl rfl (.cons rfl (by go_num) (.cons rfl rfl (.cons rfl rfl (.cons rfl rfl (.cons rfl rfl (.cons rfl rfl .nil)))))))) ?_
    show [_,_,Qc.row _ _ _ _ _ ((J3 out).set (0+k) (.bool true)),_]=fnO bf g0 g1 bs n c (some ⟨b,o,none⟩) _
    rw[Q3l,HOUT.out,Nat.zero_add,Q1E]
    unfold ZT
    rw[HRK.out,HK.out]
    rfl
   |false=>
    repeat(first|refine Q1 (XN rfl rfl (by decide) rfl rfl) ?_|refine Q1 (Xt rfl rfl (by decide) rfl rfl) ?_|refine Q1 (QB rfl rfl (by decide) rfl rfl (by first|exact fun w hw=>hw.range_blk 0 rfl|exact fun w hw=>hw.range_old (by assumption) (by simp)) (by rfl)) ?_|refine Q1 (QY rfl rfl (by decide) rfl rfl rfl hkn) ?_|refine Qo (QT (t:=65) rfl rfl) rfl (by decide) (fun b7 _=>?_)|(refine QJ (Ql 0 rfl rfl rfl rfl rfl rfl rfl (by simp)) rfl (fun _ _=>?_);rw[Qn (by rfl)])|refine Q8 ?_|refine Q9 ?_|refine Q3 ?_|refine Qt ?_|refine Qa rfl ?_|refine Qi ?_|refine Q1 (XS rfl rfl (by decide) rfl rfl rfl (by exact decide_eq_true (by omega))) ?_)
    refine ZA [12] (by kernel_rfl) ?_
    refine Qe 0 rfl (by kernel_rfl) (Q2.rfl_) (QW rfl rfl (by decide) rfl rfl (by exact fun w hw=>hw.cell_blkL 2 rfl rfl)) ?_
    refine Qe 1 rfl (by kernel_rfl) (Q2.rfl_) (XN rfl rfl (by decide) rfl rfl) ?_
    refine Qe 2 rfl (by kernel_rfl) (Q2.rfl_) (QW rfl rfl (by decide) rfl rfl (by exact fun w hw=>hw.cell_blkL 2 rfl rfl)) ?_
    refine Qe 3 rfl (by kernel_rfl) (Q2.rfl_) (XN rfl rfl (by decide) rfl rfl) ?_
    refine Qe 4 rfl (by kernel_rfl) (Q2.rfl_) (QS rfl rfl (by decide) rfl rfl rfl hkn) ?_
    refine Qe 5 rfl (by kernel_rfl) (Q2.rfl_) (QW rfl rfl (by decide) rfl rfl (fun w hw=>hw.cell_row 3 rfl hcell)) ?_
    refine Qe 6 rfl (by kernel_rfl) (Q2.rfl_) (XN rfl rfl (by decide) rfl rfl) ?_
    refine Qe 7 rfl (by kernel_rfl) (Q2.rfl_) (XN rfl rfl (by decide) rfl rfl) ?_
    refine Qe 8 rfl (by kernel_rfl) (Q2.rfl_) (QB rfl rfl (by decide) rfl rfl (by exact fun w hw=>hw.range_blk 0 rfl) (by rfl)) ?_
    refine Qe 9 rfl (by kernel_rfl) (Q2.rfl_) (ZW (f:=153) rfl rfl (by decide) rfl rfl rfl (fun w hw=>Qdh (Qd4 1 2 3 4 hol rfl rfl rfl rfl hw) (HFM.out.on hw.k.below) (HLK.out.on hw.k.below) HOK.out)) ?_
    refine Qe 10 rfl (by kernel_rfl) (Q2.rfl_) (Vm rfl rfl (by decide) rfl rfl rfl) ?_
    refine Qe 11 rfl (by kernel_rfl) (Q2.rfl_) (QS rfl rfl (by decide) rfl rfl rfl hkn) ?_
    refine Qu 12 (by kernel_rfl) rfl rfl (Ji 3 rfl rfl rfl rfl rfl rfl (by omega)) (fun _=>.inl (by decide)) rfl (fun _ _=>?_)
    refine Xh ?_ (by kernel_rfl)
    repeat(first|refine Q1 (XN rfl rfl (by decide) rfl rfl) ?_|refine Q8 ?_|refine Q3 ?_|refine Q1 (Q3p (k:=.i64) rfl rfl (by decide) rfl rfl rfl (IntWalk.i64_in _ (by omega))) ?_)
    refine Xc (k+1) [1,2,3,4] (by decide) hkn (by omega) (.cons rfl rfl (.cons rfl rfl (.cons rfl (by go_num) (.cons rfl rfl (.cons rfl rfl (.cons rfl rfl (.cons rfl rfl (.cons rfl rfl .nil)))))))) ?_
    show [_,_,Qc.row _ _ _ _ _ ((J3 out).set (0+k) (.bool (Q0s F out rk))),_]=fnO bf g0 g1 bs n c (some ⟨b,o,none⟩) _
    rw[Q3l,HOUT.out,Nat.zero_add,Q1E]
    unfold ZT
    rw[HRK.out,HK.out]
    rfl
  ·skip
   repeat(first|refine Q1 (XN rfl rfl (by decide) rfl rfl) ?_|refine Q8 ?_|refine Q9 ?_|refine Q3 ?_|refine Q6 rfl ?_|refine XL ?_|refine Q1 (XS rfl rfl (by decide) rfl rfl rfl (by first|exact decide_eq_false (by omega)|rfl)) ?_|refine Q1 (Q3p (k:=.i64) rfl rfl (by decide) rfl rfl rfl (IntWalk.i64_in _ (by omega))) ?_)
   refine Xc (t+1) [0,1,2,3] (by decide) hlt (by omega) (.cons rfl rfl (.cons rfl rfl (.cons rfl rfl (.cons rfl rfl (.cons rfl (by go_num) .nil))))) ?_
   have hkk:k=F.length:=by rw[HLEN.out];omega
   subst hkk
   rfl
 ·skip
  repeat(first|refine Q1 (Xt rfl rfl (by decide) rfl rfl) ?_|refine Q1 (QW rfl rfl (by decide) rfl rfl (by exact fun w hw=>hw.cell_blkL 1 rfl rfl)) ?_|refine Q8 ?_|refine Q9 ?_|refine Q3 ?_|refine Q6 rfl ?_|refine XL ?_|refine Qr ?_|refine Q1 (XS rfl rfl (by decide) rfl rfl rfl (by exact decide_eq_false (by omega))) ?_)
  have htn:t=F.length:=by rw[HLEN.out];omega
  refine Q7 (by exact .inr rfl) rfl (.tmp rfl) (fun w hw=>?_)
  have hfl:iter (Jm F) t (List.replicate n false)=Vz F:=by unfold Vz;rw[htn,HLEN.out]
  have hln:(Vz F).length=n:=by rw[← hfl];exact HL0.out
  refine⟨bs,by rw[hln],?_,⟨by rw[hln];simp [J3,hln],fun _=>⟨bs,0,rfl,?_,fun j u hu=>?_⟩⟩,hw.k.below⟩
  ·rcases Nat.lt_or_ge bs W.heap.size with h|h
   ·have:=hw.new 2 _ bs rfl rfl h
    simp [Qc.w] at this
   ·exact h
  ·exact(hw.own 2 _ rfl).lt rfl
  ·rw[Nat.zero_add]
   refine hw.cell_row 2 rfl ?_
   rw[hfl]
   exact hu
def Xd(st:Nat→Bool):List Value:=(List.range 256).map fun j=>.bool (st j)
theorem Qk(st:Nat→Bool):(Xd st).length=256:=by simp [Xd]
theorem ZL(st:Nat→Bool){j:Nat}(h:j<256):(Xd st)[j]? =some (.bool (st j)):=by
 simp [Xd,List.getElem?_map,List.getElem?_range h]
theorem Yj(st:Nat→Bool)(j:Nat)(v:Bool):(Xd st).set j (.bool v)=Xd (fun i=>if i=j then v else st i):=by
 refine List.ext_getElem? fun i=>?_
 rw[List.getElem?_set]
 by_cases hi:i<256
 ·rw[ZL _ hi,Qk]
  by_cases hj:j=i
  ·subst hj;rw[if_pos rfl,if_pos hi,ZL _ hi,if_pos rfl]
  ·rw[if_neg hj,ZL _ hi]
   have:¬i=j:=fun e=>hj e.symm
   simp [this]
 ·have h1:(Xd st)[i]? =none:=List.getElem?_eq_none (by rw[Qk];omega);have h2:(Xd (fun i=>if i=j then v else st i))[i]? =none:=List.getElem?_eq_none (by rw[Qk];omega);rw[h1,h2,Qk]
  split
  ·rw[if_neg (by omega)]
  ·rfl
def Zv(st:Nat→Bool)(lo hi:Int):Nat→Bool:=fun j=>st j||decide (lo+((j:Int) - lo) % 256≤hi)
theorem JS{s t:Nat→Bool}(h:∀j,j<256→s j=t j):Xd s=Xd t:=by
 unfold Xd
 exact List.map_congr_left fun j hj=>by rw[h j (List.mem_range.1 hj)]
theorem Qa1(st:Nat→Bool)(lo c:Int)(h:lo≤c)(h0:0≤lo):(Xd (Zv st lo (c - 1))).set (c % 256).toNat (.bool true)=Xd (Zv st lo c):=by
 rw[Yj]
 refine JS fun j hj=>?_
 unfold Zv
 by_cases he:j=(c % 256).toNat
 ·rw[if_pos he,decide_eq_true (by omega),Bool.or_true]
 ·rw[if_neg he]
  congr 1
  rw[decide_eq_decide]
  omega
theorem Qat(st:Nat→Bool)(lo:Int):Xd (Zv st lo (lo - 1))=Xd st:=
 JS fun j hj=>by
  unfold Zv
  rw[decide_eq_false (by omega),Bool.or_false]
theorem QaT(st:Nat→Bool)(lo hi:Int)(h:hi<lo):Xd (Zv st lo (lo - 1))=Xd (Zv st lo hi):=
 JS fun j hj=>by
  unfold Zv
  rw[decide_eq_false (by omega),decide_eq_false (by omega)]
theorem Qe8(c:Int)(h:0≤c)(w:World):(Op.intDiv .rem .i64 c 256).run Tryz.prog w=.ok (.int .i64 (((c % 256).toNat:Nat):Int)) w:=by
 have e:(((c % 256).toNat:Nat):Int)=c % 256:=by omega
 rw[e]
 simp [Op.intDiv,go_sem]
 exact IntWalk.rem_in c 256 h
set_option maxRecDepth 100000 in
theorem Q8k{st:Nat→Bool}{b:Nat}{lo hi:Int}{W:World}(hb:W.heap[b]? =some (.cells (Xd st).toArray 92 (0,0)))(h0:0≤lo)(h1:hi≤1099511627776)(h2:lo≤1099511627776):
  Calls Tryz.prog 141 #[.int .i64 lo,.int .i64 hi,.pointer (some ⟨b,0,none⟩)] W fun e w'=>e=.returned (.tuple #[])∧w'.heap[b]? =some (.cells (Xd (Zv st lo hi)).toArray 92 (0,0))∧XJ [b] W w':=by
 go_enter Tryz.func141,Tryz.ntmps141
 refine QE (M:=[b]) (W:=W) (N:=15) (E:=[(0,.int .i64 lo),(1,.int .i64 hi),(2,.pointer (some ⟨b,0,none⟩))]) (O:=[.blk b (.cells (Xd st).toArray 92 (0,0))]) ?_ (Ag.cons (Ag.cons (Ag.cons (Ag.nil rfl rfl) rfl) rfl) rfl) ((Wd.start [b] W).add hb (fun b' h _=>by cases h;exact List.mem_singleton.2 rfl) (fun i x b' h=>by cases h))
 repeat(first|refine Q8 ?_|refine Q9 ?_|refine Q3 ?_|refine Qi ?_|refine Q1 zM ?_|refine Q1 zA ?_)
 refine Z2 (ι:=Int) (fun c=>lo≤c∧(c≤hi+1∨c=lo)) (fun c=>(hi+1 - c).toNat) (fun c=>[(5,.int .i64 c),(1,.int .i64 hi),(2,.pointer (some ⟨b,0,none⟩))]) (fun c=>[.blk b (.cells (Xd (Zv st lo (c - 1))).toArray 92 (0,0))]) lo [0] (by decide) ⟨by omega,by omega⟩ (.cons rfl rfl (.cons rfl rfl (.cons rfl rfl .nil))) (by rw[Qat];rfl) ?_
 rintro c ⟨h3,h4⟩
 by_cases hc:c≤hi
 ·skip
  repeat(first|(refine Q1 (Q0Q (v:=.int .i64 (((c % 256).toNat:Nat):Int)) rfl rfl (by decide) rfl rfl rfl (fun w=>by rw[binOp_rem];exact Qe8 c (by omega) w)) ?_)|refine Q1 (XK (j:=(c % 256).toNat) rfl rfl (by decide) rfl rfl rfl (by omega)) ?_|refine QJ (X0 0 rfl rfl rfl rfl rfl rfl (ZL _ (show 0+(c % 256).toNat*1<256 by omega))) rfl (fun _ _=>?_)|refine Q8 ?_|refine Q9 ?_|refine Q3 ?_|refine Qt ?_|refine Qa rfl ?_|refine Qi ?_|refine Q1 zM ?_|refine Q1 zA ?_|refine Q1 (Q5Y (b:=true) rfl rfl (by decide) rfl rfl rfl (decide_eq_true (by omega))) ?_|refine Q1 zP ?_)
  refine Xc (c+1) [0] (by decide) ⟨by omega,by omega⟩ (by omega) (.cons rfl rfl (.cons rfl rfl (.cons rfl rfl .nil))) ?_
  show [Qc.blk b (.cells ((Xd (Zv st lo (c - 1))).set (0+(c % 256).toNat*1) (.bool true)).toArray 92 (0,0))]=_
  rw[Nat.zero_add,Nat.mul_one,Qa1 st lo c h3 h0,Int.add_sub_cancel]
 ·skip
  repeat(first|refine Q8 ?_|refine Q9 ?_|refine Q3 ?_|refine Q6 rfl ?_|refine XL ?_|refine Q1W ?_|refine Q22 ?_|refine Q1 zM ?_|refine Q1 (Q5Y (b:=false) rfl rfl (by decide) rfl rfl rfl (decide_eq_false (by omega))) ?_)
  refine XT (.inl rfl) rfl (fun w hw=>⟨rfl,?_,hw.k⟩);have h:w.heap[b]? =some (.cells (Xd (Zv st lo (c - 1))).toArray 92 (0,0)):=hw.own 0 _ rfl;rw[h]
  congr 3
  by_cases hcl:c=hi+1
  ·rw[hcl,Int.add_sub_cancel]
  ·obtain rfl:c=lo:=by omega
   rw[QaT st c hi (by omega)]
set_option maxRecDepth 100000 in
set_option maxHeartbeats 1000000 in
theorem Q0x{w:World}{n:Int}{Ab An Ap:Option Addr}{nb cb nn cn np cp:Nat}{ns:List (List UInt8)}(hr:Rd w w.heap.size 1 An nn (sv ns))(hncap:nn≤cn)(hnn:nn≤9223372036854775807)(hx:Small ns)(hn0:(n != 0)=false)(hb0:nb=0)(hs1:0<nn)(hp1:0<np)(heq:nn=np):
  Calls Tryz.prog 142 #[.agg #[.int .i64 4,.int .i64 n,.slice Ab nb cb,.slice An nn cn,.slice Ap np cp]] w fun e w'=>e=.returned (.int .i64 (Jx ns np))∧Below w.heap.size w w':=by
 have hmf:=Zf
 have HL:=Lib.hid (show ns.length=nn by have:=hr.len;rw[XB] at this;exact this)
 have HR:=Lib.hid hr
 have HX:=Lib.hid hx
 clear hr hx
 have hne':((nn:Int) != (np:Int))=false:=by rw[bne_eq_false_iff_eq];omega
 have hle:=Nat.le_of_eq heq
 clear heq
 have hb0':¬(0:Int)<(nb:Int):=by omega
 have hb0'':¬0<nb:=by omega
 clear hb0
 have hs1':(0:Int)<(nn:Int):=by omega
 have hp1':(0:Int)<(np:Int):=by omega
 go_enter Tryz.func142,Tryz.ntmps142
 go_wp2_with fail
 refine(Qq (t:=true) [1,2,3,4] 4 (by simp only[Q4]) rfl rfl (by repeat(first|exact Xo _ _ _ _ _ _ _|refine Qh ?_)) (by decide) (by decide)).mono ?_
 rintro e w' ⟨rfl,rfl⟩
 go_wp2_with fail
 refine(Qq (t:=true) [4] 4 (by simp only[Q4]) rfl rfl (by repeat(first|exact Xo _ _ _ _ _ _ _|refine Qh ?_)) (by decide) (by decide)).mono ?_
 rintro e w' ⟨rfl,rfl⟩
 go_wp2_with fail
 refine(Qq (t:=true) [3,4] 4 (by simp only[Q4]) rfl rfl (by repeat(first|exact Xo _ _ _ _ _ _ _|refine Qh ?_)) (by decide) (by decide)).mono ?_
 rintro e w' ⟨rfl,rfl⟩
 go_wp2_with fail
 refine(Qq (t:=true) [4] 4 (by simp only[Q4]) rfl rfl (by repeat(first|exact Xo _ _ _ _ _ _ _|refine Qh ?_)) (by decide) (by decide)).mono ?_
 rintro e w' ⟨rfl,rfl⟩
 by_cases h600:600<np
 ·have HT:=Lib.hid (Q5K (ns:=ns) h600)
  have h600':(600:Int)<(np:Int):=by omega
  go_wp2_with fail
  go_ret
  exact⟨by rw[HT.out];rfl,(by repeat(first|exact Below.refl _ _|(refine Below.alloc ?_ (by first|exact Nat.le_refl _|(simp only[Q4];omega)) _)))⟩
 ·have h600':¬(600:Int)<(np:Int):=by omega
  have HN6:=Lib.hid h600
  go_wp2_with fail
  refine(Xe (xs:=ns) ((HR.out.below (by repeat(first|exact Below.refl _ _|(refine Below.alloc ?_ (by first|exact Nat.le_refl _|(simp only[Q4];omega)) _)))).more (by simp only[Q4];omega)) hnn HX.out).mono ?_
  rintro e w2 ⟨rfl,hb2⟩
  have HB2:=Lib.hid (show Below w.heap.size w w2 from Qz (by repeat(first|exact Below.refl _ _|(refine Below.alloc ?_ (by first|exact Nat.le_refl _|(simp only[Q4];omega)) _))) hb2)
  have hbox:w2.cell? ⟨w.heap.size,3,none⟩=some (.slice An nn cn):=(hb2.cell (by simp only[Q4];omega)).trans (by repeat(first|exact Q5U _ _ _ _ _ _ _|refine Qh ?_))
  clear hb2
  by_cases hall:ns.all QG=true
  ·have HALL:=Lib.hid hall
   rw[HALL.out]
   clear hall
   go_wp2_with fail
   go_loop [76] (Kj ns) (fun k=>nn - (intOf k).toNat)
   case atStart=>exact⟨0,Nat.zero_le _,rfl,by simp⟩
   case round=>
    obtain⟨i,hi,rfl,hd⟩:=hrel
    rw[HL.out] at hi
    have HD:=Lib.hid hd
    clear hd
    by_cases hlt:i<nn
    ·obtain⟨b,o,s,rfl,hb,hy,hc⟩:=YW HR.out hlt
     have HY:=Lib.hid hy
     have hc':w2.cell? ⟨b,o+i,none⟩=some (.string s):=(HB2.out.cell (by exact hb)).trans hc
     have HRW:=Lib.hid ((HR.out.below HB2.out).cut (k:=0) (m:=i) (c:=cn) (by omega) hncap)
     have hcut:=Q4i (P:=Tryz.prog) slS (some ⟨b,o,none⟩) nn cn i (by omega)
     have hli:(i:Int)<(nn:Int):=by omega
     have h0:(0:Int)≤(i:Int):=by omega
     clear hy hc
     go_wp2_with fail
     refine(Vv (xs:=ns.take i) (by have:=HRW.out;rwa [QeD] at this) (by omega)).mono ?_
     rintro e w3 ⟨rfl,rfl⟩
     clear hcut
     by_cases hdup:ZC (ns.take i) s.data.toList=true
     ·have HDUP:=Lib.hid hdup
      have HT:=Lib.hid (Qc0 HN6.out HALL.out (QdL HY.out hdup))
      rw[HDUP.out]
      clear hdup
      go_wp2_with fail
      go_ret
      exact⟨by rw[HT.out];rfl,HB2.out⟩
     ·have HDUP:=Lib.hid (show ZC (ns.take i) s.data.toList=false by simpa using hdup)
      rw[HDUP.out]
      clear hdup
      go_wp2_with fail
      go_round
      case rel=>exact⟨i+1,by rw[HL.out];omega,by go_num,Qbi HY.out HD.out HDUP.out⟩
      case measure=>simp [intOf];omega
    ·have HT:=Lib.hid (Kb HN6.out HALL.out (by have:=HD.out;rwa [List.take_of_length_le (by rw[HL.out];omega)] at this))
     go_wp2_with fail
     go_ret
     exact⟨by rw[HT.out];rfl,HB2.out⟩
  ·have HALL:=Lib.hid (show ns.all QG=false by simpa using hall)
   have HT:=Lib.hid (YP HN6.out HALL.out)
   rw[HALL.out]
   clear hall
   go_wp2_with fail
   go_ret
   exact⟨by rw[HT.out];rfl,HB2.out⟩
set_option maxRecDepth 100000 in
set_option maxHeartbeats 1000000 in
theorem Q0t{w:World}{n:Int}{Ab An Ap:Option Addr}{nb cb nn cn np cp:Nat}{ns:List (List UInt8)}(hr:Rd w w.heap.size 1 An nn (sv ns))(hncap:nn≤cn)(hnn:nn≤9223372036854775807)(hx:Small ns)(hn0:(n != 0)=false)(hb0:nb=0)(hs0:nn=0)(hp0:np=0)(heq:nn=np):
  Calls Tryz.prog 142 #[.agg #[.int .i64 4,.int .i64 n,.slice Ab nb cb,.slice An nn cn,.slice Ap np cp]] w fun e w'=>e=.returned (.int .i64 (Jx ns np))∧Below w.heap.size w w':=by
 have hmf:=Zf
 have HL:=Lib.hid (show ns.length=nn by have:=hr.len;rw[XB] at this;exact this)
 have HR:=Lib.hid hr
 have HX:=Lib.hid hx
 clear hr hx
 have hne':((nn:Int) != (np:Int))=false:=by rw[bne_eq_false_iff_eq];omega
 have hle:=Nat.le_of_eq heq
 clear heq
 have hb0':¬(0:Int)<(nb:Int):=by omega
 have hb0'':¬0<nb:=by omega
 clear hb0
 have hs0':¬(0:Int)<(nn:Int):=by omega
 have hs0'':¬0<nn:=by omega
 clear hs0
 have hp0':¬(0:Int)<(np:Int):=by omega
 have hp0'':¬0<np:=by omega
 clear hp0
 go_enter Tryz.func142,Tryz.ntmps142
 go_wp2_with fail
 refine(Qq (t:=true) [1,2,3,4] 4 (by simp only[Q4]) rfl rfl (by repeat(first|exact Xo _ _ _ _ _ _ _|refine Qh ?_)) (by decide) (by decide)).mono ?_
 rintro e w' ⟨rfl,rfl⟩
 go_wp2_with fail
 refine(Qq (t:=true) [4] 4 (by simp only[Q4]) rfl rfl (by repeat(first|exact Xo _ _ _ _ _ _ _|refine Qh ?_)) (by decide) (by decide)).mono ?_
 rintro e w' ⟨rfl,rfl⟩
 have h600:¬600<np:=by omega
 have h600':¬(600:Int)<(np:Int):=by omega
 have HN6:=Lib.hid h600
 go_wp2_with fail
 refine(Xe (xs:=ns) ((HR.out.below (by repeat(first|exact Below.refl _ _|(refine Below.alloc ?_ (by first|exact Nat.le_refl _|(simp only[Q4];omega)) _)))).more (by simp only[Q4];omega)) hnn HX.out).mono ?_
 rintro e w2 ⟨rfl,hb2⟩
 have HB2:=Lib.hid (show Below w.heap.size w w2 from Qz (by repeat(first|exact Below.refl _ _|(refine Below.alloc ?_ (by first|exact Nat.le_refl _|(simp only[Q4];omega)) _))) hb2)
 have hbox:w2.cell? ⟨w.heap.size,3,none⟩=some (.slice An nn cn):=(hb2.cell (by simp only[Q4];omega)).trans (by repeat(first|exact Q5U _ _ _ _ _ _ _|refine Qh ?_))
 clear hb2
 by_cases hall:ns.all QG=true
 ·have HALL:=Lib.hid hall
  rw[HALL.out]
  clear hall
  go_wp2_with fail
  go_loop [76] (Kj ns) (fun k=>nn - (intOf k).toNat)
  case atStart=>exact⟨0,Nat.zero_le _,rfl,by simp⟩
  case round=>
   obtain⟨i,hi,rfl,hd⟩:=hrel
   rw[HL.out] at hi
   have HD:=Lib.hid hd
   clear hd
   by_cases hlt:i<nn
   ·omega
   ·have HT:=Lib.hid (Kb HN6.out HALL.out (by have:=HD.out;rwa [List.take_of_length_le (by rw[HL.out];omega)] at this))
    go_wp2_with fail
    go_ret
    exact⟨by rw[HT.out];rfl,HB2.out⟩
 ·have HALL:=Lib.hid (show ns.all QG=false by simpa using hall)
  have HT:=Lib.hid (YP HN6.out HALL.out)
  rw[HALL.out]
  clear hall
  go_wp2_with fail
  go_ret
  exact⟨by rw[HT.out];rfl,HB2.out⟩
end Go.Proofs.YtphkhfdmlcnoeaaGreatDoor
