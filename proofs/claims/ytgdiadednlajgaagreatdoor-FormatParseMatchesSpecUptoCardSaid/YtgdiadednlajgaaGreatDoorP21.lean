import Derived.Test.YtgdiadednlajgaaGreatDoorP20
import Derived.Test.YtgdiadednlajgaaGreatDoorP19
import Derived.Test.YtgdiadednlajgaaGreatDoorP24
import Derived.Lib.ItoaLen
namespace Go.Proofs.YtgdiadednlajgaaGreatDoor
set_option linter.unusedVariables false
set_option linter.unusedSimpArgs false
theorem Q4N(F:List Rl)(s:List UInt8):Xa F s=match (F.map (·.name)).findIdx? (·==s) with|some i=>(i:Int)|none=>-1:=by
 unfold Xa
 rw[List.findIdx?_map]
 rfl
theorem Q79{F G:List Rl}(h:F.map (·.name)=G.map (·.name))(s:List UInt8):Xa F s=Xa G s:=by rw[Q4N,Q4N,h]
theorem Q7P{F:List Rl}{s:List UInt8}(h:¬Xa F s<0):∃r,F[(Xa F s).toNat]? =some r∧r.name=s:=by
 unfold Xa at h ⊢
 cases hf:F.findIdx? (fun r=>r.name==s) with
 |none=>rw[hf] at h;exact absurd (by decide) h
 |some i=>
  rw[List.findIdx?_eq_some_iff_getElem] at hf;obtain⟨h1,h2,_⟩:=hf;refine⟨F[i],?_,by simpa using h2⟩
  simp only
  rw[Int.toNat_natCast];exact List.getElem?_eq_getElem h1
theorem Q8D{F:List Rl}{s:List UInt8}(h:Xa F s<0):∀(j:Nat) (r:Rl),F[j]? =some r→¬r.name=s:=by
 unfold Xa at h
 cases hf:F.findIdx? (fun r=>r.name==s) with
 |some i=>rw[hf] at h;simp only at h;omega
 |none=>
  rw[List.findIdx?_eq_none_iff] at hf;intro j r hr hn;have:=hf r (List.mem_of_getElem? hr);rw[hn] at this
  simp at this
theorem Q37{r:Rl}{early:List Rl}{n:Nat}(h:X5 r early n=0):Qi r.name=true∧Xa early r.name<0:=by
 unfold X5 at h
 split at h
 ·cases h
 next h1=>
 split at h
 ·cases h
 next h2=>
 refine⟨by simpa using h1,?_⟩
 simpa using h2
theorem KN{g:Nat→Int}:∀(n i:Nat),Jp g i n=0→∀j,i≤j→j<i+n→g j=0
 |0,i,_,j,h1,h2=>absurd h1 (by omega)
 |n+1,i,h,j,h1,h2=>by
  rw[Jp] at h
  split at h
  ·next h0=>
   rcases Nat.eq_or_lt_of_le h1 with rfl|h3
   ·exact h0
   ·exact KN n (i+1) h j h3 (by omega)
  ·next h0=>exact absurd h h0
theorem Q8d{F:List Rl}{r:Rl}(h:Jv F r=0)(hk:r.kind=7):∀s∈r.names,s=[]∨Qi s=true:=by
 have hc:Qp r.kind=false:=by rw[hk];rfl
 unfold Jv at h
 rw[hc,hk] at h;have h:Jp (J2 F r.names r.parts) 0 r.names.length=0:=h;intro s hs;obtain⟨j,hj,e⟩:=List.mem_iff_getElem.1 hs;have h0:=KN _ _ h j (by omega) (by omega)
 unfold J2 at h0
 rw[List.getD_eq_getElem?_getD,List.getElem?_eq_getElem hj,e] at h0
 simp only[Option.getD_some] at h0
 split at h0
 ·next h1=>exact .inl (by simpa using h1)
 ·split at h0
  ·cases h0
  ·next h2=>exact .inr (by simpa using h2)
structure POk(F:List Rl):Prop where
 rule:∀j,j<F.length→Zt F j=0
 use:∀j,j<F.length→JM F j=0
theorem KP{F:List Rl}(h:Xb F=(0,0)):POk F:=by
 unfold Xb at h
 split at h
 ·cases h
 split at h
 ·cases h
 cases h1:XC F.length (fun k=>Zt F k != 0) with
 |some k=>rw[h1] at h;have:=(VS h1).2.1;simp only[Prod.mk.injEq] at h;rw[h.1] at this;cases this
 |none=>
  rw[h1] at h
  simp only at h
  cases h2:XC F.length (fun k=>JM F k != 0) with
  |some k=>rw[h2] at h;have:=(VS h2).2.1;simp only[Prod.mk.injEq] at h;rw[h.1] at this;cases this
  |none=>exact⟨fun j hj=>by simpa using Q0f h1 j hj,fun j hj=>by simpa using Q0f h2 j hj⟩
section
variable {F:List Rl}
theorem POk.name(h:POk F){i:Nat}{r:Rl}(hr:F[i]? =some r):Qi r.name=true∧Xa (F.take i) r.name<0:=by
 have:=h.rule i (List.getElem?_eq_some_iff.1 hr).1;rw[VT hr] at this;exact Q37 this
theorem POk.fok(h:POk F):FOk F:=Q82 h.rule
theorem POk.self(h:POk F){i:Nat}{r:Rl}(hr:F[i]? =some r):Xa F r.name=(i:Int):=
 Q1T hr rfl fun j r' hj hr'=>Q8D (h.name hr).2 j r' (by rw[List.getElem?_take,if_pos hj];exact hr')
theorem POk.find(h:POk F){x:Int}(hx:0≤x∧x<F.length):Qi (Zv F x)=true∧Xa F (Zv F x)=x:=by
 have hr:F[x.toNat]? =some F[x.toNat]:=List.getElem?_eq_getElem (by omega);rw[Q0c hr];refine⟨(h.name hr).1,?_⟩;rw[h.self hr]
 omega
theorem POk.line(h:POk F){i:Nat}{r:Rl}(hr:F[i]? =some r):LOk F r:=
 ⟨h.fok i r hr,(h.name hr).1,fun x hx=>(h.find hx).1,fun hk=>Q8d (by
  have:=h.use i (List.getElem?_eq_some_iff.1 hr).1
  rwa [YP hr] at this) hk⟩
theorem Q9T(F:List Rl)(r:Rl):Q0I F r=(Q1D r).map (Zv F):=by
 unfold Q0I Q1D
 rw[List.map_append,List.map_append]
 cases Qp r.kind<;>cases XJ r.kind<;>rfl
theorem Q91{n:Nat}{r:Rl}(h:ROk n r):∀x∈Q1D r,0≤x∧x<n:=by
 intro x hx
 unfold Q1D at hx
 rw[List.mem_append,List.mem_append] at hx
 rcases hx with (hx|hx)|hx
 ·split at hx
  ·next hu=>
   rw[List.mem_singleton.1 hx];refine h.count ?_
   unfold Qp Zu at hu
   simp at hu
   omega
  ·cases hx
 ·split at hx
  ·next hu=>
   rw[List.mem_singleton.1 hx];refine h.elem ?_
   unfold XJ Zu at hu
   simp at hu
   omega
  ·cases hx
 ·by_cases hk:r.kind=7∨r.kind=8
  ·exact h.parts hk x hx
  ·rw[(Q1m h).parts (by omega) (by omega)] at hx
   cases hx
theorem Q7k{c:UInt8}{sep:List UInt8}:∀{ws:List (List UInt8)},c∈Lib.join ws sep→c∈sep∨∃w∈ws,c∈w
 |[],h=>by cases h
 |[x],h=>by rw[Lib.join_one] at h;exact .inr ⟨x,List.mem_cons_self,h⟩
 |x::y::r,h=>by
  rw[Lib.join_cons,XH,List.mem_append,List.mem_append] at h
  rcases h with h|h|h
  ·exact .inr ⟨x,List.mem_cons_self,h⟩
  ·exact .inl h
  ·have h':c∈Lib.join (y::r) sep:=by rw[Lib.join_cons];exact h
   rcases Q7k h' with h|⟨w,hw,h⟩
   ·exact .inl h
   ·exact .inr ⟨w,List.mem_cons_of_mem _ hw,h⟩
theorem Q6M{r:Rl}(h:LOk F r):∀w∈XZ F r,Wok w:=by
 have hz:=Q1m h.ok;have hk:=h.ok.kind
 have hnm:∀x:Int,0≤x∧x<F.length→Wok (Zv F x):=fun x hx=>(Q0a (h.all x hx)).1
 have hifw:∀(u:Bool) (s w:List UInt8),(u=true→Wok s)→w∈ifW u s→Wok w:=by
  intro u s w hs hw
  unfold ifW at hw
  split at hw
  ·next hu=>rw[List.mem_singleton.1 hw];exact hs hu
  ·cases hw
 have u3:∀{k:Int},Z7 k=true→k=3∨k=5∨k=9:=fun {k} hu=>by unfold Z7 Zu at hu;simpa using hu
 have u4:∀{k:Int},Z4 k=true→k=2∨k=4∨k=5:=fun {k} hu=>by unfold Z4 Zu at hu;simpa using hu
 have u5:∀{k:Int},Zf k=true→k=2∨k=3:=fun {k} hu=>by unfold Zf Zu at hu;simpa using hu
 have u6:∀{k:Int},Qp k=true→k=6∨k=10:=fun {k} hu=>by unfold Qp Zu at hu;simpa using hu
 have u7:∀{k:Int},XJ k=true→k=6∨k=9:=fun {k} hu=>by unfold XJ Zu at hu;simpa using hu
 intro w hw
 unfold XZ KI at hw
 simp only[List.mem_append] at hw
 rcases hw with (((((((((hw|hw)|hw)|hw)|hw)|hw)|hw)|hw)|hw))|hw
 ·rcases List.mem_cons.1 hw with rfl|hw
  ·exact(Q0a h.name).1
  ·rw[List.mem_singleton.1 hw];exact Q9G hk
 ·exact hifw _ _ _ (fun _=>QaU _) hw
 ·exact hifw _ _ _ (fun hu=>Q1d (h.ok.stop (u3 hu)).1) hw
 ·refine hifw _ _ _ (fun hu=>Q1d ?_) hw
  rcases u4 hu with h2|h4|h5
  ·have:=(h.ok.num h2).1;omega
  ·have:=(h.ok.size4 h4).1;omega
  ·exact(h.ok.size5 h5).1
 ·refine hifw _ _ _ (fun _=>?_) hw
  split
  ·exact⟨by decide,by decide⟩
  ·exact⟨by decide,by decide⟩
 ·refine hifw _ _ _ (fun hu=>Q1d ?_) hw
  have h2:r.kind=2:=by simpa using hu
  exact(h.ok.num h2).2.2.1
 ·refine hifw _ _ _ (fun hu=>Q1d ?_) hw
  rcases u5 hu with h2|h3
  ·have:=h.ok.num h2;omega
  ·exact(h.ok.dec h3).1
 ·exact hifw _ _ _ (fun hu=>hnm _ (h.ok.count (u6 hu))) hw
 ·exact hifw _ _ _ (fun hu=>hnm _ (h.ok.elem (u7 hu))) hw
 ·by_cases h7:r.kind=7
  ·rw[Q5Y F h7 (h.ok.seven h7).1,List.mem_iff_getElem] at hw;obtain⟨i,hi,e⟩:=hw;rw[List.getElem_zipWith] at e
   have hi':i<r.names.length∧i<r.parts.length:=by rw[List.length_zipWith] at hi;omega
   have hn:=h.part h7 _ (List.getElem_mem hi'.1);have hp:=hnm _ (h.ok.parts (.inl h7) _ (List.getElem_mem hi'.2));rw[← e]
   unfold Ks
   obtain⟨n,hne⟩:∃n,n=r.names[i]:=⟨_,rfl⟩;rw[← hne] at hn ⊢
   have hN:Wok (if n==[] then [45] else n):=by
    split
    ·exact⟨by decide,by decide⟩
    ·next hne=>
     rcases hn with rfl|hn
     ·exact absurd rfl hne
     ·exact(Q0a hn).1
   refine⟨fun hm=>?_,fun hm=>?_⟩
   ·rw[List.mem_append,List.mem_append] at hm
    rcases hm with (hm|hm)|hm
    ·exact hN.1 hm
    ·exact absurd hm (by decide)
    ·exact hp.1 hm
   ·rw[List.mem_append,List.mem_append] at hm
    rcases hm with (hm|hm)|hm
    ·exact hN.2 hm
    ·exact absurd hm (by decide)
    ·exact hp.2 hm
  ·rw[Q5h F h7,List.mem_map] at hw;obtain⟨p,hp,rfl⟩:=hw
   by_cases h8:r.kind=8
   ·exact hnm _ (h.ok.parts (.inr h8) p hp)
   ·rw[hz.parts h7 h8] at hp;cases hp
theorem Q6Q(F:List Rl)(r:Rl):∃ws,XZ F r=r.name::ws:=by
 unfold XZ KI
 exact⟨_,by simp only[List.cons_append,List.nil_append,List.append_assoc];rfl⟩
theorem Q8g{r:Rl}(h:LOk F r):Zo (Lib.join (XZ F r) [32])=some (Q50 r,Q0I F r):=by
 unfold Zo
 obtain⟨ws,e⟩:=Q6Q F r;have hw:=Q6M h;rw[e] at hw;rw[e,Q7f _ _ (fun w hw'=>(hw w hw').1),← e];exact Q8N h
theorem Q7l:∀G:List Rl,(∀r∈G,LOk F r)→spl 10 ((G.map (YF F)).flatten)=G.map (fun r=>Lib.join (XZ F r) [32])++[[]]
 |[],_=>rfl
 |r::G,h=>by
  rw[List.map_cons,List.flatten_cons,YF,List.append_assoc,List.singleton_append,Q2U,Q7l G fun r hr=>h r (List.mem_cons_of_mem _ hr)]
  ·rfl
  ·intro hm
   rcases Q7k hm with hm|⟨w,hw,hm⟩
   ·exact absurd hm (by decide)
   ·exact(Q6M (h r List.mem_cons_self) w hw).2 hm
theorem Q1p:∀(G:List Rl) (k:Int),(∀r∈G,LOk F r)→QS k (G.map (fun r=>Lib.join (XZ F r) [32])++[[]])=.ok (G.map fun r=>(Q50 r,Q0I F r))
 |[],k,_=>rfl
 |r::G,k,h=>by
  have ih:=Q1p G (k+1) fun r hr=>h r (List.mem_cons_of_mem _ hr)
  rw[List.map_cons,List.cons_append]
  cases hL:G.map (fun r=>Lib.join (XZ F r) [32])++[[]] with
  |nil=>simp at hL
  |cons m t=>
   rw[hL] at ih;rw[QS,Q8g (h r List.mem_cons_self)]
   simp only
   rw[ih]
   rfl
theorem Q3c{G F:List Rl}:∀l:List Int,(∀x∈l,Xa G (Zv F x)=x∧0≤x)→Xe G (l.map (Zv F))=some l
 |[],_=>rfl
 |x::l,h=>by
  have hx:=h x List.mem_cons_self;rw[List.map_cons,Xe,hx.1,if_neg (by omega),Q3c l fun y hy=>h y (List.mem_cons_of_mem _ hy)]
  rfl
theorem Kr(h:POk F){F0:List Rl}(hF:∀s,Xa F0 s=Xa F s):∀(G:List Rl) (k:Int),(∀r∈G,LOk F r)→QF F0 k (G.map fun r=>(Q50 r,Q0I F r))=.ok G
 |[],k,_=>rfl
 |r::G,k,hG=>by
  have hr:=hG r List.mem_cons_self;rw[List.map_cons,QF]
  have e:Xf F0 (Q50 r,Q0I F r)=some r:=by
   unfold Xf
   simp only
   rw[Q9T,Q3c (Q1D r) fun x hx=>⟨by rw[hF];exact(h.find (Q91 hr.ok x hx)).2,(Q91 hr.ok x hx).1⟩,Option.map_some,Q60 hr.ok]
  rw[e,Kr h hF G (k+1) fun r hr=>hG r (List.mem_cons_of_mem _ hr)]
theorem Q30(hf:QO F=(0,0)):Zn (J1 F)=(F,0,0):=by
 have hc:Xb F=(0,0):=by
  unfold QO at hf
  split at hf
  ·next h=>exact absurd hf h
  ·next h=>exact Classical.byContradiction h
 have hlen:¬2000<(J1 F).length:=by
  intro h
  unfold QO at hf
  rw[if_neg (by rw[hc];simp),if_pos h] at hf
  cases hf
 have h:=KP hc
 have hG:∀r∈F,LOk F r:=fun r hr=>by
  obtain⟨i,hi,e⟩:=List.mem_iff_getElem.1 hr;exact h.line (i:=i) (by rw[List.getElem?_eq_getElem hi,e])
 unfold Zn
 rw[if_neg hlen];have e1:spl 10 (J1 F)=_:=Q7l F hG;rw[e1,Q1p F 0 hG]
 simp only
 rw[List.map_map,Kr h (fun s=>Q79 (by rw[List.map_map];rfl) s) F 0 hG]
 simp only
 rw[hf]
 rfl
theorem Q18{G F:List Rl}(H:∀s,¬Xa G s<0→Zv F (Xa G s)=s):∀{l:List (List UInt8)} {ns:List Int},Xe G l=some ns→ns.map (Zv F)=l
 |[],ns,h=>by cases h;rfl
 |s::l,ns,h=>by
  rw[Xe] at h
  split at h
  ·cases h
  ·next h0=>
   cases hp:Xe G l with
   |none=>rw[hp] at h;cases h
   |some t=>
    rw[hp] at h
    cases h
    rw[List.map_cons,H s h0,Q18 H hp]
theorem Q3s{F0 F:List Rl}(H:∀s,¬Xa F0 s<0→Zv F (Xa F0 s)=s):∀{L:List (List UInt8)} {xs:List (Rl×List (List UInt8))} {G:List Rl} {k j:Int},QS k L=.ok xs→QF F0 j xs=.ok G→(G.map (YF F)).flatten=Lib.join L [10]
 |[],xs,G,k,j,h1,h2=>by cases h1;cases h2;rfl
 |[l],xs,G,k,j,h1,h2=>by
  rw[QS] at h1
  split at h1
  ·next h0=>cases h1;cases h2;rw[h0,Lib.join_one];rfl
  ·cases h1
 |l::m::t,xs,G,k,j,h1,h2=>by
  rw[QS] at h1
  cases hl:Zo l with
  |none=>rw[hl] at h1;cases h1
  |some x=>
   rw[hl] at h1
   simp only at h1
   cases hr:QS (k+1) (m::t) with
   |error e=>rw[hr] at h1;cases h1
   |ok ys=>
    rw[hr] at h1
    cases h1
    rw[QF] at h2
    cases hx:Xf F0 x with
    |none=>rw[hx] at h2;cases h2
    |some r=>
     rw[hx] at h2
     simp only at h2
     cases hy:QF F0 (j+1) ys with
     |error e=>rw[hy] at h2;cases h2
     |ok G'=>
      rw[hy] at h2
      cases h2
      have ih:=Q3s H hr hy;rw[List.map_cons,List.flatten_cons,ih,Lib.join_cons l (m::t) [10],XH,← Lib.join_cons m t [10]];obtain⟨x1,x2⟩:=x
      unfold Xf at hx
      simp only at hx
      cases hp:Xe F0 x2 with
      |none=>rw[hp] at hx;cases hx
      |some ns=>
       rw[hp] at hx
       cases hx
       have hw:=(Q6Y (F:=F) (ws:=spl 32 l) hl (Q18 H hp)).1
       unfold YF
       rw[hw,KM]
       simp
theorem YC{F0:List Rl}:∀{xs:List (Rl×List (List UInt8))} {G:List Rl} {j:Int},QF F0 j xs=.ok G→G.map (·.name)=(xs.map (·.1)).map (·.name)
 |[],G,j,h=>by cases h;rfl
 |x::l,G,j,h=>by
  rw[QF] at h
  cases hx:Xf F0 x with
  |none=>rw[hx] at h;cases h
  |some r=>
   rw[hx] at h
   simp only at h
   cases hy:QF F0 (j+1) l with
   |error e=>rw[hy] at h;cases h
   |ok G'=>
    rw[hy] at h
    cases h
    rw[List.map_cons,List.map_cons,List.map_cons,YC hy]
    congr 1
    unfold Xf at hx
    cases hp:Xe F0 x.2 with
    |none=>rw[hp] at hx;cases hx
    |some ns=>rw[hp] at hx;cases hx;rfl
theorem Q8x{s:List UInt8}{F:List Rl}(h:Zn s=(F,0,0))(hne:F≠[]∨True):J1 F=s∧QO F=(0,0):=by
 unfold Zn at h
 split at h
 ·cases h
 ·cases h1:QS 0 (spl 10 s) with
  |error k=>rw[h1] at h;cases h
  |ok xs=>
   rw[h1] at h
   simp only at h
   cases h2:QF (xs.map (·.1)) 0 xs with
   |error k=>rw[h2] at h;cases h
   |ok G=>
    rw[h2] at h
    simp only at h
    split at h
    ·next hf=>
     simp only[Prod.mk.injEq] at h
     exact absurd h.2 hf
    ·next hf=>
     cases h
     have hnames:=YC h2;refine⟨?_,Classical.byContradiction hf⟩
     have hb:=Q3s (F0:=xs.map (·.1)) (F:=F) (fun t ht=>by
      obtain⟨r,hr,hn⟩:=Q7P ht
      have h3:((xs.map (·.1)).map (·.name))[(Xa (xs.map (·.1)) t).toNat]? =some r.name:=by rw[List.getElem?_map,hr];rfl
      rw[← hnames,List.getElem?_map] at h3
      cases hF:F[(Xa (xs.map (·.1)) t).toNat]? with
      |none=>rw[hF] at h3;cases h3
      |some q=>
       rw[hF] at h3;rw[Q0c hF,← hn]
       simpa using h3) h1 h2
     rw[KM] at hb;exact hb
end
open Go.RowKit
theorem Wd.tail{M:List Nat}{W w:World}{x:Qg}{O:List Qg}(h:Wd M W (x::O) w):Wd M W O w:=
 ⟨h.k,fun i y hy=>h.own (i+1) y (by simpa using hy),fun i y b hy hf hl=>h.new (i+1) y b (by simpa using hy) hf hl,fun i j y z b hy hz hf hg hw=>by
  have:=h.nd (i+1) (j+1) y z b (by simpa using hy) (by simpa using hz) hf hg hw
  omega⟩
section
variable {P:Program}{ops:Array Oper}{C:World→Prop}{N:Nat}{E:Env}{o:Oper}{d:Nat}
theorem Qfo{x y:Operand}{t t':TypeId}{c:UInt8}(ho:o.op=.binOp .shr t x y t')(hd:o.dst=some d)(hN:d<N)(hw:Qm ops E o=some true)(hx:ev E x=some (.int .u8 (c.toNat:Int)))(hy:ev E y=some (.int .u64 4)):oE P ops C N E ((d,.int .u8 ((c.toNat / 16:Nat):Int))::E) o:=
 YU ho hd hN hw hx hy fun w=>by
  rw[binOp_shr,shift_shr_u8 (h₀:=by decide) (h₁:=by decide)]
  have:(c.toNat:Int) / 2 ^ (4:Int).toNat=((c.toNat / 16:Nat):Int):=by
   rw[show (2:Int) ^ (4:Int).toNat=16 by decide]
   omega
  rw[this]
  rfl
theorem QcW(c:UInt8):bits .and .u8 (c.toNat:Int) 15=((c.toNat % 16:Nat):Int):=by
 have h:∀n:Fin 256,bits .and .u8 ((n:Nat):Int) 15=(((n:Nat) % 16:Nat):Int):=by decide+kernel
 exact h ⟨c.toNat,c.toNat_lt⟩
theorem Qfr{x y:Operand}{t t':TypeId}{c:UInt8}(ho:o.op=.binOp .and t x y t')(hd:o.dst=some d)(hN:d<N)(hw:Qm ops E o=some true)(hx:ev E x=some (.int .u8 (c.toNat:Int)))(hy:ev E y=some (.int .u8 15)):oE P ops C N E ((d,.int .u8 ((c.toNat % 16:Nat):Int))::E) o:=
 YU ho hd hN hw hx hy fun w=>by rw[binOp_and,intBits_and,QcW];rfl
theorem Qet{x y:Operand}{t t':TypeId}{m:Nat}(hm:m<255)(ho:o.op=.binOp .add t x y t')(hd:o.dst=some d)(hN:d<N)(hw:Qm ops E o=some true)(hx:ev E x=some (.int .u8 (m:Int)))(hy:ev E y=some (.int .u8 1)):oE P ops C N E ((d,.int .u8 ((m+1:Nat):Int))::E) o:=
 Q0o ho hd hN hw hx hy (by
  have h:∀n:Fin 255,IntKind.u8.wrap (((n:Nat):Int)+1)=(((n:Nat)+1:Nat):Int):=by decide+kernel
  exact h ⟨m,hm⟩)
end
theorem QcH{m:Nat}(h:m<16):(⟨#[48,49,50,51,52,53,54,55,56,57,97,98,99,100,101,102]⟩:ByteArray).extract m (m+1)=⟨#[hx m]⟩:=by
 have h':∀n:Fin 16,(⟨#[48,49,50,51,52,53,54,55,56,57,97,98,99,100,101,102]⟩:ByteArray).extract n (n+1)=⟨#[hx n]⟩:=by decide+kernel
 exact h' ⟨m,h⟩
theorem Q0z(a b:List UInt8):(⟨a.toArray⟩:ByteArray)++⟨b.toArray⟩=⟨(a++b).toArray⟩:=by
 refine Qa4 ?_
 simp
section
variable {P:Program}{ops:Array Oper}{N:Nat}{E:Env}{o:Oper}{M:List Nat}{W:World}{O:List Qg}
theorem Q8c{t e:TypeId}{bytes:Nat}(hT:SlT P t e 1 bytes)(a b:ByteArray)(w:World):
  (Instr.buildSlice t 2 #[(0,.string a),(1,.string b)]).run P w=.ok (.slice (some ⟨w.heap.size,0,none⟩) 2 2) (w.alloc (.cells [Value.string a,.string b].toArray e)):=by
 obtain⟨i,z,hi,hz,hsz,hby,hzs⟩:=hT.info;refine run_buildSlice w t e 2 _ [Value.string a,.string b].toArray i z hT.und hi hz (by rw[hsz];omega) (by rw[hsz];omega) ?_;rw[hsz]
 have hZ:∀Z:Array Value,Z.size=2→Instr.fill (fun i=>some (i*1,1)) Z [(0,Value.string a),(1,Value.string b)]=some #[.string a,.string b]:=by
  rintro⟨l⟩ h
  match l,h with
  |[z0,z1],_=>rfl
 exact hZ _ (by simp)
theorem Q1A{t e:TypeId}{bytes:Nat}{x y:Operand}{a b:ByteArray}[hT:Sl P t e 1 bytes](ho:o.op=.buildSlice t 2 #[(0,x),(1,y)])(hw:Qm ops E o=some true)(hx:ev E x=some (.string a))(hy:ev E y=some (.string b)):
  uE P ops N M W E O o Nat (fun b=>.slice (some ⟨b,0,none⟩) 2 2) (fun g=>.blk g (.cells [Value.string a,.string b].toArray e (0,0))::O) (fun _=>True):=
 Q2Q (xs:=[(0,x),(1,y)]) (vs:=[(0,.string a),(1,.string b)]) ho hw (by simp [evp,hx,hy]) (fun w=>Q8c hT.h a b w)
end
set_option maxRecDepth 100000 in
set_option maxHeartbeats 4000000 in
theorem Y7{M:List Nat}{W w:World}{O:List Qg}{g c:Nat}{A:Option Addr}{ws:List (List UInt8)}(u:Bool)(s:List UInt8)(hn:ws.length≤1048576)(hw:Wd M W (.blk g (.cells [.slice A ws.length c].toArray 50 (0,0))::.row A ws.length c 9 1 (sv ws)::O) w):
  Calls Tryz.prog 65 ([Value.bool u,.string ⟨s.toArray⟩].toArray++#[.pointer (some ⟨g,0,none⟩)]) w (QW (fun _:Option Addr×Nat=>.tuple #[]) (fun _=>True) M W (fun y=>.blk g (.cells [.slice y.1 (ws++ifW u s).length y.2].toArray 50 (0,0))::.row y.1 (ws++ifW u s).length y.2 9 1 (sv (ws++ifW u s))::O)):=by
 rw[show ([Value.bool u,.string ⟨s.toArray⟩].toArray++#[.pointer (some ⟨g,0,none⟩)]:Array Value)=#[.bool u,.string ⟨s.toArray⟩,.pointer (some ⟨g,0,none⟩)] by simp]
 cases u with
 |false=>
  go_enter Tryz.func65,Tryz.ntmps65
  refine QE (M:=M) (W:=W) (N:=10) (E:=[(0,.bool false),(1,.string ⟨s.toArray⟩),(2,.pointer (some ⟨g,0,none⟩))]) (O:=.blk g (.cells [.slice A ws.length c].toArray 50 (0,0))::.row A ws.length c 9 1 (sv ws)::O) ?_ (Ag.cons (Ag.cons (Ag.cons (Ag.nil rfl rfl) rfl) rfl) rfl) hw
  repeat(first|refine Q1 zM ?_|refine Q8 ?_|refine Q6 ?_|refine Q2 ?_|refine Qh ?_|refine Q3 rfl ?_)
  refine Q0V (by exact .inl rfl) rfl (fun w hw=>⟨(A,c),rfl,trivial,?_⟩);rw[show ws++ifW false s=ws from List.append_nil ws];exact hw
 |true=>
  go_enter Tryz.func65,Tryz.ntmps65
  refine QE (M:=M) (W:=W) (N:=10) (E:=[(0,.bool true),(1,.string ⟨s.toArray⟩),(2,.pointer (some ⟨g,0,none⟩))]) (O:=.blk g (.cells [.slice A ws.length c].toArray 50 (0,0))::.row A ws.length c 9 1 (sv ws)::O) ?_ (Ag.cons (Ag.cons (Ag.cons (Ag.nil rfl rfl) rfl) rfl) rfl) hw
  repeat(first|refine Q1 zM ?_|refine Q1 (zB 0) ?_|refine Qa (Qz (size:=1) (cs:=[.string ⟨s.toArray⟩]) rfl rfl rfl rfl rfl (by decide)) rfl (by decide) (fun bn _=>?_)|refine Qa (QC (news:=[.string ⟨s.toArray⟩]) 2 rfl rfl rfl rfl rfl (fun w hw=>hw.rd_blk 0 rfl rfl) (by simp [Value.oneCell']) (by omega)) rfl (by decide) (fun y _=>?_)|refine yS 1 ?_|refine Q8 ?_|refine Q6 ?_|refine Q2 ?_|refine Q5 rfl ?_)
  refine Q0V (by exact .inl rfl) rfl (fun w hw=>⟨y,rfl,trivial,?_⟩);have h:=hw.tail;rw[show (ws++ifW true s).length=ws.length+1 by simp [ifW],K0];exact h
theorem Q5Q:Lib.fields [108,105,116,101,114,97,108,32,110,117,109,98,101,114,32,100,101,99,105,109,97,108,32,98,121,116,101,115,32,117,110,116,105,108,32,99,111,117,110,116,101,100,32,115,101,113,117,101,110,99,101,32,99,104,111,105,99,101,32,114,101,112,101,97,116,32,98,108,111,98]=JA:=by decide+kernel
theorem Q1X{M:List Nat}{W w:World}{O:List Qg}(hg:GV W)(hw:Wd M W O w)(hgw:GV w):
  Calls Tryz.prog 64 #[.string ⟨#[108,105,116,101,114,97,108,32,110,117,109,98,101,114,32,100,101,99,105,109,97,108,32,98,121,116,101,115,32,117,110,116,105,108,32,99,111,117,110,116,101,100,32,115,101,113,117,101,110,99,101,32,99,104,111,105,99,101,32,114,101,112,101,97,116,32,98,108,111,98]⟩] w (QW (fun b:Nat=>.slice (some ⟨b,0,none⟩) 10 10) (fun _=>True) M W (fun b=>.rd (some ⟨b,0,none⟩) 10 1 (sv JA)::O)):=by
 refine(Tryz.strings_Fields _ w (by decide) (by
  intro j b hb
  have h:∀x∈(⟨#[108,105,116,101,114,97,108,32,110,117,109,98,101,114,32,100,101,99,105,109,97,108,32,98,121,116,101,115,32,117,110,116,105,108,32,99,111,117,110,116,101,100,32,115,101,113,117,101,110,99,101,32,99,104,111,105,99,101,32,114,101,112,101,97,116,32,98,108,111,98]⟩:ByteArray).data.toList,x.toNat<128:=by decide+kernel
  exact h b (List.mem_of_getElem? hb)) hgw.sp).mono ?_
 rintro e w' ⟨he,hw'⟩
 have hk:Lib.fields (⟨#[108,105,116,101,114,97,108,32,110,117,109,98,101,114,32,100,101,99,105,109,97,108,32,98,121,116,101,115,32,117,110,116,105,108,32,99,111,117,110,116,101,100,32,115,101,113,117,101,110,99,101,32,99,104,111,105,99,101,32,114,101,112,101,97,116,32,98,108,111,98]⟩:ByteArray).data.toList=JA:=Q5Q;rw[hk] at he hw';subst he hw';refine⟨w.heap.size,rfl,trivial,hw.push ((Below.refl _ _).alloc (Nat.le_refl _) _) ⟨rfl,fun _=>⟨w.heap.size,0,rfl,by simp,fun j u hu=>?_⟩⟩ (fun b' hb'=>by cases hb';exact Nat.le_refl _)⟩;rw[Nat.zero_add];exact(cell_of_row _ w.heap.size j _ _ (0,0) (heap_alloc_new _ _)).trans (by rw[List.getElem?_toArray];exact hu)
theorem Q02{Q:Exit→Act→World→Prop}{N:Nat}{M:List Nat}{W:World}{E:Env}{O:List Qg}{ex:Exit}(i:Nat){b n s:Nat}{e:TypeId}{cs:List Value}(hO:O[i]? =some (.blk b (.cells cs.toArray e (0,0))))(hl:cs.length=n*s)(hn:n≤maxLen)(h:xE Q N M W E (O.set i (.row (some ⟨b,0,none⟩) n n e s cs)) ex):xE Q N M W E O ex:=fun a w ha hW=>h a w ha (hW.blk_row hO hl hn)
theorem XN{w:World}{A:Option Addr}{n c s:Nat}{e:TypeId}{xs:List Value}(h:(Qg.row A n c e s xs).on w)(hs:0<s):Rd w w.heap.size s A n xs∧n≤c:=by
 have h':w.ownsRow 0 e s (.slice A n c) n xs:=h
 rcases h'.2 with ⟨hv,h0⟩|⟨g,cap,cur,hv,_,hg,h1,h2,h3,h4⟩
 ·simp only[Value.slice.injEq] at hv
  exact⟨⟨h'.1,fun hn=>absurd hn (by omega)⟩,by omega⟩
 ·simp only[Value.slice.injEq] at hv
  obtain⟨rfl,_,rfl⟩:=hv;refine⟨⟨h'.1,fun hn=>⟨g,0,rfl,(Array.getElem?_eq_some_iff.1 hg).1,fun j u hu=>?_⟩⟩,h1⟩;rw[Nat.zero_add];refine(cell_of_row w g j cur e (0,0) hg).trans ?_
  have hj:j<n*s:=by
   rcases Nat.lt_or_ge j (n*s) with hj|hj
   ·exact hj
   ·rw[List.getElem?_eq_none (by rw[h'.1];exact hj)] at hu;cases hu
  rw[← h4,List.getElem?_take,if_pos hj] at hu;rw[← hu]
  simp
section
variable {P:Program}{ops:Array Oper}{N:Nat}{E:Env}{o:Oper}{M:List Nat}{W:World}{O:List Qg}
theorem Q8k{t:TypeId}{x:Operand}{p:Addr}{v:Value}[hT:T1 P t](ho:o.op=.load t x)(hw:Qm ops E o=some true)(hx:ev E x=some (.pointer (some p)))(hc:∀w,Wd M W O w→w.cell? p=some v):uE P ops N M W E O o Unit (fun _=>v) (fun _=>O) (fun _=>True):=
 Q3p hw fun ρ w ha hW=>⟨(),w,by
  obtain⟨ds,hu,hr,hi⟩:=hT.h
  have hagg:(isAgg t).run P w=.ok false w:=by
   unfold isAgg
   rw[Sem.run_bind,run_underlying hu w]
   cases ds<;>simp_all
  simp [execOp,ho,ha.eval hx,Instr.loadAt,Instr.sureAddr,loadVar,Sem.run_bind,hagg,hc w hW,go_sem],trivial,hW⟩
end
theorem Qar{k:Int}(h:1≤k∧k≤10):(sv JA)[(k - 1).toNat]? =some (.string ⟨(Xz k).toArray⟩):=by
 rcases (show k=1∨k=2∨k=3∨k=4∨k=5∨k=6∨k=7∨k=8∨k=9∨k=10 by omega) with rfl|rfl|rfl|rfl|rfl|rfl|rfl|rfl|rfl|rfl<;>rfl
theorem Qdq{bs:List UInt8}{i:Nat}{c:UInt8}(h:bs[i]? =some c):Jr (bs.take i)++([hx (c.toNat / 16)]++[hx (c.toNat % 16)])=Jr (bs.take (i+1)):=by
 rw[List.take_add_one,h]
 unfold Jr
 simp [Kx]
theorem Ya(bs:List UInt8):(Jr bs).length=2*bs.length:=by
 induction bs with
 |nil=>rfl
 |cons c l ih=>
  show (Kx c++Jr l).length=_
  rw[List.length_append,ih,List.length_cons]
  show 2+_=_
  omega
theorem Xh(l:List UInt8):(⟨l.toArray⟩:ByteArray).size=l.length:=by simp [ByteArray.size]
theorem YO{l:List UInt8}(h:Qi l=true):l.length≤32:=by
 unfold Qi at h
 rw[Bool.and_eq_true,Bool.and_eq_true,decide_eq_true_eq] at h;exact h.1.1
theorem KF{ws ws':List (List UInt8)}{u:Bool}{s:List UInt8}{m:Nat}(h:ws++ifW u s=ws')(hm:ws.length≤m):ws'.length≤m+1:=by
 rw[← h,List.length_append]
 unfold ifW
 split<;>simp<;>omega
structure NSm(n:Nat)(r:Rl):Prop where
 stop:0≤r.stop∧r.stop≤4294967295
 size:0≤r.size∧r.size≤4294967295
 mn:0≤r.mn∧r.mn≤4294967295
 mx:0≤r.mx∧r.mx≤4294967295
 count:0≤r.count∧r.count<n
 elem:0≤r.elem∧r.elem<n
theorem Q8q{n:Nat}{r:Rl}(h:ROk n r)(hn:0<n):NSm n r:=by
 have hz:=Q1m h;have hk:=h.kind
 have a6:r.kind=2→r.mx≤4294967295:=fun h2=>by
  obtain⟨b1,b2,_,_,b5⟩:=h.num h2
  generalize r.size=size at b1 b2 b5
  rcases (show size=1∨size=2∨size=3∨size=4 by omega) with rfl|rfl|rfl|rfl<;>simp at b5<;>omega
 refine⟨?_,?_,?_,?_,?_,?_⟩
 ·by_cases hu:r.kind=3∨r.kind=5∨r.kind=9
  ·have:=h.stop hu;omega
  ·rw[hz.stop (by omega) (by omega) (by omega)];omega
 ·by_cases h2:r.kind=2
  ·have:=h.num h2;omega
  ·by_cases h4:r.kind=4
   ·have:=h.size4 h4;omega
   ·by_cases h5:r.kind=5
    ·have:=h.size5 h5;omega
    ·rw[hz.size h2 h4 h5];omega
 ·by_cases h2:r.kind=2
  ·have:=h.num h2;have:=a6 h2;omega
  ·rw[hz.mn h2];omega
 ·by_cases h2:r.kind=2
  ·have:=h.num h2;have:=a6 h2;omega
  ·by_cases h3:r.kind=3
   ·have:=h.dec h3;omega
   ·rw[hz.mx h2 h3];omega
 ·by_cases hu:r.kind=6∨r.kind=10
  ·exact h.count hu
  ·rw[hz.count (by omega) (by omega)];omega
 ·by_cases hu:r.kind=6∨r.kind=9
  ·exact h.elem hu
  ·rw[hz.elem (by omega) (by omega)];omega
section
variable {P:Program}{Q:Exit→Act→World→Prop}{N:Nat}{M:List Nat}{W:World}{E:Env}{O:List Qg}
theorem ZF{c:Code}{ι:Type}(p:ι→Prop)(m:ι→Nat)(F:ι→Env)(G:ι→List Qg)(i0:ι)(h0:p i0)(hE:Q0u E (F i0))(hG:∀w,Wd M W O w→Wd M W (G i0) w)
  (hr:∀i,p i→sE P (Exit.then (Q4x p m (m i) N M W F G) Q) N M W (F i) (G i) c):sE P Q N M W E O (.loop c):=fun a w ha hw=>by
 refine wp_loop_ghost (fun n a w=>∃i,p i∧m i=n∧Ag N (F i) a∧Wd M W (G i) w) (m i0) ⟨i0,h0,rfl,hE.ag ha,hG w hw⟩ ?_
 rintro n a w ⟨i,hp,rfl,ha,hw⟩
 refine wp_mono (hr i hp a w ha hw) ?_;intro e a' w' hq
 cases e with
 |normal=>
  obtain⟨j,h1,h2,h3,h4⟩:=hq;exact⟨m j,h2,j,h1,rfl,h3,h4⟩
 |exit id=>exact hq
 |goto l=>exact hq
 |ret=>exact hq
 |panic ch=>exact hq
 |outgrown=>exact hq
theorem QH{ι:Type}{p:ι→Prop}{m:ι→Nat}{n:Nat}{F:ι→Env}{G:ι→List Qg}(j:ι)(hp:p j)(hm:m j<n)(hE:Q0u E (F j))(hG:∀w,Wd M W O w→Wd M W (G j) w):xE (Exit.then (Q4x p m n N M W F G) Q) N M W E O .normal:=fun a w ha hw=>
 ⟨j,hp,hm,hE.ag ha,hG w hw⟩
end
theorem Wd.tl{M:List Nat}{W w:World}{x:Qg}{O:List Qg}(h:Wd M W (x::O) w):Wd M W O w:=
 ⟨h.k,fun i y hy=>h.own (i+1) y hy,fun i y b hy hb hl=>h.new (i+1) y b hy hb hl,fun i j y z b hy hz hb hb' hw=>by have:=h.nd (i+1) (j+1) y z b hy hz hb hb' hw;omega⟩
theorem Wd.no2{M:List Nat}{W w:World}{x y:Qg}{O:List Qg}(h:Wd M W (x::y::O) w):Wd M W (x::O) w:=
 ⟨h.k,fun i z hz=>by
  cases i with
  |zero=>exact h.own 0 z hz
  |succ i=>exact h.own (i+2) z hz,fun i z b hz hb hl=>by
  cases i with
  |zero=>exact h.new 0 z b hz hb hl
  |succ i=>exact h.new (i+2) z b hz hb hl,fun i j z u b hz hu hb hb' hw=>by
  cases i with
  |zero=>
   cases j with
   |zero=>rfl
   |succ j=>have:=h.nd 0 (j+2) z u b hz hu hb hb' hw;omega
  |succ i=>
   cases j with
   |zero=>have:=h.nd (i+2) 0 z u b hz hu hb hb' hw;omega
   |succ j=>have:=h.nd (i+2) (j+2) z u b hz hu hb hb' hw;omega⟩
section
variable {A Ab An Ap:Option Addr}{n c cb cn cp:Nat}{W:World}
set_option maxRecDepth 100000 in
set_option maxHeartbeats 8000000 in
theorem Q1K{r:Rl}(hl:RuL W r Ab cb An cn Ap cp)(hk:1≤r.kind∧r.kind≤10)(h7:r.kind=7→1≤r.parts.length)(h8:r.kind=8→1≤r.parts.length):
  Calls Tryz.prog 51 #[.agg (ruC r (.slice Ab r.bs.length cb) (.slice An r.names.length cn) (.slice Ap r.parts.length cp)).toArray] W (BgX W Ap r.parts.length (bl r)):=by
 obtain⟨name,kind,bs,size,big,mn,mx,stop,count,elem,names,parts⟩:=r;have hp:=hl.p;have hcp:=hl.cp
 simp only[ruC] at hk h7 h8 hp hcp ⊢
 clear hl;have HP:=Lib.hid hp;clear hp
 by_cases k7:kind=7
 ·subst k7;have hp7:=h7 rfl;obtain⟨bp,op,rfl,_,hcell⟩:=HP.out.2 (by omega);obtain⟨x,hx⟩:∃x,parts[0]? =some x:=⟨_,List.getElem?_eq_getElem (by omega)⟩;have hc0:W.cell? ⟨bp,op+0,none⟩=some (.int .i64 x):=hcell 0 _ (by show (iv parts)[0]? =_;unfold iv;rw[List.getElem?_map,hx];rfl)
  have hbl:bl ⟨name,7,bs,size,big,mn,mx,stop,count,elem,names,parts⟩=[x]:=by
   show parts.take 1=[x]
   cases parts with
   |nil=>cases hx
   |cons y t=>cases hx;rfl
  rw[hbl]
  have h0p:0<parts.length:=by omega
  clear hcell hbl hx
  go_enter Tryz.func51,Tryz.ntmps51
  refine QE (M:=[]) (W:=W) (N:=33) (E:=[(0,.agg ([.string ⟨name.toArray⟩,.int .i64 7,.slice Ab bs.length cb,.int .i64 size,.bool big,.int .i64 mn,.int .i64 mx,.int .i64 stop,.int .i64 count,.int .i64 elem,.slice An names.length cn,.slice (some ⟨bp,op,none⟩) parts.length cp]:List Value).toArray)]) (O:=[]) ?_ (Ag.cons (Ag.nil rfl rfl) rfl) (Wd.start [] W)
  repeat' (first|((with_reducible show lE _ _ _ _ _ _ _ _ _);first|refine Q1 zM ?_|refine Q1 zA ?_|refine Q1 zF ?_|refine Q1 (zB 0) ?_|refine Q1 zC ?_|refine yB fun br=>?_|refine Q1 (zi1 (j:=0) (hj:=h0p)) ?_|refine Qa (Qz (size:=1) (cs:=[.int .i64 x]) rfl rfl rfl rfl rfl (by decide)) rfl (by decide) (fun bn _=>?_)|refine Q8 ?_|refine Q1 zet ?_|refine Q1 zef ?_|refine Q1 zN ?_)|((with_reducible show sE _ _ _ _ _ _ _ _);first|refine Q6 ?_|refine Q2 ?_|refine Qh ?_|refine Q5 rfl ?_|refine Q3 rfl ?_|refine Ql ?_)|((with_reducible show xE _ _ _ _ _ _ _);first|refine Qb ?_|refine Qc ?_))
  exact Q9 (by exact .inr rfl) rfl (.tmp rfl) (fun w hw=>Q0S hw)
 by_cases k8:kind=8
 ·subst k8
  go_enter Tryz.func51,Tryz.ntmps51
  refine QE (M:=[]) (W:=W) (N:=33) (E:=[(0,.agg ([.string ⟨name.toArray⟩,.int .i64 8,.slice Ab bs.length cb,.int .i64 size,.bool big,.int .i64 mn,.int .i64 mx,.int .i64 stop,.int .i64 count,.int .i64 elem,.slice An names.length cn,.slice Ap parts.length cp]:List Value).toArray)]) (O:=[]) ?_ (Ag.cons (Ag.nil rfl rfl) rfl) (Wd.start [] W)
  repeat' (first|((with_reducible show lE _ _ _ _ _ _ _ _ _);first|refine Q1 zM ?_|refine Q1 zA ?_|refine Q1 zF ?_|refine Q1 (zB 0) ?_|refine yB fun br=>?_|refine Q8 ?_|refine Q1 zet ?_|refine Q1 zef ?_|refine Q1 zN ?_)|((with_reducible show sE _ _ _ _ _ _ _ _);first|refine Q6 ?_|refine Q2 ?_|refine Qh ?_|refine Q5 rfl ?_|refine Q3 rfl ?_|refine Ql ?_)|((with_reducible show xE _ _ _ _ _ _ _);first|refine Qb ?_|refine Qc ?_))
  exact Q9 (by exact .inr rfl) rfl (.tmp rfl) (fun w hw=>Q92 HP.out (h8 rfl) hcp hw)
 rcases (show (kind=6∨kind=10)∨kind=9∨(kind=1∨kind=2∨kind=3∨kind=4∨kind=5) by omega) with (rfl|rfl)|rfl|(rfl|rfl|rfl|rfl|rfl)<;>
 ·clear k7 k8 h7 h8 hk
  go_enter Tryz.func51,Tryz.ntmps51
  refine QE (M:=[]) (W:=W) (N:=33) (E:=[(0,.agg ([.string ⟨name.toArray⟩,.int .i64 _,.slice Ab bs.length cb,.int .i64 size,.bool big,.int .i64 mn,.int .i64 mx,.int .i64 stop,.int .i64 count,.int .i64 elem,.slice An names.length cn,.slice Ap parts.length cp]:List Value).toArray)]) (O:=[]) ?_ (Ag.cons (Ag.nil rfl rfl) rfl) (Wd.start [] W)
  repeat' (first|((with_reducible show lE _ _ _ _ _ _ _ _ _);first|refine Q1 zM ?_|refine Q1 zA ?_|refine Q1 zF ?_|refine Q1 zS ?_|refine Q1 (zB 0) ?_|refine yB fun br=>?_|refine Qa (Qz (size:=1) (cs:=[.int .i64 count]) rfl rfl rfl rfl rfl (by decide)) rfl (by decide) (fun bn _=>?_)|refine Qa (Qz (size:=1) (cs:=[.int .i64 elem]) rfl rfl rfl rfl rfl (by decide)) rfl (by decide) (fun bn _=>?_)|refine Q8 ?_|refine Q1 zet ?_|refine Q1 zef ?_|refine Q1 zY ?_|refine Q1 zN ?_)|((with_reducible show sE _ _ _ _ _ _ _ _);first|refine Q6 ?_|refine Q2 ?_|refine Qh ?_|refine Q5 rfl ?_|refine Q3 rfl ?_|refine Ql ?_)|((with_reducible show xE _ _ _ _ _ _ _);first|refine Qb ?_|refine Qc ?_))
  first|exact Q9 (by exact .inr rfl) rfl (.tmp rfl) (fun w hw=>Q0S hw)|exact Q9 (by exact .inr rfl) rfl (.tmp rfl) (fun w hw=>Q04 hw)
theorem Q4d{r:Rl}{w:World}{O:List Qg}(hl:RuL W r Ab cb An cn Ap cp)(hr:ROk n r)(hw:Wd [] W O w):
  Calls Tryz.prog 51 #[.agg (ruC r (.slice Ab r.bs.length cb) (.slice An r.names.length cn) (.slice Ap r.parts.length cp)).toArray] w (QW (fun y:Option Addr×Nat=>.slice y.1 (bl r).length y.2) (fun y=>(bl r).length≤y.2) [] W (fun y=>.rd y.1 (bl r).length 1 (iv (bl r))::O)):=by
 refine(Q1K (hl.on hw.k.below) hr.kind (fun h=>(hr.seven h).2) (fun h=>by have:=hr.eight h;omega)).mono ?_
 rintro e w' ⟨A,m,c,rfl,h1,h2,h3,h4,h5⟩
 have hm:(bl r).length=m:=by have:=h1.len;rw[Kj] at this;exact this
 subst hm;refine⟨(A,c),rfl,h2,(hw.on h3).rd_far hw h1 (fun b o e hn=>?_)⟩
 rcases h4 b o e hn with h|⟨⟨o',h⟩,h0⟩
 ·exact .inl h
 ·right
  obtain⟨b',o'',e',hlt,_⟩:=hl.p.2 h0;rw[h] at e'
  cases e'
  exact hlt
def Yc(F:List Rl)(k t:Nat):List Bool:=iter (Zi F k) t (List.replicate F.length false)
def Yy(F:List Rl)(k t i:Nat):List Bool:=(List.range i).foldl (Zh F k) (Yc F k t)
theorem Qbj(a:List Bool)(l:List Nat):(Q2F a l).length=a.length:=(Q9p a l).1.symm
theorem Q81(F:List Rl)(k t:Nat):(Yc F k t).length=F.length:=by
 have:=(Q0d (Vm F k) (List.replicate F.length false) t).1;rw[List.length_replicate] at this;exact this.symm
theorem Q8p(F:List Rl)(k t i:Nat):(Yy F k t i).length=F.length:=by
 have:=(Vv (K1 F k) (List.range i) (Yc F k t)).1;rw[Q81] at this;exact this.symm
theorem Q7h(F:List Rl)(k t i:Nat):Yy F k t (i+1)=Zh F k (Yy F k t i) i:=by
 unfold Yy
 rw[List.range_succ,List.foldl_append]
 rfl
theorem Qa6{a:List Bool}{l:List Nat}{j x:Nat}(h:l[j]? =some x):Q2F a (l.take (j+1))=(Q2F a (l.take j)).set x true:=by
 rw[List.take_add_one,h]
 unfold Q2F
 rw[List.foldl_append]
 rfl
end
theorem LeB.antisymm{a b:List Bool}(h:LeB a b)(k:LeB b a):a=b:=Jf h.1 fun i hi=>by
 cases ha:a.getD i false with
 |true=>exact(h.2 i ha).symm
 |false=>
  cases hb:b.getD i false with
  |false=>rfl
  |true=>rw[k.2 i hb] at ha;cases ha
theorem LeB.of_false(n:Nat){b:List Bool}(h:b.length=n):LeB (List.replicate n false) b:=⟨by rw[List.length_replicate,h],fun i hi=>by
 simp only[List.getD_eq_getElem?_getD,List.getElem?_replicate] at hi
 split at hi<;>simp at hi⟩
theorem Q6v{a b:List Bool}(h:LeB a b){x:Int}(hx:mk a x=true):mk b x=true:=h.2 _ hx
theorem Q2a{F:List Rl}{a b:List Bool}{r:Rl}(h:LeB a b)(ho:JB F a r=true):JB F b r=true:=by
 unfold JB at ho ⊢
 by_cases h10:r.kind=10
 ·rw[if_pos h10] at ho ⊢;exact Q6v h ho
 rw[if_neg h10] at ho ⊢
 by_cases h6:r.kind=6
 ·rw[if_pos h6] at ho ⊢;rw[Bool.and_eq_true,Bool.or_eq_true] at ho ⊢;exact⟨Q6v h ho.1,ho.2.imp id (Q6v h)⟩
 rw[if_neg h6] at ho ⊢
 by_cases h7:r.kind=7
 ·rw[if_pos h7] at ho ⊢;rw[Bool.not_eq_true',List.any_eq_false] at ho ⊢;intro x hx hb;refine ho x hx ?_;rw[Bool.not_eq_true'] at hb ⊢
  cases e:mk a x with
  |false=>rfl
  |true=>rw[Q6v h e] at hb;cases hb
 rw[if_neg h7] at ho ⊢
 by_cases h8:r.kind=8
 ·rw[if_pos h8] at ho ⊢;rw[List.any_eq_true] at ho ⊢;obtain⟨x,hx,hb⟩:=ho;exact⟨x,hx,Q6v h hb⟩
 ·rw[if_neg h8]
def YV(F:List Rl)(out:List Bool):List Bool:=F.map (JB F out)
def Vw(F:List Rl)(t:Nat):List Bool:=iter (YV F) t (List.replicate F.length false)
theorem Q08(F:List Rl)(out:List Bool):(YV F out).length=F.length:=by unfold YV;rw[List.length_map]
theorem JX(F:List Rl):∀t,(Vw F t).length=F.length
 |0=>List.length_replicate
 |t+1=>Q08 F _
theorem YS(F:List Rl)(out:List Bool)(i:Nat):(YV F out).getD i false=match F[i]? with|some r=>JB F out r|none=>false:=by
 unfold YV
 rw[List.getD_eq_getElem?_getD,List.getElem?_map]
 cases F[i]?<;>rfl
theorem Q3J{F:List Rl}{a b:List Bool}(h:LeB a b):LeB (YV F a) (YV F b):=⟨by rw[Q08,Q08],fun i hi=>by
 rw[YS] at hi ⊢
 cases hr:F[i]? with
 |none=>rw[hr] at hi;cases hi
 |some r=>rw[hr] at hi;exact Q2a h hi⟩
theorem Q98(F:List Rl):∀t,LeB (Vw F t) (Vw F (t+1))
 |0=>LeB.of_false _ (JX F 1)
 |t+1=>Q3J (Q98 F t)
theorem Q54(F:List Rl):Vw F (F.length+1)=Vw F F.length:=by
 refine Jf (by rw[JX,JX]) fun i hi=>?_
 rw[JX] at hi
 exact Q2b (n:=F.length) (s:=fun t i=>(Vw F t).getD i false) (fun t i _=>(Q98 F t).2 i)
  (fun t ht i hi=>by
   have e:Vw F (t+1)=Vw F t:=Jf (by rw[JX,JX]) fun j hj=>ht j (by rw[JX] at hj;exact hj)
   show (YV F (Vw F (t+1))).getD i false=(Vw F (t+1)).getD i false
   rw[e]
   show (Vw F (t+1)).getD i false=_
   rw[e]) i hi
theorem Q4L(F:List Rl):∀k,Vw F (F.length+k)=Vw F F.length
 |0=>rfl
 |k+1=>by
  show YV F (Vw F (F.length+k))=_
  rw[Q4L F k];exact Q54 F
theorem Q3I(F:List Rl)(out:List Bool)(k:Nat):LeB out (Z5 F out k):=LeB.set out k _ fun h=>by rw[h];rfl
theorem Q2m(F:List Rl)(out:List Bool):LeB out (Zl F out):=Vv (Q3I F) _ _
theorem Jc(F:List Rl):(ZC F).length=F.length:=by
 have:=(Q0d (Q2m F) (List.replicate F.length false) F.length).1;rw[List.length_replicate] at this;exact this.symm
theorem Qa2(F:List Rl):Zl F (ZC F)=ZC F:=by
 have:=KZ (Q2m F) (List.replicate F.length false);rw[List.length_replicate] at this;exact this
theorem Q2u(F:List Rl):LeB (YV F (ZC F)) (ZC F):=⟨by rw[Q08,Jc],fun i hi=>by
 rw[YS] at hi
 cases hr:F[i]? with
 |none=>rw[hr] at hi;cases hi
 |some r=>
  rw[hr] at hi;have hin:i<F.length:=(List.getElem?_eq_some_iff.1 hr).1;obtain⟨a',h1,h2⟩:=VR (Q3I F) (List.range F.length) (ZC F) i (List.mem_range.2 hin)
  have h3:(Z5 F a' i).getD i false=true:=by
   unfold Z5
   rw[Z1 _ _ _ _ (by rw[← h1.1,Jc];exact hin),if_pos rfl,hr]
   show (_||JB F a' r)=true
   rw[Q2a h1 hi,Bool.or_true]
  have h4:=h2.2 i h3;have h5:(Zl F (ZC F)).getD i false=true:=h4
  rwa [Qa2] at h5⟩
theorem Q9m(F:List Rl):∀t,LeB (Vw F t) (ZC F)
 |0=>LeB.of_false _ (Jc F)
 |t+1=>(Q3J (Q9m F t)).trans (Q2u F)
theorem QcU(F:List Rl):LeB (ZC F) (Vw F F.length):=by
 refine Q1c (f:=Zl F) (p:=fun out=>LeB out (Vw F F.length)) (fun a ha=>Q00 (p:=fun out=>LeB out (Vw F F.length)) (fun out k ho=>?_) _ _ ha) (a:=List.replicate F.length false) (LeB.of_false _ (JX F _)) F.length;refine⟨by rw[← ho.1];unfold Z5;rw[List.length_set],fun i hi=>?_⟩
 unfold Z5 at hi
 by_cases hk:k<out.length
 ·rw[Z1 _ _ _ _ hk] at hi
  split at hi
  ·next e=>
   subst e;rw[Bool.or_eq_true] at hi
   rcases hi with hi|hi
   ·exact ho.2 _ hi
   ·have h1:(YV F (Vw F F.length)).getD i false=true:=by
     rw[YS]
     cases hr:F[i]? with
     |none=>rw[hr] at hi;cases hi
     |some r=>rw[hr] at hi;exact Q2a ho hi
    have h2:(Vw F (F.length+1)).getD i false=true:=h1;rwa [Q54] at h2
  ·exact ho.2 _ hi
 ·rw[List.set_eq_of_length_le (by omega)] at hi;exact ho.2 _ hi
theorem Q3r(F:List Rl)(k:Nat):Vw F (F.length+k)=ZC F:=by
 rw[Q4L];exact(Q9m F _).antisymm (QcU F)
section
variable {F:List Rl}{a:List Int}
theorem QbK(n:Nat):sg (List.replicate n (-1))=List.replicate n false:=by
 unfold sg
 rw[List.map_replicate]
 rfl
theorem Qbl(old:List Int):(sg old).length=old.length:=by unfold sg;rw[List.length_map]
theorem Q8t(old:List Int){i:Nat}(hi:i<old.length):(sg old).getD i false=decide (0≤old.getD i 0):=by
 unfold sg
 rw[List.getD_eq_getElem?_getD,List.getElem?_map,List.getD_eq_getElem?_getD,List.getElem?_eq_getElem hi]
 rfl
theorem Q05(hv:Usd F):∀t,sg (ZV F t)=Vw F t
 |0=>QbK _
 |t+1=>by
  refine Jf (by rw[Qbl,XO,JX]) fun i hi=>?_
  rw[Qbl,XO] at hi;have hr:F[i]? =some F[i]:=List.getElem?_eq_getElem hi;rw[Q8t _ (by rw[XO];exact hi),K6 hr]
  show _=(YV F (Vw F t)).getD i false
  rw[YS,hr]
  show _=JB F (Vw F t) _
  rw[← Q05 hv t,Qcr hv (XO F t) hr]
theorem Q8T(hv:Usd F){i:Nat}(hi:i<F.length):decide (0≤(XG F).getD i 0)=(ZC F).getD i false:=by
 unfold XG
 rw[← Q8t _ (by rw[XO];exact hi),Q05 hv,show 2*F.length+1=F.length+(F.length+1) by omega,Q3r]
noncomputable def Q7L(F:List Rl)(a:List Int)(i:Nat):Nat:=by
 classical exact cnt (fun j=>decide (a.getD j 0<a.getD i 0∨(a.getD j 0=a.getD i 0∧rk F j<rk F i))) F.length
theorem QcE{i j:Nat}(hj:j<F.length)(h:a.getD j 0<a.getD i 0∨(a.getD j 0=a.getD i 0∧rk F j<rk F i)):Q7L F a j<Q7L F a i:=by
 classical
 unfold Q7L
 refine Q31 F.length (fun x _ hx=>?_) ⟨j,hj,?_,?_⟩
 ·rw[decide_eq_true_eq] at hx ⊢
  omega
 ·rw[decide_eq_false_iff_not];omega
 ·rw[decide_eq_true_eq];exact h
theorem Qds(i:Nat):Q7L F a i≤F.length:=by
 classical
 exact Q63 _ _
theorem QdV(hv:Vld F){k i:Nat}(hi:i<F.length):0≤(ZV F (F.length+k)).getD i 0:=by
 have h:=Q05 hv.toUsd (F.length+k);rw[Q3r] at h;have h2:=Q8t (ZV F (F.length+k)) (i:=i) (by rw[XO];exact hi);rw[h,hv.fin i hi] at h2;exact of_decide_eq_true h2.symm
theorem Q1v(hv:Vld F)(hf:Ym F a):∀(s i:Nat),i<F.length→Q7L F a i<s→(ZV F (F.length+s)).getD i 0=a.getD i 0
 |0,i,_,h=>absurd h (by omega)
 |s+1,i,hi,hp=>by
  have hr:F[i]? =some F[i]:=List.getElem?_eq_getElem hi;obtain⟨r,hrr⟩:∃r,r=F[i]:=⟨_,rfl⟩;rw[← hrr] at hr;have hok:=hv.ok i r hr;have heq:=hf.eq i r hr;have hR:=Q9d hv hf (F.length+s)
  show (ZV F (F.length+s+1)).getD i 0=_
  rw[K6 hr];obtain⟨old,ho⟩:∃old,old=ZV F (F.length+s):=⟨_,rfl⟩
  have hnn:∀{x:Int},0≤x∧x<F.length→0≤lk old x:=fun {x} hx=>by rw[ho];exact QdV hv (by omega)
  have hge:∀{x:Int},0≤x∧x<F.length→lk a x≤lk old x:=fun {x} hx=>by
   have h1:=hR.lkup hx;have h2:=hnn hx;rw[ho] at h2 ⊢
   omega
  have hex:∀{x:Int},0≤x∧x<F.length→(lk a x<a.getD i 0∨(lk a x=a.getD i 0∧x.toNat∈bg F i))→lk old x=lk a x:=fun {x} hx h=>by
   have h1:Q7L F a x.toNat<Q7L F a i:=QcE (by omega) (h.imp id fun⟨e,hb⟩=>⟨e,QdD hv hb⟩);rw[ho];exact Q1v hv hf s x.toNat (by omega) (by omega)
  have hup:=Q64 hv hf hR hr;rw[← ho] at hup ⊢;have htop:=hf.top i
  by_cases h1001:a.getD i 0=1001
  ·have:0≤V2 F old r:=by
    have h:=Qcr hv.toUsd (old:=old) (by rw[ho];exact XO F _) hr;have h2:=Q05 hv.toUsd (F.length+s);rw[← ho] at h2;rw[h2,Q3r] at h;have h3:=Q2u F;have h4:(ZC F).getD i false=true:=hv.fin i hi;have h5:(YV F (Vw F (F.length+0))).getD i false=(Vw F (F.length+1)).getD i false:=rfl;rw[Q3r,Q3r,h4,YS,hr] at h5;have h6:JB F (ZC F) r=true:=h5;rw[h6] at h;exact of_decide_eq_true h.symm
   omega
  have hlt:a.getD i 0<1001:=by omega
  rcases (by have:=Q2P hok;omega:(r.kind=1∨(r.kind=2∨r.kind=4)∨r.kind=3∨(r.kind=5∨r.kind=9))∨r.kind=6∨r.kind=10∨r.kind=7∨r.kind=8) with hk|h6|h10|h7|h8
  ·have:=Q5k (F:=F) old a hok hk
   omega
  ·have hc:=hok.count (.inl h6);have he:=hok.elem (.inl h6);have hl:=hv.toUsd.least hr (.inl h6);have pc:=hf.one hv hc;have pe:=hf.one hv he;rw[Q8B a h6] at heq;have hcb:r.count.toNat∈bg F i:=Q6p hr (by unfold bl XP;rw[if_pos (.inl h6)];exact List.mem_singleton.2 rfl);have hm0:=Int.mul_nonneg hl.1 (show 0≤lk a r.elem by omega);have xc:=hex hc (by rcases Int.lt_or_eq_of_le (show lk a r.count≤a.getD i 0 by omega) with h|h;exact .inl h;exact .inr ⟨h,hcb⟩);rw[Q61 old h6,xc]
   by_cases hz:Jo F r.count=0
   ·rw[if_pos ⟨by omega,by omega⟩];rw[hz,Int.zero_mul] at heq
    omega
   ·rw[if_neg (by omega),if_pos ⟨by omega,hnn he⟩]
    have hm:lk a r.elem≤Jo F r.count*lk a r.elem:=by
     have:=Int.mul_le_mul_of_nonneg_right (a:=1) (b:=Jo F r.count) (c:=lk a r.elem) (by omega) (by omega)
     omega
    have xe:=hex he (.inl (by omega));rw[xe,Zz,hl.2]
    have hmn:Jo F r.count≤1001:=by
     have:=Int.mul_le_mul_of_nonneg_left (c:=Jo F r.count) (a:=1) (b:=lk a r.elem) pe hl.1
     omega
    rw[show min (Jo F r.count) 1001=Jo F r.count by omega]
    omega
  ·have hc:=hok.count (.inr h10);have hl:=hv.toUsd.least hr (.inr h10);have pc:=hf.one hv hc;rw[Q5N a h10] at heq;have hcb:r.count.toNat∈bg F i:=Q6p hr (by unfold bl XP;rw[if_pos (.inr h10)];exact List.mem_singleton.2 rfl);have xc:=hex hc (by rcases Int.lt_or_eq_of_le (show lk a r.count≤a.getD i 0 by omega) with h|h;exact .inl h;exact .inr ⟨h,hcb⟩);rw[Q2V old h10,xc,if_pos (by omega),Zz,hl.2]
   omega
  ·have hin:=hv.toUsd.inn hr (.inl h7);have hne:=(hok.seven h7).2;rw[Q7N a h7] at heq;rw[Q5g old h7,Q35 old _ 0 (by omega) (by omega) (fun x hx=>hnn (hin x hx))]
   have hall:∀x∈r.parts,lk old x=lk a x:=by
    intro x hx
    cases hp:r.parts with
    |nil=>rw[hp] at hx;cases hx
    |cons y l=>
     have hyb:y.toNat∈bg F i:=Q6p hr (by unfold bl XP;rw[if_neg (by omega),if_pos h7,hp];exact List.mem_cons_self);rw[hp] at hx hin heq;have py:=hf.one hv (hin y List.mem_cons_self);have hsum:=Vi a l (0+lk a y) (fun z hz=>by have:=hf.one hv (hin z (List.mem_cons_of_mem _ hz));omega)
     unfold Q1h at heq
     rw[List.foldl_cons] at heq
     rcases List.mem_cons.1 hx with rfl|hx
     ·exact hex (hin x List.mem_cons_self) (by rcases Int.lt_or_eq_of_le (show lk a x≤a.getD i 0 by omega) with h|h;exact .inl h;exact .inr ⟨h,hyb⟩)
     ·have:=hsum.2 x hx;exact hex (hin x (List.mem_cons_of_mem _ hx)) (.inl (by omega))
   rw[← Q1n old a r.parts 0 (fun x hx=>(hall x hx).symm)];exact heq.symm
  ·have hin:=hv.toUsd.inn hr (.inr h8);rw[Q8v a h8] at heq
   have hmin:a.getD i 0=Q1k a r.parts:=by
    have:=(Ka a r.parts 1001).1
    unfold Q1k at heq ⊢
    omega
   rcases VN a r.parts 1001 with e|⟨x,hx,e⟩
   ·unfold Q1k at hmin;omega
   ·have hxb:x.toNat∈bg F i:=Q6p hr (by unfold bl XP;rw[if_neg (by omega),if_neg (by omega),if_pos h8];exact hx)
    have hxe:lk a x=a.getD i 0:=by rw[hmin];unfold Q1k;exact e.symm
    have xx:=hex (hin x hx) (.inr ⟨hxe,hxb⟩);rw[Q5O old h8] at hup ⊢;have h1:=(Q1e old r.parts (-1)).2 x hx (hnn (hin x hx));have h2:=(Q1Y old r.parts (-1)).1 (.inr ⟨x,hx,hnn (hin x hx)⟩)
    omega
theorem Q7S(hv:Vld F)(hf:Ym F a){i:Nat}(hi:i<F.length):(XG F).getD i 0=a.getD i 0:=by
 unfold XG
 rw[show 2*F.length+1=F.length+(F.length+1) by omega];exact Q1v hv hf _ i hi (by have:=Qds (F:=F) (a:=a) i;omega)
end
section
variable {F:List Rl}
theorem Q7T{r:Rl}(h:Jv F r=0)(hk:r.kind=6∨r.kind=10):Vf F r.count=2∨Vf F r.count=3:=by
 unfold Jv at h
 split at h
 ·cases h
 ·next h1=>
  have hu:Qp r.kind=true:=by rcases hk with e|e<;>rw[e]<;>rfl
  rw[hu,Bool.true_and,Bool.not_eq_true',Bool.not_eq_false] at h1
  unfold Zf Zu at h1
  simpa using h1
theorem Q8P(h:POk F):Usd F:=⟨h.fok,fun i r hr hk=>by
 have hi:i<F.length:=(List.getElem?_eq_some_iff.1 hr).1;have hu:=h.use i hi;rw[YP hr] at hu;have hc:=(h.fok i r hr).count hk;have hg:F[r.count.toNat]? =some F[r.count.toNat]:=List.getElem?_eq_getElem (by omega);have:=Q7T hu hk;rw[YN hg] at this
 exact⟨_,hg,this⟩⟩
theorem QdR(h:Xb F=(0,0)):Vld F:=by
 have hp:=KP h;have hu:=Q8P hp
 unfold Xb at h
 split at h
 ·cases h
 split at h
 ·cases h
 rw[Xy (fun j hj=>by simpa using hp.rule j hj)] at h
 simp only at h
 rw[Xy (fun j hj=>by simpa using hp.use j hj)] at h
 simp only at h
 cases h3:XC F.length (Km F) with
 |some k=>rw[h3] at h;simp only[Prod.mk.injEq] at h;exact absurd h.1 (by decide)
 |none=>
  rw[h3] at h
  simp only at h
  cases h4:XC F.length (fun k=>!((ZC F).getD k false)) with
  |some k=>rw[h4] at h;simp only[Prod.mk.injEq] at h;exact absurd h.1 (by decide)
  |none=>
   refine⟨hu,fun i hi hr=>?_,fun i hi=>by simpa using Q0f h4 i hi⟩;have:=Q0f h3 i hi;rw[(Q1o hu.ok.bd hi).2 hr] at this
   cases this
theorem Q1N(h:Xb F=(0,0)):0<F.length∧F.length≤40:=by
 unfold Xb at h
 split at h
 ·cases h
 split at h
 ·cases h
 omega
end
instance :TN Tryz.prog 95 3:=⟨_,Tryz.underlying95,rfl,by kernel_rfl⟩
instance :Fld Tryz.prog 95 0 0:=⟨_,_,1,Tryz.underlying95,rfl,rfl,by kernel_rfl,by decide⟩
instance :Fld Tryz.prog 95 1 1:=⟨_,_,1,Tryz.underlying95,rfl,rfl,by kernel_rfl,by decide⟩
instance :Fld Tryz.prog 95 2 2:=⟨_,_,1,Tryz.underlying95,rfl,rfl,by kernel_rfl,by decide⟩
section
variable {P:Program}{ops:Array Oper}{C:World→Prop}{N:Nat}{E:Env}{o:Oper}{d:Nat}
theorem XA{x:Operand}{p:Addr}(ho:o.op=.nilCheck x)(hd:o.dst=some d)(hN:d<N)(hw:Qm ops E o=some true)(hx:ev E x=some (.pointer (some p))):oE P ops C N E ((d,.pointer (some p))::E) o:=
 XL hd hN hw fun ρ w ha _=>by simp [execOp,ho,ha.eval hx,go_sem]
theorem Q5R{x:Operand}{t t':TypeId}(hT:P.underlying t=some (.interface (P.methodsAt t)))(ho:o.op=.binOp .neq t x (.const .nilIface) t')(hd:o.dst=some d)(hN:d<N)(hw:Qm ops E o=some true)(hx:ev E x=some .nilIface):oE P ops C N E ((d,.bool false)::E) o:=
 XL hd hN hw fun ρ w ha _=>by
  have hc:ρ (.const .nilIface)=.nilIface:=ha.eval rfl
  simp [execOp,ho,ha.eval hx,hc,eqGuard,run_neq_nil_nil _ _ hT,go_sem]
theorem Qdm{x:Operand}{t t' te:TypeId}{p:Value}(hT:P.underlying t=some (.interface (P.methodsAt t)))(ho:o.op=.binOp .neq t x (.const .nilIface) t')(hd:o.dst=some d)(hN:d<N)(hw:Qm ops E o=some true)(hx:ev E x=some (.iface te p)):oE P ops C N E ((d,.bool true)::E) o:=
 XL hd hN hw fun ρ w ha _=>by
  have hc:ρ (.const .nilIface)=.nilIface:=ha.eval rfl
  simp [execOp,ho,ha.eval hx,hc,eqGuard,run_neq_held_nil _ _ _ _ hT,go_sem]
end
abbrev rdO(br bw q N k:Nat)(bad:Bool)(ws:List (List UInt8))(A:Option Addr)(c:Nat)(ns:List (List UInt8)):List Qg:=
 [.blk br (.cells [.slice (some ⟨bw,q,none⟩) (N - k) (N - k),.bool bad,.slice A ns.length c].toArray 95 (0,0)),.rd (some ⟨bw,0,none⟩) N 1 (sv ws),.row A ns.length c 9 1 (sv ns)]
def wAt(ws:List (List UInt8))(k:Nat):List UInt8:=ws.getD k []
section
variable {M:List Nat}{W w:World}{O:List Qg}{br bw q N k c:Nat}{bad:Bool}{ws ns:List (List UInt8)}{A:Option Addr}
set_option maxRecDepth 100000 in
set_option maxHeartbeats 4000000 in
theorem ZH(hN:ws.length=N)(hq:k<N→q=k)(hk:k≤N)(hn:N≤1048576)(hw:Wd M W (rdO br bw q N k bad ws A c ns++O) w):
  Calls Tryz.prog 75 #[.pointer (some ⟨br,0,none⟩)] w (QW (fun _:Nat×Nat=>.string ⟨(wAt ws k).toArray⟩) (fun y=>y.1=min (k+1) N∧(y.1<N→y.2=y.1)) M W (fun y=>rdO br bw y.2 N y.1 (bad||decide (N≤k)) ws A c ns++O)):=by
 by_cases hkn:k<N
 ·obtain rfl:=hq hkn;obtain⟨x,hx⟩:∃x,ws[q]? =some x:=⟨_,List.getElem?_eq_getElem (by omega)⟩
  have hwa:wAt ws q=x:=by unfold wAt;rw[List.getD_eq_getElem?_getD,hx];rfl
  have hc:(sv ws)[q]? =some (.string ⟨x.toArray⟩):=by unfold sv;rw[List.getElem?_map,hx];rfl
  have hc0:(sv ws)[q+0]? =some (.string ⟨x.toArray⟩):=hc;rw[hwa,decide_eq_false (by omega),Bool.or_false]
  have hlt:0<N - q:=by omega
  clear hx hwa
  go_enter Tryz.func75,Tryz.ntmps75
  refine QE (M:=M) (W:=W) (N:=28) (E:=[(0,.pointer (some ⟨br,0,none⟩))]) (O:=rdO br bw q N q bad ws A c ns++O) ?_ (Ag.cons (Ag.nil rfl rfl) rfl) hw
  repeat(first|refine Q1 zM ?_|refine Q1 zA ?_|refine Q1 zF ?_|refine Q1 (zB 0) ?_|refine Q1 (XA rfl rfl (by decide) rfl rfl) ?_|refine Q1 (zi1 (j:=0) (hj:=hlt)) ?_|(refine Q1 (QL rfl rfl (by decide) rfl rfl (fun w hw=>by have:=hw.cell_rd 1 rfl hc;rwa [Nat.zero_add] at this)) ?_)|refine Q1 (QG (l:=1) rfl rfl (by decide) rfl rfl rfl hlt) ?_|refine yS 0 ?_|refine Q8 ?_|refine Q6 ?_|refine Q2 ?_|refine Qh ?_|refine Q3 rfl ?_|refine Ql ?_|refine Q1 zL ?_|refine Q1 zef ?_)
  refine Q9 (by exact .inr rfl) rfl (.tmp rfl) (fun w hw=>?_)
  have e:N - q - 1=N - (q+1):=by omega
  by_cases h1:N - q=1
  ·refine⟨(q+1,q),rfl,⟨by show q+1=min (q+1) N;omega,fun h=>absurd (show q+1<N from h) (by omega)⟩,?_⟩;have h:=hw;rw[Zj,if_pos h1,e] at h;exact h
  ·refine⟨(q+1,q+1),rfl,⟨by show q+1=min (q+1) N;omega,fun _=>rfl⟩,?_⟩;have h:=hw;rw[Zj,if_neg h1,Option.map_some,Addr.add_mid,e] at h;exact h
 ·obtain rfl:k=N:=by omega
  have hwa:wAt ws k=[]:=by unfold wAt;rw[List.getD_eq_getElem?_getD,List.getElem?_eq_none (by omega)];rfl
  rw[hwa,decide_eq_true (Nat.le_refl k),Bool.or_true]
  go_enter Tryz.func75,Tryz.ntmps75
  refine QE (M:=M) (W:=W) (N:=28) (E:=[(0,.pointer (some ⟨br,0,none⟩))]) (O:=rdO br bw q k k bad ws A c ns++O) ?_ (Ag.cons (Ag.nil rfl rfl) rfl) hw
  repeat(first|refine Q1 zM ?_|refine Q1 zA ?_|refine Q1 zF ?_|refine Q1 (zB 0) ?_|refine Q1 (XA rfl rfl (by decide) rfl rfl) ?_|refine yS 0 ?_|refine Q8 ?_|refine Q6 ?_|refine Q2 ?_|refine Q5 rfl ?_|refine Ql ?_|refine Qc ?_|refine Q1 zL ?_|refine Q1 zet ?_)
  exact Q9 (by exact .inr rfl) rfl (.tmp rfl) (fun w hw=>⟨(k,q),rfl,⟨by show k=min (k+1) k;omega,fun h=>absurd (show k<k from h) (Nat.lt_irrefl k)⟩,hw⟩)
set_option maxRecDepth 100000 in
set_option maxHeartbeats 4000000 in
theorem Vn{x:List UInt8}(hx:x.length≤1048576)(hn:ns.length≤1048576)(hw:Wd M W (rdO br bw q N k bad ws A c ns++O) w):
  Calls Tryz.prog 81 #[.pointer (some ⟨br,0,none⟩),.string ⟨x.toArray⟩] w (QW (fun _:Option Addr×Nat=>.tuple #[]) (fun _=>True) M W (fun y=>rdO br bw q N k (bad||!(Qi x)) ws y.1 y.2 (ns++[x])++O)):=by
 have hsz:(⟨x.toArray⟩:ByteArray).size≤9223372036854775807:=by rw[Xh];omega
 cases bad with
 |true=>
  rw[Bool.true_or]
  go_enter Tryz.func81,Tryz.ntmps81
  refine QE (M:=M) (W:=W) (N:=26) (E:=[(0,.pointer (some ⟨br,0,none⟩)),(1,.string ⟨x.toArray⟩)]) (O:=rdO br bw q N k true ws A c ns++O) ?_ (Ag.cons (Ag.cons (Ag.nil rfl rfl) rfl) rfl) hw
  repeat(first|refine Q1 zM ?_|refine Q1 zF ?_|refine Q1 zS ?_|refine Q1 (zB 0) ?_|refine Q1 (XA rfl rfl (by decide) rfl rfl) ?_|refine Qa (Qz (size:=1) (cs:=[.string ⟨x.toArray⟩]) rfl rfl rfl rfl rfl (by decide)) rfl (by decide) (fun bn _=>?_)|refine Qa (QC (news:=[.string ⟨x.toArray⟩]) 3 rfl rfl rfl rfl rfl (fun w hw=>hw.rd_blk 0 rfl rfl) (by simp [Value.oneCell']) (by omega)) rfl (by decide) (fun y _=>?_)|refine yS 0 ?_|refine yS 1 ?_|refine Q8 ?_|refine Q6 ?_|refine Q2 ?_|refine Q1 zY ?_)
  refine Q0V (by exact .inl rfl) rfl (fun w hw=>⟨y,rfl,trivial,?_⟩);have h:=hw.tail;rw[show (ns++[x]).length=ns.length+1 by simp,K0];exact h
 |false=>
  rw[Bool.false_or];obtain⟨u,hu⟩:∃u,Qi x=u:=⟨_,rfl⟩;have HU:=Lib.hid hu;rw[hu];clear hu
  go_enter Tryz.func81,Tryz.ntmps81
  refine QE (M:=M) (W:=W) (N:=26) (E:=[(0,.pointer (some ⟨br,0,none⟩)),(1,.string ⟨x.toArray⟩)]) (O:=rdO br bw q N k false ws A c ns++O) ?_ (Ag.cons (Ag.cons (Ag.nil rfl rfl) rfl) rfl) hw
  repeat(first|refine Q1 zM ?_|refine Q1 zF ?_|refine Q1 (zB 0) ?_|refine Q1 (XA rfl rfl (by decide) rfl rfl) ?_|(refine Q1 (Q4 (f:=77) rfl rfl (by decide) rfl rfl (fun w hw=>ZJ _ w hsz)) ?_;rw[show Qi (⟨x.toArray⟩:ByteArray).data.toList=u from HU.out])|refine Qa (Qz (size:=1) (cs:=[.string ⟨x.toArray⟩]) rfl rfl rfl rfl rfl (by decide)) rfl (by decide) (fun bn _=>?_)|refine Qa (QC (news:=[.string ⟨x.toArray⟩]) 3 rfl rfl rfl rfl rfl (fun w hw=>hw.rd_blk 0 rfl rfl) (by simp [Value.oneCell']) (by omega)) rfl (by decide) (fun y _=>?_)|refine yS 0 ?_|refine yS 1 ?_|refine Q8 ?_|refine Q6 ?_|refine Q2 ?_|refine Q1 zN ?_|refine Q1 zO ?_)
  refine Q0V (by exact .inl rfl) rfl (fun w hw=>⟨y,rfl,trivial,?_⟩);have h:=hw.tail;rw[show (ns++[x]).length=ns.length+1 by simp,K0];exact h
theorem KY(hall:∀s∈ws,s.length≤1048576)(k:Nat):(wAt ws k).length≤1048576:=by
 unfold wAt
 rw[List.getD_eq_getElem?_getD]
 cases h:ws[k]? with
 |none=>decide
 |some s=>exact hall s (List.mem_of_getElem? h)
def K8(x:List UInt8):Bool:=x==V3||x==Ze
set_option maxRecDepth 100000 in
set_option maxHeartbeats 4000000 in
theorem Qb7(hN:ws.length=N)(hq:k<N→q=k)(hk:k≤N)(hn:N≤1048576)(hw:Wd M W (rdO br bw q N k bad ws A c ns++O) w):
  Calls Tryz.prog 80 #[.pointer (some ⟨br,0,none⟩)] w (QW (fun _:Nat×Nat=>.bool (wAt ws k==V3)) (fun y=>y.1=min (k+1) N∧(y.1<N→y.2=y.1)) M W (fun y=>rdO br bw y.2 N y.1 ((bad||decide (N≤k))||!(K8 (wAt ws k))) ws A c ns++O)):=by
 obtain⟨x,hx⟩:∃x,wAt ws k=x:=⟨_,rfl⟩;obtain⟨b1,hb1⟩:∃b1,(bad||decide (N≤k))=b1:=⟨_,rfl⟩;have HX:=Lib.hid hx;have HB:=Lib.hid hb1;rw[hx,hb1];clear hx hb1
 go_enter Tryz.func80,Tryz.ntmps80
 refine QE (M:=M) (W:=W) (N:=23) (E:=[(0,.pointer (some ⟨br,0,none⟩))]) (O:=rdO br bw q N k bad ws A c ns++O) ?_ (Ag.cons (Ag.nil rfl rfl) rfl) hw
 repeat(first|refine Q1 zM ?_|refine Q1 zA ?_|(refine Qa (Qx _ _ _ (f:=75) rfl rfl rfl (fun w hw=>ZH hN hq hk hn hw)) rfl (by decide) (fun y hy=>?_);rw[HX.out,HB.out])|refine Q8 ?_|refine Q6 ?_|refine Q2 ?_)
 obtain⟨k1,q1⟩:=y;have HY:=Lib.hid hy;clear hy
 cases b1 with
 |true=>
  repeat(first|refine Q1 zM ?_|refine Q1 zA ?_|refine Q1 zF ?_|refine Q1 zS ?_|refine Q1 (zB 0) ?_|refine Q1 (XA rfl rfl (by decide) rfl rfl) ?_|refine yS 0 ?_|refine Q8 ?_|refine Q6 ?_|refine Q2 ?_|refine Ql ?_|refine Q1 zY ?_|refine Q1 (Kl rfl rfl (by decide) rfl rfl rfl (by rfl)) ?_)
  exact Q9 (by exact .inr rfl) rfl (.tmp rfl) (fun w hw=>⟨(k1,q1),rfl,HY.out,hw⟩)
 |false=>
  obtain⟨u,hu⟩:∃u,((⟨x.toArray⟩:ByteArray).data.toList != (⟨#[98,105,103]⟩:ByteArray).data.toList)=u:=⟨_,rfl⟩;obtain⟨v,hv⟩:∃v,((⟨x.toArray⟩:ByteArray).data.toList != (⟨#[108,105,116,116,108,101]⟩:ByteArray).data.toList)=v:=⟨_,rfl⟩
  have hok:K8 x=(!u||!v):=by
   rw[← hu,← hv]
   show (x==V3||x==Ze)=(!(!(x==V3))||!(!(x==Ze)))
   simp
  have heq:((⟨x.toArray⟩:ByteArray).data.toList==(⟨#[98,105,103]⟩:ByteArray).data.toList)=(x==V3):=rfl;rw[hok];clear hok
  cases u with
  |true=>
   repeat(first|refine Q1 zM ?_|refine Q1 zA ?_|refine Q1 zF ?_|refine Q1 (zB 0) ?_|refine Q1 (XA rfl rfl (by decide) rfl rfl) ?_|refine yS 0 ?_|refine Q8 ?_|refine Q6 ?_|refine Q2 ?_|refine Ql ?_|refine Q1 zY ?_|refine Q1 zN ?_|refine Q1 zsa ?_|refine Q1 (Jy rfl rfl (by decide) rfl rfl rfl (by assumption)) ?_)
   refine Q9 (by exact .inr rfl) rfl (.tmp rfl) (fun w hw=>⟨(k1,q1),rfl,HY.out,?_⟩)
   cases v<;>exact hw
  |false=>
   repeat(first|refine Q1 zM ?_|refine Q1 zA ?_|refine Q1 zF ?_|refine Q1 zS ?_|refine Q1 (zB 0) ?_|refine Q1 (XA rfl rfl (by decide) rfl rfl) ?_|refine yS 0 ?_|refine Q8 ?_|refine Q6 ?_|refine Q2 ?_|refine Ql ?_|refine Q1 zN ?_|refine Q1 zsa ?_|refine Q1 (Jy rfl rfl (by decide) rfl rfl rfl (by assumption)) ?_)
   exact Q9 (by exact .inr rfl) rfl (.tmp rfl) (fun w hw=>⟨(k1,q1),rfl,HY.out,hw⟩)
end
theorem Vj{s:ByteArray}{v:Int}{w:World}(hs:s.size≤1048576)(h:Lib.atoiAll s.data.toList=.ok v):Calls Tryz.prog 111 #[.string s] w fun e w'=>e=.returned (.tuple #[.int .i64 v,.nilIface])∧Below w.heap.size w w':=by
 refine(Tryz.strconv_Atoi_ok s (by omega) v h w).mono ?_
 rintro e w' ⟨rfl,hw⟩
 refine⟨rfl,?_⟩
 rcases hw with rfl|⟨t,rfl⟩
 ·exact Below.refl _ _
 ·exact Lib.bytesWorld_below _ _ _
theorem Q2o{M:List Nat}{W w:World}{O:List Qg}{s:ByteArray}{v:Int}(hg:GV w)(hs:s.size≤1048576)(h:(Lib.atoiAll s.data.toList=Lib.atoiAll []∧v=0)∨(Lib.atoiAll s.data.toList=.range∧v=Lib.atoiSat s.data.toList))(hw:Wd M W O w):
  Calls Tryz.prog 111 #[.string s] w (QW (fun n:Nat=>.tuple #[.int .i64 v,.iface 176 (.pointer (some ⟨n,0,none⟩))]) (fun _=>True) M W (fun _=>O)):=by
 rcases h with ⟨h,rfl⟩|⟨h,rfl⟩
 ·obtain⟨te,pe,he⟩:=hg.e1;refine(Tryz.strconv_Atoi_syntax s (by omega) h _ w he (.inr ⟨te,pe,rfl⟩)).mono ?_
  rintro e w' ⟨n,rfl,_,_,hb⟩
  exact⟨n,rfl,trivial,hw.on hb⟩
 ·obtain⟨te,pe,he⟩:=hg.e2;refine(Tryz.strconv_Atoi_range s (by omega) h _ w he (.inr ⟨te,pe,rfl⟩)).mono ?_
  rintro e w' ⟨n,rfl,_,_,hb⟩
  exact⟨n,rfl,trivial,hw.on hb⟩
theorem Q0h:Tryz.prog.underlying 123=some (.interface (Tryz.prog.methodsAt 123)):=by kernel_rfl
section
variable {W w:World}{O:List Qg}{br bw q N k c:Nat}{bad:Bool}{ws ns:List (List UInt8)}{A:Option Addr}
set_option maxRecDepth 100000 in
set_option maxHeartbeats 16000000 in
theorem YM(hg:GV W)(hall:∀s∈ws,s.length≤1048576)(hN:ws.length=N)(hq:k<N→q=k)(hk:k≤N)(hn:N≤1048576)(hw:Wd [] W (rdO br bw q N k bad ws A c ns++O) w):
  Calls Tryz.prog 79 #[.pointer (some ⟨br,0,none⟩)] w (QW (fun _:Nat×Nat=>.int .i64 (XF (wAt ws k))) (fun y=>y.1=min (k+1) N∧(y.1<N→y.2=y.1)) [] W (fun y=>rdO br bw y.2 N y.1 ((bad||decide (N≤k))||!(Z0 (wAt ws k))) ws A c ns++O)):=by
 have hxl:=KY hall k;obtain⟨x,hx⟩:∃x,wAt ws k=x:=⟨_,rfl⟩;obtain⟨b1,hb1⟩:∃b1,(bad||decide (N≤k))=b1:=⟨_,rfl⟩;have HX:=Lib.hid hx;have HB:=Lib.hid hb1;have HG:=Lib.hid hg;rw[hx] at hxl;rw[hx,hb1];clear hx hb1 hall hg;have hsz:=Xh x
 have hsm:(⟨x.toArray⟩:ByteArray).size≤1048576:=by omega
 go_enter Tryz.func79,Tryz.ntmps79
 refine QE (M:=[]) (W:=W) (N:=40) (E:=[(0,.pointer (some ⟨br,0,none⟩))]) (O:=rdO br bw q N k bad ws A c ns++O) ?_ (Ag.cons (Ag.nil rfl rfl) rfl) hw
 repeat(first|refine Q1 zM ?_|refine Q1 zA ?_|(refine Qa (Qx _ _ _ (f:=75) rfl rfl rfl (fun w hw=>ZH hN hq hk hn hw)) rfl (by decide) (fun y hy=>?_);rw[HX.out,HB.out])|refine Q8 ?_|refine Q6 ?_|refine Q2 ?_)
 obtain⟨k1,q1⟩:=y;have HY:=Lib.hid hy;clear hy
 by_cases hok:∃v,Lib.atoiAll x=.ok v
 ·obtain⟨v,hv⟩:=hok
  have hvv:XF x=v:=by unfold XF;rw[hv]
  have hnv:Z0 x=(!(decide (10<x.length))&&(!(decide (v<0))&&Lib.itoa v==x)):=by unfold Z0;rw[hv]
  have hb:=Lib.atoiAll_bounds hv;rw[hvv,hnv];have HV:=Lib.hid (show Lib.atoiAll (⟨x.toArray⟩:ByteArray).data.toList=.ok v from hv);clear hv hvv hnv
  cases b1 with
  |true=>
   repeat(first|refine Q1 zM ?_|refine Q1 zA ?_|refine Q1 zF ?_|refine Q1 zS ?_|refine Q1 (zB 0) ?_|refine Q1 (Q4 (f:=111) rfl rfl (by decide) rfl rfl (fun w hw=>Vj hsm HV.out)) ?_|refine Q1 (XA rfl rfl (by decide) rfl rfl) ?_|refine yS 0 ?_|refine Q8 ?_|refine Q6 ?_|refine Q2 ?_|refine Ql ?_|refine Q1 zY ?_|refine Q1 zX ?_)
   exact Q9 (by exact .inr rfl) rfl (.tmp rfl) (fun w hw=>⟨(k1,q1),rfl,HY.out,hw⟩)
  |false=>
   by_cases h10:10<x.length
   ·rw[decide_eq_true h10]
    repeat(first|refine Q1 zM ?_|refine Q1 zA ?_|refine Q1 zF ?_|refine Q1 zS ?_|refine Q1 (zB 0) ?_|refine Q1 (Q4 (f:=111) rfl rfl (by decide) rfl rfl (fun w hw=>Vj hsm HV.out)) ?_|refine Q1 (XA rfl rfl (by decide) rfl rfl) ?_|refine Q1 (Q5R Q0h rfl rfl (by decide) rfl rfl) ?_|refine yS 0 ?_|refine Q8 ?_|refine Q6 ?_|refine Q2 ?_|refine Ql ?_|refine Q1 zT ?_|refine Q1 (Ja rfl rfl (by decide) rfl rfl rfl (by first|exact decide_eq_true (by omega)|rfl)) ?_|refine Q1 zY ?_|refine Q1 zN ?_|refine Q1 zX ?_)
    exact Q9 (by exact .inr rfl) rfl (.tmp rfl) (fun w hw=>⟨(k1,q1),rfl,HY.out,hw⟩)
   rw[decide_eq_false h10]
   by_cases h0:v<0
   ·rw[decide_eq_true h0]
    repeat(first|refine Q1 zM ?_|refine Q1 zA ?_|refine Q1 zF ?_|refine Q1 zS ?_|refine Q1 (zB 0) ?_|refine Q1 (Q4 (f:=111) rfl rfl (by decide) rfl rfl (fun w hw=>Vj hsm HV.out)) ?_|refine Q1 (XA rfl rfl (by decide) rfl rfl) ?_|refine Q1 (Q5R Q0h rfl rfl (by decide) rfl rfl) ?_|refine yS 0 ?_|refine Q8 ?_|refine Q6 ?_|refine Q2 ?_|refine Ql ?_|refine Q1 zT ?_|refine Q1 zlt ?_|refine Q1 zgt ?_|refine Q1 zgf ?_|refine Q1 zY ?_|refine Q1 zN ?_|refine Q1 zX ?_)
    exact Q9 (by exact .inr rfl) rfl (.tmp rfl) (fun w hw=>⟨(k1,q1),rfl,HY.out,hw⟩)
   rw[decide_eq_false h0];obtain⟨u,hu⟩:∃u,(Lib.itoa v==x)=u:=⟨_,rfl⟩
   have hne:((⟨(Lib.itoa v).toArray⟩:ByteArray).data.toList != (⟨x.toArray⟩:ByteArray).data.toList)=!u:=by rw[← hu];rfl
   rw[hu];clear hu
   repeat(first|refine Q1 zM ?_|refine Q1 zA ?_|refine Q1 zF ?_|refine Q1 (zB 0) ?_|refine Q1 (Q4 (f:=111) rfl rfl (by decide) rfl rfl (fun w hw=>Vj hsm HV.out)) ?_|refine Q1 (Q4 (f:=67) rfl rfl (by decide) rfl rfl (fun w hw=>Y3 (HG.out.on hw.k.below) (by omega) (by omega))) ?_|refine Q1 (XA rfl rfl (by decide) rfl rfl) ?_|refine Q1 (Q5R Q0h rfl rfl (by decide) rfl rfl) ?_|refine yS 0 ?_|refine Q8 ?_|refine Q6 ?_|refine Q2 ?_|refine Ql ?_|refine Q1 zT ?_|refine Q1 zlf ?_|refine Q1 zgf ?_|refine Q1 zN ?_|refine Q1 (Jy rfl rfl (by decide) rfl rfl rfl (by assumption)) ?_|refine Q1 zX ?_)
   exact Q9 (by exact .inr rfl) rfl (.tmp rfl) (fun w hw=>⟨(k1,q1),rfl,HY.out,by cases u<;>exact hw⟩)
 ·have hbad:(Lib.atoiAll x=Lib.atoiAll []∧XF x=0)∨(Lib.atoiAll x=.range∧XF x=Lib.atoiSat x):=by
   unfold XF
   cases ha:Lib.atoiAll x with
   |ok v=>exact absurd ⟨v,ha⟩ hok
   |range=>exact .inr ⟨rfl,rfl⟩
   |_=>exact .inl ⟨rfl,rfl⟩
  have hnv:Z0 x=false:=by
   unfold Z0
   rcases hbad with ⟨h,_⟩|⟨h,_⟩<;>rw[h]<;>rfl
  rw[hnv];obtain⟨v,hv⟩:∃v,XF x=v:=⟨_,rfl⟩;rw[hv] at hbad ⊢;have HV:=Lib.hid (show (Lib.atoiAll (⟨x.toArray⟩:ByteArray).data.toList=Lib.atoiAll []∧v=0)∨(Lib.atoiAll (⟨x.toArray⟩:ByteArray).data.toList=.range∧v=Lib.atoiSat (⟨x.toArray⟩:ByteArray).data.toList) from hbad);clear hok hbad hnv hv
  cases b1 with
  |true=>
   repeat(first|refine Q1 zM ?_|refine Q1 zA ?_|refine Q1 zF ?_|refine Q1 zS ?_|refine Q1 (zB 0) ?_|refine Qa (Qx _ _ _ (f:=111) rfl rfl rfl (fun w hw=>Q2o (HG.out.on hw.k.below) hsm HV.out hw)) rfl (by decide) (fun ne _=>?_)|refine Q1 (XA rfl rfl (by decide) rfl rfl) ?_|refine yS 0 ?_|refine Q8 ?_|refine Q6 ?_|refine Q2 ?_|refine Ql ?_|refine Q1 zY ?_|refine Q1 zX ?_)
   exact Q9 (by exact .inr rfl) rfl (.tmp rfl) (fun w hw=>⟨(k1,q1),rfl,HY.out,hw⟩)
  |false=>
   repeat(first|refine Q1 zM ?_|refine Q1 zA ?_|refine Q1 zF ?_|refine Q1 zS ?_|refine Q1 (zB 0) ?_|refine Qa (Qx _ _ _ (f:=111) rfl rfl rfl (fun w hw=>Q2o (HG.out.on hw.k.below) hsm HV.out hw)) rfl (by decide) (fun ne _=>?_)|refine Q1 (XA rfl rfl (by decide) rfl rfl) ?_|refine Q1 (Qdm Q0h rfl rfl (by decide) rfl rfl) ?_|refine yS 0 ?_|refine Q8 ?_|refine Q6 ?_|refine Q2 ?_|refine Ql ?_|refine Q1 zY ?_|refine Q1 zN ?_|refine Q1 zX ?_)
   exact Q9 (by exact .inr rfl) rfl (.tmp rfl) (fun w hw=>⟨(k1,q1),rfl,HY.out,hw⟩)
end
end Go.Proofs.YtgdiadednlajgaaGreatDoor
