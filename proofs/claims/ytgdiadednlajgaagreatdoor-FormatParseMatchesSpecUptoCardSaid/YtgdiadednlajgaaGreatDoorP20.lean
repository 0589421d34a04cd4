import Derived.Test.YtgdiadednlajgaaGreatDoorP18
namespace Go.Proofs.YtgdiadednlajgaaGreatDoor
set_option linter.unusedVariables false
set_option linter.unusedSimpArgs false
structure Zr(r:Rl):Prop where
 bs:r.kind≠1→r.bs=[]
 stop:r.kind≠3→r.kind≠5→r.kind≠9→r.stop=0
 size:r.kind≠2→r.kind≠4→r.kind≠5→r.size=0
 big:r.kind≠2→r.big=false
 mn:r.kind≠2→r.mn=0
 mx:r.kind≠2→r.kind≠3→r.mx=0
 count:r.kind≠6→r.kind≠10→r.count=0
 elem:r.kind≠6→r.kind≠9→r.elem=0
 names:r.kind≠7→r.names=[]
 parts:r.kind≠7→r.kind≠8→r.parts=[]
theorem Q1m{n:Nat}{r:Rl}(h:ROk n r):Zr r:=by
 have hf:=h.formed
 unfold XI Z7 Z4 Zf Qp XJ JZ Zu at hf
 simp only[Bool.and_eq_true,Bool.or_eq_true,beq_iff_eq,List.contains_iff_mem,List.mem_cons,List.not_mem_nil,or_false,Bool.not_eq_true'] at hf
 obtain⟨⟨⟨⟨⟨⟨⟨⟨h1,h2⟩,h3⟩,h4⟩,h5⟩,h6⟩,h7⟩,h8⟩,h9⟩:=hf;refine⟨fun h=>?_,fun _ _ _=>by omega,fun _ _ _=>by omega,fun h=>?_,fun h=>?_,fun _ _=>by omega,fun _ _=>by omega,fun _ _=>by omega,fun h=>?_,fun h h'=>?_⟩
 ·exact List.eq_nil_of_length_eq_zero (by omega)
 ·exact(h4.resolve_right h).1
 ·exact(h4.resolve_right h).2
 ·exact List.eq_nil_of_length_eq_zero (by omega)
 ·exact List.eq_nil_of_length_eq_zero (by omega)
def Q50(r:Rl):Rl:={ r with count:=0,elem:=0,parts:=[] }
def Q0I(F:List Rl)(r:Rl):List (List UInt8):=(if Qp r.kind then [Zv F r.count] else [])++(if XJ r.kind then [Zv F r.elem] else [])++r.parts.map (Zv F)
def Q1D(r:Rl):List Int:=(if Qp r.kind then [r.count] else [])++(if XJ r.kind then [r.elem] else [])++r.parts
structure LOk(F:List Rl)(r:Rl):Prop where
 ok:ROk F.length r
 name:Qi r.name=true
 all:∀x:Int,0≤x∧x<F.length→Qi (Zv F x)=true
 part:r.kind=7→∀s∈r.names,s=[]∨Qi s=true
theorem ZI{name:List UInt8}(h:Qi name=true){k:Int}(hk:1≤k∧k≤10)(ws:List (List UInt8)):V5 (name::Xz k::ws)=QD name k ws:=by
 show (if Qi name=true then QD name (kwK (Xz k)) ws else none)=_
 rw[if_pos h,Q4B hk]
theorem Q8N{F:List Rl}{r:Rl}(h:LOk F r):V5 (XZ F r)=some (Q50 r,Q0I F r):=by
 have hz:=Q1m h.ok;have hok:=h.ok;have hall:=h.all;have hname:=h.name;have hpart:=h.part;obtain⟨name,kind,bs,size,big,mn,mx,stop,count,elem,names,parts⟩:=r;obtain⟨z1,z2,z3,z4,z5,z6,z7,z8,z9,z10⟩:=hz;have hk:=hok.kind;have k1:=hok.bs1;have k7:=hok.seven;have kp:=hok.parts;have kc:=hok.count;have ke:=hok.elem;have k2:=hok.num;have k3:=hok.dec;have ks:=hok.stop;have k4:=hok.size4;have k5:=hok.size5;clear hok h
 simp only at z1 z2 z3 z4 z5 z6 z7 z8 z9 z10 hk k1 k7 kp kc ke k2 k3 ks k4 k5 hname hpart
 rcases (show kind=1∨kind=2∨kind=3∨kind=4∨kind=5∨kind=6∨kind=7∨kind=8∨kind=9∨kind=10 by omega) with rfl|rfl|rfl|rfl|rfl|rfl|rfl|rfl|rfl|rfl
 ·obtain rfl:=z2 (by decide) (by decide) (by decide);obtain rfl:=z3 (by decide) (by decide) (by decide);obtain rfl:=z4 (by decide);obtain rfl:=z5 (by decide);obtain rfl:=z6 (by decide) (by decide);obtain rfl:=z7 (by decide) (by decide);obtain rfl:=z8 (by decide) (by decide);obtain rfl:=z9 (by decide);obtain rfl:=z10 (by decide) (by decide);have hb:=k1 rfl
  have hne:bs≠[]:=fun e=>by rw[e] at hb;exact absurd hb (by decide)
  show V5 (name::Xz 1::[Jr bs])=_
  rw[ZI hname (by decide)]
  unfold QD
  rw[if_pos rfl]
  simp only
  rw[if_neg (Qdj hne),Q4a]
  rfl
 ·obtain rfl:=z1 (by decide);obtain rfl:=z2 (by decide) (by decide) (by decide);obtain rfl:=z7 (by decide) (by decide);obtain rfl:=z8 (by decide) (by decide);obtain rfl:=z9 (by decide);obtain rfl:=z10 (by decide) (by decide);obtain⟨a1,a2,a3,a4,a5⟩:=k2 rfl
  have a6:mx≤4294967295:=by
   clear k3 ks k4 k5 k1 k7 kp kc ke k2
   rcases (show size=1∨size=2∨size=3∨size=4 by omega) with rfl|rfl|rfl|rfl<;>simp at a5<;>omega
  show V5 (name::Xz 2::[Lib.itoa size,if big then V3 else Ze,Lib.itoa mn,Lib.itoa mx])=_
  rw[ZI hname (by decide)]
  unfold QD
  rw[if_neg (by decide),if_pos rfl]
  simp only
  rw[Ji (by omega) (by omega),Ji (by omega) (by omega),Ji (by omega) (by omega)]
  cases big<;>rfl
 ·obtain rfl:=z1 (by decide);obtain rfl:=z3 (by decide) (by decide) (by decide);obtain rfl:=z4 (by decide);obtain rfl:=z5 (by decide);obtain rfl:=z7 (by decide) (by decide);obtain rfl:=z8 (by decide) (by decide);obtain rfl:=z9 (by decide);obtain rfl:=z10 (by decide) (by decide);have a1:=k3 rfl;have a2:=ks (.inl rfl)
  show V5 (name::Xz 3::[Lib.itoa stop,Lib.itoa mx])=_
  rw[ZI hname (by decide)]
  unfold QD
  rw[if_neg (by decide),if_neg (by decide),if_pos rfl]
  simp only
  rw[Ji (by omega) (by omega),Ji (by omega) (by omega)]
  rfl
 ·obtain rfl:=z1 (by decide);obtain rfl:=z2 (by decide) (by decide) (by decide);obtain rfl:=z4 (by decide);obtain rfl:=z5 (by decide);obtain rfl:=z6 (by decide) (by decide);obtain rfl:=z7 (by decide) (by decide);obtain rfl:=z8 (by decide) (by decide);obtain rfl:=z9 (by decide);obtain rfl:=z10 (by decide) (by decide);have a1:=k4 rfl
  show V5 (name::Xz 4::[Lib.itoa size])=_
  rw[ZI hname (by decide)]
  unfold QD
  rw[if_neg (by decide),if_neg (by decide),if_neg (by decide),if_pos rfl]
  simp only
  rw[Ji (by omega) (by omega)]
  rfl
 ·obtain rfl:=z1 (by decide);obtain rfl:=z4 (by decide);obtain rfl:=z5 (by decide);obtain rfl:=z6 (by decide) (by decide);obtain rfl:=z7 (by decide) (by decide);obtain rfl:=z8 (by decide) (by decide);obtain rfl:=z9 (by decide);obtain rfl:=z10 (by decide) (by decide);have a1:=k5 rfl;have a2:=ks (.inr (.inl rfl))
  show V5 (name::Xz 5::[Lib.itoa stop,Lib.itoa size])=_
  rw[ZI hname (by decide)]
  unfold QD
  rw[if_neg (by decide),if_neg (by decide),if_neg (by decide),if_neg (by decide),if_pos rfl]
  simp only
  rw[Ji (by omega) (by omega),Ji (by omega) (by omega)]
  rfl
 ·obtain rfl:=z1 (by decide);obtain rfl:=z2 (by decide) (by decide) (by decide);obtain rfl:=z3 (by decide) (by decide) (by decide);obtain rfl:=z4 (by decide);obtain rfl:=z5 (by decide);obtain rfl:=z6 (by decide) (by decide);obtain rfl:=z9 (by decide);obtain rfl:=z10 (by decide) (by decide);have a1:=hall _ (kc (.inl rfl));have a2:=hall _ (ke (.inl rfl))
  show V5 (name::Xz 6::[Zv F count,Zv F elem])=_
  rw[ZI hname (by decide)]
  unfold QD
  rw[if_neg (by decide),if_neg (by decide),if_neg (by decide),if_neg (by decide),if_neg (by decide),if_pos rfl]
  simp only
  rw[a1,a2]
  rfl
 ·obtain rfl:=z1 (by decide);obtain rfl:=z2 (by decide) (by decide) (by decide);obtain rfl:=z3 (by decide) (by decide) (by decide);obtain rfl:=z4 (by decide);obtain rfl:=z5 (by decide);obtain rfl:=z6 (by decide) (by decide);obtain rfl:=z7 (by decide) (by decide);obtain rfl:=z8 (by decide) (by decide);have hl:names.length=parts.length:=(k7 rfl).1;have e:=Q5Y F (r:=⟨name,7,[],0,false,0,0,0,0,0,names,parts⟩) rfl hl
  unfold XZ
  rw[e]
  show V5 (name::Xz 7::List.zipWith (fun n p=>Ks n (Zv F p)) names parts)=_
  rw[ZI hname (by decide)]
  unfold QD
  rw[if_neg (by decide),if_neg (by decide),if_neg (by decide),if_neg (by decide),if_neg (by decide),if_neg (by decide),if_neg (by decide),if_neg (by decide),if_pos rfl];rw[Q0p names parts hl (hpart rfl) (fun p hp=>hall p (kp (.inl rfl) p hp))]
  rfl
 ·obtain rfl:=z1 (by decide);obtain rfl:=z2 (by decide) (by decide) (by decide);obtain rfl:=z3 (by decide) (by decide) (by decide);obtain rfl:=z4 (by decide);obtain rfl:=z5 (by decide);obtain rfl:=z6 (by decide) (by decide);obtain rfl:=z7 (by decide) (by decide);obtain rfl:=z8 (by decide) (by decide);obtain rfl:=z9 (by decide);have e:=Q5h F (r:=⟨name,8,[],0,false,0,0,0,0,0,[],parts⟩) (show (8:Int)≠7 by decide)
  unfold XZ
  rw[e]
  show V5 (name::Xz 8::parts.map (Zv F))=_
  rw[ZI hname (by decide)]
  unfold QD
  rw[if_neg (by decide),if_neg (by decide),if_neg (by decide),if_neg (by decide),if_neg (by decide),if_neg (by decide),if_neg (by decide),if_neg (by decide),if_neg (by decide),if_pos rfl,if_pos]
  ·rfl
  ·rw[List.all_eq_true];intro x hx;rw[List.mem_map] at hx;obtain⟨p,hp,rfl⟩:=hx;exact hall p (kp (.inr rfl) p hp)
 ·obtain rfl:=z1 (by decide);obtain rfl:=z3 (by decide) (by decide) (by decide);obtain rfl:=z4 (by decide);obtain rfl:=z5 (by decide);obtain rfl:=z6 (by decide) (by decide);obtain rfl:=z7 (by decide) (by decide);obtain rfl:=z9 (by decide);obtain rfl:=z10 (by decide) (by decide);have a1:=ks (.inr (.inr rfl));have a2:=hall _ (ke (.inr rfl))
  show V5 (name::Xz 9::[Lib.itoa stop,Zv F elem])=_
  rw[ZI hname (by decide)]
  unfold QD
  rw[if_neg (by decide),if_neg (by decide),if_neg (by decide),if_neg (by decide),if_neg (by decide),if_neg (by decide),if_pos rfl]
  simp only
  rw[Ji (by omega) (by omega)]
  simp only
  rw[if_pos a2]
  rfl
 ·obtain rfl:=z1 (by decide);obtain rfl:=z2 (by decide) (by decide) (by decide);obtain rfl:=z3 (by decide) (by decide) (by decide);obtain rfl:=z4 (by decide);obtain rfl:=z5 (by decide);obtain rfl:=z6 (by decide) (by decide);obtain rfl:=z8 (by decide) (by decide);obtain rfl:=z9 (by decide);obtain rfl:=z10 (by decide) (by decide);have a1:=hall _ (kc (.inr rfl))
  show V5 (name::Xz 10::[Zv F count])=_
  rw[ZI hname (by decide)]
  unfold QD
  rw[if_neg (by decide),if_neg (by decide),if_neg (by decide),if_neg (by decide),if_neg (by decide),if_neg (by decide),if_neg (by decide),if_pos rfl]
  simp only
  rw[if_pos a1]
  rfl
theorem Q60{n:Nat}{r:Rl}(h:ROk n r):XD (Q50 r) (Q1D r)=r:=by
 have hz:=Q1m h;have hk:=h.kind;obtain⟨name,kind,bs,size,big,mn,mx,stop,count,elem,names,parts⟩:=r;obtain⟨z1,z2,z3,z4,z5,z6,z7,z8,z9,z10⟩:=hz;clear h
 simp only at z7 z8 z10 hk
 rcases (show kind=1∨kind=2∨kind=3∨kind=4∨kind=5∨kind=6∨kind=7∨kind=8∨kind=9∨kind=10 by omega) with rfl|rfl|rfl|rfl|rfl|rfl|rfl|rfl|rfl|rfl
 ·rw[z7 (by decide) (by decide),z8 (by decide) (by decide),z10 (by decide) (by decide)];rfl
 ·rw[z7 (by decide) (by decide),z8 (by decide) (by decide),z10 (by decide) (by decide)];rfl
 ·rw[z7 (by decide) (by decide),z8 (by decide) (by decide),z10 (by decide) (by decide)];rfl
 ·rw[z7 (by decide) (by decide),z8 (by decide) (by decide),z10 (by decide) (by decide)];rfl
 ·rw[z7 (by decide) (by decide),z8 (by decide) (by decide),z10 (by decide) (by decide)];rfl
 ·rw[z10 (by decide) (by decide)];rfl
 ·rw[z7 (by decide) (by decide),z8 (by decide) (by decide)];rfl
 ·rw[z7 (by decide) (by decide),z8 (by decide) (by decide)];rfl
 ·rw[z7 (by decide) (by decide),z10 (by decide) (by decide)];rfl
 ·rw[z8 (by decide) (by decide),z10 (by decide) (by decide)];rfl
theorem Q44{name:List UInt8}{k:Int}{ws:List (List UInt8)}(h:QD name k ws≠none):k=1∨k=2∨k=3∨k=4∨k=5∨k=6∨k=9∨k=10∨k=7∨k=8:=by
 refine Classical.byContradiction fun hn=>h ?_
 unfold QD
 rw[if_neg (by omega),if_neg (by omega),if_neg (by omega),if_neg (by omega),if_neg (by omega),if_neg (by omega),if_neg (by omega),if_neg (by omega),if_neg (by omega),if_neg (by omega)]
theorem Q6Y{F:List Rl}{ws:List (List UInt8)}{x:Rl}{refs:List (List UInt8)}{ns:List Int}(h:V5 ws=some (x,refs))(hn:ns.map (Zv F)=refs):XZ F (XD x ns)=ws∧(XD x ns).name=x.name:=by
 match ws,h with
 |[],h=>cases h
 |[_],h=>cases h
 |name::kw::ws,h0=>
  have h:(if Qi name=true then QD name (kwK kw) ws else none)=some (x,refs):=h0;clear h0
  split at h
  ·next hname=>
   obtain⟨k,hk⟩:∃k,kwK kw=k:=⟨_,rfl⟩
   have hkw:k≠0→kw=Xz k:=fun h0=>by rw[← hk];exact(Q6B (by rw[hk];exact h0)).2
   rw[hk] at h
   rcases Q44 (by rw[h];simp) with e|e|e|e|e|e|e|e|e|e
   ·subst e
    unfold QD at h
    rw[if_pos rfl] at h;obtain rfl:=hkw (by decide)
    match ws,h with
    |[a],h=>
     simp only at h
     split at h
     ·cases h
     ·cases hu:X3 a with
      |none=>rw[hu] at h;cases h
      |some b=>
       rw[hu] at h
       cases h
       rw[List.map_eq_nil_iff] at hn;subst hn;refine⟨?_,rfl⟩
       show [name,Xz 1,Jr b]=_
       rw[Q43 hu]
   ·subst e
    unfold QD at h
    rw[if_neg (by decide),if_pos rfl] at h;obtain rfl:=hkw (by decide)
    match ws,h with
    |[a,o,m,y],h=>
     simp only at h
     cases h1:Z9 a with
     |none=>rw[h1] at h;cases h
     |some v1=>
      cases h2:Z9 m with
      |none=>rw[h1,h2] at h;cases h
      |some v2=>
       cases h3:Z9 y with
       |none=>rw[h1,h2,h3] at h;cases h
       |some v3=>
        rw[h1,h2,h3] at h
        simp only at h
        split at h
        ·next ho=>
         cases h
         rw[List.map_eq_nil_iff] at hn;subst hn;refine⟨?_,rfl⟩
         show [name,Xz 2,Lib.itoa v1,if (o==V3)=true then V3 else Ze,Lib.itoa v2,Lib.itoa v3]=_
         rw[← (Jg h1).1,← (Jg h2).1,← (Jg h3).1]
         rcases ho with rfl|rfl
         ·rfl
         ·rfl
        ·cases h
   ·subst e
    unfold QD at h
    rw[if_neg (by decide),if_neg (by decide),if_pos rfl] at h;obtain rfl:=hkw (by decide)
    match ws,h with
    |[a,b],h=>
     simp only at h
     cases h1:Z9 a with
     |none=>rw[h1] at h;cases h
     |some v1=>
      cases h2:Z9 b with
      |none=>rw[h1,h2] at h;cases h
      |some v2=>
       rw[h1,h2] at h
       cases h
       rw[List.map_eq_nil_iff] at hn;subst hn;refine⟨?_,rfl⟩
       show [name,Xz 3,Lib.itoa v1,Lib.itoa v2]=_
       rw[← (Jg h1).1,← (Jg h2).1]
   ·subst e
    unfold QD at h
    rw[if_neg (by decide),if_neg (by decide),if_neg (by decide),if_pos rfl] at h;obtain rfl:=hkw (by decide)
    match ws,h with
    |[a],h=>
     simp only at h
     cases h1:Z9 a with
     |none=>rw[h1] at h;cases h
     |some v1=>
      rw[h1] at h
      cases h
      rw[List.map_eq_nil_iff] at hn;subst hn;refine⟨?_,rfl⟩
      show [name,Xz 4,Lib.itoa v1]=_
      rw[← (Jg h1).1]
   ·subst e
    unfold QD at h
    rw[if_neg (by decide),if_neg (by decide),if_neg (by decide),if_neg (by decide),if_pos rfl] at h;obtain rfl:=hkw (by decide)
    match ws,h with
    |[a,b],h=>
     simp only at h
     cases h1:Z9 a with
     |none=>rw[h1] at h;cases h
     |some v1=>
      cases h2:Z9 b with
      |none=>rw[h1,h2] at h;cases h
      |some v2=>
       rw[h1,h2] at h
       cases h
       rw[List.map_eq_nil_iff] at hn;subst hn;refine⟨?_,rfl⟩
       show [name,Xz 5,Lib.itoa v1,Lib.itoa v2]=_
       rw[← (Jg h1).1,← (Jg h2).1]
   ·subst e
    unfold QD at h
    rw[if_neg (by decide),if_neg (by decide),if_neg (by decide),if_neg (by decide),if_neg (by decide),if_pos rfl] at h;obtain rfl:=hkw (by decide)
    match ws,h with
    |[a,b],h=>
     simp only at h
     split at h
     ·cases h
      match ns,hn with
      |[p,q],hn=>
       cases hn
       exact⟨rfl,rfl⟩
     ·cases h
   ·subst e
    unfold QD at h
    rw[if_neg (by decide),if_neg (by decide),if_neg (by decide),if_neg (by decide),if_neg (by decide),if_neg (by decide),if_pos rfl] at h;obtain rfl:=hkw (by decide)
    match ws,h with
    |[a,b],h=>
     simp only at h
     cases h1:Z9 a with
     |none=>rw[h1] at h;cases h
     |some v1=>
      rw[h1] at h
      simp only at h
      split at h
      ·cases h
       match ns,hn with
       |[q],hn=>
        cases hn
        refine⟨?_,rfl⟩
        show [name,Xz 9,Lib.itoa v1,Zv F q]=_
        rw[← (Jg h1).1]
      ·cases h
   ·subst e
    unfold QD at h
    rw[if_neg (by decide),if_neg (by decide),if_neg (by decide),if_neg (by decide),if_neg (by decide),if_neg (by decide),if_neg (by decide),if_pos rfl] at h;obtain rfl:=hkw (by decide)
    match ws,h with
    |[a],h=>
     simp only at h
     split at h
     ·cases h
      match ns,hn with
      |[p],hn=>
       cases hn
       exact⟨rfl,rfl⟩
     ·cases h
   ·subst e
    unfold QD at h
    rw[if_neg (by decide),if_neg (by decide),if_neg (by decide),if_neg (by decide),if_neg (by decide),if_neg (by decide),if_neg (by decide),if_neg (by decide),if_pos rfl] at h;obtain rfl:=hkw (by decide)
    cases hp:Jl ws with
    |none=>rw[hp] at h;cases h
    |some p=>
     obtain⟨nn,rr⟩:=p;rw[hp] at h
     cases h
     have hw:=Q0q hp;have hn:ns.map (Zv F)=rr:=hn
     have hl:nn.length=ns.length:=by rw[hw.2.1,← hn,List.length_map]
     have e:=Q5Y F (r:=⟨name,7,[],0,false,0,0,0,0,0,nn,ns⟩) rfl hl;refine⟨?_,rfl⟩
     show XZ F ⟨name,7,[],0,false,0,0,0,0,0,nn,ns⟩=_
     unfold XZ
     rw[e]
     show name::Xz 7::List.zipWith (fun n p=>Ks n (Zv F p)) nn ns=_
     rw[hw.1,← hn,List.zipWith_map_right]
   ·subst e
    unfold QD at h
    rw[if_neg (by decide),if_neg (by decide),if_neg (by decide),if_neg (by decide),if_neg (by decide),if_neg (by decide),if_neg (by decide),if_neg (by decide),if_neg (by decide),if_pos rfl] at h;obtain rfl:=hkw (by decide)
    split at h
    ·cases h
     have e:=Q5h F (r:=⟨name,8,[],0,false,0,0,0,0,0,[],ns⟩) (show (8:Int)≠7 by decide);refine⟨?_,rfl⟩
     show XZ F ⟨name,8,[],0,false,0,0,0,0,0,[],ns⟩=_
     unfold XZ
     rw[e]
     show name::Xz 8::ns.map (Zv F)=_
     rw[hn]
    ·cases h
  ·cases h
end Go.Proofs.YtgdiadednlajgaaGreatDoor
