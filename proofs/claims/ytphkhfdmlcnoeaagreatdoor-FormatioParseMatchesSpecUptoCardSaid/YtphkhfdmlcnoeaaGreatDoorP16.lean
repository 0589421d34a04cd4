import Derived.Test.YtphkhfdmlcnoeaaGreatDoorP15
namespace Go.Proofs.YtphkhfdmlcnoeaaGreatDoor
set_option linter.unusedVariables false
set_option linter.unusedSimpArgs false
set_option maxRecDepth 1000000
set_option maxHeartbeats 32000000
open Go.RowKit
theorem Wd.wroteAt{M:List Nat}{W w w':World}{O:List Qb}{g:Nat}{o o':Obj}(i:Nat)(h:Wd M W O w)(hO:O[i]? =some (.blk g o))(hk:Xx [g] w w')(ho:w'.heap[g]? =some o'):Wd M W (O.set i (.blk g o')) w':=
 h.upd hO rfl rfl ⟨hk.os,hk.tape,hk.output,hk.size,fun k hk1 hn=>hk.block k hk1 (by
  simp only[List.mem_singleton]
  intro e;subst e
  exact hn rfl)⟩ ho (fun b hb=>.inl hb)
theorem Xx.cell{W w:World}{g B:Nat}{q:Addr}(h:Xx [g] W w)(hB:B<=g)(hg:g<W.heap.size)(hq:q.block<B):w.cell? q=W.cell? q:=
 World.cell?_of_block (h.block q.block Q3 Q4j)
theorem Rd.back{W w:World}{g B s n:Nat}{A:Option Addr}{xs:List Value}(h:Rd w B s A n xs)(hk:Xx [g] W w)(hB:B<=g)(hg:g<W.heap.size):Rd W B s A n xs:=
 h.keep fun q hq=>(hk.cell hB hg hq).symm
theorem Xx.thenK{W w w':World}{g:Nat}(h:Xx [g] W w)(k:Xx [g] w w'):Xx [g] W w':=h.trans k fun b hb _=>hb
abbrev Vz{α:Type}(RES:Rdg α)(g:Nat)(W:World)(ch:List PanicEntry)(w':World):Prop:=∃x:Nat,RES=some (.error x)/\ch=JN 1 x/\Xx [g] W w'
section
variable {W w w':World}{z:Rv}{B g p i:Nat}{F:List Rl}{D:List UInt8}{O:List Qb}{o:Obj}{e:Ending}{α:Type}{RES:Rdg α}
theorem Q9z{res:Rdg (Int×Nat)}(i:Nat)(hO:O[i]? =some (.blk g o))(hw:Wd [g] W O w)(hx:∀x:Nat,res=some (.error x)->RES=some (.error x))(h:NmE z g w res e w'):Zp (fun y:Int×Nat=>.int .i64 y.1) (fun y=>res=some (.ok y)) [g] W (fun y=>O.set i (.blk g (z.obj y.2))) (Vz RES g W) e w':=by
 obtain⟨hk,⟨x,h1,h2⟩|⟨n,q,h1,h2,h3⟩⟩:=h
 ·exact QcD
 ·exact .inl ⟨(n,q),h2,h1,hw.wroteAt i hO hk h3⟩
theorem QeJ{res:Rdg (List UInt8×Nat)}(i:Nat)(hO:O[i]? =some (.blk g o))(hw:Wd [g] W O w)(hx:∀x:Nat,res=some (.error x)->RES=some (.error x))(hB:B<=g)(hg:g<W.heap.size)(h:ByE z B g w res e w'):Zp (fun y:(List UInt8×Nat)×Option Addr×Nat=>.slice y.2.1 y.1.1.length y.2.2) (fun y=>res=some (.ok y.1)/\Rd W B 1 y.2.1 y.1.1.length (bv y.1.1)/\y.1.1.length<=y.2.2) [g] W (fun y=>O.set i (.blk g (z.obj y.1.2))) (Vz RES g W) e w':=by
 obtain⟨hk,⟨x,h1,h2⟩|⟨l,q,A,c,h1,h2,h3,h4,h5⟩⟩:=h
 ·exact QcD
 ·exact .inl ⟨((l,q),A,c),h2,⟨h1,h4.back (hw.k.thenK hk) hB hg,h5⟩,hw.wroteAt i hO hk h3⟩
theorem Q21(h:ZV W z B g F D p){r:Rl}{sb sn sp:Value}(hr:JX r):Calls Tryz.prog 61 #[.pointer (some ⟨g,0,none⟩),.agg (ruC r sb sn sp).toArray] W (NmE z g W (YD r D p)):=by
 have H:=Q2 h;have hwd:=h.wd;have hp:=h.hp;have hD:=h.hD;have HNO:=Q2 hr;have hkind:=hr.kind;have hdec:=hr.dec;have hnum:=hr.num;obtain⟨RES,hres⟩:∃x,YD r D p=x:=⟨_,rfl⟩;have HR0:=Q2 hres;rw[hres];clear h hr hres;obtain⟨name,kind,bs,size,big,mn,mx,stop,count,elem,names,parts⟩:=r;obtain⟨Af,As,Ad,nn,nd,cf,cs,cd⟩:=z;simp only at hkind hdec hnum;have hdc:=fun(w:World) (hw:ZV w ⟨Af,As,Ad,nn,nd,cf,cs,cd⟩ B g F D p) (h3:kind=3)=>Qfa hw (r:=⟨name,kind,bs,size,big,mn,mx,stop,count,elem,names,parts⟩) (sb:=sb) (sn:=sn) (sp:=sp) ⟨(hdec h3).1,(hdec h3).2.1⟩ (hdec h3).2.2
 simp only[ruC] at hdc ⊢;go_enter Tryz.func61,Tryz.ntmps61;haveI:Pan (bodyPost Tryz.prog Tryz.f61 (NmE ⟨Af,As,Ad,nn,nd,cf,cs,cd⟩ g W RES)) (Vz RES g W):=Pan.body fun ch w' ⟨x,h1,h2,h3⟩=>K4
 refine Qv (M:=[g]) (W:=W) (N:=57) (E:=[ZU,Qhd]) (O:=QcN) ?_ mc3 hwd;clear hwd;by_cases h3:kind=3
 ·subst h3;have HRE:=Q2 (show RES=JM stop mx (D.drop p) false 0 p by rw[<- HR0.out];unfold YD;rw[if_pos rfl]);refine yq<|yr ?_;refine yB fun b3=>?_;refine yo zA<|yl<|yn<|yq<|yq<|yr<|yo zF<|yo (zB 0)<|yo zet<|yl<|yn<|y1<|yq<|yr<|yo zM<|yo (zD 0) ?_;refine Jn (Xw _ _ _ rfl rfl rfl (fun w hw=>(hdc w (H.out.next hw.k hp Q0v) rfl).mono (fun e w' h=>Q9z 1 rfl hw (fun x hx=>HRE.out.trans hx) h))) rfl Q1 (fun y hy=>?_);refine yo zA<|yl<|yn<|yt<|yc ?_;exact Q8 mc4 rfl (.tmp rfl) (fun w hw=>⟨hw.k,.inr ⟨y.1,y.2,HRE.out.trans hy,rfl,hw.own 1 _ rfl⟩⟩)
 ·have h2:kind=2:=hkind.resolve_right h3;subst h2;obtain⟨hs1,hs4,hm0,hmm,hmx⟩:=hnum rfl;obtain⟨sz,rfl⟩:∃sz:Nat,size=(sz:Int):=Qfd;have HRE:=Q2 (show RES=rb (ZG D p (sz:Int)) fun y=>if QI big y.1<mn\/mx<QI big y.1 then erR p else okR (QI big y.1,y.2) by rw[<- HR0.out];unfold YD;rw[if_neg QfQ]);clear hdc hdec hnum hkind;refine yq<|yr ?_;refine yB fun b3=>?_;refine yo zA<|yl<|yn<|yq<|yq<|yr<|yo zF<|yo (zB 0)<|yo zef<|yl<|yn<|y0<|ys<|yn<|yq<|yr<|yo zM ?_;refine Q4 mc5 ?_;refine yo zF<|yo (zB 1)<|yo zA<|yl<|yn<|yq<|yr<|yo zA<|yl<|yn<|yq<|yq<|yr<|yo zM<|yo zF<|yo (zB 0) ?_;refine Jn (Xw _ _ _ rfl rfl rfl (fun w hw=>(Q2n (H.out.next hw.k hp Q0v) (n:=(sz:Int)) Q3 Q3).mono (fun e w' h=>QeJ 1 rfl hw (fun x hx=>by rw[HRE.out,hx];rfl) H.out.hB H.out.lt h))) rfl Q1 (fun y hy=>?_);refine yo zL<|yo zM<|yl<|yn<|yb ?_;obtain⟨⟨l,q⟩,A,c⟩:=y;obtain⟨hy1,hyr,hyc⟩:=hy;obtain⟨hlq,_⟩:=Vk hy1
  have hll:l.length<=4:=by
   have:l=(D.drop p).take ((sz:Int)).toNat:=congrArg Prod.fst hlq;rw[this,List.length_take];omega
  have HRF:=Q2 (show RES=if QI big l<mn\/mx<QI big l then erR p else okR (QI big l,q) by rw[HRE.out,hy1];rfl);have HYR:=Q2 hyr;clear hy1 hyr hlq;refine Xe (ι:=Nat) (fun i=>i<=l.length) (fun i=>l.length - i) (fun i=>[(0,.pointer (some ⟨g,0,none⟩)),(3,.pointer (some ⟨b3,0,none⟩)),(5,.int .i64 (p:Int)),(6,.int .i64 (QI big (l.take i))),(22,.slice A l.length c),(23,.int .i64 (l.length:Int)),(24,.int .i64 (i:Int))]) (fun i=>[.blk b3 (.cells ([.string ⟨name.toArray⟩,.int .i64 2,sb,.int .i64 (sz:Int),.bool big,.int .i64 mn,.int .i64 mx,.int .i64 stop,.int .i64 count,.int .i64 elem,sn,sp]:List Value).toArray 65 (0,0)),.blk g (.cells ([.slice Af nn cf,.slice As nn cs,.slice Ad nd cd,.int .i64 (q:Int)]:List Value).toArray 60 (0,0))]) 0 (Nat.zero_le _) (.cons rfl rfl (.cons rfl rfl (.cons rfl rfl (.cons rfl (by rw[List.take_zero];cases big<;>rfl) (.cons rfl rfl (.cons rfl rfl (.cons rfl rfl .nil))))))) (fun w hw=>hw) ?_;intro i hi;show sE _ _ _ _ _ [(0,.pointer (some ⟨g,0,none⟩)),(3,.pointer (some ⟨b3,0,none⟩)),(5,.int .i64 (p:Int)),(6,.int .i64 (QI big (l.take i))),(22,.slice A l.length c),(23,.int .i64 (l.length:Int)),(24,.int .i64 (i:Int))] [.blk b3 (.cells ([.string ⟨name.toArray⟩,.int .i64 2,sb,.int .i64 (sz:Int),.bool big,.int .i64 mn,.int .i64 mx,.int .i64 stop,.int .i64 count,.int .i64 elem,sn,sp]:List Value).toArray 65 (0,0)),.blk g (.cells ([.slice Af nn cf,.slice As nn cs,.slice Ad nd cd,.int .i64 (q:Int)]:List Value).toArray 60 (0,0))] _;by_cases hin:i<l.length
  ·obtain⟨b,hb⟩:∃b,l[i]? =some b:=⟨_,List.getElem?_eq_getElem hin⟩;obtain⟨qb,ob,rfl,hqB,hcell⟩:=Js HYR.out hb
   have hqg:¬qb=g:=by have:=H.out.hB;omega
   have hcv:=Za b;have htl:(l.take i).length=i:=by rw[List.length_take];omega
   have htk:l.take i++[b]=l.take (i+1):=by rw[List.take_add_one,hb];rfl
   cases big with
   |true=>
    obtain⟨s1,s2,s3,s4⟩:=QlW (l:=l.take i) (c:=b) Q3;rw[htk] at s2;refine Qs7 ?_;refine yo zA<|yo zA<|yl<|yn<|yq<|yr<|yo zF<|yo (zB 0)<|yl<|yn<|y1<|yr<|yo zM ?_;refine Q4 (QtW rfl rfl Q1 rfl rfl rfl Q1 s1 Q3) ?_;refine yo zM ?_;refine Q4 Q2p ?_;refine Q4 (Qwh rfl rfl Q1 rfl rfl rfl s2) ?_;refine QfO ?_;refine Qu (i+1) hin Qhb Q0g Ju
   |false=>
    obtain⟨s1,s2,s3,s4⟩:=QbQ (l:=l.take i) (c:=b) Q3;rw[htk] at s2;rw[htl] at s1 s2 s3 s4;refine Qs7 ?_;refine yo zA<|yo zA<|yl<|yn<|yq<|yr<|yo zF<|yo (zB 0)<|yl<|yn<|y0<|yr<|yo zM<|yo zM ?_;refine Q4 Q2p ?_;refine yo zM ?_;refine Q4 Q3q ?_;refine Q4 (QtW rfl rfl Q1 rfl rfl rfl Q3 s1 Q3) ?_;refine Q4 (Qwh rfl rfl Q1 rfl rfl rfl s2) ?_;refine QfO ?_;refine Qu (i+1) hin Qhb Q0g Ju
  ·have hil:i=l.length:=by omega
   subst hil;rw[List.take_length];by_cases hlo:QI big l<mn
   ·have HE:=Q2 (show RES=some (.error p) by rw[HRF.out,if_pos (.inl hlo)];rfl);refine yq<|yr<|yo zlf<|yl<|yn<|yq<|y0<|ye<|yn<|yq<|yq<|yr<|yo zM<|yo zF<|yo (zB 0)<|yo zlt<|yo zM<|yo zS<|yo zS<|yo zS<|yo zS<|yo zY<|yl<|yn<|y1<|yr<|yo zM ?_;exact QtI
   ·by_cases hhi:mx<QI big l
    ·have HE:=Q2 (show RES=some (.error p) by rw[HRF.out,if_pos (.inr hhi)];rfl);refine yq<|yr<|yo zlf<|yl<|yn<|yq<|y0<|ye<|yn<|yq<|yq<|yr<|yo zM<|yo zF<|yo (zB 0)<|yo zlf<|yo zM<|yo zM<|yo zF<|yo (zB 0)<|yo zgt<|yo zN<|yl<|yn<|y1<|yr<|yo zM ?_;exact QtI
    ·have HE:=Q2 (show RES=some (.ok (QI big l,q)) by rw[HRF.out,if_neg Q3];rfl);refine yq<|yr<|yo zlf<|yl<|yn<|yq<|y0<|ye<|yn<|yq<|yq<|yr<|yo zM<|yo zF<|yo (zB 0)<|yo zlf<|yo zM<|yo zM<|yo zF<|yo (zB 0)<|yo zgf<|yo zN<|yl<|yn<|y0<|ys<|yn<|yq<|yr<|yo zM<|yo zA<|yl<|yn<|yt ?_;exact Q8 mc4 rfl (.tmp rfl) (fun w hw=>⟨hw.k,.inr ⟨QI big l,q,HE.out,rfl,hw.own 1 _ rfl⟩⟩)
end
section
variable {A:Option Addr}{c n:Nat}{w:World}
theorem Qqa{t e:TypeId}(h:Tryz.prog.underlying t=some (.slice e))(w:World)(a:Option Addr)(n c:Nat):(binOp .eql t (.slice a n c) (.slice none 0 0)).run Tryz.prog w=.ok (.bool a.isNone) w:=by
 simp only[binOp];simp [Op.equal,Op.maxDepth,Lib.run_equalIn_slice_nil w 9999 t e a n c 0 0 h]
theorem Qj2(w:World)(e:TypeId):(w.alloc (.cells #[] e)).ownsRow w.heap.size e 1 (.slice (some ⟨w.heap.size,0,none⟩) 0 0) 0 []:=
 ⟨rfl,.inr ⟨w.heap.size,0,#[],rfl,Nat.le_refl _,heap_alloc_new w _,Nat.le_refl _,Nat.zero_le _,rfl,rfl⟩⟩
def Qjp(w:World)(n:Nat)(xs:List UInt8)(e:Ending)(w':World):Prop:=∃A c,e=.returned (.slice A n c)/\w'.ownsRow w.heap.size 5 1 (.slice A n c) n (bv xs)/\Below w.heap.size w w'
theorem Q9M{xs:List UInt8}(h:Rd w w.heap.size 1 A n (bv xs))(hn:n<=1048576):Calls Tryz.prog 99 #[.slice A n c] w (Qjp w n xs):=by
 have heq:=Qqa Tryz.underlying25;rcases A with _|ad
 ·have h0:n=0:=by
   rcases Nat.eq_zero_or_pos n with h0|h0
   ·exact h0
   ·obtain⟨b,o,e,_⟩:=h.2 h0;cases e
  subst h0;have hx:=h.empty;have HX:=Q2 hx;clear h hx;go_enter Tryz.func99,Tryz.ntmps99;go_wp2_with fail
  go_ret;exact ⟨none,0,rfl,by rw[HX.out];exact World.ownsRow_nil _ _ _ _,Below.refl _ _⟩
 ·have HR:=Q2 h;clear h
  go_enter Tryz.func99,Tryz.ntmps99;go_wp2_with (at_builtin;refine XW _ slB rfl (.tmp 5) (.tmp 6) rfl w.heap.size _ 0 0 [] rfl (Qj2 w _) w.heap.size (some ad) n c (bv xs) rfl (HR.out.below (JS _ _)) (VM _) Q3 (by simp only[Qx];omega) (JS _ _) (Nat.le_refl _) ?_;intro A2 c2 w2 hown2 _ hb2;simp only[Nat.zero_add,List.nil_append] at hown2)
  go_ret;exact⟨A2,c2,by simp,hown2,hb2⟩
end
section
variable {A:Option Addr}{c n:Nat}
theorem Qbh(A:Option Addr)(n c:Nat)(w:World):Calls Tryz.prog 59 #[.slice A n c] w fun e w'=>e=.returned (.agg #[.int .i64 3,.int .i64 0,.slice none 0 0,.slice none 0 0,.slice A n c])/\Below w.heap.size w w':=by
 go_enter Tryz.func59,Tryz.ntmps59;go_wp2
 exact bodyPost_ret (v:=.agg #[.int .i64 3,.int .i64 0,.slice none 0 0,.slice none 0 0,.slice A n c]) (by simp [results,Tryz.results59,go_sem]) rfl Qdg
theorem QdL(n:Int)(w:World):Calls Tryz.prog 60 #[.int .i64 n] w fun e w'=>e=.returned (.agg #[.int .i64 1,.int .i64 n,.slice none 0 0,.slice none 0 0,.slice none 0 0])/\Below w.heap.size w w':=by
 go_enter Tryz.func60,Tryz.ntmps60;go_wp2
 exact bodyPost_ret (v:=.agg #[.int .i64 1,.int .i64 n,.slice none 0 0,.slice none 0 0,.slice none 0 0]) (by simp [results,Tryz.results60,go_sem]) rfl Qdg
def MbE(W:World)(xs:List UInt8)(e:Ending)(w':World):Prop:=∃A c,e=.returned (.agg #[.int .i64 2,.int .i64 0,.slice A xs.length c,.slice none 0 0,.slice none 0 0])/\xs.length<=c/\New [.rd A xs.length 1 (bv xs)] W.heap.size w'/\Below W.heap.size W w'
theorem Q0T{W w:World}{xs:List Value}{e:TypeId}{m:Nat}(h:w.ownsRow m e 1 (.slice A n c) n xs):n<=c/\New [.rd A n 1 xs] m w:=by
 refine⟨?_,⟨by simp [Qb.w],fun x hx=>?_,fun x hx b hb=>?_⟩⟩
 ·rcases h.2 with ⟨hv,_⟩|⟨g,cap,cur,hv,_,_,h1,_⟩
  ·exact QfX
  ·exact QfX
 ·rw[List.mem_singleton] at hx;subst hx;exact Rd.of_own h
 ·rw[List.mem_singleton] at hx;subst hx
  simp only[Qb.foot] at hb;split at hb
  ·cases hb
  ·rename_i hn
   rcases h.2 with ⟨hv,_⟩|⟨g,cap,cur,hv,hg,_⟩
   ·simp only[Value.slice.injEq] at hv;exact absurd hv.2.1 hn
   ·simp only[Value.slice.injEq] at hv
    rw[hv.1] at hb;cases hb;exact hg
theorem Q1I{W:World}{xs:List UInt8}(h:Rd W W.heap.size 1 A n (bv xs))(hn:n<=1048576):Calls Tryz.prog 62 #[.slice A n c] W (MbE W xs):=by
 have hl:xs.length=n:=by have:=h.len;rw[Xr] at this;exact this
 subst hl;have HR:=Q2 h;clear h;go_enter Tryz.func62,Tryz.ntmps62;refine Qv (M:=[]) (W:=W) (N:=6) (E:=[(0,.slice A xs.length c)]) (O:=[]) ?_ (Ag.cons (Ag.nil rfl rfl) rfl) (Wd.start [] W);refine yq<|yr ?_;refine yA fun b2=>?_;refine yl<|yn<|yq<|yr<|yo zM ?_;refine Qc (Xg (fun y:Option Addr×Nat=>.slice y.1 xs.length y.2) (fun y=>xs.length<=y.2/\∀b,(Qb.rd y.1 xs.length 1 (bv xs)).foot=some b->W.heap.size<=b) (fun y=>[.blk b2 (.cells ([.int .i64 0,.int .i64 0,.slice none 0 0,.slice none 0 0,.slice none 0 0]:List Value).toArray 30 (0,0)),.rd y.1 xs.length 1 (bv xs)]) rfl rfl rfl (fun w hw=>(Q9M ((HR.out.below hw.k.below).more hw.k.size) hn).mono (fun e w' ⟨A2,c2,he,hown,hb⟩=>⟨(A2,c2),he,⟨(Q0T (W:=w) hown).1,fun b hf=>Nat.le_trans hw.k.size ((Q0T (W:=w) hown).2.far _ List.mem_cons_self b hf)⟩,hw.made hb (Q0T (W:=w) hown).2⟩))) rfl Q1 (fun y hy=>?_);refine Q4 (Xt (xs:=[(0,.const (.int .i64 2)),(2,.tmp 4)]) (vs:=[(0,.int .i64 2),(2,.slice y.1 xs.length y.2)]) (v:=.agg #[.int .i64 2,.int .i64 0,.slice y.1 xs.length y.2,.slice none 0 0,.slice none 0 0]) rfl rfl Q1 rfl rfl (fun w=>run_build w _ _ _ Q5)) ?_;refine yW 0 ?_;refine yl<|yn<|yt ?_;exact Q8 (by exact .inr rfl) rfl (RsV.blk 0 rfl rfl rfl) (fun w hw=>⟨y.1,y.2,rfl,hy.1,⟨by simp [Qb.w],fun x hx=>by rw[List.mem_singleton] at hx;subst hx;exact hw.own 1 _ rfl,fun x hx b hb=>by rw[List.mem_singleton] at hx;subst hx;exact hy.2 b hb⟩,hw.k.below⟩)
end
section
variable {res:Rdg Nat}
section
variable {P:Program}{ops:Array Oper}{Q:Exit->Act->World->Prop}{N:Nat}{E E':Env}{o:Oper}{rest:List Oper}{M:List Nat}{W:World}{O O0:List Qb}{d:Nat}{B:List PanicEntry->World->Prop}{T:List Nat}{f:Nat}{listed:Array Bool}
theorem Q2T(k:Nat)(hB:Region.ready .any ops listed=[k])(ho:ops[k]? =some o)(hT:QA M W O0 O)(h1:oE P ops (Wd M W O) N E E' o)(h2:dP P ops Q N M W O0 T B f (listed.setIfInBounds k true) E' O):dP P ops Q N M W O0 T B (f+1) listed E O:=fun hcl a ha=>by
 refine⟨fun h0=>absurd Q5M Qm,fun i hi=>?_⟩;rw[hB] at hi;rw[List.mem_singleton] at hi;subst hi;have hr':i∈Region.ready .any ops listed:=by rw[hB];exact Q6U
 have h:=h1 a ha;have key:∀{v:Value},Zf P ops (Wd M W O) o a v->Ag N E' (a.put o.dst v)->stepPn P ops (Wd M W O0) T B i a (Wd M W O) (Qai P ops (Wd M W O0) T B Q f (listed.setIfInBounds i true)):=fun hq hE=>by
  have h0:=Zf.stepPn (P:=P) (ops:=ops) (T:=T) (B:=B) (C0:=Wd M W O) (D:=Wd M W O) (K:=Qai P ops (Wd M W O0) T B Q f (listed.setIfInBounds i true)) ho hq Wd.stb Ju (h2 Q1o _ hE);unfold stepPn at h0 ⊢;simp only[ho] at h0 ⊢;rcases h0 with h0|⟨hw,ι,V,G,h1,h2,h3⟩
  ·exact .inl h0
  ·refine .inr ⟨hw,ι,V,G,h1,fun x=>⟨(h2 x).1,?_⟩,h3⟩
   rcases (h2 x).2 with hx|hx
   ·exact .inl hx
   ·exact .inr fun w hw=>hT w (hx w hw)
 split at h
 ·rename_i hw
  obtain⟨v,hv,hE⟩:=h;exact key (.inl ⟨hw,hv⟩) hE
 ·rename_i hw
  exact key QhN h
theorem QkJ(k:Nat){ι:Type}{V:ι->Value}{G:ι->List Qb}{p:ι->Prop}(hB:Region.ready .any ops listed=[k])(ho:ops[k]? =some o)(hw:Qi ops E o=some true)(h1:pE P ops N M W E O o ι V G p B)(hT:∀i,k∈T\/QA M W O0 (G i))(hd:o.dst=none)(h:∀i,p i->dP P ops Q N M W O0 T B f (listed.setIfInBounds k true) E (G i)):dP P ops Q N M W O0 T B (f+1) listed E O:=fun hcl a ha=>by
 refine⟨fun h0=>absurd Q5M Qm,fun i hi=>?_⟩;rw[hB] at hi;rw[List.mem_singleton] at hi;subst hi;have hr':i∈Region.ready .any ops listed:=by rw[hB];exact Q6U
 by_cases hne:∃w,Wd M W O w
 ·exact QcX ho ha hne h1 hT fun x hp=>h x hp Q1o _ (by rw[hd];exact ha)
 ·exact QdM hne ho J1
end
theorem Xx.belowB{W w:World}{g B:Nat}(h:Xx [g] W w)(hB:B<=g)(hg:g<W.heap.size):Below B W w:=⟨h.os,h.tape,h.output,h.size,fun k hk=>h.block k Q3 Q4j⟩
theorem QU.nilList:QU [] (.agg #[.int .i64 3,.int .i64 0,.slice none 0 0,.slice none 0 0,.slice none 0 0]) ndL .nil:=
 ⟨_,_,_,rfl,fun w _=>⟨none,0,0,none,0,0,none,0,rfl,rfl,rfl,Nat.le_refl _,Nat.le_refl _,Nat.le_refl _,Nat.zero_le _,ZC _ _ _,ZC _ _ _,fun h=>absurd h (Nat.lt_irrefl 0)⟩⟩
section
variable {W w w':World}{z:Rv}{B g p i:Nat}{F:List Rl}{D:List UInt8}{O:List Qb}{o:Obj}{e:Ending}{α:Type}{RES:Rdg α}
theorem Quw(i:Nat)(hO:O[i]? =some (.blk g o))(hw:Wd [g] W O w)(hx:∀x:Nat,res=some (.error x)->RES=some (.error x))(h:LtE z g w res e w'):Zp (fun _:Nat=>.tuple #[]) (fun y=>res=some (.ok y)) [g] W (fun y=>O.set i (.blk g (z.obj y))) (Vz RES g W) e w':=by
 obtain⟨hk,⟨x,h1,h2⟩|⟨q,h1,h2,h3⟩⟩:=h
 ·exact QcD
 ·exact .inl ⟨q,h2,h1,hw.wroteAt i hO hk h3⟩
theorem QuN(i:Nat)(hO:O[i]? =some (.blk g o))(hw:Wd [g] W O w)(hx:∀x:Nat,res=some (.error x)->RES=some (.error x))(hB:B<=g)(hg:g<W.heap.size)(h:UtE z B g D p w res e w'):Zp (fun y:Nat×Option Addr×Nat=>.slice y.2.1 ((D.drop p).take (y.1 - p)).length y.2.2) (fun y=>res=some (.ok y.1)/\Rd W B 1 y.2.1 ((D.drop p).take (y.1 - p)).length (bv ((D.drop p).take (y.1 - p)))) [g] W (fun y=>O.set i (.blk g (z.obj (y.1+1)))) (Vz RES g W) e w':=by
 obtain⟨hk,⟨x,h1,h2⟩|⟨q,A,c,h1,h2,h3,h4,h5⟩⟩:=h
 ·exact QcD
 ·exact .inl ⟨(q,A,c),h2,⟨h1,h4.back (hw.k.thenK hk) hB hg⟩,hw.wroteAt i hO hk h3⟩
theorem QkY{M:List Nat}{xs:List UInt8}(hw:Wd M W O w)(h:MbE w xs e w'):Xf (fun y:Option Addr×Nat=>.agg #[.int .i64 2,.int .i64 0,.slice y.1 xs.length y.2,.slice none 0 0,.slice none 0 0]) (fun y=>xs.length<=y.2/\∀b,(Qb.rd y.1 xs.length 1 (bv xs)).foot=some b->W.heap.size<=b) M W (fun y=>O++[.rd y.1 xs.length 1 (bv xs)]) e w':=by
 obtain⟨A,c,he,hc,hn,hb⟩:=h;exact⟨(A,c),he,⟨hc,fun b hf=>Nat.le_trans hw.k.size (hn.far _ List.mem_cons_self b hf)⟩,hw.made hb hn⟩
theorem Jb{A:Option Addr}{n s:Nat}{xs:List Value}{m:Nat}(h:(Qb.rd A n s xs).on w)(hf:∀b,(Qb.rd A n s xs).foot=some b->m<=b):New [.rd A n s xs] m w:=
 ⟨by simp [Qb.w],fun x hx=>by rw[List.mem_singleton] at hx;subst hx;exact h,fun x hx b hb=>by rw[List.mem_singleton] at hx;subst hx;exact hf b hb⟩
theorem ZV.af(h:ZV W z B g F D p)(hn:0<z.n):∃b o,z.Af=some ⟨b,o,none⟩:=by
 obtain⟨b,o,e,_⟩:=h.env.fm.2 hn;exact⟨b,o,e⟩
theorem QeM(hv:Fm F)(f:Nat){k:Int}(hk:0<=k/\k<F.length)(h:ZV W z B g F D p)(hkind:(Ql F k).kind=1\/(Ql F k).kind=2\/(Ql F k).kind=3\/(Ql F k).kind=4\/(Ql F k).kind=5):
  Calls Tryz.prog 32 #[.pointer (some ⟨g,0,none⟩),.int .i64 k] W (VlE z g W (Qq F D (f+1) k p)):=by
 have H:=Q2 h;have hwd:=h.wd;have hp:=h.hp;have hD:=h.hD;have hFn:=h.len.2;have hr:=hv.toUsd.rok hk;obtain⟨RES,hres⟩:∃x,Qq F D (f+1) k p=x:=⟨_,rfl⟩;have e1:=Qo1;have e23:=QmI;have e4:=Qkj;have e5:=Qo8;rw[hres];obtain⟨Af,As,Ad,nn,nd,cf,cs,cd⟩:=z;simp only at hFn;obtain⟨bf,of,haf⟩:=h.af YF;simp only at haf;subst haf;obtain⟨hbB,Ab,cb,An,cn,Ap,cp,hrg,hru⟩:=h.env.fm.ruleB (k:=k) Q0r;have hbg:¬bf=g:=by have:=h.hB;omega
 have hkn:0<=k/\k<(nn:Int):=by omega
 clear h hres;obtain⟨r,er⟩:∃r,Ql F k=r:=⟨_,rfl⟩;rw[er] at hkind hr hrg hru e1 e23 e4 e5;clear er;have HRK:=Q2 hr;have HRU:=Q2 hru;have hbs16:=hr.bs16;have hs4:=hr.size4;clear hru;obtain⟨name,kind,bs,size,big,mn,mx,stop,count,elem,names,parts⟩:=r;simp only[ruC] at hkind hr hrg e1 e23 e4 e5 hbs16 hs4;have HRB:=Qde;go_enter Tryz.func32,Tryz.ntmps32;haveI:Pan (bodyPost Tryz.prog Tryz.f32 (VlE ⟨some ⟨bf,of,none⟩,As,Ad,nn,nd,cf,cs,cd⟩ g W RES)) (Vz RES g W):=Pan.body fun ch w' ⟨x,h1,h2,h3⟩=>K4
 refine Qv (M:=[g]) (W:=W) (N:=181) (E:=Q6d) (O:=QdA) ?_ mc3 hwd;clear hwd;refine yq<|yr ?_;refine yB fun b2=>?_;refine yA fun b4=>?_;refine QnO ?_;refine yA fun b5=>?_;refine Q8r ?_;rcases hkind with rfl|rfl|rfl|rfl|rfl
 ·have HE:=Q2 (e1 rfl);clear e1 e23 e4 e5;refine yn<|yb<|yq<|yr<|yo zet<|yo zA<|yl<|yn<|y1<|yq<|yr<|yo (zB 2)<|yo zF<|yo (zB 0) ?_;refine Jn (Xw _ _ _ rfl rfl rfl (fun w hw=>(Q7W Q4i (HRB.out.below (hw.k.belowB H.out.hB H.out.lt)) Q3).mono (fun e w' h=>Quw 3 rfl hw Q9l h))) rfl Q1 (fun q hq=>?_);refine yl<|yn<|yq<|yr ?_;refine Q4 Qgx ?_;refine QdQ ?_;exact Q8 mc4 rfl Zi (fun w hw=>⟨hw.k,.inr ⟨ndL,.nil,q,_,[],by rw[<- HE.out,hq];rfl,rfl,hw.own 3 _ rfl,QU.nilList,New.nil _ _⟩⟩)
 ·have HE:=Q2 (e23 (.inl rfl));clear e1 e23 e4 e5;refine yn<|yb<|yq<|yr<|yo zef<|yo zA<|yl<|yn<|y0<|yq<|yq<|yr<|yo zet<|yo zA<|yl<|yn<|y1<|ys<|yn<|y1<|yq<|yr<|yo (zB 2)<|yo (zD 0) ?_;refine Jn (Xw _ _ _ rfl rfl rfl (fun w hw=>(Q21 Q4i (JX.of HRK.out (.inl rfl))).mono (fun e w' h=>Q9z 3 rfl hw Q9l h))) rfl Q1 (fun y hy=>?_);refine Q4 QnZ ?_;refine QdQ ?_;exact QrL
 ·have HE:=Q2 (e23 (.inr rfl));clear e1 e23 e4 e5;refine yn<|yb<|yq<|yr<|yo zef<|yo zA<|yl<|yn<|y0<|yq<|yq<|yr<|yo zef<|yo zA<|yl<|yn<|y0<|yr<|yo zet<|yo zA<|yl<|yn<|y1<|yq<|yr<|yo (zB 2)<|yo (zD 0) ?_;refine Jn (Xw _ _ _ rfl rfl rfl (fun w hw=>(Q21 Q4i (JX.of HRK.out (.inr rfl))).mono (fun e w' h=>Q9z 3 rfl hw Q9l h))) rfl Q1 (fun y hy=>?_);refine Q4 QnZ ?_;refine QdQ ?_;exact QrL
 ·have HE:=Q2 (e4 rfl);have hsz:=hs4 rfl;clear e1 e23 e4 e5;refine yn<|yb<|yq<|yr<|yo zef<|yo zA<|yl<|yn<|y0<|yq<|yq<|yr<|yo zef<|yo zA<|yl<|yn<|y0<|yr<|yo zef<|yo zA<|yl<|yn<|y0<|yq<|yr<|yo zet<|yo zA<|yl<|yn<|y1<|yq<|yr<|yo (zB 2)<|yo zF<|yo (zB 0) ?_;refine Jn (Xw _ _ _ rfl rfl rfl (fun w hw=>(Q2n Q4i (n:=size) Q3 Q3).mono (fun e w' h=>QeJ 3 rfl hw Q9l H.out.hB H.out.lt h))) rfl Q1 (fun y hy=>?_);refine Qc QqC rfl Q1 (fun u hu=>?_);refine QdQ ?_;exact Q8 mc4 rfl Zi (fun w hw=>⟨hw.k,.inr ⟨ndB y.1.1,.nil,y.1.2,_,_,by rw[<- HE.out,hy.1];rfl,rfl,hw.own 3 _ rfl,QU.bytes hu.1,Jb Q7r hu.2⟩⟩)
 ·have HE:=Q2 (e5 rfl);clear e1 e23 e4 e5;refine yn<|yb<|yq<|yr<|yo zef<|yo zA<|yl<|yn<|y0<|yq<|yq<|yr<|yo zef<|yo zA<|yl<|yn<|y0<|yr<|yo zef<|yo zA<|yl<|yn<|y0<|yq<|yr<|yo zef<|yo zA<|yl<|yn<|y0<|yq<|yr<|yo zef<|yo zA<|yl<|yn<|y0<|yq<|yr<|yo zet<|yo zA<|yl<|yn<|y1<|yq<|yr<|yo (zB 2)<|yo (zD 0) ?_;refine Jn (Xw _ _ _ rfl rfl rfl (fun w hw=>(Qdd Q4i (r:=⟨name,5,bs,size,big,mn,mx,stop,count,elem,names,parts⟩)).mono (fun e w' h=>QuN 3 rfl hw Q9l H.out.hB H.out.lt h))) rfl Q1 (fun y hy=>?_);refine Qc (Xg _ _ _ rfl rfl rfl (fun w hw=>(Q1I ((hy.2.below (hw.k.belowB H.out.hB H.out.lt)).more (by have:=H.out.hB;have:=H.out.lt;have:=hw.k.size;omega)) Qhz).mono (fun e w' h=>QkY hw h))) rfl Q1 (fun u hu=>?_);refine QdQ ?_;exact Q8 mc4 rfl Zi (fun w hw=>⟨hw.k,.inr ⟨ndB ((D.drop p).take (y.1 - p)),.nil,y.1+1,_,_,by rw[<- HE.out,hy.1];rfl,rfl,hw.own 3 _ rfl,QU.bytes hu.1,Jb Q7r hu.2⟩⟩)
end
end
section
variable {W w w':World}{z:Rv}{B g p i:Nat}{F:List Rl}{D:List UInt8}{O:List Qb}{o:Obj}{e:Ending}{α:Type}{RES:Rdg α}
theorem QmM(hv:Fm F)(f:Nat){k:Int}(hk:0<=k/\k<F.length)(h:ZV W z B g F D p)(hkind:(Ql F k).kind=10):
  Calls Tryz.prog 32 #[.pointer (some ⟨g,0,none⟩),.int .i64 k] W (VlE z g W (Qq F D (f+1) k p)):=by
 have H:=Q2 h;have hwd:=h.wd;have hp:=h.hp;have hD:=h.hD;have hFn:=h.len.2;have hr:=hv.toUsd.rok hk;obtain⟨RES,hres⟩:∃x,Qq F D (f+1) k p=x:=⟨_,rfl⟩;have e10:=(QdX (F:=F) (D:=D) (f:=f) (p:=p) (k:=k) hkind).symm.trans hres;have hno:=hv.numOk hk Q96;have hcnt:=hr.count Q96;rw[hres];obtain⟨Af,As,Ad,nn,nd,cf,cs,cd⟩:=z;simp only at hFn;obtain⟨bf,of,haf⟩:=h.af YF;simp only at haf;subst haf;obtain⟨hbB,Ab,cb,An,cn,Ap,cp,hrg,hru⟩:=h.env.fm.ruleB (k:=k) Q0r;have hbg:¬bf=g:=by have:=h.hB;omega
 have hkn:0<=k/\k<(nn:Int):=by omega
 clear h hres;obtain⟨r,er⟩:∃r,Ql F k=r:=⟨_,rfl⟩;rw[er] at hkind hr hrg hru e10 hcnt hno;clear er;have HRK:=Q2 hr;have HRU:=Q2 hru;obtain⟨hbB2,Ab2,cb2,An2,cn2,Ap2,cp2,hrg2,hru2⟩:=H.out.env.fm.ruleB (k:=r.count) Q0r;have HRU2:=Q2 hru2;have HNO:=Q2 hno;clear hru hru2 hno;obtain⟨name,kind,bs,size,big,mn,mx,stop,count,elem,names,parts⟩:=r;simp only[ruC] at hkind hr hrg e10 hcnt hrg2;have HRB:=Qde;go_enter Tryz.func32,Tryz.ntmps32;haveI:Pan (bodyPost Tryz.prog Tryz.f32 (VlE ⟨some ⟨bf,of,none⟩,As,Ad,nn,nd,cf,cs,cd⟩ g W RES)) (Vz RES g W):=Pan.body fun ch w' ⟨x,h1,h2,h3⟩=>K4
 refine Qv (M:=[g]) (W:=W) (N:=181) (E:=Q6d) (O:=QdA) ?_ mc3 hwd;clear hwd;refine yq<|yr ?_;refine yB fun b2=>?_;refine yA fun b4=>?_;refine QnO ?_;refine yA fun b5=>?_;refine Q8r ?_;subst hkind;have HE:=Q2 e10;clear e10;refine yn<|yb<|yq<|yr<|yo zef<|yo zA<|yl<|yn<|y0<|yq<|yq<|yr<|yo zef<|yo zA<|yl<|yn<|y0<|yr<|yo zef<|yo zA<|yl<|yn<|y0<|yq<|yr<|yo zef<|yo zA<|yl<|yn<|y0<|yq<|yr<|yo zet<|yo zA<|yl<|yn<|y1<|yq ?_;refine YB (B:=Vz RES g W) [.blk b2 (.cells #[.pointer Q7E] 56 (0,0)),.blk b5 (.cells (Qtn:List Value).toArray 65 (0,0))] [] Q5 ?_ ?_
 ·infer_instance
 refine Z9 0 rfl Q5 ZM (zB 0) ?_;refine Z9 1 rfl Q5 ZM (zB 0) ?_;refine Z9 2 rfl Q5 ZM (zB 0) ?_;refine Z9 3 rfl Q5 ZM mc5 ?_;refine Z9 4 rfl Q5 ZM zF ?_;refine Z9 5 rfl Q5 ZM zF ?_;refine Z9 7 rfl Q5 ZM zF ?_;refine Z9 8 rfl Q5 ZM (zB 1) ?_;refine Q2T 6 Q5 rfl ZM (zB 3) ?_;refine Q2T 9 Q5 rfl ZM QsR ?_;refine Q2T 10 Q5 rfl ZM Qu2 ?_;refine Q2A 11 Q5 rfl rfl Qrf Q6K rfl Q1 (fun x hx=>?_);have hx1:=J5 HNO.out.numK hp hx;have hx2:=Q3B HNO.out hp hx;refine Q2A 12 Q5 rfl rfl (Xw _ _ _ rfl rfl rfl (fun w hw=>(Q2n (H.out.next hw.k hx1.2 (hw.own 3 _ rfl)) (n:=x.1) Q3 Q3).mono (fun e w' h=>QeJ 3 rfl hw (fun v hv=>by rw[<- HE.out,Q55 hx];exact Qvk hv) H.out.hB H.out.lt h))) Q6K rfl Q1 (fun y hy=>?_);refine Q2A 13 Q5 rfl rfl (pE.of QqC) Q6K rfl Q1 (fun u hu=>?_);refine QkJ 14 Q5 rfl rfl (pE.of KI) Q6K rfl (fun _ _=>?_);rw[QE (by rfl)];refine Qht ?_ Q5;refine yn<|yt<|yk<|yc ?_;exact Q8 mc4 rfl Zi (fun w hw=>⟨hw.k,.inr ⟨ndB y.1.1,.nil,y.1.2,_,_,by rw[<- HE.out,Q55 hx];exact Q55 hy.1,rfl,hw.own 3 _ rfl,QU.bytes hu.1,Jb Q7r hu.2⟩⟩)
end
section
variable {A:Option Addr}{W w:World}{b c n s:Nat}{e:TypeId}{xs:List Value}
def Qn3(W:World)(l:List Int)(p:Int×Int)(e:Ending)(w':World):Prop:=∃A c,e=.returned (.tuple #[.slice A l.length c,.agg #[.int .i64 p.1,.int .i64 p.2]])/\(Qb.rd A l.length 1 (iv l)).on w'/\(∀b,(Qb.rd A l.length 1 (iv l)).foot=some b->W.heap.size<=b)/\l.length<=c/\Below W.heap.size W w'
theorem Q3h(h:(Qb.row A n c e s xs).on w)(hb:(Qb.rd A n s xs).foot=some b):(Qb.row A n c e s xs).foot=some b:=by
 have h':w.ownsRow 0 e s (.slice A n c) n xs:=h;simp only[Qb.foot] at hb ⊢;split at hb
 ·cases hb
 ·rename_i hn
  rcases h'.2 with ⟨hv,_⟩|⟨g,cap,cur,hv,_⟩
  ·simp only[Value.slice.injEq] at hv
   exact absurd hv.2.1 hn
  ·rw[hv]
   simp only[Value.slice.injEq] at hv;rw[hv.1] at hb;exact hb
theorem Wd.newRow{O:List Qb}{i:Nat}(h:Wd [] W O w)(hO:O[i]? =some (.row A n c e s xs))(hb:(Qb.rd A n s xs).foot=some b):W.heap.size<=b:=by
 rcases Nat.lt_or_ge b W.heap.size with hl|hl
 ·have:=h.new i _ b hO (Q3h (h.own i _ hO) hb) hl
  exact Q2f
 ·exact hl
theorem QaV{F:List Rl}{k:Int}(hf:QW W W.heap.size A n F)(hs:FSm F)(hc:n<=c)(hg:GV W):
  Calls Tryz.prog 23 #[.agg #[.slice A n c],.int .i64 k] W (Qn3 W (Q1V F k) (Q5e F k)):=by
 have hlen:F.length=n:=hf.1;have HFM:=Q2 hf;have HS:=Q2 hs;have HG:=Q2 hg;have HLEN:=Q2 hlen;clear hf hs hg hlen;obtain⟨⟨a,b⟩,hab⟩:∃p,Q5e F k=p:=⟨_,rfl⟩;have HC:=Q2 hab;rw[hab];clear hab;go_enter Tryz.func23,Tryz.ntmps23;refine Qv (M:=[]) (W:=W) (N:=34) (E:=[Yf,Q8k]) (O:=[]) ?_ mc3 QT;by_cases hz:a=0/\b=0
 case neg=>
  have hne:(!(a==0&&b==0))=true:=by
   refine Qbw ?_;omega
  repeat(first|refine Q4 zM ?_|refine Q4 zA ?_|refine Q4 (zD 0) ?_|refine Q4 (zD 1) ?_|refine Qc YR rfl Q1 (fun bf _=>?_)|refine Qc Q4r rfl Q1 (fun b2 _=>?_)|(refine Q4 Qrk ?_)|(refine QD Yp rfl (fun _ _=>?_);rw[QE (by rfl)])|refine Q4 mc6 ?_|refine Q4 Qho ?_|refine Qd ?_|refine Qa ?_|refine Q6 ?_|refine Q9 rfl ?_)
  refine QtO ?_;refine QK 2 Q5 rfl rfl KI Vx rfl (fun _ _=>?_);rw[QE (by rfl)];refine Xn ?_ Q5;refine QB (Qk ?_);have hff:Q1V F k=[]:=by
   unfold Q1V;rw[HC.out,if_neg (fun h=>hz (by simpa using h))]
  rw[hff];exact V9 mc4 rfl (.tmp rfl) Zi (fun w hw=>⟨none,0,rfl,⟨rfl,fun h=>absurd h Q1⟩,fun b hb=>(by simp [Qb.foot] at hb),Nat.le_refl _,hw.k.below⟩)
 case pos=>
  obtain⟨rfl,rfl⟩:=hz;have hff:Q1V F k=V0 F k:=by
   unfold Q1V;rw[HC.out,if_pos rfl]
  rw[hff];clear hff;obtain⟨hfa,hk0,hkn⟩:=Qv8 HC.out;have hch:=Qja hfa;have hlo:=Qep hch;have hn0:=hlo.1;have hn40:=hlo.2;rw[HLEN.out] at hn0 hn40 hkn;have HF:=Q2 (Q6Q hch).fok;clear hlo hch hfa;obtain⟨st,hst⟩:∃st,(V4 F).getD k.toNat Xu=st:=⟨_,rfl⟩;unfold V0;rw[hst];have HST:=Q2 hst;clear hst;have hk2:0<=k/\k<(n:Int):=⟨hk0,hkn⟩;repeat(first|refine Q4 zM ?_|refine Q4 zA ?_|refine Q4 (zD 0) ?_|refine Q4 (zD 1) ?_|refine Q4 (zD 2) ?_|refine Qc YR rfl Q1 (fun bf _=>?_)|refine Qc Q4r rfl Q1 (fun b2 _=>?_)|(refine Q4 Qrk ?_)|(refine QD Yp rfl (fun _ _=>?_);rw[QE (by rfl)])|refine Q4 mc6 ?_|refine Q4 Qha ?_|refine Qc Qtp rfl Q1 (fun y _=>?_)|refine Q4 (Qz rfl rfl Q1 rfl rfl rfl hk2) ?_|(refine Q4 (X7 (cs:=QJ st) rfl rfl Q1 rfl rfl (fun w hw=>by rw[<- HST.out];exact Qvi Q6c ((Q68 F).trans HLEN.out) Q3) (X3 _)) ?_)|refine Qd ?_|refine Qa ?_|refine Q6 ?_|refine Qt ?_|refine Q7 rfl ?_|refine Qh ?_)
  rename_i b3 _ _ _ _ _;refine QbN 3 1 ?_;refine QH (ι:=Nat×Option Addr×Nat) (fun y=>y.1<=256) (fun y=>256 - y.1) (fun y=>[(5,.pointer (some ⟨b3,0,none⟩)),(7,.slice y.2.1 (Vn st y.1).length y.2.2),(21,.agg (QJ st).toArray),(22,.int .i64 (y.1:Int))]) (fun y=>[.row y.2.1 (Vn st y.1).length y.2.2 3 1 (iv (Vn st y.1)),.blk b3 Qtm]) (0,none,0) [0,3] Q1 XY mc1 rfl ?_;rintro⟨i,A',c'⟩ hi;have hi':i<=256:=hi;clear hi;have hsl:=Qkb st i;show sE _ _ _ _ _ [(5,.pointer (some ⟨b3,0,none⟩)),(7,.slice A' (Vn st i).length c'),(21,.agg (QJ st).toArray),(22,.int .i64 (i:Int))] [.row A' (Vn st i).length c' 3 1 (iv (Vn st i)),.blk b3 Qtm] _;by_cases hin:i<256
  ·obtain⟨s,hs⟩:∃s,st i=s:=⟨_,rfl⟩
   have hcell:(QJ st)[i]? =some (.bool s):=by rw[ZF st hin,hs]
   have HSI:=Q2 hs;clear hs;cases s with
   |true=>
    repeat(first|refine Q4 zM ?_|refine Q4 zA ?_|refine Q4 (Q2S (v:=.bool true) rfl rfl Q1 rfl rfl rfl hin hcell) ?_|refine Qc (ZZ (size:=1) (cs:=[.int .i64 (i:Int)]) rfl rfl rfl rfl rfl Q1) rfl Q1 (fun bn _=>?_)|refine Qc (J4 (news:=[.int .i64 (i:Int)]) 1 rfl rfl rfl rfl rfl QbG Q9R Q3) rfl Q1 (fun yz _=>?_)|refine Qd ?_|refine Qa ?_|refine Q6 ?_|refine Qt ?_|refine Q9 rfl ?_|refine Qh ?_|refine Q4 zlt ?_|refine Q4 zP ?_)
    refine Qr (i+1,yz.1,yz.2) [1,2] Q1 hin QtK (.cons rfl rfl (.cons rfl ?_ (.cons rfl rfl Qdx))) ?_
    ·rw[<- Qdi HSI.out,List.length_append]
     rfl
    ·show [Qb.row yz.1 ((Vn st i).length+1) yz.2 _ _ (iv (Vn st i)++iv [(i:Int)]),_]=[Qb.row yz.1 (Vn st (i+1)).length yz.2 _ _ (iv (Vn st (i+1))),_]
     rw[<- Qdi HSI.out,List.length_append,QmW];rfl
   |false=>
    have hno:=QpJ HSI.out;repeat(first|refine Q4 zM ?_|refine Q4 zA ?_|refine Q4 (Q2S (v:=.bool false) rfl rfl Q1 rfl rfl rfl hin hcell) ?_|refine Qd ?_|refine Qa ?_|refine Q6 ?_|refine Qt ?_|refine Q9 rfl ?_|refine Q7 rfl ?_|refine Qh ?_|refine Q4 zlt ?_|refine Q4 zP ?_)
    refine Qr (i+1,A',c') [0,1] Q1 hin QtK (.cons rfl rfl (.cons rfl ?_ (.cons rfl rfl Qdx))) ?_
    ·rw[<- hno]
    ·show [Qb.row A' (Vn st i).length c' _ _ (iv (Vn st i)),_]=[Qb.row A' (Vn st (i+1)).length c' _ _ (iv (Vn st (i+1))),_]
     rw[<- hno];rfl
  ·obtain rfl:i=256:=by omega
   repeat(first|refine Q4 zM ?_|refine Q4 zA ?_|refine Q4 mc6 ?_|(refine QD KI rfl (fun _ _=>?_);rw[QE (by rfl)])|refine Qd ?_|refine Qa ?_|refine Q6 ?_|refine Q7 rfl ?_|refine XK ?_|refine QB ?_|refine Q4 zlf ?_)
   exact V9 mc4 rfl (.tmp rfl) Zi (fun w hw=>⟨A',c',rfl,(row_rd Q6c Q1).1,fun b hb=>Wd.newRow (i:=0) hw rfl hb,(row_rd Q6c Q1).2,hw.k.below⟩)
end
section
variable {A:Option Addr}{c m n s:Nat}{t:TypeId}{xs:List Value}
def KU(L:List Qb)(m:Nat):Prop:=∀x∈L,x.w=false/\∀b,x.foot=some b->m<=b
theorem KU.nil(m:Nat):KU [] m:=fun x hx=>by cases hx
theorem KU.app{L L':List Qb}(h:KU L m)(h':KU L' m):KU (L++L') m:=fun x hx=>(List.mem_append.1 hx).elim (h x) (h' x)
theorem KU.new{L:List Qb}{w:World}(h:KU L m)(hw:∀x∈L,x.on w):New L m w:=⟨fun x hx=>(h x hx).1,hw,fun x hx=>(h x hx).2⟩
section
variable {M:List Nat}{W w w':World}{z:Rv}{B g p i:Nat}{F:List Rl}{D:List UInt8}{O L:List Qb}{o o':Obj}{e:Ending}{α:Type}{RES:Rdg α}
theorem Wd.wroteAtL(i:Nat)(h:Wd M W O w)(hO:O[i]? =some (.blk g o))(hk:Xx [g] w w')(ho:w'.heap[g]? =some o')(hL:New L w.heap.size w'):Wd M W (O.set i (.blk g o')++L) w':=by
 refine(h.wroteAt i hO hk ho).addL (m:=w.heap.size) h.k.size (fun x hx b hb=>?_) hL;rcases List.mem_or_eq_of_mem_set hx with hx|rfl
 ·exact(h.onAll x hx).lt hb
 ·cases hb
  exact(Array.getElem?_eq_some_iff.1 (h.own i _ hO)).1
structure Vy where
 r:Nd×VF×Nat
 Ab:Option Addr
 nb:Nat
 cb:Nat
 An:Option Addr
 nn:Nat
 cn:Nat
 Ap:Option Addr
 np:Nat
 cp:Nat
 L:List Qb
abbrev Vy.cells(y:Vy):List Value:=[.int .i64 y.r.1.k,.int .i64 y.r.1.n,.slice y.Ab y.nb y.cb,.slice y.An y.nn y.cn,.slice y.Ap y.np y.cp]
theorem Q9J{res:Rdg (Nd×VF×Nat)}(i:Nat)(hO:O[i]? =some (.blk g o))(hw:Wd [g] W O w)(hx:∀x:Nat,res=some (.error x)->RES=some (.error x))(h:VlE z g w res e w'):Zp (fun y:Vy=>.agg (y.cells).toArray) (fun y=>res=some (.ok y.r)/\QU y.L (.agg (y.cells).toArray) y.r.1 y.r.2.1/\KU y.L W.heap.size) [g] W (fun y=>O.set i (.blk g (z.obj y.r.2.2))++y.L) (Vz RES g W) e w':=by
 obtain⟨hk,⟨x,h1,h2⟩|⟨d,l,q,v,L,h1,h2,h3,h4,h5⟩⟩:=h
 ·exact QcD
 ·obtain⟨sb,sn,sp,rfl,hd⟩:=h4.vin h5.on;obtain⟨Ab,nb,cb,An,nn,cn,Ap,cp,rfl,rfl,rfl,_⟩:=hd;exact .inl ⟨⟨(d,l,q),Ab,nb,cb,An,nn,cn,Ap,l.len,cp,L⟩,h2,QtV,hw.wroteAtL i hO hk h3 h5⟩
theorem Q32(i j:Nat)(hw:Wd [g] W O w)(hO:O[i]? =some (.row A n c t s xs))(hg:O[j]? =some (.blk g o))(hij:i≠j):New [.rd A n s xs] W.heap.size w:=by
 refine Jb (Rd.of_own Q4X) fun b hb=>?_;rcases Nat.lt_or_ge b W.heap.size with hl|hl
 ·have hf:=Q3h Q4X hb;have h1:b∈[g]:=hw.new i _ b hO hf hl;rw[List.mem_singleton] at h1;subst h1;exact absurd (hw.nd i j _ _ b hO hg hf rfl rfl) hij
 ·exact hl
theorem XV(i:Nat)(hw:Wd M W O w)(hO:O[i]? =some (.row A n c t s xs)):n<=c/\c<=maxLen:=by
 have h:w.ownsRow 0 t s (.slice A n c) n xs:=hw.own i _ hO;rcases h.2 with ⟨hv,h0⟩|⟨g,cap,cur,hv,_,hg,h1,h2,_,ht⟩
 ·simp only[Value.slice.injEq] at hv
  omega
 ·simp only[Value.slice.injEq] at hv
  omega
theorem Q64{one:Nat->Rdg (Nd×VF×Nat)}{A:VF}{p:Nat}{γ:Type}{gg:VF×Nat->Rdg γ}(h:∃r,rb (Jh one A (n+1) p) gg=some r):∃y,one p=some y:=by
 obtain⟨r,h⟩:=h;cases h1:one p with
 |none=>unfold Jh at h;rw[Jv,h1] at h;cases h
 |some y=>exact⟨y,rfl⟩
theorem Q2K(y:Vy)(w:World):(Instr.buildSlice 28 1 #[(0,.agg (y.cells).toArray)]).run Tryz.prog w=.ok (.slice (some ⟨w.heap.size,0,none⟩) 1 1) (w.alloc (.cells (y.cells).toArray 30)):=by
 have hT:SlT Tryz.prog 28 30 5 88:=Qke;obtain⟨i,z,hi,hz,hsz,hby,hzs⟩:=hT.info;refine run_buildSlice w _ _ 1 _ (y.cells).toArray i z hT.und hi hz Ye Ye ?_;rw[hsz];have hZ:∀Z:Array Value,Z.size=5->Instr.fill (fun i=>some (i*5,5)) Z [(0,.agg (y.cells).toArray)]=some (y.cells).toArray:=by
  rintro⟨l⟩ h;match l,h with
  |[z0,z1,z2,z3,z4],_=>rfl
 exact hZ _ Qm
end
end
section
variable {W w w':World}{z:Rv}{B g p i:Nat}{F:List Rl}{D:List UInt8}{O:List Qb}{o:Obj}{e:Ending}{α:Type}{RES:Rdg α}{k:Int}
def IHv(z:Rv)(B g:Nat)(F:List Rl)(D:List UInt8)(f:Nat):Prop:=∀(W:World) (k:Int) (p:Nat),0<=k/\k<F.length->ZV W z B g F D p->(∃y,Qq F D f k p=some y)->Calls Tryz.prog 32 #[.pointer (some ⟨g,0,none⟩),.int .i64 k] W (VlE z g W (Qq F D f k p))
structure El where
 A:VF
 cs:List Value
 Ar:Option Addr
 c:Nat
 L:List Qb
 q:Nat
 n:Nat
theorem Qpq(hv:Fm F)(f:Nat)(IH:IHv z B g F D f)(hsome:∃y,Qq F D (f+1) k p=some y)(hk:0<=k/\k<F.length)(h:ZV W z B g F D p)(hkind:(Ql F k).kind=6):
  Calls Tryz.prog 32 #[.pointer (some ⟨g,0,none⟩),.int .i64 k] W (VlE z g W (Qq F D (f+1) k p)):=by
 have H:=Q2 h;have hwd:=h.wd;have hp:=h.hp;have hD:=h.hD;have hFn:=h.len.2;have hr:=hv.toUsd.rok hk;obtain⟨RES,hres⟩:∃x,Qq F D (f+1) k p=x:=⟨_,rfl⟩;have e6:=(Qgj (F:=F) (D:=D) (f:=f) (p:=p) (k:=k) hkind).symm.trans hres;have hno:=hv.numOk hk K3;have hcnt:=hr.count K3;have hel:=hr.elem K3;rw[hres] at hsome ⊢;have HS:=Q2 hsome;have HIH:=Q2 IH;obtain⟨Af,As,Ad,nn,nd,cf,cs,cd⟩:=z;simp only at hFn;obtain⟨bf,of,haf⟩:=h.af YF;simp only at haf;subst haf;obtain⟨hbB,Ab,cb,An,cn,Ap,cp,hrg,hru⟩:=h.env.fm.ruleB (k:=k) Q0r;have hbg:¬bf=g:=by have:=h.hB;omega
 have hkn:0<=k/\k<(nn:Int):=by omega
 clear h hres hsome IH;have hfar:Far (Qq F D f (Ql F k).elem) D.length:=QfN;obtain⟨r,er⟩:∃r,Ql F k=r:=⟨_,rfl⟩;rw[er] at hkind hr hrg hru e6 hcnt hel hno hfar;clear er;have HRK:=Q2 hr;have HRU:=Q2 hru;obtain⟨hbB2,Ab2,cb2,An2,cn2,Ap2,cp2,hrg2,hru2⟩:=H.out.env.fm.ruleB (k:=r.count) Q0r;have HRU2:=Q2 hru2;have HNO:=Q2 hno;clear hru hru2 hno;obtain⟨name,kind,bs,size,big,mn,mx,stop,count,elem,names,parts⟩:=r;simp only[ruC] at hkind hr hrg e6 hcnt hel hrg2 hfar;have HRB:=Qde;go_enter Tryz.func32,Tryz.ntmps32;haveI:Pan (bodyPost Tryz.prog Tryz.f32 (VlE ⟨some ⟨bf,of,none⟩,As,Ad,nn,nd,cf,cs,cd⟩ g W RES)) (Vz RES g W):=Pan.body fun ch w' ⟨x,h1,h2,h3⟩=>K4
 refine Qv (M:=[g]) (W:=W) (N:=181) (E:=Q6d) (O:=QdA) ?_ mc3 hwd;clear hwd;refine yq<|yr ?_;refine yB fun b2=>?_;refine yA fun b4=>?_;refine QnO ?_;refine yA fun b5=>?_;refine Q8r ?_;subst hkind;have HE:=Q2 e6;clear e6;refine yn<|yb<|yq<|yr<|yo zef<|yo zA<|yl<|yn<|y0<|yq<|yq<|yr<|yo zef<|yo zA<|yl<|yn<|y0<|yr<|yo zef<|yo zA<|yl<|yn<|y0<|yq<|yr<|yo zef<|yo zA<|yl<|yn<|y0<|yq<|yr<|yo zef<|yo zA<|yl<|yn<|y0<|yq<|yr<|yo zef<|yo zA<|yl<|yn<|y0<|yq<|yr<|yo zet<|yo zA<|yl<|yn<|y1<|yq<|yr<|yo zA<|yl<|yn<|yq<|yq ?_;refine YB (B:=Vz RES g W) [.blk b2 (.cells #[.pointer Q7E] 56 (0,0)),.blk b5 QgY] [] Q5 ?_ ?_
 ·infer_instance
 refine Z9 0 rfl Q5 ZM (zB 0) ?_;refine Z9 1 rfl Q5 ZM (zB 0) ?_;refine Z9 2 rfl Q5 ZM mc5 ?_;refine Z9 3 rfl Q5 ZM zF ?_;refine Z9 4 rfl Q5 ZM zF ?_;refine Z9 6 rfl Q5 ZM zF ?_;refine Z9 7 rfl Q5 ZM (zB 1) ?_;refine Q2T 5 Q5 rfl ZM (zB 3) ?_;refine Q2T 8 Q5 rfl ZM QsR ?_;refine Q2T 9 Q5 rfl ZM Qu2 ?_;refine Q2A 10 Q5 rfl rfl Qrf Q6K rfl Q1 (fun x hx=>?_);refine Q2T 11 Q5 rfl ZM zA ?_;refine Qht ?_ Q5;have hx1:=J5 HNO.out.numK hp hx;have hx2:=Q3B HNO.out hp hx;have HX:=Q2 (show RES=rb (Jh Qbf .nil x.1.toNat x.2) fun z=>okR Q6v by rw[<- HE.out,Q55 hx,Q2G]);refine yn<|yb ?_;refine Xe (ι:=El) (fun y=>ZY y.L y.cs y.A/\KU y.L W.heap.size/\y.q<=D.length/\y.A.len+y.n<=4294967296/\RES=rb (Jh Qbf y.A y.n y.q) fun z=>okR Q6v) (fun y=>y.n) (fun y=>[Q40,Q3n,Qqb,(6,.slice y.Ar y.A.len y.c),(7,.int .i64 (y.n:Int))]) (fun y=>.row y.Ar y.A.len y.c 30 5 y.cs::.blk b5 QgY::.blk b4 QhE::.blk b2 Q9c::.blk g Qrx::y.L) ⟨.nil,[],none,0,[],x.2,x.1.toNat⟩ ⟨.nil,.nil _,hx1.2,by show 0+x.1.toNat<=_;omega,HX.out⟩ J9 Qcy ?_;rintro⟨A,cs',Ar,c,L,q,n⟩ ⟨hF,hL,hq,hn,hres⟩;replace hn:A.len+n<=4294967296:=hn;replace hq:q<=D.length:=hq;have HF:=Q2 hF;have HL:=Q2 hL;have HR:=Q2 hres;clear hF hL hres;show sE _ _ _ _ _ [Q40,Q3n,Qqb,(6,.slice Ar A.len c),(7,.int .i64 (n:Int))] (.row Ar A.len c 30 5 cs'::.blk b5 QgY::.blk b4 QhE::.blk b2 Q9c::.blk g Qrb::L) _;cases n with
 |zero=>
  have HZ:=Q2 (show RES=some (.ok (ndL,A,q)) by rw[HR.out,Q60];rfl);refine yq<|yq<|yr<|yo zM<|yo zgf<|yl<|yn<|y0<|ye<|yn<|yq<|yr<|yo zM ?_;refine Q4 Qgx ?_;refine yW 2 ?_;refine yl<|yn<|yt<|yk<|yc ?_;refine Q8 mc4 rfl Q0t (fun w hw=>⟨hw.k,.inr ⟨ndL,A,q,_,.rd Ar A.len 5 cs'::L,HZ.out,rfl,hw.own 4 _ rfl,QU.list HF.out (XV 0 hw rfl).1 (XV 0 hw rfl).2,?_⟩⟩);exact(Q32 0 4 hw rfl rfl Q1).app Qdz
 |succ n=>
  obtain⟨q1,hy1⟩:=Q64 (one:=Qq F D f elem) (A:=A) (n:=n) (p:=q) (gg:=fun z:VF×Nat=>okR Q6v) Qhq;have HY:=Q2 hy1;clear hy1;refine yq<|yq<|yr<|yo zM<|yo zgt<|yl<|yn<|y1<|ys<|yn<|yq<|yb<|yr<|yo zM<|yo (zB 3)<|yo zF<|yo (zB 1) ?_;refine Jn (Xw _ _ _ rfl rfl rfl (fun w hw=>(HIH.out w elem q hel (H.out.next hw.k hq Q7r) ⟨q1,HY.out⟩).mono (fun e w' h=>Q9J 4 rfl hw (fun x hx=>by rw[HR.out,Q8Z hx];rfl) h))) rfl Q1 (fun y hy=>?_);refine Qc (Zj (xs:=[(0,.tmp 89)]) (vs:=Qh1) (cells:=y.cells) rfl rfl rfl (Q2K y)) rfl Q1 (fun bn _=>?_);refine Qc Qtu rfl Q1 (fun z _=>?_);refine yo zA<|yl<|yn<|yr<|yo zM<|yo zQ<|yo zA<|yl ?_;refine Qu Qkd ⟨HF.out.snoc hy.2.1,HL.out.app hy.2.2,(hfar q y.r hq hy.1).2,by show (A.snoc _ _).len+n<=_;rw[VF.len_snoc];omega,by rw[HR.out,Q8I hy.1]⟩ QaO (.cons rfl rfl (.cons rfl rfl (.cons rfl rfl (.cons rfl (by rw[VF.len_snoc]) (.cons rfl (congrArg (Value.int .i64) (show ((n+1:Nat):Int) - 1=(n:Int) by omega)) .nil))))) (fun w hw=>?_);have h:=hw.tl;exact Qau
end
section
variable {W w w':World}{z:Rv}{B g p i:Nat}{F:List Rl}{D:List UInt8}{O:List Qb}{o:Obj}{e:Ending}{α:Type}{RES:Rdg α}{k:Int}
theorem Q8T{one:Nat->Rdg (Nd×VF×Nat)}{A:VF}{n p:Nat}{stop:Int}{c:UInt8}{γ:Type}{gg:VF×Nat->Rdg γ}(hc:D[p]? =some c)(hs:¬(c.toNat:Int)=stop)(h:∃r,rb (Vv one D stop A (n+1) p) gg=some r):∃y,one p=some y:=by
 obtain⟨r,h⟩:=h;cases h1:one p with
 |none=>
  unfold Vv at h;rw[Vh,hc] at h;simp only at h;rw[if_neg hs,h1] at h;cases h
 |some y=>exact⟨y,rfl⟩
theorem QpD(hv:Fm F)(f:Nat)(IH:IHv z B g F D f)(hsome:∃y,Qq F D (f+1) k p=some y)(hk:0<=k/\k<F.length)(h:ZV W z B g F D p)(hkind:(Ql F k).kind=9):
  Calls Tryz.prog 32 #[.pointer (some ⟨g,0,none⟩),.int .i64 k] W (VlE z g W (Qq F D (f+1) k p)):=by
 have H:=Q2 h;have hwd:=h.wd;have hp:=h.hp;have hD:=h.hD;have hFn:=h.len.2;have hr:=hv.toUsd.rok hk;obtain⟨RES,hres⟩:∃x,Qq F D (f+1) k p=x:=⟨_,rfl⟩;have e9:=Qm7;have hel:=hr.elem Q96;rw[hres] at hsome ⊢;have HS:=Q2 hsome;have HIH:=Q2 IH;obtain⟨Af,As,Ad,nn,nd,cf,cs,cd⟩:=z;simp only at hFn;obtain⟨bf,of,haf⟩:=h.af YF;simp only at haf;subst haf;obtain⟨hbB,Ab,cb,An,cn,Ap,cp,hrg,hru⟩:=h.env.fm.ruleB (k:=k) Q0r;have hbg:¬bf=g:=by have:=h.hB;omega
 have hkn:0<=k/\k<(nn:Int):=by omega
 clear h hres hsome IH;have hfar:Far (Qq F D f (Ql F k).elem) D.length:=QfN;obtain⟨r,er⟩:∃r,Ql F k=r:=⟨_,rfl⟩;rw[er] at hkind hr hrg hru e9 hel hfar;clear er;have HRK:=Q2 hr;have HRU:=Q2 hru;clear hru;obtain⟨name,kind,bs,size,big,mn,mx,stop,count,elem,names,parts⟩:=r;simp only[ruC] at hkind hr hrg e9 hel hfar;have HRB:=Qde;go_enter Tryz.func32,Tryz.ntmps32;haveI:Pan (bodyPost Tryz.prog Tryz.f32 (VlE ⟨some ⟨bf,of,none⟩,As,Ad,nn,nd,cf,cs,cd⟩ g W RES)) (Vz RES g W):=Pan.body fun ch w' ⟨x,h1,h2,h3⟩=>K4
 refine Qv (M:=[g]) (W:=W) (N:=181) (E:=Q6d) (O:=QdA) ?_ mc3 hwd;clear hwd;refine yq<|yr ?_;refine yB fun b2=>?_;refine yA fun b4=>?_;refine QnO ?_;refine yA fun b5=>?_;refine Q8r ?_;subst hkind;have HE:=Q2 e9;clear e9;have HX:=Q2 (show RES=rb (Vv Qbf D stop .nil (D.length+1) p) fun z=>okR Q6v by rw[<- HE.out,Q4n]);refine yn<|yb<|yq<|yr<|yo zef<|yo zA<|yl<|yn<|y0<|yq<|yq<|yr<|yo zef<|yo zA<|yl<|yn<|y0<|yr<|yo zef<|yo zA<|yl<|yn<|y0<|yq<|yr<|yo zef<|yo zA<|yl<|yn<|y0<|yq<|yr<|yo zef<|yo zA<|yl<|yn<|y0<|yq<|yr<|yo zef<|yo zA<|yl<|yn<|y0<|yq<|yr<|yo zef<|yo zA<|yl<|yn<|y0<|yq<|yr<|yo zet<|yo zA<|yl<|yn<|y1<|yq<|yr<|yo zA<|yl<|yn<|yq<|yb ?_;refine Xe (ι:=El) Qt2 (fun y=>y.n) (fun y=>[Q40,Q3n,Qqb,(8,.slice y.Ar y.A.len y.c)]) (fun y=>.row y.Ar y.A.len y.c 30 5 y.cs::.blk b5 QcO::.blk b4 QhE::.blk b2 Q9c::.blk g Qrx::y.L) ⟨.nil,[],none,0,[],p,D.length+1⟩ QlB mc1 Qcy ?_;rintro⟨A,cs',Ar,c,L,q,n⟩ ⟨hF,hL,hq,hn,hres⟩;replace hn:A.len+n<=D.length+1:=hn;replace hq:q<=D.length:=hq;have HF:=Q2 hF;have HL:=Q2 hL;have HR:=Q2 hres;clear hF hL hres;show sE _ _ _ _ _ [Q40,Q3n,Qqb,(8,.slice Ar A.len c)] (.row Ar A.len c 30 5 cs'::.blk b5 QcO::.blk b4 QhE::.blk b2 Q9c::.blk g Qrb::L) _;cases n with
 |zero=>
  obtain⟨r,hr⟩:=HS.out;rw[HR.out] at hr;cases hr
 |succ n=>
 cases hc:D[q]? with
 |none=>
  have HE:=Qod;have HC:=Q2 hc;clear hc;refine yq<|yq ?_;refine YB (B:=Vz RES g W) [.blk b2 Q9c,.blk b5 QcO] [] Q5 ?_ ?_
  ·infer_instance
  refine Z9 0 rfl Q5 KO (zB 0) ?_;refine Z9 3 rfl Q5 KO zF ?_;refine Z9 4 rfl Q5 KO (zB 1) ?_;exact Q2A 1 Q5 rfl rfl (Xw _ _ _ rfl rfl rfl (fun w hw=>Q5C (H.out.next hw.k hq Q7r) HC.out hw (fun w' hw'=>⟨q,HE.out,rfl,hw'.k⟩))) Q0J rfl Q1 Q0J
 |some c=>
  have hlt:q<D.length:=(List.getElem?_eq_some_iff.1 hc).1;have HC:=Q2 hc;have hcv:=Za c;clear hc;by_cases hs:(c.toNat:Int)=stop
  ·have HE:=Qn5;have hne:((c.toNat:Int) != stop)=false:=bne_eq_false_iff_eq.2 hs;refine Qsy ?_;refine yn<|y0<|ye<|yn<|yq<|yr<|yo (zB 3) ?_;refine Q4 mc5 ?_;refine yo zF<|yo (zB 4)<|yo zP ?_;refine Q4 mc5 ?_;refine yo zF ?_;refine yS 4 ?_;refine yl<|yn<|yq<|yr<|yo zM ?_;refine Q4 Qgx ?_;refine yW 2 ?_;refine yl<|yn<|yt<|yk<|yc ?_;refine Q8 mc4 rfl Q0t (fun w hw=>⟨hw.k,.inr ⟨ndL,A,q+1,_,.rd Ar A.len 5 cs'::L,HE.out,rfl,hw.own 4 _ rfl,QU.list HF.out (XV 0 hw rfl).1 (XV 0 hw rfl).2,?_⟩⟩);exact(Q32 0 4 hw rfl rfl Q1).app Qdz
  ·have hne:((c.toNat:Int) != stop)=true:=bne_iff_ne.2 hs;obtain⟨q1,hy1⟩:=Q8T (one:=Qq F D f elem) (A:=A) (n:=n) (p:=q) (gg:=fun z:VF×Nat=>okR Q6v) HC.out hs Qhq;have HY:=Q2 hy1;clear hy1;refine Qsy ?_;refine yn<|y1<|ys<|yn<|yb<|yr<|yo zM<|yo (zB 3)<|yo zF<|yo (zB 1) ?_;refine Jn (Xw _ _ _ rfl rfl rfl (fun w hw=>(HIH.out w elem q hel (H.out.next hw.k hq Q7r) ⟨q1,HY.out⟩).mono (fun e w' h=>Q9J 4 rfl hw (fun x hx=>by rw[HR.out,Qcp HC.out hs hx];rfl) h))) rfl Q1 (fun y hy=>?_);refine Qc (Zj (xs:=[(0,.tmp 106)]) (vs:=Qh1) (cells:=y.cells) rfl rfl rfl (Q2K y)) rfl Q1 (fun bn _=>?_);refine Qc Qtu rfl Q1 (fun z _=>?_);refine yo zA<|yl<|yd ?_;refine Qu Qkd ⟨HF.out.snoc hy.2.1,HL.out.app hy.2.2,(hfar q y.r hq hy.1).2,by show (A.snoc _ _).len+n<=_;rw[VF.len_snoc];omega,by rw[HR.out,QdP HC.out hs hy.1]⟩ QaO (.cons rfl rfl (.cons rfl rfl (.cons rfl rfl (.cons rfl (by rw[VF.len_snoc]) .nil)))) (fun w hw=>?_);have h:=hw.tl
   exact Qau
end
def Qvt(f:FuncId)(c1 c2:Value)(w:World)(xs:List Int)(p:Int->Bool):Prop:=
 ∀(x:Int) (y:Up w),x∈xs->Calls Tryz.prog f #[.int .i64 x,c1,c2] y.w fun e w'=>e=.returned (.bool (p x))/\Below y.w.heap.size y.w w'
theorem Qb9{w:World}{A:Option Addr}{n c:Nat}{f:FuncId}{c1 c2:Value}{xs:List Int}{p:Int->Bool}(h:Rd w w.heap.size 1 A n (iv xs))(hn:n<=1048576)(ht:Qvt f c1 c2 w xs p)(hf:Q0P f):
  Calls Tryz.prog 66 #[.slice A n c,.func (.func f) #[] #[c1,c2]] w (QrG xs p w):=by
 have HL:=Qnx;have HR:=Q2 h;have HT:=Q2 ht;have hfe:∀(args:Array Value) (W:World),(callFunc f args).run Tryz.prog W=.ok (.enter f args) W:=hf;clear h ht hf;go_enter Tryz.func66,Tryz.ntmps66;go_wp2_with fail
 go_loopw [8] (QqP xs p w) (fun k _=>n - (intOf k).toNat)
 case atStart=>exact⟨0,Nat.zero_le _,rfl,fun j r hj=>absurd hj Q3,Below.refl _ _⟩
 case round=>
  obtain⟨i,hi,rfl,hff,hbw⟩:=hrel;rw[HL.out] at hi;have HF:=Q2 hff;have HB:=Q2 hbw;clear hff hbw;by_cases hlt:i<n
  ·obtain⟨b,o,x,rfl,hb,hx,hc⟩:=Q4p HR.out hlt;have HX:=Q2 hx;have hc':=(HB.out.cell Jt).trans hc
   have hli:(i:Int)<(n:Int):=by omega
   have h0:(0:Int)<=(i:Int):=by omega
   clear hx hc;go_wp2_with fail
   refine(HT.out x ⟨wr,HB.out⟩ (List.mem_of_getElem? HX.out)).mono ?_;rintro e w2 ⟨rfl,hb2⟩;have HB2:=Qmu;clear hb2 hc';cases hp:p x with
   |true=>
    have HP:=Q2 hp;clear hp;go_wp2_with fail
    go_ret;exact QnH
   |false=>
    have HP:=Q2 hp;clear hp;go_wp2_with fail
    go_roundw
    case rel=>exact⟨i+1,by rw[HL.out];omega,by go_num,fun j y hj hy=>by
     by_cases hji:j=i
     ·subst hji;have:=HX.out;rw[hy] at this
      cases this
      exact HP.out
     ·exact HF.out j y Q3 hy,HB2.out⟩
    case measure=>simp [intOf];omega
  ·go_wp2_with fail
   go_ret;exact Qrs
section
variable {w:World}{z:Rv}{B g p:Nat}{F:List Rl}{D:List UInt8}
theorem QoC(F:List Rl)(k:Int):(V0 F k).length<=256:=by
 have h:(V0 F k).length=((List.range 256).filter ((V4 F).getD k.toNat Xu)).length:=by unfold V0 Vn;simp
 rw[h];exact Nat.le_trans (List.length_filter_le _ _) Qm
theorem Q7J(h:ZV w z B g F D p){b2 b9:Nat}{c:UInt8}{k:Int}(h2:w.cell? ⟨b2,0,none⟩=some (.pointer (some ⟨g,0,none⟩)))(h9:w.cell? ⟨b9,0,none⟩=some (.int .i64 (c.toNat:Int)))(hk:0<=k/\k<F.length):
  Calls Tryz.prog 67 #[.int .i64 k,.pointer (some ⟨b2,0,none⟩),.pointer (some ⟨b9,0,none⟩)] w fun e w'=>e=.returned (.bool (XF (V0 F k) (c.toNat:Int)))/\Below w.heap.size w w':=by
 obtain⟨_,hc1,_,_⟩:=h.cell;have hl:=h.len.2;have hBw:B<=w.heap.size:=by have:=h.hB;have:=h.lt;omega
 have hfr:=h.env.fr;clear h;obtain⟨Af,As,Ad,n,nd,cf,cs,cd⟩:=z;simp only at hc1 hl hfr;subst hl;obtain⟨bs,os,rfl,_,hall⟩:=hfr;obtain⟨j,rfl⟩:∃j:Nat,k=(j:Int):=⟨k.toNat,by omega⟩;obtain⟨Ak,ck,hck,hrd,hlk⟩:=hall j Q3;have hjl:j<F.length:=by omega
 have HRD:=Q2 hrd;have hn:=QoC F (j:Int);clear hrd hall;go_enter Tryz.func67,Tryz.ntmps67;refine Qv (M:=[]) (W:=w) (N:=14) (E:=[(0,.int .i64 (j:Int)),(1,.pointer (some ⟨b2,0,none⟩)),(2,.pointer (some ⟨b9,0,none⟩))]) (O:=[]) ?_ Zo (Wd.start [] w);refine Qfg ?_;refine Qe (zG h2) ?_;refine Qe mc5 ?_;refine Qe zF ?_;refine Qe (zG hc1) ?_;refine Qe zM ?_;refine Qe (zi1 (hj:=hjl)) ?_;refine Qe (zG hck) ?_;refine Qe (zG h9) ?_;refine Qe (Qg rfl rfl Q1 rfl rfl (fun w hw=>Calls.stay (Jf (HRD.out.below (hw.k.below.mono hBw)) Q3))) ?_;refine Q7w ?_;exact QdH
end
section
variable {f:Nat->Option (Nat×Nat)}
theorem Qis(o:Nat):∀(l:List Value) (k:Nat) (a:List Value),(l.zipIdx k).foldl (fun cs (x:Value×Nat)=>cs.setIfInBounds (o+x.2) x.1) a.toArray=(J3 a (o+k) l).toArray:=by
 intro l;induction l with
 |nil=>intro k a;rfl
 |cons x l ih=>
  intro k a;rw[List.zipIdx_cons,List.foldl_cons,J3];have e:a.toArray.setIfInBounds (o+k) x=(a.set (o+k) x).toArray:=by simp
  show (l.zipIdx (k+1)).foldl _ (a.toArray.setIfInBounds (o+k) x)=_;rw[e];exact ih (k+1) (a.set (o+k) x)
theorem Y4{Z cs:List Value}{i o n:Nat}{v:Value}{rest:List (Nat×Value)}(hf:f i=some (o,n))(hv:v.cells=cs.toArray)(hl:cs.length=n)(hz:o+n<=Z.length):Instr.fill f Z.toArray ((i,v)::rest)=Instr.fill f (J3 Z o cs).toArray rest:=by
 have e:v.cells.zipIdx.foldl (fun cs (x:Value×Nat)=>cs.setIfInBounds (o+x.2) x.1) Z.toArray=(J3 Z o cs).toArray:=by
  rw[hv,<- Array.foldl_toList];have h1:=Qis o cs 0 Z;simpa using h1
 have hs1:v.cells.size=n:=by rw[hv,List.size_toArray,hl]
 have hc:¬(v.cells.size≠n\/o+v.cells.size>Z.toArray.size):=by rw[hs1,List.size_toArray];omega
 rw[Instr.fill,hf];dsimp only;rw[if_neg (by simpa using hc)];exact congrArg (fun z=>Instr.fill f z rest) e
theorem Q7c{Z:Array Value}:Instr.fill f Z []=some Z:=by rw[Instr.fill]
end
theorem Q4D(F:List Rl)(ks:List Int)(c:UInt8):Q3u ks (fun x=>XF (V0 F x) (c.toNat:Int))=match ZS F ks c with|some i=>(i:Int)|none=>-1:=by
 unfold Q3u ZS;simp only[Qo0];rfl
abbrev Q3P(i:Nat):List Value:=[.int .i64 1,.int .i64 (i:Int),.slice none 0 0,.slice none 0 0,.slice none 0 0]
theorem QkE{Z A B:List Value}(ha:A.length=5)(hb:B.length=5)(hz:Z.length=10):J3 (J3 Z 0 A) 5 B=A++B:=by
 refine List.ext_getElem? fun i=>?_;rw[K1,K1,Vi];by_cases h5:i<5
 ·rw[if_neg Q3,if_pos Q3,List.getElem?_append_left Q3,Nat.sub_zero]
 ·rw[List.getElem?_append_right Q3,ha]
  by_cases h10:i<10
  ·rw[if_pos Q3]
  ·rw[if_neg Q3,if_neg Q3,List.getElem?_eq_none Q3,List.getElem?_eq_none Q3]
theorem Qhc(y:Vy)(i:Nat)(w:World):(Instr.buildSlice 28 2 #[(0,.agg (Q3P i).toArray),(1,.agg (y.cells).toArray)]).run Tryz.prog w=.ok (.slice (some ⟨w.heap.size,0,none⟩) 2 2) (w.alloc (.cells (Q3P i++y.cells).toArray 30)):=by
 have hT:SlT Tryz.prog 28 30 5 88:=Qke;obtain⟨j,z,hi,hz,hsz,hby,hzs⟩:=hT.info;refine run_buildSlice w _ _ 2 _ (Q3P i++y.cells).toArray j z hT.und hi hz Ye Ye ?_;rw[hsz];obtain⟨Z,hZ,hZl⟩:∃Z:List Value,(Array.range (2*5)).map (z.cells[·% z.cells.size]!)=Z.toArray/\Z.length=10:=QlR;rw[hZ];show Instr.fill (fun i=>some (i*5,5)) Z.toArray [(0,.agg (Q3P i).toArray),(1,.agg (y.cells).toArray)]=_;rw[Y4 (o:=0) (n:=5) (cs:=Q3P i) rfl rfl rfl Q3,Y4 (o:=5) (n:=5) (cs:=y.cells) rfl rfl rfl (by rw[Vi];omega),Q7c,QkE rfl rfl hZl]
theorem Q7M{w:World}{z:Rv}{B g p b2 b9 n cp:Nat}{F:List Rl}{D:List UInt8}{c:UInt8}{Ap:Option Addr}{ks:List Int}(h:ZV w z B g F D p)(h2:w.cell? ⟨b2,0,none⟩=some (.pointer (some ⟨g,0,none⟩)))(h9:w.cell? ⟨b9,0,none⟩=some (.int .i64 (c.toNat:Int)))(hks:Rd w w.heap.size 1 Ap n (iv ks))(hn:n<=1048576)(hpt:∀x∈ks,0<=x/\x<F.length):
  Calls Tryz.prog 66 #[.slice Ap n cp,.func (.func 67) #[] #[.pointer (some ⟨b2,0,none⟩),.pointer (some ⟨b9,0,none⟩)]] w fun e w'=>e=.returned (.int .i64 (match ZS F ks c with|some i=>(i:Int)|none=>-1))/\Below w.heap.size w w':=
 (Qb9 (p:=fun x=>XF (V0 F x) (c.toNat:Int)) hks hn (fun x y hx=>Q7J (h.next (w:=y.w) ⟨y.b.os,y.b.tape,y.b.output,y.b.size,fun k hk _=>y.b.block k hk⟩ h.hp ((y.b.block g h.lt).trans h.cur)) ((y.b.cell (by exact Q0s h2)).trans h2) ((y.b.cell (by exact Q0s h9)).trans h9) (hpt x hx)) (fun _ _=>by kernel_rfl)).mono fun e w' ⟨he,hb⟩=>⟨by rw[he,Q4D],hb⟩
section
variable {W w w':World}{z:Rv}{B g p i:Nat}{F:List Rl}{D:List UInt8}{O L:List Qb}{o o':Obj}{e:Ending}{α:Type}{RES:Rdg α}{k:Int}
theorem Qqp(hv:Fm F)(f:Nat)(IH:IHv z B g F D f)(hsome:∃y,Qq F D (f+1) k p=some y)(hk:0<=k/\k<F.length)(h:ZV W z B g F D p)(hkind:(Ql F k).kind=8):
  Calls Tryz.prog 32 #[.pointer (some ⟨g,0,none⟩),.int .i64 k] W (VlE z g W (Qq F D (f+1) k p)):=by
 have H:=Q2 h;have hwd:=h.wd;have hp:=h.hp;have hD:=h.hD;have hFn:=h.len.2;have hr:=hv.toUsd.rok hk;obtain⟨RES,hres⟩:∃x,Qq F D (f+1) k p=x:=⟨_,rfl⟩;have e8n:=Ql5;have e8m:=QqB;have e8:=Qrm;have hpt:=hr.parts Q96;have hp12:=hr.p12;rw[hres] at hsome ⊢;have HS:=Q2 hsome;have HIH:=Q2 IH;obtain⟨Af,As,Ad,nn,nd,cf,cs,cd⟩:=z;simp only at hFn;obtain⟨bf,of,haf⟩:=h.af YF;simp only at haf;subst haf;obtain⟨hbB,Ab,cb,An,cn,Ap,cp,hrg,hru⟩:=h.env.fm.ruleB (k:=k) Q0r;have hbg:¬bf=g:=by have:=h.hB;omega
 have hkn:0<=k/\k<(nn:Int):=by omega
 clear h hres hsome IH;obtain⟨r,er⟩:∃r,Ql F k=r:=⟨_,rfl⟩;rw[er] at hkind hr hrg hru e8m e8 hpt hp12;clear er;have HRK:=Q2 hr;have HRU:=Q2 hru;clear hru;obtain⟨name,kind,bs,size,big,mn,mx,stop,count,elem,names,parts⟩:=r;simp only[ruC] at hkind hr hrg e8n e8m e8 hpt hp12;have HRB:=Qde;go_enter Tryz.func32,Tryz.ntmps32;haveI:Pan (bodyPost Tryz.prog Tryz.f32 (VlE ⟨some ⟨bf,of,none⟩,As,Ad,nn,nd,cf,cs,cd⟩ g W RES)) (Vz RES g W):=Pan.body fun ch w' ⟨x,h1,h2,h3⟩=>K4
 refine Qv (M:=[g]) (W:=W) (N:=181) (E:=Q6d) (O:=QdA) ?_ mc3 hwd;clear hwd;refine yq<|yr ?_;refine yB fun b2=>?_;refine yA fun b4=>?_;refine QnO ?_;refine yA fun b5=>?_;refine Q8r ?_;subst hkind;have HE:=Q2 e8;have HEM:=Q2 e8m;have HEN:=Q2 e8n;have HPT:=Q2 hpt;clear e8 e8m e8n hpt;cases hc:D[p]? with
 |none=>
  have HN:=Q2 (HEN.out hc);have HC:=Q2 hc;clear hc;refine QrZ ?_;exact Jn (Xw _ _ _ rfl rfl rfl (fun w hw=>Q5C Q4i HC.out hw (fun w' hw'=>⟨p,HN.out.symm,rfl,hw'.k⟩))) rfl Q1 Q0J
 |some c=>
  have hcv:=Za c;have HC:=Q2 hc;clear hc;have hfi:=Q4D F parts c;have hrp:Rd W B 1 Ap parts.length (iv parts):=HRU.out.p;have HRP:=Q2 hrp;cases hi:ZS F parts c with
  |none=>
   have HN:=Q2 (HEM.out c HC.out hi);have HI:=Q2 hi;clear hi;refine Qoh ?_;refine yA fun b9=>?_;refine QrP ?_;refine yo zA<|yl<|yn<|yq<|yq<|yr<|yo zM<|yo zlr<|yl<|yn<|y1<|yr<|yo (zB 3) ?_;refine Q4 mc5 ?_;refine yo zF<|yo (zB 4) ?_;exact Jn (Xw _ _ _ rfl rfl rfl (fun w hw=>Q0a hw (fun w' hw'=>⟨p,HN.out.symm,rfl,hw'.k⟩))) rfl Q1 Q0J
  |some i=>
   have HI:=Q2 hi;clear hi;have hil:i<parts.length:=(List.findIdx?_eq_some_iff_getElem.1 HI.out).1;obtain⟨bp,op,x,rfl,hbp,hx,hcx⟩:=Q4p HRP.out hil;have hge:parts.getD i 0=x:=by rw[List.getD_eq_getElem?_getD,hx];rfl
   have HX:=Q2 (show (rb (Qq F D f x p) fun y=>okR (ndL,VF.cons (ndN (i:Int)) VF.nil (VF.cons y.1 y.2.1 VF.nil),y.2.2))=RES by rw[<- HE.out c i HC.out HI.out,hge]);have hxk:=HPT.out x YS;obtain⟨q1,hy1⟩:∃y,Qq F D f x p=some y:=by
    obtain⟨r,hr⟩:=HS.out;rw[<- HX.out] at hr;cases h1:Qq F D f x p with
    |none=>rw[h1] at hr;cases hr
    |some y=>exact⟨y,rfl⟩
   have HY:=Q2 hy1;clear hy1 hge;have hBg:=H.out.hB;refine Qoh ?_;refine yA fun b9=>?_;refine QrP ?_;refine yo zA<|yl<|yn<|yq<|yq<|yr<|yo zM<|yo zlr<|yl<|yn<|y0<|ys<|yn<|yq ?_;refine YB (B:=Vz RES g W) [.blk b2 Q9c,.blk b5 QvS] [] Q5 ?_ ?_
   ·infer_instance
   refine Z9 0 rfl Q5 KO zM ?_;refine Z9 2 rfl Q5 KO (zB 0) ?_;refine Z9 3 rfl Q5 KO zF ?_;refine Z9 4 rfl Q5 KO (zB 1) ?_;refine Z9 5 rfl Q5 KO zM ?_;refine Z9 6 rfl Q5 KO (zi1 (hj:=hil)) ?_;refine Z9 7 rfl Q5 KO (XJ rfl rfl Q1 rfl rfl (fun w hw=>hw.cell_old hcx Q4j)) ?_;refine Q2T 1 Q5 rfl KO QnZ ?_;refine Q2A 8 Q5 rfl rfl (Xw _ _ _ rfl rfl rfl (fun w hw=>(HIH.out w x p hxk (H.out.next hw.k hp Q7r) ⟨q1,HY.out⟩).mono (fun e w' h=>Q9J 4 rfl hw (fun v hv=>by rw[<- HX.out,hv];rfl) h))) (fun i=>.inr KO) rfl Q1 (fun y hy=>?_);refine Q2A 9 Q5 rfl rfl (pE.of (Zj (xs:=[(0,.tmp 135),(1,.tmp 142)]) (vs:=[(0,.agg (Q3P i).toArray),(1,.agg (y.cells).toArray)]) (cells:=Q3P i++y.cells) rfl rfl rfl (Qhc y i))) (fun i=>.inr QeN) rfl Q1 (fun bn _=>?_);refine Q2T 10 Q5 rfl QeN Qgx ?_;refine QkJ 11 Q5 rfl rfl (pE.of (YT 3 rfl rfl rfl rfl rfl rfl rfl Qm)) (fun i=>.inr QeN) rfl (fun _ _=>?_);rw[QE (by rfl)];refine Qht ?_ Q5;refine yn<|yt<|yk<|yc ?_;refine Q8 mc4 rfl Q4H (fun w hw=>⟨hw.k,.inr ⟨ndL,.cons (ndN (i:Int)) .nil (.cons y.r.1 y.r.2.1 .nil),y.r.2.2,_,.rd (some ⟨bn,0,none⟩) 2 5 (Q3P i++y.cells)::([]++[]++y.L),by rw[<- HX.out,hy.1];rfl,rfl,hw.own 5 _ rfl,QU.list ((ZY.nil.snoc (QU.num (i:Int))).snoc hy.2.1) (Nat.le_refl 2) Q1,?_⟩⟩);have h1:=hw.blk_row (i:=0) (n:=2) (s:=5) rfl rfl Q1;exact(Q32 0 5 h1 rfl rfl Q1).app (hy.2.2.new fun x hx=>hw.onAll x Q00)
end
theorem Qlv(N:List (List UInt8))(s:ByteArray):sv (N++[s.data.toList])=sv N++[.string s]:=by
 unfold sv;rw[List.map_append];rfl
section
variable {P:Program}{ops:Array Oper}{Q:Exit->Act->World->Prop}{N:Nat}{E E':Env}{o:Oper}{M:List Nat}{W:World}{O O0:List Qb}{T:List Nat}{f:Nat}{listed:Array Bool}
theorem QbR(k:Nat)(hB:Region.ready .any ops listed=[k])(ho:ops[k]? =some o)(hT:k∈T\/QA M W O0 O)(h1:oE P ops (Wd M W O) N E E' o)(h2:dE P ops Q N M W O0 T f (listed.setIfInBounds k true) E' O):dE P ops Q N M W O0 T (f+1) listed E O:=fun hcl a ha=>by
 refine⟨fun h0=>absurd Q5M Qm,fun i hi=>?_⟩;rw[hB] at hi;rw[List.mem_singleton] at hi;subst hi;have hr':i∈Region.ready .any ops listed:=by rw[hB];exact Q6U
 have h:=h1 a ha;have key:∀{v:Value},Zf P ops (Wd M W O) o a v->Ag N E' (a.put o.dst v)->VR P ops (Wd M W O0) T i a (Wd M W O) (Q5p P ops (Wd M W O0) T Q f (listed.setIfInBounds i true)):=fun hq hE=>by
  have h0:=Zf.step (P:=P) (ops:=ops) (T:=T) (C0:=Wd M W O) (D:=Wd M W O) (K:=Q5p P ops (Wd M W O0) T Q f (listed.setIfInBounds i true)) ho hq Wd.stb Ju (h2 Q1o _ hE);unfold VR at h0 ⊢;simp only[ho] at h0 ⊢;rcases h0 with h0|⟨hw,ι,V,G,h1,h2,h3⟩
  ·exact .inl h0
  ·refine .inr ⟨hw,ι,V,G,h1,fun x=>⟨(h2 x).1,?_⟩,h3⟩
   rcases (h2 x).2 with hx|hx
   ·exact .inl hx
   ·exact hT.imp id fun hT w hw=>hT w (hx w hw)
 split at h
 ·rename_i hw
  obtain⟨v,hv,hE⟩:=h;exact key (.inl ⟨hw,hv⟩) hE
 ·rename_i hw
  exact key QhN h
end
section
variable {W w w':World}{z:Rv}{B g p i:Nat}{F:List Rl}{D:List UInt8}{O L:List Qb}{o o':Obj}{e:Ending}{α:Type}{RES:Rdg α}{k:Int}
structure Sq where
 N:List (List UInt8)
 A:VF
 cs:List Value
 Ar:Option Addr
 c:Nat
 Nr:Option Addr
 cN:Nat
 L:List Qb
 q:Nat
 i:Nat
theorem ZY.keepL{L:List Qb}{cs:List Value}{l:VF}(h:ZY L cs l)(L':List Qb):ZY (L++L') cs l:=⟨h.1,fun w hw=>h.2 w fun x hx=>hw x (List.mem_append_left _ hx)⟩
theorem Q0Z{α:Type}{l:List α}{i:Nat}{x:α}(h:l[i]? =some x):l.drop i=x::l.drop (i+1):=by
 obtain⟨h1,rfl⟩:=List.getElem?_eq_some_iff.1 h;exact List.drop_eq_getElem_cons h1
theorem Q9h{one:Int->Nat->Rdg (Nd×VF×Nat)}{N ns:List (List UInt8)}{A:VF}{nm:List UInt8}{k:Int}{ks:List Int}{p:Nat}{γ:Type}{gg:List (List UInt8)×VF×Nat->Rdg γ}(h:∃r,rb (Jm one N A (nm::ns) (k::ks) p) gg=some r):∃y,one k p=some y:=by
 obtain⟨r,h⟩:=h;cases h1:one k p with
 |none=>unfold Jm at h;rw[Vc,h1] at h;cases h
 |some y=>exact⟨y,rfl⟩
theorem QpM(hv:Fm F)(f:Nat)(IH:IHv z B g F D f)(hsome:∃y,Qq F D (f+1) k p=some y)(hk:0<=k/\k<F.length)(h:ZV W z B g F D p)(hkind:(Ql F k).kind=7):
  Calls Tryz.prog 32 #[.pointer (some ⟨g,0,none⟩),.int .i64 k] W (VlE z g W (Qq F D (f+1) k p)):=by
 have H:=Q2 h;have hwd:=h.wd;have hp:=h.hp;have hD:=h.hD;have hFn:=h.len.2;have hr:=hv.toUsd.rok hk;obtain⟨RES,hres⟩:∃x,Qq F D (f+1) k p=x:=⟨_,rfl⟩;have e7:=(Qh9 (F:=F) (D:=D) (f:=f) (p:=p) (k:=k) hkind).symm.trans hres;have hpt:=hr.parts K3;have hp12:=hr.p12;have hse:=hr.seven hkind;rw[hres] at hsome ⊢;have HS:=Q2 hsome;have HIH:=Q2 IH;obtain⟨Af,As,Ad,nn,nd,cf,cs,cd⟩:=z;simp only at hFn;obtain⟨bf,of,haf⟩:=h.af YF;simp only at haf;subst haf;obtain⟨hbB,Ab,cb,An,cn,Ap,cp,hrg,hru⟩:=h.env.fm.ruleB (k:=k) Q0r;have hbg:¬bf=g:=by have:=h.hB;omega
 have hkn:0<=k/\k<(nn:Int):=by omega
 clear h hres hsome IH;obtain⟨r,er⟩:∃r,Ql F k=r:=⟨_,rfl⟩;rw[er] at hkind hr hrg hru e7 hpt hp12 hse;clear er;have HRK:=Q2 hr;have HRU:=Q2 hru;clear hru;obtain⟨name,kind,bs,size,big,mn,mx,stop,count,elem,names,parts⟩:=r;simp only[ruC] at hkind hr hrg e7 hpt hp12 hse;have HRB:=Q2 (show Rd W B 1 Ab bs.length (bv bs) from HRU.out.b);go_enter Tryz.func32,Tryz.ntmps32;haveI:Pan (bodyPost Tryz.prog Tryz.f32 (VlE ⟨some ⟨bf,of,none⟩,As,Ad,nn,nd,cf,cs,cd⟩ g W RES)) (Vz RES g W):=Pan.body fun ch w' ⟨x,h1,h2,h3⟩=>⟨h3,.inl ⟨x,h1,by rw[h2]⟩⟩
 refine Qv (M:=[g]) (W:=W) (N:=181) (E:=[(0,.pointer (some ⟨g,0,none⟩)),(1,.int .i64 k)]) (O:=[.blk g (.cells ([.slice (some ⟨bf,of,none⟩) nn cf,.slice As nn cs,.slice Ad nd cd,.int .i64 (p:Int)]:List Value).toArray 60 (0,0))]) ?_ (Ag.cons (Ag.cons (Ag.nil rfl rfl) rfl) rfl) hwd;clear hwd;refine yq<|yr ?_;refine yB fun b2=>?_;refine yA fun b4=>?_;refine yl<|yn<|yq<|yr<|yo (zB 1) ?_;refine Q4 (QsG rfl rfl Q1 rfl rfl) ?_;refine yo zF<|yo zF<|yo (zB 2)<|yo zM ?_;refine Q4 (Qz rfl rfl Q1 rfl rfl rfl hkn) ?_;refine Q4 (X7 rfl rfl Q1 rfl rfl (fun w hw=>hw.range_old hrg (by simpa using hbg)) rfl) ?_;refine yA fun b5=>?_;refine yW 0 ?_;refine yl<|yn<|yq<|yq<|yr<|yo zF<|yo (zB 0)<|yl ?_;subst hkind;have HE:=Q2 e7;have HPT:=Q2 hpt;have HRP:=Q2 (show Rd W B 1 Ap parts.length (iv parts) from HRU.out.p);have HRN:=Q2 (show Rd W B 1 An names.length (sv names) from HRU.out.n);have hBg:=H.out.hB;clear e7 hpt;have HX:=Q2 (show RES=rb (Jm (Qq F D f) [] .nil names parts p) fun z=>okR (ndR z.1,z.2.1,z.2.2) by rw[<- HE.out,Q51]);refine yn<|yb<|yq<|yr<|yo zef<|yo zA<|yl<|yn<|y0<|yq<|yq<|yr<|yo zef<|yo zA<|yl<|yn<|y0<|yr<|yo zef<|yo zA<|yl<|yn<|y0<|yq<|yr<|yo zef<|yo zA<|yl<|yn<|y0<|yq<|yr<|yo zef<|yo zA<|yl<|yn<|y0<|yq<|yr<|yo zef<|yo zA<|yl<|yn<|y0<|yq<|yr<|yo zef<|yo zA<|yl<|yn<|y0<|yq<|yr<|yo zef<|yo zA<|yl<|yn<|y0<|yq<|yr<|yo zef<|yo zA<|yl<|yn<|y0<|ys<|yn<|yq<|yr ?_;refine Q4 (Xt (xs:=[(0,.const (.int .i64 4))]) (vs:=[(0,.int .i64 4)]) (v:=.agg #[.int .i64 4,.int .i64 0,.slice none 0 0,.slice none 0 0,.slice none 0 0]) rfl rfl Q1 rfl rfl (fun w=>run_build w _ _ _ Q5)) ?_;refine yA fun b11=>?_;refine yW 0 ?_;refine yl<|yn<|yq<|yq<|yr<|yo zF<|yo (zB 1)<|yo zL<|yo zM<|yl<|yn<|yb ?_;refine Xe (ι:=Sq) (fun y=>ZY y.L y.cs y.A/\KU y.L W.heap.size/\y.q<=D.length/\y.i<=parts.length/\y.A.len<=y.i/\y.N.length<=y.i/\RES=rb (Jm (Qq F D f) y.N y.A (names.drop y.i) (parts.drop y.i) y.q) fun z=>okR (ndR z.1,z.2.1,z.2.2)) (fun y=>parts.length - y.i) (fun y=>[(2,.pointer (some ⟨b2,0,none⟩)),(4,.pointer (some ⟨b4,0,none⟩)),(5,.pointer (some ⟨b5,0,none⟩)),(11,.pointer (some ⟨b11,0,none⟩)),(147,.slice Ap parts.length cp),(148,.int .i64 (parts.length:Int)),(149,.int .i64 (y.i:Int))]) (fun y=>.row y.Ar y.A.len y.c 30 5 y.cs::.row y.Nr y.N.length y.cN 9 1 (sv y.N)::.blk b11 (.cells ([.int .i64 4,.int .i64 0,.slice none 0 0,.slice y.Nr y.N.length y.cN,.slice y.Ar y.A.len y.c]:List Value).toArray 30 (0,0))::.blk b5 (.cells ([.string ⟨name.toArray⟩,.int .i64 7,.slice Ab bs.length cb,.int .i64 size,.bool big,.int .i64 mn,.int .i64 mx,.int .i64 stop,.int .i64 count,.int .i64 elem,.slice An names.length cn,.slice Ap parts.length cp]:List Value).toArray 65 (0,0))::.blk b4 (.cells ([.int .i64 0,.int .i64 0,.slice none 0 0,.slice none 0 0,.slice none 0 0]:List Value).toArray 30 (0,0))::.blk b2 (.cells ([.pointer (some ⟨g,0,none⟩)]:List Value).toArray 56 (0,0))::.blk g (.cells ([.slice (some ⟨bf,of,none⟩) nn cf,.slice As nn cs,.slice Ad nd cd,.int .i64 (y.q:Int)]:List Value).toArray 60 (0,0))::y.L) ⟨[],.nil,[],none,0,none,0,[],p,0⟩ ⟨.nil,.nil _,hp,Nat.zero_le _,Nat.le_refl _,Nat.le_refl _,HX.out⟩ (.cons rfl rfl (.cons rfl rfl (.cons rfl rfl mc1))) (fun w hw=>(hw.row _ _).row _ _) ?_;rintro⟨N,A,cs',Ar,c,Nr,cN,L,q,i⟩ ⟨hF,hL,hq,hi,hA,hN,hres⟩;replace hq:q<=D.length:=hq;replace hi:i<=parts.length:=hi;replace hA:A.len<=i:=hA;replace hN:N.length<=i:=hN;have HF:=Q2 hF;have HL:=Q2 hL;have HR:=Q2 hres;clear hF hL hres;show sE _ _ _ _ _ [(2,.pointer (some ⟨b2,0,none⟩)),(4,.pointer (some ⟨b4,0,none⟩)),(5,.pointer (some ⟨b5,0,none⟩)),(11,.pointer (some ⟨b11,0,none⟩)),(147,.slice Ap parts.length cp),(148,.int .i64 (parts.length:Int)),(149,.int .i64 (i:Int))] (.row Ar A.len c 30 5 cs'::.row Nr N.length cN 9 1 (sv N)::.blk b11 (.cells ([.int .i64 4,.int .i64 0,.slice none 0 0,.slice Nr N.length cN,.slice Ar A.len c]:List Value).toArray 30 (0,0))::.blk b5 (.cells ([.string ⟨name.toArray⟩,.int .i64 7,.slice Ab bs.length cb,.int .i64 size,.bool big,.int .i64 mn,.int .i64 mx,.int .i64 stop,.int .i64 count,.int .i64 elem,.slice An names.length cn,.slice Ap parts.length cp]:List Value).toArray 65 (0,0))::.blk b4 (.cells ([.int .i64 0,.int .i64 0,.slice none 0 0,.slice none 0 0,.slice none 0 0]:List Value).toArray 30 (0,0))::.blk b2 (.cells ([.pointer (some ⟨g,0,none⟩)]:List Value).toArray 56 (0,0))::.blk g (.cells ([.slice (some ⟨bf,of,none⟩) nn cf,.slice As nn cs,.slice Ad nd cd,.int .i64 (q:Int)]:List Value).toArray 60 (0,0))::L) _;by_cases hlt:i<parts.length
 case neg=>
  have HZ:=Q2 (show RES=some (.ok (ndR N,A,q)) by
   have h:=HR.out
   simp only at h
   rw[List.drop_of_length_le (l:=parts) Q3,Q87] at h
   exact h)
  refine yq<|yr<|yo zlf<|yl<|yn<|yq<|y0<|ye<|yn<|yq<|yr<|yo (zD 2) ?_;refine yW 4 ?_;refine yl<|yn<|yt ?_;refine Q8 (by exact .inr rfl) rfl (RsV.blk 4 rfl rfl rfl) (fun w hw=>⟨hw.k,.inr ⟨ndR N,A,q,_,.rd Ar A.len 5 cs'::.rd Nr N.length 1 (sv N)::L,HZ.out,rfl,hw.own 6 _ rfl,QU.rec_ HF.out (XV 0 hw rfl).1 (XV 0 hw rfl).2 (XV 1 hw rfl).1,?_⟩⟩);exact((Q32 0 6 hw rfl rfl Q1).app (Q32 1 6 hw rfl rfl Q1)).app (HL.out.new fun x hx=>hw.onAll x (by simp [hx]))
 case pos=>
  obtain⟨bp,op,x,rfl,hbp,hx,hcx⟩:=Q4p HRP.out hlt;obtain⟨bm,om,s,rfl,hbm,hs,hcs⟩:=K0 HRN.out (show i<names.length by omega);have hxk:=HPT.out x YS
  have HR2:=Q2 (show RES=rb (Jm (Qq F D f) N A (s.data.toList::names.drop (i+1)) (x::parts.drop (i+1)) q) fun z=>okR (ndR z.1,z.2.1,z.2.2) by
   have h:=HR.out
   simp only at h
   rw[Q0Z hx,Q0Z hs] at h
   exact h)
  obtain⟨q1,hy1⟩:=Q9h (by rw[<- HR2.out];exact HS.out);have HY:=Q2 hy1;have HSS:=Q2 hs;clear hy1 hx hs;have hfar:Far (Qq F D f x) D.length:=Xv hv.toUsd f hxk;refine yq<|yr<|yo zlt<|yl<|yn<|yq<|y1<|ys<|yn<|yq<|yb<|yq<|yr<|yo zM<|yo (zi1 (hj:=hlt)) ?_;refine Q4 (XJ rfl rfl Q1 rfl rfl (fun w hw=>hw.cell_old hcx (by simp;omega))) ?_;refine yo zA<|yo zA<|yl<|yn<|yq<|yr<|yo (zB 5)<|yo zM ?_;refine Jn (Xw _ _ _ rfl rfl rfl (fun w hw=>(HIH.out w x q hxk (H.out.next hw.k hq (hw.own 6 _ rfl)) ⟨q1,HY.out⟩).mono (fun e w' h=>Q9J 6 rfl hw (fun v hv=>by rw[HR2.out,QcZ hv];rfl) h))) rfl Q1 (fun y hy=>?_);refine yA fun b14=>?_;refine yW 0 ?_;refine yl ?_;by_cases hz:s.data.toList=[]
  ·have hst:(s.data.toList != (⟨#[]⟩:ByteArray).data.toList)=false:=bne_eq_false_iff_eq.2 hz;refine yn<|yq<|yr<|yo zF<|yo (zB 4)<|yo zM ?_;refine Q4 QhA ?_;refine Q4 Qmq ?_;refine Q4 (Q0F rfl rfl Q1 rfl rfl rfl hst) ?_;refine yl<|yn<|y0<|ys<|yn<|yr<|yo zP<|yo zM<|yl ?_;refine Qu ⟨N,A,cs',Ar,c,Nr,cN,L++y.L,y.r.2.2,i+1⟩ ⟨HF.out.keepL y.L,HL.out.app hy.2.2,(hfar q y.r hq hy.1).2,by show i+1<=_;omega,by show A.len<=i+1;omega,by show N.length<=i+1;omega,by rw[HR2.out,Q6t hz hy.1]⟩ (by show parts.length - (i+1)<parts.length - i;omega) (.cons rfl rfl Q5l) (fun w hw=>hw.tl)
  ·have hst:(s.data.toList != (⟨#[]⟩:ByteArray).data.toList)=true:=bne_iff_ne.2 hz;refine yn<|yq<|yr<|yo zF<|yo (zB 4)<|yo zM ?_;refine Q4 QhA ?_;refine Q4 Qmq ?_;refine Q4 (Q0F rfl rfl Q1 rfl rfl rfl hst) ?_;refine yl<|yn<|y1 ?_;refine ZR [.blk b11 (.cells ([.int .i64 4,.int .i64 0,.slice none 0 0,.slice Nr N.length cN,.slice Ar A.len c]:List Value).toArray 30 (0,0)),.blk b5 Qrw,.blk b14 (.cells (y.cells).toArray 30 (0,0))] [15,16,17] Q5 ?_;refine Qn 0 rfl Q5 Q1F zF ?_;refine Qn 1 rfl Q5 Q1F (zB 0) ?_;refine Qn 2 rfl Q5 Q1F zF ?_;refine Qn 3 rfl Q5 Q1F (zB 1) ?_;refine Qn 4 rfl Q5 Q1F zM ?_;refine Qn 5 rfl Q5 Q1F QhA ?_;refine Qn 6 rfl Q5 Q1F Qmq ?_;refine Qn 9 rfl Q5 Q1F zF ?_;refine Qn 10 rfl Q5 Q1F (zB 0) ?_;refine Qn 11 rfl Q5 Q1F (zD 2) ?_;refine Q6m 7 12 Q5 (JC rfl rfl YZ (fun _=>.inr Qh3) rfl Q1 (fun bs _=>?_)) (JC rfl rfl YZ (fun _=>.inr Qh3) rfl Q1 (fun bv _=>?_))
   ·refine Q6m 8 12 Q5 (JC rfl rfl YC (fun _=>.inr Qh3) rfl Q1 (fun z1 _=>?_)) (JC rfl rfl YZ Q4Z rfl Q1 (fun bv _=>?_))
    ·refine Qn 14 rfl Q5 Qh3 zF ?_;refine QX 12 Q5 rfl rfl YZ Q4Z rfl Q1 (fun bv _=>?_);refine QX 13 Q5 rfl rfl YC Q4Z rfl Q1 (fun z2 _=>?_);refine QK 15 Q5 rfl rfl Q8f Vx rfl (fun _ _=>?_);refine QbR 16 Q5 rfl (.inl Q1) zF ?_;refine QK 17 Q5 rfl rfl Q8f Vx rfl (fun _ _=>?_);refine Xn ?_ Q5;refine Q99 ?_;refine Qu Qdl Qmn QcK Q0I (fun w hw=>?_);have h:=hw.tl.tl.tl
     exact Qcf
    ·refine QX 8 Q5 rfl rfl (J4 4 rfl rfl rfl rfl rfl (fun w hw=>hw.rd_blk 1 rfl rfl) Q9R Q3) Q4Z rfl Q1 (fun z1 _=>?_);refine Qn 14 rfl Q5 (QA.sel [5,6,2] Q1 rfl) zF ?_;refine QX 13 Q5 rfl rfl YC Q4Z rfl Q1 (fun z2 _=>?_);refine QK 15 Q5 rfl rfl Q8f Vx rfl (fun _ _=>?_);refine QbR 16 Q5 rfl (.inl Q1) zF ?_;refine QK 17 Q5 rfl rfl Q8f Vx rfl (fun _ _=>?_);refine Xn ?_ Q5;refine Q99 ?_;refine Qu Qdl Qmn QcK Q0I (fun w hw=>?_);have h:=hw.tl.tl.tl
     exact Qcf
   ·refine QX 7 Q5 rfl rfl YZ Q4Z rfl Q1 (fun bs _=>?_);refine QX 8 Q5 rfl rfl (J4 4 rfl rfl rfl rfl rfl QbG Q9R Q3) Q4Z rfl Q1 (fun z1 _=>?_);refine Qn 14 rfl Q5 (QA.sel [5,6,2] Q1 rfl) zF ?_;refine QX 13 Q5 rfl rfl (J4 3 rfl rfl rfl rfl rfl (fun w hw=>hw.rd_blk 1 rfl rfl) Q9R Q3) Q4Z rfl Q1 (fun z2 _=>?_);refine QK 15 Q5 rfl rfl Q8f Vx rfl (fun _ _=>?_);refine QbR 16 Q5 rfl (.inl Q1) zF ?_;refine QK 17 Q5 rfl rfl Q8f Vx rfl (fun _ _=>?_);refine Xn ?_ Q5;refine Q99 ?_;refine Qu Qdl Qmn QcK Q0I (fun w hw=>?_);have h:=hw.tl.tl.tl
    exact Qcf
end
theorem Q4E{z:Rv}{B g:Nat}{F:List Rl}{D:List UInt8}(hv:Fm F):∀f,IHv z B g F D f
 |0=>fun W k p hk h hs=>by
  obtain⟨y,hy⟩:=hs
  cases hy
 |f+1=>fun W k p hk h hs=>by
  have ih:=Q4E (z:=z) (B:=B) (g:=g) (D:=D) hv f;have hr:=(hv.toUsd.rok hk).kind;by_cases h6:(Ql F k).kind=6
  ·exact Qpq hv f ih hs hk h h6
  by_cases h7:(Ql F k).kind=7
  ·exact QpM hv f ih hs hk h h7
  by_cases h8:(Ql F k).kind=8
  ·exact Qqp hv f ih hs hk h h8
  by_cases h9:(Ql F k).kind=9
  ·exact QpD hv f ih hs hk h h9
  by_cases h10:(Ql F k).kind=10
  ·exact QmM hv f hk h h10
  exact QeM hv f hk h Q3
section
variable {A:Option Addr}{B n:Nat}{F:List Rl}{W w:World}{xs:List Value}
structure Fs where
 xs:List Value
 Ar:Option Addr
 c:Nat
 L:List Qb
 i:Nat
def Qvy(F:List Rl)(y:Fs):Prop:=∀k,k<y.i->∃Ak ck,y.xs[k]? =some (.slice Ak (V0 F k).length ck)/\Qb.rd Ak (V0 F k).length 1 (iv (V0 F k))∈y.L/\(V0 F k).length<=ck
theorem Qv9{M:List Nat}{w':World}{O:List Qb}{e:Ending}{l:List Int}(hw:Wd M W O w)(h:Qn3 w l (0,0) e w'):Xf (fun y:Option Addr×Nat=>.tuple #[.slice y.1 l.length y.2,.agg #[.int .i64 0,.int .i64 0]]) (fun y=>l.length<=y.2/\KU [.rd y.1 l.length 1 (iv l)] W.heap.size) M W (fun y=>O++[.rd y.1 l.length 1 (iv l)]) e w':=by
 obtain⟨A,c,he,hon,hf,hc,hb⟩:=h;have hn:=Jb hon hf;exact⟨(A,c),he,⟨hc,fun x hx=>⟨hn.rd x hx,fun b hb'=>Nat.le_trans hw.k.size (hn.far x hx b hb')⟩⟩,hw.made hb hn⟩
theorem QnF{k:Int}(h:QF F=(0,0))(hk:0<=k/\k<F.length):Q5e F k=(0,0)/\Q1V F k=V0 F k:=by
 have e:Q5e F k=(0,0):=by
  unfold Q5e;rw[if_neg (by simp [h]),if_pos (QM.2 Q3)]
 exact⟨e,by unfold Q1V;rw[if_pos e]⟩
structure FsL(F:List Rl)(n:Nat)(As:Option Addr)(xs:List Value)(L:List Qb):Prop where
 tab:Qb.rd As n 1 xs∈L
 row:∀k,k<n->∃Ak ck,xs[k]? =some (.slice Ak (V0 F k).length ck)/\Qb.rd Ak (V0 F k).length 1 (iv (V0 F k))∈L/\(V0 F k).length<=ck
theorem Rd.less{B' s:Nat}(h:Rd w B s A n xs)(hf:∀q,(Qb.rd A n s xs).foot=some q->q<B'):Rd w B' s A n xs:=by
 refine⟨h.1,fun h0=>?_⟩;obtain⟨b,o,e,hb,hc⟩:=h.2 h0;subst e;exact⟨b,o,rfl,hf b (by simp only[Qb.foot];rw[if_neg Q3];rfl),hc⟩
theorem FsL.fr{As:Option Addr}{L:List Qb}(h:FsL F n As xs L)(hw:∀x∈L,x.on w)(hB:∀x∈L,∀q,x.foot=some q->q<B)(h0:0<n):QcH w B F As n:=by
 obtain⟨b,o,e,hb,hcc⟩:=(Rd.less (B':=B) (hw _ h.tab) (hB _ h.tab)).2 h0;refine⟨b,o,e,hb,fun k hk=>?_⟩;obtain⟨Ak,ck,h1,h2,h3⟩:=h.row k hk;exact⟨Ak,ck,hcc k _ h1,Rd.less (hw _ h2) (hB _ h2),h3⟩
def FsR(F:List Rl)(n:Nat)(W:World)(e:Ending)(w':World):Prop:=∃As cs xs L,e=.returned (.slice As n cs)/\n<=cs/\FsL F n As xs L/\New L W.heap.size w'/\Below W.heap.size W w'
theorem Q7Z{c:Nat}(hf:QW W W.heap.size A n F)(hs:FSm F)(hc:n<=c)(hg:GV W)(hz:QF F=(0,0))(h0:0<n):
  Calls Tryz.prog 31 #[.agg #[.slice A n c]] W (FsR F n W):=by
 have hlen:F.length=n:=hf.1;have hsz:n<=1048576:=by rw[<- hlen];exact hs.1
 have HF:=Q2 hf;have HS:=Q2 hs;have HG:=Q2 hg;have HZ:=Q2 hz;clear hf hs hg hz;go_enter Tryz.func31,Tryz.ntmps31;refine Qv (M:=[]) (W:=W) (N:=25) (E:=[Yf]) (O:=[]) ?_ Z6 QT;refine yq<|yr ?_;refine yB fun b1=>?_;refine yo zA<|yl<|yn<|yq<|yr<|yo zA<|yl<|yn<|yq<|yq<|yr<|yo zF<|yo (zB 0)<|yo zL<|yo zM<|yl<|yn<|yb ?_;refine Xe (ι:=Fs) (fun y=>y.xs.length=y.i/\y.i<=n/\Qvy F y/\KU y.L W.heap.size) (fun y=>n - y.i) (fun y=>[Qiz,(3,.slice y.Ar y.i y.c),(9,.int .i64 (n:Int)),(10,.int .i64 (y.i:Int))]) (fun y=>.row y.Ar y.i y.c 48 1 y.xs::.blk b1 QmV::y.L) ⟨[],none,0,[],0⟩ ⟨rfl,Nat.zero_le _,fun k hk=>absurd hk (Nat.not_lt_zero k),.nil _⟩ mc1 Qcy ?_;rintro⟨xs,Ar,cr,L,i⟩ ⟨hxi,hi,hall,hfar⟩;replace hxi:xs.length=i:=hxi;replace hi:i<=n:=hi;have HA:=Q2 hall;have HFA:=Q2 hfar;clear hall hfar;show sE _ _ _ _ _ [Qiz,(3,.slice Ar i cr),(9,.int .i64 (n:Int)),(10,.int .i64 (i:Int))] (.row Ar i cr 48 1 xs::.blk b1 QmV::L) _;by_cases hlt:i<n
 case neg=>
  have hin:i=n:=by omega
  subst hin;refine yq<|yr<|yo zlf<|yl<|yn<|yq<|y0<|ye<|yn<|yq<|yr<|yo zM<|yo zA<|yl<|yn<|yt ?_;refine Q8 mc4 rfl (.tmp rfl) (fun w hw=>⟨Ar,cr,xs,.rd Ar i 1 xs::L,rfl,(XV 0 hw rfl).1,⟨List.mem_cons_self,fun k hk=>?_⟩,?_,hw.k.below⟩)
  ·obtain⟨Ak,ck,h1,h2,h3⟩:=HA.out k hk;exact⟨Ak,ck,h1,List.mem_cons_of_mem _ h2,h3⟩
  ·have hr:Rd w w.heap.size 1 Ar i xs:=Rd.of_own Q6c
   exact(Jb hr fun b hb=>by
    rcases Nat.lt_or_ge b W.heap.size with hl|hl
    ·have h1:b∈[]:=hw.new 0 _ b rfl (Q3h Q6c hb) hl
     cases h1
    ·exact hl).app (HFA.out.new fun x hx=>hw.onAll x Q00)
 case pos=>
  have hck:=QnF HZ.out (k:=(i:Int)) Q3;refine yq<|yr<|yo zlt<|yl<|yn<|yq<|y1<|ys<|yn<|yq<|yb<|yq<|yr<|yo zM<|yo zA<|yl<|yn<|yq<|yr<|yo (zD 1)<|yo zM ?_;refine Qc (Xg _ _ _ rfl rfl rfl (fun w hw=>(QaV Q6w HS.out hc Q05).mono (fun e w' h=>by rw[hck.1,hck.2] at h;exact Qv9 hw h))) rfl Q1 (fun y hy=>?_);refine Q6I ?_;refine yA fun b6=>?_;refine yo zA ?_;refine yW 0 ?_;refine yl<|yn<|yr<|yo zM<|yo zM ?_;refine Qc YZ rfl Q1 (fun bn _=>?_);refine Qc Y5 rfl Q1 (fun z _=>?_);refine QfO ?_;refine Qu ⟨xs++[.slice y.1 (V0 F i).length y.2],z.1,z.2,L++[.rd y.1 (V0 F i).length 1 (iv (V0 F i))],i+1⟩ ⟨by show (xs++[_]).length=i+1;rw[List.length_append,hxi];rfl,by show i+1<=n;omega,fun k hk=>?_,HFA.out.app hy.2⟩ Vt mc1 (fun w hw=>?_);rotate_left
  ·exact hw.tl.tl
  by_cases hki:k=i
  ·subst hki;exact⟨y.1,y.2,by show (xs++[_])[k]? =_;rw[List.getElem?_append_right Q3,hxi,Nat.sub_self];rfl,List.mem_append_right _ List.mem_cons_self,hy.1⟩
  ·obtain⟨Ak,ck,h1,h2,h3⟩:=HA.out k (by show k<i;have:k<i+1:=hk;omega);exact⟨Ak,ck,by show (xs++[_])[k]? =_;rw[List.getElem?_append_left (List.getElem?_eq_some_iff.1 h1).1];exact h1,List.mem_append_left _ h2,h3⟩
end
theorem Qbi(g h:Nat)(w:World):
  CallsD Tryz.prog 30 #[.pointer (some ⟨g,0,none⟩),.pointer (some ⟨h,0,none⟩)] .returning w fun e u' w'=>e=.returned (.tuple #[])/\u'=.returning/\w'=w:=by
 refine callsD_of_wpS Tryz.func30 rfl fun c₀ cs hu=>?_;apply wpS_seq;apply wpS_region;simp [wpOpsS,go_sem,recoverD,hu,Tryz.ntmps30,Exit.thenS];refine Qhr ?_;go_wp2_with fail
 cases c₀
 simp_all [bodyPostS,results,Tryz.results30]
theorem Q85{g k:Nat}{c x:Int}{M:List Nat}{W w:World}{O:List Qb}{a0 a1 a2 a3 a4 r0 r1:Value}(hw:Wd M W (.blk g (.cells ([a0,a1,a2,a3,a4]:List Value).toArray 30 (0,0))::.blk k (.cells ([r0,r1]:List Value).toArray 32 (0,0))::O) w):
  CallsD Tryz.prog 30 #[.pointer (some ⟨g,0,none⟩),.pointer (some ⟨k,0,none⟩)] (.panicking (JN c x)) w fun e u' w'=>
   e=.returned (.tuple #[])/\u'=.panicking [{ v:=.iface 32 (.agg #[.int .i64 c,.int .i64 x]),recovered:=true }]/\Wd M W (.blk g (.cells ([.int .i64 0,.int .i64 0,.slice none 0 0,.slice none 0 0,.slice none 0 0]:List Value).toArray 30 (0,0))::.blk k (.cells ([.int .i64 c,.int .i64 x]:List Value).toArray 32 (0,0))::O) w':=by
 refine callsD_of_wpS Tryz.func30 rfl fun c₀ cs hu=>?_;apply wpS_seq;apply wpS_region;unfold JN at hu;simp [wpOpsS,go_sem,recoverD,hu,Tryz.ntmps30,Exit.thenS];refine Qhr ?_;have hta:∀W:World,(Instr.typeAssert (.iface 32 (.agg #[.int .i64 c,.int .i64 x])) 20 32 true).run Tryz.prog W=.ok (.tuple #[.agg #[.int .i64 c,.int .i64 x],.bool true]) W:=Q9K
 have heq:∀W:World,(binOp .eql 20 (.iface 32 (.agg #[.int .i64 c,.int .i64 x])) .nilIface).run Tryz.prog W=.ok (.bool false) W:=Q9K
 have hui:Tryz.prog.underlying 20=some (.interface (Tryz.prog.methodsAt 20)):=by kernel_rfl
 refine Qv (M:=M) (W:=W) (N:=13) (E:=QqS) (O:=.blk g (.cells ([a0,a1,a2,a3,a4]:List Value).toArray 30 (0,0))::.blk k (.cells ([r0,r1]:List Value).toArray 32 (0,0))::O) ?_ Zo hw;refine QrR ?_;refine yA fun b3=>?_;refine QsB ?_;refine Qn 0 rfl Q5 JO Qd3 ?_;refine Qn 1 rfl Q5 JO (zD 0) ?_;refine QK 2 Q5 rfl rfl KI Q3y rfl (fun _ _=>?_);rw[QE (by rfl)];refine QK 3 Q5 rfl rfl QlV Q3y rfl (fun _ _=>?_);rw[QE (by rfl)];refine Xn ?_ Q5;refine yd ?_;intro a w' ha hw';exact⟨ha.df,_,rfl,.tuple #[],by simp [results,Tryz.results30],rfl,rfl,hw'.tl⟩
section
variable {P:Program}{ops:Array Oper}{Q:Exit->Act->World->Prop}{N:Nat}{M:List Nat}{W:World}{E:Env}{O:List Qb}{o:Oper}{rest:List Oper}
theorem Qgh[dq:DQ]{fn:Fn}{x:Tmp}{caps:Array Value}(ho:o.op=.defer { callee:=.value (.tmp x),args:=#[],argTypes:=#[] })(hd:o.dst=none)(hw:Qi ops E o=some true)(hx:ev E (.tmp x)=some (.func fn #[] caps))
  (h:∀dq':DQ,dq'.D={ target:=.fn fn caps,args:=#[] }::dq.D->@lE dq' P ops Q N M W E O rest):lE P ops Q N M W E O (o::rest):=fun a w ha hW=>by
 refine wpList_step fun K hK=>?_;rw[if_pos (ha.want hw)];have hr:(execOp a.eval o).run P w=.ok (.defer { target:=.fn fn caps,args:=#[] }) w:=by
  have e:a.tmps[x]?.getD undef=.func fn #[] caps:=by
   have e:=ha.eval hx;simpa [go_sem] using e
  simp [execOp,ho,resolve,e,go_sem]
 unfold Oper.wp;rw[hr];simp only[Oper.upon];refine hK _ _ ((h ⟨{ target:=.fn fn caps,args:=#[] }::dq.D⟩ rfl) _ w ?_ hW);rw[hd];exact @Ag.mk ⟨{ target:=.fn fn caps,args:=#[] }::dq.D⟩ _ _ _ ha.sz (congrArg (List.cons _) ha.df) ha.has
theorem Qev[dq:DQ]{d:Nat}{B:List PanicEntry->World->Prop}{ι:Type}{V:ι->Value}{G:ι->List Qb}{p:ι->Prop}(h1:pE P ops N M W E O o ι V G p B)(hd:o.dst=some d)(hN:d<N)(hp:∀a ch w,Ag N E a->B ch w->Q (.panic ch) a w)(h:∀i,p i->lE P ops Q N M W ((d,V i)::E) (G i) rest):lE P ops Q N M W E O (o::rest):=fun a w ha hW=>by
 obtain⟨hw,hl⟩:=h1 a w ha hW;refine wpList_step fun K hK=>?_;rw[if_pos hw];refine Oper.wp_of_loudP hl ?_ (fun ch w' hb=>hp a ch w' ha hb);exact Qkf
end
section
variable {a out:List Int}{i k:Nat}{r:Rl}
theorem Kz(l:List Int)(k i:Nat)(b:Int)(hk:k<l.length):(l.set k b).getD i 0=if i=k then b else l.getD i 0:=by
 rw[List.getD_eq_getElem?_getD,List.getElem?_set,List.getD_eq_getElem?_getD];by_cases h:k=i
 ·subst h;simp [hk]
 ·rw[if_neg h,if_neg (fun e=>h e.symm)]
structure Lst(F:List Rl)(out:List Int):Prop where
 len:out.length=F.length
 nn:∀j:Nat,0<=out.getD j 0
 top:∀j:Nat,out.getD j 0<=1001
 post:∀(i:Nat) (r:Rl),F[i]? =some r->out.getD i 0<=min (Q5N F out r) 1001
section
variable {F:List Rl}
theorem Qbo(a b:List Int)(h:∀j:Nat,a.getD j 0<=b.getD j 0):∀(l:List Int) (m n:Int),m<=n->l.foldl (fun s x=>min s (lk a x)) m<=l.foldl (fun s x=>min s (lk b x)) n
 |[],m,n,h0=>h0
 |x::l,m,n,h0=>by
  rw[List.foldl_cons,List.foldl_cons];refine Qbo a b h l _ _ ?_;have:lk a x<=lk b x:=h _
  omega
theorem Qje(hv:Usd F){b:List Int}(hab:∀j:Nat,a.getD j 0<=b.getD j 0)(hr:F[i]? =some r):Q5N F a r<=Q5N F b r:=by
 have hl:∀x,lk a x<=lk b x:=fun x=>hab _;unfold Q5N;split
 ·exact Q71
 split
 ·exact Q71
 split
 ·exact Q71
 split
 ·next h=>have:=hl r.count;omega
 split
 ·next h=>
  have h1:=hl r.count;have h2:=Int.mul_le_mul_of_nonneg_left (hl r.elem) (hv.least hr (.inl h)).1;omega
 split
 ·exact Q3b b a r.parts 0 0 (Int.le_refl _) fun x _=>hl x
 split
 ·exact Qbo a b hab r.parts 1001 1001 (Int.le_refl _)
 ·exact Q71
theorem Lst.start(F:List Rl)(h:∀(i:Nat) (r:Rl),F[i]? =some r->0<=Q5N F (List.replicate F.length 0) r):Lst F (List.replicate F.length 0):=by
 have h0:∀j:Nat,(List.replicate F.length (0:Int)).getD j 0=0:=fun j=>by
  rw[List.getD_eq_getElem?_getD,List.getElem?_replicate];split<;>rfl
 refine⟨List.length_replicate,fun j=>by rw[h0];omega,fun j=>by rw[h0];omega,fun i r hr=>?_⟩;rw[h0];have:=h i r hr;omega
theorem Lst.put(hv:Usd F)(h:Lst F out)(hr:F[k]? =some r):Lst F (out.set k (min (Q5N F out r) 1001)):=by
 have hk:k<out.length:=by rw[h.len];exact(List.getElem?_eq_some_iff.1 hr).1
 have hp:=h.post k r hr;have h0:=h.nn k;have hge:∀j:Nat,out.getD j 0<=(out.set k (min (Q5N F out r) 1001)).getD j 0:=fun j=>by
  rw[Kz _ _ _ _ hk];split
  ·next e=>subst e;exact hp
  ·exact Q71
 refine⟨by rw[List.length_set];exact h.len,fun j=>Int.le_trans (h.nn j) (hge j),fun j=>?_,fun i q hq=>?_⟩
 ·rw[Kz _ _ _ _ hk]
  split
  ·omega
  ·exact h.top j
 ·have hm:=Qje hv hge hq;rw[Kz _ _ _ _ hk]
  split
  ·next e=>subst e;rw[hr] at hq;cases hq;omega
  ·have:=h.post i q hq;omega
end
end
end Go.Proofs.YtphkhfdmlcnoeaaGreatDoor
