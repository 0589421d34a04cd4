import Derived.Test.YtphkhfdmlcnoeaaGreatDoorP28
namespace Go.Proofs.YtphkhfdmlcnoeaaGreatDoor
set_option linter.unusedVariables false
set_option linter.unusedSimpArgs false
open Go.RowKit
theorem Wd.wroteAt{M:List Nat}{W w w':World}{O:List Qc}{g:Nat}{o o':Obj}(i:Nat)(h:Wd M W O w)(hO:O[i]? =some (.blk g o))(hk:XJ [g] w w')(ho:w'.heap[g]? =some o'):Wd M W (O.set i (.blk g o')) w':=
 h.upd hO rfl rfl ⟨hk.os,hk.tape,hk.output,hk.size,fun k hk1 hn=>hk.block k hk1 (by
  simp only[List.mem_singleton]
  intro e;subst e
  exact hn rfl)⟩ ho (fun b hb=>.inl hb)
theorem XJ.cell{W w:World}{g B:Nat}{q:Addr}(h:XJ [g] W w)(hB:B≤g)(hg:g<W.heap.size)(hq:q.block<B):w.cell? q=W.cell? q:=
 World.cell?_of_block (h.block q.block (by omega) (by simp;omega))
theorem Rd.back{W w:World}{g B s n:Nat}{A:Option Addr}{xs:List Value}(h:Rd w B s A n xs)(hk:XJ [g] W w)(hB:B≤g)(hg:g<W.heap.size):Rd W B s A n xs:=
 h.keep fun q hq=>(hk.cell hB hg hq).symm
theorem XJ.thenK{W w w':World}{g:Nat}(h:XJ [g] W w)(k:XJ [g] w w'):XJ [g] W w':=h.trans k fun b hb _=>hb
abbrev V7{α:Type}(RES:Rdg α)(g:Nat)(W:World)(ch:List PanicEntry)(w':World):Prop:=∃x:Nat,RES=some (.error x)∧ch=Jv 1 x∧XJ [g] W w'
section
variable {W w w':World}{z:Rv}{B g p i:Nat}{F:List Rl}{D:List UInt8}{O:List Qc}{o:Obj}{e:Ending}{α:Type}{RES:Rdg α}
theorem Q3n{res:Rdg (Int×Nat)}(i:Nat)(hO:O[i]? =some (.blk g o))(hw:Wd [g] W O w)(hx:∀x:Nat,res=some (.error x)→RES=some (.error x))(h:NmE z g w res e w'):ZE (fun y:Int×Nat=>.int .i64 y.1) (fun y=>res=some (.ok y)) [g] W (fun y=>O.set i (.blk g (z.obj y.2))) (V7 RES g W) e w':=by
 obtain⟨hk,⟨x,h1,h2⟩|⟨n,q,h1,h2,h3⟩⟩:=h
 ·exact .inr ⟨_,h2,x,hx x h1,rfl,hw.k.thenK hk⟩
 ·exact .inl ⟨(n,q),h2,h1,hw.wroteAt i hO hk h3⟩
theorem Q8H{res:Rdg (List UInt8×Nat)}(i:Nat)(hO:O[i]? =some (.blk g o))(hw:Wd [g] W O w)(hx:∀x:Nat,res=some (.error x)→RES=some (.error x))(hB:B≤g)(hg:g<W.heap.size)(h:ByE z B g w res e w'):ZE (fun y:(List UInt8×Nat)×Option Addr×Nat=>.slice y.2.1 y.1.1.length y.2.2) (fun y=>res=some (.ok y.1)∧Rd W B 1 y.2.1 y.1.1.length (bv y.1.1)∧y.1.1.length≤y.2.2) [g] W (fun y=>O.set i (.blk g (z.obj y.1.2))) (V7 RES g W) e w':=by
 obtain⟨hk,⟨x,h1,h2⟩|⟨l,q,A,c,h1,h2,h3,h4,h5⟩⟩:=h
 ·exact .inr ⟨_,h2,x,hx x h1,rfl,hw.k.thenK hk⟩
 ·exact .inl ⟨((l,q),A,c),h2,⟨h1,h4.back (hw.k.thenK hk) hB hg,h5⟩,hw.wroteAt i hO hk h3⟩
set_option maxRecDepth 100000 in
set_option maxHeartbeats 16000000 in
theorem YR(h:J0 W z B g F D p){r:Rl}{sb sn sp:Value}(hr:J6 r):Calls Tryz.prog 61 #[.pointer (some ⟨g,0,none⟩),.agg (ruC r sb sn sp).toArray] W (NmE z g W (JV r D p)):=by
 have H:=Lib.hid h;have hwd:=h.wd;have hp:=h.hp;have hD:=h.hD;have HNO:=Lib.hid hr;have hkind:=hr.kind;have hdec:=hr.dec;have hnum:=hr.num;obtain⟨RES,hres⟩:∃x,JV r D p=x:=⟨_,rfl⟩;have HR0:=Lib.hid hres;rw[hres];clear h hr hres;obtain⟨name,kind,bs,size,big,mn,mx,stop,count,elem,names,parts⟩:=r;obtain⟨Af,As,Ad,nn,nd,cf,cs,cd⟩:=z
 simp only at hkind hdec hnum
 have hdc:=fun(w:World) (hw:J0 w ⟨Af,As,Ad,nn,nd,cf,cs,cd⟩ B g F D p) (h3:kind=3)=>Q8l hw (r:=⟨name,kind,bs,size,big,mn,mx,stop,count,elem,names,parts⟩) (sb:=sb) (sn:=sn) (sp:=sp) ⟨(hdec h3).1,(hdec h3).2.1⟩ (hdec h3).2.2
 simp only[ruC] at hdc ⊢
 go_enter Tryz.func61,Tryz.ntmps61
 haveI:Pan (bodyPost Tryz.prog Tryz.f61 (NmE ⟨Af,As,Ad,nn,nd,cf,cs,cd⟩ g W RES)) (V7 RES g W):=Pan.body fun ch w' ⟨x,h1,h2,h3⟩=>⟨h3,.inl ⟨x,h1,by rw[h2]⟩⟩
 refine QE (M:=[g]) (W:=W) (N:=57) (E:=[(0,.pointer (some ⟨g,0,none⟩)),(1,.agg [.string ⟨name.toArray⟩,.int .i64 kind,sb,.int .i64 size,.bool big,.int .i64 mn,.int .i64 mx,.int .i64 stop,.int .i64 count,.int .i64 elem,sn,sp].toArray)]) (O:=[.blk g (.cells ([.slice Af nn cf,.slice As nn cs,.slice Ad nd cd,.int .i64 (p:Int)]:List Value).toArray 60 (0,0))]) ?_ (Ag.cons (Ag.cons (Ag.nil rfl rfl) rfl) rfl) hwd;clear hwd
 by_cases h3:kind=3
 ·subst h3;have HRE:=Lib.hid (show RES=ZN stop mx (D.drop p) false 0 p by rw[← HR0.out];unfold JV;rw[if_pos rfl]);refine yq<|yr ?_;refine yB fun b3=>?_;refine yo zA<|yl<|yn<|yq<|yq<|yr<|yo zF<|yo (zB 0)<|yo zet<|yl<|yn<|y1<|yq<|yr<|yo zM<|yo (zD 0) ?_;refine XY (QV _ _ _ rfl rfl rfl (fun w hw=>(hdc w (H.out.next hw.k hp (hw.own 1 _ rfl)) rfl).mono (fun e w' h=>Q3n 1 rfl hw (fun x hx=>HRE.out.trans hx) h))) rfl (by decide) (fun y hy=>?_);refine yo zA<|yl<|yn<|yt<|yc ?_;exact Q7 (by exact .inr rfl) rfl (.tmp rfl) (fun w hw=>⟨hw.k,.inr ⟨y.1,y.2,HRE.out.trans hy,rfl,hw.own 1 _ rfl⟩⟩)
 ·have h2:kind=2:=hkind.resolve_right h3;subst h2;obtain⟨hs1,hs4,hm0,hmm,hmx⟩:=hnum rfl;obtain⟨sz,rfl⟩:∃sz:Nat,size=(sz:Int):=⟨size.toNat,by omega⟩;have HRE:=Lib.hid (show RES=rb (ZQ D p (sz:Int)) fun y=>if QR big y.1<mn∨mx<QR big y.1 then erR p else okR (QR big y.1,y.2) by rw[← HR0.out];unfold JV;rw[if_neg (show ¬(2:Int)=3 by decide)]);clear hdc hdec hnum hkind;refine yq<|yr ?_;refine yB fun b3=>?_;refine yo zA<|yl<|yn<|yq<|yq<|yr<|yo zF<|yo (zB 0)<|yo zef<|yl<|yn<|y0<|ys<|yn<|yq<|yr<|yo zM ?_;refine Q1 (Qp rfl rfl (by decide) rfl rfl) ?_;refine yo zF<|yo (zB 1)<|yo zA<|yl<|yn<|yq<|yr<|yo zA<|yl<|yn<|yq<|yq<|yr<|yo zM<|yo zF<|yo (zB 0) ?_;refine XY (QV _ _ _ rfl rfl rfl (fun w hw=>(Q0r (H.out.next hw.k hp (hw.own 1 _ rfl)) (n:=(sz:Int)) (by omega) (by omega)).mono (fun e w' h=>Q8H 1 rfl hw (fun x hx=>by rw[HRE.out,hx];rfl) H.out.hB H.out.lt h))) rfl (by decide) (fun y hy=>?_);refine yo zL<|yo zM<|yl<|yn<|yb ?_;obtain⟨⟨l,q⟩,A,c⟩:=y;obtain⟨hy1,hyr,hyc⟩:=hy;obtain⟨hlq,_⟩:=Zn hy1
  have hll:l.length≤4:=by
   have:l=(D.drop p).take ((sz:Int)).toNat:=congrArg Prod.fst hlq;rw[this,List.length_take];omega
  have HRF:=Lib.hid (show RES=if QR big l<mn∨mx<QR big l then erR p else okR (QR big l,q) by rw[HRE.out,hy1];rfl);have HYR:=Lib.hid hyr;clear hy1 hyr hlq;refine Z8 (ι:=Nat) (fun i=>i≤l.length) (fun i=>l.length - i) (fun i=>[(0,.pointer (some ⟨g,0,none⟩)),(3,.pointer (some ⟨b3,0,none⟩)),(5,.int .i64 (p:Int)),(6,.int .i64 (QR big (l.take i))),(22,.slice A l.length c),(23,.int .i64 (l.length:Int)),(24,.int .i64 (i:Int))]) (fun i=>[.blk b3 (.cells ([.string ⟨name.toArray⟩,.int .i64 2,sb,.int .i64 (sz:Int),.bool big,.int .i64 mn,.int .i64 mx,.int .i64 stop,.int .i64 count,.int .i64 elem,sn,sp]:List Value).toArray 65 (0,0)),.blk g (.cells ([.slice Af nn cf,.slice As nn cs,.slice Ad nd cd,.int .i64 (q:Int)]:List Value).toArray 60 (0,0))]) 0 (Nat.zero_le _) (.cons rfl rfl (.cons rfl rfl (.cons rfl rfl (.cons rfl (by rw[List.take_zero];cases big<;>rfl) (.cons rfl rfl (.cons rfl rfl (.cons rfl rfl .nil))))))) (fun w hw=>hw) ?_;intro i hi
  show sE _ _ _ _ _ [(0,.pointer (some ⟨g,0,none⟩)),(3,.pointer (some ⟨b3,0,none⟩)),(5,.int .i64 (p:Int)),(6,.int .i64 (QR big (l.take i))),(22,.slice A l.length c),(23,.int .i64 (l.length:Int)),(24,.int .i64 (i:Int))] [.blk b3 (.cells ([.string ⟨name.toArray⟩,.int .i64 2,sb,.int .i64 (sz:Int),.bool big,.int .i64 mn,.int .i64 mx,.int .i64 stop,.int .i64 count,.int .i64 elem,sn,sp]:List Value).toArray 65 (0,0)),.blk g (.cells ([.slice Af nn cf,.slice As nn cs,.slice Ad nd cd,.int .i64 (q:Int)]:List Value).toArray 60 (0,0))] _
  by_cases hin:i<l.length
  ·obtain⟨b,hb⟩:∃b,l[i]? =some b:=⟨_,List.getElem?_eq_getElem hin⟩;obtain⟨qb,ob,rfl,hqB,hcell⟩:=Q9b HYR.out hb
   have hqg:¬qb=g:=by have:=H.out.hB;omega
   have hcv:=Yx b
   have htl:(l.take i).length=i:=by rw[List.length_take];omega
   have htk:l.take i++[b]=l.take (i+1):=by rw[List.take_add_one,hb];rfl
   cases big with
   |true=>
    obtain⟨s1,s2,s3,s4⟩:=Qbo (l:=l.take i) (c:=b) (by omega);rw[htk] at s2;refine yq<|yr<|yo zlt<|yl<|yn<|yq<|y1<|ys<|yn<|yq<|yb<|yq<|yr<|yo zM<|yo zi1 ?_;refine Q1 (QW rfl rfl (by decide) rfl rfl (fun w hw=>hw.cell_old hcell (by simpa using hqg))) ?_;refine yo zA<|yo zA<|yl<|yn<|yq<|yr<|yo zF<|yo (zB 0)<|yl<|yn<|y1<|yr<|yo zM ?_;refine Q1 (Qe3 rfl rfl (by decide) rfl rfl rfl (by decide) s1 (by omega)) ?_;refine yo zM ?_;refine Q1 (XE rfl rfl (by decide) rfl rfl rfl Tryz.underlying3 hcv) ?_;refine Q1 (Qf3 rfl rfl (by decide) rfl rfl rfl s2) ?_;refine yo zA<|yl<|yn<|yr<|yo zP<|yo zM<|yl ?_;refine Xb (i+1) hin (by show l.length - (i+1)<l.length - i;omega) (.cons rfl rfl (.cons rfl rfl (.cons rfl rfl (.cons rfl rfl (.cons rfl rfl (.cons rfl rfl (.cons rfl (by go_num) .nil))))))) (fun w hw=>hw)
   |false=>
    obtain⟨s1,s2,s3,s4⟩:=Q5X (l:=l.take i) (c:=b) (by omega);rw[htk] at s2;rw[htl] at s1 s2 s3 s4;refine yq<|yr<|yo zlt<|yl<|yn<|yq<|y1<|ys<|yn<|yq<|yb<|yq<|yr<|yo zM<|yo zi1 ?_;refine Q1 (QW rfl rfl (by decide) rfl rfl (fun w hw=>hw.cell_old hcell (by simpa using hqg))) ?_;refine yo zA<|yo zA<|yl<|yn<|yq<|yr<|yo zF<|yo (zB 0)<|yl<|yn<|y0<|yr<|yo zM<|yo zM ?_;refine Q1 (XE rfl rfl (by decide) rfl rfl rfl Tryz.underlying3 hcv) ?_;refine yo zM ?_;refine Q1 (Kw (k:=.i64) rfl rfl (by decide) rfl rfl rfl (IntWalk.i64_in _ (by omega))) ?_;refine Q1 (Qe3 rfl rfl (by decide) rfl rfl rfl (by omega) s1 (by omega)) ?_;refine Q1 (Qf3 rfl rfl (by decide) rfl rfl rfl s2) ?_;refine yo zA<|yl<|yn<|yr<|yo zP<|yo zM<|yl ?_;refine Xb (i+1) hin (by show l.length - (i+1)<l.length - i;omega) (.cons rfl rfl (.cons rfl rfl (.cons rfl rfl (.cons rfl rfl (.cons rfl rfl (.cons rfl rfl (.cons rfl (by go_num) .nil))))))) (fun w hw=>hw)
  ·have hil:i=l.length:=by omega
   subst hil;rw[List.take_length]
   by_cases hlo:QR big l<mn
   ·have HE:=Lib.hid (show RES=some (.error p) by rw[HRF.out,if_pos (.inl hlo)];rfl);refine yq<|yr<|yo zlf<|yl<|yn<|yq<|y0<|ye<|yn<|yq<|yq<|yr<|yo zM<|yo zF<|yo (zB 0)<|yo zlt<|yo zM<|yo zS<|yo zS<|yo zS<|yo zS<|yo zY<|yl<|yn<|y1<|yr<|yo zM ?_;exact XY (QV _ _ _ rfl rfl rfl (fun w hw=>Zp hw (fun w' hw'=>⟨p,HE.out,rfl,hw'.k⟩))) rfl (by decide) (fun i=>i.elim)
   ·by_cases hhi:mx<QR big l
    ·have HE:=Lib.hid (show RES=some (.error p) by rw[HRF.out,if_pos (.inr hhi)];rfl);refine yq<|yr<|yo zlf<|yl<|yn<|yq<|y0<|ye<|yn<|yq<|yq<|yr<|yo zM<|yo zF<|yo (zB 0)<|yo zlf<|yo zM<|yo zM<|yo zF<|yo (zB 0)<|yo zgt<|yo zN<|yl<|yn<|y1<|yr<|yo zM ?_;exact XY (QV _ _ _ rfl rfl rfl (fun w hw=>Zp hw (fun w' hw'=>⟨p,HE.out,rfl,hw'.k⟩))) rfl (by decide) (fun i=>i.elim)
    ·have HE:=Lib.hid (show RES=some (.ok (QR big l,q)) by rw[HRF.out,if_neg (by omega)];rfl);refine yq<|yr<|yo zlf<|yl<|yn<|yq<|y0<|ye<|yn<|yq<|yq<|yr<|yo zM<|yo zF<|yo (zB 0)<|yo zlf<|yo zM<|yo zM<|yo zF<|yo (zB 0)<|yo zgf<|yo zN<|yl<|yn<|y0<|ys<|yn<|yq<|yr<|yo zM<|yo zA<|yl<|yn<|yt ?_;exact Q7 (by exact .inr rfl) rfl (.tmp rfl) (fun w hw=>⟨hw.k,.inr ⟨QR big l,q,HE.out,rfl,hw.own 1 _ rfl⟩⟩)
end
theorem Q9d{t e:TypeId}(h:Tryz.prog.underlying t=some (.slice e))(w:World)(a:Option Addr)(n c:Nat):(binOp .eql t (.slice a n c) (.slice none 0 0)).run Tryz.prog w=.ok (.bool a.isNone) w:=by
 simp only[binOp]
 simp [Op.equal,Op.maxDepth,Lib.run_equalIn_slice_nil w 9999 t e a n c 0 0 h]
theorem Q46(w:World)(e:TypeId):(w.alloc (.cells #[] e)).ownsRow w.heap.size e 1 (.slice (some ⟨w.heap.size,0,none⟩) 0 0) 0 []:=
 ⟨rfl,.inr ⟨w.heap.size,0,#[],rfl,Nat.le_refl _,heap_alloc_new w _,Nat.le_refl _,Nat.zero_le _,rfl,rfl⟩⟩
def Q9D(w:World)(n:Nat)(xs:List UInt8)(e:Ending)(w':World):Prop:=∃A c,e=.returned (.slice A n c)∧w'.ownsRow w.heap.size 5 1 (.slice A n c) n (bv xs)∧Below w.heap.size w w'
set_option maxRecDepth 100000 in
theorem Q5C{w:World}{A:Option Addr}{n c:Nat}{xs:List UInt8}(h:Rd w w.heap.size 1 A n (bv xs))(hn:n≤1048576):Calls Tryz.prog 99 #[.slice A n c] w (Q9D w n xs):=by
 have heq:=Q9d Tryz.underlying25
 rcases A with _|ad
 ·have h0:n=0:=by
   rcases Nat.eq_zero_or_pos n with h0|h0
   ·exact h0
   ·obtain⟨b,o,e,_⟩:=h.2 h0;cases e
  subst h0;have hx:=h.empty;have HX:=Lib.hid hx;clear h hx
  go_enter Tryz.func99,Tryz.ntmps99
  go_wp2_with fail
  go_ret
  exact⟨none,0,rfl,by rw[HX.out];exact World.ownsRow_nil _ _ _ _,Below.refl _ _⟩
 ·have HR:=Lib.hid h;clear h
  go_enter Tryz.func99,Tryz.ntmps99
  go_wp2_with (at_builtin;refine XU _ slB rfl (.tmp 5) (.tmp 6) rfl w.heap.size _ 0 0 [] rfl (Q46 w _) w.heap.size (some ad) n c (bv xs) rfl (HR.out.below (Zm _ _)) (ZO _) (by omega) (by simp only[Q4];omega) (Zm _ _) (Nat.le_refl _) ?_;intro A2 c2 w2 hown2 _ hb2;simp only[Nat.zero_add,List.nil_append] at hown2)
  go_ret
  exact⟨A2,c2,by simp,hown2,hb2⟩
def Q4k(w:World)(n:Nat)(xs:List (List UInt8))(e:Ending)(w':World):Prop:=∃A c,e=.returned (.slice A n c)∧w'.ownsRow w.heap.size 9 1 (.slice A n c) n (sv xs)∧Below w.heap.size w w'
set_option maxRecDepth 100000 in
theorem Q5y{w:World}{A:Option Addr}{n c:Nat}{xs:List (List UInt8)}(h:Rd w w.heap.size 1 A n (sv xs))(hn:n≤1048576):Calls Tryz.prog 111 #[.slice A n c] w (Q4k w n xs):=by
 have heq:=Q9d Tryz.underlying27
 rcases A with _|ad
 ·have h0:n=0:=by
   rcases Nat.eq_zero_or_pos n with h0|h0
   ·exact h0
   ·obtain⟨b,o,e,_⟩:=h.2 h0;cases e
  subst h0;have hx:=h.empty;have HX:=Lib.hid hx;clear h hx
  go_enter Tryz.func111,Tryz.ntmps111
  go_wp2_with fail
  go_ret
  exact⟨none,0,rfl,by rw[HX.out];exact World.ownsRow_nil _ _ _ _,Below.refl _ _⟩
 ·have HR:=Lib.hid h;clear h
  go_enter Tryz.func111,Tryz.ntmps111
  go_wp2_with (at_builtin;refine XU _ slS rfl (.tmp 5) (.tmp 6) rfl w.heap.size _ 0 0 [] rfl (Q46 w _) w.heap.size (some ad) n c (sv xs) rfl (HR.out.below (Zm _ _)) (Qeb _) (by omega) (by simp only[Q4];omega) (Zm _ _) (Nat.le_refl _) ?_;intro A2 c2 w2 hown2 _ hb2;simp only[Nat.zero_add,List.nil_append] at hown2)
  go_ret
  exact⟨A2,c2,by simp,hown2,hb2⟩
theorem Vg(A:Option Addr)(n c:Nat)(w:World):Calls Tryz.prog 59 #[.slice A n c] w fun e w'=>e=.returned (.agg #[.int .i64 3,.int .i64 0,.slice none 0 0,.slice none 0 0,.slice A n c])∧Below w.heap.size w w':=by
 go_enter Tryz.func59,Tryz.ntmps59
 go_wp2
 exact bodyPost_ret (v:=.agg #[.int .i64 3,.int .i64 0,.slice none 0 0,.slice none 0 0,.slice A n c]) (by simp [results,Tryz.results59,go_sem]) rfl ⟨rfl,Zm _ _⟩
theorem K9(n:Int)(w:World):Calls Tryz.prog 60 #[.int .i64 n] w fun e w'=>e=.returned (.agg #[.int .i64 1,.int .i64 n,.slice none 0 0,.slice none 0 0,.slice none 0 0])∧Below w.heap.size w w':=by
 go_enter Tryz.func60,Tryz.ntmps60
 go_wp2
 exact bodyPost_ret (v:=.agg #[.int .i64 1,.int .i64 n,.slice none 0 0,.slice none 0 0,.slice none 0 0]) (by simp [results,Tryz.results60,go_sem]) rfl ⟨rfl,Zm _ _⟩
def MbE(W:World)(xs:List UInt8)(e:Ending)(w':World):Prop:=∃A c,e=.returned (.agg #[.int .i64 2,.int .i64 0,.slice A xs.length c,.slice none 0 0,.slice none 0 0])∧xs.length≤c∧New [.rd A xs.length 1 (bv xs)] W.heap.size w'∧Below W.heap.size W w'
theorem Q5n{W w:World}{A:Option Addr}{n c:Nat}{xs:List Value}{e:TypeId}{m:Nat}(h:w.ownsRow m e 1 (.slice A n c) n xs):n≤c∧New [.rd A n 1 xs] m w:=by
 refine⟨?_,⟨by simp [Qc.w],fun x hx=>?_,fun x hx b hb=>?_⟩⟩
 ·rcases h.2 with ⟨hv,_⟩|⟨g,cap,cur,hv,_,_,h1,_⟩
  ·simp only[Value.slice.injEq] at hv;omega
  ·simp only[Value.slice.injEq] at hv;omega
 ·rw[List.mem_singleton] at hx;subst hx;exact Rd.of_own h
 ·rw[List.mem_singleton] at hx;subst hx
  simp only[Qc.foot] at hb
  split at hb
  ·cases hb
  ·rename_i hn
   rcases h.2 with ⟨hv,_⟩|⟨g,cap,cur,hv,hg,_⟩
   ·simp only[Value.slice.injEq] at hv;exact absurd hv.2.1 hn
   ·simp only[Value.slice.injEq] at hv
    rw[hv.1] at hb
    cases hb
    exact hg
set_option maxRecDepth 100000 in
theorem Y4{W:World}{A:Option Addr}{n c:Nat}{xs:List UInt8}(h:Rd W W.heap.size 1 A n (bv xs))(hn:n≤1048576):Calls Tryz.prog 62 #[.slice A n c] W (MbE W xs):=by
 have hl:xs.length=n:=by have:=h.len;rw[Xu] at this;exact this
 subst hl;have HR:=Lib.hid h;clear h
 go_enter Tryz.func62,Tryz.ntmps62
 refine QE (M:=[]) (W:=W) (N:=6) (E:=[(0,.slice A xs.length c)]) (O:=[]) ?_ (Ag.cons (Ag.nil rfl rfl) rfl) (Wd.start [] W);refine yq<|yr ?_;refine yA fun b2=>?_;refine yl<|yn<|yq<|yr<|yo zM ?_;refine Qo (QM (fun y:Option Addr×Nat=>.slice y.1 xs.length y.2) (fun y=>xs.length≤y.2∧∀b,(Qc.rd y.1 xs.length 1 (bv xs)).foot=some b→W.heap.size≤b) (fun y=>[.blk b2 (.cells ([.int .i64 0,.int .i64 0,.slice none 0 0,.slice none 0 0,.slice none 0 0]:List Value).toArray 30 (0,0)),.rd y.1 xs.length 1 (bv xs)]) rfl rfl rfl (fun w hw=>(Q5C ((HR.out.below hw.k.below).more hw.k.size) hn).mono (fun e w' ⟨A2,c2,he,hown,hb⟩=>⟨(A2,c2),he,⟨(Q5n (W:=w) hown).1,fun b hf=>Nat.le_trans hw.k.size ((Q5n (W:=w) hown).2.far _ List.mem_cons_self b hf)⟩,hw.made hb (Q5n (W:=w) hown).2⟩))) rfl (by decide) (fun y hy=>?_);refine Q1 (QO (xs:=[(0,.const (.int .i64 2)),(2,.tmp 4)]) (vs:=[(0,.int .i64 2),(2,.slice y.1 xs.length y.2)]) (v:=.agg #[.int .i64 2,.int .i64 0,.slice y.1 xs.length y.2,.slice none 0 0,.slice none 0 0]) rfl rfl (by decide) rfl rfl (fun w=>run_build w _ _ _ (by kernel_rfl))) ?_;refine yW 0 ?_;refine yl<|yn<|yt ?_;exact Q7 (by exact .inr rfl) rfl (RsV.blk 0 rfl rfl rfl) (fun w hw=>⟨y.1,y.2,rfl,hy.1,⟨by simp [Qc.w],fun x hx=>by rw[List.mem_singleton] at hx;subst hx;exact hw.own 1 _ rfl,fun x hx b hb=>by rw[List.mem_singleton] at hx;subst hx;exact hy.2 b hb⟩,hw.k.below⟩)
section
variable {P:Program}{ops:Array Oper}{Q:Exit→Act→World→Prop}{N:Nat}{E E':Env}{o:Oper}{rest:List Oper}{M:List Nat}{W:World}{O O0:List Qc}{d:Nat}{B:List PanicEntry→World→Prop}{T:List Nat}{f:Nat}{listed:Array Bool}
theorem Q1m(k:Nat)(hB:Region.ready .any ops listed=[k])(ho:ops[k]? =some o)(hT:Q2 M W O0 O)(h1:oE P ops (Wd M W O) N E E' o)(h2:dP P ops Q N M W O0 T B f (listed.setIfInBounds k true) E' O):dP P ops Q N M W O0 T B (f+1) listed E O:=fun hcl a ha=>by
 refine⟨fun h0=>absurd (hB.symm.trans h0) (by simp),fun i hi=>?_⟩;rw[hB] at hi;rw[List.mem_singleton] at hi;subst hi
 have hr':i∈Region.ready .any ops listed:=by rw[hB];exact List.mem_singleton.2 rfl
 have h:=h1 a ha
 have key:∀{v:Value},Zw P ops (Wd M W O) o a v→Ag N E' (a.put o.dst v)→stepPn P ops (Wd M W O0) T B i a (Wd M W O) (Q5w P ops (Wd M W O0) T B Q f (listed.setIfInBounds i true)):=fun hq hE=>by
  have h0:=Zw.stepPn (P:=P) (ops:=ops) (T:=T) (B:=B) (C0:=Wd M W O) (D:=Wd M W O) (K:=Q5w P ops (Wd M W O0) T B Q f (listed.setIfInBounds i true)) ho hq Wd.stb (fun w hw=>hw) (h2 (hcl.set hr') _ hE)
  unfold stepPn at h0 ⊢
  simp only[ho] at h0 ⊢
  rcases h0 with h0|⟨hw,ι,V,G,h1,h2,h3⟩
  ·exact .inl h0
  ·refine .inr ⟨hw,ι,V,G,h1,fun x=>⟨(h2 x).1,?_⟩,h3⟩
   rcases (h2 x).2 with hx|hx
   ·exact .inl hx
   ·exact .inr fun w hw=>hT w (hx w hw)
 split at h
 ·rename_i hw
  obtain⟨v,hv,hE⟩:=h;exact key (.inl ⟨hw,hv⟩) hE
 ·rename_i hw
  exact key (.inr ⟨by simpa using hw,rfl⟩) h
theorem Qck(k:Nat){ι:Type}{V:ι→Value}{G:ι→List Qc}{p:ι→Prop}(hB:Region.ready .any ops listed=[k])(ho:ops[k]? =some o)(hw:Qj ops E o=some true)(h1:pE P ops N M W E O o ι V G p B)(hT:∀i,k∈T∨Q2 M W O0 (G i))(hd:o.dst=none)(h:∀i,p i→dP P ops Q N M W O0 T B f (listed.setIfInBounds k true) E (G i)):dP P ops Q N M W O0 T B (f+1) listed E O:=fun hcl a ha=>by
 refine⟨fun h0=>absurd (hB.symm.trans h0) (by simp),fun i hi=>?_⟩;rw[hB] at hi;rw[List.mem_singleton] at hi;subst hi
 have hr':i∈Region.ready .any ops listed:=by rw[hB];exact List.mem_singleton.2 rfl
 by_cases hne:∃w,Wd M W O w
 ·exact Q6V ho ha hne h1 hT fun x hp=>h x hp (hcl.set hr') _ (by rw[hd];exact ha)
 ·exact Q6q hne ho (ha.want hw)
end
theorem XJ.belowB{W w:World}{g B:Nat}(h:XJ [g] W w)(hB:B≤g)(hg:g<W.heap.size):Below B W w:=⟨h.os,h.tape,h.output,h.size,fun k hk=>h.block k (by omega) (by simp;omega)⟩
theorem XA.nilList:XA [] (.agg #[.int .i64 3,.int .i64 0,.slice none 0 0,.slice none 0 0,.slice none 0 0]) ndL .nil:=
 ⟨_,_,_,rfl,fun w _=>⟨none,0,0,none,0,0,none,0,rfl,rfl,rfl,Nat.le_refl _,Nat.le_refl _,Nat.le_refl _,Nat.zero_le _,ZM _ _ _,ZM _ _ _,fun h=>absurd h (Nat.lt_irrefl 0)⟩⟩
section
variable {W w w':World}{z:Rv}{B g p i:Nat}{F:List Rl}{D:List UInt8}{O:List Qc}{o:Obj}{e:Ending}{α:Type}{RES:Rdg α}
theorem QeP{res:Rdg Nat}(i:Nat)(hO:O[i]? =some (.blk g o))(hw:Wd [g] W O w)(hx:∀x:Nat,res=some (.error x)→RES=some (.error x))(h:LtE z g w res e w'):ZE (fun _:Nat=>.tuple #[]) (fun y=>res=some (.ok y)) [g] W (fun y=>O.set i (.blk g (z.obj y))) (V7 RES g W) e w':=by
 obtain⟨hk,⟨x,h1,h2⟩|⟨q,h1,h2,h3⟩⟩:=h
 ·exact .inr ⟨_,h2,x,hx x h1,rfl,hw.k.thenK hk⟩
 ·exact .inl ⟨q,h2,h1,hw.wroteAt i hO hk h3⟩
theorem Qeg{res:Rdg Nat}(i:Nat)(hO:O[i]? =some (.blk g o))(hw:Wd [g] W O w)(hx:∀x:Nat,res=some (.error x)→RES=some (.error x))(hB:B≤g)(hg:g<W.heap.size)(h:UtE z B g D p w res e w'):ZE (fun y:Nat×Option Addr×Nat=>.slice y.2.1 ((D.drop p).take (y.1 - p)).length y.2.2) (fun y=>res=some (.ok y.1)∧Rd W B 1 y.2.1 ((D.drop p).take (y.1 - p)).length (bv ((D.drop p).take (y.1 - p)))) [g] W (fun y=>O.set i (.blk g (z.obj (y.1+1)))) (V7 RES g W) e w':=by
 obtain⟨hk,⟨x,h1,h2⟩|⟨q,A,c,h1,h2,h3,h4,h5⟩⟩:=h
 ·exact .inr ⟨_,h2,x,hx x h1,rfl,hw.k.thenK hk⟩
 ·exact .inl ⟨(q,A,c),h2,⟨h1,h4.back (hw.k.thenK hk) hB hg⟩,hw.wroteAt i hO hk h3⟩
theorem Q8f{M:List Nat}{xs:List UInt8}(hw:Wd M W O w)(h:MbE w xs e w'):XR (fun y:Option Addr×Nat=>.agg #[.int .i64 2,.int .i64 0,.slice y.1 xs.length y.2,.slice none 0 0,.slice none 0 0]) (fun y=>xs.length≤y.2∧∀b,(Qc.rd y.1 xs.length 1 (bv xs)).foot=some b→W.heap.size≤b) M W (fun y=>O++[.rd y.1 xs.length 1 (bv xs)]) e w':=by
 obtain⟨A,c,he,hc,hn,hb⟩:=h;exact⟨(A,c),he,⟨hc,fun b hf=>Nat.le_trans hw.k.size (hn.far _ List.mem_cons_self b hf)⟩,hw.made hb hn⟩
theorem Vl{A:Option Addr}{n s:Nat}{xs:List Value}{m:Nat}(h:(Qc.rd A n s xs).on w)(hf:∀b,(Qc.rd A n s xs).foot=some b→m≤b):New [.rd A n s xs] m w:=
 ⟨by simp [Qc.w],fun x hx=>by rw[List.mem_singleton] at hx;subst hx;exact h,fun x hx b hb=>by rw[List.mem_singleton] at hx;subst hx;exact hf b hb⟩
theorem J0.af(h:J0 W z B g F D p)(hn:0<z.n):∃b o,z.Af=some ⟨b,o,none⟩:=by
 obtain⟨b,o,e,_⟩:=h.env.fm.2 hn;exact⟨b,o,e⟩
set_option maxRecDepth 100000 in
set_option maxHeartbeats 32000000 in
theorem Q7M(hv:Fm F)(f:Nat){k:Int}(hk:0≤k∧k<F.length)(h:J0 W z B g F D p)(hkind:(Qd F k).kind=1∨(Qd F k).kind=2∨(Qd F k).kind=3∨(Qd F k).kind=4∨(Qd F k).kind=5):
  Calls Tryz.prog 32 #[.pointer (some ⟨g,0,none⟩),.int .i64 k] W (VlE z g W (Qx F D (f+1) k p)):=by
 have H:=Lib.hid h;have hwd:=h.wd;have hp:=h.hp;have hD:=h.hD;have hFn:=h.len.2;have hr:=hv.toUsd.rok hk;obtain⟨RES,hres⟩:∃x,Qx F D (f+1) k p=x:=⟨_,rfl⟩
 have e1:=fun h=>(Qdu (F:=F) (D:=D) (f:=f) (p:=p) (k:=k) h).symm.trans hres
 have e23:=fun h=>(Qbm (F:=F) (D:=D) (f:=f) (p:=p) (k:=k) h).symm.trans hres
 have e4:=fun h=>(Qdm (F:=F) (D:=D) (f:=f) (p:=p) (k:=k) h).symm.trans hres
 have e5:=fun h=>(Qdk (F:=F) (D:=D) (f:=f) (p:=p) (k:=k) h).symm.trans hres
 rw[hres];obtain⟨Af,As,Ad,nn,nd,cf,cs,cd⟩:=z
 simp only at hFn
 obtain⟨bf,of,haf⟩:=h.af (show 0<nn by omega)
 simp only at haf
 subst haf;obtain⟨hbB,Ab,cb,An,cn,Ap,cp,hrg,hru⟩:=h.env.fm.ruleB (k:=k) (by simp only;omega)
 have hbg:¬bf=g:=by have:=h.hB;omega
 have hkn:0≤k∧k<(nn:Int):=by omega
 clear h hres;obtain⟨r,er⟩:∃r,Qd F k=r:=⟨_,rfl⟩;rw[er] at hkind hr hrg hru e1 e23 e4 e5;clear er;have HRK:=Lib.hid hr;have HRU:=Lib.hid hru;have hbs16:=hr.bs16;have hs4:=hr.size4;clear hru;obtain⟨name,kind,bs,size,big,mn,mx,stop,count,elem,names,parts⟩:=r
 simp only[ruC] at hkind hr hrg e1 e23 e4 e5 hbs16 hs4
 have HRB:=Lib.hid (show Rd W B 1 Ab bs.length (bv bs) from HRU.out.b)
 go_enter Tryz.func32,Tryz.ntmps32
 haveI:Pan (bodyPost Tryz.prog Tryz.f32 (VlE ⟨some ⟨bf,of,none⟩,As,Ad,nn,nd,cf,cs,cd⟩ g W RES)) (V7 RES g W):=Pan.body fun ch w' ⟨x,h1,h2,h3⟩=>⟨h3,.inl ⟨x,h1,by rw[h2]⟩⟩
 refine QE (M:=[g]) (W:=W) (N:=181) (E:=[(0,.pointer (some ⟨g,0,none⟩)),(1,.int .i64 k)]) (O:=[.blk g (.cells ([.slice (some ⟨bf,of,none⟩) nn cf,.slice As nn cs,.slice Ad nd cd,.int .i64 (p:Int)]:List Value).toArray 60 (0,0))]) ?_ (Ag.cons (Ag.cons (Ag.nil rfl rfl) rfl) rfl) hwd;clear hwd;refine yq<|yr ?_;refine yB fun b2=>?_;refine yA fun b4=>?_;refine yl<|yn<|yq<|yr<|yo (zB 1) ?_;refine Q1 (Qp rfl rfl (by decide) rfl rfl) ?_;refine yo zF<|yo zF<|yo (zB 2)<|yo zM ?_;refine Q1 (Qm rfl rfl (by decide) rfl rfl rfl hkn) ?_;refine Q1 (QB rfl rfl (by decide) rfl rfl (fun w hw=>hw.range_old hrg (by simpa using hbg)) rfl) ?_;refine yA fun b5=>?_;refine yW 0 ?_;refine yl<|yn<|yq<|yq<|yr<|yo zF<|yo (zB 0)<|yl ?_
 rcases hkind with rfl|rfl|rfl|rfl|rfl
 ·have HE:=Lib.hid (e1 rfl);clear e1 e23 e4 e5;refine yn<|yb<|yq<|yr<|yo zet<|yo zA<|yl<|yn<|y1<|yq<|yr<|yo (zB 2)<|yo zF<|yo (zB 0) ?_;refine XY (QV _ _ _ rfl rfl rfl (fun w hw=>(Q3T (H.out.next hw.k hp (hw.own 3 _ rfl)) (HRB.out.below (hw.k.belowB H.out.hB H.out.lt)) (by omega)).mono (fun e w' h=>QeP 3 rfl hw (fun x hx=>by rw[← HE.out,hx];rfl) h))) rfl (by decide) (fun q hq=>?_);refine yl<|yn<|yq<|yr ?_;refine Q1 (Qb rfl rfl (by decide) rfl rfl (fun w hw=>Vg _ _ _ w)) ?_;refine yW 1 ?_;refine yl<|yn<|yt<|yk<|yc ?_;exact Q7 (by exact .inr rfl) rfl (RsV.blk 1 rfl rfl rfl) (fun w hw=>⟨hw.k,.inr ⟨ndL,.nil,q,_,[],by rw[← HE.out,hq];rfl,rfl,hw.own 3 _ rfl,XA.nilList,New.nil _ _⟩⟩)
 ·have HE:=Lib.hid (e23 (.inl rfl));clear e1 e23 e4 e5;refine yn<|yb<|yq<|yr<|yo zef<|yo zA<|yl<|yn<|y0<|yq<|yq<|yr<|yo zet<|yo zA<|yl<|yn<|y1<|ys<|yn<|y1<|yq<|yr<|yo (zB 2)<|yo (zD 0) ?_;refine XY (QV _ _ _ rfl rfl rfl (fun w hw=>(YR (H.out.next hw.k hp (hw.own 3 _ rfl)) (J6.of HRK.out (.inl rfl))).mono (fun e w' h=>Q3n 3 rfl hw (fun x hx=>by rw[← HE.out,hx];rfl) h))) rfl (by decide) (fun y hy=>?_);refine Q1 (Qb rfl rfl (by decide) rfl rfl (fun w hw=>K9 _ w)) ?_;refine yW 1 ?_;refine yl<|yn<|yt<|yk<|yc ?_;exact Q7 (by exact .inr rfl) rfl (RsV.blk 1 rfl rfl rfl) (fun w hw=>⟨hw.k,.inr ⟨ndN y.1,.nil,y.2,_,[],by rw[← HE.out,hy];rfl,rfl,hw.own 3 _ rfl,XA.num _,New.nil _ _⟩⟩)
 ·have HE:=Lib.hid (e23 (.inr rfl));clear e1 e23 e4 e5;refine yn<|yb<|yq<|yr<|yo zef<|yo zA<|yl<|yn<|y0<|yq<|yq<|yr<|yo zef<|yo zA<|yl<|yn<|y0<|yr<|yo zet<|yo zA<|yl<|yn<|y1<|yq<|yr<|yo (zB 2)<|yo (zD 0) ?_;refine XY (QV _ _ _ rfl rfl rfl (fun w hw=>(YR (H.out.next hw.k hp (hw.own 3 _ rfl)) (J6.of HRK.out (.inr rfl))).mono (fun e w' h=>Q3n 3 rfl hw (fun x hx=>by rw[← HE.out,hx];rfl) h))) rfl (by decide) (fun y hy=>?_);refine Q1 (Qb rfl rfl (by decide) rfl rfl (fun w hw=>K9 _ w)) ?_;refine yW 1 ?_;refine yl<|yn<|yt<|yk<|yc ?_;exact Q7 (by exact .inr rfl) rfl (RsV.blk 1 rfl rfl rfl) (fun w hw=>⟨hw.k,.inr ⟨ndN y.1,.nil,y.2,_,[],by rw[← HE.out,hy];rfl,rfl,hw.own 3 _ rfl,XA.num _,New.nil _ _⟩⟩)
 ·have HE:=Lib.hid (e4 rfl);have hsz:=hs4 rfl;clear e1 e23 e4 e5;refine yn<|yb<|yq<|yr<|yo zef<|yo zA<|yl<|yn<|y0<|yq<|yq<|yr<|yo zef<|yo zA<|yl<|yn<|y0<|yr<|yo zef<|yo zA<|yl<|yn<|y0<|yq<|yr<|yo zet<|yo zA<|yl<|yn<|y1<|yq<|yr<|yo (zB 2)<|yo zF<|yo (zB 0) ?_;refine XY (QV _ _ _ rfl rfl rfl (fun w hw=>(Q0r (H.out.next hw.k hp (hw.own 3 _ rfl)) (n:=size) (by omega) (by omega)).mono (fun e w' h=>Q8H 3 rfl hw (fun x hx=>by rw[← HE.out,hx];rfl) H.out.hB H.out.lt h))) rfl (by decide) (fun y hy=>?_);refine Qo (QM _ _ _ rfl rfl rfl (fun w hw=>(Y4 ((hy.2.1.below (hw.k.belowB H.out.hB H.out.lt)).more (by have:=H.out.hB;have:=H.out.lt;have:=hw.k.size;omega)) (by have:=congrArg (fun x=>x.1.length) (Zn hy.1).1;simp only[List.length_take,List.length_drop] at this;omega)).mono (fun e w' h=>Q8f hw h))) rfl (by decide) (fun u hu=>?_);refine yW 1 ?_;refine yl<|yn<|yt<|yk<|yc ?_;exact Q7 (by exact .inr rfl) rfl (RsV.blk 1 rfl rfl rfl) (fun w hw=>⟨hw.k,.inr ⟨ndB y.1.1,.nil,y.1.2,_,_,by rw[← HE.out,hy.1];rfl,rfl,hw.own 3 _ rfl,XA.bytes hu.1,Vl (hw.own 4 _ rfl) hu.2⟩⟩)
 ·have HE:=Lib.hid (e5 rfl);clear e1 e23 e4 e5;refine yn<|yb<|yq<|yr<|yo zef<|yo zA<|yl<|yn<|y0<|yq<|yq<|yr<|yo zef<|yo zA<|yl<|yn<|y0<|yr<|yo zef<|yo zA<|yl<|yn<|y0<|yq<|yr<|yo zef<|yo zA<|yl<|yn<|y0<|yq<|yr<|yo zef<|yo zA<|yl<|yn<|y0<|yq<|yr<|yo zet<|yo zA<|yl<|yn<|y1<|yq<|yr<|yo (zB 2)<|yo (zD 0) ?_;refine XY (QV _ _ _ rfl rfl rfl (fun w hw=>(Q6n (H.out.next hw.k hp (hw.own 3 _ rfl)) (r:=⟨name,5,bs,size,big,mn,mx,stop,count,elem,names,parts⟩)).mono (fun e w' h=>Qeg 3 rfl hw (fun x hx=>by rw[← HE.out,hx];rfl) H.out.hB H.out.lt h))) rfl (by decide) (fun y hy=>?_);refine Qo (QM _ _ _ rfl rfl rfl (fun w hw=>(Y4 ((hy.2.below (hw.k.belowB H.out.hB H.out.lt)).more (by have:=H.out.hB;have:=H.out.lt;have:=hw.k.size;omega)) (by rw[List.length_take,List.length_drop];omega)).mono (fun e w' h=>Q8f hw h))) rfl (by decide) (fun u hu=>?_);refine yW 1 ?_;refine yl<|yn<|yt<|yk<|yc ?_;exact Q7 (by exact .inr rfl) rfl (RsV.blk 1 rfl rfl rfl) (fun w hw=>⟨hw.k,.inr ⟨ndB ((D.drop p).take (y.1 - p)),.nil,y.1+1,_,_,by rw[← HE.out,hy.1];rfl,rfl,hw.own 3 _ rfl,XA.bytes hu.1,Vl (hw.own 4 _ rfl) hu.2⟩⟩)
end
section
variable {W w w':World}{z:Rv}{B g p i:Nat}{F:List Rl}{D:List UInt8}{O:List Qc}{o:Obj}{e:Ending}{α:Type}{RES:Rdg α}
set_option maxRecDepth 100000 in
set_option maxHeartbeats 32000000 in
theorem QaV(hv:Fm F)(f:Nat){k:Int}(hk:0≤k∧k<F.length)(h:J0 W z B g F D p)(hkind:(Qd F k).kind=10):
  Calls Tryz.prog 32 #[.pointer (some ⟨g,0,none⟩),.int .i64 k] W (VlE z g W (Qx F D (f+1) k p)):=by
 have H:=Lib.hid h;have hwd:=h.wd;have hp:=h.hp;have hD:=h.hD;have hFn:=h.len.2;have hr:=hv.toUsd.rok hk;obtain⟨RES,hres⟩:∃x,Qx F D (f+1) k p=x:=⟨_,rfl⟩;have e10:=(QaJ (F:=F) (D:=D) (f:=f) (p:=p) (k:=k) hkind).symm.trans hres;have hno:=hv.numOk hk (.inr hkind);have hcnt:=hr.count (.inr hkind);rw[hres];obtain⟨Af,As,Ad,nn,nd,cf,cs,cd⟩:=z
 simp only at hFn
 obtain⟨bf,of,haf⟩:=h.af (show 0<nn by omega)
 simp only at haf
 subst haf;obtain⟨hbB,Ab,cb,An,cn,Ap,cp,hrg,hru⟩:=h.env.fm.ruleB (k:=k) (by simp only;omega)
 have hbg:¬bf=g:=by have:=h.hB;omega
 have hkn:0≤k∧k<(nn:Int):=by omega
 clear h hres;obtain⟨r,er⟩:∃r,Qd F k=r:=⟨_,rfl⟩;rw[er] at hkind hr hrg hru e10 hcnt hno;clear er;have HRK:=Lib.hid hr;have HRU:=Lib.hid hru;obtain⟨hbB2,Ab2,cb2,An2,cn2,Ap2,cp2,hrg2,hru2⟩:=H.out.env.fm.ruleB (k:=r.count) (by simp only;omega);have HRU2:=Lib.hid hru2;have HNO:=Lib.hid hno;clear hru hru2 hno;obtain⟨name,kind,bs,size,big,mn,mx,stop,count,elem,names,parts⟩:=r
 simp only[ruC] at hkind hr hrg e10 hcnt hrg2
 have HRB:=Lib.hid (show Rd W B 1 Ab bs.length (bv bs) from HRU.out.b)
 go_enter Tryz.func32,Tryz.ntmps32
 haveI:Pan (bodyPost Tryz.prog Tryz.f32 (VlE ⟨some ⟨bf,of,none⟩,As,Ad,nn,nd,cf,cs,cd⟩ g W RES)) (V7 RES g W):=Pan.body fun ch w' ⟨x,h1,h2,h3⟩=>⟨h3,.inl ⟨x,h1,by rw[h2]⟩⟩
 refine QE (M:=[g]) (W:=W) (N:=181) (E:=[(0,.pointer (some ⟨g,0,none⟩)),(1,.int .i64 k)]) (O:=[.blk g (.cells ([.slice (some ⟨bf,of,none⟩) nn cf,.slice As nn cs,.slice Ad nd cd,.int .i64 (p:Int)]:List Value).toArray 60 (0,0))]) ?_ (Ag.cons (Ag.cons (Ag.nil rfl rfl) rfl) rfl) hwd;clear hwd;refine yq<|yr ?_;refine yB fun b2=>?_;refine yA fun b4=>?_;refine yl<|yn<|yq<|yr<|yo (zB 1) ?_;refine Q1 (Qp rfl rfl (by decide) rfl rfl) ?_;refine yo zF<|yo zF<|yo (zB 2)<|yo zM ?_;refine Q1 (Qm rfl rfl (by decide) rfl rfl rfl hkn) ?_;refine Q1 (QB rfl rfl (by decide) rfl rfl (fun w hw=>hw.range_old hrg (by simpa using hbg)) rfl) ?_;refine yA fun b5=>?_;refine yW 0 ?_;refine yl<|yn<|yq<|yq<|yr<|yo zF<|yo (zB 0)<|yl ?_;subst hkind;have HE:=Lib.hid e10;clear e10;refine yn<|yb<|yq<|yr<|yo zef<|yo zA<|yl<|yn<|y0<|yq<|yq<|yr<|yo zef<|yo zA<|yl<|yn<|y0<|yr<|yo zef<|yo zA<|yl<|yn<|y0<|yq<|yr<|yo zef<|yo zA<|yl<|yn<|y0<|yq<|yr<|yo zet<|yo zA<|yl<|yn<|y1<|yq ?_;refine JR (B:=V7 RES g W) [.blk b2 (.cells #[.pointer (some ⟨g,0,none⟩)] 56 (0,0)),.blk b5 (.cells ([.string ⟨name.toArray⟩,.int .i64 10,.slice Ab bs.length cb,.int .i64 size,.bool big,.int .i64 mn,.int .i64 mx,.int .i64 stop,.int .i64 count,.int .i64 elem,.slice An names.length cn,.slice Ap parts.length cp]:List Value).toArray 65 (0,0))] [] (by kernel_rfl) ?_ ?_
 ·infer_instance
 refine Xp 0 rfl (by kernel_rfl) (Q2.sel [2,0] (by decide) rfl) (zB 0) ?_;refine Xp 1 rfl (by kernel_rfl) (Q2.sel [2,0] (by decide) rfl) (zB 0) ?_;refine Xp 2 rfl (by kernel_rfl) (Q2.sel [2,0] (by decide) rfl) (zB 0) ?_;refine Xp 3 rfl (by kernel_rfl) (Q2.sel [2,0] (by decide) rfl) (Qp rfl rfl (by decide) rfl rfl) ?_;refine Xp 4 rfl (by kernel_rfl) (Q2.sel [2,0] (by decide) rfl) zF ?_;refine Xp 5 rfl (by kernel_rfl) (Q2.sel [2,0] (by decide) rfl) zF ?_;refine Xp 7 rfl (by kernel_rfl) (Q2.sel [2,0] (by decide) rfl) zF ?_;refine Xp 8 rfl (by kernel_rfl) (Q2.sel [2,0] (by decide) rfl) (zB 1) ?_;refine Q1m 6 (by kernel_rfl) rfl (Q2.sel [2,0] (by decide) rfl) (zB 3) ?_;refine Q1m 9 (by kernel_rfl) rfl (Q2.sel [2,0] (by decide) rfl) (Qm rfl rfl (by decide) rfl rfl rfl (show 0≤count∧count<(nn:Int) by omega)) ?_;refine Q1m 10 (by kernel_rfl) rfl (Q2.sel [2,0] (by decide) rfl) (QB rfl rfl (by decide) rfl rfl (fun w hw=>hw.range_old hrg2 (by simpa using hbg)) rfl) ?_;refine Ks 11 (by kernel_rfl) rfl rfl (QV _ _ _ rfl rfl rfl (fun w hw=>(YR (H.out.next hw.k hp (hw.own 3 _ rfl)) HNO.out).mono (fun e w' h=>Q3n 3 rfl hw (fun x hx=>by rw[← HE.out,hx];rfl) h))) (fun i=>.inr (Q2.sel [2,0] (by decide) rfl)) rfl (by decide) (fun x hx=>?_);have hx1:=Zl HNO.out.numK hp hx;have hx2:=Q5N HNO.out hp hx;refine Ks 12 (by kernel_rfl) rfl rfl (QV _ _ _ rfl rfl rfl (fun w hw=>(Q0r (H.out.next hw.k hx1.2 (hw.own 3 _ rfl)) (n:=x.1) (by omega) (by omega)).mono (fun e w' h=>Q8H 3 rfl hw (fun v hv=>by rw[← HE.out,Xl hx];exact Qfn hv) H.out.hB H.out.lt h))) (fun i=>.inr (Q2.sel [2,0] (by decide) rfl)) rfl (by decide) (fun y hy=>?_);refine Ks 13 (by kernel_rfl) rfl rfl (pE.of (QM _ _ _ rfl rfl rfl (fun w hw=>(Y4 ((hy.2.1.below (hw.k.belowB H.out.hB H.out.lt)).more (by have:=H.out.hB;have:=H.out.lt;have:=hw.k.size;omega)) (by have:=congrArg (fun x=>x.1.length) (Zn hy.1).1;simp only[List.length_take,List.length_drop] at this;omega)).mono (fun e w' h=>Q8f hw h)))) (fun i=>.inr (Q2.sel [2,0] (by decide) rfl)) rfl (by decide) (fun u hu=>?_);refine Qck 14 (by kernel_rfl) rfl rfl (pE.of (Ql 1 rfl rfl rfl rfl rfl rfl rfl (by simp))) (fun i=>.inr (Q2.sel [2,0] (by decide) rfl)) rfl (fun _ _=>?_);rw[Qn (by rfl)];refine Q4s ?_ (by kernel_rfl);refine yn<|yt<|yk<|yc ?_;exact Q7 (by exact .inr rfl) rfl (RsV.blk 1 rfl rfl rfl) (fun w hw=>⟨hw.k,.inr ⟨ndB y.1.1,.nil,y.1.2,_,_,by rw[← HE.out,Xl hx];exact Xl hy.1,rfl,hw.own 3 _ rfl,XA.bytes hu.1,Vl (hw.own 4 _ rfl) hu.2⟩⟩)
end
def Qc8(W:World)(l:List Int)(p:Int×Int)(e:Ending)(w':World):Prop:=∃A c,e=.returned (.tuple #[.slice A l.length c,.agg #[.int .i64 p.1,.int .i64 p.2]])∧(Qc.rd A l.length 1 (iv l)).on w'∧(∀b,(Qc.rd A l.length 1 (iv l)).foot=some b→W.heap.size≤b)∧l.length≤c∧Below W.heap.size W w'
theorem Q15{w:World}{A:Option Addr}{n c s b:Nat}{e:TypeId}{xs:List Value}(h:(Qc.row A n c e s xs).on w)(hb:(Qc.rd A n s xs).foot=some b):(Qc.row A n c e s xs).foot=some b:=by
 have h':w.ownsRow 0 e s (.slice A n c) n xs:=h
 simp only[Qc.foot] at hb ⊢
 split at hb
 ·cases hb
 ·rename_i hn
  rcases h'.2 with ⟨hv,_⟩|⟨g,cap,cur,hv,_⟩
  ·simp only[Value.slice.injEq] at hv
   exact absurd hv.2.1 hn
  ·rw[hv]
   simp only[Value.slice.injEq] at hv
   rw[hv.1] at hb;exact hb
theorem Wd.newRow{W w:World}{O:List Qc}{A:Option Addr}{n c s b i:Nat}{e:TypeId}{xs:List Value}(h:Wd [] W O w)(hO:O[i]? =some (.row A n c e s xs))(hb:(Qc.rd A n s xs).foot=some b):W.heap.size≤b:=by
 rcases Nat.lt_or_ge b W.heap.size with hl|hl
 ·have:=h.new i _ b hO (Q15 (h.own i _ hO) hb) hl
  simp [Qc.w] at this
 ·exact hl
set_option maxRecDepth 100000 in
set_option maxHeartbeats 16000000 in
theorem Q57{F:List Rl}{A:Option Addr}{n c:Nat}{k:Int}{W:World}(hf:Xm W W.heap.size A n F)(hs:FSm F)(hc:n≤c)(hg:GV W):
  Calls Tryz.prog 23 #[.agg #[.slice A n c],.int .i64 k] W (Qc8 W (Q0p F k) (Q2m F k)):=by
 have hlen:F.length=n:=hf.1;have HFM:=Lib.hid hf;have HS:=Lib.hid hs;have HG:=Lib.hid hg;have HLEN:=Lib.hid hlen;clear hf hs hg hlen;obtain⟨⟨a,b⟩,hab⟩:∃p,Q2m F k=p:=⟨_,rfl⟩;have HC:=Lib.hid hab;rw[hab];clear hab
 go_enter Tryz.func23,Tryz.ntmps23
 refine QE (M:=[]) (W:=W) (N:=34) (E:=[(0,.agg #[.slice A n c]),(1,.int .i64 k)]) (O:=[]) ?_ (Ag.cons (Ag.cons (Ag.nil rfl rfl) rfl) rfl) (Wd.start [] W)
 by_cases hz:a=0∧b=0
 case neg=>
  have hne:(!(a==0&&b==0))=true:=by
   rw[Bool.not_eq_true',Bool.and_eq_false_iff,beq_eq_false_iff_ne,beq_eq_false_iff_ne]
   omega
  repeat(first|refine Q1 zM ?_|refine Q1 zA ?_|refine Q1 (zD 0) ?_|refine Q1 (zD 1) ?_|refine Qo (Y3 rfl rfl rfl rfl) rfl (by decide) (fun bf _=>?_)|refine Qo (QT (t:=32) rfl rfl) rfl (by decide) (fun b2 _=>?_)|(refine Q1 (Qb (f:=54) rfl rfl (by decide) rfl rfl (fun w hw=>(Y0 (HFM.out.on hw.k.below) HS.out hc (HG.out.on hw.k.below)).mono (fun _ _ h=>by rw[HC.out] at h;exact h))) ?_)|(refine QJ (Ql 0 rfl rfl rfl rfl rfl rfl rfl (by simp)) rfl (fun _ _=>?_);rw[Qn (by rfl)])|refine Q1 (QO (xs:=[]) (vs:=[]) (v:=.agg #[.int .i64 0,.int .i64 0]) rfl rfl (by decide) rfl rfl (fun w=>run_build w _ _ _ (by kernel_rfl))) ?_|refine Q1 (Je rfl rfl (by decide) rfl rfl rfl hne) ?_|refine Q8 ?_|refine Q9 ?_|refine Q3 ?_|refine Qa rfl ?_)
  refine ZA [2] (by kernel_rfl) ?_;refine Qe 0 rfl (by kernel_rfl) (Q2.rfl_) (zD 0) ?_;refine Qe 1 rfl (by kernel_rfl) (Q2.rfl_) zA ?_;refine Qu 2 (by kernel_rfl) rfl rfl (Ql 1 rfl rfl rfl rfl rfl rfl rfl (by simp)) (fun _=>.inl (by decide)) rfl (fun _ _=>?_);rw[Qn (by rfl)];refine Xh ?_ (by kernel_rfl);refine Qr (Qf ?_)
  have hff:Q0p F k=[]:=by
   unfold Q0p
   rw[HC.out,if_neg (fun h=>hz (by simpa using h))]
  rw[hff];exact Ve (by exact .inr rfl) rfl (.tmp rfl) (RsV.blk 1 rfl rfl rfl) (fun w hw=>⟨none,0,rfl,⟨rfl,fun h=>absurd h (by decide)⟩,fun b hb=>(by simp [Qc.foot] at hb),Nat.le_refl _,hw.k.below⟩)
 case pos=>
  obtain⟨rfl,rfl⟩:=hz
  have hff:Q0p F k=JH F k:=by
   unfold Q0p
   rw[HC.out,if_pos rfl]
  rw[hff];clear hff;obtain⟨hfa,hk0,hkn⟩:=Qez HC.out;have hch:=Q9E hfa;have hlo:=Q7Q hch;have hn0:=hlo.1;have hn40:=hlo.2;rw[HLEN.out] at hn0 hn40 hkn;have HF:=Lib.hid (Q33 hch).fok;clear hlo hch hfa;obtain⟨st,hst⟩:∃st,(K8 F).getD k.toNat Zx=st:=⟨_,rfl⟩
  unfold JH
  rw[hst];have HST:=Lib.hid hst;clear hst;have hk2:0≤k∧k<(n:Int):=⟨hk0,hkn⟩
  repeat(first|refine Q1 zM ?_|refine Q1 zA ?_|refine Q1 (zD 0) ?_|refine Q1 (zD 1) ?_|refine Q1 (zD 2) ?_|refine Qo (Y3 rfl rfl rfl rfl) rfl (by decide) (fun bf _=>?_)|refine Qo (QT (t:=32) rfl rfl) rfl (by decide) (fun b2 _=>?_)|(refine Q1 (Qb (f:=54) rfl rfl (by decide) rfl rfl (fun w hw=>(Y0 (HFM.out.on hw.k.below) HS.out hc (HG.out.on hw.k.below)).mono (fun _ _ h=>by rw[HC.out] at h;exact h))) ?_)|(refine QJ (Ql 0 rfl rfl rfl rfl rfl rfl rfl (by simp)) rfl (fun _ _=>?_);rw[Qn (by rfl)])|refine Q1 (QO (xs:=[]) (vs:=[]) (v:=.agg #[.int .i64 0,.int .i64 0]) rfl rfl (by decide) rfl rfl (fun w=>run_build w _ _ _ (by kernel_rfl))) ?_|refine Q1 (Je rfl rfl (by decide) rfl rfl rfl rfl) ?_|refine Qo (QM _ _ _ (f:=55) rfl rfl rfl (fun w hw=>Q4r HFM.out HF.out hn40 hn0 hw)) rfl (by decide) (fun y _=>?_)|refine Q1 (Qm rfl rfl (by decide) rfl rfl rfl hk2) ?_|(refine Q1 (QB (cs:=Xd st) rfl rfl (by decide) rfl rfl (fun w hw=>by rw[← HST.out];exact Qe7 (hw.own 0 _ rfl) ((Q3t F).trans HLEN.out) (by omega)) (Qk _)) ?_)|refine Q8 ?_|refine Q9 ?_|refine Q3 ?_|refine Qt ?_|refine Q6 rfl ?_|refine Qi ?_)
  rename_i b3 _ _ _ _ _
  refine QdS 3 1 ?_;refine Z2 (ι:=Nat×Option Addr×Nat) (fun y=>y.1≤256) (fun y=>256 - y.1) (fun y=>[(5,.pointer (some ⟨b3,0,none⟩)),(7,.slice y.2.1 (V2 st y.1).length y.2.2),(21,.agg (Xd st).toArray),(22,.int .i64 (y.1:Int))]) (fun y=>[.row y.2.1 (V2 st y.1).length y.2.2 3 1 (iv (V2 st y.1)),.blk b3 (.cells [.int .i64 0,.int .i64 0].toArray 32 (0,0))]) (0,none,0) [0,3] (by decide) (Nat.zero_le _) (.cons rfl rfl (.cons rfl rfl (.cons rfl rfl (.cons rfl rfl .nil)))) rfl ?_
  rintro⟨i,A',c'⟩ hi
  have hi':i≤256:=hi;clear hi;have hsl:=QbC st i
  show sE _ _ _ _ _ [(5,.pointer (some ⟨b3,0,none⟩)),(7,.slice A' (V2 st i).length c'),(21,.agg (Xd st).toArray),(22,.int .i64 (i:Int))] [.row A' (V2 st i).length c' 3 1 (iv (V2 st i)),.blk b3 (.cells [.int .i64 0,.int .i64 0].toArray 32 (0,0))] _
  by_cases hin:i<256
  ·obtain⟨s,hs⟩:∃s,st i=s:=⟨_,rfl⟩
   have hcell:(Xd st)[i]? =some (.bool s):=by rw[ZL st hin,hs]
   have HSI:=Lib.hid hs;clear hs
   cases s with
   |true=>
    repeat(first|refine Q1 zM ?_|refine Q1 zA ?_|refine Q1 (VX (v:=.bool true) rfl rfl (by decide) rfl rfl rfl hin hcell) ?_|refine Qo (XF (size:=1) (cs:=[.int .i64 (i:Int)]) rfl rfl rfl rfl rfl (by decide)) rfl (by decide) (fun bn _=>?_)|refine Qo (X9 (news:=[.int .i64 (i:Int)]) 1 rfl rfl rfl rfl rfl (fun w hw=>hw.rd_blk 0 rfl rfl) (by simp [Value.oneCell']) (by omega)) rfl (by decide) (fun yz _=>?_)|refine Q8 ?_|refine Q9 ?_|refine Q3 ?_|refine Qt ?_|refine Qa rfl ?_|refine Qi ?_|refine Q1 zlt ?_|refine Q1 zP ?_)
    refine Xc (i+1,yz.1,yz.2) [1,2] (by decide) hin (by show 256 - (i+1)<256 - i;omega) (.cons rfl rfl (.cons rfl ?_ (.cons rfl rfl (.cons rfl (by go_num) .nil)))) ?_
    ·rw[← Q6B HSI.out,List.length_append]
     rfl
    ·show [Qc.row yz.1 ((V2 st i).length+1) yz.2 _ _ (iv (V2 st i)++iv [(i:Int)]),_]=[Qc.row yz.1 (V2 st (i+1)).length yz.2 _ _ (iv (V2 st (i+1))),_]
     rw[← Q6B HSI.out,List.length_append,Qcw]
     rfl
   |false=>
    have hno:=Qd6 HSI.out
    repeat(first|refine Q1 zM ?_|refine Q1 zA ?_|refine Q1 (VX (v:=.bool false) rfl rfl (by decide) rfl rfl rfl hin hcell) ?_|refine Q8 ?_|refine Q9 ?_|refine Q3 ?_|refine Qt ?_|refine Qa rfl ?_|refine Q6 rfl ?_|refine Qi ?_|refine Q1 zlt ?_|refine Q1 zP ?_)
    refine Xc (i+1,A',c') [0,1] (by decide) hin (by show 256 - (i+1)<256 - i;omega) (.cons rfl rfl (.cons rfl ?_ (.cons rfl rfl (.cons rfl (by go_num) .nil)))) ?_
    ·rw[← hno]
    ·show [Qc.row A' (V2 st i).length c' _ _ (iv (V2 st i)),_]=[Qc.row A' (V2 st (i+1)).length c' _ _ (iv (V2 st (i+1))),_]
     rw[← hno]
     rfl
  ·obtain rfl:i=256:=by omega
   repeat(first|refine Q1 zM ?_|refine Q1 zA ?_|refine Q1 (QO (xs:=[]) (vs:=[]) (v:=.agg #[.int .i64 0,.int .i64 0]) rfl rfl (by decide) rfl rfl (fun w=>run_build w _ _ _ (by kernel_rfl))) ?_|(refine QJ (Ql 1 rfl rfl rfl rfl rfl rfl rfl (by simp)) rfl (fun _ _=>?_);rw[Qn (by rfl)])|refine Q8 ?_|refine Q9 ?_|refine Q3 ?_|refine Q6 rfl ?_|refine XL ?_|refine Qr ?_|refine Q1 zlf ?_)
   exact Ve (by exact .inr rfl) rfl (.tmp rfl) (RsV.blk 1 rfl rfl rfl) (fun w hw=>⟨A',c',rfl,(row_rd (hw.own 0 _ rfl) (by decide)).1,fun b hb=>Wd.newRow (i:=0) hw rfl hb,(row_rd (hw.own 0 _ rfl) (by decide)).2,hw.k.below⟩)
def Q04(L:List Qc)(m:Nat):Prop:=∀x∈L,x.w=false∧∀b,x.foot=some b→m≤b
theorem Q04.nil(m:Nat):Q04 [] m:=fun x hx=>by cases hx
theorem Q04.app{L L':List Qc}{m:Nat}(h:Q04 L m)(h':Q04 L' m):Q04 (L++L') m:=fun x hx=>(List.mem_append.1 hx).elim (h x) (h' x)
theorem Q04.new{L:List Qc}{m:Nat}{w:World}(h:Q04 L m)(hw:∀x∈L,x.on w):New L m w:=⟨fun x hx=>(h x hx).1,hw,fun x hx=>(h x hx).2⟩
section
variable {M:List Nat}{W w w':World}{z:Rv}{B g p i:Nat}{F:List Rl}{D:List UInt8}{O L:List Qc}{o o':Obj}{e:Ending}{α:Type}{RES:Rdg α}
theorem Wd.wroteAtL(i:Nat)(h:Wd M W O w)(hO:O[i]? =some (.blk g o))(hk:XJ [g] w w')(ho:w'.heap[g]? =some o')(hL:New L w.heap.size w'):Wd M W (O.set i (.blk g o')++L) w':=by
 refine(h.wroteAt i hO hk ho).addL (m:=w.heap.size) h.k.size (fun x hx b hb=>?_) hL
 rcases List.mem_or_eq_of_mem_set hx with hx|rfl
 ·exact(h.onAll x hx).lt hb
 ·cases hb
  exact(Array.getElem?_eq_some_iff.1 (h.own i _ hO)).1
structure Vy where
 r:Nd×VF×Nat
 Ab:Option Addr
 nb:Nat
 cb:Nat
 An:Option Addr
 nn:Nat
 cn:Nat
 Ap:Option Addr
 np:Nat
 cp:Nat
 L:List Qc
abbrev Vy.cells(y:Vy):List Value:=[.int .i64 y.r.1.k,.int .i64 y.r.1.n,.slice y.Ab y.nb y.cb,.slice y.An y.nn y.cn,.slice y.Ap y.np y.cp]
theorem Q5J{res:Rdg (Nd×VF×Nat)}(i:Nat)(hO:O[i]? =some (.blk g o))(hw:Wd [g] W O w)(hx:∀x:Nat,res=some (.error x)→RES=some (.error x))(h:VlE z g w res e w'):ZE (fun y:Vy=>.agg (y.cells).toArray) (fun y=>res=some (.ok y.r)∧XA y.L (.agg (y.cells).toArray) y.r.1 y.r.2.1∧Q04 y.L W.heap.size) [g] W (fun y=>O.set i (.blk g (z.obj y.r.2.2))++y.L) (V7 RES g W) e w':=by
 obtain⟨hk,⟨x,h1,h2⟩|⟨d,l,q,v,L,h1,h2,h3,h4,h5⟩⟩:=h
 ·exact .inr ⟨_,h2,x,hx x h1,rfl,hw.k.thenK hk⟩
 ·obtain⟨sb,sn,sp,rfl,hd⟩:=h4.vin h5.on;obtain⟨Ab,nb,cb,An,nn,cn,Ap,cp,rfl,rfl,rfl,_⟩:=hd;exact .inl ⟨⟨(d,l,q),Ab,nb,cb,An,nn,cn,Ap,l.len,cp,L⟩,h2,⟨h1,h4,fun x hx=>⟨h5.rd x hx,fun b hb=>Nat.le_trans hw.k.size (h5.far x hx b hb)⟩⟩,hw.wroteAtL i hO hk h3 h5⟩
theorem Q1p{A:Option Addr}{n c s:Nat}{t:TypeId}{xs:List Value}(i j:Nat)(hw:Wd [g] W O w)(hO:O[i]? =some (.row A n c t s xs))(hg:O[j]? =some (.blk g o))(hij:i≠j):New [.rd A n s xs] W.heap.size w:=by
 refine Vl (Rd.of_own (hw.own i _ hO)) fun b hb=>?_
 rcases Nat.lt_or_ge b W.heap.size with hl|hl
 ·have hf:=Q15 (hw.own i _ hO) hb;have h1:b∈[g]:=hw.new i _ b hO hf hl;rw[List.mem_singleton] at h1;subst h1;exact absurd (hw.nd i j _ _ b hO hg hf rfl rfl) hij
 ·exact hl
theorem Jt{A:Option Addr}{n c s:Nat}{t:TypeId}{xs:List Value}(i:Nat)(hw:Wd M W O w)(hO:O[i]? =some (.row A n c t s xs)):n≤c∧c≤maxLen:=by
 have h:w.ownsRow 0 t s (.slice A n c) n xs:=hw.own i _ hO
 rcases h.2 with ⟨hv,h0⟩|⟨g,cap,cur,hv,_,hg,h1,h2,_,ht⟩
 ·simp only[Value.slice.injEq] at hv
  omega
 ·simp only[Value.slice.injEq] at hv
  omega
theorem Q80{one:Nat→Rdg (Nd×VF×Nat)}{A:VF}{n p:Nat}{γ:Type}{gg:VF×Nat→Rdg γ}(h:∃r,rb (JD one A (n+1) p) gg=some r):∃y,one p=some y:=by
 obtain⟨r,h⟩:=h
 cases h1:one p with
 |none=>unfold JD at h;rw[Ze,h1] at h;cases h
 |some y=>exact⟨y,rfl⟩
theorem Q9p(y:Vy)(w:World):(Instr.buildSlice 28 1 #[(0,.agg (y.cells).toArray)]).run Tryz.prog w=.ok (.slice (some ⟨w.heap.size,0,none⟩) 1 1) (w.alloc (.cells (y.cells).toArray 30)):=by
 have hT:SlT Tryz.prog 28 30 5 88:=(inferInstance:Sl Tryz.prog 28 30 5 88).h;obtain⟨i,z,hi,hz,hsz,hby,hzs⟩:=hT.info;refine run_buildSlice w _ _ 1 _ (y.cells).toArray i z hT.und hi hz (by rw[hsz];omega) (by rw[hsz];omega) ?_;rw[hsz]
 have hZ:∀Z:Array Value,Z.size=5→Instr.fill (fun i=>some (i*5,5)) Z [(0,.agg (y.cells).toArray)]=some (y.cells).toArray:=by
  rintro⟨l⟩ h
  match l,h with
  |[z0,z1,z2,z3,z4],_=>rfl
 exact hZ _ (by simp)
end
section
variable {W w w':World}{z:Rv}{B g p i:Nat}{F:List Rl}{D:List UInt8}{O:List Qc}{o:Obj}{e:Ending}{α:Type}{RES:Rdg α}{k:Int}
def IHv(z:Rv)(B g:Nat)(F:List Rl)(D:List UInt8)(f:Nat):Prop:=∀(W:World) (k:Int) (p:Nat),0≤k∧k<F.length→J0 W z B g F D p→(∃y,Qx F D f k p=some y)→Calls Tryz.prog 32 #[.pointer (some ⟨g,0,none⟩),.int .i64 k] W (VlE z g W (Qx F D f k p))
structure El where
 A:VF
 cs:List Value
 Ar:Option Addr
 c:Nat
 L:List Qc
 q:Nat
 n:Nat
set_option maxRecDepth 100000 in
set_option maxHeartbeats 32000000 in
theorem QdG(hv:Fm F)(f:Nat)(IH:IHv z B g F D f)(hsome:∃y,Qx F D (f+1) k p=some y)(hk:0≤k∧k<F.length)(h:J0 W z B g F D p)(hkind:(Qd F k).kind=6):
  Calls Tryz.prog 32 #[.pointer (some ⟨g,0,none⟩),.int .i64 k] W (VlE z g W (Qx F D (f+1) k p)):=by
 have H:=Lib.hid h;have hwd:=h.wd;have hp:=h.hp;have hD:=h.hD;have hFn:=h.len.2;have hr:=hv.toUsd.rok hk;obtain⟨RES,hres⟩:∃x,Qx F D (f+1) k p=x:=⟨_,rfl⟩;have e6:=(QcG (F:=F) (D:=D) (f:=f) (p:=p) (k:=k) hkind).symm.trans hres;have hno:=hv.numOk hk (.inl hkind);have hcnt:=hr.count (.inl hkind);have hel:=hr.elem (.inl hkind);rw[hres] at hsome ⊢;have HS:=Lib.hid hsome;have HIH:=Lib.hid IH;obtain⟨Af,As,Ad,nn,nd,cf,cs,cd⟩:=z
 simp only at hFn
 obtain⟨bf,of,haf⟩:=h.af (show 0<nn by omega)
 simp only at haf
 subst haf;obtain⟨hbB,Ab,cb,An,cn,Ap,cp,hrg,hru⟩:=h.env.fm.ruleB (k:=k) (by simp only;omega)
 have hbg:¬bf=g:=by have:=h.hB;omega
 have hkn:0≤k∧k<(nn:Int):=by omega
 clear h hres hsome IH;have hfar:Far (Qx F D f (Qd F k).elem) D.length:=QX hv.toUsd f hel;obtain⟨r,er⟩:∃r,Qd F k=r:=⟨_,rfl⟩;rw[er] at hkind hr hrg hru e6 hcnt hel hno hfar;clear er;have HRK:=Lib.hid hr;have HRU:=Lib.hid hru;obtain⟨hbB2,Ab2,cb2,An2,cn2,Ap2,cp2,hrg2,hru2⟩:=H.out.env.fm.ruleB (k:=r.count) (by simp only;omega);have HRU2:=Lib.hid hru2;have HNO:=Lib.hid hno;clear hru hru2 hno;obtain⟨name,kind,bs,size,big,mn,mx,stop,count,elem,names,parts⟩:=r
 simp only[ruC] at hkind hr hrg e6 hcnt hel hrg2 hfar
 have HRB:=Lib.hid (show Rd W B 1 Ab bs.length (bv bs) from HRU.out.b)
 go_enter Tryz.func32,Tryz.ntmps32
 haveI:Pan (bodyPost Tryz.prog Tryz.f32 (VlE ⟨some ⟨bf,of,none⟩,As,Ad,nn,nd,cf,cs,cd⟩ g W RES)) (V7 RES g W):=Pan.body fun ch w' ⟨x,h1,h2,h3⟩=>⟨h3,.inl ⟨x,h1,by rw[h2]⟩⟩
 refine QE (M:=[g]) (W:=W) (N:=181) (E:=[(0,.pointer (some ⟨g,0,none⟩)),(1,.int .i64 k)]) (O:=[.blk g (.cells ([.slice (some ⟨bf,of,none⟩) nn cf,.slice As nn cs,.slice Ad nd cd,.int .i64 (p:Int)]:List Value).toArray 60 (0,0))]) ?_ (Ag.cons (Ag.cons (Ag.nil rfl rfl) rfl) rfl) hwd;clear hwd;refine yq<|yr ?_;refine yB fun b2=>?_;refine yA fun b4=>?_;refine yl<|yn<|yq<|yr<|yo (zB 1) ?_;refine Q1 (Qp rfl rfl (by decide) rfl rfl) ?_;refine yo zF<|yo zF<|yo (zB 2)<|yo zM ?_;refine Q1 (Qm rfl rfl (by decide) rfl rfl rfl hkn) ?_;refine Q1 (QB rfl rfl (by decide) rfl rfl (fun w hw=>hw.range_old hrg (by simpa using hbg)) rfl) ?_;refine yA fun b5=>?_;refine yW 0 ?_;refine yl<|yn<|yq<|yq<|yr<|yo zF<|yo (zB 0)<|yl ?_;subst hkind;have HE:=Lib.hid e6;clear e6;refine yn<|yb<|yq<|yr<|yo zef<|yo zA<|yl<|yn<|y0<|yq<|yq<|yr<|yo zef<|yo zA<|yl<|yn<|y0<|yr<|yo zef<|yo zA<|yl<|yn<|y0<|yq<|yr<|yo zef<|yo zA<|yl<|yn<|y0<|yq<|yr<|yo zef<|yo zA<|yl<|yn<|y0<|yq<|yr<|yo zef<|yo zA<|yl<|yn<|y0<|yq<|yr<|yo zet<|yo zA<|yl<|yn<|y1<|yq<|yr<|yo zA<|yl<|yn<|yq<|yq ?_;refine JR (B:=V7 RES g W) [.blk b2 (.cells #[.pointer (some ⟨g,0,none⟩)] 56 (0,0)),.blk b5 (.cells ([.string ⟨name.toArray⟩,.int .i64 6,.slice Ab bs.length cb,.int .i64 size,.bool big,.int .i64 mn,.int .i64 mx,.int .i64 stop,.int .i64 count,.int .i64 elem,.slice An names.length cn,.slice Ap parts.length cp]:List Value).toArray 65 (0,0))] [] (by kernel_rfl) ?_ ?_
 ·infer_instance
 refine Xp 0 rfl (by kernel_rfl) (Q2.sel [2,0] (by decide) rfl) (zB 0) ?_;refine Xp 1 rfl (by kernel_rfl) (Q2.sel [2,0] (by decide) rfl) (zB 0) ?_;refine Xp 2 rfl (by kernel_rfl) (Q2.sel [2,0] (by decide) rfl) (Qp rfl rfl (by decide) rfl rfl) ?_;refine Xp 3 rfl (by kernel_rfl) (Q2.sel [2,0] (by decide) rfl) zF ?_;refine Xp 4 rfl (by kernel_rfl) (Q2.sel [2,0] (by decide) rfl) zF ?_;refine Xp 6 rfl (by kernel_rfl) (Q2.sel [2,0] (by decide) rfl) zF ?_;refine Xp 7 rfl (by kernel_rfl) (Q2.sel [2,0] (by decide) rfl) (zB 1) ?_;refine Q1m 5 (by kernel_rfl) rfl (Q2.sel [2,0] (by decide) rfl) (zB 3) ?_;refine Q1m 8 (by kernel_rfl) rfl (Q2.sel [2,0] (by decide) rfl) (Qm rfl rfl (by decide) rfl rfl rfl (show 0≤count∧count<(nn:Int) by omega)) ?_;refine Q1m 9 (by kernel_rfl) rfl (Q2.sel [2,0] (by decide) rfl) (QB rfl rfl (by decide) rfl rfl (fun w hw=>hw.range_old hrg2 (by simpa using hbg)) rfl) ?_;refine Ks 10 (by kernel_rfl) rfl rfl (QV _ _ _ rfl rfl rfl (fun w hw=>(YR (H.out.next hw.k hp (hw.own 3 _ rfl)) HNO.out).mono (fun e w' h=>Q3n 3 rfl hw (fun x hx=>by rw[← HE.out,hx];rfl) h))) (fun i=>.inr (Q2.sel [2,0] (by decide) rfl)) rfl (by decide) (fun x hx=>?_);refine Q1m 11 (by kernel_rfl) rfl (Q2.sel [2,0] (by decide) rfl) zA ?_;refine Q4s ?_ (by kernel_rfl);have hx1:=Zl HNO.out.numK hp hx;have hx2:=Q5N HNO.out hp hx;have HX:=Lib.hid (show RES=rb (JD (Qx F D f elem) .nil x.1.toNat x.2) fun z=>okR (ndL,z.1,z.2) by rw[← HE.out,Xl hx,Q5l]);refine yn<|yb ?_;refine Z8 (ι:=El) (fun y=>JO y.L y.cs y.A∧Q04 y.L W.heap.size∧y.q≤D.length∧y.A.len+y.n≤4294967296∧RES=rb (JD (Qx F D f elem) y.A y.n y.q) fun z=>okR (ndL,z.1,z.2)) (fun y=>y.n) (fun y=>[(2,.pointer (some ⟨b2,0,none⟩)),(4,.pointer (some ⟨b4,0,none⟩)),(5,.pointer (some ⟨b5,0,none⟩)),(6,.slice y.Ar y.A.len y.c),(7,.int .i64 (y.n:Int))]) (fun y=>.row y.Ar y.A.len y.c 30 5 y.cs::.blk b5 (.cells ([.string ⟨name.toArray⟩,.int .i64 6,.slice Ab bs.length cb,.int .i64 size,.bool big,.int .i64 mn,.int .i64 mx,.int .i64 stop,.int .i64 count,.int .i64 elem,.slice An names.length cn,.slice Ap parts.length cp]:List Value).toArray 65 (0,0))::.blk b4 (.cells ([.int .i64 0,.int .i64 0,.slice none 0 0,.slice none 0 0,.slice none 0 0]:List Value).toArray 30 (0,0))::.blk b2 (.cells ([.pointer (some ⟨g,0,none⟩)]:List Value).toArray 56 (0,0))::.blk g (.cells ([.slice (some ⟨bf,of,none⟩) nn cf,.slice As nn cs,.slice Ad nd cd,.int .i64 (y.q:Int)]:List Value).toArray 60 (0,0))::y.L) ⟨.nil,[],none,0,[],x.2,x.1.toNat⟩ ⟨.nil,.nil _,hx1.2,by show 0+x.1.toNat≤_;omega,HX.out⟩ (.cons rfl rfl (.cons rfl rfl (.cons rfl rfl (.cons rfl rfl (.cons rfl (by go_num) .nil))))) (fun w hw=>hw.row _ _) ?_
 rintro⟨A,cs',Ar,c,L,q,n⟩ ⟨hF,hL,hq,hn,hres⟩
 replace hn:A.len+n≤4294967296:=hn
 replace hq:q≤D.length:=hq
 have HF:=Lib.hid hF;have HL:=Lib.hid hL;have HR:=Lib.hid hres;clear hF hL hres
 show sE _ _ _ _ _ [(2,.pointer (some ⟨b2,0,none⟩)),(4,.pointer (some ⟨b4,0,none⟩)),(5,.pointer (some ⟨b5,0,none⟩)),(6,.slice Ar A.len c),(7,.int .i64 (n:Int))] (.row Ar A.len c 30 5 cs'::.blk b5 (.cells ([.string ⟨name.toArray⟩,.int .i64 6,.slice Ab bs.length cb,.int .i64 size,.bool big,.int .i64 mn,.int .i64 mx,.int .i64 stop,.int .i64 count,.int .i64 elem,.slice An names.length cn,.slice Ap parts.length cp]:List Value).toArray 65 (0,0))::.blk b4 (.cells ([.int .i64 0,.int .i64 0,.slice none 0 0,.slice none 0 0,.slice none 0 0]:List Value).toArray 30 (0,0))::.blk b2 (.cells ([.pointer (some ⟨g,0,none⟩)]:List Value).toArray 56 (0,0))::.blk g (.cells ([.slice (some ⟨bf,of,none⟩) nn cf,.slice As nn cs,.slice Ad nd cd,.int .i64 (q:Int)]:List Value).toArray 60 (0,0))::L) _
 cases n with
 |zero=>
  have HZ:=Lib.hid (show RES=some (.ok (ndL,A,q)) by rw[HR.out,Q8m];rfl);refine yq<|yq<|yr<|yo zM<|yo zgf<|yl<|yn<|y0<|ye<|yn<|yq<|yr<|yo zM ?_;refine Q1 (Qb rfl rfl (by decide) rfl rfl (fun w hw=>Vg _ _ _ w)) ?_;refine yW 2 ?_;refine yl<|yn<|yt<|yk<|yc ?_;refine Q7 (by exact .inr rfl) rfl (RsV.blk 2 rfl rfl rfl) (fun w hw=>⟨hw.k,.inr ⟨ndL,A,q,_,.rd Ar A.len 5 cs'::L,HZ.out,rfl,hw.own 4 _ rfl,XA.list HF.out (Jt 0 hw rfl).1 (Jt 0 hw rfl).2,?_⟩⟩);exact(Q1p 0 4 hw rfl rfl (by decide)).app (HL.out.new fun x hx=>hw.onAll x (by simp [hx]))
 |succ n=>
  obtain⟨q1,hy1⟩:=Q80 (one:=Qx F D f elem) (A:=A) (n:=n) (p:=q) (gg:=fun z:VF×Nat=>okR (ndL,z.1,z.2)) (by rw[← HR.out];exact HS.out);have HY:=Lib.hid hy1;clear hy1;refine yq<|yq<|yr<|yo zM<|yo zgt<|yl<|yn<|y1<|ys<|yn<|yq<|yb<|yr<|yo zM<|yo (zB 3)<|yo zF<|yo (zB 1) ?_;refine XY (QV _ _ _ rfl rfl rfl (fun w hw=>(HIH.out w elem q hel (H.out.next hw.k hq (hw.own 4 _ rfl)) ⟨q1,HY.out⟩).mono (fun e w' h=>Q5J 4 rfl hw (fun x hx=>by rw[HR.out,Qa8 hx];rfl) h))) rfl (by decide) (fun y hy=>?_);refine Qo (J8 (xs:=[(0,.tmp 89)]) (vs:=[(0,.agg (y.cells).toArray)]) (cells:=y.cells) rfl rfl rfl (Q9p y)) rfl (by decide) (fun bn _=>?_);refine Qo (X9 1 rfl rfl rfl rfl rfl (fun w hw=>hw.rd_blk 0 rfl rfl) (by simp [Value.oneCell']) (by omega)) rfl (by decide) (fun z _=>?_);refine yo zA<|yl<|yn<|yr<|yo zM<|yo zQ<|yo zA<|yl ?_;refine Xb ⟨A.snoc y.r.1 y.r.2.1,cs'++y.cells,z.1,z.2,L++y.L,y.r.2.2,n⟩ ⟨HF.out.snoc hy.2.1,HL.out.app hy.2.2,(hfar q y.r hq hy.1).2,by show (A.snoc _ _).len+n≤_;rw[VF.len_snoc];omega,by rw[HR.out,Qa2 hy.1]⟩ (Nat.lt_succ_self n) (.cons rfl rfl (.cons rfl rfl (.cons rfl rfl (.cons rfl (by rw[VF.len_snoc]) (.cons rfl (congrArg (Value.int .i64) (show ((n+1:Nat):Int) - 1=(n:Int) by omega)) .nil))))) (fun w hw=>?_);have h:=hw.tl
  simp only[VF.len_snoc]
  exact h
end
section
variable {W w w':World}{z:Rv}{B g p i:Nat}{F:List Rl}{D:List UInt8}{O:List Qc}{o:Obj}{e:Ending}{α:Type}{RES:Rdg α}{k:Int}
theorem Q9O{one:Nat→Rdg (Nd×VF×Nat)}{A:VF}{n p:Nat}{stop:Int}{c:UInt8}{γ:Type}{gg:VF×Nat→Rdg γ}(hc:D[p]? =some c)(hs:¬(c.toNat:Int)=stop)(h:∃r,rb (VC one D stop A (n+1) p) gg=some r):∃y,one p=some y:=by
 obtain⟨r,h⟩:=h
 cases h1:one p with
 |none=>
  unfold VC at h
  rw[Zs,hc] at h
  simp only at h
  rw[if_neg hs,h1] at h
  cases h
 |some y=>exact⟨y,rfl⟩
set_option maxRecDepth 100000 in
set_option maxHeartbeats 32000000 in
theorem Qdp(hv:Fm F)(f:Nat)(IH:IHv z B g F D f)(hsome:∃y,Qx F D (f+1) k p=some y)(hk:0≤k∧k<F.length)(h:J0 W z B g F D p)(hkind:(Qd F k).kind=9):
  Calls Tryz.prog 32 #[.pointer (some ⟨g,0,none⟩),.int .i64 k] W (VlE z g W (Qx F D (f+1) k p)):=by
 have H:=Lib.hid h;have hwd:=h.wd;have hp:=h.hp;have hD:=h.hD;have hFn:=h.len.2;have hr:=hv.toUsd.rok hk;obtain⟨RES,hres⟩:∃x,Qx F D (f+1) k p=x:=⟨_,rfl⟩;have e9:=(Qd0 (F:=F) (D:=D) (f:=f) (p:=p) (k:=k) hkind).symm.trans hres;have hel:=hr.elem (.inr hkind);rw[hres] at hsome ⊢;have HS:=Lib.hid hsome;have HIH:=Lib.hid IH;obtain⟨Af,As,Ad,nn,nd,cf,cs,cd⟩:=z
 simp only at hFn
 obtain⟨bf,of,haf⟩:=h.af (show 0<nn by omega)
 simp only at haf
 subst haf;obtain⟨hbB,Ab,cb,An,cn,Ap,cp,hrg,hru⟩:=h.env.fm.ruleB (k:=k) (by simp only;omega)
 have hbg:¬bf=g:=by have:=h.hB;omega
 have hkn:0≤k∧k<(nn:Int):=by omega
 clear h hres hsome IH;have hfar:Far (Qx F D f (Qd F k).elem) D.length:=QX hv.toUsd f hel;obtain⟨r,er⟩:∃r,Qd F k=r:=⟨_,rfl⟩;rw[er] at hkind hr hrg hru e9 hel hfar;clear er;have HRK:=Lib.hid hr;have HRU:=Lib.hid hru;clear hru;obtain⟨name,kind,bs,size,big,mn,mx,stop,count,elem,names,parts⟩:=r
 simp only[ruC] at hkind hr hrg e9 hel hfar
 have HRB:=Lib.hid (show Rd W B 1 Ab bs.length (bv bs) from HRU.out.b)
 go_enter Tryz.func32,Tryz.ntmps32
 haveI:Pan (bodyPost Tryz.prog Tryz.f32 (VlE ⟨some ⟨bf,of,none⟩,As,Ad,nn,nd,cf,cs,cd⟩ g W RES)) (V7 RES g W):=Pan.body fun ch w' ⟨x,h1,h2,h3⟩=>⟨h3,.inl ⟨x,h1,by rw[h2]⟩⟩
 refine QE (M:=[g]) (W:=W) (N:=181) (E:=[(0,.pointer (some ⟨g,0,none⟩)),(1,.int .i64 k)]) (O:=[.blk g (.cells ([.slice (some ⟨bf,of,none⟩) nn cf,.slice As nn cs,.slice Ad nd cd,.int .i64 (p:Int)]:List Value).toArray 60 (0,0))]) ?_ (Ag.cons (Ag.cons (Ag.nil rfl rfl) rfl) rfl) hwd;clear hwd;refine yq<|yr ?_;refine yB fun b2=>?_;refine yA fun b4=>?_;refine yl<|yn<|yq<|yr<|yo (zB 1) ?_;refine Q1 (Qp rfl rfl (by decide) rfl rfl) ?_;refine yo zF<|yo zF<|yo (zB 2)<|yo zM ?_;refine Q1 (Qm rfl rfl (by decide) rfl rfl rfl hkn) ?_;refine Q1 (QB rfl rfl (by decide) rfl rfl (fun w hw=>hw.range_old hrg (by simpa using hbg)) rfl) ?_;refine yA fun b5=>?_;refine yW 0 ?_;refine yl<|yn<|yq<|yq<|yr<|yo zF<|yo (zB 0)<|yl ?_;subst hkind;have HE:=Lib.hid e9;clear e9;have HX:=Lib.hid (show RES=rb (VC (Qx F D f elem) D stop .nil (D.length+1) p) fun z=>okR (ndL,z.1,z.2) by rw[← HE.out,Q60]);refine yn<|yb<|yq<|yr<|yo zef<|yo zA<|yl<|yn<|y0<|yq<|yq<|yr<|yo zef<|yo zA<|yl<|yn<|y0<|yr<|yo zef<|yo zA<|yl<|yn<|y0<|yq<|yr<|yo zef<|yo zA<|yl<|yn<|y0<|yq<|yr<|yo zef<|yo zA<|yl<|yn<|y0<|yq<|yr<|yo zef<|yo zA<|yl<|yn<|y0<|yq<|yr<|yo zef<|yo zA<|yl<|yn<|y0<|yq<|yr<|yo zet<|yo zA<|yl<|yn<|y1<|yq<|yr<|yo zA<|yl<|yn<|yq<|yb ?_;refine Z8 (ι:=El) (fun y=>JO y.L y.cs y.A∧Q04 y.L W.heap.size∧y.q≤D.length∧y.A.len+y.n≤D.length+1∧RES=rb (VC (Qx F D f elem) D stop y.A y.n y.q) fun z=>okR (ndL,z.1,z.2)) (fun y=>y.n) (fun y=>[(2,.pointer (some ⟨b2,0,none⟩)),(4,.pointer (some ⟨b4,0,none⟩)),(5,.pointer (some ⟨b5,0,none⟩)),(8,.slice y.Ar y.A.len y.c)]) (fun y=>.row y.Ar y.A.len y.c 30 5 y.cs::.blk b5 (.cells ([.string ⟨name.toArray⟩,.int .i64 9,.slice Ab bs.length cb,.int .i64 size,.bool big,.int .i64 mn,.int .i64 mx,.int .i64 stop,.int .i64 count,.int .i64 elem,.slice An names.length cn,.slice Ap parts.length cp]:List Value).toArray 65 (0,0))::.blk b4 (.cells ([.int .i64 0,.int .i64 0,.slice none 0 0,.slice none 0 0,.slice none 0 0]:List Value).toArray 30 (0,0))::.blk b2 (.cells ([.pointer (some ⟨g,0,none⟩)]:List Value).toArray 56 (0,0))::.blk g (.cells ([.slice (some ⟨bf,of,none⟩) nn cf,.slice As nn cs,.slice Ad nd cd,.int .i64 (y.q:Int)]:List Value).toArray 60 (0,0))::y.L) ⟨.nil,[],none,0,[],p,D.length+1⟩ ⟨.nil,.nil _,hp,by show 0+(D.length+1)≤_;omega,HX.out⟩ (.cons rfl rfl (.cons rfl rfl (.cons rfl rfl (.cons rfl rfl .nil)))) (fun w hw=>hw.row _ _) ?_
 rintro⟨A,cs',Ar,c,L,q,n⟩ ⟨hF,hL,hq,hn,hres⟩
 replace hn:A.len+n≤D.length+1:=hn
 replace hq:q≤D.length:=hq
 have HF:=Lib.hid hF;have HL:=Lib.hid hL;have HR:=Lib.hid hres;clear hF hL hres
 show sE _ _ _ _ _ [(2,.pointer (some ⟨b2,0,none⟩)),(4,.pointer (some ⟨b4,0,none⟩)),(5,.pointer (some ⟨b5,0,none⟩)),(8,.slice Ar A.len c)] (.row Ar A.len c 30 5 cs'::.blk b5 (.cells ([.string ⟨name.toArray⟩,.int .i64 9,.slice Ab bs.length cb,.int .i64 size,.bool big,.int .i64 mn,.int .i64 mx,.int .i64 stop,.int .i64 count,.int .i64 elem,.slice An names.length cn,.slice Ap parts.length cp]:List Value).toArray 65 (0,0))::.blk b4 (.cells ([.int .i64 0,.int .i64 0,.slice none 0 0,.slice none 0 0,.slice none 0 0]:List Value).toArray 30 (0,0))::.blk b2 (.cells ([.pointer (some ⟨g,0,none⟩)]:List Value).toArray 56 (0,0))::.blk g (.cells ([.slice (some ⟨bf,of,none⟩) nn cf,.slice As nn cs,.slice Ad nd cd,.int .i64 (q:Int)]:List Value).toArray 60 (0,0))::L) _
 cases n with
 |zero=>
  obtain⟨r,hr⟩:=HS.out;rw[HR.out] at hr
  cases hr
 |succ n=>
 cases hc:D[q]? with
 |none=>
  have HE:=Lib.hid (show RES=some (.error q) by rw[HR.out,Q9B hc];rfl);have HC:=Lib.hid hc;clear hc;refine yq<|yq ?_;refine JR (B:=V7 RES g W) [.blk b2 (.cells ([.pointer (some ⟨g,0,none⟩)]:List Value).toArray 56 (0,0)),.blk b5 (.cells ([.string ⟨name.toArray⟩,.int .i64 9,.slice Ab bs.length cb,.int .i64 size,.bool big,.int .i64 mn,.int .i64 mx,.int .i64 stop,.int .i64 count,.int .i64 elem,.slice An names.length cn,.slice Ap parts.length cp]:List Value).toArray 65 (0,0))] [] (by kernel_rfl) ?_ ?_
  ·infer_instance
  refine Xp 0 rfl (by kernel_rfl) (Q2.sel [3,1] (by decide) rfl) (zB 0) ?_;refine Xp 3 rfl (by kernel_rfl) (Q2.sel [3,1] (by decide) rfl) zF ?_;refine Xp 4 rfl (by kernel_rfl) (Q2.sel [3,1] (by decide) rfl) (zB 1) ?_;exact Ks 1 (by kernel_rfl) rfl rfl (QV _ _ _ rfl rfl rfl (fun w hw=>Q14 (H.out.next hw.k hq (hw.own 4 _ rfl)) HC.out hw (fun w' hw'=>⟨q,HE.out,rfl,hw'.k⟩))) (fun i=>i.elim) rfl (by decide) (fun i=>i.elim)
 |some c=>
  have hlt:q<D.length:=(List.getElem?_eq_some_iff.1 hc).1;have HC:=Lib.hid hc;have hcv:=Yx c;clear hc
  by_cases hs:(c.toNat:Int)=stop
  ·have HE:=Lib.hid (show RES=some (.ok (ndL,A,q+1)) by rw[HR.out,Q9M HC.out hs];rfl);have hne:((c.toNat:Int) != stop)=false:=bne_eq_false_iff_eq.2 hs;refine yq<|yq<|Xj (by kernel_rfl) (by kernel_rfl) ?_;refine Q5 (zB 3) ?_;refine Q5 (Qb rfl rfl (by decide) rfl rfl (fun w hw=>JN (H.out.next hw.k hq (hw.own 4 _ rfl)) HC.out)) ?_;refine Q5 (XE rfl rfl (by decide) rfl rfl rfl Tryz.underlying3 hcv) ?_;refine Q5 zF ?_;refine Q5 (zB 1) ?_;refine Q5 zna ?_;refine XM ?_;refine yn<|y0<|ye<|yn<|yq<|yr<|yo (zB 3) ?_;refine Q1 (Qp rfl rfl (by decide) rfl rfl) ?_;refine yo zF<|yo (zB 4)<|yo zP ?_;refine Q1 (Qp rfl rfl (by decide) rfl rfl) ?_;refine yo zF ?_;refine yS 4 ?_;refine yl<|yn<|yq<|yr<|yo zM ?_;refine Q1 (Qb rfl rfl (by decide) rfl rfl (fun w hw=>Vg _ _ _ w)) ?_;refine yW 2 ?_;refine yl<|yn<|yt<|yk<|yc ?_;refine Q7 (by exact .inr rfl) rfl (RsV.blk 2 rfl rfl rfl) (fun w hw=>⟨hw.k,.inr ⟨ndL,A,q+1,_,.rd Ar A.len 5 cs'::L,HE.out,rfl,hw.own 4 _ rfl,XA.list HF.out (Jt 0 hw rfl).1 (Jt 0 hw rfl).2,?_⟩⟩);exact(Q1p 0 4 hw rfl rfl (by decide)).app (HL.out.new fun x hx=>hw.onAll x (by simp [hx]))
  ·have hne:((c.toNat:Int) != stop)=true:=bne_iff_ne.2 hs;obtain⟨q1,hy1⟩:=Q9O (one:=Qx F D f elem) (A:=A) (n:=n) (p:=q) (gg:=fun z:VF×Nat=>okR (ndL,z.1,z.2)) HC.out hs (by rw[← HR.out];exact HS.out);have HY:=Lib.hid hy1;clear hy1;refine yq<|yq<|Xj (by kernel_rfl) (by kernel_rfl) ?_;refine Q5 (zB 3) ?_;refine Q5 (Qb rfl rfl (by decide) rfl rfl (fun w hw=>JN (H.out.next hw.k hq (hw.own 4 _ rfl)) HC.out)) ?_;refine Q5 (XE rfl rfl (by decide) rfl rfl rfl Tryz.underlying3 hcv) ?_;refine Q5 zF ?_;refine Q5 (zB 1) ?_;refine Q5 zna ?_;refine XM ?_;refine yn<|y1<|ys<|yn<|yb<|yr<|yo zM<|yo (zB 3)<|yo zF<|yo (zB 1) ?_;refine XY (QV _ _ _ rfl rfl rfl (fun w hw=>(HIH.out w elem q hel (H.out.next hw.k hq (hw.own 4 _ rfl)) ⟨q1,HY.out⟩).mono (fun e w' h=>Q5J 4 rfl hw (fun x hx=>by rw[HR.out,Qbj HC.out hs hx];rfl) h))) rfl (by decide) (fun y hy=>?_);refine Qo (J8 (xs:=[(0,.tmp 106)]) (vs:=[(0,.agg (y.cells).toArray)]) (cells:=y.cells) rfl rfl rfl (Q9p y)) rfl (by decide) (fun bn _=>?_);refine Qo (X9 1 rfl rfl rfl rfl rfl (fun w hw=>hw.rd_blk 0 rfl rfl) (by simp [Value.oneCell']) (by omega)) rfl (by decide) (fun z _=>?_);refine yo zA<|yl<|yd ?_;refine Xb ⟨A.snoc y.r.1 y.r.2.1,cs'++y.cells,z.1,z.2,L++y.L,y.r.2.2,n⟩ ⟨HF.out.snoc hy.2.1,HL.out.app hy.2.2,(hfar q y.r hq hy.1).2,by show (A.snoc _ _).len+n≤_;rw[VF.len_snoc];omega,by rw[HR.out,QaL HC.out hs hy.1]⟩ (Nat.lt_succ_self n) (.cons rfl rfl (.cons rfl rfl (.cons rfl rfl (.cons rfl (by rw[VF.len_snoc]) .nil)))) (fun w hw=>?_);have h:=hw.tl
   simp only[VF.len_snoc]
   exact h
end
def Qfu(f:FuncId)(c1 c2:Value)(w:World)(xs:List Int)(p:Int→Bool):Prop:=
 ∀(x:Int) (y:Up w),x∈xs→Calls Tryz.prog f #[.int .i64 x,c1,c2] y.w fun e w'=>e=.returned (.bool (p x))∧Below y.w.heap.size y.w w'
set_option maxRecDepth 100000 in
set_option maxHeartbeats 1000000 in
theorem Q5s{w:World}{A:Option Addr}{n c:Nat}{f:FuncId}{c1 c2:Value}{xs:List Int}{p:Int→Bool}(h:Rd w w.heap.size 1 A n (iv xs))(hn:n≤1048576)(ht:Qfu f c1 c2 w xs p)(hf:KK f):
  Calls Tryz.prog 66 #[.slice A n c,.func (.func f) #[] #[c1,c2]] w (Qe0 xs p w):=by
 have HL:=Lib.hid (show xs.length=n by have:=h.len;rw[Ki] at this;exact this);have HR:=Lib.hid h;have HT:=Lib.hid ht;have hfe:∀(args:Array Value) (W:World),(callFunc f args).run Tryz.prog W=.ok (.enter f args) W:=hf;clear h ht hf
 go_enter Tryz.func66,Tryz.ntmps66
 go_wp2_with fail
 go_loopw [8] (QdT xs p w) (fun k _=>n - (intOf k).toNat)
 case atStart=>exact⟨0,Nat.zero_le _,rfl,fun j r hj=>absurd hj (by omega),Below.refl _ _⟩
 case round=>
  obtain⟨i,hi,rfl,hff,hbw⟩:=hrel;rw[HL.out] at hi;have HF:=Lib.hid hff;have HB:=Lib.hid hbw;clear hff hbw
  by_cases hlt:i<n
  ·obtain⟨b,o,x,rfl,hb,hx,hc⟩:=Q1V HR.out hlt;have HX:=Lib.hid hx;have hc':=(HB.out.cell (by exact hb)).trans hc
   have hli:(i:Int)<(n:Int):=by omega
   have h0:(0:Int)≤(i:Int):=by omega
   clear hx hc
   go_wp2_with fail
   refine(HT.out x ⟨wr,HB.out⟩ (List.mem_of_getElem? HX.out)).mono ?_
   rintro e w2 ⟨rfl,hb2⟩
   have HB2:=Lib.hid (Qz HB.out (show Below wr.heap.size wr w2 from hb2));clear hb2 hc'
   cases hp:p x with
   |true=>
    have HP:=Lib.hid hp;clear hp
    go_wp2_with fail
    go_ret
    exact⟨by rw[Q47 HX.out HP.out HF.out];rfl,HB2.out⟩
   |false=>
    have HP:=Lib.hid hp;clear hp
    go_wp2_with fail
    go_roundw
    case rel=>exact⟨i+1,by rw[HL.out];omega,by go_num,fun j y hj hy=>by
     by_cases hji:j=i
     ·subst hji;have:=HX.out;rw[hy] at this
      cases this
      exact HP.out
     ·exact HF.out j y (by omega) hy,HB2.out⟩
    case measure=>simp [intOf];omega
  ·go_wp2_with fail
   go_ret
   exact⟨by rw[Q6U (fun j y hj=>HF.out j y (by rw[HL.out] at hj;omega))];rfl,HB.out⟩
section
variable {w:World}{z:Rv}{B g p:Nat}{F:List Rl}{D:List UInt8}
theorem QaI(F:List Rl)(k:Int):(JH F k).length≤256:=by
 have h:(JH F k).length=((List.range 256).filter ((K8 F).getD k.toNat Zx)).length:=by unfold JH V2;simp
 rw[h];exact Nat.le_trans (List.length_filter_le _ _) (by simp)
set_option maxRecDepth 100000 in
set_option maxHeartbeats 8000000 in
theorem Q3S(h:J0 w z B g F D p){b2 b9:Nat}{c:UInt8}{k:Int}(h2:w.cell? ⟨b2,0,none⟩=some (.pointer (some ⟨g,0,none⟩)))(h9:w.cell? ⟨b9,0,none⟩=some (.int .i64 (c.toNat:Int)))(hk:0≤k∧k<F.length):
  Calls Tryz.prog 67 #[.int .i64 k,.pointer (some ⟨b2,0,none⟩),.pointer (some ⟨b9,0,none⟩)] w fun e w'=>e=.returned (.bool (ZC (JH F k) (c.toNat:Int)))∧Below w.heap.size w w':=by
 obtain⟨_,hc1,_,_⟩:=h.cell;have hl:=h.len.2
 have hBw:B≤w.heap.size:=by have:=h.hB;have:=h.lt;omega
 have hfr:=h.env.fr;clear h;obtain⟨Af,As,Ad,n,nd,cf,cs,cd⟩:=z
 simp only at hc1 hl hfr
 subst hl;obtain⟨bs,os,rfl,_,hall⟩:=hfr;obtain⟨j,rfl⟩:∃j:Nat,k=(j:Int):=⟨k.toNat,by omega⟩;obtain⟨Ak,ck,hck,hrd,hlk⟩:=hall j (by omega)
 have hjl:j<F.length:=by omega
 have HRD:=Lib.hid hrd;have hn:=QaI F (j:Int);clear hrd hall
 go_enter Tryz.func67,Tryz.ntmps67
 refine QE (M:=[]) (W:=w) (N:=14) (E:=[(0,.int .i64 (j:Int)),(1,.pointer (some ⟨b2,0,none⟩)),(2,.pointer (some ⟨b9,0,none⟩))]) (O:=[]) ?_ (Ag.cons (Ag.cons (Ag.cons (Ag.nil rfl rfl) rfl) rfl) rfl) (Wd.start [] w);refine yq<|yr<|yo zA<|yl<|yn<|yq<|Xj (by kernel_rfl) (by kernel_rfl) ?_;refine Q5 (zG h2) ?_;refine Q5 (Qp rfl rfl (by decide) rfl rfl) ?_;refine Q5 zF ?_;refine Q5 (zG hc1) ?_;refine Q5 zM ?_;refine Q5 (zi1 (hj:=hjl)) ?_;refine Q5 (zG hck) ?_;refine Q5 (zG h9) ?_;refine Q5 (Qb rfl rfl (by decide) rfl rfl (fun w hw=>Calls.stay (Jf (HRD.out.below (hw.k.below.mono hBw)) (by omega)))) ?_;refine Q5 zA ?_;refine XM ?_;refine yn<|yt ?_;exact Q7 (by exact .inr rfl) rfl (.tmp rfl) (fun w hw=>⟨rfl,hw.k.below⟩)
end
theorem Qa3(o:Nat):∀(l:List Value) (k:Nat) (a:List Value),(l.zipIdx k).foldl (fun cs (x:Value×Nat)=>cs.setIfInBounds (o+x.2) x.1) a.toArray=(ZD a (o+k) l).toArray:=by
 intro l
 induction l with
 |nil=>intro k a;rfl
 |cons x l ih=>
  intro k a
  rw[List.zipIdx_cons,List.foldl_cons,ZD]
  have e:a.toArray.setIfInBounds (o+k) x=(a.set (o+k) x).toArray:=by simp
  show (l.zipIdx (k+1)).foldl _ (a.toArray.setIfInBounds (o+k) x)=_
  rw[e]
  exact ih (k+1) (a.set (o+k) x)
theorem Vr{f:Nat→Option (Nat×Nat)}{Z cs:List Value}{i o n:Nat}{v:Value}{rest:List (Nat×Value)}(hf:f i=some (o,n))(hv:v.cells=cs.toArray)(hl:cs.length=n)(hz:o+n≤Z.length):Instr.fill f Z.toArray ((i,v)::rest)=Instr.fill f (ZD Z o cs).toArray rest:=by
 have e:v.cells.zipIdx.foldl (fun cs (x:Value×Nat)=>cs.setIfInBounds (o+x.2) x.1) Z.toArray=(ZD Z o cs).toArray:=by
  rw[hv,← Array.foldl_toList]
  have h1:=Qa3 o cs 0 Z
  simpa using h1
 have hs1:v.cells.size=n:=by rw[hv,List.size_toArray,hl]
 have hc:¬(v.cells.size≠n∨o+v.cells.size>Z.toArray.size):=by rw[hs1,List.size_toArray];omega
 rw[Instr.fill,hf]
 dsimp only
 rw[if_neg (by simpa using hc)]
 exact congrArg (fun z=>Instr.fill f z rest) e
theorem Q3f{f:Nat→Option (Nat×Nat)}{Z:Array Value}:Instr.fill f Z []=some Z:=by rw[Instr.fill]
theorem Q21(F:List Rl)(ks:List Int)(c:UInt8):Q1q ks (fun x=>ZC (JH F x) (c.toNat:Int))=match ZY F ks c with|some i=>(i:Int)|none=>-1:=by
 unfold Q1q ZY
 simp only[Qcg]
 rfl
abbrev Q6k(i:Nat):List Value:=[.int .i64 1,.int .i64 (i:Int),.slice none 0 0,.slice none 0 0,.slice none 0 0]
theorem Qbk{Z A B:List Value}(ha:A.length=5)(hb:B.length=5)(hz:Z.length=10):ZD (ZD Z 0 A) 5 B=A++B:=by
 refine List.ext_getElem? fun i=>?_
 rw[VL,VL,Xz]
 by_cases h5:i<5
 ·rw[if_neg (by omega),if_pos (by omega),List.getElem?_append_left (by omega),Nat.sub_zero]
 ·rw[List.getElem?_append_right (by omega),ha]
  by_cases h10:i<10
  ·rw[if_pos (by omega)]
  ·rw[if_neg (by omega),if_neg (by omega),List.getElem?_eq_none (by omega),List.getElem?_eq_none (by omega)]
theorem QcZ(y:Vy)(i:Nat)(w:World):(Instr.buildSlice 28 2 #[(0,.agg (Q6k i).toArray),(1,.agg (y.cells).toArray)]).run Tryz.prog w=.ok (.slice (some ⟨w.heap.size,0,none⟩) 2 2) (w.alloc (.cells (Q6k i++y.cells).toArray 30)):=by
 have hT:SlT Tryz.prog 28 30 5 88:=(inferInstance:Sl Tryz.prog 28 30 5 88).h;obtain⟨j,z,hi,hz,hsz,hby,hzs⟩:=hT.info;refine run_buildSlice w _ _ 2 _ (Q6k i++y.cells).toArray j z hT.und hi hz (by rw[hsz];omega) (by rw[hsz];omega) ?_;rw[hsz];obtain⟨Z,hZ,hZl⟩:∃Z:List Value,(Array.range (2*5)).map (z.cells[·% z.cells.size]!)=Z.toArray∧Z.length=10:=⟨_,(Array.toArray_toList).symm,by simp⟩;rw[hZ]
 show Instr.fill (fun i=>some (i*5,5)) Z.toArray [(0,.agg (Q6k i).toArray),(1,.agg (y.cells).toArray)]=_
 rw[Vr (o:=0) (n:=5) (cs:=Q6k i) rfl rfl rfl (by omega),Vr (o:=5) (n:=5) (cs:=y.cells) rfl rfl rfl (by rw[Xz];omega),Q3f,Qbk rfl rfl hZl]
theorem Q03{w:World}{z:Rv}{B g p b2 b9 n cp:Nat}{F:List Rl}{D:List UInt8}{c:UInt8}{Ap:Option Addr}{ks:List Int}(h:J0 w z B g F D p)(h2:w.cell? ⟨b2,0,none⟩=some (.pointer (some ⟨g,0,none⟩)))(h9:w.cell? ⟨b9,0,none⟩=some (.int .i64 (c.toNat:Int)))(hks:Rd w w.heap.size 1 Ap n (iv ks))(hn:n≤1048576)(hpt:∀x∈ks,0≤x∧x<F.length):
  Calls Tryz.prog 66 #[.slice Ap n cp,.func (.func 67) #[] #[.pointer (some ⟨b2,0,none⟩),.pointer (some ⟨b9,0,none⟩)]] w fun e w'=>e=.returned (.int .i64 (match ZY F ks c with|some i=>(i:Int)|none=>-1))∧Below w.heap.size w w':=
 (Q5s (p:=fun x=>ZC (JH F x) (c.toNat:Int)) hks hn (fun x y hx=>Q3S (h.next (w:=y.w) ⟨y.b.os,y.b.tape,y.b.output,y.b.size,fun k hk _=>y.b.block k hk⟩ h.hp ((y.b.block g h.lt).trans h.cur)) ((y.b.cell (by exact Km h2)).trans h2) ((y.b.cell (by exact Km h9)).trans h9) (hpt x hx)) (fun _ _=>by kernel_rfl)).mono fun e w' ⟨he,hb⟩=>⟨by rw[he,Q21],hb⟩
section
variable {W w w':World}{z:Rv}{B g p i:Nat}{F:List Rl}{D:List UInt8}{O L:List Qc}{o o':Obj}{e:Ending}{α:Type}{RES:Rdg α}{k:Int}
set_option maxRecDepth 100000 in
set_option maxHeartbeats 32000000 in
theorem QdN(hv:Fm F)(f:Nat)(IH:IHv z B g F D f)(hsome:∃y,Qx F D (f+1) k p=some y)(hk:0≤k∧k<F.length)(h:J0 W z B g F D p)(hkind:(Qd F k).kind=8):
  Calls Tryz.prog 32 #[.pointer (some ⟨g,0,none⟩),.int .i64 k] W (VlE z g W (Qx F D (f+1) k p)):=by
 have H:=Lib.hid h;have hwd:=h.wd;have hp:=h.hp;have hD:=h.hD;have hFn:=h.len.2;have hr:=hv.toUsd.rok hk;obtain⟨RES,hres⟩:∃x,Qx F D (f+1) k p=x:=⟨_,rfl⟩
 have e8n:=fun h=>(QbR (F:=F) (D:=D) (f:=f) (p:=p) (k:=k) hkind h).symm.trans hres
 have e8m:=fun(c:UInt8) h1 h2=>(QaX (F:=F) (D:=D) (f:=f) (p:=p) (k:=k) (c:=c) hkind h1 h2).symm.trans hres
 have e8:=fun(c:UInt8) (i:Nat) h1 h2=>(QcJ (F:=F) (D:=D) (f:=f) (p:=p) (k:=k) (c:=c) (i:=i) hkind h1 h2).symm.trans hres
 have hpt:=hr.parts (.inr hkind);have hp12:=hr.p12;rw[hres] at hsome ⊢;have HS:=Lib.hid hsome;have HIH:=Lib.hid IH;obtain⟨Af,As,Ad,nn,nd,cf,cs,cd⟩:=z
 simp only at hFn
 obtain⟨bf,of,haf⟩:=h.af (show 0<nn by omega)
 simp only at haf
 subst haf;obtain⟨hbB,Ab,cb,An,cn,Ap,cp,hrg,hru⟩:=h.env.fm.ruleB (k:=k) (by simp only;omega)
 have hbg:¬bf=g:=by have:=h.hB;omega
 have hkn:0≤k∧k<(nn:Int):=by omega
 clear h hres hsome IH;obtain⟨r,er⟩:∃r,Qd F k=r:=⟨_,rfl⟩;rw[er] at hkind hr hrg hru e8m e8 hpt hp12;clear er;have HRK:=Lib.hid hr;have HRU:=Lib.hid hru;clear hru;obtain⟨name,kind,bs,size,big,mn,mx,stop,count,elem,names,parts⟩:=r
 simp only[ruC] at hkind hr hrg e8n e8m e8 hpt hp12
 have HRB:=Lib.hid (show Rd W B 1 Ab bs.length (bv bs) from HRU.out.b)
 go_enter Tryz.func32,Tryz.ntmps32
 haveI:Pan (bodyPost Tryz.prog Tryz.f32 (VlE ⟨some ⟨bf,of,none⟩,As,Ad,nn,nd,cf,cs,cd⟩ g W RES)) (V7 RES g W):=Pan.body fun ch w' ⟨x,h1,h2,h3⟩=>⟨h3,.inl ⟨x,h1,by rw[h2]⟩⟩
 refine QE (M:=[g]) (W:=W) (N:=181) (E:=[(0,.pointer (some ⟨g,0,none⟩)),(1,.int .i64 k)]) (O:=[.blk g (.cells ([.slice (some ⟨bf,of,none⟩) nn cf,.slice As nn cs,.slice Ad nd cd,.int .i64 (p:Int)]:List Value).toArray 60 (0,0))]) ?_ (Ag.cons (Ag.cons (Ag.nil rfl rfl) rfl) rfl) hwd;clear hwd;refine yq<|yr ?_;refine yB fun b2=>?_;refine yA fun b4=>?_;refine yl<|yn<|yq<|yr<|yo (zB 1) ?_;refine Q1 (Qp rfl rfl (by decide) rfl rfl) ?_;refine yo zF<|yo zF<|yo (zB 2)<|yo zM ?_;refine Q1 (Qm rfl rfl (by decide) rfl rfl rfl hkn) ?_;refine Q1 (QB rfl rfl (by decide) rfl rfl (fun w hw=>hw.range_old hrg (by simpa using hbg)) rfl) ?_;refine yA fun b5=>?_;refine yW 0 ?_;refine yl<|yn<|yq<|yq<|yr<|yo zF<|yo (zB 0)<|yl ?_;subst hkind;have HE:=Lib.hid e8;have HEM:=Lib.hid e8m;have HEN:=Lib.hid e8n;have HPT:=Lib.hid hpt;clear e8 e8m e8n hpt
 cases hc:D[p]? with
 |none=>
  have HN:=Lib.hid (HEN.out hc);have HC:=Lib.hid hc;clear hc;refine yn<|yb<|yq<|yr<|yo zef<|yo zA<|yl<|yn<|y0<|yq<|yq<|yr<|yo zef<|yo zA<|yl<|yn<|y0<|yr<|yo zef<|yo zA<|yl<|yn<|y0<|yq<|yr<|yo zef<|yo zA<|yl<|yn<|y0<|yq<|yr<|yo zef<|yo zA<|yl<|yn<|y0<|yq<|yr<|yo zef<|yo zA<|yl<|yn<|y0<|yq<|yr<|yo zef<|yo zA<|yl<|yn<|y0<|yq<|yr<|yo zef<|yo zA<|yl<|yn<|y0<|yq<|yr<|yo zet<|yo zA<|yl<|yn<|y1<|yq<|yr<|yo (zB 2) ?_;exact XY (QV _ _ _ rfl rfl rfl (fun w hw=>Q14 (H.out.next hw.k hp (hw.own 3 _ rfl)) HC.out hw (fun w' hw'=>⟨p,HN.out.symm,rfl,hw'.k⟩))) rfl (by decide) (fun i=>i.elim)
 |some c=>
  have hcv:=Yx c;have HC:=Lib.hid hc;clear hc;have hfi:=Q21 F parts c;have hrp:Rd W B 1 Ap parts.length (iv parts):=HRU.out.p;have HRP:=Lib.hid hrp
  cases hi:ZY F parts c with
  |none=>
   have HN:=Lib.hid (HEM.out c HC.out hi);have HI:=Lib.hid hi;clear hi;refine yn<|yb<|yq<|yr<|yo zef<|yo zA<|yl<|yn<|y0<|yq<|yq<|yr<|yo zef<|yo zA<|yl<|yn<|y0<|yr<|yo zef<|yo zA<|yl<|yn<|y0<|yq<|yr<|yo zef<|yo zA<|yl<|yn<|y0<|yq<|yr<|yo zef<|yo zA<|yl<|yn<|y0<|yq<|yr<|yo zef<|yo zA<|yl<|yn<|y0<|yq<|yr<|yo zef<|yo zA<|yl<|yn<|y0<|yq<|yr<|yo zef<|yo zA<|yl<|yn<|y0<|yq<|yr<|yo zet<|yo zA<|yl<|yn<|y1<|yq<|yr<|yo (zB 2) ?_;refine Q1 (Qb rfl rfl (by decide) rfl rfl (fun w hw=>JN (H.out.next hw.k hp (hw.own 3 _ rfl)) HC.out)) ?_;refine Q1 (XE rfl rfl (by decide) rfl rfl rfl Tryz.underlying3 hcv) ?_;refine yA fun b9=>?_;refine yS 0 ?_;refine yl<|yn<|yq<|yr<|yo zF<|yo (zB 1)<|yo zu ?_;refine Q1 (Qb rfl rfl (by decide) rfl rfl (fun w hw=>(Q03 (H.out.next hw.k hp (hw.own 4 _ rfl)) (hw.cell_blk 3 rfl rfl) (hw.cell_blkL 0 rfl rfl) ((HRP.out.below (hw.k.belowB H.out.hB H.out.lt)).more (by have:=H.out.hB;have:=H.out.lt;have:=hw.k.size;omega)) (by omega) HPT.out).mono (fun e w' h=>by rw[HI.out] at h;exact h))) ?_;refine yo zA<|yl<|yn<|yq<|yq<|yr<|yo zM<|yo zlr<|yl<|yn<|y1<|yr<|yo (zB 3) ?_;refine Q1 (Qp rfl rfl (by decide) rfl rfl) ?_;refine yo zF<|yo (zB 4) ?_;exact XY (QV _ _ _ rfl rfl rfl (fun w hw=>Zp hw (fun w' hw'=>⟨p,HN.out.symm,rfl,hw'.k⟩))) rfl (by decide) (fun i=>i.elim)
  |some i=>
   have HI:=Lib.hid hi;clear hi;have hil:i<parts.length:=(List.findIdx?_eq_some_iff_getElem.1 HI.out).1;obtain⟨bp,op,x,rfl,hbp,hx,hcx⟩:=Q1V HRP.out hil
   have hge:parts.getD i 0=x:=by rw[List.getD_eq_getElem?_getD,hx];rfl
   have HX:=Lib.hid (show (rb (Qx F D f x p) fun y=>okR (ndL,VF.cons (ndN (i:Int)) VF.nil (VF.cons y.1 y.2.1 VF.nil),y.2.2))=RES by rw[← HE.out c i HC.out HI.out,hge]);have hxk:=HPT.out x (List.mem_of_getElem? hx)
   obtain⟨q1,hy1⟩:∃y,Qx F D f x p=some y:=by
    obtain⟨r,hr⟩:=HS.out;rw[← HX.out] at hr
    cases h1:Qx F D f x p with
    |none=>rw[h1] at hr;cases hr
    |some y=>exact⟨y,rfl⟩
   have HY:=Lib.hid hy1;clear hy1 hge;have hBg:=H.out.hB;refine yn<|yb<|yq<|yr<|yo zef<|yo zA<|yl<|yn<|y0<|yq<|yq<|yr<|yo zef<|yo zA<|yl<|yn<|y0<|yr<|yo zef<|yo zA<|yl<|yn<|y0<|yq<|yr<|yo zef<|yo zA<|yl<|yn<|y0<|yq<|yr<|yo zef<|yo zA<|yl<|yn<|y0<|yq<|yr<|yo zef<|yo zA<|yl<|yn<|y0<|yq<|yr<|yo zef<|yo zA<|yl<|yn<|y0<|yq<|yr<|yo zef<|yo zA<|yl<|yn<|y0<|yq<|yr<|yo zet<|yo zA<|yl<|yn<|y1<|yq<|yr<|yo (zB 2) ?_;refine Q1 (Qb rfl rfl (by decide) rfl rfl (fun w hw=>JN (H.out.next hw.k hp (hw.own 3 _ rfl)) HC.out)) ?_;refine Q1 (XE rfl rfl (by decide) rfl rfl rfl Tryz.underlying3 hcv) ?_;refine yA fun b9=>?_;refine yS 0 ?_;refine yl<|yn<|yq<|yr<|yo zF<|yo (zB 1)<|yo zu ?_;refine Q1 (Qb rfl rfl (by decide) rfl rfl (fun w hw=>(Q03 (H.out.next hw.k hp (hw.own 4 _ rfl)) (hw.cell_blk 3 rfl rfl) (hw.cell_blkL 0 rfl rfl) ((HRP.out.below (hw.k.belowB H.out.hB H.out.lt)).more (by have:=H.out.hB;have:=H.out.lt;have:=hw.k.size;omega)) (by omega) HPT.out).mono (fun e w' h=>by rw[HI.out] at h;exact h))) ?_;refine yo zA<|yl<|yn<|yq<|yq<|yr<|yo zM<|yo zlr<|yl<|yn<|y0<|ys<|yn<|yq ?_;refine JR (B:=V7 RES g W) [.blk b2 (.cells ([.pointer (some ⟨g,0,none⟩)]:List Value).toArray 56 (0,0)),.blk b5 (.cells ([.string ⟨name.toArray⟩,.int .i64 8,.slice Ab bs.length cb,.int .i64 size,.bool big,.int .i64 mn,.int .i64 mx,.int .i64 stop,.int .i64 count,.int .i64 elem,.slice An names.length cn,.slice (some ⟨bp,op,none⟩) parts.length cp]:List Value).toArray 65 (0,0))] [] (by kernel_rfl) ?_ ?_
   ·infer_instance
   refine Xp 0 rfl (by kernel_rfl) (Q2.sel [3,1] (by decide) rfl) zM ?_;refine Xp 2 rfl (by kernel_rfl) (Q2.sel [3,1] (by decide) rfl) (zB 0) ?_;refine Xp 3 rfl (by kernel_rfl) (Q2.sel [3,1] (by decide) rfl) zF ?_;refine Xp 4 rfl (by kernel_rfl) (Q2.sel [3,1] (by decide) rfl) (zB 1) ?_;refine Xp 5 rfl (by kernel_rfl) (Q2.sel [3,1] (by decide) rfl) zM ?_;refine Xp 6 rfl (by kernel_rfl) (Q2.sel [3,1] (by decide) rfl) (zi1 (hj:=hil)) ?_;refine Xp 7 rfl (by kernel_rfl) (Q2.sel [3,1] (by decide) rfl) (QW rfl rfl (by decide) rfl rfl (fun w hw=>hw.cell_old hcx (by simp;omega))) ?_;refine Q1m 1 (by kernel_rfl) rfl (Q2.sel [3,1] (by decide) rfl) (Qb rfl rfl (by decide) rfl rfl (fun w hw=>K9 _ w)) ?_;refine Ks 8 (by kernel_rfl) rfl rfl (QV _ _ _ rfl rfl rfl (fun w hw=>(HIH.out w x p hxk (H.out.next hw.k hp (hw.own 4 _ rfl)) ⟨q1,HY.out⟩).mono (fun e w' h=>Q5J 4 rfl hw (fun v hv=>by rw[← HX.out,hv];rfl) h))) (fun i=>.inr (Q2.sel [3,1] (by decide) rfl)) rfl (by decide) (fun y hy=>?_);refine Ks 9 (by kernel_rfl) rfl rfl (pE.of (J8 (xs:=[(0,.tmp 135),(1,.tmp 142)]) (vs:=[(0,.agg (Q6k i).toArray),(1,.agg (y.cells).toArray)]) (cells:=Q6k i++y.cells) rfl rfl rfl (QcZ y i))) (fun i=>.inr (Q2.sel [4,2] (by decide) rfl)) rfl (by decide) (fun bn _=>?_);refine Q1m 10 (by kernel_rfl) rfl (Q2.sel [4,2] (by decide) rfl) (Qb rfl rfl (by decide) rfl rfl (fun w hw=>Vg _ _ _ w)) ?_;refine Qck 11 (by kernel_rfl) rfl rfl (pE.of (Ql 3 rfl rfl rfl rfl rfl rfl rfl (by simp))) (fun i=>.inr (Q2.sel [4,2] (by decide) rfl)) rfl (fun _ _=>?_);rw[Qn (by rfl)];refine Q4s ?_ (by kernel_rfl);refine yn<|yt<|yk<|yc ?_;refine Q7 (by exact .inr rfl) rfl (RsV.blk 3 rfl rfl rfl) (fun w hw=>⟨hw.k,.inr ⟨ndL,.cons (ndN (i:Int)) .nil (.cons y.r.1 y.r.2.1 .nil),y.r.2.2,_,.rd (some ⟨bn,0,none⟩) 2 5 (Q6k i++y.cells)::([]++[]++y.L),by rw[← HX.out,hy.1];rfl,rfl,hw.own 5 _ rfl,XA.list ((JO.nil.snoc (XA.num (i:Int))).snoc hy.2.1) (Nat.le_refl 2) (by decide),?_⟩⟩);have h1:=hw.blk_row (i:=0) (n:=2) (s:=5) rfl rfl (by decide);exact(Q1p 0 5 h1 rfl rfl (by decide)).app (hy.2.2.new fun x hx=>hw.onAll x (by simp [hx]))
end
end Go.Proofs.YtphkhfdmlcnoeaaGreatDoor
