import Derived.Test.YtgdiadednlajgaaGreatDoorP21
namespace Go.Proofs.YtgdiadednlajgaaGreatDoor
set_option linter.unusedVariables false
set_option linter.unusedSimpArgs false
open Go.RowKit
def Q3a(W:World)(l:List Int)(e:Ending)(w':World):Prop:=∃A c,e=.returned (.slice A l.length c)∧(Qg.row A l.length c 3 1 (iv l)).on w'∧Below W.heap.size W w'∧∀b,(Qg.row A l.length c 3 1 (iv l)).foot=some b→W.heap.size≤b
theorem QbF{W w:World}{O:List Qg}{A:Option Addr}{n c:Nat}{l:List Int}(hl:l.length=n)(hw:Wd [] W (.row A n c 3 1 (iv l)::O) w):Q3a W l (.returned (.slice A n c)) w:=by
 subst hl
 exact⟨A,c,rfl,hw.own 0 _ rfl,hw.k.below,fun b hb=>by
  rcases Nat.lt_or_ge b W.heap.size with h|h
  ·have:=hw.new 0 _ b rfl hb h
   simp [Qg.w] at this
  ·exact h⟩
theorem Q3a.wd{W w w':World}{O:List Qg}{l:List Int}{e:Ending}(h:Q3a w l e w')(hw:Wd [] W O w):QW (fun y:Option Addr×Nat=>.slice y.1 l.length y.2) (fun _=>True) [] W (fun y=>.row y.1 l.length y.2 3 1 (iv l)::O) e w':=by
 obtain⟨A,c,rfl,h1,h2,h3⟩:=h;exact⟨(A,c),rfl,trivial,hw.push h2 h1 h3⟩
def XM(F:List Rl)(old:List Int)(i:Nat):List Int:=(F.take i).map (V2 F old)
theorem Q76{F:List Rl}{old:List Int}{i:Nat}(h:i≤F.length):(XM F old i).length=i:=by unfold XM;rw[List.length_map,List.length_take];omega
theorem Q62{F:List Rl}{old:List Int}{i:Nat}{r:Rl}(h:F[i]? =some r):XM F old i++[V2 F old r]=XM F old (i+1):=by
 unfold XM
 rw[List.take_add_one,h]
 simp
theorem ZE(l:List Int)(x:Int):iv l++[.int .i64 x]=iv (l++[x]):=by unfold iv;simp
theorem Q5n{l:List Int}{j:Nat}(h:j<l.length):(iv l)[j]? =some (.int .i64 (l.getD j 0)):=by
 unfold iv
 rw[List.getElem?_map,List.getD_eq_getElem?_getD,List.getElem?_eq_getElem h]
 rfl
theorem Rd.num{w:World}{B n j:Nat}{A:Option Addr}{l:List Int}(h:Rd w B 1 A n (iv l))(hj:j<n):∃b o,A=some ⟨b,o,none⟩∧w.cell? ⟨b,o+j,none⟩=some (.int .i64 (l.getD j 0)):=by
 obtain⟨b,o,e,_,hc⟩:=h.2 (by omega);have hl:=h.len;rw[Kj] at hl;exact⟨b,o,e,hc j _ (Q5n (by omega))⟩
theorem Q0w(n:Int)(w:World):Calls Tryz.prog 57 #[.int .i64 n] w fun e w'=>e=.returned (.int .i64 (VZ n))∧Below w.heap.size w w':=
 (Q13 n w).mono fun _ _ h=>⟨h.1,h.2▸Below.refl _ _⟩
theorem Q4M(old:List Int)(n x:Int)(l:List Int):Kv old n (x::l)=Kv old (if 0≤(if lk old x<0 then -1 else n) then VZ ((if lk old x<0 then -1 else n)+lk old x) else (if lk old x<0 then -1 else n)) l:=rfl
theorem Q4Y(old:List Int)(n x:Int)(l:List Int):YJ old n (x::l)=YJ old (if 0≤lk old x∧(n<0∨lk old x<n) then lk old x else n) l:=rfl
theorem Q6o{l:List Int}{j:Nat}(h:j<l.length):l.getD j 0∈l:=by
 rw[List.getD_eq_getElem?_getD,List.getElem?_eq_getElem h];exact List.getElem_mem _
theorem Q51{l:List Int}{j:Nat}(h:j<l.length):l.drop j=l.getD j 0::l.drop (j+1):=by
 rw[List.getD_eq_getElem?_getD,List.getElem?_eq_getElem h];exact List.drop_eq_getElem_cons h
section
variable {A Ao:Option Addr}{n c co:Nat}{W:World}{F:List Rl}{old:List Int}
abbrev rdE(bf bo oo n co:Nat)(i:Nat)(A:Option Addr)(c:Nat):Env:=[(1,.slice (some ⟨bo,oo,none⟩) n co),(2,.pointer (some ⟨bf,0,none⟩)),(5,.slice A i c),(6,.int .i64 (i:Int))]
abbrev rdA(F:List Rl)(old:List Int)(bf b o n c i:Nat)(A:Option Addr)(ca:Nat):List Qg:=[.row A i ca 3 1 (iv (XM F old i)),.blk bf (.cells ([.slice (some ⟨b,o,none⟩) n c]:List Value).toArray 24 (0,0))]
set_option maxRecDepth 100000 in
set_option maxHeartbeats 32000000 in
theorem Q6q(hf:Xq W W.heap.size A n F)(hu:Usd F)(hn:n≤40)(ho:Rd W W.heap.size 1 Ao n (iv old))(hb:∀j:Nat,-1≤old.getD j 0∧old.getD j 0≤1001)(hn0:0<n):
  Calls Tryz.prog 36 #[.agg #[.slice A n c],.slice Ao n co] W (Q3a W (Jz F old)):=by
 have hlen:F.length=n:=hf.1;obtain⟨b,o,rfl⟩:=hf.addr (by omega);obtain⟨bo,oo,rfl,_⟩:=ho.num hn0;have HFM:=Lib.hid hf;have HU:=Lib.hid hu;have HO:=Lib.hid ho;have HB:=Lib.hid hb;have HLEN:=Lib.hid hlen
 have hcO:∀j,j<n→W.cell? ⟨bo,oo+j,none⟩=some (.int .i64 (old.getD j 0)):=fun j hj=>by
  obtain⟨b',o',e,h⟩:=HO.out.num hj
  cases e
  exact h
 have HCO:=Lib.hid hcO;clear hf hu ho hb hlen hcO
 go_enter Tryz.func36,Tryz.ntmps36
 refine QE (M:=[]) (W:=W) (N:=182) (E:=[(0,.agg #[.slice (some ⟨b,o,none⟩) n c]),(1,.slice (some ⟨bo,oo,none⟩) n co)]) (O:=[]) ?_ (Ag.cons (Ag.cons (Ag.nil rfl rfl) rfl) rfl) (Wd.start [] W);refine yq<|yr ?_;refine yB fun b2=>?_;refine yo zA<|yl<|yn<|yq<|yr<|yo zA<|yl<|yn<|yq<|yq<|yr<|yo zA<|yl<|yn<|yb ?_;refine JI 3 1 ?_;refine ZF (ι:=Nat×Option Addr×Nat) (fun y=>y.1≤n) (fun y=>n - y.1) (fun y=>rdE b2 bo oo n co y.1 y.2.1 y.2.2) (fun y=>rdA F old b2 b o n c y.1 y.2.1 y.2.2) (0,none,0) (Nat.zero_le _) (.cons rfl rfl (.cons rfl rfl (.cons rfl rfl (.cons rfl rfl .nil)))) (fun w hw=>hw) ?_
 rintro⟨i,A1,c1⟩ hi
 have hi':i≤n:=hi;clear hi
 show sE _ _ _ _ _ (rdE b2 bo oo n co i A1 c1) (rdA F old b2 b o n c i A1 c1) _
 by_cases hin:i<n
 ·obtain⟨rk,Ab,cb,An,cn,Ap,cp,hrk,hrg,hlk⟩:=HFM.out.rl hin;have hok:=HU.out.ok i rk hrk;rw[HLEN.out] at hok;have HST:=Lib.hid (Q62 (old:=old) hrk);have HLK:=Lib.hid hlk;have hrl:(XM F old i).length=i:=Q76 (by rw[HLEN.out];exact hi');have HRL:=Lib.hid hrl
  have hlst:(rk.kind=6∨rk.kind=10)→∃rc Ac cc Ad cd Ae ce,F[rk.count.toNat]? =some rc∧W.rangeAt b (o+rk.count.toNat*12) (ruC rc (.slice Ac rc.bs.length cc) (.slice Ad rc.names.length cd) (.slice Ae rc.parts.length ce))∧VQ F rk.count=JV rc.kind rc.mn∧0≤JV rc.kind rc.mn∧JV rc.kind rc.mn≤1001:=fun hk=>by
   obtain⟨rc,Ac,cc,Ad,cd,Ae,ce,hrc,hrg,_⟩:=HFM.out.rl (i:=rk.count.toNat) (by have:=hok.count hk;omega);have h1:=HU.out.least hrk hk
   have h2:VQ F rk.count=JV rc.kind rc.mn:=by unfold VQ;rw[hrc]
   exact⟨rc,Ac,cc,Ad,cd,Ae,ce,hrc,hrg,h2,by omega,by omega⟩
  have HLS:=Lib.hid hlst;have HOK:=Lib.hid hok;have hpp:=hlk.p;have HPP:=Lib.hid hpp;clear hrk hlk hrl hlst hpp;obtain⟨name,kind,bs,size,big,mn,mx,stop,count,elem,names,parts⟩:=rk;have hkd:=HOK.out.kind
  simp only[ruC] at hkd hrg
  rcases (show kind=1∨kind=2∨kind=3∨kind=4∨kind=5∨kind=9∨kind=6∨kind=10∨kind=7∨kind=8 by omega) with rfl|rfl|rfl|rfl|rfl|rfl|rfl|rfl|rfl|rfl
  ·clear hkd hok;refine yq<|yq<|yr<|yo zM<|yo zF<|yo (zB 1)<|yo zL<|yo zlt<|yl<|yn<|y1<|ys<|yn<|yq<|yb<|yq<|yr<|yo zF<|yo (zB 1)<|yo zM<|yo zi<|yo zE ?_;refine yA fun b7=>?_;refine yW 0 ?_;refine yl<|yn<|yq<|yr<|yo zA<|yl<|yn<|yq<|yq<|yr<|yo zF<|yo (zB 0)<|yl<|yn<|yb<|yq<|yr<|yo zet<|yo zA<|yl<|yn<|y1<|yr<|yo zF<|yo (zB 0)<|yo zL<|yo zA<|yl<|yn<|yr<|yo zM<|yo zM ?_;refine Qa (Qz (size:=1) rfl rfl rfl rfl rfl (by decide)) rfl (by decide) (fun bn _=>?_);refine Qa (QC 2 rfl rfl rfl rfl rfl (fun w hw=>hw.rd_blk 0 rfl rfl) (by simp [Value.oneCell']) (by omega)) rfl (by decide) (fun z _=>?_);refine yo zA<|yl<|yn<|yr<|yo zM<|yo zP<|yo zA<|yl ?_;refine QH (i+1,z.1,z.2) hin (by show n - (i+1)<n - i;omega) (.cons rfl rfl (.cons rfl rfl (.cons rfl rfl (.cons rfl (by go_num) .nil)))) (fun w hw=>?_)
   show Wd [] W [.row z.1 (i+1) z.2 3 1 (iv (XM F old (i+1))),_] w
   rw[← HST.out,← ZE];exact hw.tl.tl
  ·clear hkd hok;refine yq<|yq<|yr<|yo zM<|yo zF<|yo (zB 1)<|yo zL<|yo zlt<|yl<|yn<|y1<|ys<|yn<|yq<|yb<|yq<|yr<|yo zF<|yo (zB 1)<|yo zM<|yo zi<|yo zE ?_;refine yA fun b7=>?_;refine yW 0 ?_;refine yl<|yn<|yq<|yr<|yo zA<|yl<|yn<|yq<|yq<|yr<|yo zF<|yo (zB 0)<|yl<|yn<|yb<|yq<|yr<|yo zef<|yo zA<|yl<|yn<|y0<|yq<|yq<|yr<|yo zet<|yo zA<|yl<|yn<|y1<|ys<|yn<|y1<|yr<|yo zF<|yo (zB 0)<|yo zA<|yl<|yn<|yr<|yo zM<|yo zM ?_;refine Qa (Qz (size:=1) rfl rfl rfl rfl rfl (by decide)) rfl (by decide) (fun bn _=>?_);refine Qa (QC 2 rfl rfl rfl rfl rfl (fun w hw=>hw.rd_blk 0 rfl rfl) (by simp [Value.oneCell']) (by omega)) rfl (by decide) (fun z _=>?_);refine yo zA<|yl<|yn<|yr<|yo zM<|yo zP<|yo zA<|yl ?_;refine QH (i+1,z.1,z.2) hin (by show n - (i+1)<n - i;omega) (.cons rfl rfl (.cons rfl rfl (.cons rfl rfl (.cons rfl (by go_num) .nil)))) (fun w hw=>?_)
   show Wd [] W [.row z.1 (i+1) z.2 3 1 (iv (XM F old (i+1))),_] w
   rw[← HST.out,← ZE];exact hw.tl.tl
  ·clear hkd hok;refine yq<|yq<|yr<|yo zM<|yo zF<|yo (zB 1)<|yo zL<|yo zlt<|yl<|yn<|y1<|ys<|yn<|yq<|yb<|yq<|yr<|yo zF<|yo (zB 1)<|yo zM<|yo zi<|yo zE ?_;refine yA fun b7=>?_;refine yW 0 ?_;refine yl<|yn<|yq<|yr<|yo zA<|yl<|yn<|yq<|yq<|yr<|yo zF<|yo (zB 0)<|yl<|yn<|yb<|yq<|yr<|yo zef<|yo zA<|yl<|yn<|y0<|yq<|yq<|yr<|yo zef<|yo zA<|yl<|yn<|y0<|yr<|yo zef<|yo zA<|yl<|yn<|y0<|yq<|yr<|yo zet<|yo zA<|yl<|yn<|y1<|yr<|yo zA<|yl<|yn<|yr<|yo zM<|yo zM ?_;refine Qa (Qz (size:=1) rfl rfl rfl rfl rfl (by decide)) rfl (by decide) (fun bn _=>?_);refine Qa (QC 2 rfl rfl rfl rfl rfl (fun w hw=>hw.rd_blk 0 rfl rfl) (by simp [Value.oneCell']) (by omega)) rfl (by decide) (fun z _=>?_);refine yo zA<|yl<|yn<|yr<|yo zM<|yo zP<|yo zA<|yl ?_;refine QH (i+1,z.1,z.2) hin (by show n - (i+1)<n - i;omega) (.cons rfl rfl (.cons rfl rfl (.cons rfl rfl (.cons rfl (by go_num) .nil)))) (fun w hw=>?_)
   show Wd [] W [.row z.1 (i+1) z.2 3 1 (iv (XM F old (i+1))),_] w
   rw[← HST.out,← ZE];exact hw.tl.tl
  ·clear hkd hok;refine yq<|yq<|yr<|yo zM<|yo zF<|yo (zB 1)<|yo zL<|yo zlt<|yl<|yn<|y1<|ys<|yn<|yq<|yb<|yq<|yr<|yo zF<|yo (zB 1)<|yo zM<|yo zi<|yo zE ?_;refine yA fun b7=>?_;refine yW 0 ?_;refine yl<|yn<|yq<|yr<|yo zA<|yl<|yn<|yq<|yq<|yr<|yo zF<|yo (zB 0)<|yl<|yn<|yb<|yq<|yr<|yo zef<|yo zA<|yl<|yn<|y0<|yq<|yq<|yr<|yo zef<|yo zA<|yl<|yn<|y0<|yr<|yo zet<|yo zA<|yl<|yn<|y1<|yr<|yo zF<|yo (zB 0)<|yo zA<|yl<|yn<|yr<|yo zM<|yo zM ?_;refine Qa (Qz (size:=1) rfl rfl rfl rfl rfl (by decide)) rfl (by decide) (fun bn _=>?_);refine Qa (QC 2 rfl rfl rfl rfl rfl (fun w hw=>hw.rd_blk 0 rfl rfl) (by simp [Value.oneCell']) (by omega)) rfl (by decide) (fun z _=>?_);refine yo zA<|yl<|yn<|yr<|yo zM<|yo zP<|yo zA<|yl ?_;refine QH (i+1,z.1,z.2) hin (by show n - (i+1)<n - i;omega) (.cons rfl rfl (.cons rfl rfl (.cons rfl rfl (.cons rfl (by go_num) .nil)))) (fun w hw=>?_)
   show Wd [] W [.row z.1 (i+1) z.2 3 1 (iv (XM F old (i+1))),_] w
   rw[← HST.out,← ZE];exact hw.tl.tl
  ·clear hkd hok;refine yq<|yq<|yr<|yo zM<|yo zF<|yo (zB 1)<|yo zL<|yo zlt<|yl<|yn<|y1<|ys<|yn<|yq<|yb<|yq<|yr<|yo zF<|yo (zB 1)<|yo zM<|yo zi<|yo zE ?_;refine yA fun b7=>?_;refine yW 0 ?_;refine yl<|yn<|yq<|yr<|yo zA<|yl<|yn<|yq<|yq<|yr<|yo zF<|yo (zB 0)<|yl<|yn<|yb<|yq<|yr<|yo zef<|yo zA<|yl<|yn<|y0<|yq<|yq<|yr<|yo zef<|yo zA<|yl<|yn<|y0<|yr<|yo zef<|yo zA<|yl<|yn<|y0<|yq<|yr<|yo zef<|yo zA<|yl<|yn<|y0<|yq<|yq<|yr<|yo zet<|yo zA<|yl<|yn<|y1<|ys<|yn<|y1<|yr<|yo zA<|yl<|yn<|yr<|yo zM<|yo zM ?_;refine Qa (Qz (size:=1) rfl rfl rfl rfl rfl (by decide)) rfl (by decide) (fun bn _=>?_);refine Qa (QC 2 rfl rfl rfl rfl rfl (fun w hw=>hw.rd_blk 0 rfl rfl) (by simp [Value.oneCell']) (by omega)) rfl (by decide) (fun z _=>?_);refine yo zA<|yl<|yn<|yr<|yo zM<|yo zP<|yo zA<|yl ?_;refine QH (i+1,z.1,z.2) hin (by show n - (i+1)<n - i;omega) (.cons rfl rfl (.cons rfl rfl (.cons rfl rfl (.cons rfl (by go_num) .nil)))) (fun w hw=>?_)
   show Wd [] W [.row z.1 (i+1) z.2 3 1 (iv (XM F old (i+1))),_] w
   rw[← HST.out,← ZE];exact hw.tl.tl
  ·clear hkd hok;refine yq<|yq<|yr<|yo zM<|yo zF<|yo (zB 1)<|yo zL<|yo zlt<|yl<|yn<|y1<|ys<|yn<|yq<|yb<|yq<|yr<|yo zF<|yo (zB 1)<|yo zM<|yo zi<|yo zE ?_;refine yA fun b7=>?_;refine yW 0 ?_;refine yl<|yn<|yq<|yr<|yo zA<|yl<|yn<|yq<|yq<|yr<|yo zF<|yo (zB 0)<|yl<|yn<|yb<|yq<|yr<|yo zef<|yo zA<|yl<|yn<|y0<|yq<|yq<|yr<|yo zef<|yo zA<|yl<|yn<|y0<|yr<|yo zef<|yo zA<|yl<|yn<|y0<|yq<|yr<|yo zef<|yo zA<|yl<|yn<|y0<|yq<|yq<|yr<|yo zef<|yo zA<|yl<|yn<|y0<|yr<|yo zet<|yo zA<|yl<|yn<|y1<|yr<|yo zA<|yl<|yn<|yr<|yo zM<|yo zM ?_;refine Qa (Qz (size:=1) rfl rfl rfl rfl rfl (by decide)) rfl (by decide) (fun bn _=>?_);refine Qa (QC 2 rfl rfl rfl rfl rfl (fun w hw=>hw.rd_blk 0 rfl rfl) (by simp [Value.oneCell']) (by omega)) rfl (by decide) (fun z _=>?_);refine yo zA<|yl<|yn<|yr<|yo zM<|yo zP<|yo zA<|yl ?_;refine QH (i+1,z.1,z.2) hin (by show n - (i+1)<n - i;omega) (.cons rfl rfl (.cons rfl rfl (.cons rfl rfl (.cons rfl (by go_num) .nil)))) (fun w hw=>?_)
   show Wd [] W [.row z.1 (i+1) z.2 3 1 (iv (XM F old (i+1))),_] w
   rw[← HST.out,← ZE];exact hw.tl.tl
  ·obtain⟨rc,Ac,cc,Ad,cd,Ae,ce,hrc,hrgc,hln,hl0,hl1⟩:=HLS.out (.inl rfl);clear hrc;have hcnt:0≤count∧count<n:=hok.count (.inl rfl);have hc1:=HCO.out count.toNat (by omega);have hb1:=HB.out count.toNat;clear hkd;obtain⟨cname,ckind,cbs,csize,cbig,cmn,cmx,cstop,ccount,celem,cnames,cparts⟩:=rc
   simp only[ruC] at hrgc hln hl0 hl1
   replace hln:VQ F count=JV ckind cmn:=hln
   obtain⟨L,hL⟩:∃L,JV ckind cmn=L:=⟨_,rfl⟩;obtain⟨X,hX⟩:∃X,old.getD count.toNat 0=X:=⟨_,rfl⟩;rw[hL] at hln hl0 hl1;rw[hX] at hc1 hb1;have HL:=Lib.hid hL
   replace hX:lk old count=X:=hX
   have helm:0≤elem∧elem<n:=hok.elem (.inl rfl);have hc2:=HCO.out elem.toNat (by omega);have hb2:=HB.out elem.toNat;obtain⟨Y,hY⟩:∃X,old.getD elem.toNat 0=X:=⟨_,rfl⟩;rw[hY] at hc2 hb2
   replace hY:lk old elem=Y:=hY
   have h6:=Q61 (F:=F) old (r:=⟨name,6,bs,size,big,mn,mx,stop,count,elem,names,parts⟩) rfl
   simp only at h6
   rw[hX,hY,hln] at h6;clear hL hln hX hY hok
   by_cases hx0:0≤X
   ·by_cases hz:L=0
    ·rw[if_pos ⟨hx0,hz⟩] at h6;have H6:=Lib.hid h6;clear h6;refine yq<|yq<|yr<|yo zM<|yo zF<|yo (zB 1)<|yo zL<|yo zlt<|yl<|yn<|y1<|ys<|yn<|yq<|yb<|yq<|yr<|yo zF<|yo (zB 1)<|yo zM<|yo zi<|yo zE ?_;refine yA fun b7=>?_;refine yW 0 ?_;refine yl<|yn<|yq<|yr<|yo zA<|yl<|yn<|yq<|yq<|yr<|yo zF<|yo (zB 0)<|yl<|yn<|yb<|yq<|yr<|yo zef<|yo zA<|yl<|yn<|y0<|yq<|yq<|yr<|yo zef<|yo zA<|yl<|yn<|y0<|yr<|yo zef<|yo zA<|yl<|yn<|y0<|yq<|yr<|yo zef<|yo zA<|yl<|yn<|y0<|yq<|yq<|yr<|yo zef<|yo zA<|yl<|yn<|y0<|yr<|yo zef<|yo zA<|yl<|yn<|y0<|yq<|yr<|yo zet<|yo zA<|yl<|yn<|y1<|yq<|yr<|yo zF<|yo (zB 2)<|yo zF<|yo (zB 0) ?_;refine Q1 (Qv rfl rfl (by decide) rfl rfl rfl (by omega)) ?_;refine yo zE ?_;refine yA fun b9=>?_;refine yW 0 ?_;refine yl<|yn<|yq<|yr<|yo zM<|yo zF<|yo (zB 1) ?_;refine Q1 (Qo rfl rfl (by decide) rfl rfl rfl (by omega)) ?_;refine yo zC<|yo zht<|yo zM<|yo (zD 0) ?_;(refine Q1 (Q4 (f:=56) rfl rfl (by decide) rfl rfl (fun w hw=>by rw[← HL.out];exact JY _ _ w) (v:=.int .i64 L)) ?_);refine yo zet<|yo zY<|yl<|yn<|y1<|yr<|yo zM<|yo zF<|yo (zB 1) ?_;refine Q1 (Qo rfl rfl (by decide) rfl rfl rfl (by omega)) ?_;refine yo zC<|yo zA<|yl<|yn<|yr<|yo zM<|yo zM ?_;refine Qa (Qz (size:=1) rfl rfl rfl rfl rfl (by decide)) rfl (by decide) (fun bn _=>?_);refine Qa (QC 3 rfl rfl rfl rfl rfl (fun w hw=>hw.rd_blk 0 rfl rfl) (by simp [Value.oneCell']) (by omega)) rfl (by decide) (fun z _=>?_);refine yo zA<|yl<|yn<|yr<|yo zM<|yo zP<|yo zA<|yl ?_;refine QH (i+1,z.1,z.2) hin (by show n - (i+1)<n - i;omega) (.cons rfl rfl (.cons rfl rfl (.cons rfl rfl (.cons rfl (by go_num) .nil)))) (fun w hw=>?_)
     show Wd [] W [.row z.1 (i+1) z.2 3 1 (iv (XM F old (i+1))),_] w
     rw[← HST.out,H6.out,← ZE];exact hw.tl.tl.tl
    ·rw[if_neg (fun h=>hz h.2)] at h6
     by_cases hy0:0≤Y
     ·rw[if_pos ⟨hx0,hy0⟩] at h6;have H6:=Lib.hid h6;clear h6;have hm0:=Int.mul_nonneg hl0 hy0;have hm1:L*Y≤1001*1001:=Int.mul_le_mul hl1 hb2.2 hy0 (by decide);refine yq<|yq<|yr<|yo zM<|yo zF<|yo (zB 1)<|yo zL<|yo zlt<|yl<|yn<|y1<|ys<|yn<|yq<|yb<|yq<|yr<|yo zF<|yo (zB 1)<|yo zM<|yo zi<|yo zE ?_;refine yA fun b7=>?_;refine yW 0 ?_;refine yl<|yn<|yq<|yr<|yo zA<|yl<|yn<|yq<|yq<|yr<|yo zF<|yo (zB 0)<|yl<|yn<|yb<|yq<|yr<|yo zef<|yo zA<|yl<|yn<|y0<|yq<|yq<|yr<|yo zef<|yo zA<|yl<|yn<|y0<|yr<|yo zef<|yo zA<|yl<|yn<|y0<|yq<|yr<|yo zef<|yo zA<|yl<|yn<|y0<|yq<|yq<|yr<|yo zef<|yo zA<|yl<|yn<|y0<|yr<|yo zef<|yo zA<|yl<|yn<|y0<|yq<|yr<|yo zet<|yo zA<|yl<|yn<|y1<|yq<|yr<|yo zF<|yo (zB 2)<|yo zF<|yo (zB 0) ?_;refine Q1 (Qv rfl rfl (by decide) rfl rfl rfl (by omega)) ?_;refine yo zE ?_;refine yA fun b9=>?_;refine yW 0 ?_;refine yl<|yn<|yq<|yr<|yo zM<|yo zF<|yo (zB 1) ?_;refine Q1 (Qo rfl rfl (by decide) rfl rfl rfl (by omega)) ?_;refine yo zC<|yo zht<|yo zM<|yo (zD 0) ?_;(refine Q1 (Q4 (f:=56) rfl rfl (by decide) rfl rfl (fun w hw=>by rw[← HL.out];exact JY _ _ w) (v:=.int .i64 L)) ?_);refine yo zef<|yo zY<|yl<|yn<|y0<|yq<|yr<|yo zM<|yo zF<|yo (zB 1) ?_;refine Q1 (Qo rfl rfl (by decide) rfl rfl rfl (by omega)) ?_;refine yo zC<|yo zht<|yo zM<|yo zM<|yo zF<|yo (zB 1) ?_;refine Q1 (Qo rfl rfl (by decide) rfl rfl rfl (by omega)) ?_;refine yo zC<|yo zht<|yo zY<|yl<|yn<|y1<|Xm (by kernel_rfl) (by kernel_rfl) ?_;refine Qd zM ?_;refine Qd zF ?_;refine Qd (zB 1) ?_;refine Qd (Qo rfl rfl (by decide) rfl rfl rfl (by omega)) ?_;refine Qd zC ?_;refine Qd (zD 0) ?_;refine Qd (Q4 (f:=56) rfl rfl (by decide) rfl rfl (fun w hw=>by rw[← HL.out];exact JY _ _ w) (v:=.int .i64 L)) ?_;refine Qd zM ?_;refine Qd zF ?_;refine Qd (zB 1) ?_;refine Qd (Qo rfl rfl (by decide) rfl rfl rfl (by omega)) ?_;refine Qd zC ?_;refine Qd (Q56 (k:=.i64) rfl rfl (by decide) rfl rfl rfl (IntWalk.i64_in _ (by omega))) ?_;refine Qd zP ?_;refine Qd (Q4 (f:=57) rfl rfl (by decide) rfl rfl (fun w hw=>Q0w _ w)) ?_;refine Qd zA ?_;refine XS ?_
      refine yn<|yr<|yo zM<|yo zM ?_;refine Qa (Qz (size:=1) rfl rfl rfl rfl rfl (by decide)) rfl (by decide) (fun bn _=>?_);refine Qa (QC 3 rfl rfl rfl rfl rfl (fun w hw=>hw.rd_blk 0 rfl rfl) (by simp [Value.oneCell']) (by omega)) rfl (by decide) (fun z _=>?_);refine yo zA<|yl<|yn<|yr<|yo zM<|yo zP<|yo zA<|yl ?_;refine QH (i+1,z.1,z.2) hin (by show n - (i+1)<n - i;omega) (.cons rfl rfl (.cons rfl rfl (.cons rfl rfl (.cons rfl (by go_num) .nil)))) (fun w hw=>?_)
      show Wd [] W [.row z.1 (i+1) z.2 3 1 (iv (XM F old (i+1))),_] w
      rw[← HST.out,H6.out,← ZE];exact hw.tl.tl.tl
     ·rw[if_neg (fun h=>hy0 h.2)] at h6;have H6:=Lib.hid h6;clear h6;refine yq<|yq<|yr<|yo zM<|yo zF<|yo (zB 1)<|yo zL<|yo zlt<|yl<|yn<|y1<|ys<|yn<|yq<|yb<|yq<|yr<|yo zF<|yo (zB 1)<|yo zM<|yo zi<|yo zE ?_;refine yA fun b7=>?_;refine yW 0 ?_;refine yl<|yn<|yq<|yr<|yo zA<|yl<|yn<|yq<|yq<|yr<|yo zF<|yo (zB 0)<|yl<|yn<|yb<|yq<|yr<|yo zef<|yo zA<|yl<|yn<|y0<|yq<|yq<|yr<|yo zef<|yo zA<|yl<|yn<|y0<|yr<|yo zef<|yo zA<|yl<|yn<|y0<|yq<|yr<|yo zef<|yo zA<|yl<|yn<|y0<|yq<|yq<|yr<|yo zef<|yo zA<|yl<|yn<|y0<|yr<|yo zef<|yo zA<|yl<|yn<|y0<|yq<|yr<|yo zet<|yo zA<|yl<|yn<|y1<|yq<|yr<|yo zF<|yo (zB 2)<|yo zF<|yo (zB 0) ?_;refine Q1 (Qv rfl rfl (by decide) rfl rfl rfl (by omega)) ?_;refine yo zE ?_;refine yA fun b9=>?_;refine yW 0 ?_;refine yl<|yn<|yq<|yr<|yo zM<|yo zF<|yo (zB 1) ?_;refine Q1 (Qo rfl rfl (by decide) rfl rfl rfl (by omega)) ?_;refine yo zC<|yo zht<|yo zM<|yo (zD 0) ?_;(refine Q1 (Q4 (f:=56) rfl rfl (by decide) rfl rfl (fun w hw=>by rw[← HL.out];exact JY _ _ w) (v:=.int .i64 L)) ?_);refine yo zef<|yo zY<|yl<|yn<|y0<|yq<|yr<|yo zM<|yo zF<|yo (zB 1) ?_;refine Q1 (Qo rfl rfl (by decide) rfl rfl rfl (by omega)) ?_;refine yo zC<|yo zht<|yo zM<|yo zM<|yo zF<|yo (zB 1) ?_;refine Q1 (Qo rfl rfl (by decide) rfl rfl rfl (by omega)) ?_;refine yo zC<|yo zhf<|yo zY<|yl<|yn<|y0<|ys<|yn<|yr<|yo zM<|yo zM ?_;refine Qa (Qz (size:=1) rfl rfl rfl rfl rfl (by decide)) rfl (by decide) (fun bn _=>?_);refine Qa (QC 3 rfl rfl rfl rfl rfl (fun w hw=>hw.rd_blk 0 rfl rfl) (by simp [Value.oneCell']) (by omega)) rfl (by decide) (fun z _=>?_);refine yo zA<|yl<|yn<|yr<|yo zM<|yo zP<|yo zA<|yl ?_;refine QH (i+1,z.1,z.2) hin (by show n - (i+1)<n - i;omega) (.cons rfl rfl (.cons rfl rfl (.cons rfl rfl (.cons rfl (by go_num) .nil)))) (fun w hw=>?_)
      show Wd [] W [.row z.1 (i+1) z.2 3 1 (iv (XM F old (i+1))),_] w
      rw[← HST.out,H6.out,← ZE];exact hw.tl.tl.tl
   ·rw[if_neg (fun h=>hx0 h.1),if_neg (fun h=>hx0 h.1)] at h6;have H6:=Lib.hid h6;clear h6
    have hz0:L=0∨L≠0:=by omega
    refine yq<|yq<|yr<|yo zM<|yo zF<|yo (zB 1)<|yo zL<|yo zlt<|yl<|yn<|y1<|ys<|yn<|yq<|yb<|yq<|yr<|yo zF<|yo (zB 1)<|yo zM<|yo zi<|yo zE ?_;refine yA fun b7=>?_;refine yW 0 ?_;refine yl<|yn<|yq<|yr<|yo zA<|yl<|yn<|yq<|yq<|yr<|yo zF<|yo (zB 0)<|yl<|yn<|yb<|yq<|yr<|yo zef<|yo zA<|yl<|yn<|y0<|yq<|yq<|yr<|yo zef<|yo zA<|yl<|yn<|y0<|yr<|yo zef<|yo zA<|yl<|yn<|y0<|yq<|yr<|yo zef<|yo zA<|yl<|yn<|y0<|yq<|yq<|yr<|yo zef<|yo zA<|yl<|yn<|y0<|yr<|yo zef<|yo zA<|yl<|yn<|y0<|yq<|yr<|yo zet<|yo zA<|yl<|yn<|y1<|yq<|yr<|yo zF<|yo (zB 2)<|yo zF<|yo (zB 0) ?_;refine Q1 (Qv rfl rfl (by decide) rfl rfl rfl (by omega)) ?_;refine yo zE ?_;refine yA fun b9=>?_;refine yW 0 ?_;refine yl<|yn<|yq<|yr<|yo zM<|yo zF<|yo (zB 1) ?_;refine Q1 (Qo rfl rfl (by decide) rfl rfl rfl (by omega)) ?_;refine yo zC<|yo zhf<|yo zM<|yo zS<|yo zS<|yo zS<|yo zN<|yl<|yn<|y0<|yq<|yr<|yo zM<|yo zF<|yo (zB 1) ?_;refine Q1 (Qo rfl rfl (by decide) rfl rfl rfl (by omega)) ?_;refine yo zC<|yo zhf<|yo zM<|yo zS<|yo zS<|yo zS<|yo zS<|yo zS<|yo zS<|yo zN<|yl<|yn<|y0<|ys<|yn<|yr<|yo zM<|yo zM ?_;refine Qa (Qz (size:=1) rfl rfl rfl rfl rfl (by decide)) rfl (by decide) (fun bn _=>?_);refine Qa (QC 3 rfl rfl rfl rfl rfl (fun w hw=>hw.rd_blk 0 rfl rfl) (by simp [Value.oneCell']) (by omega)) rfl (by decide) (fun z _=>?_);refine yo zA<|yl<|yn<|yr<|yo zM<|yo zP<|yo zA<|yl ?_;refine QH (i+1,z.1,z.2) hin (by show n - (i+1)<n - i;omega) (.cons rfl rfl (.cons rfl rfl (.cons rfl rfl (.cons rfl (by go_num) .nil)))) (fun w hw=>?_)
    show Wd [] W [.row z.1 (i+1) z.2 3 1 (iv (XM F old (i+1))),_] w
    rw[← HST.out,H6.out,← ZE];exact hw.tl.tl.tl
  ·obtain⟨rc,Ac,cc,Ad,cd,Ae,ce,hrc,hrgc,hln,hl0,hl1⟩:=HLS.out (.inr rfl);clear hrc;have hcnt:0≤count∧count<n:=hok.count (.inr rfl);have hc1:=HCO.out count.toNat (by omega);have hb1:=HB.out count.toNat;clear hkd;obtain⟨cname,ckind,cbs,csize,cbig,cmn,cmx,cstop,ccount,celem,cnames,cparts⟩:=rc
   simp only[ruC] at hrgc hln hl0 hl1
   replace hln:VQ F count=JV ckind cmn:=hln
   obtain⟨L,hL⟩:∃L,JV ckind cmn=L:=⟨_,rfl⟩;obtain⟨X,hX⟩:∃X,old.getD count.toNat 0=X:=⟨_,rfl⟩;rw[hL] at hln hl0 hl1;rw[hX] at hc1 hb1;have HL:=Lib.hid hL
   replace hX:lk old count=X:=hX
   have h6:=Q2V (F:=F) old (r:=⟨name,10,bs,size,big,mn,mx,stop,count,elem,names,parts⟩) rfl
   simp only at h6
   rw[hX,hln] at h6;clear hL hln hX hok
   by_cases hx0:0≤X
   ·rw[if_pos hx0] at h6;have H6:=Lib.hid h6;clear h6;refine yq<|yq<|yr<|yo zM<|yo zF<|yo (zB 1)<|yo zL<|yo zlt<|yl<|yn<|y1<|ys<|yn<|yq<|yb<|yq<|yr<|yo zF<|yo (zB 1)<|yo zM<|yo zi<|yo zE ?_;refine yA fun b7=>?_;refine yW 0 ?_;refine yl<|yn<|yq<|yr<|yo zA<|yl<|yn<|yq<|yq<|yr<|yo zF<|yo (zB 0)<|yl<|yn<|yb<|yq<|yr<|yo zef<|yo zA<|yl<|yn<|y0<|yq<|yq<|yr<|yo zef<|yo zA<|yl<|yn<|y0<|yr<|yo zef<|yo zA<|yl<|yn<|y0<|yq<|yr<|yo zef<|yo zA<|yl<|yn<|y0<|yq<|yq<|yr<|yo zef<|yo zA<|yl<|yn<|y0<|yr<|yo zef<|yo zA<|yl<|yn<|y0<|yq<|yr<|yo zef<|yo zA<|yl<|yn<|y0<|yq<|yr<|yo zet<|yo zA<|yl<|yn<|y1<|yq<|yr<|yo zM<|yo zF<|yo (zB 0) ?_;refine Q1 (Qo rfl rfl (by decide) rfl rfl rfl (by omega)) ?_;refine yo zC<|yo zht<|yl<|yn<|y1<|Xm (by kernel_rfl) (by kernel_rfl) ?_;refine Qd zM ?_;refine Qd zF ?_;refine Qd (zB 0) ?_;refine Qd (Qo rfl rfl (by decide) rfl rfl rfl (by omega)) ?_;refine Qd zC ?_;refine Qd zF ?_;refine Qd (zB 2) ?_;refine Qd zF ?_;refine Qd (zB 0) ?_;refine Qd (Qv rfl rfl (by decide) rfl rfl rfl (by omega)) ?_;refine Qd zE ?_;refine Qd (Q4 (f:=56) rfl rfl (by decide) rfl rfl (fun w hw=>by rw[← HL.out];exact JY _ _ w) (v:=.int .i64 L)) ?_;refine Qd zP ?_;refine Qd (Q4 (f:=57) rfl rfl (by decide) rfl rfl (fun w hw=>Q0w _ w)) ?_;refine Qd zA ?_;refine XS ?_;refine yn<|yr<|yo zM<|yo zM ?_;refine Qa (Qz (size:=1) rfl rfl rfl rfl rfl (by decide)) rfl (by decide) (fun bn _=>?_);refine Qa (QC 2 rfl rfl rfl rfl rfl (fun w hw=>hw.rd_blk 0 rfl rfl) (by simp [Value.oneCell']) (by omega)) rfl (by decide) (fun z _=>?_);refine yo zA<|yl<|yn<|yr<|yo zM<|yo zP<|yo zA<|yl ?_;refine QH (i+1,z.1,z.2) hin (by show n - (i+1)<n - i;omega) (.cons rfl rfl (.cons rfl rfl (.cons rfl rfl (.cons rfl (by go_num) .nil)))) (fun w hw=>?_)
    show Wd [] W [.row z.1 (i+1) z.2 3 1 (iv (XM F old (i+1))),_] w
    rw[← HST.out,H6.out,← ZE];exact hw.tl.tl
   ·rw[if_neg hx0] at h6;have H6:=Lib.hid h6;clear h6;refine yq<|yq<|yr<|yo zM<|yo zF<|yo (zB 1)<|yo zL<|yo zlt<|yl<|yn<|y1<|ys<|yn<|yq<|yb<|yq<|yr<|yo zF<|yo (zB 1)<|yo zM<|yo zi<|yo zE ?_;refine yA fun b7=>?_;refine yW 0 ?_;refine yl<|yn<|yq<|yr<|yo zA<|yl<|yn<|yq<|yq<|yr<|yo zF<|yo (zB 0)<|yl<|yn<|yb<|yq<|yr<|yo zef<|yo zA<|yl<|yn<|y0<|yq<|yq<|yr<|yo zef<|yo zA<|yl<|yn<|y0<|yr<|yo zef<|yo zA<|yl<|yn<|y0<|yq<|yr<|yo zef<|yo zA<|yl<|yn<|y0<|yq<|yq<|yr<|yo zef<|yo zA<|yl<|yn<|y0<|yr<|yo zef<|yo zA<|yl<|yn<|y0<|yq<|yr<|yo zef<|yo zA<|yl<|yn<|y0<|yq<|yr<|yo zet<|yo zA<|yl<|yn<|y1<|yq<|yr<|yo zM<|yo zF<|yo (zB 0) ?_;refine Q1 (Qo rfl rfl (by decide) rfl rfl rfl (by omega)) ?_;refine yo zC<|yo zhf<|yl<|yn<|y0<|ys<|yn<|yr<|yo zM<|yo zM ?_;refine Qa (Qz (size:=1) rfl rfl rfl rfl rfl (by decide)) rfl (by decide) (fun bn _=>?_);refine Qa (QC 2 rfl rfl rfl rfl rfl (fun w hw=>hw.rd_blk 0 rfl rfl) (by simp [Value.oneCell']) (by omega)) rfl (by decide) (fun z _=>?_);refine yo zA<|yl<|yn<|yr<|yo zM<|yo zP<|yo zA<|yl ?_;refine QH (i+1,z.1,z.2) hin (by show n - (i+1)<n - i;omega) (.cons rfl rfl (.cons rfl rfl (.cons rfl rfl (.cons rfl (by go_num) .nil)))) (fun w hw=>?_)
    show Wd [] W [.row z.1 (i+1) z.2 3 1 (iv (XM F old (i+1))),_] w
    rw[← HST.out,H6.out,← ZE];exact hw.tl.tl
  ·have hlen12:parts.length≤12:=hok.p12;have hin2:=hok.parts (.inl rfl);have HIN:=Lib.hid hin2;have h6:=Q5g (F:=F) old (r:=⟨name,7,bs,size,big,mn,mx,stop,count,elem,names,parts⟩) rfl
   simp only at h6
   have H6:=Lib.hid h6;obtain⟨bp,op,rfl,_,hpc⟩:=HPP.out.2 (by show 0<parts.length;have:=hok.seven rfl;simp only at this;omega);have HP:=Lib.hid hpc;clear hkd hok hin2 h6 hpc;refine yq<|yq<|yr<|yo zM<|yo zF<|yo (zB 1)<|yo zL<|yo zlt<|yl<|yn<|y1<|ys<|yn<|yq<|yb<|yq<|yr<|yo zF<|yo (zB 1)<|yo zM<|yo zi<|yo zE ?_;refine yA fun b7=>?_;refine yW 0 ?_;refine yl<|yn<|yq<|yr<|yo zA<|yl<|yn<|yq<|yq<|yr<|yo zF<|yo (zB 0)<|yl<|yn<|yb<|yq<|yr<|yo zef<|yo zA<|yl<|yn<|y0<|yq<|yq<|yr<|yo zef<|yo zA<|yl<|yn<|y0<|yr<|yo zef<|yo zA<|yl<|yn<|y0<|yq<|yr<|yo zef<|yo zA<|yl<|yn<|y0<|yq<|yq<|yr<|yo zef<|yo zA<|yl<|yn<|y0<|yr<|yo zef<|yo zA<|yl<|yn<|y0<|yq<|yr<|yo zef<|yo zA<|yl<|yn<|y0<|yq<|yr<|yo zef<|yo zA<|yl<|yn<|y0<|yq<|yr<|yo zet<|yo zA<|yl<|yn<|y1<|yq<|yr<|yo zA<|yl<|yn<|yq<|yr<|yo zA<|yl<|yn<|yb ?_;refine X0 (ι:=Nat×Int) (fun y=>y.1≤parts.length∧-1≤y.2∧y.2≤1001∧Kv old y.2 (parts.drop y.1)=Kv old 0 parts) (fun y=>parts.length - y.1) (fun y=>(10,.int .i64 (y.1:Int))::(8,.int .i64 y.2)::(7,.pointer (some ⟨b7,0,none⟩))::rdE b2 bo oo n co i A1 c1) (fun y=>.blk b7 (.cells ([.string ⟨name.toArray⟩,.int .i64 7,.slice Ab bs.length cb,.int .i64 size,.bool big,.int .i64 mn,.int .i64 mx,.int .i64 stop,.int .i64 count,.int .i64 elem,.slice An names.length cn,.slice (some ⟨bp,op,none⟩) parts.length cp]:List Value).toArray 52 (0,0))::rdA F old b2 b o n c i A1 c1) (0,0) [0,1,2] (by decide) ⟨Nat.zero_le _,by decide,by decide,rfl⟩ (.cons rfl rfl (.cons rfl rfl (.cons rfl rfl (.cons rfl rfl (.cons rfl rfl (.cons rfl rfl (.cons rfl rfl .nil))))))) rfl ?_
   rintro⟨j,N1⟩ ⟨hj,hN0,hN1,hsq⟩
   replace hj:j≤parts.length:=hj
   replace hN0:-1≤N1:=hN0
   replace hN1:N1≤1001:=hN1
   have HSQ:=Lib.hid hsq;clear hsq
   show sE _ _ _ _ _ ((10,.int .i64 (j:Int))::(8,.int .i64 N1)::(7,.pointer (some ⟨b7,0,none⟩))::rdE b2 bo oo n co i A1 c1) (.blk b7 (.cells ([.string ⟨name.toArray⟩,.int .i64 7,.slice Ab bs.length cb,.int .i64 size,.bool big,.int .i64 mn,.int .i64 mx,.int .i64 stop,.int .i64 count,.int .i64 elem,.slice An names.length cn,.slice (some ⟨bp,op,none⟩) parts.length cp]:List Value).toArray 52 (0,0))::rdA F old b2 b o n c i A1 c1) _
   by_cases hjn:j<parts.length
   ·have hpj:=HP.out j _ (Q5n hjn);have hpr:=HIN.out (parts.getD j 0) (Q6o hjn);obtain⟨p,hp⟩:∃p,parts.getD j 0=p:=⟨_,rfl⟩;rw[hp] at hpj hpr;have hc1:=HCO.out p.toNat (by omega);have hb1:=HB.out p.toNat;obtain⟨X,hX⟩:∃X,old.getD p.toNat 0=X:=⟨_,rfl⟩;rw[hX] at hc1 hb1
    replace hX:lk old p=X:=hX
    have HSQ2:=HSQ.out
    have hdr:parts.drop j=p::parts.drop (j+1):=by rw[← hp];exact Q51 hjn
    simp only at HSQ2
    rw[hdr] at HSQ2;rw[Q4M] at HSQ2;rw[hX] at HSQ2;clear hp hX hdr
    by_cases hx0:X<0
    ·rw[if_pos hx0,if_neg (by decide)] at HSQ2;have H2:=Lib.hid HSQ2;clear HSQ2;refine yq<|yq<|yr<|yo zM<|yo zF<|yo (zB 0)<|yo zL<|yo zlt<|yl<|yn<|y1<|ys<|yn<|yq<|yb<|yq<|yq<|yr<|yo zM<|yo zF<|yo (zB 0)<|yo zM<|yo zi1<|yo zC ?_;refine Q1 (Qo rfl rfl (by decide) rfl rfl rfl (by omega)) ?_;refine yo zC<|yo zlt<|yl<|yn<|y1<|yr<|yo zA<|yl<|yn<|yq<|yr<|yo zM<|yo zhf<|yl<|yn<|y0<|ys<|yn<|yr<|yo zM<|yo zP<|yo zA<|yl ?_;refine QA (j+1,-1) [0,1,2] (by decide) ⟨hjn,by omega,by omega,H2.out⟩ (by show parts.length - (j+1)<parts.length - j;omega) (.cons rfl (by go_num) (.cons rfl rfl (.cons rfl rfl (.cons rfl rfl (.cons rfl rfl (.cons rfl rfl (.cons rfl rfl .nil))))))) rfl
    ·rw[if_neg hx0] at HSQ2
     by_cases hn1:0≤N1
     ·rw[if_pos hn1] at HSQ2;have hcp:0≤VZ (N1+X)∧VZ (N1+X)≤1001:=⟨by rw[Zz];omega,Q1q _⟩;obtain⟨N2,hN2⟩:∃N2,VZ (N1+X)=N2:=⟨_,rfl⟩;rw[hN2] at HSQ2 hcp;have HN2:=Lib.hid hN2;have H2:=Lib.hid HSQ2;clear HSQ2 hN2;refine yq<|yq<|yr<|yo zM<|yo zF<|yo (zB 0)<|yo zL<|yo zlt<|yl<|yn<|y1<|ys<|yn<|yq<|yb<|yq<|yq<|yr<|yo zM<|yo zF<|yo (zB 0)<|yo zM<|yo zi1<|yo zC ?_;refine Q1 (Qo rfl rfl (by decide) rfl rfl rfl (by omega)) ?_;refine yo zC<|yo zlf<|yl<|yn<|y0<|ys<|yn<|yq<|yr<|yo zM<|yo zht<|yl<|yn<|y1<|yr<|yo zM<|yo zM<|yo zF<|yo (zB 0)<|yo zM<|yo zi1<|yo zC ?_;refine Q1 (Qo rfl rfl (by decide) rfl rfl rfl (by omega)) ?_;refine yo zC<|yo zP ?_;refine Q1 (Q4 (f:=57) rfl rfl (by decide) rfl rfl (fun w hw=>by rw[← HN2.out];exact Q0w _ w) (v:=.int .i64 N2)) ?_;refine yo zA<|yl<|yn<|yr<|yo zM<|yo zP<|yo zA<|yl ?_;refine QA (j+1,N2) [0,1,2] (by decide) ⟨hjn,by omega,by omega,H2.out⟩ (by show parts.length - (j+1)<parts.length - j;omega) (.cons rfl (by go_num) (.cons rfl rfl (.cons rfl rfl (.cons rfl rfl (.cons rfl rfl (.cons rfl rfl (.cons rfl rfl .nil))))))) rfl
     ·rw[if_neg hn1] at HSQ2;have H2:=Lib.hid HSQ2;clear HSQ2;refine yq<|yq<|yr<|yo zM<|yo zF<|yo (zB 0)<|yo zL<|yo zlt<|yl<|yn<|y1<|ys<|yn<|yq<|yb<|yq<|yq<|yr<|yo zM<|yo zF<|yo (zB 0)<|yo zM<|yo zi1<|yo zC ?_;refine Q1 (Qo rfl rfl (by decide) rfl rfl rfl (by omega)) ?_;refine yo zC<|yo zlf<|yl<|yn<|y0<|ys<|yn<|yq<|yr<|yo zM<|yo zhf<|yl<|yn<|y0<|ys<|yn<|yr<|yo zM<|yo zP<|yo zA<|yl ?_;refine QA (j+1,N1) [0,1,2] (by decide) ⟨hjn,by omega,by omega,H2.out⟩ (by show parts.length - (j+1)<parts.length - j;omega) (.cons rfl (by go_num) (.cons rfl rfl (.cons rfl rfl (.cons rfl rfl (.cons rfl rfl (.cons rfl rfl (.cons rfl rfl .nil))))))) rfl
   ·obtain rfl:j=parts.length:=by omega
    have hsq:=HSQ.out
    simp only at hsq
    rw[List.drop_of_length_le (Nat.le_refl _)] at hsq;have hsq2:N1=Kv old 0 parts:=hsq;have HS2:=Lib.hid hsq2;clear hsq hsq2;refine yq<|yq<|yr<|yo zM<|yo zF<|yo (zB 0)<|yo zL<|yo zlf<|yl<|yn<|y0<|ye<|yn<|yr<|yo zM<|yo zM ?_;refine Qa (Qz (size:=1) rfl rfl rfl rfl rfl (by decide)) rfl (by decide) (fun bn _=>?_);refine Qa (QC 2 rfl rfl rfl rfl rfl (fun w hw=>hw.rd_blk 0 rfl rfl) (by simp [Value.oneCell']) (by omega)) rfl (by decide) (fun z _=>?_);refine yo zA<|yl<|yn<|yr<|yo zM<|yo zP<|yo zA<|yl ?_;refine QH (i+1,z.1,z.2) hin (by show n - (i+1)<n - i;omega) (.cons rfl rfl (.cons rfl rfl (.cons rfl rfl (.cons rfl (by go_num) .nil)))) (fun w hw=>?_)
    show Wd [] W [.row z.1 (i+1) z.2 3 1 (iv (XM F old (i+1))),_] w
    rw[← HST.out,H6.out,← HS2.out,← ZE];exact hw.tl.tl
  ·have hlen12:parts.length≤12:=hok.p12;have hin2:=hok.parts (.inr rfl);have HIN:=Lib.hid hin2;have h6:=Q5O (F:=F) old (r:=⟨name,8,bs,size,big,mn,mx,stop,count,elem,names,parts⟩) rfl
   simp only at h6
   have H6:=Lib.hid h6;obtain⟨bp,op,rfl,_,hpc⟩:=HPP.out.2 (by show 0<parts.length;have:=hok.eight rfl;simp only at this;omega);have HP:=Lib.hid hpc;clear hkd hok hin2 h6 hpc;refine yq<|yq<|yr<|yo zM<|yo zF<|yo (zB 1)<|yo zL<|yo zlt<|yl<|yn<|y1<|ys<|yn<|yq<|yb<|yq<|yr<|yo zF<|yo (zB 1)<|yo zM<|yo zi<|yo zE ?_;refine yA fun b7=>?_;refine yW 0 ?_;refine yl<|yn<|yq<|yr<|yo zA<|yl<|yn<|yq<|yq<|yr<|yo zF<|yo (zB 0)<|yl<|yn<|yb<|yq<|yr<|yo zef<|yo zA<|yl<|yn<|y0<|yq<|yq<|yr<|yo zef<|yo zA<|yl<|yn<|y0<|yr<|yo zef<|yo zA<|yl<|yn<|y0<|yq<|yr<|yo zef<|yo zA<|yl<|yn<|y0<|yq<|yq<|yr<|yo zef<|yo zA<|yl<|yn<|y0<|yr<|yo zef<|yo zA<|yl<|yn<|y0<|yq<|yr<|yo zef<|yo zA<|yl<|yn<|y0<|yq<|yr<|yo zef<|yo zA<|yl<|yn<|y0<|yq<|yr<|yo zef<|yo zA<|yl<|yn<|y0<|yq<|yr<|yo zet<|yo zA<|yl<|yn<|y1<|yq<|yr<|yo zA<|yl<|yn<|yb ?_;refine X0 (ι:=Nat×Int) (fun y=>y.1≤parts.length∧-1≤y.2∧y.2≤1001∧YJ old y.2 (parts.drop y.1)=YJ old (-1) parts) (fun y=>parts.length - y.1) (fun y=>(11,.int .i64 (y.1:Int))::(8,.int .i64 y.2)::(7,.pointer (some ⟨b7,0,none⟩))::rdE b2 bo oo n co i A1 c1) (fun y=>.blk b7 (.cells ([.string ⟨name.toArray⟩,.int .i64 8,.slice Ab bs.length cb,.int .i64 size,.bool big,.int .i64 mn,.int .i64 mx,.int .i64 stop,.int .i64 count,.int .i64 elem,.slice An names.length cn,.slice (some ⟨bp,op,none⟩) parts.length cp]:List Value).toArray 52 (0,0))::rdA F old b2 b o n c i A1 c1) (0,-1) [0,1,2] (by decide) ⟨Nat.zero_le _,by decide,by decide,rfl⟩ (.cons rfl rfl (.cons rfl rfl (.cons rfl rfl (.cons rfl rfl (.cons rfl rfl (.cons rfl rfl (.cons rfl rfl .nil))))))) rfl ?_
   rintro⟨j,N1⟩ ⟨hj,hN0,hN1,hsq⟩
   replace hj:j≤parts.length:=hj
   replace hN0:-1≤N1:=hN0
   replace hN1:N1≤1001:=hN1
   have HSQ:=Lib.hid hsq;clear hsq
   show sE _ _ _ _ _ ((11,.int .i64 (j:Int))::(8,.int .i64 N1)::(7,.pointer (some ⟨b7,0,none⟩))::rdE b2 bo oo n co i A1 c1) (.blk b7 (.cells ([.string ⟨name.toArray⟩,.int .i64 8,.slice Ab bs.length cb,.int .i64 size,.bool big,.int .i64 mn,.int .i64 mx,.int .i64 stop,.int .i64 count,.int .i64 elem,.slice An names.length cn,.slice (some ⟨bp,op,none⟩) parts.length cp]:List Value).toArray 52 (0,0))::rdA F old b2 b o n c i A1 c1) _
   by_cases hjn:j<parts.length
   ·have hpj:=HP.out j _ (Q5n hjn);have hpr:=HIN.out (parts.getD j 0) (Q6o hjn);obtain⟨p,hp⟩:∃p,parts.getD j 0=p:=⟨_,rfl⟩;rw[hp] at hpj hpr;have hc1:=HCO.out p.toNat (by omega);have hb1:=HB.out p.toNat;obtain⟨X,hX⟩:∃X,old.getD p.toNat 0=X:=⟨_,rfl⟩;rw[hX] at hc1 hb1
    replace hX:lk old p=X:=hX
    have HSQ2:=HSQ.out
    have hdr:parts.drop j=p::parts.drop (j+1):=by rw[← hp];exact Q51 hjn
    simp only at HSQ2
    rw[hdr] at HSQ2;rw[Q4Y] at HSQ2;rw[hX] at HSQ2;clear hp hX hdr
    by_cases hx0:X<0
    ·rw[if_neg (by omega)] at HSQ2;have H2:=Lib.hid HSQ2;clear HSQ2;refine yq<|yq<|yr<|yo zM<|yo zF<|yo (zB 0)<|yo zL<|yo zlt<|yl<|yn<|y1<|ys<|yn<|yq<|yb<|yq<|yr<|yo zM<|yo zF<|yo (zB 0)<|yo zM<|yo zi1<|yo zC ?_;refine Q1 (Qo rfl rfl (by decide) rfl rfl rfl (by omega)) ?_;refine yo zC<|yo zA<|yl<|yn<|yq<|yr<|yo zM<|yo zhf<|yo zM<|yo zS<|yo zS<|yo zS<|yo zS<|yo zS<|yo zS<|yo zS<|yo zN<|yl<|yn<|y0<|ys<|yn<|yr<|yo zM<|yo zP<|yo zA<|yl ?_;refine QA (j+1,N1) [0,1,2] (by decide) ⟨hjn,by omega,by omega,H2.out⟩ (by show parts.length - (j+1)<parts.length - j;omega) (.cons rfl (by go_num) (.cons rfl rfl (.cons rfl rfl (.cons rfl rfl (.cons rfl rfl (.cons rfl rfl (.cons rfl rfl .nil))))))) rfl
    by_cases hn1:N1<0
    ·rw[if_pos (by omega)] at HSQ2;have H2:=Lib.hid HSQ2;clear HSQ2;refine yq<|yq<|yr<|yo zM<|yo zF<|yo (zB 0)<|yo zL<|yo zlt<|yl<|yn<|y1<|ys<|yn<|yq<|yb<|yq<|yr<|yo zM<|yo zF<|yo (zB 0)<|yo zM<|yo zi1<|yo zC ?_;refine Q1 (Qo rfl rfl (by decide) rfl rfl rfl (by omega)) ?_;refine yo zC<|yo zA<|yl<|yn<|yq<|yr<|yo zM<|yo zht<|yo zM<|yo zM<|yo zlt<|yo zM<|yo zS<|yo zS<|yo zS<|yo zY<|yo zY<|yl<|yn<|y1<|yr<|yo zM<|yo zA<|yl<|yn<|yr<|yo zM<|yo zP<|yo zA<|yl ?_;refine QA (j+1,X) [0,1,2] (by decide) ⟨hjn,by omega,by omega,H2.out⟩ (by show parts.length - (j+1)<parts.length - j;omega) (.cons rfl (by go_num) (.cons rfl rfl (.cons rfl rfl (.cons rfl rfl (.cons rfl rfl (.cons rfl rfl (.cons rfl rfl .nil))))))) rfl
    by_cases hlt:X<N1
    ·rw[if_pos (by omega)] at HSQ2;have H2:=Lib.hid HSQ2;clear HSQ2;refine yq<|yq<|yr<|yo zM<|yo zF<|yo (zB 0)<|yo zL<|yo zlt<|yl<|yn<|y1<|ys<|yn<|yq<|yb<|yq<|yr<|yo zM<|yo zF<|yo (zB 0)<|yo zM<|yo zi1<|yo zC ?_;refine Q1 (Qo rfl rfl (by decide) rfl rfl rfl (by omega)) ?_;refine yo zC<|yo zA<|yl<|yn<|yq<|yr<|yo zM<|yo zht<|yo zM<|yo zM<|yo zlf<|yo zM<|yo zM<|yo zM<|yo zlt<|yo zN<|yo zY<|yl<|yn<|y1<|yr<|yo zM<|yo zA<|yl<|yn<|yr<|yo zM<|yo zP<|yo zA<|yl ?_;refine QA (j+1,X) [0,1,2] (by decide) ⟨hjn,by omega,by omega,H2.out⟩ (by show parts.length - (j+1)<parts.length - j;omega) (.cons rfl (by go_num) (.cons rfl rfl (.cons rfl rfl (.cons rfl rfl (.cons rfl rfl (.cons rfl rfl (.cons rfl rfl .nil))))))) rfl
    rw[if_neg (by omega)] at HSQ2;have H2:=Lib.hid HSQ2;clear HSQ2;refine yq<|yq<|yr<|yo zM<|yo zF<|yo (zB 0)<|yo zL<|yo zlt<|yl<|yn<|y1<|ys<|yn<|yq<|yb<|yq<|yr<|yo zM<|yo zF<|yo (zB 0)<|yo zM<|yo zi1<|yo zC ?_;refine Q1 (Qo rfl rfl (by decide) rfl rfl rfl (by omega)) ?_;refine yo zC<|yo zA<|yl<|yn<|yq<|yr<|yo zM<|yo zht<|yo zM<|yo zM<|yo zlf<|yo zM<|yo zM<|yo zM<|yo zlf<|yo zN<|yo zY<|yl<|yn<|y0<|ys<|yn<|yr<|yo zM<|yo zP<|yo zA<|yl ?_;refine QA (j+1,N1) [0,1,2] (by decide) ⟨hjn,by omega,by omega,H2.out⟩ (by show parts.length - (j+1)<parts.length - j;omega) (.cons rfl (by go_num) (.cons rfl rfl (.cons rfl rfl (.cons rfl rfl (.cons rfl rfl (.cons rfl rfl (.cons rfl rfl .nil))))))) rfl
   ·obtain rfl:j=parts.length:=by omega
    have hsq:=HSQ.out
    simp only at hsq
    rw[List.drop_of_length_le (Nat.le_refl _)] at hsq;have hsq2:N1=YJ old (-1) parts:=hsq;have HS2:=Lib.hid hsq2;clear hsq hsq2;refine yq<|yq<|yr<|yo zM<|yo zF<|yo (zB 0)<|yo zL<|yo zlf<|yl<|yn<|y0<|ye<|yn<|yr<|yo zM<|yo zM ?_;refine Qa (Qz (size:=1) rfl rfl rfl rfl rfl (by decide)) rfl (by decide) (fun bn _=>?_);refine Qa (QC 2 rfl rfl rfl rfl rfl (fun w hw=>hw.rd_blk 0 rfl rfl) (by simp [Value.oneCell']) (by omega)) rfl (by decide) (fun z _=>?_);refine yo zA<|yl<|yn<|yr<|yo zM<|yo zP<|yo zA<|yl ?_;refine QH (i+1,z.1,z.2) hin (by show n - (i+1)<n - i;omega) (.cons rfl rfl (.cons rfl rfl (.cons rfl rfl (.cons rfl (by go_num) .nil)))) (fun w hw=>?_)
    show Wd [] W [.row z.1 (i+1) z.2 3 1 (iv (XM F old (i+1))),_] w
    rw[← HST.out,H6.out,← HS2.out,← ZE];exact hw.tl.tl
 ·obtain rfl:i=n:=by omega
  refine yq<|yq<|yr<|yo zM<|yo zF<|yo (zB 1)<|yo zL<|yo zlf<|yl<|yn<|y0<|ye<|yn<|yq<|yr<|yo zM<|yo zA<|yl<|yn<|yt ?_;refine Q9 (by exact .inr rfl) rfl (.tmp rfl) (fun w hw=>?_)
  have h:XM F old i=Jz F old:=by
   unfold XM Jz
   rw[List.take_of_length_le (by rw[HLEN.out];exact Nat.le_refl _)]
  have hw2:Wd [] W [.row A1 i c1 3 1 (iv (XM F old i)),.blk b2 (.cells ([.slice (some ⟨b,o,none⟩) i c]:List Value).toArray 24 (0,0))] w:=hw;rw[h] at hw2;exact QbF (by rw[Q0D];exact HLEN.out) hw2
end
end Go.Proofs.YtgdiadednlajgaaGreatDoor
