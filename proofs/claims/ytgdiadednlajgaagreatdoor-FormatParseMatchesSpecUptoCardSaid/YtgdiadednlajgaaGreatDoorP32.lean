import Derived.Test.YtgdiadednlajgaaGreatDoorP31
namespace Go.Proofs.YtgdiadednlajgaaGreatDoor
set_option linter.unusedVariables false
set_option linter.unusedSimpArgs false
open Go.RowKit
theorem Wd.ofMap{M:List Nat}{W w:World}{O O':List Qg}(f:Nat→Nat)(hf:∀i j,f i=f j→i=j)(hm:∀(i:Nat) (x:Qg),O'[i]? =some x→O[f i]? =some x)(h:Wd M W O w):Wd M W O' w:=
 ⟨h.k,fun i x hx=>h.own (f i) x (hm i x hx),fun i x b hx hb hl=>h.new (f i) x b (hm i x hx) hb hl,fun i j x y b hx hy hb hb' hw=>hf i j (h.nd (f i) (f j) x y b (hm i x hx) (hm j y hy) hb hb' hw)⟩
theorem Wd.rot3{M:List Nat}{W w:World}{x a b c:Qg}{O:List Qg}(h:Wd M W (x::a::b::c::O) w):Wd M W (a::b::c::x::O) w:=
 h.ofMap (fun i=>if i<3 then i+1 else if i=3 then 0 else i) (fun i j h=>by (repeat' split at h)<;>omega) (fun i y hy=>by
  match i,hy with
  |0,hy=>exact hy
  |1,hy=>exact hy
  |2,hy=>exact hy
  |3,hy=>exact hy
  |n+4,hy=>
   rw[if_neg (by omega),if_neg (by omega)]
   exact hy)
section
variable {P:Program}{Q:Exit→Act→World→Prop}{ops:Array Oper}{N:Nat}{M:List Nat}{W:World}{E:Env}{O:List Qg}{x:Qg}
theorem Q23{l:List Oper}(h:lE P ops Q N M W E O l):lE P ops Q N M W E (x::O) l:=fun a w ha hw=>h a w ha hw.tail
end
theorem Vg{w:World}(hg:GV w){s:List UInt8}{c:UInt8}(hs:s.length≤1048576):Calls Tryz.prog 42 #[.string ⟨s.toArray⟩,.string ⟨#[c]⟩] w fun e w'=>e=.returned (.tuple #[.string ⟨(Xp c s).1.toArray⟩,.string ⟨(Xp c s).2.1.toArray⟩,.bool (Xp c s).2.2])∧Below w.heap.size w w':=by
 obtain⟨m,hm⟩:=hg.ml;refine(Tryz.strings_Cut ⟨s.toArray⟩ ⟨#[c]⟩ m w (by rw[Xh];omega) hm).mono ?_
 rintro e w' ⟨he,n,rfl⟩
 have h:Lib.cut (⟨s.toArray⟩:ByteArray).data.toList (⟨#[c]⟩:ByteArray).data.toList=Xp c s:=Qb5 c s;rw[h] at he;exact⟨he,Vq w n⟩
def Ye(w:List UInt8):List UInt8:=if (Xp 58 w).1==[45] then [] else (Xp 58 w).1
def Q3K(named:Bool)(w:List UInt8):List UInt8:=if named then (Xp 58 w).2.1 else w
def Q2x(named:Bool)(w:List UInt8):Bool:=if named then (!(Xp 58 w).2.2||(!((Xp 58 w).1==[45])&&!(Qi (Xp 58 w).1)))||!(Qi (Xp 58 w).2.1) else !(Qi w)
theorem Q1z(c:UInt8):∀s:List UInt8,(Xp c s).1.length≤s.length∧(Xp c s).2.1.length≤s.length
 |[]=>⟨Nat.le_refl _,Nat.le_refl _⟩
 |b::l=>by
  have h:=Q1z c l
  unfold Xp
  split
  ·simp
  ·simp only[List.length_cons]
   omega
def wIn(ws:List (List UInt8))(k j:Nat):List (List UInt8):=(ws.drop k).take (j - k)
theorem Q2Y(ws:List (List UInt8))(k:Nat):wIn ws k k=[]:=by unfold wIn;rw[Nat.sub_self,List.take_zero]
theorem Qcs{ws:List (List UInt8)}{k j:Nat}{x:List UInt8}(hk:k≤j)(h:ws[j]? =some x):wIn ws k (j+1)=wIn ws k j++[x]:=by
 unfold wIn
 rw[show j+1 - k=(j - k)+1 by omega,List.take_add_one,List.getElem?_drop,show k+(j - k)=j by omega,h]
 rfl
theorem QcJ{ws:List (List UInt8)}{k:Nat}:wIn ws k ws.length=ws.drop k:=by
 unfold wIn
 rw[List.take_of_length_le (by rw[List.length_drop];omega)]
theorem Q90(ws:List (List UInt8))(k j:Nat):(wIn ws k j).length≤j - k:=by
 unfold wIn
 rw[List.length_take]
 omega
structure PaY where
 j:Nat
 q:Nat
 b:Bool
 ns:List (List UInt8)
 nm:List (List UInt8)
 A:Option Addr
 c:Nat
 A':Option Addr
 c':Nat
structure PaI(named:Bool)(ws:List (List UInt8))(N k:Nat)(bad:Bool)(ns:List (List UInt8))(y:PaY):Prop where
 j:k≤y.j∧y.j≤N
 q:y.j<N→y.q=y.j
 b:y.b=(bad||(wIn ws k y.j).any (Q2x named))
 ns:y.ns=ns++(wIn ws k y.j).map (Q3K named)
 nm:y.nm=if named then (wIn ws k y.j).map Ye else []
theorem PaI.step{named:Bool}{ws:List (List UInt8)}{N k:Nat}{bad:Bool}{ns:List (List UInt8)}{y:PaY}(h:PaI named ws N k bad ns y)(hj:y.j<N){x:List UInt8}(hx:ws[y.j]? =some x){q:Nat}(hq:y.j+1<N→q=y.j+1){A A':Option Addr}{c c':Nat}{b:Bool}{n1 n2:List (List UInt8)}(hb:b=(y.b||Q2x named x))(h1:n1=y.ns++[Q3K named x])(h2:n2=if named then y.nm++[Ye x] else []):PaI named ws N k bad ns ⟨y.j+1,q,b,n1,n2,A,c,A',c'⟩:=by
 have hs:=Qcs h.j.1 hx;refine⟨⟨by show k≤y.j+1;have:=h.j.1;omega,hj⟩,hq,?_,?_,?_⟩
 ·show b=(bad||(wIn ws k (y.j+1)).any (Q2x named))
  rw[hs,List.any_append,hb,h.b]
  simp [Bool.or_assoc]
 ·show n1=ns++(wIn ws k (y.j+1)).map (Q3K named)
  rw[hs,List.map_append,h1,h.ns]
  simp
 ·show n2=if named then (wIn ws k (y.j+1)).map Ye else []
  rw[hs,List.map_append,h2]
  cases named with
  |true=>
   have:=h.nm
   simp only[if_true] at this ⊢
   rw[this]
   rfl
  |false=>rfl
section
variable {W w:World}{O:List Qg}{br bw q N k c:Nat}{bad:Bool}{ws ns:List (List UInt8)}{A:Option Addr}
set_option maxRecDepth 100000 in
set_option maxHeartbeats 32000000 in
theorem Q6G(named:Bool)(hg:GV W)(hall:∀s∈ws,s.length≤1048576)(hN:ws.length=N)(hq:k<N→q=k)(hk:k≤N)(hn:N≤100000)(hns:ns.length≤10)(hw:Wd [] W (rdO br bw q N k bad ws A c ns++O) w):
  Calls Tryz.prog 83 #[.pointer (some ⟨br,0,none⟩),.bool named] w (QW (fun y:PaY=>.slice y.A' y.nm.length y.c') (fun y=>y.j=N∧PaI named ws N k bad ns y) [] W (fun y=>rdO br bw y.q N y.j y.b ws y.A y.c y.ns++(.row y.A' y.nm.length y.c' 9 1 (sv y.nm)::O))):=by
 have HALL:=Lib.hid hall;have HG:=Lib.hid hg;have HN:=Lib.hid hN;clear hall hg
 go_enter Tryz.func83,Tryz.ntmps83
 refine QE (M:=[]) (W:=W) (N:=56) (E:=[(0,.pointer (some ⟨br,0,none⟩)),(1,.bool named)]) (O:=rdO br bw q N k bad ws A c ns++O) ?_ (Ag.cons (Ag.cons (Ag.nil rfl rfl) rfl) rfl) hw
 repeat(first|refine Q1 zA ?_|refine Q8 ?_|refine Q6 ?_|refine Q2 ?_|refine Qe ?_)
 refine JI 9 1 ?_;refine JW (ι:=PaY) (PaI named ws N k bad ns) (fun y=>N - y.j) (fun y=>[(0,.pointer (some ⟨br,0,none⟩)),(1,.bool named),(5,.slice y.A' y.nm.length y.c')]) (fun y=>rdO br bw y.q N y.j y.b ws y.A y.c y.ns++(.row y.A' y.nm.length y.c' 9 1 (sv y.nm)::O)) ⟨k,q,bad,ns,[],A,c,none,0⟩ ⟨⟨Nat.le_refl _,hk⟩,hq,by show bad=_;rw[Q2Y];simp,by show ns=_;rw[Q2Y];simp,by show []=_;rw[Q2Y];cases named<;>rfl⟩ (.cons rfl rfl (.cons rfl rfl (.cons rfl rfl .nil))) (fun w hw=>hw.rot3) ?_
 rintro⟨j,q',b,ns',nm,A1,c1,A2,c2⟩ hinv
 have hj1:k≤j:=hinv.j.1;have hj2:j≤N:=hinv.j.2;have hq':j<N→q'=j:=hinv.q
 have hl1:ns'.length≤100010:=by
  have h1:ns'=ns++(wIn ws k j).map (Q3K named):=hinv.ns;have h2:=Q90 ws k j;rw[h1,List.length_append,List.length_map]
  omega
 have hl2:nm.length≤100000:=by
  have h1:nm=if named then (wIn ws k j).map Ye else []:=hinv.nm;have h2:=Q90 ws k j;rw[h1]
  split
  ·rw[List.length_map];omega
  ·simp
 have HI:=Lib.hid hinv;clear hinv hq
 show sE _ _ _ _ _ [(0,.pointer (some ⟨br,0,none⟩)),(1,.bool named),(5,.slice A2 nm.length c2)] (rdO br bw q' N j b ws A1 c1 ns'++(.row A2 nm.length c2 9 1 (sv nm)::O)) _
 by_cases hjn:j<N
 ·obtain⟨x,hx⟩:∃x,ws[j]? =some x:=⟨_,List.getElem?_eq_getElem (by omega)⟩
  have hwx:wAt ws j=x:=by unfold wAt;rw[List.getD_eq_getElem?_getD,hx];rfl
  have hxl:=HALL.out x (List.mem_of_getElem? hx);have hdec:decide (N≤j)=false:=decide_eq_false (by omega);have HX:=Lib.hid hx;have HWX:=Lib.hid hwx;have HSTEP:=Lib.hid (fun(q2:Nat) (hq2:j+1<N→q2=j+1) (B1 B2:Option Addr) (d1 d2:Nat) (bb:Bool) (n1 n2:List (List UInt8)) (h0:bb=(b||Q2x named x)) (h1:n1=ns'++[Q3K named x]) (h2:n2=if named then nm++[Ye x] else [])=>HI.out.step (A:=B1) (c:=d1) (A':=B2) (c':=d2) hjn hx hq2 h0 h1 h2);clear hx hwx
  cases named with
  |false=>
   repeat(first|refine Q1 zM ?_|refine Q1 zA ?_|refine Q1 zF ?_|refine Q1 (zB 0) ?_|(refine Qa (Qx _ _ _ (f:=75) rfl rfl rfl (fun w hw=>ZH HN.out hq' hj2 (by omega) hw)) rfl (by decide) (fun y hy=>?_);rw[HWX.out,hdec,Bool.or_false])|refine Q1 (XA rfl rfl (by decide) rfl rfl) ?_|refine Qa (Qx _ _ _ (f:=81) rfl rfl rfl (fun w hw=>Vn (x:=x) hxl (by omega) hw)) rfl (by decide) (fun yz _=>?_)|refine Q8 ?_|refine Q6 ?_|refine Q2 ?_|refine Qh ?_|refine Q5 rfl ?_|refine Q3 rfl ?_|refine Qe ?_|refine Xx ?_|refine Q1 zL ?_|refine Q1 zgt ?_)
   have hy1:y.1=j+1:=by rw[hy.1];omega
   refine Xj ⟨j+1,y.2,b||!(Qi x),ns'++[x],nm,yz.1,yz.2,A2,c2⟩ (HSTEP.out y.2 (fun h=>(hy.2 (by rw[hy1];exact h)).trans hy1) yz.1 A2 yz.2 c2 _ _ _ rfl rfl ?_) (by show N - (j+1)<N - j;omega) (.cons rfl rfl (.cons rfl rfl (.cons rfl rfl .nil))) (fun w hw=>?_)
   ·have h:nm=if false then (wIn ws k j).map Ye else []:=HI.out.nm;exact h
   ·rw[hy1] at hw;exact hw
  |true=>
   have hcl:=Q1z 58 x;have hpb:Q2x true x=((!(Xp 58 x).2.2||(!((Xp 58 x).1==[45])&&!(Qi (Xp 58 x).1)))||!(Qi (Xp 58 x).2.1)):=rfl;have hpr:Q3K true x=(Xp 58 x).2.1:=rfl;have hpn:Ye x=if (Xp 58 x).1==[45] then [] else (Xp 58 x).1:=rfl;obtain⟨n1,hn1⟩:∃z,(Xp 58 x).1=z:=⟨_,rfl⟩;obtain⟨r1,hr1⟩:∃z,(Xp 58 x).2.1=z:=⟨_,rfl⟩;obtain⟨o1,ho1⟩:∃z,(Xp 58 x).2.2=z:=⟨_,rfl⟩;rw[hn1,hr1] at hcl;rw[hn1,hr1,ho1] at hpb;rw[hr1] at hpr;rw[hn1] at hpn;obtain⟨e45,he45⟩:∃z,(n1==([45]:List UInt8))=z:=⟨_,rfl⟩;rw[he45] at hpb hpn
   have hnb:((⟨n1.toArray⟩:ByteArray).data.toList != (⟨#[45]⟩:ByteArray).data.toList)=!e45:=by rw[← he45];rfl
   have heb:((⟨n1.toArray⟩:ByteArray).data.toList==(⟨#[45]⟩:ByteArray).data.toList)=e45:=by rw[← he45]
   have hsz1:=Xh n1
   have hs1:(⟨n1.toArray⟩:ByteArray).size≤9223372036854775807:=by omega
   obtain⟨u,hu⟩:∃u,Qi n1=u:=⟨_,rfl⟩;have HU:=Lib.hid (show Qi (⟨n1.toArray⟩:ByteArray).data.toList=u from hu);rw[hu] at hpb;have HN1:=Lib.hid hn1;have HR1:=Lib.hid hr1;have HO1:=Lib.hid ho1;have HPB:=Lib.hid hpb;have HPR:=Lib.hid hpr;have HPN:=Lib.hid hpn
   have hr1l:r1.length≤1048576:=by omega
   clear hn1 hr1 ho1 hpb hpr hpn he45 hu hcl
   cases b with
   |true=>
    cases e45 with
    |true=>
     skip
     repeat(first|refine Q1 zM ?_|refine Q1 zA ?_|refine Q1 zF ?_|refine Q1 zS ?_|refine Q1 (zB 0) ?_|(refine Qa (Qx _ _ _ (f:=75) rfl rfl rfl (fun w hw=>ZH HN.out hq' hj2 (by omega) hw)) rfl (by decide) (fun y hy=>?_);rw[HWX.out,hdec,Bool.or_false])|refine Q1 (XA rfl rfl (by decide) rfl rfl) ?_|(refine Q1 (Q4 (f:=42) rfl rfl (by decide) rfl rfl (fun w hw=>Vg (HG.out.on hw.k.below) hxl)) ?_;rw[HN1.out,HR1.out,HO1.out])|refine yS 0 ?_|refine Qa (Qz (size:=1) (cs:=[.string ⟨([]:List UInt8).toArray⟩]) rfl rfl rfl rfl rfl (by decide)) rfl (by decide) (fun bn _=>?_)|refine Qa (QC (news:=[.string ⟨([]:List UInt8).toArray⟩]) 4 rfl rfl rfl rfl rfl (fun w hw=>hw.rd_blk 0 rfl rfl) (by simp [Value.oneCell']) (by omega)) rfl (by decide) (fun ym _=>?_)|refine Q8 ?_|refine Q6 ?_|refine Q2 ?_|refine Qh ?_|refine Q5 rfl ?_|refine Qe ?_|refine Q1 zL ?_|refine Q1 (Ja rfl rfl (by decide) rfl rfl rfl (by first|exact decide_eq_true (by omega)|rfl)) ?_|refine Q1 zY ?_|refine Q1 zsa ?_|refine Q1 zX ?_)
     refine Q23 ?_
     repeat(first|refine Qa (Qx _ _ _ (f:=81) rfl rfl rfl (fun w hw=>Vn (x:=r1) hr1l (by omega) hw)) rfl (by decide) (fun yz _=>?_)|refine Q8 ?_|refine Xx ?_)
     have hy1:y.1=j+1:=by rw[hy.1];omega
     refine Xj ⟨j+1,y.2,true||!(Qi r1),ns'++[r1],nm++[[]],yz.1,yz.2,ym.1,ym.2⟩ (HSTEP.out y.2 (fun h=>(hy.2 (by rw[hy1];exact h)).trans hy1) yz.1 ym.1 yz.2 ym.2 _ _ _ ?_ ?_ ?_) (by show N - (j+1)<N - j;omega) (.cons rfl rfl (.cons rfl rfl (.cons rfl (by rw[List.length_append];rfl) .nil))) (fun w hw=>?_)
     ·rw[HPB.out];simp
     ·rw[HPR.out]
     ·rw[HPN.out];rfl
     ·rw[hy1] at hw
      show Wd [] W (rdO br bw y.2 N (j+1) (true||!(Qi r1)) ws yz.1 yz.2 (ns'++[r1])++(.row ym.1 (nm++[[]]).length ym.2 9 1 (sv (nm++[[]]))::O)) w
      have e1:(nm++[([]:List UInt8)]).length=nm.length+1:=by simp
      have e2:sv (nm++[([]:List UInt8)])=sv nm++[.string ⟨([]:List UInt8).toArray⟩]:=K0 _ _;rw[e1,e2];exact hw
    |false=>
     skip
     repeat(first|refine Q1 zM ?_|refine Q1 zA ?_|refine Q1 zF ?_|refine Q1 zS ?_|refine Q1 (zB 0) ?_|(refine Qa (Qx _ _ _ (f:=75) rfl rfl rfl (fun w hw=>ZH HN.out hq' hj2 (by omega) hw)) rfl (by decide) (fun y hy=>?_);rw[HWX.out,hdec,Bool.or_false])|refine Q1 (XA rfl rfl (by decide) rfl rfl) ?_|(refine Q1 (Q4 (f:=42) rfl rfl (by decide) rfl rfl (fun w hw=>Vg (HG.out.on hw.k.below) hxl)) ?_;rw[HN1.out,HR1.out,HO1.out])|refine yS 0 ?_|refine Qa (Qz (size:=1) (cs:=[.string ⟨(n1:List UInt8).toArray⟩]) rfl rfl rfl rfl rfl (by decide)) rfl (by decide) (fun bn _=>?_)|refine Qa (QC (news:=[.string ⟨(n1:List UInt8).toArray⟩]) 4 rfl rfl rfl rfl rfl (fun w hw=>hw.rd_blk 0 rfl rfl) (by simp [Value.oneCell']) (by omega)) rfl (by decide) (fun ym _=>?_)|refine Q8 ?_|refine Q6 ?_|refine Q2 ?_|refine Qh ?_|refine Q5 rfl ?_|refine Q3 rfl ?_|refine Qe ?_|refine Q1 zL ?_|refine Q1 (Ja rfl rfl (by decide) rfl rfl rfl (by first|exact decide_eq_true (by omega)|rfl)) ?_|refine Q1 zY ?_|refine Q1 zsa ?_|refine Q1 zX ?_)
     refine Q23 ?_
     repeat(first|refine Qa (Qx _ _ _ (f:=81) rfl rfl rfl (fun w hw=>Vn (x:=r1) hr1l (by omega) hw)) rfl (by decide) (fun yz _=>?_)|refine Q8 ?_|refine Xx ?_)
     have hy1:y.1=j+1:=by rw[hy.1];omega
     refine Xj ⟨j+1,y.2,true||!(Qi r1),ns'++[r1],nm++[n1],yz.1,yz.2,ym.1,ym.2⟩ (HSTEP.out y.2 (fun h=>(hy.2 (by rw[hy1];exact h)).trans hy1) yz.1 ym.1 yz.2 ym.2 _ _ _ ?_ ?_ ?_) (by show N - (j+1)<N - j;omega) (.cons rfl rfl (.cons rfl rfl (.cons rfl (by rw[List.length_append];rfl) .nil))) (fun w hw=>?_)
     ·rw[HPB.out];simp
     ·rw[HPR.out]
     ·rw[HPN.out];rfl
     ·rw[hy1] at hw
      show Wd [] W (rdO br bw y.2 N (j+1) (true||!(Qi r1)) ws yz.1 yz.2 (ns'++[r1])++(.row ym.1 (nm++[n1]).length ym.2 9 1 (sv (nm++[n1]))::O)) w
      have e1:(nm++[(n1:List UInt8)]).length=nm.length+1:=by simp
      have e2:sv (nm++[(n1:List UInt8)])=sv nm++[.string ⟨(n1:List UInt8).toArray⟩]:=K0 _ _;rw[e1,e2];exact hw
   |false=>
    cases o1 with
    |false=>
     cases e45 with
     |true=>
      skip
      repeat(first|refine Q1 zM ?_|refine Q1 zA ?_|refine Q1 zF ?_|refine Q1 zS ?_|refine Q1 (zB 0) ?_|(refine Qa (Qx _ _ _ (f:=75) rfl rfl rfl (fun w hw=>ZH HN.out hq' hj2 (by omega) hw)) rfl (by decide) (fun y hy=>?_);rw[HWX.out,hdec,Bool.or_false])|refine Q1 (XA rfl rfl (by decide) rfl rfl) ?_|(refine Q1 (Q4 (f:=42) rfl rfl (by decide) rfl rfl (fun w hw=>Vg (HG.out.on hw.k.below) hxl)) ?_;rw[HN1.out,HR1.out,HO1.out])|refine yS 0 ?_|refine Qa (Qz (size:=1) (cs:=[.string ⟨([]:List UInt8).toArray⟩]) rfl rfl rfl rfl rfl (by decide)) rfl (by decide) (fun bn _=>?_)|refine Qa (QC (news:=[.string ⟨([]:List UInt8).toArray⟩]) 4 rfl rfl rfl rfl rfl (fun w hw=>hw.rd_blk 0 rfl rfl) (by simp [Value.oneCell']) (by omega)) rfl (by decide) (fun ym _=>?_)|refine Q8 ?_|refine Q6 ?_|refine Q2 ?_|refine Qh ?_|refine Q5 rfl ?_|refine Qe ?_|refine Q1 zL ?_|refine Q1 (Ja rfl rfl (by decide) rfl rfl rfl (by first|exact decide_eq_true (by omega)|rfl)) ?_|refine Q1 zY ?_|refine Q1 zN ?_|refine Q1 zO ?_|refine Q1 zsa ?_|refine Q1 zX ?_)
      refine Q23 ?_
      repeat(first|refine Qa (Qx _ _ _ (f:=81) rfl rfl rfl (fun w hw=>Vn (x:=r1) hr1l (by omega) hw)) rfl (by decide) (fun yz _=>?_)|refine Q8 ?_|refine Xx ?_)
      have hy1:y.1=j+1:=by rw[hy.1];omega
      refine Xj ⟨j+1,y.2,true||!(Qi r1),ns'++[r1],nm++[[]],yz.1,yz.2,ym.1,ym.2⟩ (HSTEP.out y.2 (fun h=>(hy.2 (by rw[hy1];exact h)).trans hy1) yz.1 ym.1 yz.2 ym.2 _ _ _ ?_ ?_ ?_) (by show N - (j+1)<N - j;omega) (.cons rfl rfl (.cons rfl rfl (.cons rfl (by rw[List.length_append];rfl) .nil))) (fun w hw=>?_)
      ·rw[HPB.out];simp
      ·rw[HPR.out]
      ·rw[HPN.out];rfl
      ·rw[hy1] at hw
       show Wd [] W (rdO br bw y.2 N (j+1) (true||!(Qi r1)) ws yz.1 yz.2 (ns'++[r1])++(.row ym.1 (nm++[[]]).length ym.2 9 1 (sv (nm++[[]]))::O)) w
       have e1:(nm++[([]:List UInt8)]).length=nm.length+1:=by simp
       have e2:sv (nm++[([]:List UInt8)])=sv nm++[.string ⟨([]:List UInt8).toArray⟩]:=K0 _ _;rw[e1,e2];exact hw
     |false=>
      skip
      repeat(first|refine Q1 zM ?_|refine Q1 zA ?_|refine Q1 zF ?_|refine Q1 zS ?_|refine Q1 (zB 0) ?_|(refine Qa (Qx _ _ _ (f:=75) rfl rfl rfl (fun w hw=>ZH HN.out hq' hj2 (by omega) hw)) rfl (by decide) (fun y hy=>?_);rw[HWX.out,hdec,Bool.or_false])|refine Q1 (XA rfl rfl (by decide) rfl rfl) ?_|(refine Q1 (Q4 (f:=42) rfl rfl (by decide) rfl rfl (fun w hw=>Vg (HG.out.on hw.k.below) hxl)) ?_;rw[HN1.out,HR1.out,HO1.out])|refine yS 0 ?_|refine Qa (Qz (size:=1) (cs:=[.string ⟨(n1:List UInt8).toArray⟩]) rfl rfl rfl rfl rfl (by decide)) rfl (by decide) (fun bn _=>?_)|refine Qa (QC (news:=[.string ⟨(n1:List UInt8).toArray⟩]) 4 rfl rfl rfl rfl rfl (fun w hw=>hw.rd_blk 0 rfl rfl) (by simp [Value.oneCell']) (by omega)) rfl (by decide) (fun ym _=>?_)|refine Q8 ?_|refine Q6 ?_|refine Q2 ?_|refine Qh ?_|refine Q5 rfl ?_|refine Q3 rfl ?_|refine Qe ?_|refine Q1 zL ?_|refine Q1 (Ja rfl rfl (by decide) rfl rfl rfl (by first|exact decide_eq_true (by omega)|rfl)) ?_|refine Q1 zY ?_|refine Q1 zN ?_|refine Q1 zO ?_|refine Q1 zsa ?_|refine Q1 zX ?_)
      refine Q23 ?_
      repeat(first|refine Qa (Qx _ _ _ (f:=81) rfl rfl rfl (fun w hw=>Vn (x:=r1) hr1l (by omega) hw)) rfl (by decide) (fun yz _=>?_)|refine Q8 ?_|refine Xx ?_)
      have hy1:y.1=j+1:=by rw[hy.1];omega
      refine Xj ⟨j+1,y.2,true||!(Qi r1),ns'++[r1],nm++[n1],yz.1,yz.2,ym.1,ym.2⟩ (HSTEP.out y.2 (fun h=>(hy.2 (by rw[hy1];exact h)).trans hy1) yz.1 ym.1 yz.2 ym.2 _ _ _ ?_ ?_ ?_) (by show N - (j+1)<N - j;omega) (.cons rfl rfl (.cons rfl rfl (.cons rfl (by rw[List.length_append];rfl) .nil))) (fun w hw=>?_)
      ·rw[HPB.out];simp
      ·rw[HPR.out]
      ·rw[HPN.out];rfl
      ·rw[hy1] at hw
       show Wd [] W (rdO br bw y.2 N (j+1) (true||!(Qi r1)) ws yz.1 yz.2 (ns'++[r1])++(.row ym.1 (nm++[n1]).length ym.2 9 1 (sv (nm++[n1]))::O)) w
       have e1:(nm++[(n1:List UInt8)]).length=nm.length+1:=by simp
       have e2:sv (nm++[(n1:List UInt8)])=sv nm++[.string ⟨(n1:List UInt8).toArray⟩]:=K0 _ _;rw[e1,e2];exact hw
    |true=>
     cases e45 with
     |true=>
      skip
      repeat(first|refine Q1 zM ?_|refine Q1 zA ?_|refine Q1 zF ?_|refine Q1 zS ?_|refine Q1 (zB 0) ?_|(refine Qa (Qx _ _ _ (f:=75) rfl rfl rfl (fun w hw=>ZH HN.out hq' hj2 (by omega) hw)) rfl (by decide) (fun y hy=>?_);rw[HWX.out,hdec,Bool.or_false])|refine Q1 (XA rfl rfl (by decide) rfl rfl) ?_|(refine Q1 (Q4 (f:=42) rfl rfl (by decide) rfl rfl (fun w hw=>Vg (HG.out.on hw.k.below) hxl)) ?_;rw[HN1.out,HR1.out,HO1.out])|refine yS 0 ?_|refine Qa (Qz (size:=1) (cs:=[.string ⟨([]:List UInt8).toArray⟩]) rfl rfl rfl rfl rfl (by decide)) rfl (by decide) (fun bn _=>?_)|refine Qa (QC (news:=[.string ⟨([]:List UInt8).toArray⟩]) 4 rfl rfl rfl rfl rfl (fun w hw=>hw.rd_blk 0 rfl rfl) (by simp [Value.oneCell']) (by omega)) rfl (by decide) (fun ym _=>?_)|refine Q8 ?_|refine Q6 ?_|refine Q2 ?_|refine Qh ?_|refine Q5 rfl ?_|refine Qe ?_|refine Q1 zL ?_|refine Q1 (Ja rfl rfl (by decide) rfl rfl rfl (by first|exact decide_eq_true (by omega)|rfl)) ?_|refine Q1 zN ?_|refine Q1 zO ?_|refine Q1 zsa ?_|refine Q1 (Jy rfl rfl (by decide) rfl rfl rfl (by assumption)) ?_|refine Q1 zX ?_)
      refine Q23 ?_
      repeat(first|refine Qa (Qx _ _ _ (f:=81) rfl rfl rfl (fun w hw=>Vn (x:=r1) hr1l (by omega) hw)) rfl (by decide) (fun yz _=>?_)|refine Q8 ?_|refine Xx ?_)
      have hy1:y.1=j+1:=by rw[hy.1];omega
      refine Xj ⟨j+1,y.2,false||!(Qi r1),ns'++[r1],nm++[[]],yz.1,yz.2,ym.1,ym.2⟩ (HSTEP.out y.2 (fun h=>(hy.2 (by rw[hy1];exact h)).trans hy1) yz.1 ym.1 yz.2 ym.2 _ _ _ ?_ ?_ ?_) (by show N - (j+1)<N - j;omega) (.cons rfl rfl (.cons rfl rfl (.cons rfl (by rw[List.length_append];rfl) .nil))) (fun w hw=>?_)
      ·rw[HPB.out];simp
      ·rw[HPR.out]
      ·rw[HPN.out];rfl
      ·rw[hy1] at hw
       show Wd [] W (rdO br bw y.2 N (j+1) (false||!(Qi r1)) ws yz.1 yz.2 (ns'++[r1])++(.row ym.1 (nm++[[]]).length ym.2 9 1 (sv (nm++[[]]))::O)) w
       have e1:(nm++[([]:List UInt8)]).length=nm.length+1:=by simp
       have e2:sv (nm++[([]:List UInt8)])=sv nm++[.string ⟨([]:List UInt8).toArray⟩]:=K0 _ _;rw[e1,e2];exact hw
     |false=>
      skip
      repeat(first|refine Q1 zM ?_|refine Q1 zA ?_|refine Q1 zF ?_|refine Q1 (zB 0) ?_|(refine Qa (Qx _ _ _ (f:=75) rfl rfl rfl (fun w hw=>ZH HN.out hq' hj2 (by omega) hw)) rfl (by decide) (fun y hy=>?_);rw[HWX.out,hdec,Bool.or_false])|refine Q1 (XA rfl rfl (by decide) rfl rfl) ?_|(refine Q1 (Q4 (f:=42) rfl rfl (by decide) rfl rfl (fun w hw=>Vg (HG.out.on hw.k.below) hxl)) ?_;rw[HN1.out,HR1.out,HO1.out])|(refine Q1 (Q4 (f:=77) rfl rfl (by decide) rfl rfl (fun w hw=>ZJ _ w hs1)) ?_;rw[HU.out])|refine yS 0 ?_|refine Qa (Qz (size:=1) (cs:=[.string ⟨(n1:List UInt8).toArray⟩]) rfl rfl rfl rfl rfl (by decide)) rfl (by decide) (fun bn _=>?_)|refine Qa (QC (news:=[.string ⟨(n1:List UInt8).toArray⟩]) 4 rfl rfl rfl rfl rfl (fun w hw=>hw.rd_blk 0 rfl rfl) (by simp [Value.oneCell']) (by omega)) rfl (by decide) (fun ym _=>?_)|refine Q8 ?_|refine Q6 ?_|refine Q2 ?_|refine Qh ?_|refine Q5 rfl ?_|refine Q3 rfl ?_|refine Qe ?_|refine Q1 zL ?_|refine Q1 (Ja rfl rfl (by decide) rfl rfl rfl (by first|exact decide_eq_true (by omega)|rfl)) ?_|refine Q1 zY ?_|refine Q1 zN ?_|refine Q1 zO ?_|refine Q1 zsa ?_|refine Q1 (Jy rfl rfl (by decide) rfl rfl rfl (by assumption)) ?_|refine Q1 zX ?_)
      refine Q23 ?_
      repeat(first|refine Qa (Qx _ _ _ (f:=81) rfl rfl rfl (fun w hw=>Vn (x:=r1) hr1l (by omega) hw)) rfl (by decide) (fun yz _=>?_)|refine Q8 ?_|refine Xx ?_)
      have hy1:y.1=j+1:=by rw[hy.1];omega
      refine Xj ⟨j+1,y.2,(!u)||!(Qi r1),ns'++[r1],nm++[n1],yz.1,yz.2,ym.1,ym.2⟩ (HSTEP.out y.2 (fun h=>(hy.2 (by rw[hy1];exact h)).trans hy1) yz.1 ym.1 yz.2 ym.2 _ _ _ ?_ ?_ ?_) (by show N - (j+1)<N - j;omega) (.cons rfl rfl (.cons rfl rfl (.cons rfl (by rw[List.length_append];rfl) .nil))) (fun w hw=>?_)
      ·rw[HPB.out];simp
      ·rw[HPR.out]
      ·rw[HPN.out];rfl
      ·rw[hy1] at hw
       show Wd [] W (rdO br bw y.2 N (j+1) ((!u)||!(Qi r1)) ws yz.1 yz.2 (ns'++[r1])++(.row ym.1 (nm++[n1]).length ym.2 9 1 (sv (nm++[n1]))::O)) w
       have e1:(nm++[(n1:List UInt8)]).length=nm.length+1:=by simp
       have e2:sv (nm++[(n1:List UInt8)])=sv nm++[.string ⟨(n1:List UInt8).toArray⟩]:=K0 _ _;rw[e1,e2];exact hw
 ·obtain rfl:j=N:=by omega
  repeat(first|refine Q1 zM ?_|refine Q1 zA ?_|refine Q1 zF ?_|refine Q1 (zB 0) ?_|refine Q1 (XA rfl rfl (by decide) rfl rfl) ?_|refine Q8 ?_|refine Q6 ?_|refine Q2 ?_|refine Q3 rfl ?_|refine QX ?_|refine Ql ?_|refine Q1 zL ?_|refine Q1 zgf ?_)
  exact Q9 (by exact .inr rfl) rfl (.tmp rfl) (fun w hw=>⟨⟨j,q',b,ns',nm,A1,c1,A2,c2⟩,rfl,⟨rfl,HI.out⟩,hw⟩)
end
end Go.Proofs.YtgdiadednlajgaaGreatDoor
